import PyProof.Rows.All
import Wide.All
import OpenK.AllK
import Wide.FinOn
import HandS.ForMost
import HandS.Walk
import HandS.SortKw
import HandS.SortInts
import HandS.TupAny
import HandS.TupMul
import HandS.IsInst
import HandS.Strs
import HandS.TupSets
import HandS.Zip
import KE.GoesEnum
import PyProof.ReprRoads
import HandS.Conv
import HandS.Style
import HandS.Ends
import PyProof.Rows.RegStrFacts
import KE.KDictList
import PySem.Challenge.RW_surelyahead_k40_whole_sources_twice_and
set_option Elab.async false
set_option linter.all false
set_option maxRecDepth 100000
set_option maxHeartbeats 8000000
/-! PF: values as data trees over the hand layer. F: the part of the heap that stands for good; cells: lists and dicts that change. -/
namespace PF
open PySem PySem.Spec L2

/-! ### data -/
inductive D where
  | non | bl (b : Bool) | int (i : Int) | str (s : Str)
  | tup (l : List D) | lst (l : List D) | frl (l : List D)
  | dic (ks : List Key) (l : List D)
  | cel (a : Addr)
abbrev Env := List (Option D)
inductive Cell where
  | l (ds : List D)
  | d (ks : List Key) (ds : List D)
abbrev Mem := Addr → Option Cell
def updM (m : Mem) (a : Addr) (c : Cell) : Mem := fun b => if b = a then some c else m b
def delM (m : Mem) (a : Addr) : Mem := fun b => if b = a then none else m b
theorem updM_same {m : Mem} {a : Addr} {c : Cell} : updM m a c a = some c := by unfold updM; rw [if_pos rfl]
theorem updM_ne {m : Mem} {a b : Addr} {c : Cell} (h : b ≠ a) : updM m a c b = m b := by unfold updM; rw [if_neg h]
theorem updM_updM {m : Mem} {a : Addr} {c d : Cell} : updM (updM m a c) a d = updM m a d := by
  funext b; unfold updM; split <;> rfl
theorem delM_same {m : Mem} {a : Addr} : delM m a a = none := by unfold delM; rw [if_pos rfl]
theorem delM_ne {m : Mem} {a b : Addr} (h : b ≠ a) : delM m a b = m b := by unfold delM; rw [if_neg h]
theorem ne_of_mem {m : Mem} {a b : Addr} {c : Cell} (h : m a = some c) (h' : m b = none) : a ≠ b := by
  intro e; subst e; rw [h] at h'; cases h'
/-- less is known -/
def MLe (m m' : Mem) : Prop := ∀ a c, m a = some c → m' a = some c
theorem MLe.refl (m : Mem) : MLe m m := fun _ _ h => h
theorem MLe.trans {m m1 m2 : Mem} (a : MLe m m1) (b : MLe m1 m2) : MLe m m2 := fun x c h => b x c (a x c h)
theorem MLe.new {m m' : Mem} {a : Addr} {c : Cell} (h : MLe m m') (n : m a = none) : MLe m (updM m' a c) := fun b d e => by
  rw [updM_ne (ne_of_mem e n)]
  exact h b d e
theorem MLe.del {m m' : Mem} {a : Addr} (h : MLe m m') (n : m a = none) : MLe m (delM m' a) := fun b d e => by
  rw [delM_ne (ne_of_mem e n)]
  exact h b d e
theorem MLe.absent {m m' : Mem} {a : Addr} (h : MLe m m') (n : m' a = none) : m a = none := by
  cases e : m a with
  | none => rfl
  | some c => rw [h a c e] at n; cases n
theorem MLe.upd {m m' : Mem} {a : Addr} {c : Cell} (h : MLe m m') : MLe (updM m a c) (updM m' a c) := fun b d e => by
  by_cases q : b = a
  · subst q; rw [updM_same] at e ⊢; exact e
  · rw [updM_ne q] at e ⊢; exact h b d e

mutual
def Rep (F : Hp) : D → V → Prop
  | .non, v => v = .non
  | .bl b, v => v = .bl b
  | .int i, v => v = .int i
  | .str s, v => v = .str s
  | .tup l, v => ∃ a xs, v = .ref a ∧ F a = some (.tup xs) ∧ RepL F l xs
  | .lst l, v => ∃ a xs, v = .ref a ∧ F a = some (.lst xs) ∧ RepL F l xs
  | .frl l, v => ∃ a o xs, v = .ref a ∧ F a = some (.frz o (.lst xs)) ∧ RepL F l xs
  | .dic ks l, v => ∃ a ob kvs, v = .ref a ∧ F a = some (.frz ob (.dK kvs)) ∧ kvs.map (·.1) = ks ∧ RepL F l (kvs.map (·.2))
  | .cel a, v => v = .ref a
def RepL (F : Hp) : List D → List V → Prop
  | [], xs => xs = []
  | d :: l, xs => ∃ x r, xs = x :: r ∧ Rep F d x ∧ RepL F l r
end
def RepC (F : Hp) : Cell → HO → Prop
  | .l ds, o => ∃ xs, o = .lst xs ∧ RepL F ds xs
  | .d ks ds, o => ∃ kvs, o = .dK kvs ∧ kvs.map (·.1) = ks ∧ RepL F ds (kvs.map (·.2))

abbrev Ex (F F' : Hp) : Prop := ∀ a o, F a = some o → F' a = some o
theorem Ex.refl (F : Hp) : Ex F F := fun _ _ h => h
theorem Ex.trans {F F1 F2 : Hp} (a : Ex F F1) (b : Ex F1 F2) : Ex F F2 := fun x o h => b x o (a x o h)
theorem Ex.new {F : Hp} {p : Addr} {o : HO} (h : F p = none) : Ex F (upd F p o) := fun a u e => by
  rw [upd_ne (ne_of_none e h)]
  exact e

mutual
theorem Rep.mono {F F' : Hp} (e : Ex F F') : ∀ {d : D} {v : V}, Rep F d v → Rep F' d v
  | .non, _, h => h
  | .bl _, _, h => h
  | .int _, _, h => h
  | .str _, _, h => h
  | .tup l, v, h => by
    unfold Rep at h ⊢
    obtain ⟨a, xs, h1, h2, h3⟩ := h
    exact ⟨a, xs, h1, e _ _ h2, RepL.mono e h3⟩
  | .lst l, v, h => by
    unfold Rep at h ⊢
    obtain ⟨a, xs, h1, h2, h3⟩ := h
    exact ⟨a, xs, h1, e _ _ h2, RepL.mono e h3⟩
  | .frl l, v, h => by
    unfold Rep at h ⊢
    obtain ⟨a, o, xs, h1, h2, h3⟩ := h
    exact ⟨a, o, xs, h1, e _ _ h2, RepL.mono e h3⟩
  | .dic ks l, v, h => by
    unfold Rep at h ⊢
    obtain ⟨a, ob, kvs, h1, h2, h3, h4⟩ := h
    exact ⟨a, ob, kvs, h1, e _ _ h2, h3, RepL.mono e h4⟩
  | .cel _, _, h => h
theorem RepL.mono {F F' : Hp} (e : Ex F F') : ∀ {l : List D} {xs : List V}, RepL F l xs → RepL F' l xs
  | [], _, h => h
  | d :: l, xs, h => by
    unfold RepL at h ⊢
    obtain ⟨x, r, h1, h2, h3⟩ := h
    exact ⟨x, r, h1, Rep.mono e h2, RepL.mono e h3⟩
end
theorem RepC.mono {F F' : Hp} (e : Ex F F') : ∀ {c : Cell} {o : HO}, RepC F c o → RepC F' c o
  | .l _, _, ⟨xs, h1, h2⟩ => ⟨xs, h1, h2.mono e⟩
  | .d _ _, _, ⟨xs, h1, h2, h3⟩ => ⟨xs, h1, h2, h3.mono e⟩

theorem repL_nil {F : Hp} : RepL F [] [] := by unfold RepL; rfl
theorem repL_cons {F : Hp} {d : D} {l : List D} {x : V} {r : List V} (h : Rep F d x) (t : RepL F l r) : RepL F (d :: l) (x :: r) := by
  unfold RepL; exact ⟨x, r, rfl, h, t⟩
theorem RepL.inv {F : Hp} {d : D} {l : List D} {xs : List V} (h : RepL F (d :: l) xs) : ∃ x r, xs = x :: r ∧ Rep F d x ∧ RepL F l r := by
  unfold RepL at h; exact h
theorem RepL.inv0 {F : Hp} {xs : List V} (h : RepL F [] xs) : xs = [] := by
  unfold RepL at h; exact h
theorem RepL.length {F : Hp} : ∀ {l : List D} {xs : List V}, RepL F l xs → xs.length = l.length
  | [], _, h => by rw [h.inv0]; rfl
  | d :: l, xs, h => by
    obtain ⟨x, r, rfl, _, t⟩ := h.inv
    rw [List.length_cons, List.length_cons, t.length]
theorem RepL.get {F : Hp} : ∀ {l : List D} {xs : List V} {i : Nat} {d : D}, RepL F l xs → l[i]? = some d → ∃ x, xs[i]? = some x ∧ Rep F d x
  | [], _, i, d, _, e => by simp at e
  | d0 :: l, xs, i, d, h, e => by
    obtain ⟨x, r, rfl, h1, t⟩ := h.inv
    cases i with
    | zero =>
      have e' : d0 = d := Option.some.inj e
      subst e'
      exact ⟨x, rfl, h1⟩
    | succ i =>
      obtain ⟨y, q1, q2⟩ := t.get (i := i) (d := d) e
      exact ⟨y, q1, q2⟩
theorem RepL.at {F : Hp} {l : List D} {xs : List V} {i : Nat} {x : V} (h : RepL F l xs) (e : xs[i]? = some x) : ∃ d, l[i]? = some d ∧ Rep F d x := by
  have hi : i < l.length := by rw [← h.length]; exact (List.getElem?_eq_some_iff.mp e).1
  obtain ⟨y, q1, q2⟩ := h.get (List.getElem?_eq_getElem hi)
  rw [e] at q1; cases q1
  exact ⟨_, List.getElem?_eq_getElem hi, q2⟩
theorem RepL.append {F : Hp} : ∀ {l k : List D} {xs ys : List V}, RepL F l xs → RepL F k ys → RepL F (l ++ k) (xs ++ ys)
  | [], _, _, _, h, t => by rw [h.inv0]; exact t
  | d :: l, _, _, _, h, t => by
    obtain ⟨x, r, rfl, h1, h2⟩ := h.inv
    exact repL_cons h1 (h2.append t)
theorem RepL.set {F : Hp} : ∀ {l : List D} {xs : List V} {i : Nat} {d : D} {x : V}, RepL F l xs → Rep F d x → RepL F (l.set i d) (xs.set i x)
  | [], _, _, _, _, h, _ => by rw [h.inv0]; exact repL_nil
  | d0 :: l, xs, i, d, x, h, hd => by
    obtain ⟨y, r, rfl, h1, h2⟩ := h.inv
    cases i with
    | zero => exact repL_cons hd h2
    | succ i => exact repL_cons h1 (h2.set hd)
theorem RepL.drop {F : Hp} : ∀ {l : List D} {xs : List V} (i : Nat), RepL F l xs → RepL F (l.drop i) (xs.drop i)
  | _, _, 0, h => h
  | [], _, i + 1, h => by rw [h.inv0]; exact repL_nil
  | d :: l, xs, i + 1, h => by
    obtain ⟨y, r, rfl, h1, h2⟩ := h.inv
    exact h2.drop i
theorem RepL.take {F : Hp} : ∀ {l : List D} {xs : List V} (i : Nat), RepL F l xs → RepL F (l.take i) (xs.take i)
  | _, _, 0, h => repL_nil
  | [], _, i + 1, h => by rw [h.inv0]; exact repL_nil
  | d :: l, xs, i + 1, h => by
    obtain ⟨y, r, rfl, h1, h2⟩ := h.inv
    exact repL_cons h1 (h2.take i)
theorem repL_ints {F : Hp} : ∀ {ns : List Int} {xs : List V}, RepL F (ns.map D.int) xs → xs = ns.map V.int
  | [], _, h => h.inv0
  | n :: ns, _, h => by
    obtain ⟨y, r, rfl, h1, h2⟩ := h.inv
    unfold Rep at h1
    rw [h1, repL_ints h2]; rfl
theorem repL_bls {F : Hp} : ∀ {ns : List Bool} {xs : List V}, RepL F (ns.map D.bl) xs → xs = ns.map V.bl
  | [], _, h => h.inv0
  | n :: ns, _, h => by
    obtain ⟨y, r, rfl, h1, h2⟩ := h.inv
    unfold Rep at h1
    rw [h1, repL_bls h2]; rfl
theorem repL_of_ints {F : Hp} : ∀ (ns : List Int), RepL F (ns.map D.int) (ns.map V.int)
  | [] => repL_nil
  | n :: ns => repL_cons (by unfold Rep; rfl) (repL_of_ints ns)

/-! ### what is known of a heap -/
/-- all of F stands in H -/
def Sub (F H : Hp) : Prop := ∀ a o, F a = some o → H a = some o
theorem Sub.there {F H : Hp} (h : Sub F H) {a : Addr} {o : HO} (e : F a = some o) : H a ≠ none := by
  rw [h a o e]; intro z; cases z
theorem Sub.fresh {F H : Hp} (h : Sub F H) {a : Addr} (e : H a = none) : F a = none := by
  cases q : F a with
  | none => rfl
  | some o => exact absurd e (h.there q)
theorem Sub.tup {F H : Hp} (h : Sub F H) {a : Addr} {xs : List V} (e : F a = some (HO.tup xs)) : H a = some (HO.tup xs) := h _ _ e
theorem Sub.lst {F H : Hp} (h : Sub F H) {a : Addr} {xs : List V} (e : F a = some (HO.lst xs)) : H a = some (HO.lst xs) := h _ _ e
theorem Sub.frl {F H : Hp} (h : Sub F H) {a : Addr} {ob : Obj} {u : HO} (e : F a = some (HO.frz ob u)) : H a = some (HO.frz ob u) := h _ _ e
structure SI (F H : Hp) (m : Mem) : Prop where
  sub : Sub F H
  cell : ∀ a c, m a = some c → F a = none ∧ ∃ o, H a = some o ∧ RepC F c o
theorem SI.fresh {F H : Hp} {m : Mem} (s : SI F H m) {a : Addr} (e : H a = none) : m a = none := by
  cases q : m a with
  | none => rfl
  | some c =>
    obtain ⟨_, o, z, _⟩ := s.cell a c q
    rw [e] at z; cases z
theorem SI.nocell {F H : Hp} {m : Mem} (s : SI F H m) {a : Addr} {o : HO} (e : F a = some o) : m a = none := by
  cases q : m a with
  | none => rfl
  | some c =>
    obtain ⟨z, _⟩ := s.cell a c q
    rw [e] at z; cases z
theorem SI.weak {F H : Hp} {m m' : Mem} (s : SI F H m) (h : MLe m' m) : SI F H m' := ⟨s.sub, fun a c e => s.cell a c (h a c e)⟩
/-- one step of what is known -/
structure Go (F H : Hp) (m : Mem) (F2 H2 : Hp) (m2 : Mem) : Prop where
  ex : Ex F F2
  si : SI F2 H2 m2
  keep : ∀ a, H a ≠ none → m a = none → H2 a = H a ∧ F2 a = F a ∧ m2 a = none
  live : ∀ a, H2 a = none → H a = none
theorem Go.refl {F H : Hp} {m : Mem} (s : SI F H m) : Go F H m F H m := ⟨Ex.refl F, s, fun _ _ n => ⟨rfl, rfl, n⟩, fun _ h => h⟩
theorem Go.trans {F H F1 H1 F2 H2 : Hp} {m m1 m2 : Mem} (a : Go F H m F1 H1 m1) (b : Go F1 H1 m1 F2 H2 m2) : Go F H m F2 H2 m2 where
  ex := a.ex.trans b.ex
  si := b.si
  keep := fun x hx n => by
    obtain ⟨p1, p2, p3⟩ := a.keep x hx n
    obtain ⟨q1, q2, q3⟩ := b.keep x (by rw [p1]; exact hx) p3
    exact ⟨q1.trans p1, q2.trans p2, q3⟩
  live := fun x h => a.live x (b.live x h)
theorem Go.weak {F H F2 H2 : Hp} {m m2 m3 : Mem} (g : Go F H m F2 H2 m2) (h : MLe m3 m2) : Go F H m F2 H2 m3 :=
  ⟨g.ex, g.si.weak h, fun a q n => let ⟨x, y, z⟩ := g.keep a q n; ⟨x, y, h.absent z⟩, g.live⟩
/-- from fewer cells -/
theorem Go.free {F H F2 H2 : Hp} {m m2 : Mem} (g : Go F H m F2 H2 m2) {p : Addr} (h : H2 p = none) : H p = none := g.live p h
/-- a new thing that stands for good -/
theorem Go.froz {F H : Hp} {m : Mem} (s : SI F H m) {p : Addr} {o : HO} (h : H p = none) : Go F H m (upd F p o) (upd H p o) m where
  ex := Ex.new (s.sub.fresh h)
  si := by
    refine ⟨fun a u e => ?_, fun a c e => ?_⟩
    · by_cases q : a = p
      · subst q; rw [upd_same] at e ⊢; exact e
      · rw [upd_ne q] at e ⊢; exact s.sub a u e
    · have q : a ≠ p := by rintro rfl; rw [s.fresh h] at e; cases e
      obtain ⟨z1, o', z2, z3⟩ := s.cell a c e
      exact ⟨by rw [upd_ne q]; exact z1, o', by rw [upd_ne q]; exact z2, z3.mono (Ex.new (s.sub.fresh h))⟩
  keep := fun a ha n => by
    have q : a ≠ p := by rintro rfl; exact ha h
    exact ⟨upd_ne q, upd_ne q, n⟩
  live := fun a e => by
    by_cases q : a = p
    · subst q; exact h
    · rw [upd_ne q] at e; exact e
/-- a new cell -/
theorem Go.cell {F H : Hp} {m : Mem} (s : SI F H m) {p : Addr} {o : HO} {c : Cell} (h : H p = none) (r : RepC F c o) : Go F H m F (upd H p o) (updM m p c) where
  ex := Ex.refl F
  si := by
    refine ⟨fun a u e => ?_, fun a c' e => ?_⟩
    · have q : a ≠ p := by rintro rfl; rw [s.sub.fresh h] at e; cases e
      rw [upd_ne q]; exact s.sub a u e
    · by_cases q : a = p
      · subst q
        rw [updM_same] at e; cases e
        exact ⟨s.sub.fresh h, o, upd_same, r⟩
      · rw [updM_ne q] at e
        obtain ⟨z1, o', z2, z3⟩ := s.cell a c' e
        exact ⟨z1, o', by rw [upd_ne q]; exact z2, z3⟩
  keep := fun a ha n => by
    have q : a ≠ p := by rintro rfl; exact ha h
    exact ⟨upd_ne q, rfl, by rw [updM_ne q]; exact n⟩
  live := fun a e => by
    by_cases q : a = p
    · subst q; exact h
    · rw [upd_ne q] at e; exact e
/-- a cell changes -/
theorem Go.write {F H : Hp} {m : Mem} (s : SI F H m) {p : Addr} {o : HO} {c c0 : Cell} (h : m p = some c0) (r : RepC F c o) : Go F H m F (upd H p o) (updM m p c) where
  ex := Ex.refl F
  si := by
    obtain ⟨hF, _⟩ := s.cell p c0 h
    refine ⟨fun a u e => ?_, fun a c' e => ?_⟩
    · have q : a ≠ p := by rintro rfl; rw [hF] at e; cases e
      rw [upd_ne q]; exact s.sub a u e
    · by_cases q : a = p
      · subst q
        rw [updM_same] at e; cases e
        exact ⟨hF, o, upd_same, r⟩
      · rw [updM_ne q] at e
        obtain ⟨z1, o', z2, z3⟩ := s.cell a c' e
        exact ⟨z1, o', by rw [upd_ne q]; exact z2, z3⟩
  keep := fun a ha n => by
    have q : a ≠ p := by rintro rfl; rw [h] at n; cases n
    exact ⟨upd_ne q, rfl, by rw [updM_ne q]; exact n⟩
  live := fun a e => by
    by_cases q : a = p
    · subst q; rw [upd_same] at e; cases e
    · rw [upd_ne q] at e; exact e
/-- a cell is taken for what stands for good -/
theorem Go.freeze {F H : Hp} {m : Mem} (s : SI F H m) {p : Addr} {c : Cell} (h : m p = some c) : ∃ o, H p = some o ∧ RepC F c o ∧ Go F H m (upd F p o) H (delM m p) := by
  obtain ⟨hF, o, ho, r⟩ := s.cell p c h
  refine ⟨o, ho, r, Ex.new hF, ⟨fun a u e => ?_, fun a c' e => ?_⟩, fun a ha n => ?_, fun a e => e⟩
  · by_cases q : a = p
    · subst q; rw [upd_same] at e; cases e; exact ho
    · rw [upd_ne q] at e; exact s.sub a u e
  · have q : a ≠ p := by rintro rfl; rw [delM_same] at e; cases e
    rw [delM_ne q] at e
    obtain ⟨z1, o', z2, z3⟩ := s.cell a c' e
    exact ⟨by rw [upd_ne q]; exact z1, o', z2, z3.mono (Ex.new hF)⟩
  · have q : a ≠ p := by rintro rfl; rw [h] at n; cases n
    exact ⟨rfl, upd_ne q, by rw [delM_ne q]; exact n⟩

/-- a dict that changed is locked for good -/
theorem Go.lock {F H : Hp} {m : Mem} (s : SI F H m) {p : Addr} {ks : List Key} {ds : List D} (h : m p = some (.d ks ds)) (ob : Obj) : ∃ kvs, H p = some (.dK kvs) ∧ kvs.map (·.1) = ks ∧ RepL F ds (kvs.map (·.2)) ∧
    Go F H m (upd F p (.frz ob (.dK kvs))) (upd H p (.frz ob (.dK kvs))) (delM m p) := by
  obtain ⟨hF, o, ho, kvs, rfl, e1, e2⟩ := s.cell p _ h
  refine ⟨kvs, ho, e1, e2, Ex.new hF, ⟨fun a u e => ?_, fun a c' e => ?_⟩, fun a ha n => ?_, fun a e => ?_⟩
  · by_cases q : a = p
    · subst q; rw [upd_same] at e ⊢; exact e
    · rw [upd_ne q] at e ⊢; exact s.sub a u e
  · have q : a ≠ p := by rintro rfl; rw [delM_same] at e; cases e
    rw [delM_ne q] at e
    obtain ⟨z1, o', z2, z3⟩ := s.cell a c' e
    exact ⟨by rw [upd_ne q]; exact z1, o', by rw [upd_ne q]; exact z2, z3.mono (Ex.new hF)⟩
  · have q : a ≠ p := by rintro rfl; rw [h] at n; cases n
    exact ⟨upd_ne q, upd_ne q, by rw [delM_ne q]; exact n⟩
  · by_cases q : a = p
    · subst q; rw [upd_same] at e; cases e
    · rw [upd_ne q] at e; exact e

/-! ### slots -/
structure RepE (F : Hp) (ρ : Env) (σ : St) : Prop where
  len : ρ.length = σ.length
  get : ∀ (i : Nat) (d : D), ρ[i]? = some (some d) → ∃ v, σ[i]? = some (some v) ∧ Rep F d v
theorem RepE.mono {F F' : Hp} {ρ : Env} {σ : St} (e : Ex F F') (h : RepE F ρ σ) : RepE F' ρ σ :=
  ⟨h.len, fun i d q => let ⟨v, q1, q2⟩ := h.get i d q; ⟨v, q1, q2.mono e⟩⟩
theorem RepE.set {F : Hp} {ρ : Env} {σ : St} {d : D} {v : V} (h : RepE F ρ σ) (i : Nat) (r : Rep F d v) : RepE F (ρ.set i (some d)) (σ.set i (some v)) := by
  refine ⟨by rw [List.length_set, List.length_set, h.len], fun j e q => ?_⟩
  by_cases hj : i = j
  · subst hj
    by_cases hl : i < ρ.length
    · rw [List.getElem?_set_self hl] at q
      cases q
      exact ⟨v, by rw [List.getElem?_set_self (by rw [← h.len]; exact hl)], r⟩
    · rw [List.getElem?_eq_none (by rw [List.length_set]; omega)] at q; cases q
  · rw [List.getElem?_set_ne hj] at q ⊢
    exact h.get j e q
def wipeD (ρ : Env) : List Nat → Env
  | [] => ρ
  | v :: vs => (wipeD ρ vs).set v none
theorem RepE.wipe {F : Hp} {ρ : Env} {σ : St} (h : RepE F ρ σ) : ∀ vs : List Nat, RepE F (wipeD ρ vs) (L2.wipe σ vs)
  | [] => h
  | v :: vs => by
    have ih := h.wipe vs
    show RepE F ((wipeD ρ vs).set v none) ((L2.wipe σ vs).set v none)
    refine ⟨by rw [List.length_set, List.length_set, ih.len], fun j e q => ?_⟩
    by_cases hj : v = j
    · subst hj
      by_cases hl : v < (wipeD ρ vs).length
      · rw [List.getElem?_set_self hl] at q; cases q
      · rw [List.getElem?_eq_none (by rw [List.length_set]; omega)] at q; cases q
    · rw [List.getElem?_set_ne hj] at q ⊢
      exact ih.get j e q
end PF

namespace PF
open PySem PySem.Spec L2

/-! ### readings over data -/
abbrev DE := Env → Mem → (D → Mem → Prop) → Prop
abbrev DT := Env → Mem → (Bool → Mem → Prop) → Prop
abbrev DA := Env → Mem → (List D → Mem → Prop) → Prop
structure DEnds where
  nx : Env → Mem → Prop
  rt : D → Mem → Prop
  bk : Env → Mem → Prop := fun _ _ => False
  ct : Env → Mem → Prop := fun _ _ => False
abbrev DS := DEnds → Env → Mem → Prop
abbrev DG := D → Env → Mem → (Env → Mem → Prop) → Prop
abbrev DGs := List D → Env → Mem → (Env → Mem → Prop) → Prop
abbrev DR := D → D → Mem → (D → Mem → Prop) → Prop
abbrev DC := List D → Mem → (D → Mem → Prop) → Prop
abbrev DI := Env → Mem → (List D → Mem → Prop) → Prop

def FE (te : TE) (de : DE) : Prop := ∀ {F H : Hp} {m : Mem} {σ : L2.St} {ρ : Env} {Q : D → Mem → Prop} {QV : VK}, SI F H m → RepE F ρ σ → de ρ m Q →
  (∀ v d F2 H2 m2, Go F H m F2 H2 m2 → Rep F2 d v → Q d m2 → QV v H2) → te σ H QV
def FT (tt : TT) (dt : DT) : Prop := ∀ {F H : Hp} {m : Mem} {σ : L2.St} {ρ : Env} {Q : Bool → Mem → Prop} {QV : Bool → Hp → Prop}, SI F H m → RepE F ρ σ → dt ρ m Q →
  (∀ b F2 H2 m2, Go F H m F2 H2 m2 → Q b m2 → QV b H2) → tt σ H QV
def FA (ta : TA) (da : DA) : Prop := ∀ {F H : Hp} {m : Mem} {σ : L2.St} {ρ : Env} {Q : List D → Mem → Prop} {QV : List V → Hp → Prop}, SI F H m → RepE F ρ σ → da ρ m Q →
  (∀ vs ds F2 H2 m2, Go F H m F2 H2 m2 → RepL F2 ds vs → Q ds m2 → QV vs H2) → ta σ H QV
/-- an operation on two values, a call on values -/
def FO (r : R2) (dr : DR) : Prop := ∀ {F H : Hp} {m : Mem} {x y : V} {a b : D} {Q : D → Mem → Prop} {QV : VK}, SI F H m → Rep F a x → Rep F b y → dr a b m Q →
  (∀ v d F2 H2 m2, Go F H m F2 H2 m2 → Rep F2 d v → Q d m2 → QV v H2) → r x y H QV
def FC (r : List V → Hp → VK → Prop) (dc : DC) : Prop := ∀ {F H : Hp} {m : Mem} {xs : List V} {ds : List D} {Q : D → Mem → Prop} {QV : VK}, SI F H m → RepL F ds xs → dc ds m Q →
  (∀ v d F2 H2 m2, Go F H m F2 H2 m2 → Rep F2 d v → Q d m2 → QV v H2) → r xs H QV
/-- what is wanted behind a statement -/
structure EO (F H : Hp) (m : Mem) (E : DEnds) (D' : Ends) : Prop where
  nx : ∀ σ ρ F2 H2 m2, Go F H m F2 H2 m2 → RepE F2 ρ σ → E.nx ρ m2 → D'.nx σ H2
  rt : ∀ v d F2 H2 m2, Go F H m F2 H2 m2 → Rep F2 d v → E.rt d m2 → D'.rt v H2
  bk : ∀ σ ρ F2 H2 m2, Go F H m F2 H2 m2 → RepE F2 ρ σ → E.bk ρ m2 → D'.bk σ H2
  ct : ∀ σ ρ F2 H2 m2, Go F H m F2 H2 m2 → RepE F2 ρ σ → E.ct ρ m2 → D'.ct σ H2
theorem EO.from {F H F1 H1 : Hp} {m m1 : Mem} {E : DEnds} {D' : Ends} (e : EO F H m E D') (g : Go F H m F1 H1 m1) : EO F1 H1 m1 E D' :=
  ⟨fun σ ρ F2 H2 m2 k => e.nx σ ρ F2 H2 m2 (g.trans k), fun v d F2 H2 m2 k => e.rt v d F2 H2 m2 (g.trans k), fun σ ρ F2 H2 m2 k => e.bk σ ρ F2 H2 m2 (g.trans k), fun σ ρ F2 H2 m2 k => e.ct σ ρ F2 H2 m2 (g.trans k)⟩
def FS (ts : TS) (ds : DS) : Prop := ∀ {F H : Hp} {m : Mem} {σ : L2.St} {ρ : Env} {E : DEnds} {D' : Ends}, SI F H m → RepE F ρ σ → ds E ρ m → EO F H m E D' → ts D' σ H
/-- a target; is: the slots it stores to -/
def FG (tg : TG) (dg : DG) (is : List Nat) : Prop := ∀ {F H : Hp} {m : Mem} {σ : L2.St} {ρ : Env} {v : V} {d : D} {Q : Env → Mem → Prop} {QV : L2.St → Hp → Prop}, SI F H m → RepE F ρ σ → Rep F d v → dg d ρ m Q →
  (∀ σ2 ρ2 F2 H2 m2, Go F H m F2 H2 m2 → RepE F2 ρ2 σ2 → σ2.length = σ.length → (∀ i, i ∉ is → σ2[i]? = σ[i]?) → Q ρ2 m2 → QV σ2 H2) → tg v σ H QV
def FGs (tg : TGs) (dg : DGs) (is : List Nat) : Prop := ∀ {F H : Hp} {m : Mem} {σ : L2.St} {ρ : Env} {vs : List V} {ds : List D} {Q : Env → Mem → Prop} {QV : L2.St → Hp → Prop}, SI F H m → RepE F ρ σ → RepL F ds vs → dg ds ρ m Q →
  (∀ σ2 ρ2 F2 H2 m2, Go F H m F2 H2 m2 → RepE F2 ρ2 σ2 → σ2.length = σ.length → (∀ i, i ∉ is → σ2[i]? = σ[i]?) → Q ρ2 m2 → QV σ2 H2) → tg vs σ H QV
/-- an iterator that gives items; G: what it asks of the heap -/
structure IW (J : It) (items : List D) (F : Hp) (G : Hp → Prop) : Prop where
  stay : ∀ {F1 H1 F2 H2 : Hp} {m1 m2 : Mem}, Ex F F1 → SI F1 H1 m1 → Go F1 H1 m1 F2 H2 m2 → G H1 → G H2
  go : ∀ {F1 H1 : Hp} {m1 : Mem} {i : Nat}, Ex F F1 → SI F1 H1 m1 → G H1 → i < items.length → J.go i H1
  stop : ∀ {F1 H1 : Hp} {m1 : Mem}, Ex F F1 → SI F1 H1 m1 → G H1 → J.stop items.length H1
  yld : ∀ {F1 H1 H2 : Hp} {m1 : Mem} {i : Nat} {x : V}, Ex F F1 → SI F1 H1 m1 → G H1 → i < items.length → J.yld i H1 x H2 → ∃ d F2, items[i]? = some d ∧ Go F1 H1 m1 F2 H2 m1 ∧ Rep F2 d x
def FI (wi : TI) (di : DI) : Prop := ∀ {F H : Hp} {m : Mem} {σ : L2.St} {ρ : Env} {R : List D → Mem → Prop} {RV : It → Hp → Prop}, SI F H m → RepE F ρ σ → di ρ m R →
  (∀ J items F2 H2 m2 G, Go F H m F2 H2 m2 → IW J items F2 G → G H2 → R items m2 → RV J H2) → wi σ H RV

/-! ### over the text -/
def DX (X : Cx) (e : Expr) (de : DE) : Prop := ∃ te, PE X e te ∧ FE te de
def DTX (X : Cx) (e : Expr) (dt : DT) : Prop := ∃ tt, PT X e tt ∧ FT tt dt
def DWX (X : Cx) (e : Expr) (dt : DT) : Prop := ∃ tt, PW X e tt ∧ FT tt dt
def DAX (X : Cx) (es : List Expr) (da : DA) : Prop := ∃ ta, PA X es ta ∧ FA ta da
def DKX (X : Cx) (ks : List Keyword) (da : DA) : Prop := ∃ ta, PK X ks ta ∧ FA ta da
def DSX (X : Cx) (st : Stmt) (ds : DS) : Prop := ∃ ts, PS X st ts ∧ FS ts ds
def DBX (X : Cx) (sts : List Stmt) (ds : DS) : Prop := ∃ ts, PSs X sts ts ∧ FS ts ds
def OX (X : Cx) (f : Value → Value → Sem Value) (dr : DR) : Prop := ∃ r, OpR X f r ∧ FO r dr
def IXX (X : Cx) (dr : DR) : Prop := ∃ r, IxR X r ∧ FO r dr
def CBX (X : Cx) (f : Value) (dc : DC) : Prop := ∃ r, CallR X f r ∧ FC r dc
/-- what holds of a def's body and of the blocks in it -/
structure CF (X : Cx) (k : Nat) : Prop where
  calm : X.calm = true
  nd : X.N.Nodup
  gd : X.A.guards = some []
  room : Room k X.A
theorem CF.blk {X : Cx} {k : Nat} (c : CF X k) (s : Shared) (H : Hp) (sc : Scope) (env : PySem.Env) (fp : List Addr) : CF (X.blk s H sc env fp) k := ⟨c.calm, c.nd, c.gd, c.room⟩
theorem CF.hu {X : Cx} {k : Nat} (c : CF X k) : X.A.units + 1 < cLine := hu_of c.room

/-! ### names, constants -/
def dVar (i : Nat) : DE := fun ρ m Q => match ρ[i]? with
  | some (some d) => Q d m
  | _ => False
def dC (d : D) : DE := fun _ m Q => Q d m
theorem fe_var (i : Nat) : FE (tVar i) (dVar i) := fun {F H m σ ρ Q QV} s e h k => by
  unfold dVar at h
  split at h
  · next d q =>
    obtain ⟨v, h1, h2⟩ := e.get i d q
    exact ⟨v, h1, k v d F H m (Go.refl s) h2 h⟩
  · exact h.elim
theorem fe_c {v : V} {d : D} (r : ∀ F, Rep F d v) : FE (tC v) (dC d) := fun {F H m σ ρ Q QV} s e h k => k v d F H m (Go.refl s) (r F) h
section
variable {X : Cx} {pos : Pos}
theorem dx_var (i : Nat) {x : Str} (hN : X.N[i]? = some x := by rfl) (hv : Vis X.env.scope x := by first | exact Or.inl rfl | exact Or.inr (Or.inl rfl) | exact Or.inr (Or.inr rfl)) (hd : (x == ("__debug__" : Str)) = false := by decide)
    (hcd : (x == ("__classdict__" : Str)) = false := by decide) : DX X (.Name x pos) (dVar i) := ⟨_, pe_var hN hv hd hcd, fe_var i⟩
theorem rep_int {F : Hp} {i : Int} : Rep F (.int i) (.int i) := by unfold Rep; rfl
theorem rep_bl {F : Hp} {i : Bool} : Rep F (.bl i) (.bl i) := by unfold Rep; rfl
theorem rep_non {F : Hp} : Rep F .non .non := by unfold Rep; rfl
theorem rep_str {F : Hp} {i : Str} : Rep F (.str i) (.str i) := by unfold Rep; rfl
theorem rep_cel {F : Hp} {i : Addr} : Rep F (.cel i) (.ref i) := by unfold Rep; rfl
theorem Rep.int {F : Hp} {i : Int} {v : V} (h : Rep F (.int i) v) : v = .int i := by unfold Rep at h; exact h
theorem Rep.bl {F : Hp} {i : Bool} {v : V} (h : Rep F (.bl i) v) : v = .bl i := by unfold Rep at h; exact h
theorem Rep.non {F : Hp} {v : V} (h : Rep F .non v) : v = .non := by unfold Rep at h; exact h
theorem Rep.str {F : Hp} {i : Str} {v : V} (h : Rep F (.str i) v) : v = .str i := by unfold Rep at h; exact h
theorem Rep.cel {F : Hp} {i : Addr} {v : V} (h : Rep F (.cel i) v) : v = .ref i := by unfold Rep at h; exact h
theorem Rep.tup {F : Hp} {l : List D} {v : V} (h : Rep F (.tup l) v) : ∃ a xs, v = .ref a ∧ F a = some (.tup xs) ∧ RepL F l xs := by unfold Rep at h; exact h
theorem Rep.lst {F : Hp} {l : List D} {v : V} (h : Rep F (.lst l) v) : ∃ a xs, v = .ref a ∧ F a = some (.lst xs) ∧ RepL F l xs := by unfold Rep at h; exact h
theorem Rep.frl {F : Hp} {l : List D} {v : V} (h : Rep F (.frl l) v) : ∃ a o xs, v = .ref a ∧ F a = some (.frz o (.lst xs)) ∧ RepL F l xs := by unfold Rep at h; exact h
theorem Rep.dic {F : Hp} {ks : List Key} {l : List D} {v : V} (h : Rep F (.dic ks l) v) : ∃ a ob kvs, v = .ref a ∧ F a = some (.frz ob (.dK kvs)) ∧ kvs.map (·.1) = ks ∧ RepL F l (kvs.map (·.2)) := by unfold Rep at h; exact h
theorem rep_tup {F : Hp} {a : Addr} {xs : List V} {l : List D} (h : F a = some (.tup xs)) (r : RepL F l xs) : Rep F (.tup l) (.ref a) := by unfold Rep; exact ⟨a, xs, rfl, h, r⟩
theorem rep_lst {F : Hp} {a : Addr} {xs : List V} {l : List D} (h : F a = some (.lst xs)) (r : RepL F l xs) : Rep F (.lst l) (.ref a) := by unfold Rep; exact ⟨a, xs, rfl, h, r⟩
theorem dx_int {i : Int} {j : Nat} : DX X (.Constant (.int i) j pos) (dC (.int i)) := ⟨_, pe_int, fe_c fun _ => rep_int⟩
theorem dx_bl {i : Bool} {j : Nat} : DX X (.Constant (.bool i) j pos) (dC (.bl i)) := ⟨_, pe_bl, fe_c fun _ => rep_bl⟩
theorem dx_non {j : Nat} : DX X (.Constant .none j pos) (dC .non) := ⟨_, pe_non, fe_c fun _ => rep_non⟩
theorem dx_str {i : Str} {j : Nat} : DX X (.Constant (.str i) j pos) (dC (.str i)) := ⟨_, pe_str, fe_c fun _ => rep_str⟩
theorem dx_globI {x : Str} {i : Int} {t : Tok} (hm : X.mg x = some (.int i t)) (hg : Gl X x := by rfl) (hd : (x == ("__debug__" : Str)) = false := by decide) : DX X (.Name x pos) (dC (.int i)) :=
  ⟨_, pe_glob (v := V.int i) hg hm ⟨t, rfl⟩ hd, fe_c fun _ => rep_int⟩
theorem dx_globS {x : Str} {i : Str} {t : Tok} (hm : X.mg x = some (.str i t)) (hg : Gl X x := by rfl) (hd : (x == ("__debug__" : Str)) = false := by decide) : DX X (.Name x pos) (dC (.str i)) :=
  ⟨_, pe_glob (v := V.str i) hg hm ⟨t, rfl⟩ hd, fe_c fun _ => rep_str⟩

/-! ### operations -/
def dOp (dr : DR) (da db : DE) : DE := fun ρ m Q => da ρ m fun x m1 => db ρ m1 fun y m2 => dr x y m2 Q
theorem fe_op {r : R2} {dr : DR} {ta tb : TE} {da db : DE} (ho : FO r dr) (ha : FE ta da) (hb : FE tb db) : FE (tOp r ta tb) (dOp dr da db) := fun {F H m σ ρ Q QV} s e h k => by
  refine ha s e h fun x dx F1 H1 m1 g1 r1 h1 => ?_
  refine hb g1.si (e.mono g1.ex) h1 fun y dy F2 H2 m2 g2 r2 h2 => ?_
  exact ho g2.si (r1.mono g2.ex) r2 h2 fun v d F3 H3 m3 g3 r3 h3 => k v d F3 H3 m3 ((g1.trans g2).trans g3) r3 h3
variable {a b c e : Expr} {da db dc de : DE} {dr dr' : DR} {dt du : DT}
theorem dx_op {op : Operator} (ho : OX X (binaryOp op) dr) (ha : DX X a da) (hb : DX X b db) : DX X (.BinOp a op b pos) (dOp dr da db) :=
  let ⟨_, h1, h2⟩ := ho; let ⟨_, h3, h4⟩ := ha; let ⟨_, h5, h6⟩ := hb
  ⟨_, pe_op h1 h3 h5, fe_op h2 h4 h6⟩
theorem dx_cmp {op : CmpOp} (ho : OX X (compareOp op) dr) (ha : DX X a da) (hb : DX X b db) (hm : behindInMarks op b = false := by first | exact nomark _ | rfl) : DX X (.Compare a [op] [b] pos) (dOp dr da db) :=
  let ⟨_, h1, h2⟩ := ho; let ⟨_, h3, h4⟩ := ha; let ⟨_, h5, h6⟩ := hb
  ⟨_, pe_cmpR h1 h3 h5 hm, fe_op h2 h4 h6⟩
/-- a value that is True or False, as a test -/
def dTest (de : DE) : DT := fun ρ m Q => de ρ m fun d m1 => match d with
  | .bl b => Q b m1
  | _ => False
theorem ft_test {te : TE} {de : DE} (h : FE te de) : FT (tTest te) (dTest de) := fun {F H m σ ρ Q QV} s e hd k => by
  refine h s e hd fun v d F1 H1 m1 g1 r1 h1 => ?_
  split at h1
  · exact ⟨_, r1.bl, k _ F1 H1 m1 g1 h1⟩
  · exact h1.elim
theorem ft_B {te : TE} {de : DE} (h : FE te de) : FT (tB te) (dTest de) := fun {F H m σ ρ Q QV} s e hd k => by
  refine h s e hd fun v d F1 H1 m1 g1 r1 h1 => ?_
  split at h1
  · exact ⟨_, r1.bl, k _ F1 H1 m1 g1 h1⟩
  · exact h1.elim
theorem dt_cmp {op : CmpOp} (ho : OX X (compareOp op) dr) (ha : DX X a da) (hb : DX X b db) (hm : behindInMarks op b = false := by first | exact nomark _ | rfl) : DTX X (.Compare a [op] [b] pos) (dTest (dOp dr da db)) :=
  let ⟨_, h1, h2⟩ := ho; let ⟨_, h3, h4⟩ := ha; let ⟨_, h5, h6⟩ := hb
  ⟨_, pt_cmpR h1 h3 h5 hm, ft_test (fe_op h2 h4 h6)⟩
theorem dt_val (h : DX X e de) (he : ∀ whole, isTrue e X.env whole = (do let v ← whole; standAt e.pos; holding [v] (truthy v)) := by intro _; rfl) : DTX X e (dTest de) :=
  let ⟨_, h1, h2⟩ := h
  ⟨_, pt_val h1 he, ft_B h2⟩
/-- two comparisons in one -/
def dChain (dr dr' : DR) (da db dc : DE) : DE := fun ρ m Q => da ρ m fun x m1 => db ρ m1 fun y m2 => dr x y m2 fun z m3 => match z with
  | .bl true => dc ρ m3 fun u m4 => dr' y u m4 Q
  | .bl false => Q (.bl false) m3
  | _ => False
theorem fe_chain {r r' : R2} {ta tb tc : TE} (ho : FO r dr) (ho' : FO r' dr') (ha : FE ta da) (hb : FE tb db) (hc : FE tc dc) : FE (tChain r r' ta tb tc) (dChain dr dr' da db dc) := fun {F H m σ ρ Q QV} s e h k => by
  refine ha s e h fun x dx F1 H1 m1 g1 r1 h1 => ?_
  refine hb g1.si (e.mono g1.ex) h1 fun y dy F2 H2 m2 g2 r2 h2 => ?_
  refine ho g2.si (r1.mono g2.ex) r2 h2 fun z dz F3 H3 m3 g3 r3 h3 => ?_
  have g := (g1.trans g2).trans g3
  split at h3
  · refine ⟨true, r3.bl, ?_⟩
    rw [if_pos rfl]
    refine hc g3.si (e.mono g.ex) h3 fun u du F4 H4 m4 g4 r4 h4 => ?_
    exact ho' g4.si (r2.mono (g3.trans g4).ex) r4 h4 fun v d F5 H5 m5 g5 r5 h5 => k v d F5 H5 m5 ((g.trans g4).trans g5) r5 h5
  · refine ⟨false, r3.bl, ?_⟩
    rw [if_neg Bool.false_ne_true]
    exact k _ _ F3 H3 m3 g rep_bl h3
  · exact h3.elim
theorem dx_chain {op op' : CmpOp} (ho : OX X (compareOp op) dr) (ho' : OX X (compareOp op') dr') (ha : DX X a da) (hb : DX X b db) (hc : DX X c dc) (hm : lastMarks [op, op'] [b, c] = false := by with_unfolding_all rfl) :
    DX X (.Compare a [op, op'] [b, c] pos) (dChain dr dr' da db dc) :=
  let ⟨_, h1, h2⟩ := ho; let ⟨_, h1', h2'⟩ := ho'; let ⟨_, h3, h4⟩ := ha; let ⟨_, h5, h6⟩ := hb; let ⟨_, h7, h8⟩ := hc
  ⟨_, pe_chain h1 h1' h3 h5 h7 hm, fe_chain h2 h2' h4 h6 h8⟩
theorem dt_chain {op op' : CmpOp} (ho : OX X (compareOp op) dr) (ho' : OX X (compareOp op') dr') (ha : DX X a da) (hb : DX X b db) (hc : DX X c dc) (hm : lastMarks [op, op'] [b, c] = false := by with_unfolding_all rfl) :
    DTX X (.Compare a [op, op'] [b, c] pos) (dTest (dChain dr dr' da db dc)) :=
  let ⟨_, h1, h2⟩ := ho; let ⟨_, h1', h2'⟩ := ho'; let ⟨_, h3, h4⟩ := ha; let ⟨_, h5, h6⟩ := hb; let ⟨_, h7, h8⟩ := hc
  ⟨_, pt_chain h1 h1' h3 h5 h7 hm, ft_test (fe_chain h2 h2' h4 h6 h8)⟩

/-! ### and, or, not, a if t else b -/
def dAnd (t u : DT) : DT := fun ρ m Q => t ρ m fun b m1 => match b with
  | true => u ρ m1 Q
  | false => Q false m1
def dOr (t u : DT) : DT := fun ρ m Q => t ρ m fun b m1 => match b with
  | true => Q true m1
  | false => u ρ m1 Q
def dNot (t : DT) : DT := fun ρ m Q => t ρ m fun b m1 => Q (!b) m1
theorem ft_and {t u : TT} (h1 : FT t dt) (h2 : FT u du) : FT (tAnd t u) (dAnd dt du) := fun {F H m σ ρ Q QV} s e h k => by
  refine h1 s e h fun b F1 H1 m1 g1 q => ?_
  cases b with
  | true =>
    rw [if_pos rfl]
    exact h2 g1.si (e.mono g1.ex) q fun b F2 H2 m2 g2 q2 => k b F2 H2 m2 (g1.trans g2) q2
  | false =>
    rw [if_neg Bool.false_ne_true]
    exact k _ F1 H1 m1 g1 q
theorem ft_or {t u : TT} (h1 : FT t dt) (h2 : FT u du) : FT (tOr t u) (dOr dt du) := fun {F H m σ ρ Q QV} s e h k => by
  refine h1 s e h fun b F1 H1 m1 g1 q => ?_
  cases b with
  | true =>
    rw [if_pos rfl]
    exact k _ F1 H1 m1 g1 q
  | false =>
    rw [if_neg Bool.false_ne_true]
    exact h2 g1.si (e.mono g1.ex) q fun b F2 H2 m2 g2 q2 => k b F2 H2 m2 (g1.trans g2) q2
theorem ft_not {t : TT} (h1 : FT t dt) : FT (tNot t) (dNot dt) := fun {F H m σ ρ Q QV} s e h k => h1 s e h fun b F1 H1 m1 g1 q => k _ F1 H1 m1 g1 q
theorem dt_not (h : DTX X a dt) : DTX X (.UnaryOp .Not a pos) (dNot dt) := let ⟨_, h1, h2⟩ := h; ⟨_, pt_not h1, ft_not h2⟩
variable {rest : List Expr}
theorem dw_and1 (h : DTX X a dt) : DWX X (.BoolOp .And [a] pos) dt := let ⟨_, h1, h2⟩ := h; ⟨_, pw_and1 h1, h2⟩
theorem dw_or1 (h : DTX X a dt) : DWX X (.BoolOp .Or [a] pos) dt := let ⟨_, h1, h2⟩ := h; ⟨_, pw_or1 h1, h2⟩
theorem dw_and (h : DTX X a dt) (hr : DWX X (.BoolOp .And (b :: rest) pos) du) : DWX X (.BoolOp .And (a :: b :: rest) pos) (dAnd dt du) :=
  let ⟨_, h1, h2⟩ := h; let ⟨_, h3, h4⟩ := hr; ⟨_, pw_and h1 h3, ft_and h2 h4⟩
theorem dw_or (h : DTX X a dt) (hr : DWX X (.BoolOp .Or (b :: rest) pos) du) : DWX X (.BoolOp .Or (a :: b :: rest) pos) (dOr dt du) :=
  let ⟨_, h1, h2⟩ := h; let ⟨_, h3, h4⟩ := hr; ⟨_, pw_or h1 h3, ft_or h2 h4⟩
theorem dt_w (h : DWX X a dt) : DTX X a dt := let ⟨_, h1, h2⟩ := h; ⟨_, h1.pt, h2⟩
/-- as values, all of them True or False but the last -/
def dAndV (da db : DE) : DE := fun ρ m Q => da ρ m fun d m1 => match d with
  | .bl true => db ρ m1 Q
  | .bl false => Q (.bl false) m1
  | _ => False
def dOrV (da db : DE) : DE := fun ρ m Q => da ρ m fun d m1 => match d with
  | .bl true => Q (.bl true) m1
  | .bl false => db ρ m1 Q
  | _ => False
def dNotV (da : DE) : DE := fun ρ m Q => da ρ m fun d m1 => match d with
  | .bl b => Q (.bl (!b)) m1
  | _ => False
theorem fe_andV {ta tb : TE} (h1 : FE ta da) (h2 : FE tb db) : FE (tAndV ta tb) (dAndV da db) := fun {F H m σ ρ Q QV} s e h k => by
  refine h1 s e h fun x dx F1 H1 m1 g1 r1 q => ?_
  split at q
  · refine ⟨true, r1.bl, ?_⟩
    rw [if_pos rfl]
    exact h2 g1.si (e.mono g1.ex) q fun v d F2 H2 m2 g2 r2 q2 => k v d F2 H2 m2 (g1.trans g2) r2 q2
  · refine ⟨false, r1.bl, ?_⟩
    rw [if_neg Bool.false_ne_true]
    exact k _ _ F1 H1 m1 g1 rep_bl q
  · exact q.elim
theorem fe_orV {ta tb : TE} (h1 : FE ta da) (h2 : FE tb db) : FE (tOrV ta tb) (dOrV da db) := fun {F H m σ ρ Q QV} s e h k => by
  refine h1 s e h fun x dx F1 H1 m1 g1 r1 q => ?_
  split at q
  · refine ⟨true, r1.bl, ?_⟩
    rw [if_pos rfl]
    exact k _ _ F1 H1 m1 g1 rep_bl q
  · refine ⟨false, r1.bl, ?_⟩
    rw [if_neg Bool.false_ne_true]
    exact h2 g1.si (e.mono g1.ex) q fun v d F2 H2 m2 g2 r2 q2 => k v d F2 H2 m2 (g1.trans g2) r2 q2
  · exact q.elim
theorem fe_notV {ta : TE} (h1 : FE ta da) : FE (tNotV ta) (dNotV da) := fun {F H m σ ρ Q QV} s e h k => by
  refine h1 s e h fun x dx F1 H1 m1 g1 r1 q => ?_
  split at q
  · exact ⟨_, r1.bl, k _ _ F1 H1 m1 g1 rep_bl q⟩
  · exact q.elim
theorem dx_one {op : BoolOp} (h : DX X a da) : DX X (.BoolOp op [a] pos) da := let ⟨_, h1, h2⟩ := h; ⟨_, pe_one h1, h2⟩
theorem dx_and (h : DX X a da) (hr : DX X (.BoolOp .And (b :: rest) pos) db) : DX X (.BoolOp .And (a :: b :: rest) pos) (dAndV da db) :=
  let ⟨_, h1, h2⟩ := h; let ⟨_, h3, h4⟩ := hr; ⟨_, pe_and h1 h3, fe_andV h2 h4⟩
theorem dx_or (h : DX X a da) (hr : DX X (.BoolOp .Or (b :: rest) pos) db) : DX X (.BoolOp .Or (a :: b :: rest) pos) (dOrV da db) :=
  let ⟨_, h1, h2⟩ := h; let ⟨_, h3, h4⟩ := hr; ⟨_, pe_or h1 h3, fe_orV h2 h4⟩
theorem dx_not (h : DX X a da) : DX X (.UnaryOp .Not a pos) (dNotV da) := let ⟨_, h1, h2⟩ := h; ⟨_, pe_not h1, fe_notV h2⟩
def dIf (t : DT) (da db : DE) : DE := fun ρ m Q => t ρ m fun b m1 => match b with
  | true => da ρ m1 Q
  | false => db ρ m1 Q
theorem fe_if {t : TT} {ta tb : TE} (ht : FT t dt) (h1 : FE ta da) (h2 : FE tb db) : FE (tIf t ta tb) (dIf dt da db) := fun {F H m σ ρ Q QV} s e h k => by
  refine ht s e h fun b F1 H1 m1 g1 q => ?_
  cases b with
  | true =>
    rw [if_pos rfl]
    exact h1 g1.si (e.mono g1.ex) q fun v d F2 H2 m2 g2 r2 q2 => k v d F2 H2 m2 (g1.trans g2) r2 q2
  | false =>
    rw [if_neg Bool.false_ne_true]
    exact h2 g1.si (e.mono g1.ex) q fun v d F2 H2 m2 g2 r2 q2 => k v d F2 H2 m2 (g1.trans g2) r2 q2
theorem dx_if (hc : DTX X c dt) (ha : DX X a da) (hb : DX X b db) : DX X (.IfExp c a b pos) (dIf dt da db) :=
  let ⟨_, h1, h2⟩ := hc; let ⟨_, h3, h4⟩ := ha; let ⟨_, h5, h6⟩ := hb; ⟨_, pe_ifExp h1 h3 h5, fe_if h2 h4 h6⟩

/-! ### argument lists, displays -/
def dNil : DA := fun _ m Q => Q [] m
def dCons (da : DE) (dr : DA) : DA := fun ρ m Q => da ρ m fun x m1 => dr ρ m1 fun xs m2 => Q (x :: xs) m2
theorem fa_nil : FA tNil dNil := fun {F H m σ ρ Q QV} s e h k => k _ _ F H m (Go.refl s) repL_nil h
theorem fa_cons {te : TE} {tr : TA} {dr : DA} (h1 : FE te de) (h2 : FA tr dr) : FA (tCons te tr) (dCons de dr) := fun {F H m σ ρ Q QV} s e h k => by
  refine h1 s e h fun x dx F1 H1 m1 g1 r1 q => ?_
  exact h2 g1.si (e.mono g1.ex) q fun vs ds F2 H2 m2 g2 r2 q2 => k _ _ F2 H2 m2 (g1.trans g2) (repL_cons (r1.mono g2.ex) r2) q2
variable {es : List Expr} {dl : DA}
theorem da_nil : DAX X [] dNil := ⟨_, pa_nil, fa_nil⟩
theorem da_cons (ha : DX X e de) (hr : DAX X es dl) (hs : starEach (e :: es) X.env = (false, eval e X.env) :: starEach es X.env := by rfl) : DAX X (e :: es) (dCons de dl) :=
  let ⟨_, h1, h2⟩ := ha; let ⟨_, h3, h4⟩ := hr; ⟨_, pa_cons h1 h3 hs, fa_cons h2 h4⟩
def dTup (da : DA) : DE := fun ρ m Q => da ρ m fun ds m1 => ds.length ≤ sizeLine ∧ Q (.tup ds) m1
def dLst (da : DA) : DE := fun ρ m Q => da ρ m fun ds m1 => ds.length ≤ sizeLine ∧ Q (.lst ds) m1
/-- a list that will change -/
def dLstC (da : DA) : DE := fun ρ m Q => da ρ m fun ds m1 => ds.length ≤ sizeLine ∧ ∀ p, m1 p = none → Q (.cel p) (updM m1 p (.l ds))
theorem fe_tup {ta : TA} (h1 : FA ta dl) : FE (tTup ta) (dTup dl) := fun {F H m σ ρ Q QV} s e h k => by
  refine h1 s e h fun vs ds F1 H1 m1 g1 r1 q => ⟨by rw [r1.length]; exact q.1, fun p hp => ?_⟩
  exact k _ _ _ _ m1 (g1.trans (Go.froz g1.si hp)) (rep_tup upd_same (r1.mono (Go.froz g1.si hp).ex)) q.2
theorem fe_lst {ta : TA} (h1 : FA ta dl) : FE (tLst ta) (dLst dl) := fun {F H m σ ρ Q QV} s e h k => by
  refine h1 s e h fun vs ds F1 H1 m1 g1 r1 q => ⟨by rw [r1.length]; exact q.1, fun p hp => ?_⟩
  exact k _ _ _ _ m1 (g1.trans (Go.froz g1.si hp)) (rep_lst upd_same (r1.mono (Go.froz g1.si hp).ex)) q.2
theorem fe_lstC {ta : TA} (h1 : FA ta dl) : FE (tLst ta) (dLstC dl) := fun {F H m σ ρ Q QV} s e h k => by
  refine h1 s e h fun vs ds F1 H1 m1 g1 r1 q => ⟨by rw [r1.length]; exact q.1, fun p hp => ?_⟩
  exact k _ _ _ _ _ (g1.trans (Go.cell (c := .l ds) g1.si hp ⟨vs, rfl, r1⟩)) rep_cel (q.2 p (g1.si.fresh hp))
theorem dx_tup {x1 : Nat} (h : DAX X es dl) : DX X (.Tuple es x1 pos) (dTup dl) := let ⟨_, h1, h2⟩ := h; ⟨_, pe_tup h1, fe_tup h2⟩
theorem dx_lst (h : DAX X es dl) : DX X (.List es pos) (dLst dl) := let ⟨_, h1, h2⟩ := h; ⟨_, pe_lst h1, fe_lst h2⟩
theorem dx_lstC (h : DAX X es dl) : DX X (.List es pos) (dLstC dl) := let ⟨_, h1, h2⟩ := h; ⟨_, pe_lst h1, fe_lstC h2⟩
/-- a list that changed is taken for what stands for good -/
def dFrz (de : DE) : DE := fun ρ m Q => de ρ m fun d m1 => match d with
  | .cel a => match m1 a with
    | some (.l ds) => Q (.lst ds) (delM m1 a)
    | _ => False
  | _ => False
theorem fe_frz {te : TE} (h1 : FE te de) : FE te (dFrz de) := fun {F H m σ ρ Q QV} s e h k => by
  refine h1 s e h fun v d F1 H1 m1 g1 r1 q => ?_
  split at q
  · next a =>
    split at q
    · next ds hc =>
      obtain ⟨o, ho, rc, g⟩ := Go.freeze g1.si hc
      obtain ⟨xs, rfl, rl⟩ := rc
      obtain rfl := r1.cel
      exact k _ _ _ _ _ (g1.trans g) (rep_lst upd_same (rl.mono g.ex)) q
    · exact q.elim
  · exact q.elim
theorem dx_frz (h : DX X e de) : DX X e (dFrz de) := let ⟨_, h1, h2⟩ := h; ⟨_, h1, fe_frz h2⟩
/-- a dict that changed, likewise: it is known to its object from here on -/
def tLockF (t : TE) : TE := fun σ H Q => t σ H fun v H1 => ∃ d kvs, v = .ref d ∧ H1 d = some (.dK kvs) ∧ ∀ ob, Q v (upd H1 d (.frz ob (.dK kvs)))
theorem pe_lockF {t : TE} (h : PE X e t) : PE X e (tLockF t) := ⟨fun pins s σ H Q I hq => by
  refine thn (h.run pins s σ H _ I hq) fun u s1 ⟨v, H1, I1, r1, d, kvs, hv, hd, q⟩ => ?_
  obtain ⟨ob, I2⟩ := I1.lock hd trivial
  exact ⟨v, _, I2, r1, q ob⟩⟩
def dFrzD (de : DE) : DE := fun ρ m Q => de ρ m fun d m1 => match d with
  | .cel a => match m1 a with
    | some (.d ks ds) => Q (.dic ks ds) (delM m1 a)
    | _ => False
  | _ => False
theorem rep_dic {F : Hp} {a : Addr} {ob : Obj} {kvs : List (Key × V)} {ks : List Key} {l : List D} (h : F a = some (.frz ob (.dK kvs))) (e : kvs.map (·.1) = ks) (r : RepL F l (kvs.map (·.2))) : Rep F (.dic ks l) (.ref a) := by
  unfold Rep; exact ⟨a, ob, kvs, rfl, h, e, r⟩
theorem fe_frzD {te : TE} (h1 : FE te de) : FE (tLockF te) (dFrzD de) := fun {F H m σ ρ Q QV} s e h k => by
  refine h1 s e h fun v d F1 H1 m1 g1 r1 q => ?_
  split at q
  · next a =>
    split at q
    · next ks ds hc =>
      obtain ⟨kvs, ho, e1, e2, _⟩ := Go.lock g1.si hc default
      refine ⟨a, kvs, r1.cel, ho, fun ob => ?_⟩
      obtain ⟨kvs', ho', e1', e2', g⟩ := Go.lock g1.si hc ob
      rw [ho] at ho'; cases ho'
      rw [r1.cel]
      exact k _ _ _ _ _ (g1.trans g) (rep_dic upd_same e1' (e2'.mono g.ex)) q
    · exact q.elim
  · exact q.elim
theorem dx_frzD (h : DX X e de) : DX X e (dFrzD de) := let ⟨_, h1, h2⟩ := h; ⟨_, pe_lockF h1, fe_frzD h2⟩
end
end PF

namespace PF
open PySem PySem.Spec L2

theorem FO.or {r r' : R2} {dr dr' dq : DR} (h1 : FO r dr) (h2 : FO r' dr') (h : ∀ a b m Q, dq a b m Q → dr a b m Q ∨ dr' a b m Q) : FO (fun x y H Q => r x y H Q ∨ r' x y H Q) dq := fun {F H m x y a b Q QV} s ra rb q k => by
  rcases h a b m Q q with z | z
  · exact .inl (h1 s ra rb z k)
  · exact .inr (h2 s ra rb z k)
/-- two ints, an int or a truth value -/
def drI (C : Int → Int → Prop) (g : Int → Int → D) : DR := fun a b m Q => match a, b with
  | .int i, .int j => C i j ∧ Q (g i j) m
  | _, _ => False
theorem fo_I {C : Int → Int → Prop} {g : Int → Int → D} {gv : Int → Int → V} (h : ∀ F i j, Rep F (g i j) (gv i j)) : FO (rI C gv) (drI C g) := fun {F H m x y a b Q QV} s ra rb q k => by
  unfold drI at q
  split at q
  · exact ⟨_, _, ra.int, rb.int, q.1, k _ _ F H m (Go.refl s) (h F _ _) q.2⟩
  · exact q.elim
def drI0 (g : Int → Int → D) : DR := fun a b m Q => match a, b with
  | .int i, .int j => Q (g i j) m
  | _, _ => False
theorem fo_I0 {g : Int → Int → D} {gv : Int → Int → V} (h : ∀ F i j, Rep F (g i j) (gv i j)) : FO (rI0 gv) (drI0 g) := fun {F H m x y a b Q QV} s ra rb q k => by
  unfold drI0 at q
  split at q
  · exact ⟨_, _, ra.int, rb.int, k _ _ F H m (Go.refl s) (h F _ _) q⟩
  · exact q.elim
section
variable {X : Cx} {K : PySem.W.Frag}
/-- tuples, lists put together -/
def drCatT : DR := fun a b m Q => match a, b with
  | .tup l, .tup k => l.length + k.length ≤ sizeLine ∧ Q (.tup (l ++ k)) m
  | _, _ => False
theorem fo_catT : FO (rCatA K) drCatT := fun {F H m x y a b Q QV} s ra rb q k => by
  unfold drCatT at q
  split at q
  · next l r =>
    obtain ⟨p1, xs, rfl, h1, e1⟩ := ra.tup
    obtain ⟨p2, ys, rfl, h2, e2⟩ := rb.tup
    refine ⟨p1, p2, xs, ys, rfl, rfl, SqT.of (s.sub.tup h1), SqT.of (s.sub.tup h2), by rw [e1.length, e2.length]; exact q.1, fun z => ?_, fun z1 z => ?_, fun _ _ p hp => ?_⟩
    · subst z
      have z' : l = [] := List.length_eq_zero_iff.mp e1.length.symm
      subst z'
      exact k _ _ F H m (Go.refl s) (rep_tup h2 e2) (by simpa using q.2)
    · subst z
      have z' : r = [] := List.length_eq_zero_iff.mp e2.length.symm
      subst z'
      exact k _ _ F H m (Go.refl s) (rep_tup h1 e1) (by simpa using q.2)
    · have g := Go.froz (o := .tup (xs ++ ys)) s hp
      exact k _ _ _ _ m g (rep_tup upd_same ((e1.append e2).mono g.ex)) q.2
  · exact q.elim
def drCatL : DR := fun a b m Q => match a, b with
  | .lst l, .lst k => l.length + k.length ≤ sizeLine ∧ Q (.lst (l ++ k)) m
  | _, _ => False
theorem fo_catL : FO rCat drCatL := fun {F H m x y a b Q QV} s ra rb q k => by
  unfold drCatL at q
  split at q
  · next l r =>
    obtain ⟨p1, xs, rfl, h1, e1⟩ := ra.lst
    obtain ⟨p2, ys, rfl, h2, e2⟩ := rb.lst
    refine ⟨p1, p2, xs, ys, rfl, rfl, s.sub.lst h1, s.sub.lst h2, by rw [e1.length, e2.length]; exact q.1, fun p hp => ?_⟩
    have g := Go.froz (o := .lst (xs ++ ys)) s hp
    exact k _ _ _ _ m g (rep_lst upd_same ((e1.append e2).mono g.ex)) q.2
  · exact q.elim
/-- a + b -/
def drAdd : DR := fun a b m Q => match a, b with
  | .int i, .int j => Q (.int (i + j)) m
  | .tup l, .tup k => l.length + k.length ≤ sizeLine ∧ Q (.tup (l ++ k)) m
  | .lst l, .lst k => l.length + k.length ≤ sizeLine ∧ Q (.lst (l ++ k)) m
  | _, _ => False
theorem ox_add : OX X (binaryOp .Add) drAdd := ⟨_, op_add.or (op_catA.or op_cat), FO.or (fo_I0 (g := fun i j => .int (i + j)) fun _ _ _ => rep_int) (FO.or (dq := fun a b m Q => drCatT a b m Q ∨ drCatL a b m Q) fo_catT fo_catL fun _ _ _ _ h => h) fun a b m Q q => by
  unfold drAdd at q
  split at q
  · exact .inl q
  · exact .inr (.inl q)
  · exact .inr (.inr q)
  · exact q.elim⟩
def drSub : DR := drI0 fun i j => .int (i - j)
theorem ox_sub : OX X (binaryOp .Sub) drSub := ⟨_, op_sub, fo_I0 fun _ _ _ => rep_int⟩
def drRepT : DR := fun a b m Q => match a, b with
  | .tup l, .int k => (l ≠ [] ∧ 2 ≤ k ∧ k ≤ 1000 ∧ l.length ≤ 1000) ∧ Q (.tup (List.replicate k.toNat l).flatten) m
  | _, _ => False
theorem repL_rep {F : Hp} {l : List D} {xs : List V} (h : RepL F l xs) : ∀ n : Nat, RepL F (List.replicate n l).flatten (List.replicate n xs).flatten
  | 0 => repL_nil
  | n + 1 => by
    rw [List.replicate_succ, List.replicate_succ, List.flatten_cons, List.flatten_cons]
    exact h.append (repL_rep h n)
theorem fo_repT : FO (rRepT K) drRepT := fun {F H m x y a b Q QV} s ra rb q k => by
  unfold drRepT at q
  split at q
  · next l n =>
    obtain ⟨p1, xs, rfl, h1, e1⟩ := ra.tup
    obtain ⟨⟨q0, q1, q2, q3⟩, q4⟩ := q
    refine ⟨p1, n, xs, rfl, rb.int, SqT.of (s.sub.tup h1), fun z => ?_, q1, q2, by rw [e1.length]; exact q3, fun p hp => ?_⟩
    · subst z
      exact q0 (List.length_eq_zero_iff.mp e1.length.symm)
    · have g := Go.froz (o := .tup (List.replicate n.toNat xs).flatten) s hp
      exact k _ _ _ _ m g (rep_tup upd_same ((repL_rep e1 n.toNat).mono g.ex)) q4
  · exact q.elim
/-- a * b -/
def drMul : DR := fun a b m Q => match a, b with
  | .int i, .int j => CMul i j ∧ Q (.int (i * j)) m
  | .tup l, .int k => (l ≠ [] ∧ 2 ≤ k ∧ k ≤ 1000 ∧ l.length ≤ 1000) ∧ Q (.tup (List.replicate k.toNat l).flatten) m
  | _, _ => False
theorem ox_mul : OX X (binaryOp .Mult) drMul := ⟨_, op_mul.or op_repT, FO.or (fo_I (g := fun i j => .int (i * j)) fun _ _ _ => rep_int) fo_repT fun a b m Q q => by
  unfold drMul at q
  split at q
  · exact .inl q
  · exact .inr q
  · exact q.elim⟩
def drDiv : DR := drI CDivN fun i j => .int (i.fdiv j)
theorem ox_div : OX X (binaryOp .FloorDiv) drDiv := ⟨_, op_fdivN, fo_I fun _ _ _ => rep_int⟩
def drMod : DR := drI (fun _ j => j ≠ 0) fun i j => .int (i.fmod j)
theorem ox_mod : OX X (binaryOp .Mod) drMod := ⟨_, op_modN, fo_I fun _ _ _ => rep_int⟩
def drPow : DR := drI CPow fun i j => .int (i ^ j.toNat)
theorem ox_pow : OX X (binaryOp .Pow) drPow := ⟨_, op_pow, fo_I fun _ _ _ => rep_int⟩
def drLt : DR := drI0 fun i j => .bl (decide (i < j))
theorem ox_lt : OX X (compareOp .Lt) drLt := ⟨_, op_lt, fo_I0 fun _ _ _ => rep_bl⟩
def drLe : DR := drI0 fun i j => .bl (decide (i ≤ j))
theorem ox_le : OX X (compareOp .LtE) drLe := ⟨_, op_le, fo_I0 fun _ _ _ => rep_bl⟩
def drGt : DR := drI0 fun i j => .bl (decide (j < i))
theorem ox_gt : OX X (compareOp .Gt) drGt := ⟨_, op_gt, fo_I0 fun _ _ _ => rep_bl⟩
def drGe : DR := drI0 fun i j => .bl (decide (j ≤ i))
theorem ox_ge : OX X (compareOp .GtE) drGe := ⟨_, op_ge, fo_I0 fun _ _ _ => rep_bl⟩

/-! ### == and != of data -/
mutual
def pd : D → PyData
  | .non => .none
  | .bl b => .bool b
  | .int i => .int i
  | .str s => .str s
  | .tup l => .tuple (pdL l)
  | .lst l => .list (pdL l)
  | .frl l => .list (pdL l)
  | .dic _ _ => .none
  | .cel _ => .none
def pdL : List D → List PyData
  | [] => []
  | d :: l => pd d :: pdL l
end
mutual
def plain : D → Bool
  | .tup l => plainL l
  | .lst l => plainL l
  | .frl l => plainL l
  | .dic _ _ => false
  | .cel _ => false
  | _ => true
def plainL : List D → Bool
  | [] => true
  | d :: l => plain d && plainL l
end
mutual
theorem dp_of {F H : Hp} (s : Sub F H) : ∀ {d : D} {v : V}, plain d = true → Rep F d v → Dp K H v (pd d)
  | .non, v, _, h => by rw [h.non]; exact .non
  | .bl b, v, _, h => by rw [h.bl]; exact .bl b
  | .int b, v, _, h => by rw [h.int]; exact .int b
  | .str b, v, _, h => by rw [h.str]; exact .str b
  | .tup l, v, p, h => by
    obtain ⟨a, xs, rfl, h1, h2⟩ := h.tup
    have p' : plainL l = true := by unfold plain at p; exact p
    show Dp K H (.ref a) (pd (.tup l))
    unfold pd
    exact .tup (SqT.of (s.tup h1)) (dpL_of s p' h2)
  | .lst l, v, p, h => by
    obtain ⟨a, xs, rfl, h1, h2⟩ := h.lst
    have p' : plainL l = true := by unfold plain at p; exact p
    unfold pd
    exact .lst (SqL.of (s.lst h1)) (dpL_of s p' h2)
  | .frl l, v, p, h => by
    obtain ⟨a, o, xs, rfl, h1, h2⟩ := h.frl
    have p' : plainL l = true := by unfold plain at p; exact p
    unfold pd
    exact .lst (.inl (.inr ⟨o, s.frl h1⟩)) (dpL_of s p' h2)
  | .dic _ _, _, p, _ => by unfold plain at p; cases p
  | .cel _, _, p, _ => by unfold plain at p; cases p
theorem dpL_of {F H : Hp} (s : Sub F H) : ∀ {l : List D} {xs : List V}, plainL l = true → RepL F l xs → DpAll K H xs (pdL l)
  | [], xs, _, h => by rw [h.inv0]; unfold pdL; exact .nil
  | d :: l, xs, p, h => by
    obtain ⟨x, r, rfl, h1, h2⟩ := h.inv
    unfold plainL at p
    rw [Bool.and_eq_true] at p
    unfold pdL
    exact .cons (dp_of s p.1 h1) (dpL_of s p.2 h2)
end
/-- what may be compared -/
def okD (d : D) : Bool := plain d && SeqAt.shaped (pd d)
def eqD (a b : D) : Bool := PyData.eqv (pd a) (pd b)
def drEq : DR := fun a b m Q => (okD a = true ∧ okD b = true) ∧ Q (.bl (eqD a b)) m
def drNe : DR := fun a b m Q => (okD a = true ∧ okD b = true) ∧ Q (.bl (!eqD a b)) m
theorem okD_iff {d : D} : okD d = true ↔ plain d = true ∧ SeqAt.shaped (pd d) = true := by unfold okD; rw [Bool.and_eq_true]
theorem fo_eq : FO (rEqD K) drEq := fun {F H m x y a b Q QV} s ra rb q k => by
  obtain ⟨⟨q1, q2⟩, q3⟩ := q
  obtain ⟨p1, p2⟩ := okD_iff.mp q1
  obtain ⟨p3, p4⟩ := okD_iff.mp q2
  exact ⟨pd a, pd b, dp_of s.sub p1 ra, dp_of s.sub p3 rb, p2, p4, k _ _ F H m (Go.refl s) rep_bl q3⟩
theorem fo_ne : FO (rNeD K) drNe := fun {F H m x y a b Q QV} s ra rb q k => by
  obtain ⟨⟨q1, q2⟩, q3⟩ := q
  obtain ⟨p1, p2⟩ := okD_iff.mp q1
  obtain ⟨p3, p4⟩ := okD_iff.mp q2
  exact ⟨pd a, pd b, dp_of s.sub p1 ra, dp_of s.sub p3 rb, p2, p4, k _ _ F H m (Go.refl s) rep_bl q3⟩
theorem ox_eq {k : Nat} (c : CF X k) : OX X (compareOp .Eq) drEq := ⟨_, op_eqD c.room.units, fo_eq⟩
theorem ox_ne {k : Nat} (c : CF X k) : OX X (compareOp .NotEq) drNe := ⟨_, op_neD c.room.units, fo_ne⟩
/-- a list that changes, looked at for == with a written [] -/
def drEqC (neg : Bool) : DR := fun a b m Q => match a, b with
  | .cel p, .lst [] => match m p with
    | some (.l ds) => Q (.bl (if neg then !ds.isEmpty else ds.isEmpty)) m
    | _ => False
  | _, _ => False

/-! ### items, slices -/
def drIx : DR := fun a b m Q => match b with
  | .int i => match a with
    | .tup l => match atI l i with
      | some d => Q d m
      | none => False
    | .lst l => match atI l i with
      | some d => Q d m
      | none => False
    | .frl l => match atI l i with
      | some d => Q d m
      | none => False
    | .cel p => match m p with
      | some (.l l) => match atI l i with
        | some d => Q d m
        | none => False
      | _ => False
    | _ => False
  | _ => False
theorem atI_rep {F : Hp} {l : List D} {xs : List V} {i : Int} {d : D} (h : RepL F l xs) (e : atI l i = some d) : ∃ x, atI xs i = some x ∧ Rep F d x := by
  unfold atI at e ⊢
  rw [h.length]
  cases q : ixN l.length i with
  | none => rw [q] at e; cases e
  | some j =>
    rw [q] at e
    exact h.get (i := j) (d := d) e
theorem fo_ix : FO (rIx K) drIx := fun {F H m x y a b Q QV} s ra rb q k => by
  unfold drIx at q
  split at q
  · next i =>
    split at q
    · split at q
      · next l _ d e =>
        obtain ⟨p1, xs, rfl, h1, e1⟩ := ra.tup
        obtain ⟨x, hx, rx⟩ := atI_rep e1 e
        exact .inr (.inl ⟨p1, xs, i, x, rfl, rb.int, SqT.of (s.sub.tup h1), hx, k _ _ F H m (Go.refl s) rx q⟩)
      · exact q.elim
    · split at q
      · next l _ d e =>
        obtain ⟨p1, xs, rfl, h1, e1⟩ := ra.lst
        obtain ⟨x, hx, rx⟩ := atI_rep e1 e
        exact .inl ⟨p1, xs, i, x, rfl, rb.int, SqL.of (s.sub.lst h1), hx, k _ _ F H m (Go.refl s) rx q⟩
      · exact q.elim
    · split at q
      · next l _ d e =>
        obtain ⟨p1, o, xs, rfl, h1, e1⟩ := ra.frl
        obtain ⟨x, hx, rx⟩ := atI_rep e1 e
        exact .inl ⟨p1, xs, i, x, rfl, rb.int, .inl (.inr ⟨o, s.sub.frl h1⟩), hx, k _ _ F H m (Go.refl s) rx q⟩
      · exact q.elim
    · split at q
      · split at q
        · next p _ l hc _ d e =>
          obtain ⟨hF, o, ho, rc⟩ := s.cell _ _ hc
          obtain ⟨xs, rfl, e1⟩ := rc
          obtain rfl := ra.cel
          obtain ⟨x, hx, rx⟩ := atI_rep e1 e
          exact .inl ⟨p, xs, i, x, rfl, rb.int, SqL.of ho, hx, k _ _ F H m (Go.refl s) rx q⟩
        · exact q.elim
      · exact q.elim
    · exact q.elim
  · exact q.elim
theorem ix_all : IXX X drIx := ⟨_, ix_seq, fo_ix⟩
variable {a b e lo hi : Expr} {pos p2 : Pos} {da db de dl dh : DE} {dr : DR}
theorem dx_ix (ha : DX X a da) (hb : DX X b db) (hs : PlainIx b := by exact fun _ _ => rfl) : DX X (.Subscript a b pos) (dOp drIx da db) :=
  let ⟨_, h1, h2⟩ := ix_all (X := X); let ⟨_, h3, h4⟩ := ha; let ⟨_, h5, h6⟩ := hb
  ⟨_, pe_ix h1 h3 h5 hs, fe_op h2 h4 h6⟩
abbrev DO := Env → Mem → (Option Int → Mem → Prop) → Prop
def FP (to : TO) (dp : DO) : Prop := ∀ {F H : Hp} {m : Mem} {σ : L2.St} {ρ : Env} {Q : Option Int → Mem → Prop} {QV : Option Int → Hp → Prop}, SI F H m → RepE F ρ σ → dp ρ m Q →
  (∀ o F2 H2 m2, Go F H m F2 H2 m2 → Q o m2 → QV o H2) → to σ H QV
def DPX (X : Cx) (e : Option Expr) (dp : DO) : Prop := ∃ t, PO X e t ∧ FP t dp
def dNo : DO := fun _ m Q => Q none m
def dPart (de : DE) : DO := fun ρ m Q => de ρ m fun d m1 => match d with
  | .int i => Q (some i) m1
  | _ => False
theorem dp_no : DPX X none dNo := ⟨_, po_none, fun {F H m σ ρ Q QV} s e h k => k _ F H m (Go.refl s) h⟩
theorem dp_some (h : DX X e de) : DPX X (some e) (dPart de) := let ⟨_, h1, h2⟩ := h; ⟨_, po_some h1, fun {F H m σ ρ Q QV} s e hd k => by
  refine h2 s e hd fun v d F1 H1 m1 g1 r1 q => ?_
  split at q
  · exact ⟨_, r1.int, k _ F1 H1 m1 g1 q⟩
  · exact q.elim⟩
/-- the items of xs[lo:hi] -/
def cutD (l : List D) (lo hi : Option Int) : List D := (l.drop (HT.sIx l.length 0 lo)).take (HT.sIx l.length l.length hi - HT.sIx l.length 0 lo)
theorem cut_rep {F : Hp} {l : List D} {xs : List V} {lo hi : Option Int} (h : RepL F l xs) : RepL F (cutD l lo hi) (cutV xs lo hi) := by
  unfold cutD cutV
  rw [h.length]
  exact (h.drop _).take _
def dSl (de : DE) (dl dh : DO) : DE := fun ρ m Q => de ρ m fun x m1 => dl ρ m1 fun l m2 => dh ρ m2 fun u m3 => match x with
  | .tup ds => Q (.tup (cutD ds l u)) m3
  | .lst ds => Q (.lst (cutD ds l u)) m3
  | .frl ds => Q (.lst (cutD ds l u)) m3
  | _ => False
theorem cut_whole {l : List D} {lo hi : Option Int} (h : HT.sIx l.length 0 lo = 0 ∧ HT.sIx l.length l.length hi = l.length) : cutD l lo hi = l := by
  unfold cutD
  rw [h.1, h.2]
  simp
theorem fe_slT {te : TE} {tl th : TO} {dl dh : DO} (h1 : FE te de) (h2 : FP tl dl) (h3 : FP th dh) : FE (tSl (fun x lo hi H Q => rSlA K x lo hi H Q ∨ rSlL K x lo hi H Q) te tl th) (dSl de dl dh) := fun {F H m σ ρ Q QV} s e hd k => by
  refine h1 s e hd fun x d F1 H1 m1 g1 r1 q1 => ?_
  refine h2 g1.si (e.mono g1.ex) q1 fun o F2 H2 m2 g2 q2 => ?_
  refine h3 g2.si (e.mono (g1.trans g2).ex) q2 fun o' F3 H3 m3 g3 q3 => ?_
  have g := (g1.trans g2).trans g3
  have r3 := r1.mono (g2.trans g3).ex
  split at q3
  · next ds =>
    obtain ⟨p1, xs, rfl, f1, e1⟩ := r3.tup
    refine .inl ⟨p1, xs, rfl, SqT.of (g.si.sub.tup f1), fun z => ?_, fun _ p hp => ?_⟩
    · rw [e1.length] at z
      rw [cut_whole z] at q3
      exact k _ _ _ _ _ g (rep_tup f1 e1) q3
    · have g4 := Go.froz (o := .tup (cutV xs o o')) g.si hp
      exact k _ _ _ _ _ (g.trans g4) (rep_tup upd_same ((cut_rep e1).mono g4.ex)) q3
  · next ds =>
    obtain ⟨p1, xs, rfl, f1, e1⟩ := r3.lst
    refine .inr ⟨p1, xs, rfl, SqL.of (g.si.sub.lst f1), fun p hp => ?_⟩
    have g4 := Go.froz (o := .lst (cutV xs o o')) g.si hp
    exact k _ _ _ _ _ (g.trans g4) (rep_lst upd_same ((cut_rep e1).mono g4.ex)) q3
  · next ds =>
    obtain ⟨p1, ob, xs, rfl, f1, e1⟩ := r3.frl
    refine .inr ⟨p1, xs, rfl, .inl (.inr ⟨ob, g.si.sub.frl f1⟩), fun p hp => ?_⟩
    have g4 := Go.froz (o := .lst (cutV xs o o')) g.si hp
    exact k _ _ _ _ _ (g.trans g4) (rep_lst upd_same ((cut_rep e1).mono g4.ex)) q3
  · exact q3.elim
theorem dx_sl {lo hi : Option Expr} {dl dh : DO} (he : DX X e de) (hl : DPX X lo dl) (hh : DPX X hi dh) : DX X (.Subscript e (.Slice lo hi none p2) pos) (dSl de dl dh) :=
  let ⟨_, h1, h2⟩ := he; let ⟨_, h3, h4⟩ := hl; let ⟨_, h5, h6⟩ := hh
  ⟨_, pe_slice (sl_tupA.or sl_list) h1 h3 h5, fe_slT h2 h4 h6⟩
/-- -a -/
def dNeg (da : DE) : DE := fun ρ m Q => da ρ m fun x m1 => match x with
  | .int i => Q (.int (-i)) m1
  | _ => False
theorem dx_neg (ha : DX X a da) : DX X (.UnaryOp .USub a pos) (dNeg da) := let ⟨_, h1, h2⟩ := ha
  ⟨_, pe_un un_neg h1, fun {F H m σ ρ Q QV} s e hd k => by
    refine h2 s e hd fun v d F1 H1 m1 g1 r1 q => ?_
    split at q
    · exact ⟨_, r1.int, k _ _ F1 H1 m1 g1 rep_int q⟩
    · exact q.elim⟩
end
end PF

namespace PF
open PySem PySem.Spec L2

/-! ### defs: called where no text of a container is being made -/
structure FnG (P : Program) (w : World) (K : PySem.W.Frag) (mg : Str → Option Value) (base : Heap) (k : Nat) (f : Addr) (fd : FuncData) (ps : List Str) (sp : Sp) : Prop where
  len : ∀ vs H Q E, sp vs H Q E → vs.length = ps.length
  run : ∀ {A : Around} {outer : List PySem.Env} {s : Shared} {H : Hp} {args : Args} {us : List Value} {vs : List V} {Q : VK} {E : XK}, A.guards = some [] → Room k A → Env0 P w K mg base A outer s H →
    BindsTo s fd args (ps.zip us) → Vals vs us → sp vs H Q E → codeAny (model P w) A (.call (.ref f) args) (CR CX0 outer P w H s Q E) s
abbrev DSp := List D → Mem → (D → Mem → Prop) → Prop
def spOf (sp : DSp) : Sp := fun vs H Q _ => ∃ (F : Hp) (m : Mem) (ds : List D) (QD : D → Mem → Prop), SI F H m ∧ RepL F ds vs ∧ sp ds m QD ∧ ∀ v d F2 H2 m2, Go F H m F2 H2 m2 → Rep F2 d v → QD d m2 → Q v H2
/-- the context of a def's body -/
abbrev bodyX (P : Program) (w : World) (K : PySem.W.Frag) (mg : Str → Option Value) (base : Heap) (N : List Str) (q : Str) (sc : Scope) (f : Addr) (cd : Value) (A : Around) (outer : List PySem.Env) (s : Shared) (H : Hp) (E : XK) : Cx :=
  (cxOf CX0 P w K mg base N q sc f cd A outer s H E).nox
def startD (N : List Str) (ds : List D) : Env := ds.map some ++ List.replicate (N.length - ds.length) none
theorem startD_rep {F : Hp} {N : List Str} {ds : List D} {vs : List V} (h : RepL F ds vs) : RepE F (startD N ds) (L2.start N vs) := by
  unfold startD L2.start
  refine ⟨by simp [h.length], fun i d q => ?_⟩
  by_cases hi : i < ds.length
  · rw [List.getElem?_append_left (by simpa using hi), List.getElem?_map] at q
    cases e : ds[i]? with
    | none => rw [e] at q; cases q
    | some d' =>
      rw [e] at q
      obtain rfl : d' = d := Option.some.inj (Option.some.inj q)
      obtain ⟨x, hx, rx⟩ := h.get e
      refine ⟨x, ?_, rx⟩
      rw [List.getElem?_append_left (by simpa [h.length] using hi), List.getElem?_map, hx]; rfl
  · rw [List.getElem?_append_right (by simpa using hi), List.getElem?_replicate] at q
    split at q <;> cases q
/-- a def of the text keeps a promise -/
structure Def (P : Program) (w : World) (K : PySem.W.Frag) (mg : Str → Option Value) (base : Heap) (k : Nat) (x : Str) (st : Stmt) (ps : List Str) (sp : DSp) : Prop where
  ex : ∃ (f : Addr) (kV doc pm : Value) (an : Option Addr) (cdv ct : Value), FnG P w K mg base k f (PySem.W.fnOf x x (defArgs st) (defBody st) (defScope st) .none kV doc pm an cdv ct) ps (spOf sp) ∧ mg x = some (.ref f) ∧ PySem.W.keepIn K (.ref f) = true
section
variable {P : Program} {w : World} {K : PySem.W.Frag} {mg : Str → Option Value} {base : Heap}
theorem Def.mono {k k' : Nat} {x : Str} {st : Stmt} {ps : List Str} {sp : DSp} (d : Def P w K mg base k x st ps sp) (h : k ≤ k') : Def P w K mg base k' x st ps sp := by
  obtain ⟨f, kV, doc, pm, an, cdv, ct, g, h1, h2⟩ := d.ex
  exact ⟨f, kV, doc, pm, an, cdv, ct, ⟨g.len, fun a b c d e i => g.run a (b.mono h) c d e i⟩, h1, h2⟩
theorem Def.imp {k : Nat} {x : Str} {st : Stmt} {ps : List Str} {sp sp' : DSp} (d : Def P w K mg base k x st ps sp) (h : ∀ ds m Q, sp' ds m Q → sp ds m Q) : Def P w K mg base k x st ps sp' := by
  obtain ⟨f, kV, doc, pm, an, cdv, ct, g, h1, h2⟩ := d.ex
  have hs : ∀ vs H Q E, spOf sp' vs H Q E → spOf sp vs H Q E := fun vs H Q E ⟨F, m, ds, QD, a, b, c, e⟩ => ⟨F, m, ds, QD, a, b, h _ _ _ c, e⟩
  exact ⟨f, kV, doc, pm, an, cdv, ct, ⟨fun vs H Q E z => g.len vs H Q E (hs _ _ _ _ z), fun a b c e i j => g.run a b c e i (hs _ _ _ _ j)⟩, h1, h2⟩
/-- by its body -/
theorem def_ok {k : Nat} {x : Str} {st : Stmt} {f : Addr} {fd : FuncData} {N ps : List Str} {sp : DSp} {dS : DS} (Fu : Fun K x x st f fd) (hm : mg x = some (.ref f)) (S : FnScope N ps (defScope st))
    (hl : ∀ ds m Q, sp ds m Q → ds.length = ps.length)
    (body : ∀ (f : Addr) (cdv : Value) (A : Around) (outer : List PySem.Env) (s : Shared) (H : Hp) (E : XK), CF (bodyX P w K mg base N x (defScope st) f cdv A outer s H E) k → DBX (bodyX P w K mg base N x (defScope st) f cdv A outer s H E) (defBody st) dS)
    (sem : ∀ ds m Q, sp ds m Q → dS { nx := fun _ m' => ∃ m'', MLe m'' m' ∧ Q .non m'', rt := fun d m' => ∃ m'', MLe m'' m' ∧ Q d m'' } (startD N ds) m) : Def P w K mg base (k + 1) x st ps sp := by
  obtain ⟨oc, od, kV, doc, pm, an, cdv, ct, osl, rfl, lk, hcd⟩ := Fu.ex
  have hlen : ∀ vs H Q E, spOf sp vs H Q E → vs.length = ps.length := fun vs H Q E ⟨F, m, ds, QD, _, r, h, _⟩ => by
    rw [r.length]; exact hl _ _ _ h
  refine ⟨f, kV, doc, pm, an, cdv, ct, ⟨hlen, fun {A outer s H args us vs Q E} hg hr e0 hb rv hsp => ?_⟩, hm, Fu.kp⟩
  have lenV := hlen _ _ _ _ hsp
  have inK : K.In s.heap := e0.mod.kin.keeps fun b o q => (e0.bs b o q).1
  have noLim : s.heap.NoLimit := e0.mod.nolimit.keeps fun b o q => (e0.bs b o q).1
  have parK : ∀ y ∈ ps.zip us, (defScope st).names.lookup y.1 = some .local ∨ ((defScope st).names.lookup y.1 = some .cell ∧ ((cellsFrom (s.heap.objs.size + 1) (defScope st).names []).lookup y.1).isSome = true) := fun ⟨n, v⟩ hy =>
    (S.par n (List.of_mem_zip hy).1).elim (fun q => .inl q) fun q => .inr ⟨q, PySem.W.cellsFrom_some _ _ _ (.inl q)⟩
  refine codeAny_call_function (Room.depth hr) (inK _ _ lk) rfl S.co S.gen rfl (PySem.W.codeRec_of inK hcd) (hb _ _ _ _ ?_)
  refine wpAny_newFunctionEnv_cells S.kind parK fun env0 he0 s1 xc => ?_
  subst he0
  refine ⟨noLim.keeps xc.toInCall.keep, codeAny_func ?_⟩
  have room' := hr.deeper (PyProof.Rows.envOfC x (defScope st) s.heap.objs.size f cdv)
  obtain ⟨t, ht, ft⟩ := body f cdv A outer s H E ⟨rfl, S.nd, hg, room'⟩
  obtain ⟨F, m, ds, QD, si, rl, hd, fin⟩ := hsp
  have st0 : Inv (cxOf CX0 P w K mg base N x (defScope st) f cdv A outer s H E) [] (L2.start N vs) H s1 := inv_start S hr.hd e0 lenV rv xc
  have tq : t { nx := fun _ H' => Q .non H', rt := Q } (L2.start N vs) H := by
    refine ft si (startD_rep rl) (sem ds m QD hd) ⟨fun σ ρ F2 H2 m2 g _ q => ?_, fun v d F2 H2 m2 g r q => ?_, fun _ _ _ _ _ _ _ q => q.elim, fun _ _ _ _ _ _ _ q => q.elim⟩
    · obtain ⟨m3, l, q⟩ := q
      exact fin _ _ _ _ _ (g.weak l) rep_non q
    · obtain ⟨m3, l, q⟩ := q
      exact fin _ _ _ _ _ (g.weak l) r q
  have done : ∀ {σ' : L2.St} {H' : Hp} {v : V} {u : Value} {s' : Shared}, Inv (cxOf CX0 P w K mg base N x (defScope st) f cdv A outer s H E) [] σ' H' s' → RelV v u → Q v H' → CE outer P w H s Q u s' :=
    fun {σ' H' v u s'} J r2 q => ⟨v, H', J.os, J.bare, J.base, J.hok, r2, q⟩
  refine wpAny_mono ((L2.PSs.nox ht).run [] s1 (L2.start N vs) H _ st0 tq) (fun fl s' hs => ?_) fun e s' hs => hs
  cases fl with
  | next =>
    obtain ⟨σ', H', J, q⟩ := hs
    exact done (v := V.non) (u := Value.none) J rfl q
  | ret u =>
    obtain ⟨v, σ', H', J, r2, q⟩ := hs
    exact done J r2 q
  | cont =>
    obtain ⟨_, _, _, q⟩ := hs
    exact q.elim
  | brk =>
    obtain ⟨_, _, _, q⟩ := hs
    exact q.elim
end

/-! ### calls -/
section
variable {X : Cx} {k k' : Nat} {x : Str} {st : Stmt} {ps : List Str} {sp : DSp} {p pos : Pos} {e : Expr} {es : List Expr} {da dk : DA}
def dCall (sp : DSp) (da : DA) : DE := fun ρ m Q => da ρ m fun ds m1 => sp ds m1 Q
theorem fe_call {ta : TA} (h : FA ta da) : FE (tCall (spOf sp) [] E0 ta) (dCall sp da) := fun {F H m σ ρ Q QV} s e hd kk => by
  refine h s e hd fun vs ds F1 H1 m1 g1 r1 q => ?_
  rw [List.append_nil]
  exact ⟨F1, m1, ds, Q, g1.si, r1, q, fun v d F2 H2 m2 g2 r2 q2 => kk v d F2 H2 m2 (g1.trans g2) r2 q2⟩
theorem FnG.go {X : Cx} {k : Nat} {f : Addr} {fd : FuncData} {ps : List Str} {sp : Sp} (G : FnG X.prog X.w X.K X.mg X.base k f fd ps sp) {pins : List (Addr × Obj)} {σ : L2.St} {H : Hp} {s : Shared} {Q : VK} {args : Args} {us : List Value} {vs : List V} {E : XK}
    (hg : X.A.guards = some []) (hr : Room k X.A) (I : Inv X pins σ H s) (hb : BindsTo s fd args (ps.zip us)) (r : Vals vs us) (h : sp vs H Q E) (hc : Code.call (.ref f) args = Code.call (.ref f) ⟨args.pos, args.kw⟩ := by rfl) :
    wpAny (model X.prog X.w) X.A (call (.ref f) args.pos args.kw) (EP X pins σ Q) X.xe s := by
  refine wpAny_call (codeAny_mono (G.run hg hr I.env0 hb r h) fun rr s' hq => ?_)
  cases rr with
  | error er => exact False.elim hq
  | ok fl =>
    cases fl with
    | ret u => exact I.after hq
    | next => exact hq.elim
    | brk => exact hq.elim
    | cont => exact hq.elim
/-- f(e, ..) -/
theorem dx_call (d : Def X.prog X.w X.K X.mg X.base k x st ps sp) (c : CF X k') (hk' : k ≤ k') (ha : DAX X (e :: es) da)
    (hb : ∀ (kV doc pm : Value) (an : Option Addr) (cdv ct : Value) (us : List Value), us.length = ps.length → bindArgs (PySem.W.fnOf x x (defArgs st) (defBody st) (defScope st) .none kV doc pm an cdv ct) ⟨us, []⟩ = pure (ps.zip us))
    (hg : Gl X x := by rfl) (hdb : (x == ("__debug__" : Str)) = false := by decide) (he : starEach (e :: es) X.env = (false, eval e X.env) :: starEach es X.env := by rfl) (hpl : (backTo pos (starEach es X.env)).any (·.1) = false := by rfl) :
    DX X (.Call (.Name x p) (e :: es) [] pos) (dCall sp da) := by
  obtain ⟨ta, pa, fa⟩ := ha
  obtain ⟨f, kV, doc, pm, an, cdv, ct, G, hm, kp⟩ := d.ex
  refine ⟨tCall (spOf sp) [] E0 ta, ⟨fun pins s σ H Q I hq => ?_⟩, fe_call fa⟩
  refine wpAny_Call_Name_kw (ld_glob I hg hm ?_ hdb)
  refine PySem.W.callWith_K (h₀ := X.base) I.ok.mod.kin kp ?_ he hpl
  refine thn (pa.run pos pins s σ H _ I hq) fun us s1 ⟨vs, H1, I1, r, q⟩ => ⟨I1.kIn, ?_⟩
  have q : spOf sp vs H1 Q E0 := by
    have z : spOf sp (vs ++ []) H1 Q E0 := q
    rw [List.append_nil] at z
    exact z
  have l1 : us.length = ps.length := by rw [← r.length]; exact G.len _ _ _ _ q
  exact G.go (args := ⟨us, []⟩) c.gd (c.room.mono hk') I1 (.of_eq (hb kV doc pm an cdv ct us l1)) r q

/-! ### calls by keywords -/
def pick {α : Type} (perm : List Nat) (l : List α) : List α := perm.filterMap fun i => l[i]?
theorem pick_vals {vs : List V} {us : List Value} (h : Vals vs us) : ∀ perm : List Nat, Vals (pick perm vs) (pick perm us)
  | [] => .nil
  | i :: perm => by
    have ih := pick_vals h perm
    unfold pick at ih ⊢
    rw [List.filterMap_cons, List.filterMap_cons]
    cases q : vs[i]? with
    | none =>
      rw [h.none_of q]
      exact ih
    | some v =>
      obtain ⟨u, h1, h2⟩ := h.get q
      rw [h1]
      exact .cons h2 ih
theorem pick_rep {F : Hp} {ds : List D} {vs : List V} (h : RepL F ds vs) : ∀ perm : List Nat, RepL F (pick perm ds) (pick perm vs)
  | [] => repL_nil
  | i :: perm => by
    have ih := pick_rep h perm
    unfold pick at ih ⊢
    rw [List.filterMap_cons, List.filterMap_cons]
    cases q : vs[i]? with
    | none =>
      have q' : ds[i]? = none := by rw [List.getElem?_eq_none_iff] at q ⊢; rw [← h.length]; exact q
      rw [q']
      exact ih
    | some v =>
      obtain ⟨d, h1, h2⟩ := h.at q
      rw [h1]
      exact repL_cons h2 ih
theorem fk_of {ks : List Keyword} {tk : TA} (h : PK X ks tk) : True := trivial
theorem dk_nil : DKX X [] dNil := ⟨_, pk_nil, fa_nil⟩
theorem dk_cons {nm : Option Str} {ks : List Keyword} {kpos : Pos} {de : DE} (ha : DX X e de) (hr : DKX X ks dk) : DKX X (⟨nm, e, kpos⟩ :: ks) (dCons de dk) :=
  let ⟨_, h1, h2⟩ := ha; let ⟨_, h3, h4⟩ := hr; ⟨_, pk_cons h1 h3, fa_cons h2 h4⟩
/-- f(k = v, ..), no positional argument -/
def dCallK (sp : DSp) (perm : List Nat) (n : Nat) (dk : DA) : DE := fun ρ m Q => dk ρ m fun ds m1 => ds.length = n ∧ sp (pick perm ds) m1 Q
def tCallP (sp : Sp) (perm : List Nat) (n : Nat) (tk : TA) : TE := fun σ H Q => tk σ H fun vs H1 => vs.length = n ∧ sp (pick perm vs) H1 Q E0
theorem fe_callP {perm : List Nat} {n : Nat} {tk : TA} (h : FA tk dk) : FE (tCallP (spOf sp) perm n tk) (dCallK sp perm n dk) := fun {F H m σ ρ Q QV} s e hd kk => by
  refine h s e hd fun vs ds F1 H1 m1 g1 r1 q => ⟨by rw [r1.length]; exact q.1, ?_⟩
  exact ⟨F1, m1, pick perm ds, Q, g1.si, pick_rep r1 perm, q.2, fun v d F2 H2 m2 g2 r2 q2 => kk v d F2 H2 m2 (g1.trans g2) r2 q2⟩
theorem dx_callK {kws : List Keyword} {ks : List Str} (perm : List Nat) (d : Def X.prog X.w X.K X.mg X.base k x st ps sp) (c : CF X k') (hk' : k ≤ k') (hkw : DKX X kws dk)
    (hb : ∀ (kV doc pm : Value) (an : Option Addr) (cdv ct : Value) (ws : List Value), ws.length = ks.length → bindArgs (PySem.W.fnOf x x (defArgs st) (defBody st) (defScope st) .none kV doc pm an cdv ct) ⟨[], ks.zip ws⟩ = pure (ps.zip (pick perm ws)))
    (hg : Gl X x := by rfl) (hdb : (x == ("__debug__" : Str)) = false := by decide) (hall : (backToKw pos (keywordEach kws X.env)).all (·.1.isSome) = true := by rfl) (hks : (backToKw pos (keywordEach kws X.env)).filterMap (·.1) = ks := by rfl)
    (hpl : ((backTo pos (starEach [] X.env)).any (·.1) || (backToKw pos (keywordEach kws X.env)).any (·.1.isNone)) = false := by rfl) :
    DX X (.Call (.Name x p) [] kws pos) (dCallK sp perm ks.length dk) := by
  obtain ⟨tk, pk, fk⟩ := hkw
  obtain ⟨f, kV, doc, pm, an, cdv, ct, G, hm, kp⟩ := d.ex
  refine ⟨tCallP (spOf sp) perm ks.length tk, ⟨fun pins s σ H Q I hq => ?_⟩, fe_callP fk⟩
  refine wpAny_Call_Name_kw (ld_glob I hg hm ?_ hdb)
  refine PySem.W.callWith_KW0 (h₀ := X.base) I.ok.mod.kin kp hall ?_ hpl
  refine thn (pk.run pos pins s σ H _ I hq) fun ws s1 ⟨zs, H1, I1, r, l1, q⟩ => ⟨I1.kIn, ?_⟩
  rw [hks]
  exact G.go (args := ⟨[], ks.zip ws⟩) c.gd (c.room.mono hk') I1 (.of_eq (hb kV doc pm an cdv ct ws (by rw [← r.length]; exact l1))) (pick_vals r perm) q
end
end PF

namespace PF
open PySem PySem.Spec L2

/-! ### targets -/
def gdName (i : Nat) : DG := fun d ρ m Q => Q (ρ.set i (some d)) m
theorem fg_name (i : Nat) : FG (gName i) (gdName i) [i] := fun {F H m σ ρ v d Q QV} s e r h k =>
  k _ _ F H m (Go.refl s) (e.set i r) (by rw [List.length_set]) (fun j hj => by rw [List.getElem?_set_ne (by intro z; exact hj (by simp [z]))]) h
def gdNil : DGs := fun ds ρ m Q => match ds with
  | [] => Q ρ m
  | _ => False
def gdCons (g : DG) (gs : DGs) : DGs := fun ds ρ m Q => match ds with
  | d :: r => g d ρ m fun ρ1 m1 => gs r ρ1 m1 Q
  | [] => False
theorem fgs_nil : FGs gNil gdNil [] := fun {F H m σ ρ vs ds Q QV} s e r h k => by
  unfold gdNil at h
  split at h
  · exact ⟨r.inv0, k _ _ F H m (Go.refl s) e rfl (fun _ _ => rfl) h⟩
  · exact h.elim
theorem fgs_cons {g : TG} {gs : TGs} {dg : DG} {dgs : DGs} {is js : List Nat} (h1 : FG g dg is) (h2 : FGs gs dgs js) : FGs (gCons g gs) (gdCons dg dgs) (is ++ js) := fun {F H m σ ρ vs ds Q QV} s e r h k => by
  unfold gdCons at h
  split at h
  · next d rr =>
    obtain ⟨x, xs, rfl, r1, r2⟩ := r.inv
    refine ⟨x, xs, rfl, h1 s e r1 h fun σ1 ρ1 F1 H1 m1 g1 e1 l1 o1 q1 => ?_⟩
    refine h2 g1.si e1 (r2.mono g1.ex) q1 fun σ2 ρ2 F2 H2 m2 g2 e2 l2 o2 q2 => ?_
    refine k σ2 ρ2 F2 H2 m2 (g1.trans g2) e2 (l2.trans l1) (fun j hj => ?_) q2
    rw [List.mem_append, not_or] at hj
    rw [o2 j hj.2, o1 j hj.1]
  · exact h.elim
def gdTup (n : Nat) (gs : DGs) : DG := fun d ρ m Q => match d with
  | .tup l => l.length = n ∧ gs l ρ m Q
  | _ => False
theorem fg_tup {K : PySem.W.Frag} {n : Nat} {gs : TGs} {dgs : DGs} {is : List Nat} (h1 : FGs gs dgs is) : FG (gTup K n gs) (gdTup n dgs) is := fun {F H m σ ρ v d Q QV} s e r h k => by
  unfold gdTup at h
  split at h
  · next l =>
    obtain ⟨a, xs, rfl, f1, r1⟩ := r.tup
    exact ⟨a, xs, rfl, SqT.of (s.sub.tup f1), by rw [r1.length]; exact h.1, h1 s e r1 h.2 k⟩
  · exact h.elim
def DGX (X : Cx) (tg : Expr) (dg : DG) (is : List Nat) : Prop := ∃ g, PG X tg g ∧ FG g dg is
def DGsX (X : Cx) (tg : List Expr) (dg : DGs) (is : List Nat) : Prop := ∃ g, PGs X tg g ∧ FGs g dg is
section
variable {X : Cx} {pos : Pos} {e : Expr} {es : List Expr} {dg : DG} {dgs : DGs} {is js : List Nat}
theorem dg_name (i : Nat) {x : Str} {n : Nat} (c : CF X n) (hi : X.N[i]? = some x := by rfl) (hx : Loc X.env.scope x := by first | exact Or.inl rfl | exact Or.inr rfl) (hf : X.fn x = true ∨ X.env.scope.names.lookup x = some .local := by first | exact Or.inl rfl | exact Or.inr rfl) : DGX X (.Name x pos) (gdName i) [i] :=
  ⟨_, pg_name c.nd hi hx hf, fg_name i⟩
theorem dgs_nil : DGsX X [] gdNil [] := ⟨_, pgs_nil, fgs_nil⟩
theorem dgs_cons (h1 : DGX X e dg is) (h2 : DGsX X es dgs js) (hs : (assignEach (e :: es) X.env).map (·.2) = assign e X.env :: (assignEach es X.env).map (·.2) := by rfl) : DGsX X (e :: es) (gdCons dg dgs) (is ++ js) :=
  let ⟨_, a, b⟩ := h1; let ⟨_, c, d⟩ := h2; ⟨_, pgs_cons a c hs, fgs_cons b d⟩
theorem dg_tup {k n : Nat} {kk : Nat} (c : CF X kk) (h : DGsX X es dgs is) (hn : (assignEach es X.env).length = n := by rfl) (hst : (assignEach es X.env).findIdx? (·.1) = none := by rfl) : DGX X (.Tuple es k pos) (gdTup n dgs) is :=
  let ⟨_, a, b⟩ := h; ⟨_, pg_tup c.calm a hn hst, fg_tup b⟩
end

/-! ### statements -/
section
variable {X : Cx} {pos pos' : Pos} {e a b : Expr} {es : List Expr} {de da db : DE} {dt : DT} {ds du : DS} {st : Stmt} {sts as bs : List Stmt} {dg : DG} {is : List Nat} {n : Nat}
def dNext : DS := fun E ρ m => E.nx ρ m
def dSeq (t u : DS) : DS := fun E ρ m => t { E with nx := u E } ρ m
theorem fs_next : FS tNext dNext := fun {F H m σ ρ E D'} s e h k => k.nx _ _ F H m (Go.refl s) e h
theorem fs_seq {t u : TS} (h1 : FS t ds) (h2 : FS u du) : FS (tSeq t u) (dSeq ds du) := fun {F H m σ ρ E D'} s e h k =>
  h1 s e h ⟨fun σ2 ρ2 F2 H2 m2 g e2 q => h2 g.si e2 q (k.from g), k.rt, k.bk, k.ct⟩
theorem db_nil : DBX X [] dNext := ⟨_, pss_nil, fs_next⟩
theorem db_cons (h1 : DSX X st ds) (h2 : DBX X sts du) : DBX X (st :: sts) (dSeq ds du) := let ⟨_, a, b⟩ := h1; let ⟨_, c, d⟩ := h2; ⟨_, pss_cons a c, fs_seq b d⟩
theorem db_one (h1 : DSX X st ds) : DBX X [st] ds := let ⟨_, a, b⟩ := h1; ⟨_, pss_one a, b⟩
def dNever : DS := fun _ _ _ => False
theorem ds_never : DSX X st dNever := ⟨_, ps_never, fun {F H m σ ρ E D'} s e h k => h.elim⟩
theorem db_never : DBX X sts dNever := ⟨_, pss_never, fun {F H m σ ρ E D'} s e h k => h.elim⟩
theorem ds_pass : DSX X (.Pass pos) dNext := ⟨_, ps_pass, fs_next⟩
theorem ds_doc {x : Str} {j : Nat} : DSX X (.Expr (.Constant (.str x) j pos) pos') dNext := ⟨_, ps_doc, fs_next⟩
def dBreak : DS := fun E ρ m => E.bk ρ m
def dCont : DS := fun E ρ m => E.ct ρ m
theorem ds_break : DSX X (.Break pos) dBreak := ⟨_, ps_break, fun {F H m σ ρ E D'} s e h k => k.bk _ _ F H m (Go.refl s) e h⟩
theorem ds_cont : DSX X (.Continue pos) dCont := ⟨_, ps_continue, fun {F H m σ ρ E D'} s e h k => k.ct _ _ F H m (Go.refl s) e h⟩
def dRet (de : DE) : DS := fun E ρ m => de ρ m E.rt
theorem ds_ret (h : DX X e de) : DSX X (.Return (some e) pos) (dRet de) := let ⟨_, a, b⟩ := h
  ⟨_, ps_ret a, fun {F H m σ ρ E D'} s e h k => b s e h fun v d F2 H2 m2 g r q => k.rt v d F2 H2 m2 g r q⟩
def dRetN : DS := fun E _ m => E.rt .non m
theorem ds_retN : DSX X (.Return none pos) dRetN := ⟨_, ps_retN, fun {F H m σ ρ E D'} s e h k => k.rt _ _ F H m (Go.refl s) rep_non h⟩
def dIfS (t : DT) (a b : DS) : DS := fun E ρ m => t ρ m fun c m1 => match c with
  | true => a E ρ m1
  | false => b E ρ m1
theorem ds_if {c : Expr} (hc : DTX X c dt) (ha : DBX X as ds) (hb : DBX X bs du) : DSX X (.If c as bs pos) (dIfS dt ds du) := let ⟨_, c1, c2⟩ := hc; let ⟨_, a1, a2⟩ := ha; let ⟨_, b1, b2⟩ := hb
  ⟨_, ps_if c1 a1 b1, fun {F H m σ ρ E D'} s e h k => by
    refine c2 s e h fun b F1 H1 m1 g1 q => ?_
    cases b with
    | true =>
      rw [if_pos rfl]
      exact a2 g1.si (e.mono g1.ex) q (k.from g1)
    | false =>
      rw [if_neg Bool.false_ne_true]
      exact b2 g1.si (e.mono g1.ex) q (k.from g1)⟩
def dAsg (de : DE) (dg : DG) : DS := fun E ρ m => de ρ m fun d m1 => dg d ρ m1 E.nx
theorem fs_asg {te : TE} {g : TG} (h1 : FE te de) (h2 : FG g dg is) : FS (tAsg te g) (dAsg de dg) := fun {F H m σ ρ E D'} s e h k => by
  refine h1 s e h fun v d F1 H1 m1 g1 r1 q1 => ?_
  exact h2 g1.si (e.mono g1.ex) r1 q1 fun σ2 ρ2 F2 H2 m2 g2 e2 _ _ q2 => k.nx σ2 ρ2 F2 H2 m2 (g1.trans g2) e2 q2
theorem ds_set (i : Nat) {x : Str} (c : CF X n) (h : DX X e de) (hi : X.N[i]? = some x := by rfl) (hx : Loc X.env.scope x := by first | exact Or.inl rfl | exact Or.inr rfl) (hs : swapsWith e (some (.Name x pos')) pos.line X.env = pure false := by rfl)
    (hf : X.fn x = true ∨ X.env.scope.names.lookup x = some .local := by first | exact Or.inl rfl | exact Or.inr rfl) : DSX X (.Assign [.Name x pos'] e pos) (dAsg de (gdName i)) :=
  let ⟨_, a, b⟩ := h; ⟨_, ps_set c.nd hi hx a hs hf, fs_asg b (fg_name i)⟩
theorem ds_asg {tg : Expr} (h : DX X e de) (hg : DGX X tg dg is) (hs : swapsWithSole [tg] e pos.line X.env = pure false := by rfl) (hw : swappedStores [tg] e X.env = pure none := by rfl)
    (h1 : (assignEach [tg] X.env).map (·.2) = [assign tg X.env] := by rfl) : DSX X (.Assign [tg] e pos) (dAsg de dg) :=
  let ⟨_, a, b⟩ := h; let ⟨_, c, d⟩ := hg; ⟨_, ps_asg a c hs hw h1, fs_asg b d⟩
/-- a, b = x, y, both plain locals -/
def dPar (i j : Nat) (da : DA) : DS := fun E ρ m => da ρ m fun ds m1 => match ds with
  | [x, y] => E.nx ((ρ.set i (some x)).set j (some y)) m1
  | _ => False
theorem ds_par {i j : Nat} {x y : Str} {px py pt : Pos} {kt k2 : Nat} {pt2 : Pos} {dl : DA} (cf : CF X n) (h : DAX X [a, b] dl) (hi : X.N[i]? = some x) (hj : X.N[j]? = some y) (hij : i ≠ j)
    (hx : X.env.scope.names.lookup x = some .local) (hy : X.env.scope.names.lookup y = some .local) 
    (hw : swappedStores [.Tuple [.Name x px, .Name y py] kt pt] (.Tuple [a, b] k2 pt2) X.env = pure (some [x, y]))
    (hs : swapsWithSole [.Tuple [.Name x px, .Name y py] kt pt] (.Tuple [a, b] k2 pt2) pos.line X.env = pure false := by rfl) : DSX X (.Assign [.Tuple [.Name x px, .Name y py] kt pt] (.Tuple [a, b] k2 pt2) pos) (dPar i j dl) :=
  let ⟨_, h1, h2⟩ := h
  ⟨_, ps_par cf.calm cf.nd hi hj hij hx hy h1 hw hs, fun {F H m σ ρ E D'} s e h k => by
    refine h2 s e h fun vs ds F1 H1 m1 g1 r1 q1 => ?_
    split at q1
    · obtain ⟨u, r, rfl, ru, r2⟩ := r1.inv
      obtain ⟨w, r, rfl, rw', r3⟩ := r2.inv
      obtain rfl := r3.inv0
      exact ⟨u, w, rfl, k.nx _ _ F1 H1 m1 g1 (((e.mono g1.ex).set _ ru).set _ rw') q1⟩
    · exact q1.elim⟩
def dDrop (de : DE) : DS := fun E ρ m => de ρ m fun _ m1 => E.nx ρ m1
theorem fs_drop {te : TE} (h1 : FE te de) : FS (tDrop te) (dDrop de) := fun {F H m σ ρ E D'} s e h k => h1 s e h fun v d F2 H2 m2 g r q => k.nx _ _ F2 H2 m2 g (e.mono g.ex) q
theorem ds_expr (h : DX X e de) (hs : swapsWith e none pos.line X.env = pure false := by rfl) : DSX X (.Expr e pos) (dDrop de) := let ⟨_, a, b⟩ := h; ⟨_, ps_expr a hs, fs_drop b⟩


/-! ### ahead of a statement a cell is taken for what stands for good -/
def dFrzS (i : Nat) (t : DS) : DS := fun E ρ m => match ρ[i]? with
  | some (some (.cel a)) => match m a with
    | some (.l l) => t E (ρ.set i (some (.lst l))) (delM m a)
    | _ => False
  | _ => False
def dFrzSD (i : Nat) (t : DS) : DS := fun E ρ m => match ρ[i]? with
  | some (some (.cel a)) => match m a with
    | some (.d ks l) => t E (ρ.set i (some (.dic ks l))) (delM m a)
    | _ => False
  | _ => False
theorem RepE.reset {F : Hp} {ρ : Env} {σ : L2.St} {i : Nat} {d : D} {v : V} (h : RepE F ρ σ) (hv : σ[i]? = some (some v)) (r : Rep F d v) : RepE F (ρ.set i (some d)) σ := by
  have z := h.set i r
  have e : σ.set i (some v) = σ := by
    apply List.ext_getElem?
    intro j
    by_cases q : i = j
    · subst q
      rw [List.getElem?_set_self (by exact (List.getElem?_eq_some_iff.mp hv).1), hv]
    · rw [List.getElem?_set_ne q]
  rw [e] at z
  exact z
theorem ds_frz (i : Nat) (h : DSX X st ds) : DSX X st (dFrzS i ds) := let ⟨_, a, b⟩ := h
  ⟨_, a, fun {F H m σ ρ E D'} s e hd k => by
    unfold dFrzS at hd
    split at hd
    · next p hρ =>
      split at hd
      · next l hc =>
        obtain ⟨v, hv, rv⟩ := e.get _ _ hρ
        obtain ⟨o, ho, rc, g⟩ := Go.freeze s hc
        obtain ⟨xs, rfl, rl⟩ := rc
        obtain rfl := rv.cel
        exact b g.si ((e.mono g.ex).reset hv (rep_lst upd_same (rl.mono g.ex))) hd (k.from g)
      · exact hd.elim
    · exact hd.elim⟩
def tLockS (t : TS) : TS := fun D' σ H => ∃ d kvs, H d = some (.dK kvs) ∧ ∀ ob, t D' σ (upd H d (.frz ob (.dK kvs)))
theorem ps_lockF {t : TS} (h : PS X st t) : PS X st (tLockS t) := ⟨fun pins s σ H D' I hq => by
  obtain ⟨d, kvs, hd, q⟩ := hq
  obtain ⟨ob, I2⟩ := I.lock hd trivial
  exact h.run pins s σ _ D' I2 (q ob)⟩
theorem ds_frzD (i : Nat) (h : DSX X st ds) : DSX X st (dFrzSD i ds) := let ⟨_, a, b⟩ := h
  ⟨_, ps_lockF a, fun {F H m σ ρ E D'} s e hd k => by
    unfold dFrzSD at hd
    split at hd
    · next p hρ =>
      split at hd
      · next ks l hc =>
        obtain ⟨v, hv, rv⟩ := e.get _ _ hρ
        obtain rfl := rv.cel
        obtain ⟨kvs, ho, _, _, _⟩ := Go.lock s hc default
        refine ⟨p, kvs, ho, fun ob => ?_⟩
        obtain ⟨kvs', ho', e1', e2', g⟩ := Go.lock s hc ob
        rw [ho] at ho'; cases ho'
        exact b g.si ((e.mono g.ex).reset hv (rep_dic upd_same e1' (e2'.mono g.ex))) hd (k.from g)
      · exact hd.elim
    · exact hd.elim⟩

/-! ### a cell, looked at as what it holds -/
def vw (m : Mem) : D → D
  | .cel p => match m p with
    | some (.l ds) => .lst ds
    | _ => .cel p
  | .frl l => .lst l
  | d => d
theorem vw_lst {K : PySem.W.Frag} {F H : Hp} {m : Mem} {d : D} {v : V} {l : List D} (s : SI F H m) (r : Rep F d v) (e : vw m d = .lst l) : ∃ a xs, v = .ref a ∧ SqL K H a xs ∧ RepL F l xs := by
  unfold vw at e
  split at e
  · next p =>
    split at e
    · next ds hc =>
      cases e
      obtain ⟨_, o, ho, rc⟩ := s.cell _ _ hc
      obtain ⟨xs, rfl, rl⟩ := rc
      exact ⟨p, xs, r.cel, SqL.of ho, rl⟩
    · cases e
  · next l' =>
    cases e
    obtain ⟨a, o, xs, rfl, h1, h2⟩ := r.frl
    exact ⟨a, xs, rfl, .inl (.inr ⟨o, s.sub.frl h1⟩), h2⟩
  · next h1 h2 =>
    subst e
    obtain ⟨a, xs, rfl, h1, h2⟩ := r.lst
    exact ⟨a, xs, rfl, SqL.of (s.sub.lst h1), h2⟩
theorem vw_tup {m : Mem} {d : D} {l : List D} (e : vw m d = .tup l) : d = .tup l := by
  unfold vw at e
  split at e
  · split at e <;> cases e
  · cases e
  · exact e
theorem vw_str {m : Mem} {d : D} {l : Str} (e : vw m d = .str l) : d = .str l := by
  unfold vw at e
  split at e
  · split at e <;> cases e
  · cases e
  · exact e
theorem vw_int {m : Mem} {d : D} {l : Int} (e : vw m d = .int l) : d = .int l := by
  unfold vw at e
  split at e
  · split at e <;> cases e
  · cases e
  · exact e
theorem dp_vw {K : PySem.W.Frag} {F H : Hp} {m : Mem} {d : D} {v : V} (s : SI F H m) (p : plain (vw m d) = true) (r : Rep F d v) : Dp K H v (pd (vw m d)) := by
  cases d with
  | cel a =>
    cases hc : m a with
    | none =>
      have e : vw m (.cel a) = .cel a := by unfold vw; simp only [hc]
      rw [e] at p
      unfold plain at p; cases p
    | some c =>
      cases c with
      | d ks ds =>
        have e : vw m (.cel a) = .cel a := by unfold vw; simp only [hc]
        rw [e] at p
        unfold plain at p; cases p
      | l ds =>
        have e : vw m (.cel a) = .lst ds := by unfold vw; simp only [hc]
        rw [e] at p ⊢
        obtain ⟨_, o, ho, rc⟩ := s.cell _ _ hc
        obtain ⟨xs, rfl, rl⟩ := rc
        obtain rfl := r.cel
        have p' : plainL ds = true := by unfold plain at p; exact p
        unfold pd
        exact .lst (SqL.of ho) (dpL_of s.sub p' rl)
  | frl l =>
    have e : pd (.frl l) = pd (vw m (.frl l)) := by unfold vw pd; rfl
    rw [← e]
    exact dp_of s.sub (by have p' : plainL l = true := by unfold vw plain at p; exact p
                          unfold plain; exact p') r
  | _ => exact dp_of s.sub p r
def drEqV : DR := fun a b m Q => (okD (vw m a) = true ∧ okD (vw m b) = true) ∧ Q (.bl (eqD (vw m a) (vw m b))) m
def drNeV : DR := fun a b m Q => (okD (vw m a) = true ∧ okD (vw m b) = true) ∧ Q (.bl (!eqD (vw m a) (vw m b))) m
theorem fo_eqV {K : PySem.W.Frag} : FO (rEqD K) drEqV := fun {F H m x y a b Q QV} s ra rb q k => by
  obtain ⟨⟨q1, q2⟩, q3⟩ := q
  obtain ⟨p1, p2⟩ := okD_iff.mp q1
  obtain ⟨p3, p4⟩ := okD_iff.mp q2
  exact ⟨_, _, dp_vw s p1 ra, dp_vw s p3 rb, p2, p4, k _ _ F H m (Go.refl s) rep_bl q3⟩
theorem fo_neV {K : PySem.W.Frag} : FO (rNeD K) drNeV := fun {F H m x y a b Q QV} s ra rb q k => by
  obtain ⟨⟨q1, q2⟩, q3⟩ := q
  obtain ⟨p1, p2⟩ := okD_iff.mp q1
  obtain ⟨p3, p4⟩ := okD_iff.mp q2
  exact ⟨_, _, dp_vw s p1 ra, dp_vw s p3 rb, p2, p4, k _ _ F H m (Go.refl s) rep_bl q3⟩
theorem ox_eqV {k : Nat} (c : CF X k) : OX X (compareOp .Eq) drEqV := ⟨_, op_eqD c.room.units, fo_eqV⟩
theorem ox_neV {k : Nat} (c : CF X k) : OX X (compareOp .NotEq) drNeV := ⟨_, op_neD c.room.units, fo_neV⟩

/-! ### methods -/
abbrev DM := D → List D → Mem → (D → Mem → Prop) → Prop
def FM (r : V → List V → Hp → VK → Prop) (dm : DM) : Prop := ∀ {F H : Hp} {m : Mem} {x : V} {xs : List V} {d : D} {ds : List D} {Q : D → Mem → Prop} {QV : VK}, SI F H m → Rep F d x → RepL F ds xs → dm d ds m Q →
  (∀ v d F2 H2 m2, Go F H m F2 H2 m2 → Rep F2 d v → Q d m2 → QV v H2) → r x xs H QV
def dTy (T : String) (x : D) (m : Mem) : Prop := match vw m x with
  | .lst _ => T = "list"
  | .str _ => T = "str"
  | .int _ => T = "int"
  | _ => False
theorem ty_ok {K : PySem.W.Frag} {F H : Hp} {m : Mem} {d : D} {v : V} {T : String} (s : SI F H m) (r : Rep F d v) (h : dTy T d m) : tyV K T v H := by
  unfold dTy at h
  split at h
  · next l e =>
    obtain ⟨a, xs, rfl, h1, _⟩ := vw_lst (K := K) s r e
    exact .inl ⟨h, xs, h1⟩
  · next z e =>
    obtain rfl := vw_str e
    rw [r.str]
    exact h
  · next z e =>
    obtain rfl := vw_int e
    rw [r.int]
    exact h
  · exact h.elim
def dMt (T : String) (dm : DM) (do' : DE) (da : DA) : DE := fun ρ m Q => do' ρ m fun x m1 => dTy T x m1 ∧ da ρ m1 fun ds m2 => dm x ds m2 Q
def dMt0 (T : String) (dm : DM) (do' : DE) : DE := fun ρ m Q => do' ρ m fun x m1 => dTy T x m1 ∧ dm x [] m1 Q
theorem fe_mt {K : PySem.W.Frag} {T : String} {r : V → List V → Hp → VK → Prop} {dm : DM} {to : TE} {ta : TA} {do' : DE} {dl : DA} (hm : FM r dm) (h1 : FE to do') (h2 : FA ta dl) : FE (tBM K T r to ta) (dMt T dm do' dl) := fun {F H m σ ρ Q QV} s e h k => by
  refine h1 s e h fun x d F1 H1 m1 g1 r1 q1 => ⟨ty_ok g1.si r1 q1.1, ?_⟩
  refine h2 g1.si (e.mono g1.ex) q1.2 fun vs ds F2 H2 m2 g2 r2 q2 => ?_
  exact hm g2.si (r1.mono g2.ex) r2 q2 fun v d F3 H3 m3 g3 r3 q3 => k v d F3 H3 m3 ((g1.trans g2).trans g3) r3 q3
theorem fe_mt0 {K : PySem.W.Frag} {T : String} {r : V → List V → Hp → VK → Prop} {dm : DM} {to : TE} {do' : DE} (hm : FM r dm) (h1 : FE to do') : FE (tBM0 K T r to) (dMt0 T dm do') := fun {F H m σ ρ Q QV} s e h k => by
  refine h1 s e h fun x d F1 H1 m1 g1 r1 q1 => ⟨ty_ok g1.si r1 q1.1, ?_⟩
  exact hm g1.si r1 repL_nil q1.2 fun v d F3 H3 m3 g3 r3 q3 => k v d F3 H3 m3 (g1.trans g3) r3 q3
def MX (X : Cx) (id : String) (dm : DM) : Prop := ∃ r, MtR X id r ∧ FM r dm
theorem dx_mt {o : Expr} {name : Str} {apos cpos : Pos} {T id : String} {dm : DM} {do' : DE} {dl : DA} (pa : PlainAttrs T) (slot : Slot T name id) (hty : typeOf (.builtin id) = pure (.type "method_descriptor")) (hm : MX X id dm) (ho : DX X o do') (ha : DAX X (e :: es) dl)
    (hbase : attributeBase o name X.env (eval o X.env) = eval o X.env := by rfl)
    (hfew : ((backTo cpos (starEach (e :: es) X.env)).all (fun x => !x.1) && (backToKw cpos (keywordEach [] X.env)).all (fun x => x.1.isSome)
      && decide ((e :: es).length + ([] : List Keyword).length + (if ([] : List Keyword).isEmpty then 0 else 1) < 30)) = true := by rfl)
    (hline : (apos.endLine == cpos.line) = true := by rfl) (hs : starEach (e :: es) X.env = (false, eval e X.env) :: starEach es X.env := by rfl) (hplain : (backTo cpos (starEach es X.env)).any (·.1) = false := by rfl) :
    DX X (.Call (.Attribute o name apos) (e :: es) [] cpos) (dMt T dm do' dl) :=
  let ⟨_, a, b⟩ := hm; let ⟨_, c, d⟩ := ho; let ⟨_, f, g⟩ := ha
  ⟨_, pe_bm pa slot hty a c f hbase hfew hline hs hplain, fe_mt b d g⟩
theorem dx_mt0 {o : Expr} {name : Str} {apos cpos : Pos} {T id : String} {dm : DM} {do' : DE} (pa : PlainAttrs T) (slot : Slot T name id) (hty : typeOf (.builtin id) = pure (.type "method_descriptor")) (hm : MX X id dm) (ho : DX X o do')
    (hbase : attributeBase o name X.env (eval o X.env) = eval o X.env := by rfl) (hline : (apos.endLine == cpos.line) = true := by rfl) :
    DX X (.Call (.Attribute o name apos) [] [] cpos) (dMt0 T dm do') :=
  let ⟨_, a, b⟩ := hm; let ⟨_, c, d⟩ := ho
  ⟨_, pe_bm0 pa slot hty a c hbase hline, fe_mt0 b d⟩
def dmApp : DM := fun x ds m Q => match x, ds with
  | .cel p, [y] => match m p with
    | some (.l l) => l.length < sizeLine ∧ Q .non (updM m p (.l (l ++ [y])))
    | _ => False
  | _, _ => False
theorem mx_app : MX X "list.append" dmApp := ⟨_, mt_append, fun {F H m x xs d ds Q QV} s rx rs h k => by
  unfold dmApp at h
  split at h
  · next p y =>
    split at h
    · next l hc =>
      obtain ⟨_, o, ho, rc⟩ := s.cell _ _ hc
      obtain ⟨zs, rfl, rl⟩ := rc
      obtain ⟨u, r, rfl, ru, r2⟩ := rs.inv
      obtain rfl := r2.inv0
      refine ⟨p, zs, u, rx.cel, rfl, ho, by rw [rl.length]; exact h.1, ?_⟩
      have g := Go.write (c := .l (l ++ [y])) (o := .lst (zs ++ [u])) s hc ⟨_, rfl, rl.append (repL_cons ru repL_nil)⟩
      exact k _ _ _ _ _ g rep_non h.2
    · exact h.elim
  · exact h.elim⟩
theorem dx_app {o : Expr} {apos cpos : Pos} {do' : DE} {dl : DA} (ho : DX X o do') (ha : DAX X [e] dl)
    (hbase : attributeBase o "append" X.env (eval o X.env) = eval o X.env := by rfl)
    (hfew : ((backTo cpos (starEach [e] X.env)).all (fun x => !x.1) && (backToKw cpos (keywordEach [] X.env)).all (fun x => x.1.isSome)
      && decide (([e] : List Expr).length + ([] : List Keyword).length + (if ([] : List Keyword).isEmpty then 0 else 1) < 30)) = true := by rfl)
    (hline : (apos.endLine == cpos.line) = true := by rfl) (hs : starEach [e] X.env = (false, eval e X.env) :: starEach [] X.env := by rfl) (hplain : (backTo cpos (starEach [] X.env)).any (·.1) = false := by rfl) :
    DX X (.Call (.Attribute o "append" apos) [e] [] cpos) (dMt "list" dmApp do' dl) :=
  dx_mt PySem.F.plainAttrs_list PySem.F.slot_list_append PySem.F.type_list_append mx_app ho ha hbase hfew hline hs hplain
/-- o[i] = v, o a list that changes -/
def gdSub (do' di : DE) : DG := fun d ρ m Q => do' ρ m fun o m1 => di ρ m1 fun i m2 => match o, i with
  | .cel p, .int j => match m2 p with
    | some (.l l) => match ixN l.length j with
      | some n => Q ρ (updM m2 p (.l (l.set n d)))
      | none => False
    | _ => False
  | _, _ => False
theorem fg_sub {to ti : TE} {do' di : DE} (h1 : FE to do') (h2 : FE ti di) : FG (gSub to ti rSetL) (gdSub do' di) [] := fun {F H m σ ρ v d Q QV} s e r h k => by
  refine h1 s e h fun x dx F1 H1 m1 g1 r1 q1 => ?_
  refine h2 g1.si (e.mono g1.ex) q1 fun y dy F2 H2 m2 g2 r2 q2 => ?_
  split at q2
  · next p j =>
    split at q2
    · next l hc =>
      split at q2
      · next n hn =>
        obtain ⟨_, o, ho, rc⟩ := g2.si.cell _ _ hc
        obtain ⟨zs, rfl, rl⟩ := rc
        refine ⟨p, zs, j, n, r1.cel, r2.int, ho, by rw [rl.length]; exact hn, ?_⟩
        have g := Go.write (c := .l (l.set n d)) (o := .lst (zs.set n v)) g2.si hc ⟨_, rfl, rl.set (r.mono (g1.trans g2).ex)⟩
        exact k _ _ _ _ _ ((g1.trans g2).trans g) (e.mono ((g1.trans g2).trans g).ex) rfl (fun _ _ => rfl) q2
      · exact q2.elim
    · exact q2.elim
  · exact q2.elim
theorem dg_sub {o i : Expr} {do' di : DE} (ho : DX X o do') (hi : DX X i di)
    (ha : ∀ v, assign (.Subscript o i pos) X.env v = (do
      let ov ← holding [v] (eval o X.env)
      let iv ← holding [v, ov] (eval i X.env)
      standAt pos
      holding [v, ov, iv] (setItem ov iv v)
      release [v, ov, iv] []) := by intro _; rfl) : DGX X (.Subscript o i pos) (gdSub do' di) [] :=
  let ⟨_, a, b⟩ := ho; let ⟨_, c, d⟩ := hi; ⟨_, pg_sub a c set_list ha, fg_sub b d⟩

/-! ### dicts, keys ints and texts -/
def keyD : D → Option Key
  | .int i => some (.inl i)
  | .str x => some (.inr x)
  | _ => none
theorem keyD_rep {F : Hp} {d : D} {v : V} {k : Key} (r : Rep F d v) (h : keyD d = some k) : v = kV k := by
  unfold keyD at h
  split at h
  · cases h; exact r.int
  · cases h; exact r.str
  · cases h
def dOfK : Key → D
  | .inl i => .int i
  | .inr x => .str x
theorem dOfK_rep {F : Hp} (k : Key) : Rep F (dOfK k) (kV k) := by cases k <;> simp [dOfK, kV, Rep]
def atK (ks : List Key) (l : List D) (k : Key) : Option D := ((ks.zip l).find? fun p => decide (p.1 = k)).map (·.2)
def putKs (ks : List Key) (k : Key) : List Key := if (ks.any fun j => decide (j = k)) = true then ks else ks ++ [k]
def putDs (ks : List Key) (l : List D) (k : Key) (d : D) : List D := if (ks.any fun j => decide (j = k)) = true then (ks.zip l).map (fun p => if p.1 = k then d else p.2) else l ++ [d]
theorem atK_rep {F : Hp} {k : Key} : ∀ {ks : List Key} {l : List D} {kvs : List (Key × V)}, kvs.map (·.1) = ks → RepL F l (kvs.map (·.2)) → (∀ d, atK ks l k = some d → ∃ v, valV kvs k = some v ∧ Rep F d v) ∧ (atK ks l k = none → valV kvs k = none)
  | [], l, kvs, e, r => by
    have : kvs = [] := by cases kvs with | nil => rfl | cons a b => cases e
    subst this
    refine ⟨fun d h => by simp [atK] at h, fun _ => rfl⟩
  | k0 :: ks, l, kvs, e, r => by
    cases kvs with
    | nil => cases e
    | cons kv kvs =>
      obtain ⟨k1, v1⟩ := kv
      simp only [List.map_cons, List.cons.injEq] at e
      obtain ⟨e1, e2⟩ := e
      have e1 : k1 = k0 := e1
      subst e1
      cases l with
      | nil => have := r.inv0; cases this
      | cons d0 l =>
        obtain ⟨x, xs, hx, r1, r2⟩ := r.inv
        simp only [List.map_cons, List.cons.injEq] at hx
        obtain ⟨hx1, hx2⟩ := hx
        have hx1 : v1 = x := hx1
        subst hx1
        by_cases q : k1 = k
        · subst q
          refine ⟨fun d h => ?_, fun h => ?_⟩
          · simp [atK] at h
            subst h
            exact ⟨v1, by simp [valV], r1⟩
          · simp [atK] at h
        · have ih := atK_rep (F := F) (k := k) e2 (by rw [hx2]; exact r2)
          have a1 : atK (k1 :: ks) (d0 :: l) k = atK ks l k := by simp [atK, List.find?_cons, q]
          have a2 : valV ((k1, v1) :: kvs) k = valV kvs k := valV_neg q
          rw [a1, a2]
          exact ih
theorem mem_keys {kvs : List (Key × V)} {k : Key} : (kvs.any fun kv => decide (kv.1 = k)) = ((kvs.map (·.1)).any fun j => decide (j = k)) := by
  rw [List.any_map]; rfl
theorem repl_rep {F : Hp} {k : Key} {d : D} {v : V} (rd : Rep F d v) : ∀ {l : List D} {kvs : List (Key × V)}, RepL F l (kvs.map (·.2)) →
    RepL F (((kvs.map (·.1)).zip l).map fun p => if p.1 = k then d else p.2) ((kvs.map fun kv => if kv.1 = k then (kv.1, v) else kv).map (·.2))
  | l, [], r => by simp; exact repL_nil
  | l, kv :: kvs, r => by
    cases l with
    | nil => have := r.inv0; cases this
    | cons d0 l =>
      obtain ⟨x, xs, hx, r1, r2⟩ := r.inv
      simp only [List.map_cons, List.cons.injEq] at hx
      obtain ⟨hx1, hx2⟩ := hx
      have ih := repl_rep (k := k) rd (l := l) (kvs := kvs) (by rw [hx2]; exact r2)
      simp only [List.map_cons, List.zip_cons_cons]
      refine repL_cons ?_ ih
      by_cases q : kv.1 = k
      · simp only [q, if_true]; exact rd
      · simp only [q, if_false]; rw [hx1]; exact r1
theorem repl_keys {k : Key} {v : V} : ∀ kvs : List (Key × V), (kvs.map fun kv => if kv.1 = k then (kv.1, v) else kv).map (·.1) = kvs.map (·.1)
  | [] => rfl
  | kv :: kvs => by
    simp only [List.map_cons, repl_keys kvs]
    by_cases q : kv.1 = k
    · simp [q]
    · simp [q]
theorem put_rep {F : Hp} {k : Key} {d : D} {v : V} {ks : List Key} {l : List D} {kvs : List (Key × V)} (e : kvs.map (·.1) = ks) (r : RepL F l (kvs.map (·.2))) (rd : Rep F d v) :
    (putK kvs k v).map (·.1) = putKs ks k ∧ RepL F (putDs ks l k d) ((putK kvs k v).map (·.2)) := by
  subst e
  unfold putK putKs putDs
  rw [mem_keys]
  by_cases h : ((kvs.map (·.1)).any fun j => decide (j = k)) = true
  · rw [if_pos h, if_pos h, if_pos h]
    exact ⟨repl_keys kvs, repl_rep rd r⟩
  · rw [if_neg h, if_neg h, if_neg h]
    refine ⟨by simp, ?_⟩
    rw [List.map_append]
    exact r.append (repL_cons rd repL_nil)
/-- what a dict holds: one that stands, one that changes -/
def dkv (m : Mem) : D → Option (List Key × List D)
  | .dic ks l => some (ks, l)
  | .cel p => match m p with
    | some (.d ks l) => some (ks, l)
    | _ => none
  | _ => none
theorem dkv_rd {F H : Hp} {m : Mem} {d : D} {x : V} {ks : List Key} {l : List D} (s : SI F H m) (r : Rep F d x) (h : dkv m d = some (ks, l)) : ∃ a kvs, x = .ref a ∧ Rd H a (.dK kvs) ∧ kvs.map (·.1) = ks ∧ RepL F l (kvs.map (·.2)) := by
  cases d with
  | dic ks' l' =>
    have e : (ks', l') = (ks, l) := Option.some.inj h
    cases e
    obtain ⟨a, ob, kvs, rfl, h1, h2, h3⟩ := r.dic
    exact ⟨a, kvs, rfl, .inr ⟨ob, s.sub.frl h1⟩, h2, h3⟩
  | cel p =>
    unfold dkv at h
    cases hc : m p with
    | none => simp only [hc] at h; cases h
    | some c =>
      cases c with
      | l ds => simp only [hc] at h; cases h
      | d ks' l' =>
        simp only [hc] at h
        cases h
        obtain ⟨_, o, ho, rc⟩ := s.cell _ _ hc
        obtain ⟨kvs, rfl, h2, h3⟩ := rc
        exact ⟨p, kvs, r.cel, .inl ho, h2, h3⟩
  | _ => cases h
/-- d[k] -/
def drDGet : DR := fun a b m Q => match dkv m a, keyD b with
  | some (ks, l), some k => match atK ks l k with
    | some d => Q d m
    | none => False
  | _, _ => False
theorem fe_dget {td ty : TE} {dd dy : DE} (h1 : FE td dd) (h2 : FE ty dy) : FE (tDGet td ty) (dOp drDGet dd dy) := fun {F H m σ ρ Q QV} s e h k => by
  refine h1 s e h fun x dx F1 H1 m1 g1 r1 q1 => ?_
  refine h2 g1.si (e.mono g1.ex) q1 fun y dy F2 H2 m2 g2 r2 q2 => ?_
  unfold drDGet at q2
  split at q2
  · next ks l kk hd hk =>
    split at q2
    · next d hat =>
      obtain ⟨a, kvs, rfl, rd, e1, e2⟩ := dkv_rd g2.si (r1.mono g2.ex) hd
      obtain ⟨v, hv, rv⟩ := (atK_rep (k := kk) e1 e2).1 d hat
      exact ⟨a, v, rfl, .inl ⟨kvs, kk, rd, keyD_rep r2 hk, hv.symm⟩, k _ _ _ _ _ (g1.trans g2) rv q2⟩
    · exact q2.elim
  · exact q2.elim
theorem dx_dget {o i : Expr} {dd dy : DE} (c : CF X n) (ho : DX X o dd) (hi : DX X i dy) (hs : NoSl i := by exact fun _ _ => rfl) : DX X (.Subscript o i pos) (dOp drDGet dd dy) :=
  let ⟨_, a, b⟩ := ho; let ⟨_, c1, d⟩ := hi; ⟨_, pe_dget c.hu a c1 hs, fe_dget b d⟩
/-- d.get(k, x) -/
def dGet2 (dd dy dz : DE) : DE := fun ρ m Q => dd ρ m fun a m1 => (dkv m1 a).isSome = true ∧ dy ρ m1 fun b m2 => dz ρ m2 fun z m3 => match dkv m3 a, keyD b with
  | some (ks, l), some k => Q ((atK ks l k).getD z) m3
  | _, _ => False
theorem fe_dget2 {td ty tz : TE} {dd dy dz : DE} (h1 : FE td dd) (h2 : FE ty dy) (h3 : FE tz dz) : FE (tDGet2 td ty tz) (dGet2 dd dy dz) := fun {F H m σ ρ Q QV} s e h k => by
  refine h1 s e h fun x dx F1 H1 m1 g1 r1 q1 => ?_
  obtain ⟨q0, q1⟩ := q1
  obtain ⟨⟨ks0, l0⟩, hkv⟩ := Option.isSome_iff_exists.mp q0
  obtain ⟨a, kvs0, rfl, rd0, _, _⟩ := dkv_rd g1.si r1 hkv
  refine ⟨a, rfl, .inl ⟨kvs0, rd0⟩, ?_⟩
  refine h2 g1.si (e.mono g1.ex) q1 fun y dy F2 H2 m2 g2 r2 q2 => ?_
  refine h3 g2.si (e.mono (g1.trans g2).ex) q2 fun z dz F3 H3 m3 g3 r3 q3 => ?_
  split at q3
  · next ks l kk hd hk =>
    obtain ⟨a', kvs, ea, rd, e1, e2⟩ := dkv_rd g3.si (r1.mono (g2.trans g3).ex) hd
    cases ea
    have A := atK_rep (k := kk) e1 e2
    refine ⟨valV kvs kk, .inl ⟨kvs, kk, rd, keyD_rep (r2.mono g3.ex) hk, rfl⟩, ?_⟩
    cases hat : atK ks l kk with
    | none =>
      rw [hat] at q3
      rw [A.2 hat]
      exact k _ _ _ _ _ ((g1.trans g2).trans g3) r3 q3
    | some d =>
      rw [hat] at q3
      obtain ⟨v, hv, rv⟩ := A.1 d hat
      rw [hv]
      exact k _ _ _ _ _ ((g1.trans g2).trans g3) rv q3
  · exact q3.elim
theorem dx_dget2 {o i f : Expr} {apos cpos : Pos} {dd dy dz : DE} (c : CF X n) (ho : DX X o dd) (hi : DX X i dy) (hf : DX X f dz) (m : M2 X o "get" apos i f cpos := by exact ⟨rfl, rfl, rfl, rfl⟩) : DX X (.Call (.Attribute o "get" apos) [i, f] [] cpos) (dGet2 dd dy dz) :=
  let ⟨_, a, b⟩ := ho; let ⟨_, c1, d⟩ := hi; let ⟨_, f1, f2⟩ := hf; ⟨_, pe_dget2 c.hu a c1 f1 m, fe_dget2 b d f2⟩
/-- {} that will change -/
def dDicC : DE := fun _ m Q => ∀ p, m p = none → Q (.cel p) (updM m p (.d [] []))
theorem dx_dicC : DX X (.Dict [] [] pos) dDicC := ⟨_, pe_dnewK, fun {F H m σ ρ Q QV} s e h k p hp => by
  exact k _ _ _ _ _ (Go.cell (c := .d [] []) (o := .dK []) s hp ⟨[], rfl, rfl, repL_nil⟩) rep_cel (h p (s.fresh hp))⟩
/-- d[k] = v -/
def dDPut (dd dy dv : DE) : DS := fun E ρ m => dv ρ m fun v m1 => dd ρ m1 fun a m2 => dy ρ m2 fun b m3 => match a, keyD b with
  | .cel p, some k => match m3 p with
    | some (.d ks l) => ks.length < sizeLine ∧ E.nx ρ (updM m3 p (.d (putKs ks k) (putDs ks l k v)))
    | _ => False
  | _, _ => False
theorem fs_dput {td ty tv : TE} {dd dy dv : DE} (h1 : FE td dd) (h2 : FE ty dy) (h3 : FE tv dv) : FS (sDPut td ty tv) (dDPut dd dy dv) := fun {F H m σ ρ E D'} s e h k => by
  refine h3 s e h fun v d F1 H1 m1 g1 r1 q1 => ?_
  refine h1 g1.si (e.mono g1.ex) q1 fun x dx F2 H2 m2 g2 r2 q2 => ?_
  refine h2 g2.si (e.mono (g1.trans g2).ex) q2 fun y dy F3 H3 m3 g3 r3 q3 => ?_
  split at q3
  · next p kk hk =>
    split at q3
    · next ks l hc =>
      obtain ⟨_, o, ho, rc⟩ := g3.si.cell _ _ hc
      obtain ⟨kvs, rfl, e1, e2⟩ := rc
      have P := put_rep (k := kk) e1 e2 (r1.mono (g2.trans g3).ex)
      have g := Go.write (c := .d (putKs ks kk) (putDs ks l kk d)) (o := .dK (putK kvs kk v)) g3.si hc ⟨_, rfl, P.1, P.2⟩
      have lk : kvs.length = ks.length := by rw [← e1, List.length_map]
      have G := ((g1.trans g2).trans g3).trans g
      exact ⟨p, _, (r2.mono g3.ex).cel, .inl ⟨kvs, kk, ho, keyD_rep r3 hk, by rw [lk]; exact q3.1, rfl⟩, k.nx _ _ _ _ _ G (e.mono G.ex) q3.2⟩
    · exact q3.elim
  · exact q3.elim
theorem ds_dput {o i value : Expr} {dd dy dv : DE} (c : CF X n) (ho : DX X o dd) (hi : DX X i dy) (hv : DX X value dv) (hs : swapsWith value (some (.Subscript o i pos')) pos.line X.env = pure false := by rfl) :
    DSX X (.Assign [.Subscript o i pos'] value pos) (dDPut dd dy dv) :=
  let ⟨_, a, b⟩ := ho; let ⟨_, c1, d⟩ := hi; let ⟨_, f1, f2⟩ := hv; ⟨_, ps_dput c.hu a c1 f1 hs, fs_dput b d f2⟩
end
end PF

namespace PF
open PySem PySem.Spec L2

/-! ### built-in calls, by values -/
theorem FC.or {r r' : List V → Hp → VK → Prop} {dc dc' dq : DC} (h1 : FC r dc) (h2 : FC r' dc') (h : ∀ a m Q, dq a m Q → dc a m Q ∨ dc' a m Q) : FC (fun x H Q => r x H Q ∨ r' x H Q) dq := fun {F H m xs ds Q QV} s ra q k => by
  rcases h ds m Q q with z | z
  · exact .inl (h1 s ra z k)
  · exact .inr (h2 s ra z k)
def dCB (dc : DC) (da : DA) : DE := fun ρ m Q => da ρ m fun ds m1 => dc ds m1 Q
theorem fe_cb {r : List V → Hp → VK → Prop} {dc : DC} {ta : TA} {da : DA} (hc : FC r dc) (h : FA ta da) : FE (tCB r ta) (dCB dc da) := fun {F H m σ ρ Q QV} s e hd k => by
  refine h s e hd fun vs ds F1 H1 m1 g1 r1 q => ?_
  exact hc g1.si r1 q fun v d F2 H2 m2 g2 r2 q2 => k v d F2 H2 m2 (g1.trans g2) r2 q2
section
variable {X : Cx} {x : Str} {p pos : Pos} {e : Expr} {es : List Expr} {dc : DC} {da : DA} {id T : String} {n : Nat}
theorem dx_bi (hc : CBX X (.builtin id) dc) (hm : X.mg x = none) (hv : bootBuiltins x = some (.builtin id)) (ha : DAX X (e :: es) da) (hg : Gl X x := by rfl) (hn : x ≠ "__name__" := by decide) (hdb : (x == ("__debug__" : Str)) = false := by decide)
    (he : starEach (e :: es) X.env = (false, eval e X.env) :: starEach es X.env := by rfl) (hpl : (backTo pos (starEach es X.env)).any (·.1) = false := by rfl) : DX X (.Call (.Name x p) (e :: es) [] pos) (dCB dc da) :=
  let ⟨_, a, b⟩ := hc; let ⟨_, c, d⟩ := ha; ⟨_, pe_callB a hg hm hv c hn hdb he hpl, fe_cb b d⟩
theorem dx_ty (hc : CBX X (.type T) dc) (hm : X.mg x = none) (hv : bootBuiltins x = some (.type T)) (ha : DAX X (e :: es) da) (hg : Gl X x := by rfl) (hn : x ≠ "__name__" := by decide) (hdb : (x == ("__debug__" : Str)) = false := by decide)
    (he : starEach (e :: es) X.env = (false, eval e X.env) :: starEach es X.env := by rfl) (hpl : (backTo pos (starEach es X.env)).any (·.1) = false := by rfl) : DX X (.Call (.Name x p) (e :: es) [] pos) (dCB dc da) :=
  let ⟨_, a, b⟩ := hc; let ⟨_, c, d⟩ := ha; ⟨_, pe_callTy a hg hm hv c hn hdb he hpl, fe_cb b d⟩
/-- ints out of data -/
def ints? : List D → Option (List Int)
  | [] => some []
  | .int i :: l => (ints? l).map (i :: ·)
  | _ :: _ => none
def bls? : List D → Option (List Bool)
  | [] => some []
  | .bl i :: l => (bls? l).map (i :: ·)
  | _ :: _ => none
theorem ints?_map : ∀ ns : List Int, ints? (ns.map D.int) = some ns
  | [] => rfl
  | n :: ns => by
    show (ints? (ns.map D.int)).map (n :: ·) = _
    rw [ints?_map ns]; rfl
theorem bls?_map : ∀ ns : List Bool, bls? (ns.map D.bl) = some ns
  | [] => rfl
  | n :: ns => by
    show (bls? (ns.map D.bl)).map (n :: ·) = _
    rw [bls?_map ns]; rfl
theorem ints?_eq : ∀ {l : List D} {ns : List Int}, ints? l = some ns → l = ns.map D.int
  | [], ns, h => by cases h; rfl
  | .int i :: l, ns, h => by
    unfold ints? at h
    cases q : ints? l with
    | none => rw [q] at h; cases h
    | some r => rw [q] at h; cases h; rw [ints?_eq q]; rfl
  | .non :: l, ns, h => by cases h
  | .bl _ :: l, ns, h => by cases h
  | .str _ :: l, ns, h => by cases h
  | .tup _ :: l, ns, h => by cases h
  | .lst _ :: l, ns, h => by cases h
  | .frl _ :: l, ns, h => by cases h
  | .dic _ _ :: l, ns, h => by cases h
  | .cel _ :: l, ns, h => by cases h
theorem bls?_eq : ∀ {l : List D} {ns : List Bool}, bls? l = some ns → l = ns.map D.bl
  | [], ns, h => by cases h; rfl
  | .bl i :: l, ns, h => by
    unfold bls? at h
    cases q : bls? l with
    | none => rw [q] at h; cases h
    | some r => rw [q] at h; cases h; rw [bls?_eq q]; rfl
  | .non :: l, ns, h => by cases h
  | .int _ :: l, ns, h => by cases h
  | .str _ :: l, ns, h => by cases h
  | .tup _ :: l, ns, h => by cases h
  | .lst _ :: l, ns, h => by cases h
  | .frl _ :: l, ns, h => by cases h
  | .dic _ _ :: l, ns, h => by cases h
  | .cel _ :: l, ns, h => by cases h
/-- a list of ints, of truth values, looked at -/
def intsV (m : Mem) (d : D) : Option (List Int) := match vw m d with
  | .lst l => ints? l
  | _ => none
def blsV (m : Mem) (d : D) : Option (List Bool) := match vw m d with
  | .lst l => bls? l
  | _ => none
theorem intsV_rep {K : PySem.W.Frag} {F H : Hp} {m : Mem} {d : D} {v : V} {ns : List Int} (s : SI F H m) (r : Rep F d v) (h : intsV m d = some ns) : ∃ a, v = .ref a ∧ SqL K H a (ns.map V.int) := by
  unfold intsV at h
  split at h
  · next l e =>
    obtain ⟨a, xs, rfl, h1, h2⟩ := vw_lst (K := K) s r e
    rw [ints?_eq h] at h2
    rw [repL_ints h2] at h1
    exact ⟨a, rfl, h1⟩
  · cases h
theorem blsV_rep {K : PySem.W.Frag} {F H : Hp} {m : Mem} {d : D} {v : V} {ns : List Bool} (s : SI F H m) (r : Rep F d v) (h : blsV m d = some ns) : ∃ a, v = .ref a ∧ SqL K H a (ns.map V.bl) := by
  unfold blsV at h
  split at h
  · next l e =>
    obtain ⟨a, xs, rfl, h1, h2⟩ := vw_lst (K := K) s r e
    rw [bls?_eq h] at h2
    rw [repL_bls h2] at h1
    exact ⟨a, rfl, h1⟩
  · cases h
/-- one argument -/
def dc1 (f : D → Mem → (D → Mem → Prop) → Prop) : DC := fun ds m Q => match ds with
  | [d] => f d m Q
  | _ => False
theorem one_rep {F : Hp} {d : D} {xs : List V} (h : RepL F [d] xs) : ∃ v, xs = [v] ∧ Rep F d v := by
  obtain ⟨x, r, rfl, h1, h2⟩ := h.inv
  rw [h2.inv0]; exact ⟨x, rfl, h1⟩
theorem two_rep {F : Hp} {d e : D} {xs : List V} (h : RepL F [d, e] xs) : ∃ v w, xs = [v, w] ∧ Rep F d v ∧ Rep F e w := by
  obtain ⟨x, r, rfl, h1, h2⟩ := h.inv
  obtain ⟨y, rfl, h3⟩ := one_rep h2
  exact ⟨x, y, rfl, h1, h3⟩
def dcLen : DC := dc1 fun d m Q => match vw m d with
  | .lst l => Q (.int l.length) m
  | .tup l => Q (.int l.length) m
  | .str z => z.length ≤ sizeLine ∧ Q (.int z.length) m
  | _ => False
theorem cb_len : CBX X (.builtin "len") dcLen := ⟨_, call_len, fun {F H m xs ds Q QV} s r q k => by
  unfold dcLen dc1 at q
  split at q
  · next d =>
    obtain ⟨v, rfl, rv⟩ := one_rep r
    split at q
    · next l e =>
      obtain ⟨a, ys, rfl, h1, h2⟩ := vw_lst (K := X.K) s rv e
      exact ⟨_, ys.length, rfl, .inl ⟨ys, h1, rfl⟩, k _ _ _ _ _ (Go.refl s) rep_int (by rw [h2.length]; exact q)⟩
    · next l e =>
      obtain rfl := vw_tup e
      obtain ⟨a, ys, rfl, h1, h2⟩ := rv.tup
      exact ⟨_, ys.length, rfl, .inr ⟨ys, SqT.of (s.sub.tup h1), rfl⟩, k _ _ _ _ _ (Go.refl s) rep_int (by rw [h2.length]; exact q)⟩
    · next z e =>
      obtain rfl := vw_str e
      exact ⟨V.str z, z.length, by rw [rv.str], ⟨q.1, rfl⟩, k _ _ _ _ _ (Go.refl s) rep_int q.2⟩
    · exact q.elim
  · exact q.elim⟩
def maxI : List Int → Int
  | [] => 0
  | x :: r => r.foldl max x
def minI : List Int → Int
  | [] => 0
  | x :: r => r.foldl min x
theorem foldl_max : ∀ (r : List Int) (x : Int), (r.foldl max x = x ∨ r.foldl max x ∈ r) ∧ x ≤ r.foldl max x ∧ ∀ y ∈ r, y ≤ r.foldl max x
  | [], x => ⟨.inl rfl, Int.le_refl _, fun _ h => nomatch h⟩
  | z :: r, x => by
    obtain ⟨h1, h2, h3⟩ := foldl_max r (max x z)
    rw [List.foldl_cons]
    refine ⟨?_, by omega, fun y hy => ?_⟩
    · rcases h1 with h | h
      · by_cases c : x ≤ z
        · right; rw [h, List.mem_cons]; left; omega
        · left; rw [h]; omega
      · right; exact List.mem_cons_of_mem _ h
    · rcases List.mem_cons.mp hy with rfl | hy
      · omega
      · exact h3 y hy
theorem foldl_min : ∀ (r : List Int) (x : Int), (r.foldl min x = x ∨ r.foldl min x ∈ r) ∧ r.foldl min x ≤ x ∧ ∀ y ∈ r, r.foldl min x ≤ y
  | [], x => ⟨.inl rfl, Int.le_refl _, fun _ h => nomatch h⟩
  | z :: r, x => by
    obtain ⟨h1, h2, h3⟩ := foldl_min r (min x z)
    rw [List.foldl_cons]
    refine ⟨?_, by omega, fun y hy => ?_⟩
    · rcases h1 with h | h
      · by_cases c : x ≤ z
        · left; rw [h]; omega
        · right; rw [h, List.mem_cons]; left; omega
      · right; exact List.mem_cons_of_mem _ h
    · rcases List.mem_cons.mp hy with rfl | hy
      · omega
      · exact h3 y hy
theorem maxI_mem {ns : List Int} (h : ns ≠ []) : maxI ns ∈ ns ∧ ∀ y ∈ ns, y ≤ maxI ns := by
  cases ns with
  | nil => exact absurd rfl h
  | cons x r =>
    obtain ⟨h1, h2, h3⟩ := foldl_max r x
    show r.foldl max x ∈ x :: r ∧ ∀ y ∈ x :: r, y ≤ r.foldl max x
    refine ⟨h1.elim (fun e => by rw [e]; exact List.mem_cons_self) fun e => List.mem_cons_of_mem _ e, fun y hy => ?_⟩
    rcases List.mem_cons.mp hy with rfl | hy
    · exact h2
    · exact h3 y hy
theorem minI_mem {ns : List Int} (h : ns ≠ []) : minI ns ∈ ns ∧ ∀ y ∈ ns, minI ns ≤ y := by
  cases ns with
  | nil => exact absurd rfl h
  | cons x r =>
    obtain ⟨h1, h2, h3⟩ := foldl_min r x
    show r.foldl min x ∈ x :: r ∧ ∀ y ∈ x :: r, r.foldl min x ≤ y
    refine ⟨h1.elim (fun e => by rw [e]; exact List.mem_cons_self) fun e => List.mem_cons_of_mem _ e, fun y hy => ?_⟩
    rcases List.mem_cons.mp hy with rfl | hy
    · exact h2
    · exact h3 y hy
theorem maxI_is {ns : List Int} {v : Int} (h : v ∈ ns) (u : ∀ y ∈ ns, y ≤ v) : v = maxI ns := by
  have hn : ns ≠ [] := by intro z; rw [z] at h; cases h
  obtain ⟨a, b⟩ := maxI_mem hn
  have := u _ a; have := b _ h; omega
theorem minI_is {ns : List Int} {v : Int} (h : v ∈ ns) (u : ∀ y ∈ ns, v ≤ y) : v = minI ns := by
  have hn : ns ≠ [] := by intro z; rw [z] at h; cases h
  obtain ⟨a, b⟩ := minI_mem hn
  have := u _ a; have := b _ h; omega
def dcMax : DC := fun ds m Q => match ds with
  | [d] => match intsV m d with
    | some ns => 0 < ns.length ∧ Q (.int (maxI ns)) m
    | none => False
  | [.int i, .int j] => Q (.int (if j > i then j else i)) m
  | _ => False
def dcMin : DC := fun ds m Q => match ds with
  | [d] => match intsV m d with
    | some ns => 0 < ns.length ∧ Q (.int (minI ns)) m
    | none => False
  | [.int i, .int j] => Q (.int (if j < i then j else i)) m
  | _ => False
theorem cb_max (c : CF X n) : CBX X (.builtin "max") dcMax := ⟨_, (cr_max c.calm).or (call_max2 c.calm), fun {F H m xs ds Q QV} s r q k => by
  unfold dcMax at q
  split at q
  · next d =>
    split at q
    · next ns e =>
      obtain ⟨v, rfl, rv⟩ := one_rep r
      obtain ⟨a, rfl, h1⟩ := intsV_rep (K := X.K) s rv e
      exact .inl ⟨a, ns, rfl, h1, q.1, fun v hv hu => by rw [maxI_is hv hu]; exact k _ _ _ _ _ (Go.refl s) rep_int q.2⟩
    · exact q.elim
  · next i j =>
    obtain ⟨v, w, rfl, rv, rw'⟩ := two_rep r
    exact .inr ⟨i, j, by rw [rv.int, rw'.int], k _ _ _ _ _ (Go.refl s) rep_int q⟩
  · exact q.elim⟩
theorem cb_min (c : CF X n) : CBX X (.builtin "min") dcMin := ⟨_, (cr_min c.calm).or (call_min2 c.calm), fun {F H m xs ds Q QV} s r q k => by
  unfold dcMin at q
  split at q
  · next d =>
    split at q
    · next ns e =>
      obtain ⟨v, rfl, rv⟩ := one_rep r
      obtain ⟨a, rfl, h1⟩ := intsV_rep (K := X.K) s rv e
      exact .inl ⟨a, ns, rfl, h1, q.1, fun v hv hu => by rw [minI_is hv hu]; exact k _ _ _ _ _ (Go.refl s) rep_int q.2⟩
    · exact q.elim
  · next i j =>
    obtain ⟨v, w, rfl, rv, rw'⟩ := two_rep r
    exact .inr ⟨i, j, by rw [rv.int, rw'.int], k _ _ _ _ _ (Go.refl s) rep_int q⟩
  · exact q.elim⟩
def dcSum : DC := dc1 fun d m Q => match intsV m d with
  | some ns => Q (.int ns.sum) m
  | none => False
theorem cb_sum (c : CF X n) : CBX X (.builtin "sum") dcSum := ⟨_, cr_sum c.calm, fun {F H m xs ds Q QV} s r q k => by
  unfold dcSum dc1 at q
  split at q
  · split at q
    · next ns e =>
      obtain ⟨v, rfl, rv⟩ := one_rep r
      obtain ⟨a, rfl, h1⟩ := intsV_rep (K := X.K) s rv e
      exact ⟨a, ns, rfl, h1, k _ _ _ _ _ (Go.refl s) rep_int q⟩
    · exact q.elim
  · exact q.elim⟩
def dcAll : DC := dc1 fun d m Q => match blsV m d with
  | some bs => Q (.bl (bs.all fun b => b)) m
  | none => False
def dcAny : DC := dc1 fun d m Q => match blsV m d with
  | some bs => Q (.bl (bs.any fun b => b)) m
  | none => False
theorem cb_all (c : CF X n) : CBX X (.builtin "all") dcAll := ⟨_, cr_all c.calm, fun {F H m xs ds Q QV} s r q k => by
  unfold dcAll dc1 at q
  split at q
  · split at q
    · next ns e =>
      obtain ⟨v, rfl, rv⟩ := one_rep r
      obtain ⟨a, rfl, h1⟩ := blsV_rep (K := X.K) s rv e
      exact ⟨a, ns, rfl, h1, k _ _ _ _ _ (Go.refl s) rep_bl q⟩
    · exact q.elim
  · exact q.elim⟩
theorem cb_any (c : CF X n) : CBX X (.builtin "any") dcAny := ⟨_, cr_any c.calm, fun {F H m xs ds Q QV} s r q k => by
  unfold dcAny dc1 at q
  split at q
  · split at q
    · next ns e =>
      obtain ⟨v, rfl, rv⟩ := one_rep r
      obtain ⟨a, rfl, h1⟩ := blsV_rep (K := X.K) s rv e
      exact ⟨a, ns, rfl, h1, k _ _ _ _ _ (Go.refl s) rep_bl q⟩
    · exact q.elim
  · exact q.elim⟩
def dcAbs : DC := dc1 fun d m Q => match d with
  | .int i => Q (.int (if i < 0 then -i else i)) m
  | _ => False
theorem cb_abs : CBX X (.builtin "abs") dcAbs := ⟨_, call_abs, fun {F H m xs ds Q QV} s r q k => by
  unfold dcAbs dc1 at q
  split at q
  · split at q
    · next i =>
      obtain ⟨v, rfl, rv⟩ := one_rep r
      exact ⟨i, by rw [rv.int], k _ _ _ _ _ (Go.refl s) rep_int q⟩
    · exact q.elim
  · exact q.elim⟩
def dcInt : DC := dc1 fun d m Q => match d with
  | .int i => Q (.int i) m
  | .bl b => Q (.int (if b then 1 else 0)) m
  | _ => False
theorem cb_int : CBX X (.type "int") dcInt := ⟨_, call_int1, fun {F H m xs ds Q QV} s r q k => by
  unfold dcInt dc1 at q
  split at q
  · split at q
    · next i =>
      obtain ⟨v, rfl, rv⟩ := one_rep r
      exact .inl ⟨i, by rw [rv.int], k _ _ _ _ _ (Go.refl s) rep_int q⟩
    · next b =>
      obtain ⟨v, rfl, rv⟩ := one_rep r
      exact .inr ⟨b, by rw [rv.bl], k _ _ _ _ _ (Go.refl s) rep_int q⟩
    · exact q.elim
  · exact q.elim⟩
def dcTuple : DC := dc1 fun d m Q => match vw m d with
  | .lst l => Q (.tup l) m
  | .tup l => Q (.tup l) m
  | _ => False
theorem cb_tuple : CBX X (.type "tuple") dcTuple := ⟨_, call_tuple_of, fun {F H m xs ds Q QV} s r q k => by
  unfold dcTuple dc1 at q
  split at q
  · next d =>
    obtain ⟨v, rfl, rv⟩ := one_rep r
    split at q
    · next l e =>
      obtain ⟨a, ys, rfl, h1, h2⟩ := vw_lst (K := X.K) s rv e
      refine ⟨a, ys, rfl, .inl ⟨h1, fun p hp => ?_⟩⟩
      have g := Go.froz (o := .tup ys) s hp
      exact k _ _ _ _ _ g (rep_tup upd_same (h2.mono g.ex)) q
    · next l e =>
      obtain rfl := vw_tup e
      obtain ⟨a, ys, rfl, h1, h2⟩ := rv.tup
      exact ⟨a, ys, rfl, .inr ⟨SqT.of (s.sub.tup h1), k _ _ _ _ _ (Go.refl s) (rep_tup h1 h2) q⟩⟩
    · exact q.elim
  · exact q.elim⟩
def dcList : DC := dc1 fun d m Q => match vw m d with
  | .lst l => Q (.lst l) m
  | .tup l => Q (.lst l) m
  | _ => False
theorem cb_list : CBX X (.type "list") dcList := ⟨_, call_list_of, fun {F H m xs ds Q QV} s r q k => by
  unfold dcList dc1 at q
  split at q
  · next d =>
    obtain ⟨v, rfl, rv⟩ := one_rep r
    split at q
    · next l e =>
      obtain ⟨a, ys, rfl, h1, h2⟩ := vw_lst (K := X.K) s rv e
      refine ⟨a, ys, rfl, .inl h1, fun p hp => ?_⟩
      have g := Go.froz (o := .lst ys) s hp
      exact k _ _ _ _ _ g (rep_lst upd_same (h2.mono g.ex)) q
    · next l e =>
      obtain rfl := vw_tup e
      obtain ⟨a, ys, rfl, h1, h2⟩ := rv.tup
      refine ⟨a, ys, rfl, .inr (SqT.of (s.sub.tup h1)), fun p hp => ?_⟩
      have g := Go.froz (o := .lst ys) s hp
      exact k _ _ _ _ _ g (rep_lst upd_same (h2.mono g.ex)) q
    · exact q.elim
  · exact q.elim⟩
/-- sorted ints -/
def insI (x : Int) : List Int → List Int
  | [] => [x]
  | y :: r => if x ≤ y then x :: y :: r else y :: insI x r
def sortI : List Int → List Int
  | [] => []
  | x :: r => insI x (sortI r)
theorem insI_perm (x : Int) : ∀ l : List Int, (insI x l).Perm (x :: l)
  | [] => .refl _
  | y :: r => by
    unfold insI
    split
    · exact .refl _
    · exact ((insI_perm x r).cons y).trans (.swap x y r)
theorem sortI_perm : ∀ l : List Int, (sortI l).Perm l
  | [] => .refl _
  | x :: r => (insI_perm x (sortI r)).trans ((sortI_perm r).cons x)
theorem insI_sorted (x : Int) : ∀ l : List Int, l.Pairwise (· ≤ ·) → (insI x l).Pairwise (· ≤ ·)
  | [], _ => by unfold insI; exact List.pairwise_singleton _ _
  | y :: r, h => by
    unfold insI
    obtain ⟨h1, h2⟩ := List.pairwise_cons.mp h
    split
    · next c =>
      refine List.pairwise_cons.mpr ⟨fun z hz => ?_, h⟩
      rcases List.mem_cons.mp hz with rfl | hz
      · exact c
      · have := h1 z hz; omega
    · next c =>
      refine List.pairwise_cons.mpr ⟨fun z hz => ?_, insI_sorted x r h2⟩
      rcases List.mem_cons.mp ((insI_perm x r).mem_iff.mp hz) with rfl | hz
      · omega
      · exact h1 z hz
theorem sortI_sorted : ∀ l : List Int, (sortI l).Pairwise (· ≤ ·)
  | [] => .nil
  | x :: r => insI_sorted x _ (sortI_sorted r)
theorem sorted_uniq : ∀ {l k : List Int}, l.Perm k → l.Pairwise (· ≤ ·) → k.Pairwise (· ≤ ·) → l = k
  | [], k, p, _, _ => by rw [p.nil_eq]
  | x :: l, k, p, h1, h2 => by
    cases k with
    | nil => have := p.length_eq; simp at this
    | cons y k =>
      obtain ⟨a1, a2⟩ := List.pairwise_cons.mp h1
      obtain ⟨b1, b2⟩ := List.pairwise_cons.mp h2
      have m1 : x ∈ y :: k := p.mem_iff.mp List.mem_cons_self
      have m2 : y ∈ x :: l := p.mem_iff.mpr List.mem_cons_self
      have e : x = y := by
        rcases List.mem_cons.mp m1 with e | m1
        · exact e
        · rcases List.mem_cons.mp m2 with e | m2
          · exact e.symm
          · have := a1 y m2; have := b1 x m1; omega
      subst e
      rw [sorted_uniq ((List.perm_cons x).mp p) a2 b2]
theorem sortI_is {l k : List Int} (p : l.Perm k) (h : l.Pairwise (· ≤ ·)) : l = sortI k := sorted_uniq (p.trans (sortI_perm k).symm) h (sortI_sorted k)
def dcSorted : DC := dc1 fun d m Q => match intsV m d with
  | some ns => Q (.lst ((sortI ns).map D.int)) m
  | none => False
theorem cb_sorted : CBX X (.builtin "sorted") dcSorted := ⟨_, cr_sortedI, fun {F H m xs ds Q QV} s r q k => by
  unfold dcSorted dc1 at q
  split at q
  · split at q
    · next ns e =>
      obtain ⟨v, rfl, rv⟩ := one_rep r
      obtain ⟨a, rfl, h1⟩ := intsV_rep (K := X.K) s rv e
      refine ⟨a, ns, rfl, h1, fun ns' p pm pw hp => ?_⟩
      obtain rfl := sortI_is pm pw
      have g := Go.froz (o := .lst ((sortI ns).map V.int)) s hp
      exact k _ _ _ _ _ g (rep_lst upd_same (repL_of_ints _)) q
    · exact q.elim
  · exact q.elim⟩
/-- sorted(xs, reverse=b) -/
def dSortedR (b : Bool) (da : DA) : DE := fun ρ m Q => da ρ m fun ds m1 => match ds with
  | [d] => match intsV m1 d with
    | some ns => Q (.lst ((if b then (sortI ns).reverse else sortI ns).map D.int)) m1
    | none => False
  | _ => False
theorem dx_sortedR {b : Bool} {j : Nat} {kp cp : Pos} (ha : DAX X [e] da) (hm : X.mg x = none) (hv : bootBuiltins x = some (.builtin "sorted")) (hg : Gl X x := by rfl)
    (mk : ∀ {ta : TA}, PA X [e] ta → PE X (.Call (.Name x p) [e] [⟨some (Str.ofString "reverse"), .Constant (.bool b) j cp, kp⟩] pos) (tCKw (rSortedKw X.K b [.bl b]) ta (tCons (tC (.bl b)) tNil))) :
    DX X (.Call (.Name x p) [e] [⟨some (Str.ofString "reverse"), .Constant (.bool b) j cp, kp⟩] pos) (dSortedR b da) :=
  let ⟨_, h1, h2⟩ := ha
  ⟨_, mk h1, fun {F H m σ ρ Q QV} s e h k => by
    refine h2 s e h fun vs ds F1 H1 m1 g1 r1 q => ?_
    split at q
    · split at q
      · next ns e' =>
        obtain ⟨v, rfl, rv⟩ := one_rep r1
        obtain ⟨a, rfl, h1⟩ := intsV_rep (K := X.K) g1.si rv e'
        refine ⟨a, ns, rfl, rfl, h1, fun ns' p pm pw hp => ?_⟩
        have en : ns' = if b then (sortI ns).reverse else sortI ns := by
          cases b with
          | false => exact sortI_is pm (by simpa [OrdB] using pw)
          | true =>
            have z : ns'.reverse = sortI ns := sortI_is ((List.reverse_perm ns').trans pm) (by
              have pw' : ns'.Pairwise (· ≥ ·) := by simpa [OrdB] using pw
              rw [List.pairwise_reverse]; exact pw')
            show ns' = (sortI ns).reverse
            rw [← z, List.reverse_reverse]
        subst en
        have g := Go.froz (o := .lst ((if b then (sortI ns).reverse else sortI ns).map V.int)) g1.si hp
        exact k _ _ _ _ _ (g1.trans g) (rep_lst upd_same (repL_of_ints _)) q
      · exact q.elim
    · exact q.elim⟩

/-! ### isinstance -/
def tyD : D → String
  | .non => "NoneType"
  | .bl _ => "bool"
  | .int _ => "int"
  | .str _ => "str"
  | .tup _ => "tuple"
  | .lst _ => "list"
  | .frl _ => "list"
  | .dic _ _ => "dict"
  | .cel _ => "?"
def dIsi (T : String) (de : DE) : DE := fun ρ m Q => de ρ m fun d m1 => match kitB (tyD d) T with
  | some b => tyD d ≠ "?" ∧ Q (.bl b) m1
  | none => False
theorem tyD_rep {K : PySem.W.Frag} {F H : Hp} (s : Sub F H) {d : D} {v : V} (r : Rep F d v) (h : tyD d ≠ "?") : TyX K H v (.type (tyD d)) := by
  cases d with
  | non => rw [r.non]; exact .base .non
  | bl b => rw [r.bl]; exact .base (.bl b)
  | int b => rw [r.int]; exact .base (.int b)
  | str b => rw [r.str]; exact .base (.str b)
  | tup l => obtain ⟨a, xs, rfl, h1, _⟩ := r.tup; exact .base (.tup (s.tup h1))
  | lst l => obtain ⟨a, xs, rfl, h1, _⟩ := r.lst; exact .base (.lst (s.lst h1))
  | frl l => obtain ⟨a, o, xs, rfl, h1, _⟩ := r.frl; exact .base (.frz (s.frl h1))
  | dic ks l =>
    obtain ⟨a, ob, kvs, rfl, h1, _, _⟩ := r.dic
    exact .fDict (s.frl h1)
  | cel a => exact absurd rfl h
theorem dx_isi {T : String} {z : Str} {pz : Pos} {de : DE} (ha : DX X e de) (hm : X.mg x = none) (hv : bootBuiltins x = some (.builtin "isinstance")) (hmz : X.mg z = none) (hvz : bootBuiltins z = some (.type T)) (cl : ClsV (.ty T) (.type T))
    (hg : Gl X x := by rfl) (hgz : Gl X z := by rfl) (hn : x ≠ "__name__" := by decide) (hdb : (x == ("__debug__" : Str)) = false := by decide) (hnz : z ≠ "__name__" := by decide) (hdz : (z == ("__debug__" : Str)) = false := by decide)
    (he1 : starEach [e, .Name z pz] X.env = (false, eval e X.env) :: starEach [.Name z pz] X.env := by rfl) (he2 : starEach [.Name z pz] X.env = (false, eval (.Name z pz) X.env) :: starEach [] X.env := by rfl)
    (hpl : (backTo pos (starEach [.Name z pz] X.env)).any (·.1) = false := by rfl) :
    DX X (.Call (.Name x p) [e, .Name z pz] [] pos) (dIsi T de) :=
  let ⟨_, h1, h2⟩ := ha
  ⟨_, pe_callB call_isi hg hm hv (pa_cons h1 (pa_cons (pe_bltn (v := .ty T) hgz hmz hvz rfl hnz hdz) pa_nil he2) he1) hn hdb he1 hpl, fun {F H m σ ρ Q QV} s e h k => by
    refine h2 s e h fun v d F1 H1 m1 g1 r1 q => ?_
    split at q
    · next b hb =>
      exact ⟨v, .ty T, _, _, b, rfl, cl, tyD_rep g1.si.sub r1 q.1, kit_ty hb, k _ _ _ _ _ g1 rep_bl q.2⟩
    · exact q.elim⟩
end
end PF

namespace PF
open PySem PySem.Spec L2

/-! ### what is walked -/
theorem RepL.ixd {F : Hp} {l : List D} {xs : List V} (h : RepL F l xs) {i : Nat} (hi : i < l.length) : ∃ x d, xs[i]? = some x ∧ l[i]? = some d ∧ Rep F d x := by
  obtain ⟨x, h1, h2⟩ := h.get (List.getElem?_eq_getElem hi)
  exact ⟨x, _, h1, List.getElem?_eq_getElem hi, h2⟩
theorem iw_list {K : PySem.W.Frag} {F : Hp} {a : Addr} {xs : List V} {l : List D} (h : ∀ {F1 H1 : Hp}, Ex F F1 → Sub F1 H1 → SqL K H1 a xs) (r : RepL F l xs) : IW (Itl K a) l F (fun _ => True) where
  stay := fun _ _ _ z => z
  go := fun {F1 H1 m1 i} e s _ hi => by
    obtain ⟨x, d, h1, _, _⟩ := r.ixd hi
    exact ⟨xs, x, h e s.sub, h1⟩
  stop := fun {F1 H1 m1} e s _ => ⟨xs, h e s.sub, by rw [r.length]; exact Nat.le_refl _⟩
  yld := fun {F1 H1 H2 m1 i x} e s _ hi y => by
    obtain ⟨rfl, y⟩ := y
    obtain ⟨x', d, h1, h2, h3⟩ := r.ixd hi
    have := y xs (h e s.sub)
    rw [h1] at this; cases this
    exact ⟨d, F1, h2, Go.refl s, h3.mono e⟩
theorem iw_tup {K : PySem.W.Frag} {F : Hp} {a : Addr} {xs : List V} {l : List D} (h : F a = some (.tup xs)) (r : RepL F l xs) : IW (Itt K a) l F (fun _ => True) where
  stay := fun _ _ _ z => z
  go := fun {F1 H1 m1 i} e s _ hi => by
    obtain ⟨x, d, h1, _, _⟩ := r.ixd hi
    exact ⟨xs, x, SqT.of (s.sub.tup (e _ _ h)), h1⟩
  stop := fun {F1 H1 m1} e s _ => ⟨xs, SqT.of (s.sub.tup (e _ _ h)), by rw [r.length]; exact Nat.le_refl _⟩
  yld := fun {F1 H1 H2 m1 i x} e s _ hi y => by
    obtain ⟨rfl, y⟩ := y
    obtain ⟨x', d, h1, h2, h3⟩ := r.ixd hi
    have := y xs (SqT.of (s.sub.tup (e _ _ h)))
    rw [h1] at this; cases this
    exact ⟨d, F1, h2, Go.refl s, h3.mono e⟩
/-- lo, lo + 1, .. -/
def rngD (lo : Int) (n : Nat) : List D := (List.range n).map fun (i : Nat) => D.int (lo + (i : Int))
theorem rngD_len {lo : Int} {n : Nat} : (rngD lo n).length = n := by simp [rngD]
theorem iw_rng {F : Hp} {lo : Int} {n : Nat} : IW (Itr lo n) (rngD lo n) F (fun _ => True) where
  stay := fun _ _ _ z => z
  go := fun {F1 H1 m1 i} e s _ hi => by rw [rngD_len] at hi; exact hi
  stop := fun {F1 H1 m1} e s _ => by rw [rngD_len]; exact Nat.le_refl n
  yld := fun {F1 H1 H2 m1 i x} e s _ hi y => by
    obtain ⟨rfl, rfl⟩ := y
    rw [rngD_len] at hi
    exact ⟨.int (lo + i), F1, by simp [rngD, hi], Go.refl s, rep_int⟩
/-- (0, x), (1, y), .. -/
def enumD (l : List D) : List D := l.zipIdx.map fun p => D.tup [.int (p.2 : Nat), p.1]
theorem enumD_len {l : List D} : (enumD l).length = l.length := by simp [enumD]
theorem enumD_at {l : List D} {i : Nat} {d : D} (h : l[i]? = some d) : (enumD l)[i]? = some (.tup [.int (i : Nat), d]) := by
  simp [enumD, h]
def zipD (l k : List D) : List D := List.zipWith (fun a b => D.tup [a, b]) l k
theorem zipD_at {l k : List D} {i : Nat} {d e : D} (h : l[i]? = some d) (h2 : k[i]? = some e) : (zipD l k)[i]? = some (.tup [d, e]) := by
  simp [zipD, List.getElem?_zipWith, h, h2]
/-- a new pair -/
theorem pair_new {F H : Hp} {m : Mem} {T : Addr} {x y : V} {a b : D} (s : SI F H m) (hT : H T = none) (ra : Rep F a x) (rb : Rep F b y) :
    Go F H m (upd F T (.tup [x, y])) (upd H T (.tup [x, y])) m ∧ Rep (upd F T (.tup [x, y])) (.tup [a, b]) (.ref T) := by
  have g := Go.froz (o := .tup [x, y]) s hT
  exact ⟨g, rep_tup upd_same (repL_cons (ra.mono g.ex) (repL_cons (rb.mono g.ex) repL_nil))⟩
theorem iw_enum {K : PySem.W.Frag} {F : Hp} {a : Addr} {xs : List V} {l : List D} (h : F a = some (.lst xs)) (r : RepL F l xs) : IW (Ite K a) (enumD l) F (fun _ => True) where
  stay := fun _ _ _ z => z
  go := fun {F1 H1 m1 i} e s _ hi => by
    rw [enumD_len] at hi
    obtain ⟨x, d, h1, _, _⟩ := r.ixd hi
    exact ⟨xs, x, SqL.of (s.sub.lst (e _ _ h)), h1⟩
  stop := fun {F1 H1 m1} e s _ => ⟨xs, SqL.of (s.sub.lst (e _ _ h)), by rw [enumD_len, r.length]; exact Nat.le_refl _⟩
  yld := fun {F1 H1 H2 m1 i x} e s _ hi y => by
    rw [enumD_len] at hi
    obtain ⟨T, z, rfl, hT, rfl, y⟩ := y
    obtain ⟨x', d, h1, h2, h3⟩ := r.ixd hi
    have := y xs (SqL.of (s.sub.lst (e _ _ h)))
    rw [h1] at this; cases this
    obtain ⟨g, rr⟩ := pair_new (a := .int (i : Nat)) s hT rep_int (h3.mono e)
    exact ⟨_, _, enumD_at h2, g, rr⟩
theorem iw_zipL {K : PySem.W.Frag} {F : Hp} {a b : Addr} {xs ys : List V} {l k : List D} (h : F a = some (.lst xs)) (h' : F b = some (.lst ys)) (r : RepL F l xs) (r' : RepL F k ys) : IW (Itz K a b) (zipD l k) F (fun _ => True) where
  stay := fun _ _ _ z => z
  go := fun {F1 H1 m1 i} e s _ hi => by
    simp [zipD] at hi
    obtain ⟨x, d, h1, _, _⟩ := r.ixd (i := i) (by omega)
    obtain ⟨x2, d2, h2, _, _⟩ := r'.ixd (i := i) (by omega)
    exact ⟨xs, ys, x, x2, SqL.of (s.sub.lst (e _ _ h)), SqL.of (s.sub.lst (e _ _ h')), h1, h2⟩
  stop := fun {F1 H1 m1} e s _ => ⟨xs, ys, SqL.of (s.sub.lst (e _ _ h)), SqL.of (s.sub.lst (e _ _ h')), by rw [r.length, r'.length]; simp [zipD]; omega⟩
  yld := fun {F1 H1 H2 m1 i x} e s _ hi y => by
    simp [zipD] at hi
    obtain ⟨T, z, z2, rfl, hT, rfl, y1, y2⟩ := y
    obtain ⟨x', d, h1, h2, h3⟩ := r.ixd (i := i) (by omega)
    obtain ⟨x2', d2, h12, h22, h32⟩ := r'.ixd (i := i) (by omega)
    have := y1 xs (SqL.of (s.sub.lst (e _ _ h)))
    rw [h1] at this; cases this
    have := y2 ys (SqL.of (s.sub.lst (e _ _ h')))
    rw [h12] at this; cases this
    obtain ⟨g, rr⟩ := pair_new s hT (h3.mono e) (h32.mono e)
    exact ⟨_, _, zipD_at h2 h22, g, rr⟩
theorem iw_zipT {K : PySem.W.Frag} {F : Hp} {a b : Addr} {xs ys : List V} {l k : List D} (h : F a = some (.tup xs)) (h' : F b = some (.tup ys)) (r : RepL F l xs) (r' : RepL F k ys) : IW (RZ.ItzT K a b) (zipD l k) F (fun _ => True) where
  stay := fun _ _ _ z => z
  go := fun {F1 H1 m1 i} e s _ hi => by
    simp [zipD] at hi
    obtain ⟨x, d, h1, _, _⟩ := r.ixd (i := i) (by omega)
    obtain ⟨x2, d2, h2, _, _⟩ := r'.ixd (i := i) (by omega)
    exact ⟨xs, ys, x, x2, SqT.of (s.sub.tup (e _ _ h)), SqT.of (s.sub.tup (e _ _ h')), h1, h2⟩
  stop := fun {F1 H1 m1} e s _ => ⟨xs, ys, SqT.of (s.sub.tup (e _ _ h)), SqT.of (s.sub.tup (e _ _ h')), by rw [r.length, r'.length]; simp [zipD]; omega⟩
  yld := fun {F1 H1 H2 m1 i x} e s _ hi y => by
    simp [zipD] at hi
    obtain ⟨T, z, z2, rfl, hT, rfl, y1, y2⟩ := y
    obtain ⟨x', d, h1, h2, h3⟩ := r.ixd (i := i) (by omega)
    obtain ⟨x2', d2, h12, h22, h32⟩ := r'.ixd (i := i) (by omega)
    have := y1 xs (SqT.of (s.sub.tup (e _ _ h)))
    rw [h1] at this; cases this
    have := y2 ys (SqT.of (s.sub.tup (e _ _ h')))
    rw [h12] at this; cases this
    obtain ⟨g, rr⟩ := pair_new s hT (h3.mono e) (h32.mono e)
    exact ⟨_, _, zipD_at h2 h22, g, rr⟩

def DIX (X : Cx) (tg iter : Expr) (di : DI) : Prop := ∃ wi, PI X tg iter wi ∧ FI wi di
/-- a list that stands, a tuple -/
def diL (de : DE) : DI := fun ρ m R => de ρ m fun d m1 => match d with
  | .lst l => R l m1
  | .frl l => R l m1
  | _ => False
def diT (de : DE) : DI := fun ρ m R => de ρ m fun d m1 => match d with
  | .tup l => R l m1
  | _ => False
theorem fi_list {K : PySem.W.Frag} {te : TE} {de : DE} (h : FE te de) : FI (iList K te) (diL de) := fun {F H m σ ρ R RV} s e hd k => by
  refine h s e hd fun v d F1 H1 m1 g1 r1 q => ?_
  split at q
  · next l =>
    obtain ⟨a, xs, rfl, h1, h2⟩ := r1.lst
    exact ⟨a, rfl, ⟨xs, SqL.of (g1.si.sub.lst h1)⟩, k _ _ _ _ _ _ g1 (iw_list (fun e s => SqL.of (s.lst (e _ _ h1))) h2) trivial q⟩
  · next l =>
    obtain ⟨a, o, xs, rfl, h1, h2⟩ := r1.frl
    exact ⟨a, rfl, ⟨xs, .inl (.inr ⟨o, g1.si.sub.frl h1⟩)⟩, k _ _ _ _ _ _ g1 (iw_list (fun e s => .inl (.inr ⟨o, s.frl (e _ _ h1)⟩)) h2) trivial q⟩
  · exact q.elim
theorem fi_tup {K : PySem.W.Frag} {te : TE} {de : DE} (h : FE te de) : FI (iTup K te) (diT de) := fun {F H m σ ρ R RV} s e hd k => by
  refine h s e hd fun v d F1 H1 m1 g1 r1 q => ?_
  split at q
  · next l =>
    obtain ⟨a, xs, rfl, h1, h2⟩ := r1.tup
    exact ⟨a, rfl, ⟨xs, SqT.of (g1.si.sub.tup h1)⟩, k _ _ _ _ _ _ g1 (iw_tup h1 h2) trivial q⟩
  · exact q.elim
def diR1 (da : DA) : DI := fun ρ m R => da ρ m fun ds m1 => match ds with
  | [.int j] => (-(2 ^ 62) ≤ j ∧ j < 2 ^ 62) ∧ R (rngD 0 j.toNat) m1
  | _ => False
def diR2 (da : DA) : DI := fun ρ m R => da ρ m fun ds m1 => match ds with
  | [.int i, .int j] => (-(2 ^ 62) ≤ i ∧ i < 2 ^ 62 ∧ -(2 ^ 62) ≤ j ∧ j < 2 ^ 62) ∧ R (rngD i (j - i).toNat) m1
  | _ => False
theorem fi_r1 {ta : TA} {da : DA} (h : FA ta da) : FI (iRng1 ta) (diR1 da) := fun {F H m σ ρ R RV} s e hd k => by
  refine h s e hd fun vs ds F1 H1 m1 g1 r1 q => ?_
  split at q
  · next j =>
    obtain ⟨v, rfl, rv⟩ := one_rep r1
    exact ⟨j, by rw [rv.int], q.1.1, q.1.2, k _ _ _ _ _ _ g1 iw_rng trivial q.2⟩
  · exact q.elim
theorem fi_r2 {ta : TA} {da : DA} (h : FA ta da) : FI (iRng2 ta) (diR2 da) := fun {F H m σ ρ R RV} s e hd k => by
  refine h s e hd fun vs ds F1 H1 m1 g1 r1 q => ?_
  split at q
  · next i j =>
    obtain ⟨v, w, rfl, rv, rw'⟩ := two_rep r1
    exact ⟨i, j, by rw [rv.int, rw'.int], q.1, k _ _ _ _ _ _ g1 iw_rng trivial q.2⟩
  · exact q.elim
def diEn (da : DA) : DI := fun ρ m R => da ρ m fun ds m1 => match ds with
  | [.lst l] => R (enumD l) m1
  | _ => False
theorem fi_enum {K : PySem.W.Frag} {ta : TA} {da : DA} (h : FA ta da) : FI (iEnum K ta) (diEn da) := fun {F H m σ ρ R RV} s e hd k => by
  refine h s e hd fun vs ds F1 H1 m1 g1 r1 q => ?_
  split at q
  · next l =>
    obtain ⟨v, rfl, rv⟩ := one_rep r1
    obtain ⟨a, xs, rfl, h1, h2⟩ := rv.lst
    exact ⟨a, xs, rfl, SqL.of (g1.si.sub.lst h1), k _ _ _ _ _ _ g1 (iw_enum h1 h2) trivial q⟩
  · exact q.elim
def diZip (da : DA) : DI := fun ρ m R => da ρ m fun ds m1 => match ds with
  | [.lst l, .lst k] => R (zipD l k) m1
  | [.tup l, .tup k] => R (zipD l k) m1
  | _ => False
theorem fi_zip {K : PySem.W.Frag} {ta : TA} {da : DA} (h : FA ta da) : FI (RZ.iZipA K ta) (diZip da) := fun {F H m σ ρ R RV} s e hd k => by
  refine h s e hd fun vs ds F1 H1 m1 g1 r1 q => ?_
  split at q
  · obtain ⟨v, w, rfl, rv, rw'⟩ := two_rep r1
    obtain ⟨a, xs, rfl, h1, h2⟩ := rv.lst
    obtain ⟨b, ys, rfl, h3, h4⟩ := rw'.lst
    exact ⟨a, b, xs, ys, rfl, .inl ⟨SqL.of (g1.si.sub.lst h1), SqL.of (g1.si.sub.lst h3), k _ _ _ _ _ _ g1 (iw_zipL h1 h3 h2 h4) trivial q⟩⟩
  · obtain ⟨v, w, rfl, rv, rw'⟩ := two_rep r1
    obtain ⟨a, xs, rfl, h1, h2⟩ := rv.tup
    obtain ⟨b, ys, rfl, h3, h4⟩ := rw'.tup
    exact ⟨a, b, xs, ys, rfl, .inr ⟨SqT.of (g1.si.sub.tup h1), SqT.of (g1.si.sub.tup h3), k _ _ _ _ _ _ g1 (iw_zipT h1 h3 h2 h4) trivial q⟩⟩
  · exact q.elim
section
variable {X : Cx} {tg e e2 : Expr} {de : DE} {da : DA} {p pos tpos : Pos} {elts : List Expr} {kk n : Nat}
theorem di_list (h : DX X e de) : DIX X tg e (diL de) := let ⟨_, a, b⟩ := h; ⟨_, pi_list a, fi_list b⟩
theorem di_tup (h : DX X e de) : DIX X tg e (diT de) := let ⟨_, a, b⟩ := h; ⟨_, pi_tup a, fi_tup b⟩
theorem di_r1 (ha : DAX X [e] da) (hm : X.mg "range" = none) (hg : Gl X "range" := by rfl) (hs : starEach [e] X.env = [(false, eval e X.env)] := by rfl) : DIX X tg (.Call (.Name "range" p) [e] [] pos) (diR1 da) :=
  let ⟨_, a, b⟩ := ha; ⟨_, pi_range1 hg hm a hs, fi_r1 b⟩
theorem di_r2 (ha : DAX X [e, e2] da) (hm : X.mg "range" = none) (hg : Gl X "range" := by rfl) (hs : starEach [e, e2] X.env = [(false, eval e X.env), (false, eval e2 X.env)] := by rfl) (hs2 : starEach [e2] X.env = [(false, eval e2 X.env)] := by rfl) :
    DIX X tg (.Call (.Name "range" p) [e, e2] [] pos) (diR2 da) := let ⟨_, a, b⟩ := ha; ⟨_, pi_range2 hg hm a hs hs2, fi_r2 b⟩
theorem di_enL (ha : DAX X [e] da) (hm : X.mg "enumerate" = none) (hg : Gl X "enumerate" := by rfl) (hs : starEach [e] X.env = [(false, eval e X.env)] := by rfl) : DIX X (.Tuple elts kk tpos) (.Call (.Name "enumerate" p) [e] [] pos) (diEn da) :=
  let ⟨_, a, b⟩ := ha; ⟨_, pi_enum hg hm a hs, fi_enum b⟩
theorem di_zip (ha : DAX X [e, e2] da) (hm : X.mg "zip" = none) (hg : Gl X "zip" := by rfl) (hs : starEach [e, e2] X.env = (false, eval e X.env) :: starEach [e2] X.env := by rfl) (hpl : (backTo pos (starEach [e2] X.env)).any (·.1) = false := by rfl) :
    DIX X (.Tuple elts kk tpos) (.Call (.Name "zip" p) [e, e2] [] pos) (diZip da) := let ⟨_, a, b⟩ := ha; ⟨_, RZ.pi_zipA hg hm a hs hpl, fi_zip b⟩
end

/-! ### for -/
def forGo (g : DG) (b : DS) (E : DEnds) : List D → Env → Mem → Prop
  | [], ρ, m => E.nx ρ m
  | d :: r, ρ, m => g d ρ m fun ρ2 m2 => b { E with nx := forGo g b E r, ct := forGo g b E r, bk := E.nx } ρ2 m2
def dFor (di : DI) (g : DG) (b : DS) : DS := fun E ρ m => di ρ m fun l m1 => forGo g b E l ρ m1
theorem fs_for {wi : TI} {g : TG} {tb : TS} {di : DI} {dg : DG} {db : DS} {is : List Nat} (h1 : FI wi di) (h2 : FG g dg is) (h3 : FS tb db) : FS (tFor wi g tb) (dFor di dg db) := fun {F H m σ ρ E D'} s e h k => by
  refine h1 s e h fun J items F1 H1 m1 G g1 iw hG q => ?_
  refine ⟨fun i n σ' H' => n = items.length - i ∧ i ≤ items.length ∧ ∃ F' m' ρ', Go F1 H1 m1 F' H' m' ∧ G H' ∧ RepE F' ρ' σ' ∧ forGo dg db E (items.drop i) ρ' m', ⟨items.length, rfl, Nat.zero_le _, F1, m1, ρ, Go.refl g1.si, hG, e.mono g1.ex, q⟩, ?_⟩
  rintro i n σ' H' ⟨rfl, hi, F', m', ρ', g', hG', e', q'⟩
  by_cases hlt : i < items.length
  · refine .inr ⟨iw.go g'.ex g'.si hG' hlt, fun σ2 H2 => i + 1 ≤ items.length ∧ ∃ F2 m2 ρ2, Go F1 H1 m1 F2 H2 m2 ∧ G H2 ∧ RepE F2 ρ2 σ2 ∧ forGo dg db E (items.drop (i + 1)) ρ2 m2, fun σ2 H2 hN => ⟨items.length - (i + 1), by omega, rfl, hN.1, hN.2⟩, fun x H'' y => ?_⟩
    obtain ⟨d, F'', hd, gy, rd⟩ := iw.yld g'.ex g'.si hG' hlt y
    have ed : items.drop i = d :: items.drop (i + 1) := by
      obtain ⟨h1, h2⟩ := List.getElem?_eq_some_iff.mp hd
      rw [← h2]; exact List.drop_eq_getElem_cons h1
    rw [ed] at q'
    have hG'' : G H'' := iw.stay g'.ex g'.si gy hG'
    have gA := g'.trans gy
    refine h2 gy.si (e'.mono gy.ex) rd q' fun σ2 ρ2 F2 H2 m2 g2 e2 _ _ q2 => ?_
    have gB := gA.trans g2
    have hG2 : G H2 := iw.stay gA.ex gy.si g2 hG''
    refine h3 g2.si e2 q2 ⟨fun σ3 ρ3 F3 H3 m3 g3 e3 q3 => ⟨hlt, F3, m3, ρ3, gB.trans g3, iw.stay gB.ex g2.si g3 hG2, e3, q3⟩, fun v d F3 H3 m3 g3 r3 q3 => k.rt v d F3 H3 m3 ((g1.trans gB).trans g3) r3 q3,
      fun σ3 ρ3 F3 H3 m3 g3 e3 q3 => k.nx σ3 ρ3 F3 H3 m3 ((g1.trans gB).trans g3) e3 q3, fun σ3 ρ3 F3 H3 m3 g3 e3 q3 => ⟨hlt, F3, m3, ρ3, gB.trans g3, iw.stay gB.ex g2.si g3 hG2, e3, q3⟩⟩
  · have ei : i = items.length := by omega
    subst ei
    rw [List.drop_length] at q'
    exact .inl ⟨iw.stop g'.ex g'.si hG', k.nx _ _ _ _ _ (g1.trans g') e' q'⟩
theorem ds_for {X : Cx} {tg iter : Expr} {body : List Stmt} {pos : Pos} {di : DI} {dg : DG} {db : DS} {is : List Nat} {n : Nat} (c : CF X n) (hp : PassesOwn (model X.prog X.w) X.A X.env X.xe) (h1 : DIX X tg iter di) (h2 : DGX X tg dg is) (h3 : DBX X body db)
    (hs : ∀ x, foldedSetIterable iter X.env x = pure x := by intro _; rfl) : DSX X (.For tg iter body [] pos) (dFor di dg db) :=
  let ⟨_, a1, a2⟩ := h1; let ⟨_, b1, b2⟩ := h2; let ⟨_, c1, c2⟩ := h3; ⟨_, ps_for hp c.calm a1 b1 c1 hs, fs_for a2 b2 c2⟩

/-! ### comprehensions -/
def lcGo (g : DG) (t : DT) (f : DE) (ρ0 : Env) : List D → Mem → List D → (List D → Mem → Prop) → Prop
  | [], m, acc, Q => Q acc m
  | d :: r, m, acc, Q => g d ρ0 m fun ρ2 m2 => t ρ2 m2 fun b m3 => match b with
    | true => f ρ2 m3 fun y m4 => lcGo g t f ρ0 r m4 (acc ++ [y]) Q
    | false => lcGo g t f ρ0 r m3 acc Q
def dLc (di : DI) (g : DG) (t : DT) (f : DE) (vs : List Nat) : DE := fun ρ m Q => di ρ m fun l m1 => l.length < sizeLine ∧ lcGo g t f (wipeD ρ vs) l m1 [] fun acc m2 => Q (.lst acc) m2
theorem wipe_eq {σ σ2 : L2.St} (hl : σ2.length = σ.length) : ∀ {vs : List Nat}, (∀ i, i ∉ vs → σ2[i]? = σ[i]?) → L2.wipe σ2 vs = L2.wipe σ vs := by
  intro vs h
  apply List.ext_getElem?
  intro i
  by_cases hi : i ∈ vs
  · have key : ∀ (τ : L2.St) (vs : List Nat), i ∈ vs → (L2.wipe τ vs)[i]? = if i < τ.length then some none else none := by
      intro τ vs
      induction vs with
      | nil => intro h; cases h
      | cons v vs ih =>
        intro hm
        show ((L2.wipe τ vs).set v none)[i]? = _
        by_cases q : v = i
        · subst q
          rw [List.getElem?_set]
          simp [L2.wipe_length]
        · rw [List.getElem?_set_ne q]
          exact ih (by rcases List.mem_cons.mp hm with z | z; exact absurd z.symm q; exact z)
    rw [key σ2 vs hi, key σ vs hi, hl]
  · rw [L2.wipe_out hi, L2.wipe_out hi]
    exact h i hi
theorem wipe_wipe {σ : L2.St} {vs : List Nat} : L2.wipe (L2.wipe σ vs) vs = L2.wipe σ vs := wipe_eq (L2.wipe_length σ vs) fun i hi => L2.wipe_out hi
/-- an unknown thing at p is written -/
theorem Go.hid {F H F1 H1 : Hp} {m m1 : Mem} (g : Go F H m F1 H1 m1) {p : Addr} {o : HO} (h0 : H p = none) (hF : F1 p = none) (hm : m1 p = none) : Go F H m F1 (upd H1 p o) m1 where
  ex := g.ex
  si := by
    refine ⟨fun a u e => ?_, fun a c e => ?_⟩
    · have q : a ≠ p := by rintro rfl; rw [hF] at e; cases e
      rw [upd_ne q]; exact g.si.sub a u e
    · have q : a ≠ p := by rintro rfl; rw [hm] at e; cases e
      obtain ⟨z1, o', z2, z3⟩ := g.si.cell a c e
      exact ⟨z1, o', by rw [upd_ne q]; exact z2, z3⟩
  keep := fun a ha n => by
    have q : a ≠ p := by rintro rfl; exact ha h0
    rw [upd_ne q]; exact g.keep a ha n
  live := fun a e => by
    by_cases q : a = p
    · subst q; exact h0
    · rw [upd_ne q] at e; exact g.live a e
theorem fe_lc {wi : TI} {g : TG} {tt : TT} {te : TE} {vs : List Nat} {di : DI} {dg : DG} {dt : DT} {de : DE} {is : List Nat} (h1 : FI wi di) (h2 : FG g dg is) (hs : ∀ i ∈ is, i ∈ vs) (h3 : FT tt dt) (h4 : FE te de) :
    FE (tLc wi g tt te vs) (dLc di dg dt de vs) := fun {F H m σ ρ Q QV} s e h k => by
  refine h1 s e h fun J items F1 H1 m1 G g1 iw hG q => ?_
  obtain ⟨hlen, q⟩ := q
  intro Dl hD
  have hF1 : F1 Dl = none := g1.si.sub.fresh hD
  have hm1 : m1 Dl = none := g1.si.fresh hD
  -- what holds between two turns; H' without the new list
  refine ⟨fun i n H' => n = items.length - i ∧ i ≤ items.length ∧ ∃ F' m' acc xs, Go F1 H1 m1 F' H' m' ∧ G H' ∧ H' Dl = some (.lst xs) ∧ F' Dl = none ∧ m' Dl = none ∧ RepL F' acc xs ∧ acc.length ≤ i ∧ lcGo dg dt de (wipeD ρ vs) (items.drop i) m' acc (fun acc m2 => Q (.lst acc) m2),
    ⟨items.length, rfl, Nat.zero_le _, F1, m1, [], [], (Go.refl g1.si).hid hD hF1 hm1, ?_, upd_same, hF1, hm1, repL_nil, Nat.le_refl _, q⟩, ?_⟩
  · have g0 : Go F1 H1 m1 F1 (upd H1 Dl (.lst [])) m1 := (Go.refl g1.si).hid hD hF1 hm1
    exact iw.stay (Ex.refl F1) g1.si g0 hG
  rintro i n H' ⟨rfl, hi, F', m', acc, xs, g', hG', hL, hF', hm', ra, hacc, q'⟩
  by_cases hlt : i < items.length
  · refine .inr ⟨iw.go g'.ex g'.si hG' hlt, fun H2 => i + 1 ≤ items.length ∧ ∃ F2 m2 acc xs, Go F1 H1 m1 F2 H2 m2 ∧ G H2 ∧ H2 Dl = some (.lst xs) ∧ F2 Dl = none ∧ m2 Dl = none ∧ RepL F2 acc xs ∧ acc.length ≤ i + 1 ∧ lcGo dg dt de (wipeD ρ vs) (items.drop (i + 1)) m2 acc (fun acc m2 => Q (.lst acc) m2),
      fun H2 hN => ⟨items.length - (i + 1), by omega, rfl, hN.1, hN.2⟩, fun x H'' y => ?_⟩
    obtain ⟨d, F'', hd, gy, rd⟩ := iw.yld g'.ex g'.si hG' hlt y
    have ed : items.drop i = d :: items.drop (i + 1) := by
      obtain ⟨h1, h2⟩ := List.getElem?_eq_some_iff.mp hd
      rw [← h2]; exact List.drop_eq_getElem_cons h1
    rw [ed] at q'
    have hG'' : G H'' := iw.stay g'.ex g'.si gy hG'
    have gA := g'.trans gy
    have keepD : ∀ {Fa Ha Fb Hb : Hp} {ma mb : Mem}, Go Fa Ha ma Fb Hb mb → Ha Dl = some (.lst xs) → ma Dl = none → Fa Dl = none → Hb Dl = some (.lst xs) ∧ mb Dl = none ∧ Fb Dl = none := fun {Fa Ha Fb Hb ma mb} gg a1 a2 a3 => by
      obtain ⟨z1, z2, z3⟩ := gg.keep Dl (by rw [a1]; intro z; cases z) a2
      exact ⟨z1.trans a1, z3, z2.trans a3⟩
    obtain ⟨k1, k2, k3⟩ := keepD gy hL hm' hF'
    have eW : RepE F'' (wipeD ρ vs) (L2.wipe σ vs) := ((e.mono g1.ex).mono gA.ex).wipe vs
    refine h2 gy.si eW rd q' fun σ2 ρ2 F2 H2 m2 g2 e2 l2 o2 q2 => ?_
    obtain ⟨k4, k5, k6⟩ := keepD g2 k1 k2 k3
    have gB := gA.trans g2
    have hG2 : G H2 := iw.stay gA.ex gy.si g2 hG''
    refine ⟨by rw [← wipe_wipe (σ := σ)]; exact wipe_eq l2 fun j hj => o2 j fun z => hj (hs j z), ?_⟩
    refine h3 g2.si e2 q2 fun b F3 H3 m3 g3 q3 => ?_
    obtain ⟨k7, k8, k9⟩ := keepD g3 k4 k5 k6
    have gC := gB.trans g3
    have hG3 : G H3 := iw.stay gB.ex g2.si g3 hG2
    cases b with
    | false =>
      rw [if_neg Bool.false_ne_true]
      exact ⟨hlt, F3, m3, acc, xs, gC, hG3, k7, k9, k8, ra.mono ((gy.trans g2).trans g3).ex, Nat.le_succ_of_le hacc, q3⟩
    | true =>
      rw [if_pos rfl]
      refine h4 g3.si (e2.mono g3.ex) q3 fun v dy F4 H4 m4 g4 r4 q4 => ?_
      obtain ⟨l1, l2', l3⟩ := keepD g4 k7 k8 k9
      have gD := gC.trans g4
      have hG4 : G H4 := iw.stay gC.ex g3.si g4 hG3
      refine ⟨xs, l1, by rw [ra.length]; omega, hlt, F4, m4, acc ++ [dy], xs ++ [v], gD.hid hD l3 l2', ?_, upd_same, l3, l2', (ra.mono (((gy.trans g2).trans g3).trans g4).ex).append (repL_cons r4 repL_nil), by simp; omega, q4⟩
      have ra4 : RepL F4 acc xs := ra.mono (((gy.trans g2).trans g3).trans g4).ex
      have siD : SI F4 H4 (updM m4 Dl (.l acc)) := ⟨g4.si.sub, fun a c ea => by
        by_cases z : a = Dl
        · subst z; rw [updM_same] at ea; cases ea; exact ⟨l3, _, l1, xs, rfl, ra4⟩
        · rw [updM_ne z] at ea; exact g4.si.cell a c ea⟩
      exact iw.stay gD.ex siD (Go.write (c := .l (acc ++ [dy])) (o := .lst (xs ++ [v])) siD updM_same ⟨_, rfl, ra4.append (repL_cons r4 repL_nil)⟩) hG4
  · have ei : i = items.length := by omega
    subst ei
    rw [List.drop_length] at q'
    refine .inl ⟨iw.stop g'.ex g'.si hG', ?_⟩
    have gf : Go F H m (upd F' Dl (.lst xs)) H' m' := by
      have gg := g1.trans g'
      refine ⟨gg.ex.trans (Ex.new hF'), ⟨fun a u ea => ?_, fun a c ea => ?_⟩, fun a ha n => ?_, gg.live⟩
      · by_cases z : a = Dl
        · subst z; rw [upd_same] at ea; cases ea; exact hL
        · rw [upd_ne z] at ea; exact gg.si.sub a u ea
      · have z : a ≠ Dl := by rintro rfl; rw [hm'] at ea; cases ea
        obtain ⟨z1, o', z2, z3⟩ := gg.si.cell a c ea
        exact ⟨by rw [upd_ne z]; exact z1, o', z2, z3.mono (Ex.new hF')⟩
      · have z : a ≠ Dl := by rintro rfl; exact ha (g1.live _ hD)
        obtain ⟨z1, z2, z3⟩ := gg.keep a ha n
        exact ⟨z1, by rw [upd_ne z]; exact z2, z3⟩
    exact k _ _ _ _ _ gf (rep_lst upd_same (ra.mono (Ex.new hF'))) q'
end PF

namespace PF
open PySem PySem.Spec L2

/-! ### one reading for all contexts -/
section
variable {X : Cx} {sc : Scope} {e : Expr}
abbrev blkX (X : Cx) (sc : Scope) (s : Shared) (H : Hp) (C : Addr) (cl : List (Str × Addr)) (fp : List Addr) : Cx := X.blk s H sc (compEnvC sc cl C X.env) fp
theorem uni_E {de : DE} (h : ∀ s H C cl fp, DX (blkX X sc s H C cl fp) e de) : ∃ te, (∀ s H C cl fp, PE (blkX X sc s H C cl fp) e te) ∧ FE te de := by
  refine ⟨fun σ H0 Q => ∀ s H C cl fp, (Classical.choose (h s H C cl fp)) σ H0 Q, fun s H C cl fp => ⟨fun pins s1 σ H0 Q I q => ?_⟩, fun {F H m σ ρ Q QV} si e hd k s1 H1 C cl fp => ?_⟩
  · exact (Classical.choose_spec (h s H C cl fp)).1.run pins s1 σ H0 Q I (q s H C cl fp)
  · exact (Classical.choose_spec (h s1 H1 C cl fp)).2 si e hd k
def DTsX (X : Cx) (ifs : List Expr) (dt : DT) : Prop := ∃ tt, PTs X ifs tt ∧ FT tt dt
def dYes : DT := fun _ m Q => Q true m
theorem dts_nil {X : Cx} : DTsX X [] dYes := ⟨_, pts_nil, fun {F H m σ ρ Q QV} s e h k => k _ F H m (Go.refl s) h⟩
theorem dts_one {X : Cx} {c : Expr} {dt : DT} (h : DTX X c dt) : DTsX X [c] dt := let ⟨_, a, b⟩ := h; ⟨_, pts_one a, b⟩
theorem uni_T {ifs : List Expr} {dt : DT} (h : ∀ s H C cl fp, DTsX (blkX X sc s H C cl fp) ifs dt) : ∃ tt, (∀ s H C cl fp, PTs (blkX X sc s H C cl fp) ifs tt) ∧ FT tt dt := by
  refine ⟨fun σ H0 Q => ∀ s H C cl fp, (Classical.choose (h s H C cl fp)) σ H0 Q, fun s H C cl fp => ⟨fun pins s1 σ H0 Q I q => ?_⟩, fun {F H m σ ρ Q QV} si e hd k s1 H1 C cl fp => ?_⟩
  · exact (Classical.choose_spec (h s H C cl fp)).1.run pins s1 σ H0 Q I (q s H C cl fp)
  · exact (Classical.choose_spec (h s1 H1 C cl fp)).2 si e hd k
theorem uni_G {tg : Expr} {dg : DG} {is : List Nat} (h : ∀ s H C cl fp, DGX (blkX X sc s H C cl fp) tg dg is) : ∃ g, (∀ s H C cl fp, PG (blkX X sc s H C cl fp) tg g) ∧ FG g dg is := by
  refine ⟨fun v σ H0 Q => ∀ s H C cl fp, (Classical.choose (h s H C cl fp)) v σ H0 Q, fun s H C cl fp => ⟨fun pins s1 σ H0 v u Q I r q => ?_⟩, fun {F H m σ ρ v d Q QV} si e r hd k s1 H1 C cl fp => ?_⟩
  · exact (Classical.choose_spec (h s H C cl fp)).1.run pins s1 σ H0 v u Q I r (q s H C cl fp)
  · exact (Classical.choose_spec (h s1 H1 C cl fp)).2 si e r hd k
end

/-! ### [elt for tg in iter if ..] -/
section
variable {X : Cx} {n : Nat} {elt tg iter : Expr} {ifs : List Expr} {sc : Scope} {own : List (Str × Nat)} {pos spos py : Pos} {di : DI} {dg : DG} {dt : DT} {de : DE} {is : List Nat}
theorem dx_lc (c : CF X n) (hi : DIX X tg iter di) (ok : BlkOk X.N X.env.scope sc own) (hg : ∀ s H C cl fp, DGX (blkX X sc s H C cl fp) tg dg is) (ht : ∀ s H C cl fp, DTsX (blkX X sc s H C cl fp) ifs dt) (he : ∀ s H C cl fp, DX (blkX X sc s H C cl fp) elt de)
    (hs : ∀ x, foldedSetIterable iter X.env x = pure x := by intro _; rfl) (hv : ∀ i ∈ is, i ∈ own.map (·.2) := by decide) : DX X (.ListComp elt [⟨tg, iter, ifs, 0⟩] sc pos) (dLc di dg dt de (own.map (·.2))) := by
  obtain ⟨wi, i1, i2⟩ := hi
  obtain ⟨g, g1, g2⟩ := uni_G hg
  obtain ⟨tt, t1, t2⟩ := uni_T ht
  obtain ⟨te, e1, e2⟩ := uni_E he
  exact ⟨_, pe_lc c.calm c.nd i1 ok g1 t1 e1 hs, fe_lc i2 g2 hv t2 e2⟩
theorem ds_lc (i : Nat) {y : Str} (c : CF X n) (hi : DIX X tg iter di) (ok : BlkOk X.N X.env.scope sc own) (hg : ∀ s H C cl fp, DGX (blkX X sc s H C cl fp) tg dg is) (ht : ∀ s H C cl fp, DTsX (blkX X sc s H C cl fp) ifs dt) (he : ∀ s H C cl fp, DX (blkX X sc s H C cl fp) elt de)
    (hsw : swapsWith (.ListComp elt [⟨tg, iter, ifs, 0⟩] sc pos) (some (.Name y py)) spos.line X.env = pure true) (hy : X.N[i]? = some y := by rfl) (hyl : X.env.scope.names.lookup y = some .local := by rfl)
    (hs : ∀ x, foldedSetIterable iter X.env x = pure x := by intro _; rfl) (hv : ∀ i ∈ is, i ∈ own.map (·.2) := by decide) : DSX X (.Assign [.Name y py] (.ListComp elt [⟨tg, iter, ifs, 0⟩] sc pos) spos) (dAsg (dLc di dg dt de (own.map (·.2))) (gdName i)) := by
  obtain ⟨wi, i1, i2⟩ := hi
  obtain ⟨g, g1, g2⟩ := uni_G hg
  obtain ⟨tt, t1, t2⟩ := uni_T ht
  obtain ⟨te, e1, e2⟩ := uni_E he
  exact ⟨_, ps_setLc c.calm c.nd hy hyl hsw i1 ok g1 t1 e1 hs, fs_asg (fe_lc i2 g2 hv t2 e2) (fg_name i)⟩
end
/-! ### the keys of a dict that stands -/
theorem iw_keys {F : Hp} {d : Addr} {ob : Obj} {kvs : List (Key × V)} {ks : List Key} (hF : F d = some (.frz ob (.dK kvs))) (e : kvs.map (·.1) = ks) : IW (Itk d ob kvs) (ks.map dOfK) F (fun _ => True) where
  stay := fun _ _ _ z => z
  go := fun {F1 H1 m1 i} ex s _ hi => ⟨s.sub.frl (ex _ _ hF), by rw [← e] at hi; simpa using hi⟩
  stop := fun {F1 H1 m1} ex s _ => ⟨s.sub.frl (ex _ _ hF), by rw [← e]; simp⟩
  yld := fun {F1 H1 H2 m1 i x} _ s _ hi y => by
    obtain ⟨rfl, k, v, h1, rfl⟩ := y
    refine ⟨dOfK k, F1, ?_, Go.refl s, dOfK_rep k⟩
    rw [← e]; simp [h1]
def diK (de : DE) : DI := fun ρ m R => de ρ m fun d m1 => match d with
  | .dic ks _ => R (ks.map dOfK) m1
  | _ => False
theorem fi_keys {te : TE} {de : DE} (h : FE te de) : FI (iKeys te) (diK de) := fun {F H m σ ρ R RV} s e hd k => by
  refine h s e hd fun v d F1 H1 m1 g1 r1 q => ?_
  split at q
  · next ks l =>
    obtain ⟨a, ob, kvs, rfl, h1, h2, h3⟩ := r1.dic
    exact ⟨a, ob, rfl, .inl ⟨kvs, g1.si.sub.frl h1, k _ _ _ _ _ _ g1 (iw_keys h1 h2) trivial q⟩⟩
  · exact q.elim
theorem di_keys {X : Cx} {tg e : Expr} {de : DE} (h : DX X e de) : DIX X tg e (diK de) := let ⟨_, a, b⟩ := h; ⟨_, pi_keys a, fi_keys b⟩

/-! ### enumerate of a tuple -/
theorem enumNew_any {v : Value} {o : Obj} {Hh : Heap → Prop} (B : Begins v o Hh) :
    Meets (Builtin.«enumerate.__new__» ⟨[.type "enumerate", v], []⟩) (fun _ R s => Hh s.heap ∧
      R (.ok (.ret (.ref (s.heap.push o).objs.size))) { s with heap := (s.heap.push o).push { cls := .type "enumerate", data := .fields #[.none, .bool false, .ref s.heap.objs.size, rawInt 0, .none, .none] } }) :=
  .of_wp fun prog w A R s h => by
    obtain ⟨hp, gs, dr, tk, os⟩ := s
    obtain ⟨hb, h⟩ := h
    have hsub := sub_enumerate
    have q1 : ∀ {A' : Around} {E : Value → Shared → Prop} {Q : Value → Shared → Prop}, Q (.ref hp.objs.size) ⟨hp.push o, gs, dr, tk, os⟩ → wpAny (model prog w) A' (pyIter v) Q E ⟨hp, gs, dr, tk, os⟩ := fun q => B.iter prog w _ _ ⟨hp, gs, dr, tk, os⟩ _ hb q
    wp_walk using q1
    refine wpAny_stack_any fun stk => wpAny_pure ?_
    split
    · rename_i c _ _ _ _ _
      cases (c == Value.type "enumerate") <;>
      · wp_walk using q1
        exact ⟨_, rfl, h⟩
    · wp_walk using q1
      exact ⟨_, rfl, h⟩
theorem call_enumT {prog : Program} {w : World} {A : Around} {E : Value → Shared → Prop} {s : Shared} {v : Value} {o : Obj} {Hh : Heap → Prop} {Q : Value → Shared → Prop} (B : Begins v o Hh) (h1 : Hh s.heap)
    (h : ∀ h', IsEnum h' (s.heap.objs.size + 1) s.heap.objs.size 0 .none → h'.get? s.heap.objs.size = some o → h'.objs.size = s.heap.objs.size + 2 → (∀ b u, s.heap.get? b = some u → h'.get? b = some u) → Q (.ref (s.heap.objs.size + 1)) { s with heap := h' }) :
    wpAny (model prog w) A (call (.type "enumerate") [v]) Q E s := by
  refine callType_new F.called_enumerate (by decide) (F.typeCall_enumerate_1 _) (F.newCall_enumerate_1 _) (fun ob => F.args_object_init_2 ob _) F.entry_enumerate_new (enumNew_any B) ⟨h1, ?_⟩
  have z1 : (s.heap.push o).objs.size = s.heap.objs.size + 1 := Heap.size_push ..
  have he : IsEnum ((s.heap.push o).push { cls := .type "enumerate", data := .fields #[.none, .bool false, .ref s.heap.objs.size, rawInt 0, .none, .none] }) (s.heap.objs.size + 1) s.heap.objs.size 0 .none := by
    have z2 := Heap.get?_push_size (s.heap.push o) (o := { cls := .type "enumerate", data := .fields #[.none, .bool false, .ref s.heap.objs.size, rawInt 0, .none, .none] }) rfl
    rw [z1] at z2; exact z2
  show _ ∧ _
  rw [z1]
  exact ⟨⟨_, he, rfl⟩, h _ he (Heap.get?_push_of_some _ (Heap.get?_push_size _ B.free)) (by rw [Heap.size_push, z1]) fun b u q => Heap.get?_push_of_some _ (Heap.get?_push_of_some _ q)⟩
/-- each item of the tuple at a in a new pair with its place -/
def IteT (K : PySem.W.Frag) (a : Addr) : It :=
  ⟨fun i H => ∃ (xs : List V) (x : V), SqT K H a xs ∧ xs[i]? = some x, fun i H v H' => ∃ T x, v = .ref T ∧ H T = none ∧ H' = upd H T (.tup [.int (i : Nat), x]) ∧ ∀ xs, SqT K H a xs → xs[i]? = some x, fun i H => ∃ xs : List V, SqT K H a xs ∧ xs.length = i⟩
theorem turn_enumT {P : Program} {w : World} {K : PySem.W.Frag} {elts : List Expr} {kk : Nat} {tpos : Pos} (a e it : Addr) :
    Turn P w K (.Tuple elts kk tpos) (IteT K a) [e, it] e (fun i h => (∃ old, IsEnum h e it ((i : Nat) : Int) old) ∧ h.IsTupleIter it a i ∧ e ≠ it ∧ e ≠ a ∧ a ≠ it) where
  mem := List.mem_cons_self
  obj := fun i h st b hb => by
    obtain ⟨⟨old, he⟩, ⟨o, ho, hc, hd⟩, _⟩ := st
    rcases (by simpa using hb : b = e ∨ b = it) with rfl | rfl
    · exact ⟨_, he, fun v q => nomatch q⟩
    · exact ⟨o, ho, fun v q => by rw [hd] at q; cases q⟩
  keep := fun i h h' st k => by
    obtain ⟨⟨old, he⟩, hi, hne⟩ := st
    exact ⟨⟨old, k e (by simp) _ he⟩, hi.at fun o q => k it (by simp) o q, hne⟩
  item := by
    intro X hP hw hK hc i pins s σ H E I hf st hg
    subst hP hw hK
    obtain ⟨⟨old, he⟩, hit, hne, hea, hai⟩ := st
    obtain ⟨xs, x, hq, hx⟩ := hg
    obtain ⟨its, rv, p, hz⟩ := I.tuple hq
    obtain ⟨u, hu, ru⟩ := rv.get hx
    have hel : e < s.heap.objs.size := Heap.lt_size he
    have hil : it < s.heap.objs.size := by obtain ⟨_, q, _⟩ := hit; exact Heap.lt_size q
    have hh : X.A.in1.handled = none := I.ok.hd hc
    have hlt : i < its.toArray.size := by rw [List.size_toArray]; exact (List.getElem?_eq_some_iff.mp hu).1
    refine wpAny_pyNext_enum_itemD (Draws.tuple (prog := X.prog) (w := X.w) (A := X.A.in1) hh it a hai its.toArray) he ⟨hit, p⟩ hlt hne (by simp [hne, hea]) fun y h' tk hy ho hst hT hsz hk => ?_
    have ey : y = u := by
      have hy' : its.toArray[i]? = some y := hy
      rw [List.getElem?_toArray, hu] at hy'
      exact (Option.some.inj hy').symm
    subst ey
    refine ⟨_, rfl, wpAny_letOwnedTupleGo_enum (s := { s with heap := h', toks := tk + 1 }) ho fun h'' he' sb => ?_⟩
    have nT : s.heap.objs.size ≠ e := Nat.ne_of_gt hel
    have hT2 : h''.get? s.heap.objs.size = some { cls := .type "tuple", data := .seq #[.int i tk, y] } := (sb.2 _ nT).trans hT
    have new : ObjOk X.prog X.w (upd H s.heap.objs.size (.tup [.int (i : Nat), x])) h'' s.heap.objs.size (.tup [.int (i : Nat), x]) :=
      ⟨by show 2 ≤ sizeLine; decide, [.int i tk, y], .cons ⟨_, rfl⟩ (.cons ru .nil), ⟨_, hT2, rfl, _, rfl⟩⟩
    have I1 : Inv X pins σ (upd H s.heap.objs.size (.tup [.int (i : Nat), x])) { s with heap := h'', toks := tk + 1 } :=
      I.turnedNew (ch := [e, it]) (fun b ob hb q => (sb.2 b (fun z => hb (by simp [z]))).trans (hk b ob (fun z => hb (by simp [z])) (fun z => hb (by simp [z])) q)) hf (Nat.le_refl _) new
    refine ⟨.ref s.heap.objs.size, _, I1, rfl, ⟨_, x, rfl, I.hok.fresh (Nat.le_refl _), rfl, fun ys hy => by rw [I.tuple_inj hy hq]; exact hx⟩, ⟨⟨y, ?_⟩, hst.1.at fun o q => (sb.2 it (Ne.symm hne)).trans q, hne, hea, hai⟩, fun b hb => ?_⟩
    · have e1 : ((i + 1 : Nat) : Int) = (i : Int) + 1 := by omega
      rw [e1]; exact he'
    · have hb' : b < s.heap.objs.size := by
        rcases (by simpa using hb : b = e ∨ b = it) with rfl | rfl
        · exact hel
        · exact hil
      rw [upd_ne (Nat.ne_of_lt hb')]
      exact (hf b hb).1
  done := by
    intro X hP hw hK hc i pins s σ H E I hf st hg
    subst hP hw hK
    obtain ⟨⟨old, he⟩, hit, hne, hea, hai⟩ := st
    obtain ⟨xs, hq, rfl⟩ := hg
    obtain ⟨its, rv, p, hz⟩ := I.tuple hq
    obtain ⟨f0, f1, f2, f3, f4, f5⟩ := hf it (by simp)
    have hh : X.A.in1.handled = none := I.ok.hd hc
    have hn : its.toArray.size = xs.length := by rw [List.size_toArray, rv.length]
    refine wpAny_pyNext_enum_endD (Draws.tuple (prog := X.prog) (w := X.w) (A := X.A.in1) hh it a hai its.toArray) he (by rw [hn]; exact ⟨hit, p⟩) fun h' eb => ⟨rfl, I.turned (t' := s.toks) (fun b o hb q => eb b o hb q) f0 f1 f3 f4 f5⟩
  self := fun A i s Q E st h => let ⟨⟨_, he⟩, _⟩ := st; wpAny_pyIter_enum he h
def iEnumT (K : PySem.W.Frag) (ta : TA) : TI := fun σ H R => ta σ H fun vs H1 => ∃ a xs, vs = [.ref a] ∧ SqT K H1 a xs ∧ R (IteT K a) H1
theorem pi_enumT {X : Cx} {e : Expr} {ta : TA} {p pos tpos : Pos} {elts : List Expr} {kk : Nat} (hg : Gl X "enumerate") (hm : X.mg "enumerate" = none) (ha : PA X [e] ta) (hs : starEach [e] X.env = [(false, eval e X.env)] := by rfl) :
    PI X (.Tuple elts kk tpos) (.Call (.Name "enumerate" p) [e] [] pos) (iEnumT X.K ta) := by
  refine ⟨fun pins s σ H R I h => ?_⟩
  refine PyProof.Rows.Call_ (ld_blt I hg hm PyProof.Rows.boot_enumerate (PyProof.Rows.callWith_type1 (thn (ha.run pos pins s σ H _ I h) fun us s1 ⟨vs, H1, I1, r1, q1⟩ => ?_) hs rfl))
  obtain ⟨a, xs, ex, hq, q⟩ := q1
  subst ex
  obtain rfl := Vals.ref1 r1
  obtain ⟨its, rv, p', hz⟩ := I1.tuple hq
  have hal : a < s1.heap.objs.size := p'.lt
  refine call_enumT (begins_tuple a its.toArray) p' fun h' he hit hsz hk => wpAny_pyIter_enum he ?_
  have I2 : Inv X pins σ H1 { s1 with heap := h' } := I1.kept (t' := s1.toks) hk
  refine ⟨s1.heap.objs.size + 1, [s1.heap.objs.size + 1, s1.heap.objs.size], _, _, H1, rfl, I2, turn_enumT a (s1.heap.objs.size + 1) s1.heap.objs.size, ⟨⟨.none, he⟩, ⟨_, hit, rfl, rfl⟩, Nat.succ_ne_self _, Nat.ne_of_gt (Nat.lt_succ_of_lt hal), Nat.ne_of_lt hal⟩, fun b hb => ?_, q⟩
  have hle : s1.heap.objs.size ≤ b := by
    rcases (by simpa using hb : b = s1.heap.objs.size + 1 ∨ b = s1.heap.objs.size) with rfl | rfl
    · exact Nat.le_add_right _ _
    · exact Nat.le_refl _
  exact I1.fpOk hle (I1.hok.fresh hle)
theorem iw_enumT {K : PySem.W.Frag} {F : Hp} {a : Addr} {xs : List V} {l : List D} (h : F a = some (.tup xs)) (r : RepL F l xs) : IW (IteT K a) (enumD l) F (fun _ => True) where
  stay := fun _ _ _ z => z
  go := fun {F1 H1 m1 i} e s _ hi => by
    rw [enumD_len] at hi
    obtain ⟨x, d, h1, _, _⟩ := r.ixd hi
    exact ⟨xs, x, SqT.of (s.sub.tup (e _ _ h)), h1⟩
  stop := fun {F1 H1 m1} e s _ => ⟨xs, SqT.of (s.sub.tup (e _ _ h)), by rw [enumD_len, r.length]⟩
  yld := fun {F1 H1 H2 m1 i x} e s _ hi y => by
    rw [enumD_len] at hi
    obtain ⟨T, z, rfl, hT, rfl, y⟩ := y
    obtain ⟨x', d, h1, h2, h3⟩ := r.ixd hi
    have := y xs (SqT.of (s.sub.tup (e _ _ h)))
    rw [h1] at this; cases this
    obtain ⟨g, rr⟩ := pair_new (a := .int (i : Nat)) s hT rep_int (h3.mono e)
    exact ⟨_, _, enumD_at h2, g, rr⟩
def diEnT (da : DA) : DI := fun ρ m R => da ρ m fun ds m1 => match ds with
  | [.tup l] => R (enumD l) m1
  | _ => False
theorem fi_enumT {K : PySem.W.Frag} {ta : TA} {da : DA} (h : FA ta da) : FI (iEnumT K ta) (diEnT da) := fun {F H m σ ρ R RV} s e hd k => by
  refine h s e hd fun vs ds F1 H1 m1 g1 r1 q => ?_
  split at q
  · next l =>
    obtain ⟨v, rfl, rv⟩ := one_rep r1
    obtain ⟨a, xs, rfl, h1, h2⟩ := rv.tup
    exact ⟨a, xs, rfl, SqT.of (g1.si.sub.tup h1), k _ _ _ _ _ _ g1 (iw_enumT h1 h2) trivial q⟩
  · exact q.elim
theorem di_enT {X : Cx} {e : Expr} {da : DA} {p pos tpos : Pos} {elts : List Expr} {kk : Nat} (ha : DAX X [e] da) (hm : X.mg "enumerate" = none) (hg : Gl X "enumerate" := by rfl) (hs : starEach [e] X.env = [(false, eval e X.env)] := by rfl) : DIX X (.Tuple elts kk tpos) (.Call (.Name "enumerate" p) [e] [] pos) (diEnT da) :=
  let ⟨_, a, b⟩ := ha; ⟨_, pi_enumT hg hm a hs, fi_enumT b⟩

/-! ### a ** b of great numbers -/
def CPowW (i j : Int) : Prop := 0 ≤ j ∧ (Builtin.Int.intBits i : Int) * j ≤ 2 ^ 27
def drPowW : DR := drI CPowW fun i j => .int (i ^ j.toNat)
theorem op_powW {X : Cx} : OpR X (binaryOp .Pow) (rI CPowW fun i j => .int (i ^ j.toNat)) := opI fun _ _ _ _ _ _ _ hc q => PyProof.Rows.pow_int hc.1 hc.2 q
theorem ox_powW {X : Cx} : OX X (binaryOp .Pow) drPowW := ⟨_, op_powW, fo_I fun _ _ _ => rep_int⟩
end PF

namespace PF
open PySem PySem.Spec L2

/-! ### repr of data -/
/-- what may be shown -/
def shD (d : D) : Prop := plain d = true ∧ (pd d).showable = true ∧ (pd d).hasDict = false ∧ (pd d).depth ≤ 60 ∧ (pd d).shown.length ≤ sizeLine
def dcRepr : DC := dc1 fun d m Q => shD d ∧ Q (.str (pd d).shown) m
theorem cb_repr {X : Cx} {n : Nat} (c : CF X n) : CBX X (.builtin "repr") dcRepr := by
  refine ⟨fun xs H Q => ∃ x d, xs = [x] ∧ Dp X.K H x d ∧ d.showable = true ∧ d.hasDict = false ∧ d.depth ≤ 60 ∧ d.shown.length ≤ sizeLine ∧ Q (.str d.shown) H, ?_, ?_⟩
  · intro pins s σ H xs us Q I r h
    obtain ⟨x, d, rfl, hd, h1, h2, h3, h4, q⟩ := h
    obtain ⟨u, rfl, ru⟩ := vals1 r
    have un := c.room.units
    have fin : ∀ (z : Str) (tk : Tok) (h' : Heap) (tk' : Nat), (∀ b o, s.heap.get? b = some o → h'.get? b = some o) → z = d.shown → EP X pins σ Q (.str z tk) { s with heap := h', toks := tk' } := fun z tk h' tk' hk e => by
      subst e
      exact ⟨.str d.shown, H, I.kept hk, ⟨tk, rfl⟩, q⟩
    cases hd with
    | non =>
      cases ru
      exact PySem.P.repr_of_none (fin _ _ s.heap _ (fun _ _ z => z) rfl)
    | bl b =>
      cases ru
      exact PySem.P.repr_of_bool (fin _ _ s.heap _ (fun _ _ z => z) rfl)
    | int i =>
      obtain ⟨t, rfl⟩ := ru
      exact PySem.P.repr_of_int (of_decide_eq_true h1) (fin _ _ s.heap _ (fun _ _ z => z) rfl)
    | str z =>
      obtain ⟨t, rfl⟩ := ru
      exact PySem.P.repr_of_str (fin _ _ s.heap _ (fun _ _ z => z) rfl) h4
    | lst hs ha =>
      cases ru
      obtain ⟨as, rr⟩ := Dp.reads I _ _ _ (.lst hs ha) rfl
      exact repr_of_reads' rr h1 (fun z => by rw [h2] at z; cases z) c.gd (by omega) (fun _ _ z => z) (fun h' u tk hk => fin _ _ h' tk hk rfl) h4
    | tup hs ha =>
      cases ru
      obtain ⟨as, rr⟩ := Dp.reads I _ _ _ (.tup hs ha) rfl
      exact repr_of_reads' rr h1 (fun z => by rw [h2] at z; cases z) c.gd (by omega) (fun _ _ z => z) (fun h' u tk hk => fin _ _ h' tk hk rfl) h4
  · intro F H m xs ds Q QV s r q k
    unfold dcRepr dc1 at q
    split at q
    · next d =>
      obtain ⟨v, rfl, rv⟩ := one_rep r
      obtain ⟨⟨p1, p2, p3, p4, p5⟩, q⟩ := q
      exact ⟨v, pd d, rfl, dp_of s.sub p1 rv, p2, p3, p4, p5, k _ _ _ _ _ (Go.refl s) rep_str q⟩
    · exact q.elim
end PF

namespace PF
open PySem PySem.Spec L2

/-! ### set(xs), xs a list of ints, as it stands behind the call -/
section
variable {P : Program} {w : World} {A : Around} {E : Value → Shared → Prop} {s : Shared}
abbrev newSet (w : World) : Obj := { cls := .type "set", dict := none, data := .set #[] 0 (.fresh 0 0 (!w.params.followText "set-order")) }
set_option maxHeartbeats 6400000 in
theorem call_setL {l : Addr} {items : Array Value} (ns : List Int) {Q : Value → Shared → Prop} (hh : A.handled = none) (hl : s.heap.IsList l items) (hit : PyProof.Rows.IntsAre items.toList ns) (hb : ns.length + 1 < scanBound)
    (h : ∀ (h' : Heap) (tk c : Nat), SetR w h' s.heap.objs.size (fun j => decide (j ∈ ns)) c → c ≤ ns.length → (∀ b o, s.heap.get? b = some o → h'.get? b = some o) → Q (.ref s.heap.objs.size) { s with heap := h', toks := tk }) :
    wpAny (model P w) A (call (.type "set") [.ref l]) Q E s := by
  have hcount : items.size = ns.length := by
    have q := PyProof.Rows.IntsAre.length hit
    rwa [Array.length_toList] at q
  obtain ⟨cc, tl, hmro⟩ := F.called_set.mro
  have hm1 := F.called_set.made
  have hm2 := F.called_set.sub
  refine wpAny_call (codeAny_of_tree ?_)
  show wpAny _ _ (callAny (.type "set") _) _ _ _
  refine wpAny_pure ⟨Code.quiet_builtin _ (by decide +kernel), codeAny_builtin F.entry_type_call ?_⟩
  rw [Around.under_plain (weight_type_call_type "set" [.ref l] []) rfl]
  have hm3 := F.called_set.notType
  have hm4 := F.called_set.canCreate
  have hm5 := F.typeCall_set_1 (.ref l)
  repeat (any_goals (first | assumption | wp_step))
  refine codeAny_mono (code_set_led1 (.ref l) (E := E) (Q₁ := fun obj s₁ => obj = .ref s.heap.objs.size ∧ s₁ = { s with heap := s.heap.push (newSet w) }) ⟨rfl, rfl⟩) fun r s₁ hr => ?_
  cases r with
  | error e => exact hr
  | ok fl =>
    cases fl with
    | next => exact hr.elim
    | brk => exact hr.elim
    | cont => exact hr.elim
    | ret obj =>
      obtain ⟨rfl, rfl⟩ := hr
      have hS : (s.heap.push (newSet w)).get? s.heap.objs.size = some (newSet w) := Heap.get?_push_size _ rfl
      have hT : Shared.TypeIs { s with heap := s.heap.push (newSet w) } (.ref s.heap.objs.size) "set" := ⟨_, hS, rfl⟩
      have hi1 := F.called_set.init.lookup
      have hi2 := F.called_set.init.bind (.ref s.heap.objs.size)
      repeat (any_goals (first | assumption | wp_step))
      refine codeAny_mono (codeAny_call_builtin (R := wants (fun r s₂ => r = .none ∧ ∃ h' tk c, s₂ = { s with heap := h', toks := tk } ∧ SetR w h' s.heap.objs.size (fun j => decide (j ∈ ns)) c ∧ c ≤ ns.length ∧
          (∀ b o, s.heap.get? b = some o → h'.get? b = some o)) E) F.called_set.init.plain F.entry_set_init (check_set_init_1 hT ?_)) fun r₂ s₂ hr₂ => ?_
      · obtain ⟨ol, hol, hcl, nl, hdl⟩ := hl
        obtain ⟨ocls, odict, odata, oslots⟩ := ol
        simp only at hcl hdl
        subst hcl; subst hdl
        have hol' : (s.heap.push (newSet w)).get? l = some { cls := .type "list", dict := odict, data := .seq items nl, slots := oslots } := Heap.get?_push_of_some _ hol
        have hs1 := F.sub_list_set
        have hs2 := F.sub_list_frozenset
        have hne : (Value.type "list" == Value.type "dict") = false := by decide
        have hl1 : (s.heap.push (newSet w)).IsList l items := ⟨_, hol', rfl, nl, rfl⟩
        unfold Builtin.«set.__init__» noKeywords Builtin.Frozenset.updateFrom
        generalize hPI : pyIter = PI
        wp_walk
        subst hPI
        refine wpAny_pyIter_list hl1 ?_
        refine wpAny_bind (wpAny_runValue ?_)
        have hlS : l < s.heap.objs.size := Heap.lt_size hol
        have hh3 : A.in1.in1.in1.handled = none := by simp [hh]
        have z1 : (s.heap.push (newSet w)).objs.size = s.heap.objs.size + 1 := Heap.size_push ..
        have hneI : l ≠ (s.heap.push (newSet w)).objs.size := by
          rw [z1]; exact Nat.ne_of_lt (Nat.lt_succ_of_lt hlS)
        have hSf : s.heap.objs.size ∉ [(s.heap.push (newSet w)).objs.size, l] := by
          rw [z1]
          intro z
          rcases (by simpa using z : s.heap.objs.size = l) with q
          exact absurd q (Nat.ne_of_gt hlS)
        have hval : ∀ (i : Nat) (v : Value), items[i]? = some v → ∃ k t, ns[i]? = some k ∧ v = .int k t := fun i v hv => by
          have hi : i < ns.length := by rw [← hcount]; exact (Array.getElem?_eq_some_iff.mp hv).1
          obtain ⟨t, e⟩ := PyProof.Rows.IntsAre.int_at hit i v (by rw [Array.getElem?_toList]; exact hv)
          refine ⟨ns[i], t, List.getElem?_eq_getElem hi, ?_⟩
          rw [e, List.getD_eq_getElem?_getD, List.getElem?_eq_getElem hi] <;> rfl
        refine set_update_ints ((Walks.list hh3 _ l hneI items).toS) s.heap.objs.size hSf ns hcount hb hval (items.size - 0) 0 _ (by omega) (Nat.zero_le _) ⟨⟨_, Heap.get?_push_size _ rfl, rfl, rfl⟩, (hl1.push _)⟩ ?hS0 ?hR
        case hS0 =>
          exact ⟨0, Nat.le_refl 0, setR_new_at (Heap.get?_push_of_some _ hS)⟩
        case hR =>
          intro s' c' hm hc' hS'
          obtain ⟨h', g2, d', tk', os'⟩ := s'
          obtain rfl : g2 = s.gens := hm.gens
          obtain rfl : d' = s.drawn := hm.drawn
          obtain rfl : os' = s.os := hm.os
          show wpAny _ _ _ _ _ _
          refine wpAny_pure ?_
          show wpAny _ _ (ret Value.none) _ _ _
          rw [hcount] at hc'
          refine wpAny_pure ⟨rfl, h', tk', c', rfl, hS', hc', fun b o e => ?_⟩
          have hb0 : b < s.heap.objs.size := Heap.lt_size e
          refine hm.heap b o (fun z => ?_) (Heap.get?_push_of_some _ (Heap.get?_push_of_some _ e))
          rcases List.mem_cons.mp z with q | q
          · exact absurd q (Nat.ne_of_lt hb0)
          · have q' := List.mem_singleton.mp q
            rw [z1] at q'
            exact absurd q' (Nat.ne_of_lt (Nat.lt_succ_of_lt hb0))
      · cases r₂ with
        | error e => exact hr₂
        | ok fl₂ =>
          cases fl₂ with
          | next => exact hr₂.elim
          | brk => exact hr₂.elim
          | cont => exact hr₂.elim
          | ret r =>
            obtain ⟨rfl, h', tk, c', rfl, hS', hc', hk'⟩ := hr₂
            repeat (any_goals (first | assumption | wp_step))
            exact h _ _ _ hS' hc' hk'
end
end PF

namespace PF
open PySem PySem.Spec L2

/-! ### strictly sorted by a key -/
section
variable {α : Type} (key : α → Int)
def insK (x : α) : List α → List α
  | [] => [x]
  | y :: r => if key x < key y then x :: y :: r else if key x = key y then y :: r else y :: insK x r
def setK : List α → List α
  | [] => []
  | x :: r => insK key x (setK r)
theorem insK_sub {x z : α} : ∀ {l : List α}, z ∈ insK key x l → z = x ∨ z ∈ l
  | [], h => by simpa [insK] using h
  | y :: r, h => by
    unfold insK at h
    split at h
    · simpa using h
    · split at h
      · exact .inr h
      · rcases List.mem_cons.mp h with q | q
        · exact .inr (by rw [q]; exact List.mem_cons_self)
        · rcases insK_sub q with q | q
          · exact .inl q
          · exact .inr (List.mem_cons_of_mem _ q)
theorem insK_old {x z : α} : ∀ {l : List α}, z ∈ l → z ∈ insK key x l
  | y :: r, h => by
    unfold insK
    split
    · exact List.mem_cons_of_mem _ h
    · split
      · exact h
      · rcases List.mem_cons.mp h with q | q
        · rw [q]; exact List.mem_cons_self
        · exact List.mem_cons_of_mem _ (insK_old q)
theorem insK_new {x : α} : ∀ {l : List α}, (∀ z ∈ l, key z = key x → z = x) → x ∈ insK key x l
  | [], _ => by simp [insK]
  | y :: r, h => by
    unfold insK
    split
    · exact List.mem_cons_self
    · split
      · next q => rw [h y List.mem_cons_self q.symm]; exact List.mem_cons_self
      · exact List.mem_cons_of_mem _ (insK_new fun z hz => h z (List.mem_cons_of_mem _ hz))
theorem insK_pw {x : α} : ∀ {l : List α}, l.Pairwise (fun a b => key a < key b) → (insK key x l).Pairwise (fun a b => key a < key b)
  | [], _ => by simp [insK]
  | y :: r, h => by
    obtain ⟨h1, h2⟩ := List.pairwise_cons.mp h
    unfold insK
    split
    · next q =>
      refine List.pairwise_cons.mpr ⟨fun z hz => ?_, h⟩
      rcases List.mem_cons.mp hz with e | e
      · rw [e]; exact q
      · exact Int.lt_trans q (h1 z e)
    · split
      · exact h
      · next q1 q2 =>
        refine List.pairwise_cons.mpr ⟨fun z hz => ?_, insK_pw h2⟩
        rcases insK_sub key hz with e | e
        · rw [e]; omega
        · exact h1 z e
theorem setK_pw : ∀ l : List α, (setK key l).Pairwise (fun a b => key a < key b)
  | [] => List.Pairwise.nil
  | x :: r => insK_pw key (setK_pw r)
theorem setK_sub {z : α} : ∀ {l : List α}, z ∈ setK key l → z ∈ l
  | x :: r, h => by
    rcases insK_sub key h with q | q
    · rw [q]; exact List.mem_cons_self
    · exact List.mem_cons_of_mem _ (setK_sub q)
theorem setK_all {z : α} : ∀ {l : List α}, (∀ a ∈ l, ∀ b ∈ l, key a = key b → a = b) → z ∈ l → z ∈ setK key l
  | x :: r, hi, h => by
    rcases List.mem_cons.mp h with q | q
    · rw [q]
      exact insK_new key fun w hw e => hi w (List.mem_cons_of_mem _ (setK_sub key hw)) x List.mem_cons_self e
    · exact insK_old key (setK_all (fun a ha b hb => hi a (List.mem_cons_of_mem _ ha) b (List.mem_cons_of_mem _ hb)) q)
theorem pwK_uniq : ∀ {l k : List α}, l.Pairwise (fun a b => key a < key b) → k.Pairwise (fun a b => key a < key b) → (∀ z, z ∈ l ↔ z ∈ k) → l = k
  | [], [], _, _, _ => rfl
  | [], y :: k, _, _, h => by have := (h y).mpr List.mem_cons_self; cases this
  | x :: l, [], _, _, h => by have := (h x).mp List.mem_cons_self; cases this
  | x :: l, y :: k, h1, h2, h => by
    obtain ⟨a1, a2⟩ := List.pairwise_cons.mp h1
    obtain ⟨b1, b2⟩ := List.pairwise_cons.mp h2
    have e : x = y := by
      rcases List.mem_cons.mp ((h x).mp List.mem_cons_self) with q | q
      · exact q
      · rcases List.mem_cons.mp ((h y).mpr List.mem_cons_self) with q' | q'
        · exact q'.symm
        · have := a1 y q'; have := b1 x q; omega
    subst e
    rw [pwK_uniq a2 b2 fun z => ?_]
    refine ⟨fun hz => ?_, fun hz => ?_⟩
    · rcases List.mem_cons.mp ((h z).mp (List.mem_cons_of_mem _ hz)) with q | q
      · subst q; have := a1 z hz; omega
      · exact q
    · rcases List.mem_cons.mp ((h z).mpr (List.mem_cons_of_mem _ hz)) with q | q
      · subst q; have := b1 z hz; omega
      · exact q
end
def setI (l : List Int) : List Int := setK (fun i => i) l
theorem setI_pw (l : List Int) : (setI l).Pairwise (· < ·) := setK_pw (fun i => i) l
theorem mem_setI {l : List Int} {z : Int} : z ∈ setI l ↔ z ∈ l := ⟨setK_sub _, setK_all _ fun _ _ _ _ e => e⟩
theorem setI_is {l k : List Int} (h : l.Pairwise (· < ·)) (hm : ∀ z, z ∈ l ↔ z ∈ k) : l = setI k := pwK_uniq (fun i => i) h (setI_pw k) fun z => by rw [mem_setI]; exact hm z

/-! ### sorted(set(xs)), ints -/
section
variable {X : Cx} {x y : Str} {p p2 pos pos2 : Pos} {e : Expr} {da : DA} {n : Nat}
def rSetL (K : PySem.W.Frag) (w : World) : List V → Hp → VK → Prop := fun xs H Q => ∃ (l : Addr) (ns : List Int), xs = [V.ref l] ∧ SqL K H l (ns.map V.int) ∧ ns.length < 64 ∧
  ∀ p k, H p = none → k ≤ ns.length → Q (.ref p) (upd H p (SetO w p (fun j => decide (j ∈ ns)) k))
theorem cr_setL (hc : X.calm = true) : CallR X (.type "set") (rSetL X.K X.w) := by
  intro pins s σ H xs us Q I r h
  obtain ⟨l, ns, rfl, hl, hf, q⟩ := h
  rw [Vals.ref1 r]
  obtain ⟨its, rv, pl, hz⟩ := I.list hl
  have hn : H s.heap.objs.size = none := I.hok.fresh (Nat.le_refl _)
  refine call_setL (P := X.prog) (w := X.w) ns (I.ok.hd hc) pl.isList (by simpa using ints_of_vals rv) (by unfold scanBound; omega) fun h' tk c R hc' k => ?_
  exact ⟨.ref s.heap.objs.size, upd H s.heap.objs.size (SetO X.w s.heap.objs.size _ c), I.laid (t' := tk) k (Nat.le_refl _) (setO_new R), rfl, q _ c hn hc'⟩
/-- sorted(set(e)) -/
def dSortSet (da : DA) : DE := fun ρ m Q => da ρ m fun ds m1 => match ds with
  | [d] => match intsV m1 d with
    | some ns => ns.length < 64 ∧ Q (.lst ((setI ns).map D.int)) m1
    | none => False
  | _ => False
theorem dx_sortSet (c : CF X n) (ha : DAX X [e] da) (hm : X.mg x = none) (hv : bootBuiltins x = some (.builtin "sorted")) (hmy : X.mg y = none) (hvy : bootBuiltins y = some (.type "set")) (hg : Gl X x := by rfl) (hgy : Gl X y := by rfl)
    (hn : x ≠ "__name__" := by decide) (hdb : (x == ("__debug__" : Str)) = false := by decide) (hny : y ≠ "__name__" := by decide) (hdy : (y == ("__debug__" : Str)) = false := by decide)
    (he : starEach [e] X.env = (false, eval e X.env) :: starEach [] X.env := by rfl) (hpl : (backTo pos2 (starEach [] X.env)).any (·.1) = false := by rfl)
    (he2 : starEach [.Call (.Name y p2) [e] [] pos2] X.env = (false, eval (.Call (.Name y p2) [e] [] pos2) X.env) :: starEach [] X.env := by rfl) (hpl2 : (backTo pos (starEach [] X.env)).any (·.1) = false := by rfl) :
    DX X (.Call (.Name x p) [.Call (.Name y p2) [e] [] pos2] [] pos) (dSortSet da) :=
  let ⟨_, h1, h2⟩ := ha
  ⟨_, pe_callB (cr_sortedSet c.calm) hg hm hv (pa_cons (pe_callTy (cr_setL c.calm) hgy hmy hvy h1 hny hdy he hpl) pa_nil he2) hn hdb he2 hpl2, fun {F H m σ ρ Q QV} s e h k => by
    refine h2 s e h fun vs ds F1 H1 m1 g1 r1 q => ?_
    split at q
    · next d =>
      split at q
      · next ns hns =>
        obtain ⟨v, rfl, rv⟩ := one_rep r1
        obtain ⟨a, rfl, hl⟩ := intsV_rep (K := X.K) g1.si rv hns
        refine ⟨a, ns, rfl, hl, q.1, fun p kk hp hkk => ?_⟩
        refine ⟨p, _, kk, rfl, upd_same, by have := q.1; omega, fun ns' r hpw hmem _ hr => ?_⟩
        obtain rfl := setI_is hpw (k := ns) fun z => by rw [hmem z]; simp
        have g2 : Go F1 H1 m1 F1 (upd H1 p (SetO X.w p (fun j => decide (j ∈ ns)) kk)) m1 := (Go.refl g1.si).hid hp (g1.si.sub.fresh hp) (g1.si.fresh hp)
        have g3 := Go.froz (o := .lst ((setI ns).map V.int)) g2.si hr
        exact k _ _ _ _ _ ((g1.trans g2).trans g3) (rep_lst upd_same (repL_of_ints _)) q.2
      · exact q.elim
    · exact q.elim⟩

/-! ### sorted(set(xs)), tuples of ints -/
def codeT : List Int → Int := TS.code 64
def setT (l : List (List Int)) : List (List Int) := setK codeT l
def okT (d : Nat) (k : List Int) : Prop := k.length = d ∧ TS.Bd 64 k
theorem codeT_inj : ∀ {d : Nat} {a b : List Int}, okT d a → okT d b → codeT a = codeT b → a = b
  | d, [], [], _, _, _ => rfl
  | d, [], y :: b, h1, h2, _ => by have := h1.1; have := h2.1; simp at *; omega
  | d, x :: a, [], h1, h2, _ => by have := h1.1; have := h2.1; simp at *; omega
  | d, x :: a, y :: b, h1, h2, e => by
    have l : a.length = b.length := by have := h1.1; have := h2.1; simp at *; omega
    have ba : TS.Bd 64 a := fun m hm => h1.2 m (List.mem_cons_of_mem _ hm)
    have bb : TS.Bd 64 b := fun m hm => h2.2 m (List.mem_cons_of_mem _ hm)
    have exy : x = y := by
      rcases Int.lt_trichotomy x y with q | q | q
      · have := TS.code_lt l ba bb q; unfold codeT at e; omega
      · exact q
      · have := TS.code_lt l.symm bb ba q; unfold codeT at e; omega
    subst exy
    have e' : codeT a = codeT b := by
      have e2 : x * 64 ^ a.length + TS.code 64 a = x * 64 ^ b.length + TS.code 64 b := e
      rw [l] at e2
      show TS.code 64 a = TS.code 64 b
      generalize x * 64 ^ b.length = w at e2
      omega
    rw [codeT_inj (d := a.length) ⟨rfl, ba⟩ ⟨l.symm, bb⟩ e']
theorem mem_setT {d : Nat} {l : List (List Int)} (h : ∀ k ∈ l, okT d k) {z : List Int} : z ∈ setT l ↔ z ∈ l := ⟨setK_sub _, setK_all _ fun _ ha _ hb e => codeT_inj (h _ ha) (h _ hb) e⟩
def tupI (k : List Int) : D := .tup (k.map D.int)
def tupIs? : List D → Option (List (List Int))
  | [] => some []
  | .tup t :: l => match ints? t with
    | some k => (tupIs? l).map (k :: ·)
    | none => none
  | _ :: _ => none
theorem tupIs?_map : ∀ ks : List (List Int), tupIs? (ks.map tupI) = some ks
  | [] => rfl
  | k :: ks => by
    show (match ints? (k.map D.int) with | some k => (tupIs? (ks.map tupI)).map (k :: ·) | none => none) = _
    rw [ints?_map, tupIs?_map ks] <;> rfl
theorem tupIs_rep {F : Hp} : ∀ {l : List D} {xs : List V} {ks : List (List Int)}, tupIs? l = some ks → RepL F l xs → ∃ ps : List (Addr × List Int), ps.map (·.2) = ks ∧ xs = ps.map (fun p => V.ref p.1) ∧ ∀ p ∈ ps, F p.1 = some (.tup (p.2.map V.int))
  | [], xs, ks, h, r => by
    cases h
    exact ⟨[], rfl, r.inv0, fun _ z => nomatch z⟩
  | d :: l, xs, ks, h, r => by
    obtain ⟨v, rest, rfl, r1, r2⟩ := r.inv
    cases d with
    | tup t =>
      unfold tupIs? at h
      split at h
      · next k hk =>
        cases hl : tupIs? l with
        | none => rw [hl] at h; cases h
        | some ks' =>
          rw [hl] at h
          cases h
          obtain ⟨ps, e1, e2, e3⟩ := tupIs_rep hl r2
          obtain ⟨a, ys, rfl, h1, h2⟩ := r1.tup
          rw [ints?_eq hk] at h2
          rw [repL_ints h2] at h1
          refine ⟨(a, k) :: ps, by rw [List.map_cons, e1], by rw [List.map_cons, e2], fun p hp => ?_⟩
          rcases List.mem_cons.mp hp with z | z
          · rw [z]; exact h1
          · exact e3 p z
      · cases h
    | _ => cases h
theorem repL_tups {F : Hp} : ∀ {ps : List (Addr × List Int)}, (∀ p ∈ ps, F p.1 = some (.tup (p.2.map V.int))) → RepL F ((ps.map (·.2)).map tupI) (ps.map (fun p => V.ref p.1))
  | [], _ => repL_nil
  | p :: ps, h => repL_cons (rep_tup (h p List.mem_cons_self) (repL_of_ints _)) (repL_tups fun q hq => h q (List.mem_cons_of_mem _ hq))
def dSortSetT (da : DA) : DE := fun ρ m Q => da ρ m fun ds m1 => match ds with
  | [d] => match vw m1 d with
    | .lst l => match tupIs? l with
      | some ks => (ks.length < 64 ∧ ∃ w, 1 ≤ w ∧ ∀ k ∈ ks, okT w k) ∧ Q (.lst ((setT ks).map tupI)) m1
      | none => False
    | _ => False
  | _ => False
theorem dx_sortSetT (c : CF X n) (ha : DAX X [e] da) (hm : X.mg x = none) (hv : bootBuiltins x = some (.builtin "sorted")) (hmy : X.mg y = none) (hvy : bootBuiltins y = some (.type "set")) (hg : Gl X x := by rfl) (hgy : Gl X y := by rfl)
    (hn : x ≠ "__name__" := by decide) (hdb : (x == ("__debug__" : Str)) = false := by decide) (hny : y ≠ "__name__" := by decide) (hdy : (y == ("__debug__" : Str)) = false := by decide)
    (he : starEach [e] X.env = (false, eval e X.env) :: starEach [] X.env := by rfl) (hpl : (backTo pos2 (starEach [] X.env)).any (·.1) = false := by rfl)
    (he2 : starEach [.Call (.Name y p2) [e] [] pos2] X.env = (false, eval (.Call (.Name y p2) [e] [] pos2) X.env) :: starEach [] X.env := by rfl) (hpl2 : (backTo pos (starEach [] X.env)).any (·.1) = false := by rfl) :
    DX X (.Call (.Name x p) [.Call (.Name y p2) [e] [] pos2] [] pos) (dSortSetT da) :=
  let ⟨_, h1, h2⟩ := ha
  ⟨_, pe_callB (cr_sortedT c.calm) hg hm hv (pa_cons (pe_callTy (cr_setOfT c.calm (c.room.units)) hgy hmy hvy h1 hny hdy he hpl) pa_nil he2) hn hdb he2 hpl2, fun {F H m σ ρ Q QV} s e h k => by
    refine h2 s e h fun vs ds F1 H1 m1 g1 r1 q => ?_
    split at q
    · next d =>
      split at q
      · next l hl =>
        split at q
        · next ks hks =>
          obtain ⟨⟨h64, w, hw1, hw⟩, q⟩ := q
          obtain ⟨v, rfl, rv⟩ := one_rep r1
          obtain ⟨a, xs, rfl, h1, rl⟩ := vw_lst (K := X.K) g1.si rv hl
          obtain ⟨ps, e1, e2, e3⟩ := tupIs_rep hks rl
          subst e2
          have hps : ∀ p ∈ ps, okT w p.2 := fun p hp => hw _ (by rw [← e1]; exact List.mem_map_of_mem hp)
          refine ⟨a, ps, rfl, h1, fun p hp => SqT.of (g1.si.sub.tup (e3 p hp)), by rw [← e1, List.length_map] at h64; exact h64, fun p L hp hL1 hL2 => ?_⟩
          have g2 : Go F1 H1 m1 F1 (upd H1 p (SetTO X.prog X.w p L)) m1 := (Go.refl g1.si).hid hp (g1.si.sub.fresh hp) (g1.si.fresh hp)
          refine ⟨p, L, w, 64, rfl, upd_same, fun q hq => SqT.of (g2.si.sub.tup (e3 q (hL1 q hq))), hw1, fun q hq => hps q (hL1 q hq), fun L' r pm nd _ pw hr => ?_⟩
          have hL' : ∀ q ∈ L', q ∈ ps := fun q hq => hL1 q (pm.mem_iff.mp hq)
          have en : L'.map (·.2) = setT ks := by
            refine pwK_uniq codeT ?_ (setK_pw codeT ks) fun z => ?_
            · rw [List.pairwise_map]
              have nd' := List.pairwise_map.mp nd
              refine List.Pairwise.imp_of_mem ?_ (pw.and nd')
              intro u v hu hv ⟨z1, z2⟩
              rcases Int.lt_or_eq_of_le z1 with z | z
              · exact z
              · exact absurd (codeT_inj (hps u (hL' u hu)) (hps v (hL' v hv)) z) z2
            · show z ∈ _ ↔ z ∈ setT ks
              rw [mem_setT hw, ← e1]
              refine ⟨fun hz => ?_, fun hz => ?_⟩
              · obtain ⟨q, hq, rfl⟩ := List.mem_map.mp hz
                exact List.mem_map_of_mem (hL' q hq)
              · obtain ⟨q, hq, rfl⟩ := List.mem_map.mp hz
                obtain ⟨q', hq', e'⟩ := List.mem_map.mp (hL2 q hq)
                rw [← e']
                exact List.mem_map_of_mem (pm.mem_iff.mpr hq')
          have g3 := Go.froz (o := .lst (L'.map fun q => V.ref q.1)) g2.si hr
          refine k _ (.lst ((setT ks).map tupI)) _ _ _ ((g1.trans g2).trans g3) (rep_lst upd_same ?_) q
          rw [← en]
          exact (repL_tups fun q hq => e3 q (hL' q hq)).mono g3.ex
        · exact q.elim
      · exact q.elim
    · exact q.elim⟩

/-! ### list(range(n)) -/
def dListR (de : DE) : DE := fun ρ m Q => de ρ m fun d m1 => match d with
  | .int k => RgOk 0 k ∧ Q (.lst (rngD 0 k.toNat)) m1
  | _ => False
theorem rep_rgV {F : Hp} {k : Int} : RepL F (rngD 0 k.toNat) (rgV 0 k) := by
  have e1 : rngD 0 k.toNat = ((List.range k.toNat).map fun i : Nat => (0 : Int) + (i : Int)).map D.int := by unfold rngD; rw [List.map_map]; rfl
  have e2 : rgV 0 k = ((List.range k.toNat).map fun i : Nat => (0 : Int) + (i : Int)).map V.int := by unfold rgV; rw [List.map_map, Int.sub_zero]; rfl
  rw [e1, e2]
  exact repL_of_ints _
theorem dx_listR {de : DE} (c : CF X n) (ha : DX X e de) (hm : X.mg "list" = none) (hmr : X.mg "range" = none) (hg : Gl X "list" := by rfl) (hgr : Gl X "range" := by rfl)
    (na : starEach [e] X.env = (false, eval e X.env) :: starEach [] X.env := by rfl) (na2 : starEach [.Call (.Name "range" p2) [e] [] pos2] X.env = (false, eval (.Call (.Name "range" p2) [e] [] pos2) X.env) :: starEach [] X.env := by rfl) :
    DX X (.Call (.Name "list" p) [.Call (.Name "range" p2) [e] [] pos2] [] pos) (dListR de) :=
  let ⟨_, h1, h2⟩ := ha
  ⟨_, pe_listRg c.calm hg hm (prg_1 hgr hmr h1 na) na2, fun {F H m σ ρ Q QV} s e h k => by
    refine h2 s e h fun v d F1 H1 m1 g1 r1 q => ?_
    split at q
    · next j =>
      refine ⟨j, r1.int, q.1, fun p hp => ?_⟩
      have g2 := Go.froz (o := .lst (rgV 0 j)) g1.si hp
      exact k _ _ _ _ _ (g1.trans g2) (rep_lst upd_same rep_rgV) q.2
    · exact q.elim⟩

/-! ### a, b, c = x, y, z, plain locals -/
def dPar3 (i j l : Nat) (da : DA) : DS := fun E ρ m => da ρ m fun ds m1 => match ds with
  | [x, y, z] => E.nx (((ρ.set i (some x)).set j (some y)).set l (some z)) m1
  | _ => False
theorem ds_par3 {i j l : Nat} {x y z : Str} {a b c : Expr} {px py pz pt : Pos} {kt k2 : Nat} {pt2 : Pos} {dl : DA} (cf : CF X n) (h : DAX X [a, b, c] dl) (hi : X.N[i]? = some x) (hj : X.N[j]? = some y) (hl : X.N[l]? = some z) (hij : i ≠ j) (hil : i ≠ l) (hjl : j ≠ l)
    (hx : X.env.scope.names.lookup x = some .local) (hy : X.env.scope.names.lookup y = some .local) (hz : X.env.scope.names.lookup z = some .local)
    (hw : swappedStores [.Tuple [.Name x px, .Name y py, .Name z pz] kt pt] (.Tuple [a, b, c] k2 pt2) X.env = pure (some [x, y, z]))
    (hs : swapsWithSole [.Tuple [.Name x px, .Name y py, .Name z pz] kt pt] (.Tuple [a, b, c] k2 pt2) pos.line X.env = pure false := by rfl) : DSX X (.Assign [.Tuple [.Name x px, .Name y py, .Name z pz] kt pt] (.Tuple [a, b, c] k2 pt2) pos) (dPar3 i j l dl) :=
  let ⟨_, h1, h2⟩ := h
  ⟨_, ps_par3 cf.calm cf.nd hi hj hl hij hil hjl hx hy hz h1 hw hs, fun {F H m σ ρ E D'} s e h k => by
    refine h2 s e h fun vs ds F1 H1 m1 g1 r1 q1 => ?_
    split at q1
    · obtain ⟨u, r, rfl, ru, r2⟩ := r1.inv
      obtain ⟨w, r, rfl, rw', r3⟩ := r2.inv
      obtain ⟨w3, r, rfl, rw3, r4⟩ := r3.inv
      obtain rfl := r4.inv0
      exact ⟨u, w, w3, rfl, k.nx _ _ F1 H1 m1 g1 ((((e.mono g1.ex).set _ ru).set _ rw').set _ rw3) q1⟩
    · exact q1.elim⟩
end
end PF

namespace PF
open PySem PySem.Spec L2 PyProof.Rows

/-- none of the objects written down is a list -/
def noList (K : PySem.W.Frag) : Bool := K.all fun p => match p.2.cls with
  | .type t => !(t == "list")
  | _ => true
theorem noList_no {K : PySem.W.Frag} (h : noList K = true) {a : Addr} {o : Obj} (e : K.lookup a = some o) (c : o.cls = .type "list") : False := by
  unfold noList at h
  rw [List.all_eq_true] at h
  have hm : (a, o) ∈ K := by
    clear h
    induction K with
    | nil => cases e
    | cons p r ih =>
      obtain ⟨b, u⟩ := p
      rw [List.lookup_cons] at e
      split at e
      · next q => cases e; rw [beq_iff_eq.mp q]; exact List.mem_cons_self
      · exact List.mem_cons_of_mem _ (ih e)
  have := h _ hm
  rw [c] at this
  simp at this
def lawD (n : Nat) : DSp := fun ds m Q => ∃ ns : List Int, ds = [.frl (ns.map D.int)] ∧ ns.length ≤ n ∧ ∀ m', Q (.bl true) m'
theorem law_callG {P : Program} {w : World} {K : PySem.W.Frag} {mg mb : Str → Option Value} {k n : Nat} {fa a : Addr} {x : Str} {s₁ : Shared} {vs : List Value} {ns : List Int}
    (nl : noList K = true) (KX : K.In s₁.heap) (hns : s₁.heap.Ns mainGlobals mg) (hb : s₁.heap.Ns builtinsNs mb) (hbb : ∀ x : Str, x ≠ "__name__" → mb x = bootBuiltins x) (hlim : s₁.heap.NoLimit) (hg : s₁.gens = #[])
    (ha : s₁.heap.get? a = some { cls := .type "list", data := .seq vs.toArray }) (hi : IntsAre vs ns) (hl : ns.length ≤ sizeLine) (hln : ns.length ≤ n) (hr : Room k callerA)
    (F : ∀ base : Heap, K.In base → base.Ns mainGlobals mg → ∃ fd : FuncData, (∀ (s : Shared) (u : Value), BindsTo s fd ⟨[u], []⟩ [(x, u)]) ∧ FnG P w K mg base k fa fd [x] (spOf (lawD n))) :
    codeAny (model P w) callerA (.call (.ref fa) ⟨[.ref a], []⟩) (fun r s' => r = .ok (.ret (.bool true)) ∧ OldK s₁.heap s'.heap ∧ s'.os = s₁.os ∧ AllBare s'.gens) s₁ := by
  have rv := vals_ints hi
  have lenV := hi.length
  have hK : K.lookup a = none := by
    cases e : K.lookup a with
    | none => rfl
    | some o =>
      have z := KX a o e
      rw [ha] at z
      cases z
      exact (noList_no nl e rfl).elim
  -- the tracked heap: the script alone, known to its object
  let ob : Obj := { cls := .type "list", data := .seq vs.toArray }
  let H : Hp := fun b => if b = a then some (.frz ob (.lst (ns.map V.int))) else none
  have Ha : H a = some (.frz ob (.lst (ns.map V.int))) := if_pos rfl
  have Hn : ∀ {b}, b ≠ a → H b = none := fun q => if_neg q
  have hok : HOk P w H s₁.heap := fun b u z => by
    by_cases q : b = a
    · subst q
      rw [Ha] at z
      cases z
      exact ⟨ha, by rw [List.length_map]; exact hl, vs, _, rv, ha⟩
    · rw [Hn q] at z; cases z
  have base_of : ∀ {b : Addr} {o : Obj}, s₁.heap.get? b = some o → H b = none → (hidT s₁.heap H).get? b = some o := fun e n => hidT_get e n
  have noA : ∀ {b : Addr} {o : Obj} {es : Array DictEntry} {ep : Nat}, s₁.heap.get? b = some o → o.data = .dict es ep → H b = none := fun {b o es ep} e d => by
    by_cases q : b = a
    · subst q
      rw [ha] at e; cases e
      have d' : Data.seq vs.toArray _ = Data.dict es ep := d
      cases d'
    · exact Hn q
  have nsK : ∀ {b : Addr} {m : Str → Option Value}, s₁.heap.Ns b m → (hidT s₁.heap H).Ns b m := fun {b m} ⟨o, es, ep, e, d, r⟩ => ⟨o, es, ep, base_of e (noA e d), d, r⟩
  have hKb : K.In (hidT s₁.heap H) := fun b o e => base_of (KX b o e) (Hn fun q => by subst q; rw [hK] at e; cases e)
  have hM : Mod K mg (hidT s₁.heap H) := ⟨hKb, nsK hns, ⟨mb, nsK hb, hbb⟩, let ⟨mc, h1, h2⟩ := hlim; ⟨mc, nsK h1, h2⟩⟩
  have e0 : Env0 P w K mg (hidT s₁.heap H) callerA [] s₁ H := ⟨rfl, hM, fun b o e => of_hidT e, Nat.le_of_eq (hidT_size _ _), trivial, fun b hb => absurd (show b ∈ ([] : List Addr) from hb) (by simp), hok, .of_eq hg⟩
  have si : SI H H (fun _ => none) := ⟨fun b u z => z, fun b c z => by cases z⟩
  have rp : Rep H (.frl (ns.map D.int)) (.ref a) := by unfold Rep; exact ⟨a, ob, _, rfl, Ha, repL_of_ints _⟩
  have sp : spOf (lawD n) [.ref a] H (fun v _ => v = .bl true) fun _ _ _ => False := ⟨H, fun _ => none, [.frl (ns.map D.int)], fun d _ => d = .bl true, si, repL_cons rp repL_nil, ⟨ns, rfl, hln, fun _ => rfl⟩, fun v d F2 H2 m2 _ r q => by subst q; exact r.bl⟩
  obtain ⟨fd, hbind, FG⟩ := F _ hKb (nsK hns)
  refine codeAny_mono (FG.run (outer := []) (s := s₁) (us := [.ref a]) (E := fun _ _ _ => False) rfl hr e0 (hbind s₁ (.ref a)) (.cons (show L2.RelV (.ref a) (.ref a) from rfl) .nil) sp) fun r s' h => ?_
  cases r with
  | error e => exact False.elim h
  | ok fl =>
    cases fl with
    | next => exact False.elim h
    | brk => exact False.elim h
    | cont => exact False.elim h
    | ret u =>
      obtain ⟨v, H', os, bare, un, hok', r', q⟩ := h
      have q' : v = .bl true := q
      subst q'
      obtain rfl : u = Value.bool true := r'
      refine ⟨rfl, OldK.of_keep fun b o e => ?_, os, bare⟩
      by_cases z : b = a
      · subst z
        have z2 := un.frzs b ob _ Ha
        obtain ⟨e1, _⟩ := hok b _ Ha
        obtain ⟨e2, _⟩ := hok' b _ z2
        rw [e] at e1; cases e1
        exact e2
      · exact un.keep b o e (Hn z) (by intro z; exact absurd (show b ∈ ([] : List Addr) from z) (by simp)) (by simp)
theorem walk_ofG {l : PySem.W.OpenLaw} {n k : Nat} {q : Program} {loose : List Str} {XP : (Str → Option Value) → Heap → Prop} {YP : World → Heap → Prop} {d : DefRec} {K : Params → PySem.W.Frag} {x : Str}
    (hn : l.most = some n) (hn2 : n ≤ sizeLine) (hdf : d.params.defaults = []) (hr : Room k callerA)
    (hY : ∀ (w : World) (h : Heap), YP w h → (K w.params).In h) (nl : ∀ w : World, noList (K w.params) = true)
    (F : ∀ (w : World) (mg : Str → Option Value) (fa : Addr) (h : Heap), (K w.params).In h → h.Ns mainGlobals mg → mg d.name = some (.ref fa) →
      ∀ base : Heap, (K w.params).In base → base.Ns mainGlobals mg → ∃ fd : FuncData, (∀ (s : Shared) (u : Value), BindsTo s fd ⟨[u], []⟩ [(x, u)]) ∧ FnG l.prog w (K w.params) mg base k fa fd [x] (spOf (lawD n))) :
    PySem.W.WalkO q loose XP YP l.row.toRowW d [] (fun f vs => PySem.call f vs) := by
  refine Att.attach_call hn hdf fun w s₀ s₁ mg mb fa o pm cd doc a vs ns G Y ho hd hcd hmg hobj hints hlen hg => ?_
  have KX := hY w _ Y
  exact law_callG (nl w) KX G.T.g G.T.b G.T.builtins G.T.nolimit hg hobj hints (Nat.le_trans hlen hn2) hlen hr (F w mg fa _ KX G.T.g hmg)
end PF

namespace PF
open PySem PySem.Spec L2

/-! ### the readings, opened: a form that simp can go on with -/
section
variable {ρ : Env} {m : Mem} {Q : D → Mem → Prop} {QB : Bool → Mem → Prop} {QL : List D → Mem → Prop} {E : DEnds} {da db dc : DE} {dt du : DT} {dl dk : DA} {t u : DS} {dr dr' : DR} {g : DG} {gs : DGs} {QE : Env → Mem → Prop} {a b : D}
@[simp] theorem s_next : dNext E ρ m = E.nx ρ m := rfl
@[simp] theorem s_seq : dSeq t u E ρ m = t { E with nx := u E } ρ m := rfl
@[simp] theorem s_never : dNever E ρ m = False := rfl
@[simp] theorem s_ret : dRet da E ρ m = da ρ m E.rt := rfl
@[simp] theorem s_yes : dYes ρ m QB = QB true m := rfl
@[simp] theorem s_retN : dRetN E ρ m = E.rt .non m := rfl
@[simp] theorem s_break : dBreak E ρ m = E.bk ρ m := rfl
@[simp] theorem s_cont : dCont E ρ m = E.ct ρ m := rfl
@[simp] theorem s_ifS : dIfS dt t u E ρ m = dt ρ m fun c m1 => if c = true then t E ρ m1 else u E ρ m1 := by
  unfold dIfS; congr 1; funext c m1; cases c <;> simp
@[simp] theorem s_asg : dAsg da g E ρ m = da ρ m fun d m1 => g d ρ m1 E.nx := rfl
@[simp] theorem s_par {i j : Nat} : dPar i j dl E ρ m = dl ρ m fun ds m1 => match ds with
  | [x, y] => E.nx ((ρ.set i (some x)).set j (some y)) m1
  | _ => False := rfl
@[simp] theorem s_par3 {i j l : Nat} : dPar3 i j l dl E ρ m = dl ρ m fun ds m1 => match ds with
  | [x, y, z] => E.nx (((ρ.set i (some x)).set j (some y)).set l (some z)) m1
  | _ => False := rfl
@[simp] theorem s_drop : dDrop da E ρ m = da ρ m fun _ m1 => E.nx ρ m1 := rfl
@[simp] theorem s_var {i : Nat} : dVar i ρ m Q = ∃ d, ρ[i]? = some (some d) ∧ Q d m := by
  unfold dVar; split
  · next d q => simp [q]
  · next q => simp only [eq_iff_iff, false_iff]; rintro ⟨d, e, _⟩; exact q d e
@[simp] theorem s_c : dC a ρ m Q = Q a m := rfl
@[simp] theorem s_op : dOp dr da db ρ m Q = da ρ m fun x m1 => db ρ m1 fun y m2 => dr x y m2 Q := rfl
@[simp] theorem s_test : dTest da ρ m QB = da ρ m fun d m1 => ∃ b, d = .bl b ∧ QB b m1 := by
  unfold dTest; congr 1; funext d m1; split <;> simp_all
@[simp] theorem s_chain : dChain dr dr' da db dc ρ m Q = da ρ m fun x m1 => db ρ m1 fun y m2 => dr x y m2 fun z m3 => ∃ b, z = .bl b ∧ if b = true then dc ρ m3 fun u m4 => dr' y u m4 Q else Q (.bl false) m3 := by
  unfold dChain; congr 1; funext x m1; congr 1; funext y m2; congr 1; funext z m3; split <;> simp_all
@[simp] theorem s_and : dAnd dt du ρ m QB = dt ρ m fun b m1 => if b = true then du ρ m1 QB else QB false m1 := by
  unfold dAnd; congr 1; funext c m1; cases c <;> simp
@[simp] theorem s_or : dOr dt du ρ m QB = dt ρ m fun b m1 => if b = true then QB true m1 else du ρ m1 QB := by
  unfold dOr; congr 1; funext c m1; cases c <;> simp
@[simp] theorem s_not : dNot dt ρ m QB = dt ρ m fun b m1 => QB (!b) m1 := rfl
@[simp] theorem s_andV : dAndV da db ρ m Q = da ρ m fun d m1 => ∃ b, d = .bl b ∧ if b = true then db ρ m1 Q else Q (.bl false) m1 := by
  unfold dAndV; congr 1; funext d m1; split <;> simp_all
@[simp] theorem s_orV : dOrV da db ρ m Q = da ρ m fun d m1 => ∃ b, d = .bl b ∧ if b = true then Q (.bl true) m1 else db ρ m1 Q := by
  unfold dOrV; congr 1; funext d m1; split <;> simp_all
@[simp] theorem s_notV : dNotV da ρ m Q = da ρ m fun d m1 => ∃ b, d = .bl b ∧ Q (.bl (!b)) m1 := by
  unfold dNotV; congr 1; funext d m1; split <;> simp_all
@[simp] theorem s_if : dIf dt da db ρ m Q = dt ρ m fun b m1 => if b = true then da ρ m1 Q else db ρ m1 Q := by
  unfold dIf; congr 1; funext c m1; cases c <;> simp
@[simp] theorem s_nil : dNil ρ m QL = QL [] m := rfl
@[simp] theorem s_cons : dCons da dl ρ m QL = da ρ m fun x m1 => dl ρ m1 fun xs m2 => QL (x :: xs) m2 := rfl
@[simp] theorem s_tup : dTup dl ρ m Q = dl ρ m fun ds m1 => ds.length ≤ sizeLine ∧ Q (.tup ds) m1 := rfl
@[simp] theorem s_lst : dLst dl ρ m Q = dl ρ m fun ds m1 => ds.length ≤ sizeLine ∧ Q (.lst ds) m1 := rfl
@[simp] theorem s_lstC : dLstC dl ρ m Q = dl ρ m fun ds m1 => ds.length ≤ sizeLine ∧ ∀ p, m1 p = none → Q (.cel p) (updM m1 p (.l ds)) := rfl
@[simp] theorem s_dicC : dDicC ρ m Q = ∀ p, m p = none → Q (.cel p) (updM m p (.d [] [])) := rfl
@[simp] theorem s_frz : dFrz da ρ m Q = da ρ m fun d m1 => ∃ a ds, d = .cel a ∧ m1 a = some (.l ds) ∧ Q (.lst ds) (delM m1 a) := by
  unfold dFrz; congr 1; funext d m1
  cases d with
  | cel a => cases h : m1 a with
    | none => simp [h]
    | some c => cases c <;> simp [h]
  | _ => simp
@[simp] theorem s_frzD : dFrzD da ρ m Q = da ρ m fun d m1 => ∃ a ks ds, d = .cel a ∧ m1 a = some (.d ks ds) ∧ Q (.dic ks ds) (delM m1 a) := by
  unfold dFrzD; congr 1; funext d m1
  cases d with
  | cel a => cases h : m1 a with
    | none => simp [h]
    | some c =>
      cases c with
      | l x => simp [h]
      | d ks ds =>
        simp only [h, eq_iff_iff]
        exact ⟨fun q => ⟨a, ks, ds, rfl, h, q⟩, fun ⟨a', ks', ds', e1, e2, q⟩ => by cases e1; rw [h] at e2; cases e2; exact q⟩
  | _ => simp
theorem s_drI {C : Int → Int → Prop} {f : Int → Int → D} : drI C f a b m Q = ∃ i j, a = .int i ∧ b = .int j ∧ C i j ∧ Q (f i j) m := by
  unfold drI; split <;> simp_all
theorem s_drI0 {f : Int → Int → D} : drI0 f a b m Q = ∃ i j, a = .int i ∧ b = .int j ∧ Q (f i j) m := by
  unfold drI0; split <;> simp_all
@[simp] theorem s_lt : drLt a b m Q = ∃ i j, a = .int i ∧ b = .int j ∧ Q (.bl (decide (i < j))) m := s_drI0
@[simp] theorem s_le : drLe a b m Q = ∃ i j, a = .int i ∧ b = .int j ∧ Q (.bl (decide (i ≤ j))) m := s_drI0
@[simp] theorem s_gt : drGt a b m Q = ∃ i j, a = .int i ∧ b = .int j ∧ Q (.bl (decide (j < i))) m := s_drI0
@[simp] theorem s_ge : drGe a b m Q = ∃ i j, a = .int i ∧ b = .int j ∧ Q (.bl (decide (j ≤ i))) m := s_drI0
@[simp] theorem s_sub : drSub a b m Q = ∃ i j, a = .int i ∧ b = .int j ∧ Q (.int (i - j)) m := s_drI0
@[simp] theorem s_div : drDiv a b m Q = ∃ i j, a = .int i ∧ b = .int j ∧ CDivN i j ∧ Q (.int (i.fdiv j)) m := s_drI
@[simp] theorem s_mod : drMod a b m Q = ∃ i j, a = .int i ∧ b = .int j ∧ j ≠ 0 ∧ Q (.int (i.fmod j)) m := s_drI
@[simp] theorem s_pow : drPow a b m Q = ∃ i j, a = .int i ∧ b = .int j ∧ CPow i j ∧ Q (.int (i ^ j.toNat)) m := s_drI
@[simp] theorem s_powW : drPowW a b m Q = ∃ i j, a = .int i ∧ b = .int j ∧ CPowW i j ∧ Q (.int (i ^ j.toNat)) m := s_drI
@[simp] theorem s_addI {i j : Int} : drAdd (.int i) (.int j) m Q = Q (.int (i + j)) m := rfl
@[simp] theorem s_addT {l k : List D} : drAdd (.tup l) (.tup k) m Q = (l.length + k.length ≤ sizeLine ∧ Q (.tup (l ++ k)) m) := rfl
@[simp] theorem s_addL {l k : List D} : drAdd (.lst l) (.lst k) m Q = (l.length + k.length ≤ sizeLine ∧ Q (.lst (l ++ k)) m) := rfl
@[simp] theorem s_mulI {i j : Int} : drMul (.int i) (.int j) m Q = (CMul i j ∧ Q (.int (i * j)) m) := rfl
@[simp] theorem s_neg : dNeg da ρ m Q = da ρ m fun x m1 => ∃ i, x = .int i ∧ Q (.int (-i)) m1 := by
  unfold dNeg; congr 1; funext d m1; split <;> simp_all
@[simp] theorem s_eq : drEq a b m Q = ((okD a = true ∧ okD b = true) ∧ Q (.bl (eqD a b)) m) := rfl
@[simp] theorem s_ne : drNe a b m Q = ((okD a = true ∧ okD b = true) ∧ Q (.bl (!eqD a b)) m) := rfl
@[simp] theorem s_eqV : drEqV a b m Q = ((okD (vw m a) = true ∧ okD (vw m b) = true) ∧ Q (.bl (eqD (vw m a) (vw m b))) m) := rfl
@[simp] theorem s_neV : drNeV a b m Q = ((okD (vw m a) = true ∧ okD (vw m b) = true) ∧ Q (.bl (!eqD (vw m a) (vw m b))) m) := rfl
@[simp] theorem s_ixT {l : List D} {i : Int} : drIx (.tup l) (.int i) m Q = ∃ d, atI l i = some d ∧ Q d m := by
  unfold drIx; cases h : atI l i <;> simp [h]
@[simp] theorem s_ixL {l : List D} {i : Int} : drIx (.lst l) (.int i) m Q = ∃ d, atI l i = some d ∧ Q d m := by
  unfold drIx; cases h : atI l i <;> simp [h]
@[simp] theorem s_ixF {l : List D} {i : Int} : drIx (.frl l) (.int i) m Q = ∃ d, atI l i = some d ∧ Q d m := by
  unfold drIx; cases h : atI l i <;> simp [h]
@[simp] theorem s_ixC {p : Addr} {i : Int} : drIx (.cel p) (.int i) m Q = ∃ l d, m p = some (.l l) ∧ atI l i = some d ∧ Q d m := by
  unfold drIx
  cases h : m p with
  | none => simp [h]
  | some c => cases c with
    | l l => cases h2 : atI l i <;> simp [h, h2]
    | d ks l => simp [h]
@[simp] theorem s_gname {i : Nat} : gdName i a ρ m QE = QE (ρ.set i (some a)) m := rfl
@[simp] theorem s_gtup {n : Nat} {l : List D} : gdTup n gs (.tup l) ρ m QE = (l.length = n ∧ gs l ρ m QE) := rfl
@[simp] theorem s_gcons {d : D} {ds : List D} : gdCons g gs (d :: ds) ρ m QE = g d ρ m fun ρ1 m1 => gs ds ρ1 m1 QE := rfl
@[simp] theorem s_gnil : gdNil [] ρ m QE = QE ρ m := rfl
@[simp] theorem s_gsub : gdSub da db a ρ m QE = da ρ m fun o m1 => db ρ m1 fun i m2 => ∃ p j l n, o = .cel p ∧ i = .int j ∧ m2 p = some (.l l) ∧ ixN l.length j = some n ∧ QE ρ (updM m2 p (.l (l.set n a))) := by
  unfold gdSub; congr 1; funext o m1; congr 1; funext i m2
  split
  · next p j =>
    cases h : m2 p with
    | none => simp [h]
    | some c => cases c with
      | l l => cases h2 : ixN l.length j <;> simp [h, h2]
      | d ks l => simp [h]
  · next h => simp only [eq_iff_iff, false_iff]; rintro ⟨p, j, l, n, rfl, rfl, _⟩; exact h _ _ rfl rfl
@[simp] theorem s_cb {dcc : DC} : dCB dcc dl ρ m Q = dl ρ m fun ds m1 => dcc ds m1 Q := rfl
@[simp] theorem s_call {sp : DSp} : dCall sp dl ρ m Q = dl ρ m fun ds m1 => sp ds m1 Q := rfl
@[simp] theorem s_callK {sp : DSp} {perm : List Nat} {n : Nat} : dCallK sp perm n dl ρ m Q = dl ρ m fun ds m1 => ds.length = n ∧ sp (pick perm ds) m1 Q := rfl
@[simp] theorem s_lenT {l : List D} : dcLen [.tup l] m Q = Q (.int l.length) m := rfl
@[simp] theorem s_lenL {l : List D} : dcLen [.lst l] m Q = Q (.int l.length) m := rfl
@[simp] theorem s_lenF {l : List D} : dcLen [.frl l] m Q = Q (.int l.length) m := rfl
theorem s_lenC {p : Addr} {l : List D} (h : m p = some (.l l)) : dcLen [.cel p] m Q = Q (.int l.length) m := by
  simp [dcLen, dc1, vw, h]
theorem intsV_l {ns : List Int} : intsV m (.lst (ns.map D.int)) = some ns := by unfold intsV vw; exact ints?_map ns
theorem blsV_l {ns : List Bool} : blsV m (.lst (ns.map D.bl)) = some ns := by unfold blsV vw; exact bls?_map ns
@[simp] theorem s_max {ns : List Int} : dcMax [.lst (ns.map D.int)] m Q = (0 < ns.length ∧ Q (.int (maxI ns)) m) := by unfold dcMax; simp only [intsV_l]
@[simp] theorem s_min {ns : List Int} : dcMin [.lst (ns.map D.int)] m Q = (0 < ns.length ∧ Q (.int (minI ns)) m) := by unfold dcMin; simp only [intsV_l]
@[simp] theorem s_max2 {i j : Int} : dcMax [.int i, .int j] m Q = Q (.int (if j > i then j else i)) m := rfl
@[simp] theorem s_min2 {i j : Int} : dcMin [.int i, .int j] m Q = Q (.int (if j < i then j else i)) m := rfl
@[simp] theorem s_sum {ns : List Int} : dcSum [.lst (ns.map D.int)] m Q = Q (.int ns.sum) m := by unfold dcSum dc1; simp only [intsV_l]
@[simp] theorem s_all {ns : List Bool} : dcAll [.lst (ns.map D.bl)] m Q = Q (.bl (ns.all fun b => b)) m := by unfold dcAll dc1; simp only [blsV_l]
@[simp] theorem s_any {ns : List Bool} : dcAny [.lst (ns.map D.bl)] m Q = Q (.bl (ns.any fun b => b)) m := by unfold dcAny dc1; simp only [blsV_l]
@[simp] theorem s_abs {i : Int} : dcAbs [.int i] m Q = Q (.int (if i < 0 then -i else i)) m := rfl
@[simp] theorem s_intI {i : Int} : dcInt [.int i] m Q = Q (.int i) m := rfl
@[simp] theorem s_intB {i : Bool} : dcInt [.bl i] m Q = Q (.int (if i then 1 else 0)) m := rfl
@[simp] theorem s_tupleL {l : List D} : dcTuple [.lst l] m Q = Q (.tup l) m := rfl
@[simp] theorem s_tupleT {l : List D} : dcTuple [.tup l] m Q = Q (.tup l) m := rfl
theorem s_tupleC {p : Addr} {l : List D} (h : m p = some (.l l)) : dcTuple [.cel p] m Q = Q (.tup l) m := by
  simp [dcTuple, dc1, vw, h]
@[simp] theorem s_sorted {ns : List Int} : dcSorted [.lst (ns.map D.int)] m Q = Q (.lst ((sortI ns).map D.int)) m := by unfold dcSorted dc1; simp only [intsV_l]
theorem s_sortedR {b : Bool} : dSortedR b dl ρ m Q = dl ρ m fun ds m1 => ∃ d ns, ds = [d] ∧ intsV m1 d = some ns ∧ Q (.lst ((if b then (sortI ns).reverse else sortI ns).map D.int)) m1 := by
  unfold dSortedR; congr 1; funext ds m1
  split
  · next d => cases h : intsV m1 d <;> simp [h]
  · next h => simp only [eq_iff_iff, false_iff]; rintro ⟨d, ns, rfl, _⟩; exact h _ rfl
@[simp] theorem s_repr {a : D} : dcRepr [a] m Q = (shD a ∧ Q (.str (pd a).shown) m) := rfl
theorem e_diL {R : List D → Mem → Prop} : diL da ρ m R = da ρ m fun d m1 => ∃ l, (d = .lst l ∨ d = .frl l) ∧ R l m1 := by
  unfold diL; congr 1; funext d m1; split <;> simp_all
theorem e_diT {R : List D → Mem → Prop} : diT da ρ m R = da ρ m fun d m1 => ∃ l, d = .tup l ∧ R l m1 := by
  unfold diT; congr 1; funext d m1; split <;> simp_all
theorem e_diR1 {R : List D → Mem → Prop} : diR1 dl ρ m R = dl ρ m fun ds m1 => ∃ j, ds = [.int j] ∧ (-(2 ^ 62) ≤ j ∧ j < 2 ^ 62) ∧ R (rngD 0 j.toNat) m1 := by
  unfold diR1; congr 1; funext ds m1; split <;> simp_all
theorem e_diR2 {R : List D → Mem → Prop} : diR2 dl ρ m R = dl ρ m fun ds m1 => match ds with
  | [.int i, .int j] => (-(2 ^ 62) ≤ i ∧ i < 2 ^ 62 ∧ -(2 ^ 62) ≤ j ∧ j < 2 ^ 62) ∧ R (rngD i (j - i).toNat) m1
  | _ => False := rfl
theorem e_diEnT {R : List D → Mem → Prop} : diEnT dl ρ m R = dl ρ m fun ds m1 => ∃ l, ds = [.tup l] ∧ R (enumD l) m1 := by
  unfold diEnT; congr 1; funext ds m1; split <;> simp_all
theorem e_diZip {R : List D → Mem → Prop} : diZip dl ρ m R = dl ρ m fun ds m1 => match ds with
  | [.lst l, .lst k] => R (zipD l k) m1
  | [.tup l, .tup k] => R (zipD l k) m1
  | _ => False := rfl
theorem e_diK {R : List D → Mem → Prop} : diK da ρ m R = da ρ m fun d m1 => ∃ ks l, d = .dic ks l ∧ R (ks.map dOfK) m1 := by
  unfold diK; congr 1; funext d m1; split <;> simp_all
@[simp] theorem s_no {R : Option Int → Mem → Prop} : dNo ρ m R = R none m := rfl
@[simp] theorem s_part {R : Option Int → Mem → Prop} : dPart da ρ m R = da ρ m fun d m1 => ∃ i, d = .int i ∧ R (some i) m1 := by
  unfold dPart; congr 1; funext d m1; split <;> simp_all
theorem e_sl {dl dh : DO} : dSl da dl dh ρ m Q = da ρ m fun x m1 => dl ρ m1 fun l m2 => dh ρ m2 fun u m3 => ∃ ds, (x = .tup ds ∧ Q (.tup (cutD ds l u)) m3) ∨ ((x = .lst ds ∨ x = .frl ds) ∧ Q (.lst (cutD ds l u)) m3) := by
  unfold dSl; congr 1; funext x m1; congr 1; funext l m2; congr 1; funext u m3; split <;> simp_all
@[simp] theorem s_isi {T : String} : dIsi T da ρ m Q = da ρ m fun d m1 => ∃ b, kitB (tyD d) T = some b ∧ tyD d ≠ "?" ∧ Q (.bl b) m1 := by
  unfold dIsi; congr 1; funext d m1; cases h : kitB (tyD d) T <;> simp [h]
theorem e_listR : dListR da ρ m Q = da ρ m fun d m1 => ∃ k, d = .int k ∧ RgOk 0 k ∧ Q (.lst (rngD 0 k.toNat)) m1 := by
  unfold dListR; congr 1; funext d m1; split <;> simp_all
theorem e_sortSet : dSortSet dl ρ m Q = dl ρ m fun ds m1 => ∃ d ns, ds = [d] ∧ intsV m1 d = some ns ∧ ns.length < 64 ∧ Q (.lst ((setI ns).map D.int)) m1 := by
  unfold dSortSet; congr 1; funext ds m1
  split
  · next d => cases h : intsV m1 d <;> simp [h]
  · next h => simp only [eq_iff_iff, false_iff]; rintro ⟨d, ns, rfl, _⟩; exact h _ rfl
theorem e_sortSetT : dSortSetT dl ρ m Q = dl ρ m fun ds m1 => ∃ d l ks, ds = [d] ∧ vw m1 d = .lst l ∧ tupIs? l = some ks ∧ (ks.length < 64 ∧ ∃ w, 1 ≤ w ∧ ∀ k ∈ ks, okT w k) ∧ Q (.lst ((setT ks).map tupI)) m1 := by
  unfold dSortSetT; congr 1; funext ds m1; apply propext; constructor
  · intro h
    split at h
    · next d =>
      split at h
      · next l hl =>
        split at h
        · next ks hk => exact ⟨d, l, ks, rfl, hl, hk, h.1, h.2⟩
        · exact h.elim
      · exact h.elim
    · exact h.elim
  · rintro ⟨d, l, ks, rfl, h1, h2, h3, q⟩
    simp only [h1, h2]
    exact ⟨h3, q⟩
@[simp] theorem s_app {T : String} : dMt T dmApp da dl ρ m Q = da ρ m fun x m1 => dTy T x m1 ∧ dl ρ m1 fun ds m2 => dmApp x ds m2 Q := rfl
theorem e_app {p : Addr} {y : D} {l : List D} (h : m p = some (.l l)) : dmApp (.cel p) [y] m Q = (l.length < sizeLine ∧ Q .non (updM m p (.l (l ++ [y])))) := by
  simp [dmApp, h]
theorem e_tyC {p : Addr} {l : List D} (h : m p = some (.l l)) : dTy "list" (.cel p) m := by simp [dTy, vw, h]
@[simp] theorem s_vwT {l : List D} : vw m (.tup l) = .tup l := rfl
@[simp] theorem s_vwL {l : List D} : vw m (.lst l) = .lst l := rfl
theorem e_vwC {p : Addr} {l : List D} (h : m p = some (.l l)) : vw m (.cel p) = .lst l := by simp [vw, h]
@[simp] theorem s_tyInt {i : Int} : tyD (.int i) = "int" := rfl
@[simp] theorem s_tyTup {l : List D} : tyD (.tup l) = "tuple" := rfl
@[simp] theorem kit_ii : kitB "int" "int" = some true := by decide +kernel
@[simp] theorem kit_ib : kitB "int" "bool" = some false := by decide +kernel
@[simp] theorem kit_tt : kitB "tuple" "tuple" = some true := by decide +kernel
@[simp] theorem okD_int {i : Int} : okD (.int i) = true := rfl
@[simp] theorem eqD_int {i j : Int} : eqD (.int i) (.int j) = decide (i = j) := by
  show (i == j) = decide (i = j); rw [Bool.eq_iff_iff]; simp
@[simp] theorem eqD_tt {l : List D} : eqD (.tup l) (.tup []) = l.isEmpty := by
  cases l <;> simp [eqD, pd, pdL, PyData.eqv, PyData.eqvAll]
@[simp] theorem eqD_ll {l : List D} : eqD (.lst l) (.lst []) = l.isEmpty := by
  cases l <;> simp [eqD, pd, pdL, PyData.eqv, PyData.eqvAll]
@[simp] theorem okD_t0 : okD (.tup []) = true := by decide
@[simp] theorem okD_l0 : okD (.lst []) = true := by decide
end

def drEqS : DR := fun a b m Q => ∃ x y, a = .str x ∧ b = .str y ∧ Q (.bl (decide (x = y))) m
theorem ox_eqS {X : Cx} : OX X (compareOp .Eq) drEqS := ⟨_, op_eq, fun {F H m x y a b Q QV} s ra rb q k => by
  obtain ⟨i, j, rfl, rfl, q⟩ := q
  rw [ra.str, rb.str]
  refine ⟨rfl, ?_⟩
  have e : decide (V.str i = V.str j) = decide (i = j) := by rw [Bool.eq_iff_iff]; simp
  rw [e]
  exact k _ _ _ _ _ (Go.refl s) rep_bl q⟩
@[simp] theorem s_eqS {a b : D} {m : Mem} {Q : D → Mem → Prop} : drEqS a b m Q = ∃ x y, a = .str x ∧ b = .str y ∧ Q (.bl (decide (x = y))) m := rfl
/-- two ways to be iterated -/
def diOr (d1 d2 : DI) : DI := fun ρ m R => d1 ρ m R ∨ d2 ρ m R
theorem di_or {X : Cx} {tg e : Expr} {d1 d2 : DI} (h1 : DIX X tg e d1) (h2 : DIX X tg e d2) : DIX X tg e (diOr d1 d2) := by
  obtain ⟨w1, a1, b1⟩ := h1
  obtain ⟨w2, a2, b2⟩ := h2
  refine ⟨fun σ H R => w1 σ H R ∨ w2 σ H R, ⟨fun pins s σ H R I q => ?_⟩, fun {F H m σ ρ R RV} s e hd k => ?_⟩
  · rcases q with q | q
    · exact a1.run pins s σ H R I q
    · exact a2.run pins s σ H R I q
  · rcases hd with q | q
    · exact .inl (b1 s e q k)
    · exact .inr (b2 s e q k)
@[simp] theorem s_diOr {d1 d2 : DI} {ρ : Env} {m : Mem} {R : List D → Mem → Prop} : diOr d1 d2 ρ m R = (d1 ρ m R ∨ d2 ρ m R) := rfl
theorem e_diEn {dl : DA} {ρ : Env} {m : Mem} {R : List D → Mem → Prop} : diEn dl ρ m R = dl ρ m fun ds m1 => ∃ l, ds = [.lst l] ∧ R (enumD l) m1 := by
  unfold diEn; congr 1; funext ds m1; split <;> simp_all

/-! ### comprehensions that leave the memory as it is -/
theorem lcGo_cons {g : DG} {t : DT} {f : DE} {ρ0 : Env} {d : D} {r : List D} {m : Mem} {acc : List D} {Q : List D → Mem → Prop} :
    lcGo g t f ρ0 (d :: r) m acc Q = g d ρ0 m fun ρ2 m2 => t ρ2 m2 fun b m3 => if b = true then f ρ2 m3 fun y m4 => lcGo g t f ρ0 r m4 (acc ++ [y]) Q else lcGo g t f ρ0 r m3 acc Q := by
  show (g d ρ0 m fun ρ2 m2 => t ρ2 m2 fun b m3 => (match b with
    | true => f ρ2 m3 fun y m4 => lcGo g t f ρ0 r m4 (acc ++ [y]) Q
    | false => lcGo g t f ρ0 r m3 acc Q)) = _
  congr 1; funext ρ2 m2; congr 1; funext b m3; cases b <;> rfl
/-- [f(x) for x in xs if p(x)] -/
theorem lc_ok {α : Type} {g : DG} {t : DT} {f : DE} {ρ0 : Env} {m : Mem} {Q : List D → Mem → Prop} {l : List D} (xs : List α) (enc : α → D) (p : α → Bool) (v : α → D) (hl : l = xs.map enc)
    (hs : ∀ x ∈ xs, ∀ (K1 : D → Mem → Prop) (K0 : Mem → Prop), (if p x = true then K1 (v x) m else K0 m) → g (enc x) ρ0 m fun ρ2 m2 => t ρ2 m2 fun b m3 => if b = true then f ρ2 m3 K1 else K0 m3)
    (h : Q ((xs.filter p).map v) m) : lcGo g t f ρ0 l m [] Q := by
  subst hl
  exact (lcGo_map2 xs [] h hs)
where
  lcGo_map2 : ∀ (xs : List α) (acc : List D), Q (acc ++ (xs.filter p).map v) m → 
    (∀ x ∈ xs, ∀ (K1 : D → Mem → Prop) (K0 : Mem → Prop), (if p x = true then K1 (v x) m else K0 m) → g (enc x) ρ0 m fun ρ2 m2 => t ρ2 m2 fun b m3 => if b = true then f ρ2 m3 K1 else K0 m3) →
    lcGo g t f ρ0 (xs.map enc) m acc Q
  | [], acc, h, _ => by simpa [lcGo] using h
  | x :: xs, acc, h, hs => by
    have ih : ∀ acc' : List D, Q (acc' ++ (xs.filter p).map v) m → lcGo g t f ρ0 (xs.map enc) m acc' Q := fun acc' q =>
      lcGo_map2 xs acc' q fun y hy => hs y (List.mem_cons_of_mem _ hy)
    have := hs x List.mem_cons_self (fun y m4 => lcGo g t f ρ0 (xs.map enc) m4 (acc ++ [y]) Q) (fun m3 => lcGo g t f ρ0 (xs.map enc) m3 acc Q) (by
      by_cases q : p x = true
      · rw [if_pos q]
        refine ih _ ?_
        rw [List.filter_cons_of_pos q] at h
        simpa using h
      · rw [if_neg q]
        refine ih _ ?_
        rwa [List.filter_cons_of_neg q] at h)
    have e := lcGo_cons (g := g) (t := t) (f := f) (ρ0 := ρ0) (d := enc x) (r := xs.map enc) (m := m) (acc := acc) (Q := Q)
    rw [List.map_cons]
    rw [e]; exact this
/-- for x in xs: what holds behind each turn -/
theorem for_ok {α : Type} {g : DG} {b : DS} {E : DEnds} {ρ : Env} {m : Mem} {l : List D} (xs : List α) (enc : α → D) (I : List α → Env → Mem → Prop) (hl : l = xs.map enc) (h0 : I [] ρ m)
    (hs : ∀ pre x post ρ m, xs = pre ++ x :: post → I pre ρ m → ∀ N : Env → Mem → Prop, (∀ ρ' m', I (pre ++ [x]) ρ' m' → N ρ' m') → g (enc x) ρ m fun ρ2 m2 => b { E with nx := N, ct := N, bk := E.nx } ρ2 m2)
    (he : ∀ ρ m, I xs ρ m → E.nx ρ m) : forGo g b E l ρ m := by
  subst hl
  have key : ∀ (post pre : List α) (ρ : Env) (m : Mem), xs = pre ++ post → I pre ρ m → forGo g b E (post.map enc) ρ m := by
    intro post
    induction post with
    | nil => intro pre ρ m e h; rw [List.append_nil] at e; subst e; exact he ρ m h
    | cons x post ih =>
      intro pre ρ m e h
      rw [List.map_cons]
      unfold forGo
      exact hs pre x post ρ m e h _ fun ρ' m' h' => ih (pre ++ [x]) ρ' m' (by rw [e]; simp) h'
  exact key xs [] ρ m rfl h0
end PF

namespace PF
open PySem PySem.Spec L2

/-! ### data that may be compared, shown -/
def flat (n : Nat) (d : D) : Prop := plain d = true ∧ (pd d).canLay0 = true ∧ (pd d).depth ≤ n
theorem flat_int {n : Nat} {i : Int} : flat n (.int i) := ⟨rfl, rfl, Nat.zero_le _⟩
theorem flat_non {n : Nat} : flat n .non := ⟨rfl, rfl, Nat.zero_le _⟩
theorem flatL {n : Nat} : ∀ {l : List D}, (∀ d ∈ l, flat n d) → plainL l = true ∧ PyData.canLayAll0 (pdL l) = true ∧ PyData.depthAll (pdL l) ≤ n
  | [], _ => ⟨rfl, rfl, Nat.zero_le _⟩
  | d :: l, h => by
    obtain ⟨a1, a2, a3⟩ := h d List.mem_cons_self
    obtain ⟨b1, b2, b3⟩ := flatL fun e he => h e (List.mem_cons_of_mem _ he)
    refine ⟨?_, ?_, ?_⟩
    · unfold plainL; rw [a1, b1]; rfl
    · unfold pdL PyData.canLayAll0; rw [a2, b2]; rfl
    · unfold pdL PyData.depthAll; omega
theorem flat_tup {n : Nat} {l : List D} (h : ∀ d ∈ l, flat n d) : flat (n + 1) (.tup l) := by
  obtain ⟨b1, b2, b3⟩ := flatL h
  refine ⟨by unfold plain; exact b1, by unfold pd PyData.canLay0; exact b2, ?_⟩
  unfold pd PyData.depth; omega
theorem flat_lst {n : Nat} {l : List D} (h : ∀ d ∈ l, flat n d) : flat (n + 1) (.lst l) := by
  obtain ⟨b1, b2, b3⟩ := flatL h
  refine ⟨by unfold plain; exact b1, by unfold pd PyData.canLay0; exact b2, ?_⟩
  unfold pd PyData.depth; omega
theorem okD_flat {n : Nat} {d : D} (h : flat n d) (hn : n ≤ 64) : okD d = true := okD_iff.mpr ⟨h.1, by
  unfold SeqAt.shaped
  rw [h.2.1, Bool.true_and, decide_eq_true_eq]
  exact Nat.le_trans h.2.2 hn⟩
theorem okD_ints {ns : List Int} : okD (.lst (ns.map D.int)) = true := okD_flat (n := 1) (flat_lst fun d hd => by obtain ⟨i, _, rfl⟩ := List.mem_map.mp hd; exact flat_int) (by omega)
theorem okD_intsT {ns : List Int} : okD (.tup (ns.map D.int)) = true := okD_flat (n := 1) (flat_tup fun d hd => by obtain ⟨i, _, rfl⟩ := List.mem_map.mp hd; exact flat_int) (by omega)
theorem eqD_refl {n : Nat} {d : D} (h : flat n d) : eqD d d = true := SeqAt.eqv_refl _ h.2.1

/-- shown by at most k characters -/
def shw (k n : Nat) (d : D) : Prop := flat n d ∧ (pd d).showable = true ∧ (pd d).shown.length ≤ k
theorem shw.mono {k k' n n' : Nat} {d : D} (h : shw k n d) (hk : k ≤ k') (hn : n ≤ n') : shw k' n' d := ⟨⟨h.1.1, h.1.2.1, Nat.le_trans h.1.2.2 hn⟩, h.2.1, Nat.le_trans h.2.2 hk⟩
theorem shw_int {i : Int} (h : -1000000000 < i) (h2 : i < 1000000000) : shw 1921 0 (.int i) := by
  have l : i.natAbs.log2 < 1920 := by
    by_cases z : i.natAbs = 0
    · rw [z]; decide
    · rw [Nat.log2_lt z]
      have : (1000000000 : Nat) ≤ 2 ^ 1920 := Nat.le_trans (by decide : (1000000000 : Nat) ≤ 2 ^ 30) (Nat.pow_le_pow_right (by decide) (by decide))
      omega
  exact ⟨flat_int, by unfold pd PyData.showable; exact decide_eq_true l, by unfold pd PyData.shown; exact PyProof.Rows.int_text_len_1921 l⟩
theorem shw_non : shw 4 0 .non := ⟨flat_non, rfl, by decide⟩
theorem shw_more : shw 8 0 (.str "more") := ⟨⟨rfl, by decide +kernel, Nat.zero_le _⟩, rfl, by decide +kernel⟩
theorem shw_spans : shw 8 0 (.str "spans") := ⟨⟨rfl, by decide +kernel, Nat.zero_le _⟩, rfl, by decide +kernel⟩
theorem shwL {k n : Nat} : ∀ {l : List D}, (∀ d ∈ l, shw k n d) → PyData.showableAll (pdL l) = true ∧ piled (PyData.shownAll (pdL l)) ≤ l.length * (k + 2)
  | [], _ => ⟨rfl, Nat.zero_le _⟩
  | d :: l, h => by
    obtain ⟨a1, a2, a3⟩ := h d List.mem_cons_self
    obtain ⟨b1, b2⟩ := shwL fun e he => h e (List.mem_cons_of_mem _ he)
    refine ⟨by unfold pdL PyData.showableAll; rw [a2, b1]; rfl, ?_⟩
    unfold pdL PyData.shownAll
    rw [piled_cons, List.length_cons, Nat.add_mul]; omega
theorem tupleText_le (ts : List Str) : (tupleText ts).length ≤ piled ts + 3 := by
  unfold tupleText
  rw [strLen_append, strLen_append]
  have e1 : ((("(" : String) : Str)).length = 1 := rfl
  have e3 : (((if ts.length == 1 then ",)" else ")" : String) : Str)).length ≤ 2 := by split <;> decide
  rw [e1]
  by_cases h : ts = []
  · subst h
    have : (Str.join ", " []).length = 0 := rfl
    omega
  · have := join_length_add ts h
    omega
theorem shw_tup {k n c : Nat} {l : List D} (h : ∀ d ∈ l, shw k n d) (hc : l.length ≤ c) : shw (c * (k + 2) + 3) (n + 1) (.tup l) := by
  obtain ⟨b1, b2⟩ := shwL h
  refine ⟨flat_tup fun d hd => (h d hd).1, by unfold pd PyData.showable; exact b1, ?_⟩
  unfold pd PyData.shown
  have := tupleText_le (PyData.shownAll (pdL l))
  have := Nat.mul_le_mul_right (k + 2) hc
  omega
theorem shD_of {k n : Nat} {d : D} (h : shw k n d) (hk : k ≤ 16777216) (hn : n ≤ 60) : shD d :=
  ⟨h.1.1, h.2.1, PyData.hasDict_of_canLay _ h.1.2.1, Nat.le_trans h.1.2.2 hn, Nat.le_trans h.2.2 (by rw [PySem.sizeLine_eq]; exact hk)⟩
theorem eqD_str {x y : Str} : eqD (.str x) (.str y) = decide (x = y) := by
  show (x == y) = decide (x = y); rw [Bool.eq_iff_iff]; simp
end PF

namespace PF
open PySem PySem.Spec L2

/-! ### pool.pop(i) -/
def dmPop : DM := fun x ds m Q => ∃ p i l k d, x = .cel p ∧ ds = [.int i] ∧ m p = some (.l l) ∧ (-(2 ^ 63) ≤ i ∧ i < 2 ^ 63) ∧ seqIndex? i l.length = some k ∧ l[k]? = some d ∧ Q d (updM m p (.l (l.eraseIdx k)))
theorem RepL.erase {F : Hp} {l : List D} {xs : List V} (h : RepL F l xs) : ∀ k : Nat, RepL F (l.eraseIdx k) (xs.eraseIdx k) := by
  intro k
  rw [List.eraseIdx_eq_take_drop_succ, List.eraseIdx_eq_take_drop_succ]
  exact (h.take k).append (h.drop (k + 1))
theorem mx_pop {X : Cx} : MX X "list.pop" dmPop := ⟨_, mt_popAt, fun {F H m x xs d ds Q QV} s rx rs h k => by
  obtain ⟨p, i, l, j, y, rfl, rfl, hc, ⟨h1, h2⟩, hj, hy, q⟩ := h
  obtain ⟨_, o, ho, rc⟩ := s.cell _ _ hc
  obtain ⟨zs, rfl, rl⟩ := rc
  obtain ⟨u, r, rfl, ru, r2⟩ := rs.inv
  obtain rfl := r2.inv0
  obtain ⟨v, hv, rv⟩ := rl.get hy
  refine ⟨p, zs, i, j, v, rx.cel, by rw [ru.int], ho, h1, h2, by rw [rl.length]; exact hj, hv, ?_⟩
  have g := Go.write (c := .l (l.eraseIdx j)) (o := .lst (zs.eraseIdx j)) s hc ⟨_, rfl, rl.erase j⟩
  exact k _ _ _ _ _ g (rv.mono g.ex) q⟩
theorem dx_pop {X : Cx} {o e : Expr} {apos cpos : Pos} {do' : DE} {dl : DA} (ho : DX X o do') (ha : DAX X [e] dl)
    (hbase : attributeBase o "pop" X.env (eval o X.env) = eval o X.env := by rfl)
    (hfew : ((backTo cpos (starEach [e] X.env)).all (fun x => !x.1) && (backToKw cpos (keywordEach [] X.env)).all (fun x => x.1.isSome)
      && decide (([e] : List Expr).length + ([] : List Keyword).length + (if ([] : List Keyword).isEmpty then 0 else 1) < 30)) = true := by rfl)
    (hline : (apos.endLine == cpos.line) = true := by rfl) (hs : starEach [e] X.env = (false, eval e X.env) :: starEach [] X.env := by rfl) (hplain : (backTo cpos (starEach [] X.env)).any (·.1) = false := by rfl) :
    DX X (.Call (.Attribute o "pop" apos) [e] [] cpos) (dMt "list" dmPop do' dl) :=
  dx_mt PySem.F.plainAttrs_list PySem.F.slot_list_pop PySem.F.type_list_pop mx_pop ho ha hbase hfew hline hs hplain

/-! ### t[::-1], t a tuple -/
section
open PyProof.Rows
variable {prog : Program} {w : World} {A : Around} {E : Value → Shared → Prop} {s : Shared}
theorem tup_rev {t sl : Addr} {items : Array Value} {tk : Tok} {Q : Value → Shared → Prop} (ht : IsTup s.heap t items) (hs : s.heap.IsSliceOf sl .none .none (.int (-1) tk))
    (h : Q (.ref s.heap.objs.size) { s with heap := s.heap.push { cls := .type "tuple", data := .seq items.toList.reverse.toArray } }) (hsz : items.size ≤ sizeLine) : wpAny (model prog w) A (getItem (.ref t) (.ref sl)) Q E s := by
  obtain ⟨os, hos, hcs, hds⟩ := id hs
  have hTs : s.TypeIs (.ref sl) "slice" := ⟨os, hos, hcs⟩
  have fits : sizeOk (.seq items.toList.reverse.toArray) := by
    show items.toList.reverse.toArray.size ≤ sizeLine
    rw [List.size_toArray, List.length_reverse, Array.length_toList]; exact hsz
  unfold getItem
  try with_reducible refine wpAny_holding ?_
  first | refine wpAny_bind (wpAny_pure ?_) | skip
  refine wpAny_bind (wpAny_sequenceKey ht.typeIs (by decide) ?_)
  refine wpAny_bind (wpAny_callSpecial?_slot (name := Str.ofString "__getitem__") ht.typeIs PyProof.Rows.slot_tuple_getitem
    (wpAny_call_entry PyProof.Rows.slot_tuple_getitem ht.typeIs entry_tuple_getitem ?_ (args_tuple_getitem _ _)))
  show wpAny _ _ (Builtin.Tuple.tupleItemsOf (.ref t) >>= _) _ _ s
  refine wpAny_bind (tupleItemsOf_ ht ?_)
  refine wpAny_bind (wpAny_typeOf hTs ?_)
  rw [if_pos (by decide)]
  unfold Builtin.Slice.sliceApplied Builtin.Slice.sliceFields
  refine wpAny_bind (wpAny_bind (wpAny_bind (wpAny_field hos hds (x := .none) rfl (wpAny_bind (wpAny_field hos hds (x := .none) rfl (wpAny_bind (wpAny_field hos hds (x := .int (-1) tk) rfl (wpAny_pure ?_))))))))
  refine wpAny_bind (HT.slicePart_ (.int (-1) tk) ?_)
  show wpAny _ _ (if ((-1 : Int) == 0) = true then _ else _) _ _ s
  rw [if_neg (by decide)]
  refine wpAny_bind (HT.slicePart_ .none (wpAny_bind (HT.slicePart_ .none (wpAny_bind (wpAny_pure ?_)))))
  have e1 : Builtin.Slice.sliceAdjust none none (-1) (items.size : Int) = ((items.size : Int) - 1, -1) := rfl
  have e2 : Builtin.Slice.slicePlaces ((items.size : Int) - 1) (-1) (-1) = items.size := by
    unfold Builtin.Slice.slicePlaces
    rw [if_neg (by decide)]
    by_cases z : (items.size : Int) - 1 > -1
    · rw [if_pos z, show (- -1 : Int) = 1 by decide, Int.ediv_one]; omega
    · rw [if_neg z]; omega
  have e3 : ((List.range items.size).filterMap fun (k : Nat) => items[((items.size : Int) - 1 + (k : Int) * -1).toNat]?).toArray = items.toList.reverse.toArray := by
    congr 1
    have h1 : (List.range items.size).filterMap (fun (k : Nat) => items[((items.size : Int) - 1 + (k : Int) * -1).toNat]?) = ((List.range items.size).map fun k => items.size - 1 - k).filterMap (items[·]?) := by
      rw [List.filterMap_map]
      have key : ∀ (l : List Nat), (∀ k ∈ l, k < items.size) → l.filterMap (fun (k : Nat) => items[((items.size : Int) - 1 + (k : Int) * -1).toNat]?) = l.filterMap ((items[·]?) ∘ fun k => items.size - 1 - k) := by
        intro l
        induction l with
        | nil => intro _; rfl
        | cons k l ih =>
          intro hl
          have hk := hl k List.mem_cons_self
          have e : ((items.size : Int) - 1 + (k : Int) * -1).toNat = items.size - 1 - k := by omega
          rw [List.filterMap_cons, List.filterMap_cons, ih fun x hx => hl x (List.mem_cons_of_mem _ hx)]
          simp only [Function.comp, e]
      exact key _ fun k hk => List.mem_range.mp hk
    rw [h1, PySem.W.krv_range, List.filterMap_reverse, PySem.W.krv_all]
  show wpAny _ _ (match Builtin.Slice.sliceAdjust none none (-1) (items.size : Int) with | (lo, hi) => pure (lo, (-1 : Int), Builtin.Slice.slicePlaces lo hi (-1))) _ _ s
  rw [e1]
  show wpAny _ _ (pure ((items.size : Int) - 1, (-1 : Int), Builtin.Slice.slicePlaces ((items.size : Int) - 1) (-1) (-1))) _ _ s
  rw [e2]
  refine wpAny_pure ?_
  have hno : ¬ ((((items.size : Int) - 1) == 0 && (-1 : Int) == 1 && items.size == items.size) = true) := by
    intro q
    rw [Bool.and_eq_true, Bool.and_eq_true] at q
    exact absurd (eq_of_beq q.1.2) (by decide)
  show wpAny _ _ (if (((items.size : Int) - 1) == 0 && (-1 : Int) == 1 && items.size == items.size) = true then _ else _) _ _ s
  rw [if_neg hno, e3]
  first
    | exact wpAny_bind (m := Builtin.Tuple.tupleExact _) (wpAny_newObj_type (wpAny_pure ⟨_, rfl, wpAny_pure h⟩) fits)
    | exact wpAny_bind (m := Builtin.Tuple.tupleExact _) (wpAny_newObj_type (wpAny_bind (wpAny_pure (wpAny_pure ⟨_, rfl, wpAny_pure h⟩))) fits)
    | exact wpAny_bind (wpAny_bind (m := Builtin.Tuple.tupleExact _) (wpAny_newObj_type (wpAny_pure (wpAny_pure ⟨_, rfl, wpAny_pure h⟩)) fits))
    | exact wpAny_bind (wpAny_bind (m := Builtin.Tuple.tupleExact _) (wpAny_newObj_type (wpAny_pure ⟨_, rfl, wpAny_pure h⟩) fits))
end

def tRevT (K : PySem.W.Frag) (te : TE) : TE := fun σ H Q => te σ H fun x H1 => ∃ a xs, x = .ref a ∧ SqT K H1 a xs ∧ ∀ p, H1 p = none → Q (.ref p) (upd H1 p (.tup xs.reverse))
section
open PyProof.Rows
variable {X : Cx} {e : Expr} {te : TE} {de : DE} {k : Nat} {p1 p2 p3 pos : Pos}
theorem pe_revT (he : PE X e te) : PE X (.Subscript e (.Slice none none (some (.UnaryOp .USub (.Constant (.int 1) k p1) p2)) p3) pos) (tRevT X.K te) := by
  refine ⟨fun pins s σ H Q I h => ?_⟩
  refine Subscript_ (thn (he.run pins s σ H _ I h) fun v s1 ⟨x, H1, I1, r1, a, xs, ex, hx, q⟩ => ?_)
  subst ex
  cases r1
  have st : PE X (.UnaryOp .USub (.Constant (.int 1) k p1) p2) (tUn (rU fun i => .int (-i)) (tC (.int 1))) := pe_un un_neg pe_int
  refine wpAny_Slice (thn (po_none.run pins s1 σ H1 (fun o H2 => o = none ∧ H2 = H1) I1 ⟨rfl, rfl⟩) fun vl s2 ⟨l, H2, I2, pl, el, e2⟩ => ?_)
  subst el e2
  cases pl
  refine thn (po_none.run pins s2 σ H2 (fun o H3 => o = none ∧ H3 = H2) I2 ⟨rfl, rfl⟩) fun vu s3 ⟨u, H3, I3, pu, eu, e3⟩ => ?_
  subst eu e3
  cases pu
  refine thn ((po_some st).run pins s3 σ H3 (fun o H4 => o = some (-1) ∧ H4 = H3) I3 ⟨1, rfl, -1, rfl, rfl, rfl⟩) fun vs s4 ⟨o, H4, I4, ps, eo, e4⟩ => ?_
  subst eo e4
  cases ps with
  | int _ tk =>
    have I5 : Inv X pins σ H4 { s4 with heap := s4.heap.push { cls := .type "slice", data := .fields #[.none, .none, .int (-1) tk] } } := I4.kept (t' := s4.toks) fun b ob q => Heap.get?_push_of_some _ q
    obtain ⟨its, r, ht, hz⟩ := I5.tuple hx
    have hlen := r.length
    show wpAny (model X.prog X.w) X.A (subscriptTail e (.Slice none none (some (.UnaryOp .USub (.Constant (.int 1) k p1) p2)) p3) (.ref a) (.ref s4.heap.objs.size)) (EP X pins σ Q) X.xe { s4 with heap := s4.heap.push { cls := .type "slice", data := .fields #[.none, .none, .int (-1) tk] } }
    refine tail_any (ops := [.ref a, .ref s4.heap.objs.size]) ht.typeIs (PyProof.Rows.slot_tuple_getitem.lookup) ?_ (by with_unfolding_all rfl)
    refine tup_rev ht (Heap.IsSliceOf.new _ .none .none (.int (-1) tk)) ?_ (by rw [List.size_toArray]; omega)
    refine ⟨.ref _, _, I5.laid (t' := s4.toks) (o := .tup xs.reverse) (fun b ob q => Heap.get?_push_of_some _ q) (Nat.le_refl _) ?_, rfl, q _ (I5.hok.fresh (Nat.le_refl _))⟩
    exact ⟨by rw [List.length_reverse]; exact hz, its.reverse, r.reverse, IsTup.new _ _⟩
/-- t[::-1] -/
def dRevT (de : DE) : DE := fun ρ m Q => de ρ m fun x m1 => match x with
  | .tup ds => Q (.tup ds.reverse) m1
  | _ => False
theorem RepL.rev {F : Hp} {l : List D} {xs : List V} (h : RepL F l xs) : RepL F l.reverse xs.reverse := by
  induction l generalizing xs with
  | nil => rw [h.inv0]; exact repL_nil
  | cons d l ih =>
    obtain ⟨v, r, rfl, h1, h2⟩ := h.inv
    rw [List.reverse_cons, List.reverse_cons]
    exact (ih h2).append (repL_cons h1 repL_nil)
theorem dx_revT (he : DX X e de) : DX X (.Subscript e (.Slice none none (some (.UnaryOp .USub (.Constant (.int 1) k p1) p2)) p3) pos) (dRevT de) :=
  let ⟨_, a, b⟩ := he
  ⟨_, pe_revT a, fun {F H m σ ρ Q QV} s e hd kk => by
    refine b s e hd fun v d F1 H1 m1 g1 r1 q => ?_
    split at q
    · obtain ⟨p, xs, rfl, h1, h2⟩ := r1.tup
      refine ⟨p, xs, rfl, SqT.of (g1.si.sub.tup h1), fun z hz => ?_⟩
      have g := Go.froz (o := .tup xs.reverse) g1.si hz
      exact kk _ _ _ _ _ (g1.trans g) (rep_tup upd_same (h2.rev.mono g.ex)) q
    · exact q.elim⟩
end
end PF

namespace PF
open PySem PySem.Spec L2 PyProof.Rows

/-! ### sum(xs, []), xs a list of lists -/
section
variable {prog : Program} {w : World} {A : Around} {E : Value → Shared → Prop} {s : Shared} {R : Result → Shared → Prop}
abbrev lo (its : List Value) (n : Nat) : Obj := { cls := .type "list", data := .seq its.toArray n }
def restL (cs : Nat → List Value) : Nat → Nat → List Value
  | 0, _ => []
  | k + 1, i => cs i ++ restL cs k (i + 1)
theorem sum_turns {I ax S : Addr} {items : Array Value} (hh : A.in1.handled = none) (hne : ax ≠ I) (hSI : S ≠ I) (hSx : S ≠ ax) (cs : Nat → List Value) (h0 : Heap) (N : Nat) (hSN : N ≤ S)
    (hI0 : h0.get? I = none) (hS0 : h0.get? S = none) (hval : ∀ (i : Nat) (v : Value), items[i]? = some v → ∃ b c, v = .ref b ∧ h0.get? b = some (lo (cs i) c)) :
    ∀ (k i : Nat) (s : Shared) (acc : Addr) (its : List Value) (c cS : Nat), items.size - i = k → i ≤ items.size → (s.heap.IsListIter I ax i ∧ s.heap.IsList ax items) →
      s.heap.get? S = some (lo [.ref acc] cS) → s.heap.get? acc = some (lo its c) → acc ≠ S → acc ≠ I → (∀ b o, h0.get? b = some o → s.heap.get? b = some o) → its.length + (restL cs k i).length ≤ sizeLine →
      (0 < k ∨ N ≤ acc) →
      (∀ (h' : Heap) (tk : Nat) (acc' : Addr) (c' : Nat), (∀ b o, h0.get? b = some o → h'.get? b = some o) → h'.get? acc' = some (lo (its ++ restL cs k i) c') → N ≤ acc' → R (.ok (.ret (.ref acc'))) { s with heap := h', toks := tk }) →
      codeAny (model prog w) A (.builtin "sum.loop" ⟨[.ref I, .ref S, rawInt 2, rawInt 0], []⟩) R s := by
  have W := Walks.list (prog := prog) (w := w) (A := A.in1) hh I ax hne items
  have nI : ∀ {b : Addr}, b ≠ I → b ∉ [I] := fun h z => h (List.mem_singleton.mp z)
  intro k
  induction k with
  | zero =>
    intro i s acc its c cS hk hi hst hS hacc n1 n2 hkp hz h0a hR
    obtain rfl : i = items.size := by omega
    refine codeAny_builtin F.entry_sum_loop ?_
    rw [Around.under_plainId F.plain_sum_loop _]
    show wpAny _ A.in1 (seqItems? (.ref S) >>= _) _ _ s
    refine wpAny_bind (wpAny_seqItems hS rfl ?_)
    show wpAny _ A.in1 (tryCatch (pyNext (.ref I)) _ >>= _) _ _ s
    refine wpAny_bind (wpAny_tryCatch (W.done s _ _ hst fun h' tk hk' => ?_))
    refine wpAny_pure (hR h' tk acc c (fun b o e => hk' b o (nI fun z => by rw [z, hI0] at e; cases e) (hkp b o e)) ?_ (h0a.resolve_left (by omega)))
    rw [show restL cs 0 items.size = [] from rfl, List.append_nil]
    exact hk' acc _ (nI n2) hacc
  | succ k ih =>
    intro i s acc its c cS hk hi hst hS hacc n1 n2 hkp hz h0a hR
    have hlt : i < items.size := by omega
    refine codeAny_builtin F.entry_sum_loop ?_
    rw [Around.under_plainId F.plain_sum_loop _]
    show wpAny _ A.in1 (seqItems? (.ref S) >>= _) _ _ s
    refine wpAny_bind (wpAny_seqItems hS rfl ?_)
    show wpAny _ A.in1 (tryCatch (pyNext (.ref I)) _ >>= _) _ _ s
    refine wpAny_bind (wpAny_tryCatch (W.item i s _ _ hlt hst fun v h1 tk hP hst' hk' => ?_))
    obtain ⟨b, cb, rfl, hb0⟩ := hval i v hP
    have kp1 : ∀ x o, h0.get? x = some o → h1.get? x = some o := fun x o e => hk' x o (nI fun z => by rw [z, hI0] at e; cases e) (hkp x o e)
    have hS1 := hk' S _ (nI hSI) hS
    have ha1 := hk' acc _ (nI n2) hacc
    have hb1 := kp1 b _ hb0
    show wpAny _ A.in1 ((holding [Value.ref b] (binaryOp .Add (.ref acc) (.ref b))).attempt >>= _) _ _ _
    have hzz : its.length + (cs i).length ≤ sizeLine := by
      have : (restL cs (k + 1) i).length = (cs i).length + (restL cs k (i + 1)).length := by show (cs i ++ _).length = _; rw [List.length_append]
      omega
    refine wpAny_bind (wpAny_attempt (wpAny_holding (PySem.P.add_list ha1 hb1 ?_ (by rw [List.size_toArray, List.size_toArray]; exact hzz))))
    have eadd : its.toArray ++ (cs i).toArray = (its ++ cs i).toArray := by simp
    rw [eadd]
    have sz : h1.get? h1.objs.size = none := by
      cases q : h1.get? h1.objs.size with
      | none => rfl
      | some o => exact absurd (Heap.lt_size q) (Nat.lt_irrefl _)
    have m1 : h1.objs.size ≠ S := fun z => by rw [z, hS1] at sz; cases sz
    have m2 : h1.objs.size ≠ I := fun z => by
      obtain ⟨⟨o, ho, _⟩, _⟩ := hst'
      rw [z, ho] at sz; cases sz
    have m3 : N ≤ h1.objs.size := Nat.le_of_lt (Nat.lt_of_le_of_lt hSN (Heap.lt_size hS1))
    have hS2 : (h1.push (lo (its ++ cs i) 0)).get? S = some (lo [.ref acc] cS) := Heap.get?_push_of_some _ hS1
    show wpAny _ A.in1 (updateSeq S (fun _ => #[.ref h1.objs.size]) >>= _) _ _ _
    refine wpAny_bind ?_
    refine wpAny_updateSeq hS2 rfl ?_
    have hS3 := Heap.get?_update_self (Obj.mapSeq fun _ => #[Value.ref h1.objs.size]) hS2 rfl
    refine wpAny_bind (wpAny_letGo ?_)
    refine wpAny_bind ?_
    have ot : ∀ x o, x ≠ S → (h1.push (lo (its ++ cs i) 0)).get? x = some o → (((h1.push (lo (its ++ cs i) 0)).update S (Obj.mapSeq fun _ => #[Value.ref h1.objs.size])).update S (Obj.mapSeq fun _ => #[Value.ref h1.objs.size])).get? x = some o := fun x o hx e =>
      (Heap.get?_update_other _ _ (Ne.symm hx)).trans ((Heap.get?_update_other _ _ (Ne.symm hx)).trans e)
    have kp2 : ∀ x o, h0.get? x = some o → (((h1.push (lo (its ++ cs i) 0)).update S (Obj.mapSeq fun _ => #[Value.ref h1.objs.size])).update S (Obj.mapSeq fun _ => #[Value.ref h1.objs.size])).get? x = some o := fun x o e =>
      ot x o (fun z => by rw [z, hS0] at e; cases e) (Heap.get?_push_of_some _ (kp1 x o e))
    refine wpAny_updateSeq hS3 rfl (wpAny_pure ⟨plainId_quiet F.plain_sum_loop _, ih (i + 1) _ h1.objs.size (its ++ cs i) 0 _ (by omega) hlt (W.frame _ _ _ hst' fun b hb o e => ot b o (fun z => ?_) (Heap.get?_push_of_some _ e)) (Heap.get?_update_self _ hS3 rfl) (ot _ _ m1 (Heap.get?_push_size _ rfl)) m1 m2 kp2 ?_ (.inr m3) fun h' tk' acc' c' k1 k2 k3 => ?_⟩)
    · rcases List.mem_cons.mp hb with q | q
      · exact hSI (z.symm.trans q)
      · exact hSx (z.symm.trans (List.mem_singleton.mp q))
    · have : (restL cs (k + 1) i).length = (cs i).length + (restL cs k (i + 1)).length := by show (cs i ++ _).length = _; rw [List.length_append]
      rw [List.length_append]; omega
    · refine hR h' tk' acc' c' k1 ?_ k3
      rw [k2, List.append_assoc]; rfl
end
end PF
namespace PF
open PySem PySem.Spec L2 PyProof.Rows
section
variable {prog : Program} {w : World} {A : Around} {E : Value → Shared → Prop} {s : Shared}
theorem args_sum_two (a b : Value) : argsOk "sum" ⟨[a, b], []⟩ := by
  unfold argsOk; kernel_rfl
theorem call_sum_lists {l st : Addr} {items : Array Value} {c : Nat} {Q : Value → Shared → Prop} (hh : A.handled = none) (hl : s.heap.IsList l items) (hst : s.heap.get? st = some (lo [] c)) (cs : Nat → List Value)
    (hval : ∀ (i : Nat) (v : Value), items[i]? = some v → ∃ b c, v = .ref b ∧ s.heap.get? b = some (lo (cs i) c)) (hn : 0 < items.size) (hz : (restL cs items.size 0).length ≤ sizeLine)
    (h : ∀ (h' : Heap) (tk : Nat) (acc : Addr) (c' : Nat), (∀ b o, s.heap.get? b = some o → h'.get? b = some o) → h'.get? acc = some (lo (restL cs items.size 0) c') → s.heap.objs.size ≤ acc → Q (.ref acc) { s with heap := h', toks := tk }) :
    wpAny (model prog w) A (call (.builtin "sum") [.ref l, .ref st]) Q E s := by
  refine call_function_tree F.kind_sum F.plain_sum F.entry_sum (args_sum_two _ _) ?_
  unfold Builtin.«sum»
  simp only [List.length_cons, List.length_nil]
  rw [if_neg (by decide)]
  refine wpAny_bind (wpAny_of_eq (show Builtin.Builtins.bindParams "sum" ["start"] 0 { pos := [.ref st], kw := [] } = pure [some (.ref st)] from rfl) ?_)
  refine wpAny_bind (wpAny_pyIter_list hl ?_)
  refine wpAny_bind (wpAny_pure ?_)
  simp only [List.forIn_cons, List.forIn_nil]
  have hI : ({ s with heap := s.heap.push { cls := .type "list_iterator", data := .fields #[.ref l, .int 0 0] } } : Shared).TypeIs (.ref st) "list" := ⟨_, Heap.get?_push_of_some _ hst, rfl⟩
  refine wpAny_bind (wpAny_bind (wpAny_bind (wpAny_isInstance (T := "list") (b := false) hI F.sub_list_str ?_)))
  simp only [Bool.false_eq_true, if_false]
  refine wpAny_pure (wpAny_bind (wpAny_bind (wpAny_isInstance (T := "list") (b := false) hI F.sub_list_bytes ?_)))
  simp only [Bool.false_eq_true, if_false]
  refine wpAny_pure (wpAny_bind (wpAny_bind (wpAny_isInstance (T := "list") (b := false) hI F.sub_list_bytearray ?_)))
  simp only [Bool.false_eq_true, if_false]
  refine wpAny_pure (wpAny_pure ?_)
  refine wpAny_bind (wpAny_newObj_type ?_)
  have nn : ∀ x, s.heap.objs.size ≤ x → s.heap.get? x = none := fun x hx => by
    cases q : s.heap.get? x with
    | none => rfl
    | some o => exact absurd (Nat.lt_of_lt_of_le (Heap.lt_size q) hx) (Nat.lt_irrefl _)
  obtain ⟨ol, hol, hlc, nl, hld⟩ := id hl
  have z1 : (s.heap.push { cls := .type "list_iterator", data := .fields #[.ref l, .int 0 0] }).objs.size = s.heap.objs.size + 1 := Heap.size_push ..
  have hlI : l ≠ s.heap.objs.size := Nat.ne_of_lt (Heap.lt_size hol)
  have hsI : st ≠ s.heap.objs.size := Nat.ne_of_lt (Heap.lt_size hst)
  refine wpAny_pure ⟨plainId_quiet F.plain_sum_loop _, sum_turns (I := s.heap.objs.size) (ax := l) (items := items) (by simp [hh]) hlI (by rw [z1]; exact Nat.ne_of_gt (Nat.lt_succ_self _)) (by rw [z1]; exact Nat.ne_of_gt (Nat.lt_succ_of_lt (Heap.lt_size hol))) cs s.heap s.heap.objs.size (by rw [z1]; exact Nat.le_succ _) (nn _ (Nat.le_refl _)) (nn _ (by rw [z1]; exact Nat.le_succ _)) hval
    items.size 0 _ st [] c 0 (by omega) (Nat.zero_le _) ⟨⟨_, Heap.get?_push_of_some _ (Heap.get?_push_size _ rfl), rfl, rfl⟩, (hl.push _).push _⟩ (Heap.get?_push_size _ rfl) (Heap.get?_push_of_some _ (Heap.get?_push_of_some _ hst)) (by rw [z1]; exact Nat.ne_of_lt (Nat.lt_succ_of_lt (Heap.lt_size hst))) hsI
    (fun b o e => Heap.get?_push_of_some _ (Heap.get?_push_of_some _ e)) (by simpa using hz) (.inl hn) fun h' tk acc c' k1 k2 k3 => h h' tk acc c' k1 (by simpa using k2) k3⟩
end
section
variable {X : Cx}
/-- sum(xs, []), by values -/
def rSumL (K : PySem.W.Frag) : List V → Hp → VK → Prop := fun vs H Q => ∃ (a b : Addr) (ls : List (Addr × List V)), vs = [V.ref a, V.ref b] ∧ H b = some (.lst []) ∧ SqL K H a (ls.map fun p => V.ref p.1) ∧ (∀ p ∈ ls, H p.1 = some (.lst p.2)) ∧ ls ≠ [] ∧
  (ls.map (·.2)).flatten.length ≤ sizeLine ∧ ∀ p, H p = none → Q (.ref p) (upd H p (.lst (ls.map (·.2)).flatten))
theorem restL_flat {α : Type} (ls : List α) (g : α → List Value) : ∀ (k i : Nat), i + k = ls.length → restL (fun j => match ls[j]? with | some x => g x | none => []) k i = ((ls.drop i).map g).flatten
  | 0, i, h => by rw [List.drop_of_length_le (by omega)]; rfl
  | k + 1, i, h => by
    have hi : i < ls.length := by omega
    rw [List.drop_eq_getElem_cons hi, List.map_cons, List.flatten_cons, ← restL_flat ls g k (i + 1) (by omega)]
    show (match ls[i]? with | some x => g x | none => []) ++ _ = _
    rw [List.getElem?_eq_getElem hi]
def seqOf (h : Heap) (a : Addr) : List Value := match h.get? a with
  | some o => match o.data with
    | .seq xs _ => xs.toList
    | _ => []
  | none => []
theorem vals_flat : ∀ {ls : List (Addr × List V)} {g : Addr × List V → List Value}, (∀ p ∈ ls, Vals p.2 (g p)) → Vals (ls.map (·.2)).flatten (ls.map g).flatten
  | [], _, _ => .nil
  | p :: ls, g, h => by
    rw [List.map_cons, List.map_cons, List.flatten_cons, List.flatten_cons]
    exact (h p List.mem_cons_self).append (vals_flat fun q hq => h q (List.mem_cons_of_mem _ hq))
theorem cr_sumL (hc : X.calm = true) : CallR X (.builtin "sum") (rSumL X.K) := by
  intro pins s σ H vs us Q I r h
  obtain ⟨a, b, ls, rfl, hb, hs, hls, hne, hz, q⟩ := h
  obtain ⟨u1, u2, rfl, r1, r2⟩ := vals2 r
  cases r1; cases r2
  obtain ⟨its, rv, hl, _⟩ := I.list hs
  obtain ⟨_, i0, n0, rv0, _, e0⟩ := I.lstM hb
  have ei0 : i0 = [] := by cases rv0; rfl
  subst ei0
  have hlen : its.length = ls.length := by have := rv.length; rw [List.length_map] at this; exact this.symm
  have each : ∀ p ∈ ls, Vals p.2 (seqOf s.heap p.1) ∧ ∃ n, s.heap.get? p.1 = some (lo (seqOf s.heap p.1) n) := fun p hp => by
    obtain ⟨_, z, n, rz, _, ez⟩ := I.lstM (hls p hp)
    have : seqOf s.heap p.1 = z := by unfold seqOf; rw [ez]
    rw [this]; exact ⟨rz, n, ez⟩
  have hvf := vals_flat (g := fun p => seqOf s.heap p.1) fun p hp => (each p hp).1
  have hrest : restL (fun j => match ls[j]? with | some x => seqOf s.heap x.1 | none => []) its.toArray.size 0 = (ls.map fun p => seqOf s.heap p.1).flatten := by
    have := restL_flat ls (fun p => seqOf s.heap p.1) its.toArray.size 0 (by rw [List.size_toArray, hlen]; omega)
    rw [List.drop_zero] at this; rw [← this]; congr 1; funext j; cases ls[j]? <;> rfl
  refine call_sum_lists (I.ok.hd hc) hl.isList e0 (fun j => match ls[j]? with | some x => seqOf s.heap x.1 | none => []) (fun i v hv => ?_) (by rw [List.size_toArray, hlen]; exact List.length_pos_iff.mpr hne) (by rw [hrest, ← hvf.length]; exact hz) fun h' tk acc c' k1 k2 k3 => ?_
  · have hv' : its[i]? = some v := by rw [← hv]; simp
    have hi : i < ls.length := by rw [← hlen]; exact (List.getElem?_eq_some_iff.mp hv').1
    obtain ⟨u, hu, rx⟩ := rv.get (i := i) (x := V.ref ls[i].1) (by rw [List.getElem?_map, List.getElem?_eq_getElem hi]; rfl)
    rw [hv'] at hu
    cases hu
    cases rx
    obtain ⟨_, n, e⟩ := each ls[i] (List.getElem_mem hi)
    refine ⟨ls[i].1, n, rfl, ?_⟩
    rw [List.getElem?_eq_getElem hi]; exact e
  · rw [hrest] at k2
    have hn : H acc = none := I.hok.fresh k3
    exact ⟨.ref acc, upd H acc (.lst (ls.map (·.2)).flatten), I.laid (t' := tk) k1 k3 ⟨hz, _, c', hvf, k2⟩, rfl, q acc hn⟩
end
end PF
namespace PF
open PySem PySem.Spec L2
theorem lists_rep {F : Hp} : ∀ {Ls : List (List D)} {xs : List V}, RepL F (Ls.map D.lst) xs → ∃ ls : List (Addr × List V), xs = ls.map (fun p => V.ref p.1) ∧ (∀ p ∈ ls, F p.1 = some (.lst p.2)) ∧ RepL F Ls.flatten (ls.map (·.2)).flatten ∧ ls.length = Ls.length
  | [], xs, h => ⟨[], h.inv0, fun _ z => (nomatch z), repL_nil, rfl⟩
  | l :: Ls, xs, h => by
    obtain ⟨v, r, rfl, h1, h2⟩ := h.inv
    obtain ⟨ls, e1, e2, e3, e4⟩ := lists_rep h2
    obtain ⟨a, ys, rfl, g1, g2⟩ := h1.lst
    refine ⟨(a, ys) :: ls, by rw [e1]; rfl, fun p hp => ?_, ?_, by simp [e4]⟩
    · rcases List.mem_cons.mp hp with z | z
      · rw [z]; exact g1
      · exact e2 p z
    · rw [List.map_cons, List.flatten_cons, List.flatten_cons]
      exact g2.append e3
/-- sum([l, ..], []) -/
def dcSumL : DC := fun ds m Q => ∃ Ls : List (List D), ds = [.lst (Ls.map D.lst), .lst []] ∧ Ls ≠ [] ∧ Ls.flatten.length ≤ sizeLine ∧ Q (.lst Ls.flatten) m
theorem cb_sumL {X : Cx} {n : Nat} (c : CF X n) : CBX X (.builtin "sum") dcSumL := ⟨_, cr_sumL c.calm, fun {F H m xs ds Q QV} s r q k => by
  obtain ⟨Ls, rfl, hne, hz, q⟩ := q
  obtain ⟨v, w, rfl, rv, rw'⟩ := two_rep r
  obtain ⟨a, ys, rfl, h1, h2⟩ := rv.lst
  obtain ⟨b, zs, rfl, h3, h4⟩ := rw'.lst
  obtain rfl := h4.inv0
  obtain ⟨ls, rfl, e2, e3, e4⟩ := lists_rep h2
  refine ⟨a, b, ls, rfl, s.sub.lst h3, SqL.of (s.sub.lst h1), fun p hp => s.sub.lst (e2 p hp), fun z => hne (List.length_eq_zero_iff.mp (by rw [← e4, z]; rfl)), by rw [e3.length]; exact hz, fun p hp => ?_⟩
  have g := Go.froz (o := .lst (ls.map (·.2)).flatten) s hp
  exact k _ _ _ _ _ g (rep_lst upd_same (e3.mono g.ex)) q⟩
end PF

namespace PF
open PySem PySem.Spec L2 PyProof.Rows

/-! ### set(xs), xs a list of tuples of ints of which few differ -/
section
variable {P : Program} {w : World} {A : Around} {E : Value → Shared → Prop} {s : Shared}
/-- no more than 62 differ -/
def fewT (ks : List (Addr × List Int)) : Prop := ∀ L : List (Addr × List Int), (∀ p ∈ L, p ∈ ks) → (L.map (·.2)).Nodup → L.length + 1 < 64
theorem tups_turns {I S : Addr} {fp wr : List Addr} {G : Array GenState → Array GenState → Prop} {n : Nat} {Pv : Nat → Value → Prop} {St : Nat → Shared → Prop} {R : Result → Shared → Prop} (W : WalksS P w A.in1 I fp wr G n Pv St) (nS : S ∉ fp)
    (ks : List (Addr × List Int)) (en : n = ks.length) (few : fewT ks) (at' : ∀ i v, Pv i v → ∃ p, ks[i]? = some p ∧ v = .ref p.1) (B : Heap) (tB : ∀ p ∈ ks, IsT P w B p.2 p.1) (nB : B.get? S = none) (wB : ∀ b ∈ wr, B.get? b = none) (room : A.in1.units < cLine) :
    ∀ (j i : Nat) (s : Shared), n - i = j → i ≤ n → St i s → (∀ b o, B.get? b = some o → s.heap.get? b = some o) → (∃ L es ep t, SetTR P w s.heap S L es ep t ∧ Got ks i L) →
      (∀ z L es ep t, Moved (S :: wr) G s z → SetTR P w z.heap S L es ep t → Got ks n L → (∀ b o, B.get? b = some o → z.heap.get? b = some o) → R (.ok (.ret .none)) z) → codeAny (model P w) A (.builtin "set.update.loop" ⟨[.ref S, .ref I], []⟩) R s := by
  have nW : S ∉ wr := fun z => nS (W.sub _ z)
  have up : ∀ b ∈ wr, b ∈ S :: wr := fun b z => List.mem_cons_of_mem _ z
  have old : ∀ {x y : Shared}, Moved wr G x y → (∀ b o, B.get? b = some o → x.heap.get? b = some o) → ∀ b o, B.get? b = some o → y.heap.get? b = some o := fun mv k0 b o e => mv.heap b o (fun z => by rw [wB b z] at e; cases e) (k0 b o e)
  intro j
  induction j with
  | zero =>
    intro i s e1 e2 st k0 ⟨L, es, ep, t, rS, got⟩ fin
    obtain rfl : i = n := by omega
    refine codeAny_builtin F.entry_set_update_loop ?_
    rw [Around.under_plainId F.plain_set_update_loop _]
    refine wpAny_bind (m := pyNext (.ref I)) (W.done s _ _ st fun y mv => ?_)
    have k1 := old mv k0
    exact wpAny_pure (fin y L es ep t (mv.mono up) (rS.keep (fun o e => mv.heap S o nW e) fun p hp => isT_keep (tB p (List.mem_of_mem_take (got.sub p hp))) k1) got k1)
  | succ j ih =>
    intro i s e1 e2 st k0 ⟨L, es, ep, t, rS, got⟩ fin
    have lt : i < n := by omega
    refine codeAny_builtin F.entry_set_update_loop ?_
    rw [Around.under_plainId F.plain_set_update_loop _]
    refine wpAny_bind (m := pyNext (.ref I)) (W.item i s _ _ lt st fun v y hv st1 mv => ?_)
    obtain ⟨p, hp, rfl⟩ := at' i v hv
    have k1 := old mv k0
    have inks : ∀ q ∈ L, q ∈ ks := fun q hq => List.mem_of_mem_take (got.sub q hq)
    have rS1 : SetTR P w y.heap S L es ep t := rS.keep (fun o e => mv.heap S o nW e) fun q hq => isT_keep (tB q (inks q hq)) k1
    have tp : IsT P w y.heap p.2 p.1 := isT_keep (tB p (List.mem_of_getElem? hp)) k1
    refine wpAny_bind (m := holding [Value.ref p.1] (setAdd S (.ref p.1))) (wpAny_holding ?_)
    unfold setAdd
    refine wpAny_holding (wpAny_bind (wpAny_pyHash_tuple room tp ?_))
    refine add_at (s := { y with toks := y.toks + (p.2.length + 1) }) rS1 tp room (few L inks rS1.nd) fun bb h2 L2 es2 ep2 t2 sb rS2 c1 c2 => ?_
    have got2 : Got ks (i + 1) L2 := by
      by_cases c : p.2 ∈ L.map (·.2)
      · rw [c1 c]; exact got.same hp c
      · exact got.more hp (c2 c)
    have offS : ∀ {b o}, B.get? b = some o → b ≠ S := fun e z => by rw [z, nB] at e; cases e
    have k2 : ∀ b o, B.get? b = some o → h2.get? b = some o := fun b o e => (sb.2 b (offS e)).trans (k1 b o e)
    refine wpAny_pure ⟨plainId_quiet F.plain_set_update_loop _, ih (i + 1) _ (by omega) lt (W.frame _ y _ _ st1 (Nat.le_add_right _ _) fun b hb o e => (sb.2 b fun z => nS (by rw [← z]; exact hb)).trans e) k2 ⟨L2, es2, ep2, t2, rS2, got2⟩ fun z L3 es3 ep3 t3 mv3 rS3 got3 k3 => ?_⟩
    refine fin z L3 es3 ep3 t3 (Moved.trans W.gtrans ((mv.mono up).then_heap (Nat.le_add_right _ _) fun b o hb e => (sb.2 b fun q => hb (by rw [q]; exact List.mem_cons_self)).trans e) mv3) rS3 got3 k3
set_option maxHeartbeats 6400000 in
theorem call_setM {l : Addr} {items : Array Value} (ks : List (Addr × List Int)) {Q : Value → Shared → Prop} (hh : A.handled = none) (hl : s.heap.IsList l items) (hit : items.toList = ks.map fun p => Value.ref p.1) (hk : ∀ p ∈ ks, IsT P w s.heap p.2 p.1) (few : fewT ks) (hu : A.units + 3 < cLine)
    (h : ∀ (h' : Heap) (tk : Nat) L es ep t, SetTR P w h' s.heap.objs.size L es ep t → Got ks ks.length L → (∀ b o, s.heap.get? b = some o → h'.get? b = some o) → Q (.ref s.heap.objs.size) { s with heap := h', toks := tk }) :
    wpAny (model P w) A (call (.type "set") [.ref l]) Q E s := by
  have hcount : items.size = ks.length := by
    have q := congrArg List.length hit
    rwa [Array.length_toList, List.length_map] at q
  obtain ⟨cc, tl, hmro⟩ := F.called_set.mro
  have hm1 := F.called_set.made
  have hm2 := F.called_set.sub
  refine wpAny_call (codeAny_of_tree ?_)
  show wpAny _ _ (callAny (.type "set") _) _ _ _
  refine wpAny_pure ⟨Code.quiet_builtin _ (by decide +kernel), codeAny_builtin F.entry_type_call ?_⟩
  rw [Around.under_plain (weight_type_call_type "set" [.ref l] []) rfl]
  have hm3 := F.called_set.notType
  have hm4 := F.called_set.canCreate
  have hm5 := F.typeCall_set_1 (.ref l)
  repeat (any_goals (first | assumption | wp_step))
  refine codeAny_mono (code_set_led1 (.ref l) (E := E) (Q₁ := fun obj s₁ => obj = .ref s.heap.objs.size ∧ s₁ = { s with heap := s.heap.push (newSet w) }) ⟨rfl, rfl⟩) fun r s₁ hr => ?_
  cases r with
  | error e => exact hr
  | ok fl =>
    cases fl with
    | next => exact hr.elim
    | brk => exact hr.elim
    | cont => exact hr.elim
    | ret obj =>
      obtain ⟨rfl, rfl⟩ := hr
      have hS : (s.heap.push (newSet w)).get? s.heap.objs.size = some (newSet w) := Heap.get?_push_size _ rfl
      have hT : Shared.TypeIs { s with heap := s.heap.push (newSet w) } (.ref s.heap.objs.size) "set" := ⟨_, hS, rfl⟩
      have hi1 := F.called_set.init.lookup
      have hi2 := F.called_set.init.bind (.ref s.heap.objs.size)
      repeat (any_goals (first | assumption | wp_step))
      refine codeAny_mono (codeAny_call_builtin (R := wants (fun r s₂ => r = .none ∧ ∃ h' tk L es ep t, s₂ = { s with heap := h', toks := tk } ∧ SetTR P w h' s.heap.objs.size L es ep t ∧ Got ks ks.length L ∧
          (∀ b o, s.heap.get? b = some o → h'.get? b = some o)) E) F.called_set.init.plain F.entry_set_init (check_set_init_1 hT ?_)) fun r₂ s₂ hr₂ => ?_
      · obtain ⟨ol, hol, hcl, nl, hdl⟩ := hl
        obtain ⟨ocls, odict, odata, oslots⟩ := ol
        simp only at hcl hdl
        subst hcl; subst hdl
        have hol' : (s.heap.push (newSet w)).get? l = some { cls := .type "list", dict := odict, data := .seq items nl, slots := oslots } := Heap.get?_push_of_some _ hol
        have hs1 := F.sub_list_set
        have hs2 := F.sub_list_frozenset
        have hne : (Value.type "list" == Value.type "dict") = false := by decide
        have hl1 : (s.heap.push (newSet w)).IsList l items := ⟨_, hol', rfl, nl, rfl⟩
        unfold Builtin.«set.__init__» noKeywords Builtin.Frozenset.updateFrom
        generalize hPI : pyIter = PI
        wp_walk
        subst hPI
        refine wpAny_pyIter_list hl1 ?_
        refine wpAny_bind (wpAny_runValue ?_)
        have hlS : l < s.heap.objs.size := Heap.lt_size hol
        have hh3 : A.in1.in1.in1.handled = none := by simp [hh]
        have z1 : (s.heap.push (newSet w)).objs.size = s.heap.objs.size + 1 := Heap.size_push ..
        have hneI : l ≠ (s.heap.push (newSet w)).objs.size := by
          rw [z1]; exact Nat.ne_of_lt (Nat.lt_succ_of_lt hlS)
        have hSf : s.heap.objs.size ∉ [(s.heap.push (newSet w)).objs.size, l] := by
          rw [z1]
          intro z
          rcases (by simpa using z : s.heap.objs.size = l) with q
          exact absurd q (Nat.ne_of_gt hlS)
        have hval : ∀ (i : Nat) (v : Value), items[i]? = some v → ∃ p, ks[i]? = some p ∧ v = .ref p.1 := fun i v hv => by
          rw [← Array.getElem?_toList, hit, List.getElem?_map] at hv
          obtain ⟨p, hp, e⟩ := Option.map_eq_some_iff.mp hv
          exact ⟨p, hp, e.symm⟩
        have nn : ∀ x, s.heap.objs.size ≤ x → s.heap.get? x = none := fun x hx => by
          cases q : s.heap.get? x with
          | none => rfl
          | some o => exact absurd (Nat.lt_of_lt_of_le (Heap.lt_size q) hx) (Nat.lt_irrefl _)
        refine tups_turns ((Walks.list hh3 _ l hneI items).toS) hSf ks hcount few hval s.heap hk (nn _ (Nat.le_refl _)) (fun b hb => nn b (by rw [List.mem_singleton.mp hb, z1]; exact Nat.le_succ _)) hu (items.size - 0) 0 _ (by omega) (Nat.zero_le _) ⟨⟨_, Heap.get?_push_size _ rfl, rfl, rfl⟩, (hl1.push _)⟩
          (fun b o e => Heap.get?_push_of_some _ (Heap.get?_push_of_some _ e)) ⟨[], #[], 0, _, setTR_fresh (Heap.get?_push_of_some _ hS), Got.zero ks⟩ fun z L es ep t mv rS got kp => ?_
        obtain ⟨h', g2, d', tk', os'⟩ := z
        obtain rfl : g2 = s.gens := mv.gens
        obtain rfl : d' = s.drawn := mv.drawn
        obtain rfl : os' = s.os := mv.os
        show wpAny _ _ _ _ _ _
        refine wpAny_pure ?_
        show wpAny _ _ (ret Value.none) _ _ _
        rw [hcount] at got
        exact wpAny_pure ⟨rfl, h', tk', L, es, ep, t, rfl, rS, got, kp⟩
      · cases r₂ with
        | error e => exact hr₂
        | ok fl₂ =>
          cases fl₂ with
          | next => exact hr₂.elim
          | brk => exact hr₂.elim
          | cont => exact hr₂.elim
          | ret r =>
            obtain ⟨rfl, h', tk, L, es, ep, t, rfl, rS, got, hk'⟩ := hr₂
            repeat (any_goals (first | assumption | wp_step))
            exact h _ _ _ _ _ _ rS got hk'
end
end PF

namespace PF
open PySem PySem.Spec L2

/-! ### sorted(set(xs)), tuples of ints, many of them alike -/
section
variable {X : Cx} {x y : Str} {p p2 pos pos2 : Pos} {e : Expr} {da : DA} {n : Nat}
def rSetM (K : PySem.W.Frag) (P : Program) (w : World) : List V → Hp → VK → Prop := fun xs H Q => ∃ (l : Addr) (ks : List (Addr × List Int)), xs = [V.ref l] ∧ SqL K H l (ks.map fun p => V.ref p.1) ∧ (∀ p ∈ ks, SqT K H p.1 (p.2.map V.int)) ∧ fewT ks ∧
  ∀ a L, H a = none → (∀ p ∈ L, p ∈ ks) → (∀ p ∈ ks, p.2 ∈ L.map (·.2)) → Q (.ref a) (upd H a (SetTO P w a L))
theorem cr_setM (hc : X.calm = true) (hu : X.A.units + 64 < cLine) : CallR X (.type "set") (rSetM X.K X.prog X.w) := by
  intro pins s σ H xs us Q I r h
  obtain ⟨l, ks, rfl, hl, hk, few, q⟩ := h
  rw [Vals.ref1 r]
  obtain ⟨its, rv, pl, _⟩ := I.list hl
  have fr : H s.heap.objs.size = none := I.hok.fresh (Nat.le_refl _)
  refine call_setM (P := X.prog) (w := X.w) ks (I.ok.hd hc) pl.isList (by simpa using refs_of_vals rv) (fun p hp => I.isT (hk p hp)) few (by omega) fun h' tk L es ep t R got k => ?_
  exact ⟨.ref s.heap.objs.size, upd H s.heap.objs.size (SetTO X.prog X.w s.heap.objs.size L), I.laid (t' := tk) k (Nat.le_refl _) (setTO_new R.t0), rfl, q _ L fr (fun p hp => List.mem_of_mem_take (got.sub p hp)) fun p hp => got.all p (by rw [List.take_length]; exact hp)⟩
def dSortSetM (da : DA) : DE := fun ρ m Q => da ρ m fun ds m1 => match ds with
  | [d] => match vw m1 d with
    | .lst l => match tupIs? l with
      | some ks => ((setT ks).length < 63 ∧ ∃ w, 1 ≤ w ∧ ∀ k ∈ ks, okT w k) ∧ Q (.lst ((setT ks).map tupI)) m1
      | none => False
    | _ => False
  | _ => False
theorem dx_sortSetM (c : CF X n) (ha : DAX X [e] da) (hm : X.mg x = none) (hv : bootBuiltins x = some (.builtin "sorted")) (hmy : X.mg y = none) (hvy : bootBuiltins y = some (.type "set")) (hg : Gl X x := by rfl) (hgy : Gl X y := by rfl)
    (hn : x ≠ "__name__" := by decide) (hdb : (x == ("__debug__" : Str)) = false := by decide) (hny : y ≠ "__name__" := by decide) (hdy : (y == ("__debug__" : Str)) = false := by decide)
    (he : starEach [e] X.env = (false, eval e X.env) :: starEach [] X.env := by rfl) (hpl : (backTo pos2 (starEach [] X.env)).any (·.1) = false := by rfl)
    (he2 : starEach [.Call (.Name y p2) [e] [] pos2] X.env = (false, eval (.Call (.Name y p2) [e] [] pos2) X.env) :: starEach [] X.env := by rfl) (hpl2 : (backTo pos (starEach [] X.env)).any (·.1) = false := by rfl) :
    DX X (.Call (.Name x p) [.Call (.Name y p2) [e] [] pos2] [] pos) (dSortSetM da) :=
  let ⟨_, h1, h2⟩ := ha
  ⟨_, pe_callB (cr_sortedT c.calm) hg hm hv (pa_cons (pe_callTy (cr_setM c.calm (c.room.units)) hgy hmy hvy h1 hny hdy he hpl) pa_nil he2) hn hdb he2 hpl2, fun {F H m σ ρ Q QV} s e h k => by
    refine h2 s e h fun vs ds F1 H1 m1 g1 r1 q => ?_
    split at q
    · next d =>
      split at q
      · next l hl =>
        split at q
        · next ks hks =>
          obtain ⟨⟨h64, w, hw1, hw⟩, q⟩ := q
          obtain ⟨v, rfl, rv⟩ := one_rep r1
          obtain ⟨a, xs, rfl, h1, rl⟩ := vw_lst (K := X.K) g1.si rv hl
          obtain ⟨ps, e1, e2, e3⟩ := tupIs_rep hks rl
          subst e2
          have hps : ∀ p ∈ ps, okT w p.2 := fun p hp => hw _ (by rw [← e1]; exact List.mem_map_of_mem hp)
          refine ⟨a, ps, rfl, h1, fun p hp => SqT.of (g1.si.sub.tup (e3 p hp)), (fun L hL nd => by
            have sub : L.map (·.2) ⊆ setT ks := fun z hz => by
              obtain ⟨q, hq, rfl⟩ := List.mem_map.mp hz
              exact (mem_setT hw).mpr (by rw [← e1]; exact List.mem_map_of_mem (hL q hq))
            have := List.Nodup.length_le_of_subset nd sub
            rw [List.length_map] at this; omega), fun p L hp hL1 hL2 => ?_⟩
          have g2 : Go F1 H1 m1 F1 (upd H1 p (SetTO X.prog X.w p L)) m1 := (Go.refl g1.si).hid hp (g1.si.sub.fresh hp) (g1.si.fresh hp)
          refine ⟨p, L, w, 64, rfl, upd_same, fun q hq => SqT.of (g2.si.sub.tup (e3 q (hL1 q hq))), hw1, fun q hq => hps q (hL1 q hq), fun L' r pm nd _ pw hr => ?_⟩
          have hL' : ∀ q ∈ L', q ∈ ps := fun q hq => hL1 q (pm.mem_iff.mp hq)
          have en : L'.map (·.2) = setT ks := by
            refine pwK_uniq codeT ?_ (setK_pw codeT ks) fun z => ?_
            · rw [List.pairwise_map]
              have nd' := List.pairwise_map.mp nd
              refine List.Pairwise.imp_of_mem ?_ (pw.and nd')
              intro u v hu hv ⟨z1, z2⟩
              rcases Int.lt_or_eq_of_le z1 with z | z
              · exact z
              · exact absurd (codeT_inj (hps u (hL' u hu)) (hps v (hL' v hv)) z) z2
            · show z ∈ _ ↔ z ∈ setT ks
              rw [mem_setT hw, ← e1]
              refine ⟨fun hz => ?_, fun hz => ?_⟩
              · obtain ⟨q, hq, rfl⟩ := List.mem_map.mp hz
                exact List.mem_map_of_mem (hL' q hq)
              · obtain ⟨q, hq, rfl⟩ := List.mem_map.mp hz
                obtain ⟨q', hq', e'⟩ := List.mem_map.mp (hL2 q hq)
                rw [← e']
                exact List.mem_map_of_mem (pm.mem_iff.mpr hq')
          have g3 := Go.froz (o := .lst (L'.map fun q => V.ref q.1)) g2.si hr
          refine k _ (.lst ((setT ks).map tupI)) _ _ _ ((g1.trans g2).trans g3) (rep_lst upd_same ?_) q
          rw [← en]
          exact (repL_tups fun q hq => e3 q (hL' q hq)).mono g3.ex
        · exact q.elim
      · exact q.elim
    · exact q.elim⟩

end
end PF

namespace PF
open PySem PySem.Spec L2 PyProof.Rows PySem.W

/-! ### sorted(d), d a dict whose keys are ints -/
section
variable {prog : Program} {w : World} {A : Around} {E : Value → Shared → Prop} {s : Shared} {T : String} {r d : Addr} {n : Nat} {P : Nat → Value → Prop} {OK : Heap → Prop}
theorem collect_src {Q : List Value → Shared → Prop} (K : KdlSrc prog w T r d n P OK) (hh : A.handled = none) (hok : OK s.heap) (hn : n ≤ sizeLine)
    (h : ∀ (h' : Heap) (tk : Nat) (acc : Array Value), (∀ b o, s.heap.get? b = some o → h'.get? b = some o) → s.heap.objs.size < h'.objs.size → ItemsOf P acc n → Q acc.toList { s with heap := h', toks := tk }) :
    wpAny (model prog w) A (collect (.ref r)) Q E s := by
  have lt := K.there _ hok
  unfold collect
  refine wpAny_bind (wpAny_runValue (codeAny_builtin F.entry_proto_collect ?_))
  rw [Around.under_plainId F.plain_proto_collect _]
  show wpAny _ A.in1 (newList [] >>= fun l => again (.builtin "list.__iadd__" ⟨[l, .ref r], []⟩)) _ _ s
  refine wpAny_bind (wpAny_newObj_type ?_)
  refine wpAny_pure ⟨plainId_quiet F.plain_list_iadd _, codeAny_builtin F.entry_list_iadd ?_⟩
  rw [Around.under_plainId F.plain_list_iadd _]
  have new := Heap.get?_push_size s.heap (o := { cls := .type "list", data := .seq ([] : List Value).toArray }) rfl
  show wpAny _ A.in1 (Builtin.List.listExtendWith (.ref s.heap.objs.size) (.ref r) (.ref s.heap.objs.size)) _ _ _
  let RR : Result → Shared → Prop := fun rr z => rr = .ok (.ret (.ref s.heap.objs.size)) ∧ ∃ (h' : Heap) (tk : Nat) (acc : Array Value) (c : Nat), z = { s with heap := h', toks := tk } ∧
    (∀ b o, b ≠ s.heap.objs.size → (s.heap.push { cls := .type "list", data := .seq ([] : List Value).toArray }).get? b = some o → h'.get? b = some o) ∧ h'.get? s.heap.objs.size = some { cls := .type "list", dict := none, data := .seq acc c, slots := #[] } ∧ ItemsOf P acc n
  have fin : ∀ (v : Value) (z : Shared), RR (.ok (.ret v)) z → wpAny (model prog w) A (match v with
      | .ref a => do
        let o ← load a
        match o.data with
          | .seq xs _ => pure xs.toList
          | _ => unsupported "internal:collect"
      | _ => unsupported "internal:collect") Q E z := fun v z ⟨e, h', tk, acc, c, ez, k1, k2, it⟩ => by
    cases e
    subst ez
    show wpAny _ A (load s.heap.objs.size >>= _) _ _ _
    refine wpAny_bind (wpAny_load k2 ?_)
    exact wpAny_pure (h h' tk acc (fun b o e => k1 b o (Nat.ne_of_lt (Heap.lt_size e)) (Heap.get?_push_of_some _ e)) (Heap.lt_size k2) it)
  have run := kdl_extend (R := RR) (s := { s with heap := s.heap.push { cls := .type "list", data := .seq ([] : List Value).toArray } }) K (A := A) hh (K.keep s.heap _ hok fun b _ o e => Heap.get?_push_of_some _ e) s.heap.objs.size (Nat.ne_of_gt lt.1) (Nat.ne_of_gt lt.2) (.ref s.heap.objs.size) 0 new (fun h' tk acc c k1 k2 it => ⟨rfl, h', tk, acc, c, rfl, k1, k2, it⟩) hn
  refine wpAny_mono run (fun f z hz => ?_) (fun e z hz => by obtain ⟨q, _⟩ := hz; cases q)
  cases f with
  | done f =>
    obtain ⟨q, rest⟩ := hz
    cases q
    exact fin _ z ⟨rfl, rest⟩
  | again c' =>
    refine ⟨hz.1, codeAny_mono hz.2 fun rr z2 h2 => ?_⟩
    obtain ⟨q, rest⟩ := id h2
    subst q
    exact fin _ z2 h2
theorem sorted_src {ns : List Int} {Q : Value → Shared → Prop} (K : KdlSrc prog w T r d n P OK) (hh : A.handled = none) (hok : OK s.heap) (h64 : n < 64) (hi : ∀ acc : Array Value, ItemsOf P acc n → IntsAre acc.toList ns)
    (h : ∀ (h' : Heap) (tk : Nat) (p : Addr) (out : Array Value) (c : Nat) (ns' : List Int), (∀ b o, s.heap.get? b = some o → h'.get? b = some o) → s.heap.objs.size ≤ p → h'.get? p = some (seqObj "list" out c) → IntsAre out.toList ns' → ns'.Perm ns → ns'.Pairwise (· ≤ ·) → Q (.ref p) { s with heap := h', toks := tk }) :
    wpAny (model prog w) A (call (.builtin "sorted") [.ref r]) Q E s := by
  refine Calls.call_function_entry kind_sorted plain_sorted entry_sorted (args_sorted1 _) ?_
  unfold Builtin.«sorted»
  refine wpAny_bind (m := checkCount "sorted" 1 1 _) (wpAny_pure ?_)
  refine wpAny_bind (collect_src (A := A.in1) K (by simp [hh]) hok (by rw [PySem.sizeLine_eq]; omega) fun h1 tk acc k1 lt it => ?_)
  have hI := hi acc it
  have hvl : acc.toList.length < 64 := by rw [Array.length_toList, it.1]; exact h64
  refine wpAny_bind (wpAny_newList ?_ (by rw [PySem.sizeLine_eq]; omega))
  have hoL : (h1.push (seqObj "list" acc.toList.toArray 0)).get? h1.objs.size = some (seqObj "list" acc.toList.toArray 0) := Heap.get?_push_size _ rfl
  refine wpAny_bind (wpAny_holding (wpAny_call_entry slot_list_sort ⟨_, hoL, rfl⟩ entry_list_sort (list_sort_tree hoL hI hvl fun out ns' a1 a2 a3 => ⟨_, rfl, ?_⟩) (args_list_sort _)))
  obtain ⟨c, hc⟩ := sortedHeap_at (vs := acc.toList) (out := out) hoL
  refine wpAny_pure ⟨_, rfl, h _ tk h1.objs.size out c ns' (fun b u e => ?_) (Nat.le_of_lt lt) hc a1 a2 a3⟩
  have q := k1 b u e
  have hlt := Heap.lt_size q
  rw [sortedHeap_old (Nat.ne_of_lt hlt) (by rw [size_push']; exact Nat.lt_succ_of_lt hlt)]
  exact Heap.get?_push_of_some _ q
end
section
variable {X : Cx}
def rSortK : List V → Hp → VK → Prop := fun vs H Q => ∃ (d : Addr) (o : Obj) (kvs : List (Key × V)) (ns : List Int), vs = [V.ref d] ∧ H d = some (.frz o (.dK kvs)) ∧ kvs.map (·.1) = ns.map Sum.inl ∧ kvs.length < 64 ∧
  ∀ (ns' : List Int) (p : Addr), ns'.Perm ns → ns'.Pairwise (· ≤ ·) → H p = none → Q (.ref p) (upd H p (.lst (ns'.map V.int)))
theorem keys_ints {P : Program} {w : World} : ∀ {ns : List Int} {us : List Value}, us.length = ns.length → (∀ (i : Nat) (u : Value), us[i]? = some u → ∃ k, ns[i]? = some k ∧ (mixKind P w).is (.inl k) u = true) → IntsAre us ns
  | [], [], _, _ => .nil
  | [], _ :: _, h, _ => by cases h
  | _ :: _, [], h, _ => by cases h
  | n :: ns, u :: us, h, hk => by
    obtain ⟨k, e, z⟩ := hk 0 u rfl
    obtain rfl : n = k := Option.some.inj e
    have ⟨t, ht⟩ : ∃ t, u = .int n t := by
      rcases keyIs_shape (k := .inl n) (v := u) z with ⟨i, t, e1, e2⟩ | ⟨x, t, e1, _⟩
      · cases e1; exact ⟨t, e2⟩
      · cases e1
    subst ht
    exact .cons n t (keys_ints (by simpa using h) fun i v hv => hk (i + 1) v (by simpa using hv))
theorem cr_sortK (hc : X.calm = true) : CallR X (.builtin "sorted") rSortK := by
  intro pins s σ H vs us Q I r h
  obtain ⟨d, o, kvs, ns, rfl, hd, ek, h64, q⟩ := h
  obtain ⟨hs, _, _, es, ep, us2, _, ez, kv, hm⟩ := I.frzK hd
  have hl : kvs.length = us2.length := Paired.length kv
  have eks : us2.map (·.1) = ns.map Sum.inl := by
    rw [← ek]
    clear hm hl ek hd h64 q ez
    induction kv with
    | nil => rfl
    | cons a _ ih => rw [List.map_cons, List.map_cons, ih]; simp only [a.1]
  have hln : us2.length = ns.length := by have := congrArg List.length eks; simpa using this
  rw [Vals.ref1 r]
  refine sorted_src (ns := ns) (kdl_dict hs) (I.ok.hd hc) hm (by rw [← hl]; exact h64) (fun acc it => keys_ints (P := X.prog) (w := X.w) (by rw [Array.length_toList, it.1, hln]) fun i u hu => ?_) fun h' tk p out c ns' k1 k2 k3 k4 k5 k6 => ?_
  · obtain ⟨k, x, e1, e2⟩ := it.2 i u (by rw [← hu, Array.getElem?_toList])
    have e3 : (us2.map (·.1))[i]? = some k := by rw [List.getElem?_map, e1]; rfl
    rw [eks, List.getElem?_map] at e3
    obtain ⟨j, hj, rfl⟩ := Option.map_eq_some_iff.mp e3
    exact ⟨j, hj, e2⟩
  · have hz : (ns'.map V.int).length ≤ sizeLine := by rw [List.length_map, k5.length_eq, ← hln, ← hl, PySem.sizeLine_eq]; omega
    exact ⟨.ref p, upd H p (.lst (ns'.map V.int)), I.laid (t' := tk) k1 k2 ⟨hz, out.toList, c, vals_of_ints k4, by simpa [seqObj] using k3⟩, rfl, q ns' p k5 k6 (I.hok.fresh k2)⟩
/-- sorted(d) -/
def dcSortK : DC := fun ds m Q => ∃ ns l, ds = [.dic (ns.map Sum.inl) l] ∧ ns.length < 64 ∧ Q (.lst ((sortI ns).map D.int)) m
theorem cb_sortK {n : Nat} (c : CF X n) : CBX X (.builtin "sorted") dcSortK := ⟨_, cr_sortK c.calm, fun {F H m xs ds Q QV} s r q k => by
  obtain ⟨ns, l, rfl, h64, q⟩ := q
  obtain ⟨v, rfl, rv⟩ := one_rep r
  obtain ⟨a, ob, kvs, rfl, h1, h2, _⟩ := rv.dic
  refine ⟨a, ob, kvs, ns, rfl, s.sub.frl h1, h2, by have := congrArg List.length h2; simp at this; omega, fun ns' p pm pw hp => ?_⟩
  obtain rfl := sortI_is pm pw
  have g := Go.froz (o := .lst ((sortI ns).map V.int)) s hp
  exact k _ _ _ _ _ g (rep_lst upd_same (repL_of_ints _)) q⟩
end
end PF

namespace PF
open PySem PySem.Spec L2
/-- list(x), a list that will change -/
def dcListC : DC := fun ds m Q => ∃ d l, ds = [d] ∧ (vw m d = .lst l ∨ vw m d = .tup l) ∧ ∀ p, m p = none → Q (.cel p) (updM m p (.l l))
theorem cb_listC {X : Cx} : CBX X (.type "list") dcListC := ⟨_, call_list_of, fun {F H m xs ds Q QV} s r q k => by
  obtain ⟨d, l, rfl, e, q⟩ := q
  obtain ⟨v, rfl, rv⟩ := one_rep r
  rcases e with e | e
  · obtain ⟨a, ys, rfl, h1, h2⟩ := vw_lst (K := X.K) s rv e
    refine ⟨a, ys, rfl, .inl h1, fun p hp => ?_⟩
    exact k _ _ _ _ _ (Go.cell (c := .l l) s hp ⟨ys, rfl, h2⟩) rep_cel (q p (s.fresh hp))
  · obtain rfl := vw_tup e
    obtain ⟨a, ys, rfl, h1, h2⟩ := rv.tup
    refine ⟨a, ys, rfl, .inr (SqT.of (s.sub.tup h1)), fun p hp => ?_⟩
    exact k _ _ _ _ _ (Go.cell (c := .l l) s hp ⟨ys, rfl, h2⟩) rep_cel (q p (s.fresh hp))⟩
end PF

namespace PG
open PySem PySem.Spec L2 PF
def top (i : Nat) : Stmt := PySem.Challenge.pw_surelyahead_k40_whole_sources_twice_and.main.body.getD i (.Pass ⟨0, 0, 0, 0⟩)
theorem bt_abs : bootBuiltins "abs" = some (.builtin "abs") := by decide +kernel
theorem bt_all : bootBuiltins "all" = some (.builtin "all") := by decide +kernel
theorem bt_any : bootBuiltins "any" = some (.builtin "any") := by decide +kernel
theorem bt_bool : bootBuiltins "bool" = some (.type "bool") := by decide +kernel
theorem bt_enumerate : bootBuiltins "enumerate" = some (.type "enumerate") := by decide +kernel
theorem bt_int : bootBuiltins "int" = some (.type "int") := by decide +kernel
theorem bt_isinstance : bootBuiltins "isinstance" = some (.builtin "isinstance") := by decide +kernel
theorem bt_len : bootBuiltins "len" = some (.builtin "len") := by decide +kernel
theorem bt_list : bootBuiltins "list" = some (.type "list") := by decide +kernel
theorem bt_max : bootBuiltins "max" = some (.builtin "max") := by decide +kernel
theorem bt_min : bootBuiltins "min" = some (.builtin "min") := by decide +kernel
theorem bt_range : bootBuiltins "range" = some (.type "range") := by decide +kernel
theorem bt_repr : bootBuiltins "repr" = some (.builtin "repr") := by decide +kernel
theorem bt_set : bootBuiltins "set" = some (.type "set") := by decide +kernel
theorem bt_sorted : bootBuiltins "sorted" = some (.builtin "sorted") := by decide +kernel
theorem bt_sum : bootBuiltins "sum" = some (.builtin "sum") := by decide +kernel
theorem bt_tuple : bootBuiltins "tuple" = some (.type "tuple") := by decide +kernel
theorem bt_zip : bootBuiltins "zip" = some (.type "zip") := by decide +kernel
theorem cl_int : ClsV (.ty "int") (.type "int") := .ty _
theorem cl_bool : ClsV (.ty "bool") (.type "bool") := .ty _
theorem cl_tuple : ClsV (.ty "tuple") (.type "tuple") := .ty _
structure Txt (mg : Str → Option Value) : Prop where
  n_abs : mg "abs" = none
  n_all : mg "all" = none
  n_any : mg "any" = none
  n_bool : mg "bool" = none
  n_enumerate : mg "enumerate" = none
  n_int : mg "int" = none
  n_isinstance : mg "isinstance" = none
  n_len : mg "len" = none
  n_list : mg "list" = none
  n_max : mg "max" = none
  n_min : mg "min" = none
  n_range : mg "range" = none
  n_repr : mg "repr" = none
  n_set : mg "set" = none
  n_sorted : mg "sorted" = none
  n_sum : mg "sum" = none
  n_tuple : mg "tuple" = none
  n_zip : mg "zip" = none
  c_MOST_SOURCES : ∃ t, mg "MOST_SOURCES" = some (.int 20 t)
  c_MOST_FAR : ∃ t, mg "MOST_FAR" = some (.int 99999 t)
  c_MOST_TRUTH : ∃ t, mg "MOST_TRUTH" = some (.int 199998 t)
  c_MOST_WEIGHT : ∃ t, mg "MOST_WEIGHT" = some (.int 99 t)
  c_SPANS : ∃ t, mg "SPANS" = some (.str "spans" t)
  c_MORE : ∃ t, mg "MORE" = some (.str "more" t)
end PG

namespace PG
open PySem PySem.Spec L2 PF

/-! ### what the defs of sources.py and trimmed.py compute -/
abbrev Src := List (Int × Int)
def encP (p : Int × Int) : D := .tup [.int p.1, .int p.2]
def encS (S : Src) : D := .tup (S.map encP)
def okP (p : Int × Int) : Prop := -99999 ≤ p.1 ∧ p.1 ≤ p.2 ∧ p.2 ≤ 99999
def okS (S : Src) : Prop := 1 ≤ S.length ∧ S.length ≤ 20 ∧ ∀ p ∈ S, okP p
def hav (S : Src) (n : Int) : List Int := (S.zipIdx.filter fun p => decide (p.1.1 ≤ n) && decide (n ≤ p.1.2)).map fun p => (p.2 : Int)
def edges (S : Src) : List Int := setI (S.map (fun p => p.1) ++ S.map fun p => p.2 + 1)
abbrev Piece := Int × Int × List Int
def pieces (S : Src) : List Piece := ((edges S).zip (edges S).tail).map fun p => (p.1, p.2 - 1, hav S p.1)
def encR (r : Piece) : D := .tup [.int r.1, .int r.2.1, .lst (r.2.2.map D.int)]
def joinS (found : Src) (p : Int × Int) : Src := match found.getLast? with
  | some q => if q.2 + 1 = p.1 then found.dropLast ++ [(q.1, p.2)] else found ++ [p]
  | none => [p]
def joinR (rows : Src) : Src := rows.foldl joinS []
def told (S : Src) (many : Int) : Src := joinR (((pieces S).filter fun r => decide (many ≤ (r.2.2.length : Int))).map fun r => (r.1, r.2.1))
def mostA (S : Src) : Int := maxI ((pieces S).map fun r => (r.2.2.length : Int))
def lots (S : Src) : List (List Int) := setT (((pieces S).filter fun r => decide ((r.2.2.length : Int) = mostA S)).map fun r => r.2.2)
def more (S : Src) (wrong : Int) : Prop := wrong < S.length - mostA S
instance (S : Src) (wrong : Int) : Decidable (more S wrong) := inferInstanceAs (Decidable (_ < _))
def could (S : Src) (wrong : Int) : D := if more S wrong then .tup [.str "more", .int (S.length - mostA S)] else .tup [.str "spans", .tup ((told S (S.length - wrong)).map encP)]
def loOf (T : Src) : Int := match T.head? with | some p => p.1 | none => 0
def hiOf (T : Src) : Int := match T.getLast? with | some p => p.2 | none => 0
def rightS (S T : Src) : List Int := (S.zipIdx.filter fun p => decide (p.1.1 ≤ loOf T) && decide (hiOf T ≤ p.1.2)).map fun p => (p.2 : Int)
def wrongS (S T : Src) : List Int := (S.zipIdx.filter fun p => !(T.any fun q => decide (q.1 ≤ p.1.2) && decide (p.1.1 ≤ q.2))).map fun p => (p.2 : Int)
def wsum (W : List Int) (some : List Int) : Int := (some.map fun i => W.getD i.toNat 0).sum
def weigh (S : Src) (W : List Int) (enough : Int) : Src := joinR (((pieces S).filter fun r => decide (enough ≤ wsum W r.2.2)).map fun r => (r.1, r.2.1))
def trim (S : Src) (wrong : Int) : Int × Int := ((sortI (S.map fun p => p.1)).getD (S.length - 1 - wrong).toNat 0, (sortI (S.map fun p => p.2)).getD wrong.toNat 0)
def others (S : Src) (i : Int) : Src := (S.zipIdx.filter fun p => !decide ((p.2 : Int) = i)).map fun p => p.1
def pull (S : Src) (wrong i : Int) : D := if (S.length : Int) - wrong - 1 < 1 then .tup [.int (0 - 99999), .int 99999]
  else if told (others S i) (S.length - wrong - 1) = [] then .non else .tup [.int (loOf (told (others S i) (S.length - wrong - 1))), .int (hiOf (told (others S i) (S.length - wrong - 1)))]

/-! ### the promises -/
def sp_is_integer : DSp := fun ds m Q => ∃ i, ds = [.int i] ∧ Q (.bl true) m
def sp_is_between : DSp := fun ds m Q => ∃ v a b, ds = [.int v, .int a, .int b] ∧ (a ≤ v ∧ v ≤ b) ∧ Q (.bl true) m
def sp_is_source : DSp := fun ds m Q => ∃ p, ds = [encP p] ∧ okP p ∧ Q (.bl true) m
def sp_check_sources : DSp := fun ds m Q => ∃ S, ds = [encS S] ∧ okS S ∧ Q .non m
def sp_check_wrong : DSp := fun ds m Q => ∃ S wr, ds = [encS S, .int wr] ∧ okS S ∧ (0 ≤ wr ∧ wr < S.length) ∧ Q .non m
def Seq2 (X : D) (S : Src) : Prop := X = .tup (S.map encP) ∨ X = .lst (S.map encP)
def sp_having : DSp := fun ds m Q => ∃ X S t, ds = [X, .int t] ∧ Seq2 X S ∧ S.length ≤ 20 ∧ Q (.lst ((hav S t).map D.int)) m
def sp_have : DSp := fun ds m Q => ∃ S t, ds = [encS S, .int t] ∧ okS S ∧ (-199998 ≤ t ∧ t ≤ 199998) ∧ Q (.tup ((hav S t).map D.int)) m
def sp_pieces_of : DSp := fun ds m Q => ∃ X S, ds = [X] ∧ Seq2 X S ∧ okS S ∧ Q (.lst ((pieces S).map encR)) m
def sp_joined : DSp := fun ds m Q => ∃ R : Src, ds = [.lst (R.map encP)] ∧ R.length ≤ 1000 ∧ Q (.tup ((joinR R).map encP)) m
def sp_told_agreed : DSp := fun ds m Q => ∃ X S n, ds = [X, .int n] ∧ Seq2 X S ∧ okS S ∧ Q (.tup ((told S n).map encP)) m
def sp_agreed : DSp := fun ds m Q => ∃ S n, ds = [encS S, .int n] ∧ okS S ∧ (1 ≤ n ∧ n ≤ S.length) ∧ Q (.tup ((told S n).map encP)) m
def sp_most_agreed : DSp := fun ds m Q => ∃ S, ds = [encS S] ∧ okS S ∧ Q (.int (mostA S)) m
def sp_best_agreed : DSp := fun ds m Q => ∃ S, ds = [encS S] ∧ okS S ∧ Q (.tup [.int (mostA S), .tup ((told S (mostA S)).map encP)]) m
def sp_lots_right : DSp := fun ds m Q => ∃ S, ds = [encS S] ∧ okS S ∧ Q (.tup ((lots S).map tupI)) m
def sp_told_could : DSp := fun ds m Q => ∃ S wr, ds = [encS S, .int wr] ∧ okS S ∧ (0 ≤ wr ∧ wr < S.length) ∧ Q (could S wr) m
def sp_truth_spans : DSp := sp_told_could
def sp_spans_if : DSp := fun ds m Q => ∃ S wr, ds = [encS S, .int wr] ∧ okS S ∧ (0 ≤ wr ∧ wr < S.length) ∧ ¬ more S wr ∧ Q (.tup ((told S (S.length - wr)).map encP)) m
def sp_surely_right : DSp := fun ds m Q => ∃ S wr, ds = [encS S, .int wr] ∧ okS S ∧ (0 ≤ wr ∧ wr < S.length) ∧ (¬ more S wr ∧ told S (S.length - wr) ≠ []) ∧ Q (.tup ((rightS S (told S (S.length - wr))).map D.int)) m
def sp_surely_wrong : DSp := fun ds m Q => ∃ S wr, ds = [encS S, .int wr] ∧ okS S ∧ (0 ≤ wr ∧ wr < S.length) ∧ (¬ more S wr ∧ told S (S.length - wr) ≠ []) ∧ Q (.tup ((wrongS S (told S (S.length - wr))).map D.int)) m
def sp_weighed : DSp := fun ds m Q => ∃ (S : Src) (W : List Int) (e : Int), ds = [encS S, .tup (W.map D.int), .int e] ∧ okS S ∧ (W.length = S.length ∧ (∀ x ∈ W, 0 ≤ x ∧ x ≤ 99) ∧ 1 ≤ e ∧ e ≤ 1980) ∧ Q (.tup ((weigh S W e).map encP)) m
def sp_trimmed : DSp := fun ds m Q => ∃ S wr, ds = [encS S, .int wr] ∧ okS S ∧ (0 ≤ wr ∧ wr < S.length) ∧ Q (encP (trim S wr)) m
def sp_hull : DSp := fun ds m Q => ∃ S wr, ds = [encS S, .int wr] ∧ okS S ∧ (0 ≤ wr ∧ wr < S.length) ∧ (¬ more S wr ∧ told S (S.length - wr) ≠ []) ∧ Q (.tup [.int (loOf (told S (S.length - wr))), .int (hiOf (told S (S.length - wr)))]) m
def sp_pulled : DSp := fun ds m Q => ∃ S wr i, ds = [encS S, .int wr, .int i] ∧ okS S ∧ (0 ≤ wr ∧ wr < S.length) ∧ (0 ≤ i ∧ i < S.length) ∧ Q (pull S wr i) m

section
variable {m : Mem} {Q : D → Mem → Prop} {S : Src} {R : Src} {p : Int × Int} {v a b t n wr i e : Int} {W : List Int}
theorem i_is_integer (q : Q (.bl true) m) : sp_is_integer [.int v] m Q := ⟨v, rfl, q⟩
theorem i_is_between (h1 : a ≤ v) (h2 : v ≤ b) (q : Q (.bl true) m) : sp_is_between [.int v, .int a, .int b] m Q := ⟨v, a, b, rfl, ⟨h1, h2⟩, q⟩
theorem i_is_source (h : okP p) (q : Q (.bl true) m) : sp_is_source [encP p] m Q := ⟨p, rfl, h, q⟩
theorem i_check_sources (h : okS S) (q : Q .non m) : sp_check_sources [encS S] m Q := ⟨S, rfl, h, q⟩
theorem i_check_wrong (h : okS S) (h2 : 0 ≤ wr ∧ wr < S.length) (q : Q .non m) : sp_check_wrong [encS S, .int wr] m Q := ⟨S, wr, rfl, h, h2, q⟩
theorem i_having (h : S.length ≤ 20) (q : Q (.lst ((hav S t).map D.int)) m) : sp_having [encS S, .int t] m Q := ⟨_, S, t, rfl, .inl rfl, h, q⟩
theorem i_having2 {X : D} (hX : Seq2 X S) (h : S.length ≤ 20) (q : Q (.lst ((hav S t).map D.int)) m) : sp_having [X, .int t] m Q := ⟨_, S, t, rfl, hX, h, q⟩
theorem i_have (h : okS S) (h2 : -199998 ≤ t ∧ t ≤ 199998) (q : Q (.tup ((hav S t).map D.int)) m) : sp_have [encS S, .int t] m Q := ⟨S, t, rfl, h, h2, q⟩
theorem i_pieces_of (h : okS S) (q : Q (.lst ((pieces S).map encR)) m) : sp_pieces_of [encS S] m Q := ⟨_, S, rfl, .inl rfl, h, q⟩
theorem i_pieces_of2 {X : D} (hX : Seq2 X S) (h : okS S) (q : Q (.lst ((pieces S).map encR)) m) : sp_pieces_of [X] m Q := ⟨_, S, rfl, hX, h, q⟩
theorem i_joined (h : R.length ≤ 1000) (q : Q (.tup ((joinR R).map encP)) m) : sp_joined [.lst (R.map encP)] m Q := ⟨R, rfl, h, q⟩
theorem i_told_agreed (h : okS S) (q : Q (.tup ((told S n).map encP)) m) : sp_told_agreed [encS S, .int n] m Q := ⟨_, S, n, rfl, .inl rfl, h, q⟩
theorem i_told_agreed2 {X : D} (hX : Seq2 X S) (h : okS S) (q : Q (.tup ((told S n).map encP)) m) : sp_told_agreed [X, .int n] m Q := ⟨_, S, n, rfl, hX, h, q⟩
theorem i_agreed (h : okS S) (h2 : 1 ≤ n ∧ n ≤ S.length) (q : Q (.tup ((told S n).map encP)) m) : sp_agreed [encS S, .int n] m Q := ⟨S, n, rfl, h, h2, q⟩
theorem i_most_agreed (h : okS S) (q : Q (.int (mostA S)) m) : sp_most_agreed [encS S] m Q := ⟨S, rfl, h, q⟩
theorem i_best_agreed (h : okS S) (q : Q (.tup [.int (mostA S), .tup ((told S (mostA S)).map encP)]) m) : sp_best_agreed [encS S] m Q := ⟨S, rfl, h, q⟩
theorem i_lots_right (h : okS S) (q : Q (.tup ((lots S).map tupI)) m) : sp_lots_right [encS S] m Q := ⟨S, rfl, h, q⟩
theorem i_told_could (h : okS S) (h2 : 0 ≤ wr ∧ wr < S.length) (q : Q (could S wr) m) : sp_told_could [encS S, .int wr] m Q := ⟨S, wr, rfl, h, h2, q⟩
theorem i_truth_spans (h : okS S) (h2 : 0 ≤ wr ∧ wr < S.length) (q : Q (could S wr) m) : sp_truth_spans [encS S, .int wr] m Q := ⟨S, wr, rfl, h, h2, q⟩
theorem i_spans_if (h : okS S) (h2 : 0 ≤ wr ∧ wr < S.length) (h3 : ¬ more S wr) (q : Q (.tup ((told S (S.length - wr)).map encP)) m) : sp_spans_if [encS S, .int wr] m Q := ⟨S, wr, rfl, h, h2, h3, q⟩
theorem i_surely_right (h : okS S) (h2 : 0 ≤ wr ∧ wr < S.length) (h3 : ¬ more S wr ∧ told S (S.length - wr) ≠ []) (q : Q (.tup ((rightS S (told S (S.length - wr))).map D.int)) m) : sp_surely_right [encS S, .int wr] m Q := ⟨S, wr, rfl, h, h2, h3, q⟩
theorem i_surely_wrong (h : okS S) (h2 : 0 ≤ wr ∧ wr < S.length) (h3 : ¬ more S wr ∧ told S (S.length - wr) ≠ []) (q : Q (.tup ((wrongS S (told S (S.length - wr))).map D.int)) m) : sp_surely_wrong [encS S, .int wr] m Q := ⟨S, wr, rfl, h, h2, h3, q⟩
theorem i_weighed (h : okS S) (h2 : W.length = S.length ∧ (∀ x ∈ W, 0 ≤ x ∧ x ≤ 99) ∧ 1 ≤ e ∧ e ≤ 1980) (q : Q (.tup ((weigh S W e).map encP)) m) : sp_weighed [encS S, .tup (W.map D.int), .int e] m Q := ⟨S, W, e, rfl, h, h2, q⟩
theorem i_trimmed (h : okS S) (h2 : 0 ≤ wr ∧ wr < S.length) (q : Q (encP (trim S wr)) m) : sp_trimmed [encS S, .int wr] m Q := ⟨S, wr, rfl, h, h2, q⟩
theorem i_hull (h : okS S) (h2 : 0 ≤ wr ∧ wr < S.length) (h3 : ¬ more S wr ∧ told S (S.length - wr) ≠ []) (q : Q (.tup [.int (loOf (told S (S.length - wr))), .int (hiOf (told S (S.length - wr)))]) m) : sp_hull [encS S, .int wr] m Q := ⟨S, wr, rfl, h, h2, h3, q⟩
theorem i_pulled (h : okS S) (h2 : 0 ≤ wr ∧ wr < S.length) (h3 : 0 ≤ i ∧ i < S.length) (q : Q (pull S wr i) m) : sp_pulled [encS S, .int wr, .int i] m Q := ⟨S, wr, i, rfl, h, h2, h3, q⟩
end

/-! ### small facts -/
theorem enumD_map {α : Type} (f : α → D) (l : List α) : enumD (l.map f) = l.zipIdx.map fun p => D.tup [.int (p.2 : Nat), f p.1] := by
  unfold enumD; rw [List.zipIdx_map, List.map_map]; rfl
theorem zipD_map {α β : Type} (f : α → D) (g : β → D) (l : List α) (k : List β) : zipD (l.map f) (k.map g) = (l.zip k).map fun p => D.tup [f p.1, g p.2] := by
  unfold zipD
  induction l generalizing k with
  | nil => rfl
  | cons a l ih => cases k with
    | nil => rfl
    | cons b k => simp [ih]
theorem cut1 (l : List D) : cutD l (some 1) none = l.tail := by
  unfold cutD HT.sIx
  cases l with
  | nil => rfl
  | cons a l => simp
theorem filter_tt {α : Type} (l : List α) : l.filter (fun _ => true) = l := by simp
theorem atI_map {α : Type} (f : α → D) (l : List α) (i : Int) (a : α) (h0 : 0 ≤ i) (h : l[i.toNat]? = some a) : atI (l.map f) i = some (f a) := by
  have hl := (List.getElem?_eq_some_iff.mp h).1
  unfold atI ixN
  rw [if_pos h0, if_pos (by rw [List.length_map]; omega)]
  simp [h]
theorem atI_last {α : Type} (f : α → D) (l : List α) (a : α) (h : l.getLast? = some a) : atI (l.map f) (-1) = some (f a) := by
  have hne : l ≠ [] := by rintro rfl; cases h
  have hl : 0 < l.length := List.length_pos_iff.mpr hne
  unfold atI ixN
  rw [if_neg (by omega), if_pos (by rw [List.length_map]; omega)]
  rw [List.getLast?_eq_getElem?] at h
  have e : ((-1 : Int) + ((l.map f).length : Nat)).toNat = l.length - 1 := by rw [List.length_map]; omega
  simp only [Option.bind_some, e, List.getElem?_map, h, Option.map_some]
theorem ixN_last {n : Nat} (h : 0 < n) : ixN n (-1) = some (n - 1) := by
  unfold ixN
  rw [if_neg (by omega), if_pos (by omega)]
  congr 1; omega
theorem set_last {α : Type} (l : List α) (a : α) (h : l ≠ []) : l.set (l.length - 1) a = l.dropLast ++ [a] := by
  induction l with
  | nil => exact absurd rfl h
  | cons x l ih =>
    cases l with
    | nil => rfl
    | cons y l => simpa using ih (by simp)
theorem at_head {α : Type} (f : α → D) (l : List α) (a : α) (h : l.head? = some a) : atI (l.map f) 0 = some (f a) := atI_map f l 0 a (by omega) (by cases l <;> simp_all)
theorem mem_zipIdx {α : Type} {l : List α} {p : α × Nat} (h : p ∈ l.zipIdx) : l[p.2]? = some p.1 := List.mem_zipIdx_iff_getElem?.mp h
theorem hav_len (S : Src) (n : Int) : (hav S n).length ≤ S.length := by
  unfold hav
  rw [List.length_map]
  exact Nat.le_trans (List.length_filter_le _ _) (by simp)
theorem insK_length {α : Type} (key : α → Int) (x : α) : ∀ l : List α, (insK key x l).length ≤ l.length + 1
  | [] => by simp [insK]
  | y :: r => by
    unfold insK
    split
    · simp
    · split
      · simp
      · have := insK_length key x r
        simp only [List.length_cons]; omega
theorem setK_length {α : Type} (key : α → Int) : ∀ l : List α, (setK key l).length ≤ l.length
  | [] => by simp [setK]
  | x :: r => by
    have h := setK_length key r
    have h2 := insK_length key x (setK key r)
    show (insK key x (setK key r)).length ≤ _
    rw [List.length_cons]; omega
theorem edges_len {S : Src} (h : okS S) : (edges S).length ≤ 40 := by
  have := setK_length (fun i => i) (S.map (fun p => p.1) ++ S.map fun p => p.2 + 1)
  unfold edges setI
  have h2 := h.2.1
  simp at this; omega
theorem pieces_len {S : Src} (h : okS S) : (pieces S).length ≤ 40 := by
  have := edges_len h
  unfold pieces; simp; omega
theorem joinS_len (f : Src) (p : Int × Int) : (joinS f p).length ≤ f.length + 1 := by
  unfold joinS; split
  · split
    · (try simp) <;> (try omega)
    · simp
  · simp
theorem joinR_len (R : Src) : (joinR R).length ≤ R.length := by
  have : ∀ (R f : Src), (R.foldl joinS f).length ≤ f.length + R.length := by
    intro R; induction R with
    | nil => intro f; simp
    | cons p R ih => intro f; have := ih (joinS f p); have := joinS_len f p; simp at *; omega
  simpa [joinR] using this R []
theorem told_len {S : Src} (h : okS S) (n : Int) : (told S n).length ≤ 40 := by
  have h1 := pieces_len h
  have h2 := joinR_len (((pieces S).filter fun r => decide (n ≤ (r.2.2.length : Int))).map fun r => (r.1, r.2.1))
  have h3 := List.length_filter_le (fun r : Piece => decide (n ≤ (r.2.2.length : Int))) (pieces S)
  unfold told; simp at h2 h3; omega
theorem piece_have {S : Src} {r : Piece} (h : r ∈ pieces S) : ∃ n, r.2.2 = hav S n := by
  unfold pieces at h
  obtain ⟨p, hp, rfl⟩ := List.mem_map.mp h
  exact ⟨p.1, rfl⟩
theorem hav_bd {S : Src} {n x : Int} (h : x ∈ hav S n) : 0 ≤ x ∧ x < S.length := by
  unfold hav at h
  obtain ⟨p, hp, rfl⟩ := List.mem_map.mp h
  have h2 := mem_zipIdx (List.mem_filter.mp hp).1
  have := (List.getElem?_eq_some_iff.mp h2).1
  omega
section
variable {α : Type} {m : Mem} {Q : D → Mem → Prop}
theorem all_bl (xs : List α) (v : α → Bool) : dcAll [.lst (xs.map fun x => .bl (v x))] m Q = Q (.bl (xs.all v)) m := by
  have e : (xs.map fun x => D.bl (v x)) = (xs.map v).map D.bl := by rw [List.map_map]; rfl
  rw [e, s_all, List.all_map]; rfl
theorem any_bl (xs : List α) (v : α → Bool) : dcAny [.lst (xs.map fun x => .bl (v x))] m Q = Q (.bl (xs.any v)) m := by
  have e : (xs.map fun x => D.bl (v x)) = (xs.map v).map D.bl := by rw [List.map_map]; rfl
  rw [e, s_any, List.any_map]; rfl
theorem sum_int (xs : List α) (v : α → Int) : dcSum [.lst (xs.map fun x => .int (v x))] m Q = Q (.int ((xs.map v).sum)) m := by
  have e : (xs.map fun x => D.int (v x)) = (xs.map v).map D.int := by rw [List.map_map]; rfl
  rw [e, s_sum]
theorem max_int (xs : List α) (v : α → Int) : dcMax [.lst (xs.map fun x => .int (v x))] m Q = (0 < xs.length ∧ Q (.int (maxI (xs.map v))) m) := by
  have e : (xs.map fun x => D.int (v x)) = (xs.map v).map D.int := by rw [List.map_map]; rfl
  rw [e, s_max, List.length_map]
theorem min_int (xs : List α) (v : α → Int) : dcMin [.lst (xs.map fun x => .int (v x))] m Q = (0 < xs.length ∧ Q (.int (minI (xs.map v))) m) := by
  have e : (xs.map fun x => D.int (v x)) = (xs.map v).map D.int := by rw [List.map_map]; rfl
  rw [e, s_min, List.length_map]
theorem sorted_int (xs : List α) (v : α → Int) : dcSorted [.lst (xs.map fun x => .int (v x))] m Q = Q (.lst ((sortI (xs.map v)).map D.int)) m := by
  have e : (xs.map fun x => D.int (v x)) = (xs.map v).map D.int := by rw [List.map_map]; rfl
  rw [e, s_sorted]
theorem intsV_map (xs : List α) (v : α → Int) : intsV m (.lst (xs.map fun x => .int (v x))) = some (xs.map v) := by
  have e : (xs.map fun x => D.int (v x)) = (xs.map v).map D.int := by rw [List.map_map]; rfl
  rw [e, intsV_l]
end
end PG
namespace PG
open PySem PySem.Spec L2 PF
theorem okD_spans : okD (.str (Str.ofString "spans")) = true := okD_flat shw_spans.1 (by omega)
theorem okD_more : okD (.str (Str.ofString "more")) = true := okD_flat shw_more.1 (by omega)
theorem two_lt {l : List Int} (h : l.Pairwise (· < ·)) {a b : Int} (ha : a ∈ l) (hb : b ∈ l) (ne : a ≠ b) : 2 ≤ l.length := by
  match l, h, ha, hb with
  | [x], _, ha, hb => simp at ha hb; exact absurd (ha.trans hb.symm) ne
  | x :: y :: r, _, _, _ => simp
theorem pieces_pos {S : Src} (h : okS S) : 0 < (pieces S).length := by
  obtain ⟨h1, _, h3⟩ := h
  cases S with
  | nil => simp at h1
  | cons p S =>
    obtain ⟨_, z, _⟩ := h3 p List.mem_cons_self
    have := two_lt (setI_pw ((p :: S).map (fun p => p.1) ++ (p :: S).map fun p => p.2 + 1)) (a := p.1) (b := p.2 + 1) (mem_setI.mpr (by simp)) (mem_setI.mpr (by simp)) (by omega)
    unfold pieces edges
    simp at *; omega
end PG
namespace PG
open PySem PySem.Spec L2 PF
theorem hav_low {S : Src} {p : Int × Int} (hp : p ∈ S) (h : p.1 ≤ p.2) : 0 < (hav S p.1).length := by
  obtain ⟨i, hi, e⟩ := List.mem_iff_getElem.mp hp
  have : (p, i) ∈ S.zipIdx := List.mem_zipIdx_iff_getElem?.mpr (by simp [hi, e])
  unfold hav
  rw [List.length_map]
  exact List.length_pos_of_mem (List.mem_filter.mpr ⟨this, by simp [h]⟩)
theorem mostA_all {S : Src} {r : Piece} (h : r ∈ pieces S) : (r.2.2.length : Int) ≤ mostA S := by
  unfold mostA
  have hm : (r.2.2.length : Int) ∈ (pieces S).map fun r => (r.2.2.length : Int) := List.mem_map.mpr ⟨r, h, rfl⟩
  generalize (pieces S).map (fun r => (r.2.2.length : Int)) = l at hm
  cases l with
  | nil => cases hm
  | cons x l =>
    obtain ⟨_, h2, h3⟩ := foldl_max l x
    rcases List.mem_cons.mp hm with e | e
    · rw [e]; exact h2
    · exact h3 _ e
theorem mostA_in {S : Src} (h : okS S) : ∃ r ∈ pieces S, mostA S = (r.2.2.length : Int) := by
  have hp := pieces_pos h
  have : mostA S ∈ (pieces S).map fun r => (r.2.2.length : Int) := by
    unfold mostA
    have hl : 0 < ((pieces S).map fun r => (r.2.2.length : Int)).length := by rw [List.length_map]; exact hp
    generalize (pieces S).map (fun r => (r.2.2.length : Int)) = l at hl
    cases l with
    | nil => cases hl
    | cons x l =>
      obtain ⟨h1, _, _⟩ := foldl_max l x
      rcases h1 with e | e
      · show l.foldl max x ∈ _
        rw [e]; exact List.mem_cons_self
      · exact List.mem_cons_of_mem _ e
  obtain ⟨r, hr, e⟩ := List.mem_map.mp this
  exact ⟨r, hr, e.symm⟩
/-- every edge but the last opens a piece -/
theorem zip_tail_mem : ∀ {l : List Int} {a b : Int}, l.Pairwise (· < ·) → a ∈ l → b ∈ l → a < b → ∃ c, (a, c) ∈ l.zip l.tail
  | [x], a, b, _, ha, hb, h => by simp at ha hb; omega
  | x :: y :: r, a, b, hp, ha, hb, h => by
    rcases List.mem_cons.mp ha with e | e
    · exact ⟨y, by rw [e]; simp⟩
    · have hp2 := (List.pairwise_cons.mp hp)
      have hb2 : b ∈ y :: r := by
        rcases List.mem_cons.mp hb with e2 | e2
        · have := hp2.1 a e; omega
        · exact e2
      obtain ⟨c, hc⟩ := zip_tail_mem hp2.2 e hb2 h
      refine ⟨c, ?_⟩
      cases r with
      | nil => simp at hc
      | cons z r => exact List.mem_cons_of_mem _ hc
theorem mostA_toNat {S : Src} (h : okS S) : 1 ≤ (mostA S).toNat := by
  have h0 := h
  obtain ⟨h1, _, h3⟩ := h
  cases S with
  | nil => simp at h1
  | cons p S =>
    obtain ⟨_, z, _⟩ := h3 p List.mem_cons_self
    obtain ⟨c, hc⟩ := zip_tail_mem (setI_pw ((p :: S).map (fun p => p.1) ++ (p :: S).map fun p => p.2 + 1)) (a := p.1) (b := p.2 + 1) (mem_setI.mpr (by simp)) (mem_setI.mpr (by simp)) (by omega)
    have hr : (p.1, c - 1, hav (p :: S) p.1) ∈ pieces (p :: S) := List.mem_map.mpr ⟨(p.1, c), hc, rfl⟩
    have a1 := mostA_all hr
    have a2 := hav_low (S := p :: S) List.mem_cons_self z
    have a1 : ((hav (p :: S) p.1).length : Int) ≤ mostA (p :: S) := a1
    omega
theorem others_mem {S : Src} {i : Int} {p : Int × Int} (h : p ∈ others S i) : p ∈ S := by
  obtain ⟨q, hq, rfl⟩ := List.mem_map.mp h
  have := mem_zipIdx (List.mem_filter.mp hq).1
  exact List.mem_of_getElem? this
theorem others_ok {S : Src} {i : Int} (h : okS S) (hi : 0 ≤ i ∧ i < S.length) (h2 : 2 ≤ (S.length : Int)) : okS (others S i) := by
  obtain ⟨h1, h3, h4⟩ := h
  refine ⟨?_, ?_, fun p hp => h4 p (others_mem hp)⟩
  · obtain ⟨j, hj, hne⟩ : ∃ j : Nat, j < S.length ∧ (j : Int) ≠ i := by
      by_cases z : i = 0
      · exact ⟨1, by omega, by omega⟩
      · exact ⟨0, by omega, by omega⟩
    have : (S[j], j) ∈ S.zipIdx := List.mem_zipIdx_iff_getElem?.mpr (by simp [hj])
    unfold others
    rw [List.length_map]
    exact List.length_pos_of_mem (List.mem_filter.mpr ⟨this, by simpa using hne⟩)
  · unfold others
    rw [List.length_map]
    have := List.length_filter_le (fun p : (Int × Int) × Nat => !decide ((p.2 : Int) = i)) S.zipIdx
    simp at this; omega
end PG

namespace PG
open PySem PySem.Spec L2 PF
section
variable {P : Program} {w : World} {K : PySem.W.Frag} {mg : Str → Option Value} {base : Heap}
/-! is_integer -/
abbrev N_is_integer : List Str := ["value"]
theorem sc_is_integer : FnScope N_is_integer ["value"] (defScope (top 7)) := ⟨rfl, rfl, rfl, by decide +kernel, rfl, by decide +kernel, by decide +kernel⟩
theorem ok_is_integer {f : Addr} {fd : FuncData} (T : Txt mg) (F : Fun K "is_integer" "is_integer" (top 7) f fd) (hm : mg "is_integer" = some (.ref f))  : Def P w K mg base 1 "is_integer" (top 7) ["value"] sp_is_integer := by
  refine def_ok F hm sc_is_integer (by rintro ds m Q ⟨i, rfl, _⟩; rfl) (fun f cdv A outer s H E c => (db_cons (ds_ret (dx_and (dx_isi (dx_var 0) T.n_isinstance bt_isinstance T.n_int bt_int cl_int) (dx_one (dx_not (dx_isi (dx_var 0) T.n_isinstance bt_isinstance T.n_bool bt_bool cl_bool))))) db_nil)) ?_
  rintro ds m Q ⟨i, rfl, q⟩
  simp [startD]
  exact ⟨m, MLe.refl m, q⟩
/-! is_between -/
abbrev N_is_between : List Str := ["value", "least", "most"]
theorem sc_is_between : FnScope N_is_between ["value", "least", "most"] (defScope (top 8)) := ⟨rfl, rfl, rfl, by decide +kernel, rfl, by decide +kernel, by decide +kernel⟩
theorem ok_is_between {f : Addr} {fd : FuncData} (T : Txt mg) (F : Fun K "is_between" "is_between" (top 8) f fd) (hm : mg "is_between" = some (.ref f)) (d_is_integer : Def P w K mg base 1 "is_integer" (top 7) ["value"] sp_is_integer) : Def P w K mg base 2 "is_between" (top 8) ["value", "least", "most"] sp_is_between := by
  refine def_ok F hm sc_is_between (by rintro ds m Q ⟨v, a, b, rfl, _⟩; rfl) (fun f cdv A outer s H E c => (db_cons (ds_ret (dx_and (dx_call d_is_integer c (by decide) (da_cons (dx_var 0) da_nil) (fun _ _ _ _ _ _ us hl => match us, hl with | [_], _ => rfl)) (dx_one (dx_chain ox_le ox_le (dx_var 1) (dx_var 0) (dx_var 2))))) db_nil)) ?_
  rintro ds m Q ⟨v, a, b, rfl, ⟨h1, h2⟩, q⟩
  simp [startD, h1, h2]
  refine i_is_integer ?_
  simp [h1, h2]
  exact .inr ⟨m, MLe.refl m, q⟩
/-! is_source -/
abbrev N_is_source : List Str := ["value", "its"]
theorem sc_is_source : FnScope N_is_source ["value"] (defScope (top 16)) := ⟨rfl, rfl, rfl, by decide +kernel, rfl, by decide +kernel, by decide +kernel⟩
theorem ok_is_source {f : Addr} {fd : FuncData} (T : Txt mg) (F : Fun K "is_source" "is_source" (top 16) f fd) (hm : mg "is_source" = some (.ref f)) (d_is_between : Def P w K mg base 2 "is_between" (top 8) ["value", "least", "most"] sp_is_between) : Def P w K mg base 3 "is_source" (top 16) ["value"] sp_is_source := by
  refine def_ok F hm sc_is_source (by rintro ds m Q ⟨i, rfl, _⟩; rfl) (fun f cdv A outer s H E c => (db_cons (ds_if (dt_w (dw_or (dt_not (dt_val (dx_isi (dx_var 0) T.n_isinstance bt_isinstance T.n_tuple bt_tuple cl_tuple))) (dw_or1 (dt_cmp (ox_ne c) (dx_bi cb_len T.n_len bt_len (da_cons (dx_var 0) da_nil)) dx_int)))) (db_cons (ds_ret dx_bl) db_nil) db_nil) (db_cons (ds_ret (dx_and (dx_bi (cb_all c) T.n_all bt_all (da_cons (dx_lc c (di_tup (dx_var 0)) (blkOk_by (own := [("its", 1)]) (by first | decide +kernel | kernel_rfl)) (fun _ _ _ _ _ => (dg_name 1 (c.blk _ _ _ _ _))) (fun _ _ _ _ _ => dts_nil) (fun _ _ _ _ _ => (dx_call d_is_between (c.blk _ _ _ _ _) (by decide) (da_cons (dx_var 1) (da_cons (dx_op ox_sub dx_int (dx_globI T.c_MOST_FAR.choose_spec)) (da_cons (dx_globI T.c_MOST_FAR.choose_spec) da_nil))) (fun _ _ _ _ _ _ us hl => match us, hl with | [_, _, _], _ => rfl)))) da_nil)) (dx_one (dx_cmp ox_le (dx_ix (dx_var 0) dx_int) (dx_ix (dx_var 0) dx_int))))) db_nil))) ?_
  rintro ds m Q ⟨p, rfl, ⟨h1, h2, h3⟩, q⟩
  simp [startD, encP, e_diT, dLc, wipeD, PySem.sizeLine_eq]
  refine lc_ok [p.1, p.2] D.int (fun _ => true) (fun _ => .bl true) rfl (fun x hx K1 K0 h => ?_) ?_
  · have : x = p.1 ∨ x = p.2 := by simpa using hx
    simp at h ⊢
    exact i_is_between (by omega) (by omega) h
  · rw [filter_tt, all_bl]
    simp [atI, ixN, h2]
    exact ⟨m, MLe.refl m, q⟩
/-! check_sources -/
abbrev N_check_sources : List Str := ["sources", "one"]
theorem sc_check_sources : FnScope N_check_sources ["sources"] (defScope (top 17)) := ⟨rfl, rfl, rfl, by decide +kernel, rfl, by decide +kernel, by decide +kernel⟩
theorem ok_check_sources {f : Addr} {fd : FuncData} (T : Txt mg) (F : Fun K "check_sources" "check_sources" (top 17) f fd) (hm : mg "check_sources" = some (.ref f)) (d_is_source : Def P w K mg base 3 "is_source" (top 16) ["value"] sp_is_source) : Def P w K mg base 4 "check_sources" (top 17) ["sources"] sp_check_sources := by
  refine def_ok F hm sc_check_sources (by rintro ds m Q ⟨i, rfl, _⟩; rfl) (fun f cdv A outer s H E c => (db_cons (ds_if (dt_w (dw_or (dt_not (dt_val (dx_isi (dx_var 0) T.n_isinstance bt_isinstance T.n_tuple bt_tuple cl_tuple))) (dw_or1 (dt_not (dt_chain ox_lt ox_le dx_int (dx_bi cb_len T.n_len bt_len (da_cons (dx_var 0) da_nil)) (dx_globI T.c_MOST_SOURCES.choose_spec)))))) (db_cons ds_never db_nil) db_nil) (db_cons (ds_if (dt_not (dt_val (dx_bi (cb_all c) T.n_all bt_all (da_cons (dx_lc c (di_tup (dx_var 0)) (blkOk_by (own := [("one", 1)]) (by first | decide +kernel | kernel_rfl)) (fun _ _ _ _ _ => (dg_name 1 (c.blk _ _ _ _ _))) (fun _ _ _ _ _ => dts_nil) (fun _ _ _ _ _ => (dx_call d_is_source (c.blk _ _ _ _ _) (by decide) (da_cons (dx_var 1) da_nil) (fun _ _ _ _ _ _ us hl => match us, hl with | [_], _ => rfl)))) da_nil)))) (db_cons ds_never db_nil) db_nil) db_nil))) ?_
  rintro ds m Q ⟨S, rfl, ⟨h1, h2, h3⟩, q⟩
  simp [startD, encS, e_diT, dLc, wipeD, PySem.sizeLine_eq]
  refine ⟨by omega, by omega, by omega, lc_ok S encP (fun _ => true) (fun _ => .bl true) rfl (fun x hx K1 K0 h => ?_) ?_⟩
  · simp at h ⊢
    exact i_is_source (h3 x hx) h
  · rw [filter_tt, all_bl]
    simp
    exact ⟨m, MLe.refl m, q⟩
/-! check_wrong -/
abbrev N_check_wrong : List Str := ["sources", "wrong"]
theorem sc_check_wrong : FnScope N_check_wrong ["sources", "wrong"] (defScope (top 18)) := ⟨rfl, rfl, rfl, by decide +kernel, rfl, by decide +kernel, by decide +kernel⟩
theorem ok_check_wrong {f : Addr} {fd : FuncData} (T : Txt mg) (F : Fun K "check_wrong" "check_wrong" (top 18) f fd) (hm : mg "check_wrong" = some (.ref f)) (d_is_between : Def P w K mg base 2 "is_between" (top 8) ["value", "least", "most"] sp_is_between) (d_check_sources : Def P w K mg base 4 "check_sources" (top 17) ["sources"] sp_check_sources) : Def P w K mg base 5 "check_wrong" (top 18) ["sources", "wrong"] sp_check_wrong := by
  refine def_ok F hm sc_check_wrong (by rintro ds m Q ⟨S, i, rfl, _⟩; rfl) (fun f cdv A outer s H E c => (db_cons (ds_expr (dx_call d_check_sources c (by decide) (da_cons (dx_var 0) da_nil) (fun _ _ _ _ _ _ us hl => match us, hl with | [_], _ => rfl))) (db_cons (ds_if (dt_not (dt_val (dx_call d_is_between c (by decide) (da_cons (dx_var 1) (da_cons dx_int (da_cons (dx_op ox_sub (dx_bi cb_len T.n_len bt_len (da_cons (dx_var 0) da_nil)) dx_int) da_nil))) (fun _ _ _ _ _ _ us hl => match us, hl with | [_, _, _], _ => rfl)))) (db_cons ds_never db_nil) db_nil) db_nil))) ?_
  rintro ds m Q ⟨S, wr, rfl, hS, ⟨h1, h2⟩, q⟩
  simp [startD]
  refine i_check_sources hS ?_
  simp [encS]
  refine i_is_between (by omega) (by omega) ?_
  simp
  exact ⟨m, MLe.refl m, q⟩
/-! having -/
abbrev N_having : List Str := ["sources", "truth", "at", "low", "high"]
theorem sc_having : FnScope N_having ["sources", "truth"] (defScope (top 19)) := ⟨rfl, rfl, rfl, by decide +kernel, rfl, by decide +kernel, by decide +kernel⟩
theorem ok_having {f : Addr} {fd : FuncData} (T : Txt mg) (F : Fun K "having" "having" (top 19) f fd) (hm : mg "having" = some (.ref f))  : Def P w K mg base 1 "having" (top 19) ["sources", "truth"] sp_having := by
  refine def_ok F hm sc_having (by rintro ds m Q ⟨X, S, t, rfl, _⟩; rfl) (fun f cdv A outer s H E c => (db_cons (ds_ret (dx_lc c (di_or (di_enT (da_cons (dx_var 0) da_nil) T.n_enumerate) (di_enL (da_cons (dx_var 0) da_nil) T.n_enumerate)) (blkOk_by (own := [("at", 2), ("low", 3), ("high", 4)]) (by first | decide +kernel | kernel_rfl)) (fun _ _ _ _ _ => (dg_tup (n := 2) (c.blk _ _ _ _ _) (dgs_cons (dg_name 2 (c.blk _ _ _ _ _)) (dgs_cons (dg_tup (n := 2) (c.blk _ _ _ _ _) (dgs_cons (dg_name 3 (c.blk _ _ _ _ _)) (dgs_cons (dg_name 4 (c.blk _ _ _ _ _)) dgs_nil))) dgs_nil)))) (fun _ _ _ _ _ => (dts_one (dt_chain ox_le ox_le (dx_var 3) (dx_var 1) (dx_var 4)))) (fun _ _ _ _ _ => (dx_var 2)))) db_nil)) ?_
  rintro ds m Q ⟨X, S, t, rfl, hX, hS, q⟩
  have key : (enumD (S.map encP)).length < sizeLine ∧ lcGo (gdTup 2 (gdCons (gdName 2) (gdCons (gdTup 2 (gdCons (gdName 3) (gdCons (gdName 4) gdNil))) gdNil))) (dTest (dChain drLe drLe (dVar 3) (dVar 1) (dVar 4))) (dVar 2)
      [some X, some (D.int t), none, none, none] (enumD (S.map encP)) m [] fun acc m2 => ∃ m'', MLe m'' m2 ∧ Q (D.lst acc) m'' := by
    refine ⟨by simp [enumD, PySem.sizeLine_eq]; omega, lc_ok S.zipIdx (fun p => .tup [.int (p.2:Nat), encP p.1]) (fun p => decide (p.1.1 ≤ t) && decide (t ≤ p.1.2)) (fun p => .int (p.2:Nat)) (enumD_map encP S) (fun x hx K1 K0 h => ?_) ?_⟩
    · by_cases a1 : x.1.1 ≤ t <;> by_cases a2 : t ≤ x.1.2 <;> simp_all [encP]
    · rw [hav, List.map_map] at q
      exact ⟨m, MLe.refl m, q⟩
  rcases hX with rfl | rfl
  · simp [startD, e_diEnT, e_diEn, dLc, wipeD]
    exact key
  · simp [startD, e_diEnT, e_diEn, dLc, wipeD]
    exact key
/-! have -/
abbrev N_have : List Str := ["sources", "truth"]
theorem sc_have : FnScope N_have ["sources", "truth"] (defScope (top 20)) := ⟨rfl, rfl, rfl, by decide +kernel, rfl, by decide +kernel, by decide +kernel⟩
theorem ok_have {f : Addr} {fd : FuncData} (T : Txt mg) (F : Fun K "have" "have" (top 20) f fd) (hm : mg "have" = some (.ref f)) (d_is_between : Def P w K mg base 2 "is_between" (top 8) ["value", "least", "most"] sp_is_between) (d_check_sources : Def P w K mg base 4 "check_sources" (top 17) ["sources"] sp_check_sources) (d_having : Def P w K mg base 1 "having" (top 19) ["sources", "truth"] sp_having) : Def P w K mg base 5 "have" (top 20) ["sources", "truth"] sp_have := by
  refine def_ok F hm sc_have (by rintro ds m Q ⟨S, t, rfl, _⟩; rfl) (fun f cdv A outer s H E c => (db_cons (ds_expr (dx_call d_check_sources c (by decide) (da_cons (dx_var 0) da_nil) (fun _ _ _ _ _ _ us hl => match us, hl with | [_], _ => rfl))) (db_cons (ds_if (dt_not (dt_val (dx_call d_is_between c (by decide) (da_cons (dx_var 1) (da_cons (dx_op ox_sub dx_int (dx_globI T.c_MOST_TRUTH.choose_spec)) (da_cons (dx_globI T.c_MOST_TRUTH.choose_spec) da_nil))) (fun _ _ _ _ _ _ us hl => match us, hl with | [_, _, _], _ => rfl)))) (db_cons ds_never db_nil) db_nil) (db_cons (ds_ret (dx_ty cb_tuple T.n_tuple bt_tuple (da_cons (dx_call d_having c (by decide) (da_cons (dx_var 0) (da_cons (dx_var 1) da_nil)) (fun _ _ _ _ _ _ us hl => match us, hl with | [_, _], _ => rfl)) da_nil))) db_nil)))) ?_
  rintro ds m Q ⟨S, t, rfl, hS, ⟨h1, h2⟩, q⟩
  simp [startD]
  refine i_check_sources hS ?_
  refine i_is_between (by omega) (by omega) ?_
  simp
  refine i_having hS.2.1 ?_
  exact ⟨m, MLe.refl m, q⟩
/-! pieces_of -/
abbrev N_pieces_of : List Str := ["sources", "edges", "low", "high", "one", "other"]
theorem sc_pieces_of : FnScope N_pieces_of ["sources"] (defScope (top 21)) := ⟨rfl, rfl, rfl, by decide +kernel, rfl, by decide +kernel, by decide +kernel⟩
theorem ok_pieces_of {f : Addr} {fd : FuncData} (T : Txt mg) (F : Fun K "pieces_of" "pieces_of" (top 21) f fd) (hm : mg "pieces_of" = some (.ref f)) (d_having : Def P w K mg base 1 "having" (top 19) ["sources", "truth"] sp_having) : Def P w K mg base 2 "pieces_of" (top 21) ["sources"] sp_pieces_of := by
  refine def_ok F hm sc_pieces_of (by rintro ds m Q ⟨X, S, rfl, _⟩; rfl) (fun f cdv A outer s H E c => (db_cons (ds_set 1 c (dx_sortSet c (da_cons (dx_op ox_add (dx_lc c (di_or (di_tup (dx_var 0)) (di_list (dx_var 0))) (blkOk_by (own := [("low", 2), ("high", 3)]) (by first | decide +kernel | kernel_rfl)) (fun _ _ _ _ _ => (dg_tup (n := 2) (c.blk _ _ _ _ _) (dgs_cons (dg_name 2 (c.blk _ _ _ _ _)) (dgs_cons (dg_name 3 (c.blk _ _ _ _ _)) dgs_nil)))) (fun _ _ _ _ _ => dts_nil) (fun _ _ _ _ _ => (dx_var 2))) (dx_lc c (di_or (di_tup (dx_var 0)) (di_list (dx_var 0))) (blkOk_by (own := [("low", 2), ("high", 3)]) (by first | decide +kernel | kernel_rfl)) (fun _ _ _ _ _ => (dg_tup (n := 2) (c.blk _ _ _ _ _) (dgs_cons (dg_name 2 (c.blk _ _ _ _ _)) (dgs_cons (dg_name 3 (c.blk _ _ _ _ _)) dgs_nil)))) (fun _ _ _ _ _ => dts_nil) (fun _ _ _ _ _ => (dx_op ox_add (dx_var 3) dx_int)))) da_nil) T.n_sorted bt_sorted T.n_set bt_set)) (db_cons (ds_ret (dx_lc c (di_zip (da_cons (dx_var 1) (da_cons (dx_sl (dx_var 1) (dp_some dx_int) dp_no) da_nil)) T.n_zip) (blkOk_by (own := [("one", 4), ("other", 5)]) (by first | decide +kernel | kernel_rfl)) (fun _ _ _ _ _ => (dg_tup (n := 2) (c.blk _ _ _ _ _) (dgs_cons (dg_name 4 (c.blk _ _ _ _ _)) (dgs_cons (dg_name 5 (c.blk _ _ _ _ _)) dgs_nil)))) (fun _ _ _ _ _ => dts_nil) (fun _ _ _ _ _ => (dx_tup (da_cons (dx_var 4) (da_cons (dx_op ox_sub (dx_var 5) dx_int) (da_cons (dx_call d_having (c.blk _ _ _ _ _) (by decide) (da_cons (dx_var 0) (da_cons (dx_var 4) da_nil)) (fun _ _ _ _ _ _ us hl => match us, hl with | [_, _], _ => rfl)) da_nil))))))) db_nil))) ?_
  rintro ds m Q ⟨X, S, rfl, hX, hS, q⟩
  have hl := hS.2.1
  have hX0 := hX
  rcases hX with rfl | rfl <;> simp [startD, e_diT, e_diL, dLc, wipeD, e_sortSet, PySem.sizeLine_eq]
  all_goals
    refine ⟨by omega, lc_ok S encP (fun _ => true) (fun p => .int p.1) rfl (fun x hx K1 K0 h => by simpa [encP] using h) ⟨by omega, lc_ok S encP (fun _ => true) (fun p => .int (p.2 + 1)) rfl (fun x hx K1 K0 h => by simpa [encP] using h) ?_⟩⟩
    rw [filter_tt]
    refine ⟨by simp [PySem.sizeLine_eq]; omega, S.map (fun p => p.1) ++ S.map (fun p => p.2 + 1), ?_, by simp; omega, ?_⟩
    · have e : (S.map (fun p : Int × Int => D.int p.1) ++ S.map fun p : Int × Int => D.int (p.2 + 1)) = (S.map (fun p : Int × Int => p.1) ++ S.map (fun p : Int × Int => p.2 + 1)).map D.int := by
        rw [List.map_append, List.map_map, List.map_map]; rfl
      rw [e, intsV_l]
    · have hle := edges_len hS
      simp [e_diZip, e_sl, cut1]
      rw [← List.map_tail, zipD_map]
      show _ ∧ lcGo _ _ _ _ (((edges S).zip (edges S).tail).map _) _ _ _
      refine ⟨by simp [PySem.sizeLine_eq, edges] at *; omega, lc_ok ((edges S).zip (edges S).tail) _ (fun _ => true) (fun p => encR (p.1, p.2 - 1, hav S p.1)) rfl (fun x hx K1 K0 h => ?_) ?_⟩
      · simp [PySem.sizeLine_eq] at h ⊢
        exact i_having2 hX0 hl (by simpa [encR] using h)
      · rw [filter_tt]
        refine ⟨m, MLe.refl m, ?_⟩
        rw [pieces, List.map_map] at q
        exact q
end
end PG

namespace PG
open PySem PySem.Spec L2 PF
section
variable {P : Program} {w : World} {K : PySem.W.Frag} {mg : Str → Option Value} {base : Heap}
/-! joined -/
abbrev N_joined : List Str := ["rows", "found", "least", "most"]
theorem sc_joined : FnScope N_joined ["rows"] (defScope (top 22)) := ⟨rfl, rfl, rfl, by decide +kernel, rfl, by decide +kernel, by decide +kernel⟩
theorem ok_joined {f : Addr} {fd : FuncData} (T : Txt mg) (F : Fun K "joined" "joined" (top 22) f fd) (hm : mg "joined" = some (.ref f))  : Def P w K mg base 1 "joined" (top 22) ["rows"] sp_joined := by
  refine def_ok F hm sc_joined (by rintro ds m Q ⟨R, rfl, _⟩; rfl) (fun f cdv A outer s H E c => (db_cons (ds_set 1 c (dx_lstC da_nil)) (db_cons (ds_for c PassesOwn.never (di_list (dx_var 0)) (dg_tup (n := 2) c (dgs_cons (dg_name 2 c) (dgs_cons (dg_name 3 c) dgs_nil))) (db_cons (ds_if (dt_w (dw_and (dt_cmp (ox_neV c) (dx_var 1) (dx_lst da_nil)) (dw_and1 (dt_cmp (ox_eq c) (dx_op ox_add (dx_ix (dx_ix (dx_var 1) (dx_neg dx_int)) dx_int) dx_int) (dx_var 2))))) (db_cons (ds_asg (dx_tup (da_cons (dx_ix (dx_ix (dx_var 1) (dx_neg dx_int)) dx_int) (da_cons (dx_var 3) da_nil))) (dg_sub (dx_var 1) (dx_neg dx_int))) db_nil) (db_cons (ds_expr (dx_app (dx_var 1) (da_cons (dx_tup (da_cons (dx_var 2) (da_cons (dx_var 3) da_nil))) da_nil))) db_nil)) db_nil)) (db_cons (ds_ret (dx_ty cb_tuple T.n_tuple bt_tuple (da_cons (dx_var 1) da_nil))) db_nil)))) ?_
  rintro ds m Q ⟨R, rfl, hR, q⟩
  simp [startD, dFor, e_diL]
  intro p hp
  refine for_ok R encP (fun pre ρ m' => ∃ x y, ρ = [some (.lst (R.map encP)), some (.cel p), x, y] ∧ m' = updM m p (.l ((joinR pre).map encP))) rfl ⟨none, none, rfl, rfl⟩ ?_ ?_
  · rintro pre x post ρ m1 hx ⟨a, b, rfl, rfl⟩ N hN
    have hv : vw (updM m p (.l ((joinR pre).map encP))) (.cel p) = .lst ((joinR pre).map encP) := e_vwC updM_same
    have hlen : (joinR pre).length < 2000 := by
      have := joinR_len pre
      have : pre.length ≤ R.length := by rw [hx]; simp
      omega
    have step : joinR (pre ++ [x]) = joinS (joinR pre) x := by simp [joinR]
    have okL : okD (.lst ((joinR pre).map encP)) = true := okD_flat (n := 2) (flat_lst fun d hd => by
      obtain ⟨z, _, rfl⟩ := List.mem_map.mp hd
      exact flat_tup fun e he => by
        have : e = .int z.1 ∨ e = .int z.2 := by simpa using he
        rcases this with h | h <;> rw [h] <;> exact flat_int) (by omega)
    rw [encP]
    simp [hv, okL, updM_same]
    cases hg : (joinR pre).getLast? with
    | none =>
      have e0 : joinR pre = [] := List.getLast?_eq_none_iff.mp hg
      simp [e0, e_tyC updM_same, e_app updM_same, PySem.sizeLine_eq]
      refine hN _ _ ⟨_, _, rfl, ?_⟩
      rw [step, updM_updM]
      simp [joinS, e0, encP]
    | some z =>
      have ne : joinR pre ≠ [] := by rintro e; rw [e] at hg; cases hg
      have hla := atI_last encP _ _ hg
      have e3 : atI [D.int z.1, D.int z.2] 0 = some (.int z.1) := rfl
      have e4 : atI [D.int z.1, D.int z.2] 1 = some (.int z.2) := rfl
      simp [ne, hla, encP, e3, e4]
      by_cases hc : z.2 + 1 = x.1
      · simp [hc, updM_same, hla, encP, e3, e4, PySem.sizeLine_eq]
        refine ⟨(joinR pre).length - 1, ixN_last (List.length_pos_iff.mpr ne), ?_⟩
        refine hN _ _ ⟨_, _, rfl, ?_⟩
        rw [step, updM_updM]
        have e1 : joinS (joinR pre) x = (joinR pre).dropLast ++ [(z.1, x.2)] := by simp [joinS, hg, hc]
        have e2 := set_last ((joinR pre).map encP) (encP (z.1, x.2)) (by simpa using ne)
        rw [e1]
        simp only [List.length_map] at e2
        simp [encP] at e2 ⊢
        rw [e2]
      · simp [hc, e_tyC updM_same, e_app updM_same, PySem.sizeLine_eq]
        refine ⟨by omega, hN _ _ ⟨_, _, rfl, ?_⟩⟩
        rw [step, updM_updM]
        simp [joinS, hg, hc, encP]
  · rintro ρ m1 ⟨a, b, rfl, rfl⟩
    simp
    rw [s_tupleC updM_same]
    exact ⟨m, MLe.new (MLe.refl m) hp, q⟩
/-! told_agreed -/
abbrev N_told_agreed : List Str := ["sources", "many", "least", "most", "some"]
theorem sc_told_agreed : FnScope N_told_agreed ["sources", "many"] (defScope (top 23)) := ⟨rfl, rfl, rfl, by decide +kernel, rfl, by decide +kernel, by decide +kernel⟩
theorem ok_told_agreed {f : Addr} {fd : FuncData} (T : Txt mg) (F : Fun K "told_agreed" "told_agreed" (top 23) f fd) (hm : mg "told_agreed" = some (.ref f)) (d_pieces_of : Def P w K mg base 2 "pieces_of" (top 21) ["sources"] sp_pieces_of) (d_joined : Def P w K mg base 1 "joined" (top 22) ["rows"] sp_joined) : Def P w K mg base 3 "told_agreed" (top 23) ["sources", "many"] sp_told_agreed := by
  refine def_ok F hm sc_told_agreed (by rintro ds m Q ⟨X, S, n, rfl, _⟩; rfl) (fun f cdv A outer s H E c => (db_cons (ds_ret (dx_call d_joined c (by decide) (da_cons (dx_lc c (di_list (dx_call d_pieces_of c (by decide) (da_cons (dx_var 0) da_nil) (fun _ _ _ _ _ _ us hl => match us, hl with | [_], _ => rfl))) (blkOk_by (own := [("least", 2), ("most", 3), ("some", 4)]) (by first | decide +kernel | kernel_rfl)) (fun _ _ _ _ _ => (dg_tup (n := 3) (c.blk _ _ _ _ _) (dgs_cons (dg_name 2 (c.blk _ _ _ _ _)) (dgs_cons (dg_name 3 (c.blk _ _ _ _ _)) (dgs_cons (dg_name 4 (c.blk _ _ _ _ _)) dgs_nil))))) (fun _ _ _ _ _ => (dts_one (dt_cmp ox_ge (dx_bi cb_len T.n_len bt_len (da_cons (dx_var 4) da_nil)) (dx_var 1)))) (fun _ _ _ _ _ => (dx_tup (da_cons (dx_var 2) (da_cons (dx_var 3) da_nil))))) da_nil) (fun _ _ _ _ _ _ us hl => match us, hl with | [_], _ => rfl))) db_nil)) ?_
  rintro ds m Q ⟨X, S, n, rfl, hX, hS, q⟩
  simp [startD, e_diL, dLc, wipeD]
  refine i_pieces_of2 hX hS ?_
  have hle := pieces_len hS
  simp [PySem.sizeLine_eq]
  refine ⟨by omega, lc_ok (pieces S) encR (fun r => decide (n ≤ (r.2.2.length : Int))) (fun r => encP (r.1, r.2.1)) rfl (fun x hx K1 K0 h => ?_) ?_⟩
  · by_cases a1 : n ≤ (x.2.2.length : Int) <;> simp_all [encR, encP, PySem.sizeLine_eq]
  · have e : ((pieces S).filter fun r => decide (n ≤ (r.2.2.length : Int))).map (fun r => encP (r.1, r.2.1)) = (((pieces S).filter fun r => decide (n ≤ (r.2.2.length : Int))).map fun r => (r.1, r.2.1)).map encP := by rw [List.map_map]; rfl
    rw [e]
    refine i_joined (by have := List.length_filter_le (fun r : Piece => decide (n ≤ (r.2.2.length : Int))) (pieces S); simp; omega) ?_
    exact ⟨m, MLe.refl m, q⟩
/-! agreed -/
abbrev N_agreed : List Str := ["sources", "many"]
theorem sc_agreed : FnScope N_agreed ["sources", "many"] (defScope (top 24)) := ⟨rfl, rfl, rfl, by decide +kernel, rfl, by decide +kernel, by decide +kernel⟩
theorem ok_agreed {f : Addr} {fd : FuncData} (T : Txt mg) (F : Fun K "agreed" "agreed" (top 24) f fd) (hm : mg "agreed" = some (.ref f)) (d_is_between : Def P w K mg base 2 "is_between" (top 8) ["value", "least", "most"] sp_is_between) (d_check_sources : Def P w K mg base 4 "check_sources" (top 17) ["sources"] sp_check_sources) (d_told_agreed : Def P w K mg base 3 "told_agreed" (top 23) ["sources", "many"] sp_told_agreed) : Def P w K mg base 5 "agreed" (top 24) ["sources", "many"] sp_agreed := by
  refine def_ok F hm sc_agreed (by rintro ds m Q ⟨S, n, rfl, _⟩; rfl) (fun f cdv A outer s H E c => (db_cons (ds_expr (dx_call d_check_sources c (by decide) (da_cons (dx_var 0) da_nil) (fun _ _ _ _ _ _ us hl => match us, hl with | [_], _ => rfl))) (db_cons (ds_if (dt_not (dt_val (dx_call d_is_between c (by decide) (da_cons (dx_var 1) (da_cons dx_int (da_cons (dx_bi cb_len T.n_len bt_len (da_cons (dx_var 0) da_nil)) da_nil))) (fun _ _ _ _ _ _ us hl => match us, hl with | [_, _, _], _ => rfl)))) (db_cons ds_never db_nil) db_nil) (db_cons (ds_ret (dx_call d_told_agreed c (by decide) (da_cons (dx_var 0) (da_cons (dx_var 1) da_nil)) (fun _ _ _ _ _ _ us hl => match us, hl with | [_, _], _ => rfl))) db_nil)))) ?_
  rintro ds m Q ⟨S, n, rfl, hS, ⟨h1, h2⟩, q⟩
  simp [startD]
  refine i_check_sources hS ?_
  simp [encS]
  refine i_is_between (by omega) (by omega) ?_
  simp
  exact i_told_agreed hS ⟨m, MLe.refl m, q⟩
/-! most_agreed -/
abbrev N_most_agreed : List Str := ["sources", "least", "most", "some"]
theorem sc_most_agreed : FnScope N_most_agreed ["sources"] (defScope (top 25)) := ⟨rfl, rfl, rfl, by decide +kernel, rfl, by decide +kernel, by decide +kernel⟩
theorem ok_most_agreed {f : Addr} {fd : FuncData} (T : Txt mg) (F : Fun K "most_agreed" "most_agreed" (top 25) f fd) (hm : mg "most_agreed" = some (.ref f)) (d_pieces_of : Def P w K mg base 2 "pieces_of" (top 21) ["sources"] sp_pieces_of) : Def P w K mg base 3 "most_agreed" (top 25) ["sources"] sp_most_agreed := by
  refine def_ok F hm sc_most_agreed (by rintro ds m Q ⟨S, rfl, _⟩; rfl) (fun f cdv A outer s H E c => (db_cons (ds_ret (dx_bi (cb_max c) T.n_max bt_max (da_cons (dx_lc c (di_list (dx_call d_pieces_of c (by decide) (da_cons (dx_var 0) da_nil) (fun _ _ _ _ _ _ us hl => match us, hl with | [_], _ => rfl))) (blkOk_by (own := [("least", 1), ("most", 2), ("some", 3)]) (by first | decide +kernel | kernel_rfl)) (fun _ _ _ _ _ => (dg_tup (n := 3) (c.blk _ _ _ _ _) (dgs_cons (dg_name 1 (c.blk _ _ _ _ _)) (dgs_cons (dg_name 2 (c.blk _ _ _ _ _)) (dgs_cons (dg_name 3 (c.blk _ _ _ _ _)) dgs_nil))))) (fun _ _ _ _ _ => dts_nil) (fun _ _ _ _ _ => (dx_bi cb_len T.n_len bt_len (da_cons (dx_var 3) da_nil)))) da_nil))) db_nil)) ?_
  rintro ds m Q ⟨S, rfl, hS, q⟩
  simp [startD, e_diL, dLc, wipeD]
  refine i_pieces_of hS ?_
  have hle := pieces_len hS
  simp [PySem.sizeLine_eq]
  refine ⟨by omega, lc_ok (pieces S) encR (fun r => true) (fun r => .int (r.2.2.length : Nat)) rfl (fun x hx K1 K0 h => by simpa [encR] using h) ?_⟩
  rw [filter_tt, max_int]
  exact ⟨pieces_pos hS, m, MLe.refl m, q⟩
/-! best_agreed -/
abbrev N_best_agreed : List Str := ["sources", "number"]
theorem sc_best_agreed : FnScope N_best_agreed ["sources"] (defScope (top 26)) := ⟨rfl, rfl, rfl, by decide +kernel, rfl, by decide +kernel, by decide +kernel⟩
theorem ok_best_agreed {f : Addr} {fd : FuncData} (T : Txt mg) (F : Fun K "best_agreed" "best_agreed" (top 26) f fd) (hm : mg "best_agreed" = some (.ref f)) (d_check_sources : Def P w K mg base 4 "check_sources" (top 17) ["sources"] sp_check_sources) (d_told_agreed : Def P w K mg base 3 "told_agreed" (top 23) ["sources", "many"] sp_told_agreed) (d_most_agreed : Def P w K mg base 3 "most_agreed" (top 25) ["sources"] sp_most_agreed) : Def P w K mg base 5 "best_agreed" (top 26) ["sources"] sp_best_agreed := by
  refine def_ok F hm sc_best_agreed (by rintro ds m Q ⟨S, rfl, _⟩; rfl) (fun f cdv A outer s H E c => (db_cons (ds_expr (dx_call d_check_sources c (by decide) (da_cons (dx_var 0) da_nil) (fun _ _ _ _ _ _ us hl => match us, hl with | [_], _ => rfl))) (db_cons (ds_set 1 c (dx_call d_most_agreed c (by decide) (da_cons (dx_var 0) da_nil) (fun _ _ _ _ _ _ us hl => match us, hl with | [_], _ => rfl))) (db_cons (ds_ret (dx_tup (da_cons (dx_var 1) (da_cons (dx_call d_told_agreed c (by decide) (da_cons (dx_var 0) (da_cons (dx_var 1) da_nil)) (fun _ _ _ _ _ _ us hl => match us, hl with | [_, _], _ => rfl)) da_nil)))) db_nil)))) ?_
  rintro ds m Q ⟨S, rfl, hS, q⟩
  simp [startD, PySem.sizeLine_eq]
  refine i_check_sources hS ?_
  refine i_most_agreed hS ?_
  refine i_told_agreed hS ?_
  exact ⟨m, MLe.refl m, q⟩
/-! lots_right -/
abbrev N_lots_right : List Str := ["sources", "number", "least", "most", "some"]
theorem sc_lots_right : FnScope N_lots_right ["sources"] (defScope (top 27)) := ⟨rfl, rfl, rfl, by decide +kernel, rfl, by decide +kernel, by decide +kernel⟩
theorem ok_lots_right {f : Addr} {fd : FuncData} (T : Txt mg) (F : Fun K "lots_right" "lots_right" (top 27) f fd) (hm : mg "lots_right" = some (.ref f)) (d_check_sources : Def P w K mg base 4 "check_sources" (top 17) ["sources"] sp_check_sources) (d_pieces_of : Def P w K mg base 2 "pieces_of" (top 21) ["sources"] sp_pieces_of) (d_most_agreed : Def P w K mg base 3 "most_agreed" (top 25) ["sources"] sp_most_agreed) : Def P w K mg base 5 "lots_right" (top 27) ["sources"] sp_lots_right := by
  refine def_ok F hm sc_lots_right (by rintro ds m Q ⟨S, rfl, _⟩; rfl) (fun f cdv A outer s H E c => (db_cons (ds_expr (dx_call d_check_sources c (by decide) (da_cons (dx_var 0) da_nil) (fun _ _ _ _ _ _ us hl => match us, hl with | [_], _ => rfl))) (db_cons (ds_set 1 c (dx_call d_most_agreed c (by decide) (da_cons (dx_var 0) da_nil) (fun _ _ _ _ _ _ us hl => match us, hl with | [_], _ => rfl))) (db_cons (ds_ret (dx_ty cb_tuple T.n_tuple bt_tuple (da_cons (dx_sortSetT c (da_cons (dx_lc c (di_list (dx_call d_pieces_of c (by decide) (da_cons (dx_var 0) da_nil) (fun _ _ _ _ _ _ us hl => match us, hl with | [_], _ => rfl))) (blkOk_by (own := [("least", 2), ("most", 3), ("some", 4)]) (by first | decide +kernel | kernel_rfl)) (fun _ _ _ _ _ => (dg_tup (n := 3) (c.blk _ _ _ _ _) (dgs_cons (dg_name 2 (c.blk _ _ _ _ _)) (dgs_cons (dg_name 3 (c.blk _ _ _ _ _)) (dgs_cons (dg_name 4 (c.blk _ _ _ _ _)) dgs_nil))))) (fun _ _ _ _ _ => (dts_one (dt_cmp (ox_eq (c.blk _ _ _ _ _)) (dx_bi cb_len T.n_len bt_len (da_cons (dx_var 4) da_nil)) (dx_var 1)))) (fun _ _ _ _ _ => (dx_ty cb_tuple T.n_tuple bt_tuple (da_cons (dx_var 4) da_nil)))) da_nil) T.n_sorted bt_sorted T.n_set bt_set) da_nil))) db_nil)))) ?_
  rintro ds m Q ⟨S, rfl, hS, q⟩
  have hle := pieces_len hS
  simp [startD, e_diL, dLc, wipeD, PySem.sizeLine_eq]
  refine i_check_sources hS ?_
  refine i_most_agreed hS ?_
  simp [e_sortSetT, e_diL, dLc, wipeD]
  refine i_pieces_of hS ?_
  simp [PySem.sizeLine_eq]
  refine ⟨by omega, lc_ok (pieces S) encR (fun r => decide ((r.2.2.length : Int) = mostA S)) (fun r => tupI r.2.2) rfl (fun x hx K1 K0 h => ?_) ?_⟩
  · by_cases a1 : (x.2.2.length : Int) = mostA S <;> simp_all [encR, tupI, PySem.sizeLine_eq]
  · have e : ((pieces S).filter fun r => decide ((r.2.2.length : Int) = mostA S)).map (fun r => tupI r.2.2) = (((pieces S).filter fun r => decide ((r.2.2.length : Int) = mostA S)).map fun r => r.2.2).map tupI := by rw [List.map_map]; rfl
    rw [e]
    have hfl := List.length_filter_le (fun r : Piece => decide ((r.2.2.length : Int) = mostA S)) (pieces S)
    refine ⟨_, tupIs?_map _, ⟨by simp; omega, (mostA S).toNat, mostA_toNat hS, fun k hk => ?_⟩, ?_⟩
    · obtain ⟨r, hr, rfl⟩ := List.mem_map.mp hk
      obtain ⟨h1, h2⟩ := List.mem_filter.mp hr
      have h2 : (r.2.2.length : Int) = mostA S := by simpa using h2
      refine ⟨by omega, fun x hx => ?_⟩
      obtain ⟨n, en⟩ := piece_have h1
      rw [en] at hx
      have := hav_bd hx
      have := hS.2.1
      omega
    · exact ⟨m, MLe.refl m, q⟩
/-! told_could -/
abbrev N_told_could : List Str := ["sources", "wrong", "fewest"]
theorem sc_told_could : FnScope N_told_could ["sources", "wrong"] (defScope (top 28)) := ⟨rfl, rfl, rfl, by decide +kernel, rfl, by decide +kernel, by decide +kernel⟩
theorem ok_told_could {f : Addr} {fd : FuncData} (T : Txt mg) (F : Fun K "told_could" "told_could" (top 28) f fd) (hm : mg "told_could" = some (.ref f)) (d_told_agreed : Def P w K mg base 3 "told_agreed" (top 23) ["sources", "many"] sp_told_agreed) (d_most_agreed : Def P w K mg base 3 "most_agreed" (top 25) ["sources"] sp_most_agreed) : Def P w K mg base 4 "told_could" (top 28) ["sources", "wrong"] sp_told_could := by
  refine def_ok F hm sc_told_could (by rintro ds m Q ⟨S, wr, rfl, _⟩; rfl) (fun f cdv A outer s H E c => (db_cons (ds_set 2 c (dx_op ox_sub (dx_bi cb_len T.n_len bt_len (da_cons (dx_var 0) da_nil)) (dx_call d_most_agreed c (by decide) (da_cons (dx_var 0) da_nil) (fun _ _ _ _ _ _ us hl => match us, hl with | [_], _ => rfl)))) (db_cons (ds_ret (dx_if (dt_cmp ox_gt (dx_var 2) (dx_var 1)) (dx_tup (da_cons (dx_globS T.c_MORE.choose_spec) (da_cons (dx_var 2) da_nil))) (dx_tup (da_cons (dx_globS T.c_SPANS.choose_spec) (da_cons (dx_call d_told_agreed c (by decide) (da_cons (dx_var 0) (da_cons (dx_op ox_sub (dx_bi cb_len T.n_len bt_len (da_cons (dx_var 0) da_nil)) (dx_var 1)) da_nil)) (fun _ _ _ _ _ _ us hl => match us, hl with | [_, _], _ => rfl)) da_nil))))) db_nil))) ?_
  rintro ds m Q ⟨S, wr, rfl, hS, ⟨h1, h2⟩, q⟩
  simp [startD, encS, PySem.sizeLine_eq]
  refine i_most_agreed hS ?_
  unfold could at q
  by_cases hm : more S wr
  · rw [if_pos hm] at q
    unfold more at hm
    simp [hm]
    exact .inr ⟨m, MLe.refl m, q⟩
  · rw [if_neg hm] at q
    unfold more at hm
    simp [hm]
    refine ⟨by omega, ?_⟩
    refine i_told_agreed hS ?_
    exact ⟨m, MLe.refl m, q⟩
/-! truth_spans -/
abbrev N_truth_spans : List Str := ["sources", "wrong"]
theorem sc_truth_spans : FnScope N_truth_spans ["sources", "wrong"] (defScope (top 29)) := ⟨rfl, rfl, rfl, by decide +kernel, rfl, by decide +kernel, by decide +kernel⟩
theorem ok_truth_spans {f : Addr} {fd : FuncData} (T : Txt mg) (F : Fun K "truth_spans" "truth_spans" (top 29) f fd) (hm : mg "truth_spans" = some (.ref f)) (d_check_wrong : Def P w K mg base 5 "check_wrong" (top 18) ["sources", "wrong"] sp_check_wrong) (d_told_could : Def P w K mg base 4 "told_could" (top 28) ["sources", "wrong"] sp_told_could) : Def P w K mg base 6 "truth_spans" (top 29) ["sources", "wrong"] sp_truth_spans := by
  refine def_ok F hm sc_truth_spans (by rintro ds m Q ⟨S, wr, rfl, _⟩; rfl) (fun f cdv A outer s H E c => (db_cons (ds_expr (dx_call d_check_wrong c (by decide) (da_cons (dx_var 0) (da_cons (dx_var 1) da_nil)) (fun _ _ _ _ _ _ us hl => match us, hl with | [_, _], _ => rfl))) (db_cons (ds_ret (dx_call d_told_could c (by decide) (da_cons (dx_var 0) (da_cons (dx_var 1) da_nil)) (fun _ _ _ _ _ _ us hl => match us, hl with | [_, _], _ => rfl))) db_nil))) ?_
  rintro ds m Q ⟨S, wr, rfl, hS, h2, q⟩
  simp [startD]
  refine i_check_wrong hS h2 ?_
  exact i_told_could hS h2 ⟨m, MLe.refl m, q⟩
/-! spans_if -/
abbrev N_spans_if : List Str := ["sources", "wrong", "word", "told"]
theorem sc_spans_if : FnScope N_spans_if ["sources", "wrong"] (defScope (top 30)) := ⟨rfl, rfl, rfl, by decide +kernel, rfl, by decide +kernel, by decide +kernel⟩
theorem ok_spans_if {f : Addr} {fd : FuncData} (T : Txt mg) (F : Fun K "spans_if" "spans_if" (top 30) f fd) (hm : mg "spans_if" = some (.ref f)) (d_check_wrong : Def P w K mg base 5 "check_wrong" (top 18) ["sources", "wrong"] sp_check_wrong) (d_told_could : Def P w K mg base 4 "told_could" (top 28) ["sources", "wrong"] sp_told_could) : Def P w K mg base 6 "spans_if" (top 30) ["sources", "wrong"] sp_spans_if := by
  refine def_ok F hm sc_spans_if (by rintro ds m Q ⟨S, wr, rfl, _⟩; rfl) (fun f cdv A outer s H E c => (db_cons (ds_expr (dx_call d_check_wrong c (by decide) (da_cons (dx_var 0) (da_cons (dx_var 1) da_nil)) (fun _ _ _ _ _ _ us hl => match us, hl with | [_, _], _ => rfl))) (db_cons (ds_asg (dx_call d_told_could c (by decide) (da_cons (dx_var 0) (da_cons (dx_var 1) da_nil)) (fun _ _ _ _ _ _ us hl => match us, hl with | [_, _], _ => rfl)) (dg_tup (n := 2) c (dgs_cons (dg_name 2 c) (dgs_cons (dg_name 3 c) dgs_nil)))) (db_cons (ds_if (dt_cmp (ox_eq c) (dx_var 2) (dx_globS T.c_MORE.choose_spec)) (db_cons ds_never db_nil) db_nil) (db_cons (ds_ret (dx_var 3)) db_nil))))) ?_
  rintro ds m Q ⟨S, wr, rfl, hS, h2, h3, q⟩
  simp [startD]
  refine i_check_wrong hS h2 ?_
  refine i_told_could hS h2 ?_
  unfold could
  rw [if_neg h3]
  simp [okD_spans, okD_more, eqD_str]
  exact ⟨by decide +kernel, m, MLe.refl m, q⟩
/-! surely_right -/
abbrev N_surely_right : List Str := ["sources", "wrong", "spans", "least", "most", "at", "low", "high"]
theorem sc_surely_right : FnScope N_surely_right ["sources", "wrong"] (defScope (top 31)) := ⟨rfl, rfl, rfl, by decide +kernel, rfl, by decide +kernel, by decide +kernel⟩
theorem ok_surely_right {f : Addr} {fd : FuncData} (T : Txt mg) (F : Fun K "surely_right" "surely_right" (top 31) f fd) (hm : mg "surely_right" = some (.ref f)) (d_spans_if : Def P w K mg base 6 "spans_if" (top 30) ["sources", "wrong"] sp_spans_if) : Def P w K mg base 7 "surely_right" (top 31) ["sources", "wrong"] sp_surely_right := by
  refine def_ok F hm sc_surely_right (by rintro ds m Q ⟨S, wr, rfl, _⟩; rfl) (fun f cdv A outer s H E c => (db_cons (ds_set 2 c (dx_call d_spans_if c (by decide) (da_cons (dx_var 0) (da_cons (dx_var 1) da_nil)) (fun _ _ _ _ _ _ us hl => match us, hl with | [_, _], _ => rfl))) (db_cons (ds_asg (dx_tup (da_cons (dx_ix (dx_ix (dx_var 2) dx_int) dx_int) (da_cons (dx_ix (dx_ix (dx_var 2) (dx_neg dx_int)) dx_int) da_nil))) (dg_tup (n := 2) c (dgs_cons (dg_name 3 c) (dgs_cons (dg_name 4 c) dgs_nil)))) (db_cons (ds_ret (dx_ty cb_tuple T.n_tuple bt_tuple (da_cons (dx_lc c (di_enT (da_cons (dx_var 0) da_nil) T.n_enumerate) (blkOk_by (own := [("at", 5), ("low", 6), ("high", 7)]) (by first | decide +kernel | kernel_rfl)) (fun _ _ _ _ _ => (dg_tup (n := 2) (c.blk _ _ _ _ _) (dgs_cons (dg_name 5 (c.blk _ _ _ _ _)) (dgs_cons (dg_tup (n := 2) (c.blk _ _ _ _ _) (dgs_cons (dg_name 6 (c.blk _ _ _ _ _)) (dgs_cons (dg_name 7 (c.blk _ _ _ _ _)) dgs_nil))) dgs_nil)))) (fun _ _ _ _ _ => (dts_one (dt_w (dw_and (dt_cmp ox_le (dx_var 6) (dx_var 3)) (dw_and1 (dt_cmp ox_le (dx_var 4) (dx_var 7))))))) (fun _ _ _ _ _ => (dx_var 5))) da_nil))) db_nil)))) ?_
  rintro ds m Q ⟨S, wr, rfl, hS, h2, ⟨h3, h4⟩, q⟩
  have hlS := hS.2.1
  simp [startD, encS, e_diEnT, dLc, wipeD, PySem.sizeLine_eq]
  refine i_spans_if hS h2 h3 ?_
  generalize told S (S.length - wr) = R at *
  obtain ⟨a, ha⟩ : ∃ a, R.head? = some a := by cases R with | nil => exact absurd rfl h4 | cons a R => exact ⟨a, rfl⟩
  obtain ⟨z, hz⟩ : ∃ z, R.getLast? = some z := by
    cases hg : R.getLast? with
    | none => exact absurd (List.getLast?_eq_none_iff.mp hg) h4
    | some z => exact ⟨z, rfl⟩
  have e1 := at_head encP R a ha
  have e2 := atI_last encP R z hz
  have e3 : atI [D.int a.1, D.int a.2] 0 = some (.int a.1) := rfl
  have e4 : atI [D.int z.1, D.int z.2] 1 = some (.int z.2) := rfl
  simp [e1, e2, encP, e3, e4]
  refine ⟨by simp [enumD]; omega, lc_ok S.zipIdx (fun p => .tup [.int (p.2:Nat), encP p.1]) (fun p => decide (p.1.1 ≤ loOf R) && decide (hiOf R ≤ p.1.2)) (fun p => .int (p.2:Nat)) (enumD_map encP S) (fun x hx K1 K0 h => ?_) ?_⟩
  · simp only [loOf, hiOf, ha, hz] at h
    by_cases a1 : x.1.1 ≤ a.1 <;> by_cases a2 : z.2 ≤ x.1.2 <;> simp_all [encP]
  · rw [rightS, List.map_map] at q
    exact ⟨m, MLe.refl m, q⟩
/-! hull -/
abbrev N_hull : List Str := ["sources", "wrong", "spans"]
theorem sc_hull : FnScope N_hull ["sources", "wrong"] (defScope (top 36)) := ⟨rfl, rfl, rfl, by decide +kernel, rfl, by decide +kernel, by decide +kernel⟩
theorem ok_hull {f : Addr} {fd : FuncData} (T : Txt mg) (F : Fun K "hull" "hull" (top 36) f fd) (hm : mg "hull" = some (.ref f)) (d_spans_if : Def P w K mg base 6 "spans_if" (top 30) ["sources", "wrong"] sp_spans_if) : Def P w K mg base 7 "hull" (top 36) ["sources", "wrong"] sp_hull := by
  refine def_ok F hm sc_hull (by rintro ds m Q ⟨S, wr, rfl, _⟩; rfl) (fun f cdv A outer s H E c => (db_cons (ds_set 2 c (dx_call d_spans_if c (by decide) (da_cons (dx_var 0) (da_cons (dx_var 1) da_nil)) (fun _ _ _ _ _ _ us hl => match us, hl with | [_, _], _ => rfl))) (db_cons (ds_ret (dx_tup (da_cons (dx_ix (dx_ix (dx_var 2) dx_int) dx_int) (da_cons (dx_ix (dx_ix (dx_var 2) (dx_neg dx_int)) dx_int) da_nil)))) db_nil))) ?_
  rintro ds m Q ⟨S, wr, rfl, hS, h2, ⟨h3, h4⟩, q⟩
  simp [startD, PySem.sizeLine_eq]
  refine i_spans_if hS h2 h3 ?_
  generalize told S (S.length - wr) = R at *
  obtain ⟨a, ha⟩ : ∃ a, R.head? = some a := by cases R with | nil => exact absurd rfl h4 | cons a R => exact ⟨a, rfl⟩
  obtain ⟨z, hz⟩ : ∃ z, R.getLast? = some z := by
    cases hg : R.getLast? with
    | none => exact absurd (List.getLast?_eq_none_iff.mp hg) h4
    | some z => exact ⟨z, rfl⟩
  have e1 := at_head encP R a ha
  have e2 := atI_last encP R z hz
  have e3 : atI [D.int a.1, D.int a.2] 0 = some (.int a.1) := rfl
  have e4 : atI [D.int z.1, D.int z.2] 1 = some (.int z.2) := rfl
  simp [e1, e2, encP, e3, e4]
  simp only [loOf, hiOf, ha, hz] at q
  exact ⟨m, MLe.refl m, q⟩
end
end PG

namespace PG
open PySem PySem.Spec L2 PF
section
variable {P : Program} {w : World} {K : PySem.W.Frag} {mg : Str → Option Value} {base : Heap}
/-! surely_wrong -/
abbrev N_surely_wrong : List Str := ["sources", "wrong", "spans", "found", "at", "low", "high", "least", "most"]
theorem sc_surely_wrong : FnScope N_surely_wrong ["sources", "wrong"] (defScope (top 32)) := ⟨rfl, rfl, rfl, by decide +kernel, rfl, by decide +kernel, by decide +kernel⟩
theorem ok_surely_wrong {f : Addr} {fd : FuncData} (T : Txt mg) (F : Fun K "surely_wrong" "surely_wrong" (top 32) f fd) (hm : mg "surely_wrong" = some (.ref f)) (d_spans_if : Def P w K mg base 6 "spans_if" (top 30) ["sources", "wrong"] sp_spans_if) : Def P w K mg base 7 "surely_wrong" (top 32) ["sources", "wrong"] sp_surely_wrong := by
  refine def_ok F hm sc_surely_wrong (by rintro ds m Q ⟨S, wr, rfl, _⟩; rfl) (fun f cdv A outer s H E c => (db_cons (ds_par (i := 2) (j := 3) c (da_cons (dx_call d_spans_if c (by decide) (da_cons (dx_var 0) (da_cons (dx_var 1) da_nil)) (fun _ _ _ _ _ _ us hl => match us, hl with | [_, _], _ => rfl)) (da_cons (dx_lstC da_nil) da_nil)) rfl rfl (by decide) (by rfl) (by rfl) (by rfl)) (db_cons (ds_for c PassesOwn.never (di_enT (da_cons (dx_var 0) da_nil) T.n_enumerate) (dg_tup (n := 2) c (dgs_cons (dg_name 4 c) (dgs_cons (dg_tup (n := 2) c (dgs_cons (dg_name 5 c) (dgs_cons (dg_name 6 c) dgs_nil))) dgs_nil))) (db_cons (ds_if (dt_not (dt_val (dx_bi (cb_any c) T.n_any bt_any (da_cons (dx_lc c (di_tup (dx_var 2)) (blkOk_by (own := [("least", 7), ("most", 8)]) (by first | decide +kernel | kernel_rfl)) (fun _ _ _ _ _ => (dg_tup (n := 2) (c.blk _ _ _ _ _) (dgs_cons (dg_name 7 (c.blk _ _ _ _ _)) (dgs_cons (dg_name 8 (c.blk _ _ _ _ _)) dgs_nil)))) (fun _ _ _ _ _ => dts_nil) (fun _ _ _ _ _ => (dx_and (dx_cmp ox_le (dx_var 7) (dx_var 6)) (dx_one (dx_cmp ox_le (dx_var 5) (dx_var 8)))))) da_nil)))) (db_cons (ds_expr (dx_app (dx_var 3) (da_cons (dx_var 4) da_nil))) db_nil) db_nil) db_nil)) (db_cons (ds_ret (dx_ty cb_tuple T.n_tuple bt_tuple (da_cons (dx_var 3) da_nil))) db_nil)))) ?_
  rintro ds m Q ⟨S, wr, rfl, hS, h2, ⟨h3, h4⟩, q⟩
  have hlS := hS.2.1
  simp [startD, PySem.sizeLine_eq]
  refine i_spans_if hS h2 h3 ?_
  have hT := told_len hS (S.length - wr)
  generalize told S (S.length - wr) = R at *
  simp [encS, dFor, e_diEnT]
  intro p hp
  refine for_ok S.zipIdx (fun p => .tup [.int (p.2:Nat), encP p.1]) (fun pre ρ m' => ∃ x y z, ρ = [some (.tup (S.map encP)), some (.int wr), some (.tup (R.map encP)), some (.cel p), x, y, z, none, none] ∧ m' = updM m p (.l ((pre.filter fun p => !(R.any fun q => decide (q.1 ≤ p.1.2) && decide (p.1.1 ≤ q.2))).map fun p => .int (p.2 : Nat)))) (enumD_map encP S) ⟨none, none, none, rfl, rfl⟩ ?_ ?_
  · rintro pre x post ρ m1 hx ⟨a, b, c, rfl, rfl⟩ N hN
    have hpre : pre.length ≤ S.length := by
      have := congrArg List.length hx
      simp at this; omega
    simp [encP, e_diT, dLc, wipeD, PySem.sizeLine_eq]
    refine ⟨by omega, lc_ok R encP (fun _ => true) (fun q => .bl (decide (q.1 ≤ x.1.2) && decide (x.1.1 ≤ q.2))) rfl (fun y hy K1 K0 h => ?_) ?_⟩
    · clear hN
      simp [encP] at h ⊢
      by_cases a1 : y.1 ≤ x.1.2
      · have b1 : ¬ x.1.2 < y.1 := by omega
        simpa [a1, b1] using h
      · have b1 : x.1.2 < y.1 := by omega
        simpa [a1, b1] using h
    · rw [filter_tt, any_bl]
      have hfl := List.length_filter_le (fun p : (Int × Int) × Nat => !(R.any fun q => decide (q.1 ≤ p.1.2) && decide (p.1.1 ≤ q.2))) pre
      by_cases hc : (R.any fun q => decide (q.1 ≤ x.1.2) && decide (x.1.1 ≤ q.2)) = true
      · simp [hc]
        refine hN _ _ ⟨_, _, _, rfl, ?_⟩
        rw [List.filter_append, List.filter_cons_of_neg (by simpa using hc)]
        simp
      · simp [hc, e_tyC updM_same, e_app updM_same, PySem.sizeLine_eq]
        refine ⟨by omega, hN _ _ ⟨_, _, _, rfl, ?_⟩⟩
        rw [updM_updM, List.filter_append, List.filter_cons_of_pos (by simpa using hc)]
        simp
  · rintro ρ m1 ⟨a, b, c, rfl, rfl⟩
    simp
    rw [s_tupleC updM_same]
    rw [wrongS, List.map_map] at q
    exact ⟨m, MLe.new (MLe.refl m) hp, q⟩
/-! weighed -/
abbrev N_weighed : List Str := ["sources", "weights", "enough", "rows", "weight", "least", "most", "some", "at"]
theorem sc_weighed : FnScope N_weighed ["sources", "weights", "enough"] (defScope (top 33)) := ⟨rfl, rfl, rfl, by decide +kernel, rfl, by decide +kernel, by decide +kernel⟩
theorem ok_weighed {f : Addr} {fd : FuncData} (T : Txt mg) (F : Fun K "weighed" "weighed" (top 33) f fd) (hm : mg "weighed" = some (.ref f)) (d_is_between : Def P w K mg base 2 "is_between" (top 8) ["value", "least", "most"] sp_is_between) (d_check_sources : Def P w K mg base 4 "check_sources" (top 17) ["sources"] sp_check_sources) (d_pieces_of : Def P w K mg base 2 "pieces_of" (top 21) ["sources"] sp_pieces_of) (d_joined : Def P w K mg base 1 "joined" (top 22) ["rows"] sp_joined) : Def P w K mg base 5 "weighed" (top 33) ["sources", "weights", "enough"] sp_weighed := by
  refine def_ok F hm sc_weighed (by rintro ds m Q ⟨S, W, e, rfl, _⟩; rfl) (fun f cdv A outer s H E c => (db_cons (ds_expr (dx_call d_check_sources c (by decide) (da_cons (dx_var 0) da_nil) (fun _ _ _ _ _ _ us hl => match us, hl with | [_], _ => rfl))) (db_cons (ds_if (dt_w (dw_or (dt_not (dt_val (dx_isi (dx_var 1) T.n_isinstance bt_isinstance T.n_tuple bt_tuple cl_tuple))) (dw_or1 (dt_cmp (ox_ne c) (dx_bi cb_len T.n_len bt_len (da_cons (dx_var 1) da_nil)) (dx_bi cb_len T.n_len bt_len (da_cons (dx_var 0) da_nil)))))) (db_cons ds_never db_nil) db_nil) (db_cons (ds_if (dt_not (dt_val (dx_bi (cb_all c) T.n_all bt_all (da_cons (dx_lc c (di_tup (dx_var 1)) (blkOk_by (own := [("weight", 4)]) (by first | decide +kernel | kernel_rfl)) (fun _ _ _ _ _ => (dg_name 4 (c.blk _ _ _ _ _))) (fun _ _ _ _ _ => dts_nil) (fun _ _ _ _ _ => (dx_call d_is_between (c.blk _ _ _ _ _) (by decide) (da_cons (dx_var 4) (da_cons dx_int (da_cons (dx_globI T.c_MOST_WEIGHT.choose_spec) da_nil))) (fun _ _ _ _ _ _ us hl => match us, hl with | [_, _, _], _ => rfl)))) da_nil)))) (db_cons ds_never db_nil) db_nil) (db_cons (ds_if (dt_not (dt_val (dx_call d_is_between c (by decide) (da_cons (dx_var 2) (da_cons dx_int (da_cons (dx_op ox_mul (dx_globI T.c_MOST_SOURCES.choose_spec) (dx_globI T.c_MOST_WEIGHT.choose_spec)) da_nil))) (fun _ _ _ _ _ _ us hl => match us, hl with | [_, _, _], _ => rfl)))) (db_cons ds_never db_nil) db_nil) (db_cons (ds_set 3 c (dx_call d_pieces_of c (by decide) (da_cons (dx_var 0) da_nil) (fun _ _ _ _ _ _ us hl => match us, hl with | [_], _ => rfl))) (db_cons (ds_ret (dx_call d_joined c (by decide) (da_cons (dx_lc c (di_list (dx_var 3)) (blkOk_by (own := [("least", 5), ("most", 6), ("some", 7)]) (by first | decide +kernel | kernel_rfl)) (fun _ _ _ _ _ => (dg_tup (n := 3) (c.blk _ _ _ _ _) (dgs_cons (dg_name 5 (c.blk _ _ _ _ _)) (dgs_cons (dg_name 6 (c.blk _ _ _ _ _)) (dgs_cons (dg_name 7 (c.blk _ _ _ _ _)) dgs_nil))))) (fun _ _ _ _ _ => (dts_one (dt_cmp ox_ge (dx_bi (cb_sum (c.blk _ _ _ _ _)) T.n_sum bt_sum (da_cons (dx_lc (c.blk _ _ _ _ _) (di_list (dx_var 7)) (blkOk_by (own := [("at", 8)]) (by first | decide +kernel | kernel_rfl)) (fun _ _ _ _ _ => (dg_name 8 ((c.blk _ _ _ _ _).blk _ _ _ _ _))) (fun _ _ _ _ _ => dts_nil) (fun _ _ _ _ _ => (dx_ix (dx_var 1) (dx_var 8)))) da_nil)) (dx_var 2)))) (fun _ _ _ _ _ => (dx_tup (da_cons (dx_var 5) (da_cons (dx_var 6) da_nil))))) da_nil) (fun _ _ _ _ _ _ us hl => match us, hl with | [_], _ => rfl))) db_nil))))))) ?_
  rintro ds m Q ⟨S, W, e, rfl, hS, ⟨hW, h1, h2, h3⟩, q⟩
  have hlS := hS.2.1
  simp [startD, encS, PySem.sizeLine_eq]
  refine i_check_sources hS ?_
  simp [e_diT, dLc, wipeD, hW, PySem.sizeLine_eq]
  refine ⟨by omega, lc_ok W D.int (fun _ => true) (fun _ => .bl true) rfl (fun x hx K1 K0 h => ?_) ?_⟩
  · simp at h ⊢
    exact i_is_between (h1 x hx).1 (h1 x hx).2 h
  · rw [filter_tt, all_bl]
    simp
    refine ⟨.inl ⟨by decide, by decide⟩, ?_⟩
    refine i_is_between h2 (by omega) ?_
    simp
    refine i_pieces_of hS ?_
    have hle := pieces_len hS
    simp [e_diL, dLc, wipeD, PySem.sizeLine_eq]
    refine ⟨by omega, lc_ok (pieces S) encR (fun r => decide (e ≤ wsum W r.2.2)) (fun r => encP (r.1, r.2.1)) rfl (fun x hx K1 K0 h => ?_) ?_⟩
    · obtain ⟨n, en⟩ := piece_have hx
      have hl2 : x.2.2.length ≤ S.length := by rw [en]; exact hav_len S n
      simp [encR, dLc, wipeD, e_diL, PySem.sizeLine_eq]
      refine ⟨by omega, lc_ok x.2.2 D.int (fun _ => true) (fun i => .int (W.getD i.toNat 0)) rfl (fun y hy K1 K0 h => ?_) ?_⟩
      · rw [en] at hy
        have hb := hav_bd hy
        have ha : atI (W.map D.int) y = some (.int (W.getD y.toNat 0)) := atI_map D.int W y _ hb.1 (by
          rw [List.getD_eq_getElem?_getD]
          have : y.toNat < W.length := by omega
          simp [this])
        simp [ha] at h ⊢
        exact h
      · rw [filter_tt]
        show dcSum [_] m _
        rw [sum_int]
        simp
        unfold wsum at h
        by_cases a1 : e ≤ (x.2.2.map fun i => W.getD i.toNat 0).sum
        · rw [if_pos (decide_eq_true a1)] at h
          simp only [List.getD_eq_getElem?_getD] at a1
          exact .inr ⟨a1, h⟩
        · rw [if_neg (by simpa using a1)] at h
          simp only [List.getD_eq_getElem?_getD] at a1
          exact .inl ⟨by omega, h⟩
    · have e1 : ((pieces S).filter fun r => decide (e ≤ wsum W r.2.2)).map (fun r => encP (r.1, r.2.1)) = (((pieces S).filter fun r => decide (e ≤ wsum W r.2.2)).map fun r => (r.1, r.2.1)).map encP := by rw [List.map_map]; rfl
      rw [e1]
      refine i_joined (by have := List.length_filter_le (fun r : Piece => decide (e ≤ wsum W r.2.2)) (pieces S); simp; omega) ?_
      exact ⟨m, MLe.refl m, q⟩
/-! trimmed -/
abbrev N_trimmed : List Str := ["sources", "wrong", "lows", "highs", "low", "high"]
theorem sc_trimmed : FnScope N_trimmed ["sources", "wrong"] (defScope (top 35)) := ⟨rfl, rfl, rfl, by decide +kernel, rfl, by decide +kernel, by decide +kernel⟩
theorem ok_trimmed {f : Addr} {fd : FuncData} (T : Txt mg) (F : Fun K "trimmed" "trimmed" (top 35) f fd) (hm : mg "trimmed" = some (.ref f)) (d_check_wrong : Def P w K mg base 5 "check_wrong" (top 18) ["sources", "wrong"] sp_check_wrong) : Def P w K mg base 6 "trimmed" (top 35) ["sources", "wrong"] sp_trimmed := by
  refine def_ok F hm sc_trimmed (by rintro ds m Q ⟨S, wr, rfl, _⟩; rfl) (fun f cdv A outer s H E c => (db_cons (ds_expr (dx_call d_check_wrong c (by decide) (da_cons (dx_var 0) (da_cons (dx_var 1) da_nil)) (fun _ _ _ _ _ _ us hl => match us, hl with | [_, _], _ => rfl))) (db_cons (ds_par (i := 2) (j := 3) c (da_cons (dx_bi cb_sorted T.n_sorted bt_sorted (da_cons (dx_lc c (di_tup (dx_var 0)) (blkOk_by (own := [("low", 4), ("high", 5)]) (by first | decide +kernel | kernel_rfl)) (fun _ _ _ _ _ => (dg_tup (n := 2) (c.blk _ _ _ _ _) (dgs_cons (dg_name 4 (c.blk _ _ _ _ _)) (dgs_cons (dg_name 5 (c.blk _ _ _ _ _)) dgs_nil)))) (fun _ _ _ _ _ => dts_nil) (fun _ _ _ _ _ => (dx_var 4))) da_nil)) (da_cons (dx_bi cb_sorted T.n_sorted bt_sorted (da_cons (dx_lc c (di_tup (dx_var 0)) (blkOk_by (own := [("low", 4), ("high", 5)]) (by first | decide +kernel | kernel_rfl)) (fun _ _ _ _ _ => (dg_tup (n := 2) (c.blk _ _ _ _ _) (dgs_cons (dg_name 4 (c.blk _ _ _ _ _)) (dgs_cons (dg_name 5 (c.blk _ _ _ _ _)) dgs_nil)))) (fun _ _ _ _ _ => dts_nil) (fun _ _ _ _ _ => (dx_var 5))) da_nil)) da_nil)) rfl rfl (by decide) (by rfl) (by rfl) (by rfl)) (db_cons (ds_ret (dx_tup (da_cons (dx_ix (dx_var 2) (dx_op ox_sub (dx_op ox_sub (dx_bi cb_len T.n_len bt_len (da_cons (dx_var 2) da_nil)) dx_int) (dx_var 1))) (da_cons (dx_ix (dx_var 3) (dx_var 1)) da_nil)))) db_nil)))) ?_
  rintro ds m Q ⟨S, wr, rfl, hS, h2, q⟩
  have hlS := hS.2.1
  simp [startD, PySem.sizeLine_eq]
  refine i_check_wrong hS h2 ?_
  simp [e_diT, dLc, wipeD, encS, PySem.sizeLine_eq]
  refine ⟨by omega, lc_ok S encP (fun _ => true) (fun p => .int p.1) rfl (fun x hx K1 K0 h => by simpa [encP] using h) ?_⟩
  rw [filter_tt, sorted_int]
  refine ⟨by omega, lc_ok S encP (fun _ => true) (fun p => .int p.2) rfl (fun x hx K1 K0 h => by simpa [encP] using h) ?_⟩
  rw [filter_tt, sorted_int]
  have l1 : (sortI (S.map fun p => p.1)).length = S.length := by rw [(sortI_perm _).length_eq, List.length_map]
  have l2 : (sortI (S.map fun p => p.2)).length = S.length := by rw [(sortI_perm _).length_eq, List.length_map]
  have a1 : atI ((sortI (S.map fun p => p.1)).map D.int) (S.length - 1 - wr) = some (.int (trim S wr).1) := atI_map D.int _ _ _ (by omega) (by
    unfold trim
    rw [List.getD_eq_getElem?_getD]
    have : ((S.length : Int) - 1 - wr).toNat < (sortI (S.map fun p => p.1)).length := by omega
    simp [this])
  have a2 : atI ((sortI (S.map fun p => p.2)).map D.int) wr = some (.int (trim S wr).2) := atI_map D.int _ _ _ (by omega) (by
    unfold trim
    rw [List.getD_eq_getElem?_getD]
    have : wr.toNat < (sortI (S.map fun p => p.2)).length := by omega
    simp [this])
  simp [l1, a1, a2]
  exact ⟨m, MLe.refl m, q⟩
end
end PG

namespace PG
open PySem PySem.Spec L2 PF

/-! ### the pot of draws -/
def potC (k : Nat) (c : Cell) : Prop := ∃ own mix n : Int, c = .l [.int own, .int mix, .int n] ∧ 0 ≤ own ∧ (0 ≤ mix ∧ mix < 2305843009213693952) ∧ (0 ≤ n ∧ n ≤ k)
def potAt (m : Mem) (p : Addr) (k : Nat) : Prop := ∃ c, m p = some c ∧ potC k c
theorem potC.mono {k k' : Nat} {c : Cell} (h : potC k c) (hk : k ≤ k') : potC k' c := by
  obtain ⟨a, b, n, h1, h2, h3, h4, h5⟩ := h
  exact ⟨a, b, n, h1, h2, h3, h4, by omega⟩
theorem potAt.mono {k k' : Nat} {m : Mem} {p : Addr} (h : potAt m p k) (hk : k ≤ k') : potAt m p k' := let ⟨c, h1, h2⟩ := h; ⟨c, h1, h2.mono hk⟩
theorem potAt_upd {m : Mem} {p : Addr} {k : Nat} {c : Cell} (h : potC k c) : potAt (updM m p c) p k := ⟨c, updM_same, h⟩
def sp__law_take : DSp := fun ds m Q => ∃ (p : Addr) (u : Int) (k : Nat), ds = [.cel p, .int u] ∧ (1 ≤ u ∧ u ≤ 1000) ∧ k ≤ 1000 ∧ potAt m p k ∧ ∀ d c, (0 ≤ d ∧ d < u) → potC (k + 1) c → Q (.int d) (updM m p c)
def sp__law_of : DSp := fun ds m Q => ∃ (p : Addr) (l : List D) (k : Nat), ds = [.cel p, .lst l] ∧ (1 ≤ l.length ∧ l.length ≤ 1000) ∧ k ≤ 1000 ∧ potAt m p k ∧ ∀ d c, d ∈ l → potC (k + 1) c → Q d (updM m p c)
def sp__law_pot : DSp := fun ds m Q => ∃ (ns : List Int) (i s : Int), ds = [.frl (ns.map D.int), .int i, .int s] ∧ (0 ≤ i ∧ i ≤ 10) ∧ (0 ≤ s ∧ s ≤ 1000) ∧ ∀ p c, m p = none → potC 0 c → Q (.cel p) (updM m p c)
def sp__law_cells : DSp := fun ds m Q => ∃ (ns : List Int) (i : Int), ds = [.frl (ns.map D.int), .int i] ∧ (1 ≤ i ∧ i ≤ 10) ∧ ∀ n : Nat, n ≤ i → Q (.lst (rngD 0 n)) m
def sp__law_same : DSp := fun ds m Q => ∃ (a : D) (k n : Nat), ds = [a, a] ∧ shw k n a ∧ k ≤ 16777216 ∧ n ≤ 60 ∧ Q (.bl true) m
def okT7 (S : Src) : Prop := ∀ q ∈ S, -20 ≤ q.1 ∧ q.1 ≤ q.2 ∧ q.2 ≤ 38
def sp__law_sources : DSp := fun ds m Q => ∃ (p : Addr) (many : Int) (k : Nat), ds = [.cel p, .int many, .int 20] ∧ (1 ≤ many ∧ many ≤ 7) ∧ k ≤ 900 ∧ potAt m p k ∧ ∀ S c, (1 ≤ S.length ∧ (S.length : Int) ≤ many ∧ okT7 S) → potC (k + 50) c → Q (encS S) (updM m p c)
def dup (n : Int) : Int × Int := (n, n)
def spansOf (ns : List Int) : Src := joinR ((sortI ns).map dup)
def sp__law_spans_of : DSp := fun ds m Q => ∃ (ns : List Int), ds = [.lst (ns.map D.int)] ∧ ns.length ≤ 1000 ∧ Q (.tup ((spansOf ns).map encP)) m

/-! ### counting by numbers -/
abbrev Item := Int × (Int × Int)
def cov (n : Int) (t : Item) : Bool := decide (t.2.1 ≤ n) && decide (n ≤ t.2.2)
def val (T : List Item) (n : Int) : Int := ((T.filter (cov n)).map (·.1)).sum
def good (T : List Item) (ks : List Int) : Prop := ks.Nodup ∧ ∀ n, n ∈ ks ↔ ∃ t ∈ T, cov n t = true
def one (S : Src) : List Item := S.map fun p => (1, p)
def dicT (ks : List Int) (f : Int → Int) : D := .dic (ks.map Sum.inl) (ks.map fun n => .int (f n))
def celT (ks : List Int) (f : Int → Int) : Cell := .d (ks.map Sum.inl) (ks.map fun n => .int (f n))
def keyAdd (ks : List Int) (n : Int) : List Int := if n ∈ ks then ks else ks ++ [n]
def okR (S : Src) : Prop := S.length ≤ 20 ∧ ∀ q ∈ S, -1000 ≤ q.1 ∧ q.1 ≤ q.2 ∧ q.2 ≤ 1000
def sp__law_had_by : DSp := fun ds m Q => ∃ (S : Src), ds = [encS S] ∧ okR S ∧ ∀ ks, good (one S) ks → Q (dicT ks (val (one S))) m
def sp__law_agreedH : DSp := fun ds m Q => ∃ (ks : List Int) (f : Int → Int) (many : Int), ds = [dicT ks f, .int many] ∧ ks.Nodup ∧ ks.length ≤ 1000 ∧ Q (.tup ((spansOf (ks.filter fun n => decide (many ≤ f n))).map encP)) m
def restOf (S : Src) (i : Int) : Src := S.take i.toNat ++ S.drop (i + 1).toNat
def lawPull (S : Src) (wr : Int) (ks : List Int) (f : Int → Int) : D := if (S.length : Int) - wr ≤ 1 then .tup [.int (-99999), .int 99999]
  else if (ks.filter fun n => decide ((S.length : Int) - wr - 1 ≤ f n)) = [] then .non else .tup [.int (minI (ks.filter fun n => decide ((S.length : Int) - wr - 1 ≤ f n))), .int (maxI (ks.filter fun n => decide ((S.length : Int) - wr - 1 ≤ f n)))]
def sp__law_pulled : DSp := fun ds m Q => ∃ (S : Src) (wr i : Int), ds = [encS S, .int wr, .int i] ∧ okT7 S ∧ S.length ≤ 20 ∧ (0 ≤ i ∧ i < S.length) ∧ ∀ ks, good (one (restOf S i)) ks → Q (lawPull S wr ks (val (one (restOf S i)))) m

section
variable {m : Mem} {Q : D → Mem → Prop} {p : Addr} {u : Int} {k : Nat} {l : List D} {ns ks : List Int} {i s : Int} {S : Src} {f : Int → Int}
theorem i_take (k : Nat) (h1 : 1 ≤ u ∧ u ≤ 1000) (h2 : k ≤ 1000) (h3 : potAt m p k) (q : ∀ d c, (0 ≤ d ∧ d < u) → potC (k + 1) c → Q (.int d) (updM m p c)) : sp__law_take [.cel p, .int u] m Q := ⟨p, u, k, rfl, h1, h2, h3, q⟩
theorem i_of (k : Nat) (h1 : 1 ≤ l.length ∧ l.length ≤ 1000) (h2 : k ≤ 1000) (h3 : potAt m p k) (q : ∀ d c, d ∈ l → potC (k + 1) c → Q d (updM m p c)) : sp__law_of [.cel p, .lst l] m Q := ⟨p, l, k, rfl, h1, h2, h3, q⟩
theorem i_pot (h1 : 0 ≤ i ∧ i ≤ 10) (h2 : 0 ≤ s ∧ s ≤ 1000) (q : ∀ p c, m p = none → potC 0 c → Q (.cel p) (updM m p c)) : sp__law_pot [.frl (ns.map D.int), .int i, .int s] m Q := ⟨ns, i, s, rfl, h1, h2, q⟩
theorem i_cells (h1 : 1 ≤ i ∧ i ≤ 10) (q : ∀ n : Nat, n ≤ i → Q (.lst (rngD 0 n)) m) : sp__law_cells [.frl (ns.map D.int), .int i] m Q := ⟨ns, i, rfl, h1, q⟩
theorem i_same {a b : D} (e : a = b) {k n : Nat} (h : shw k n a) (hk : k ≤ 16777216) (hn : n ≤ 60) (q : Q (.bl true) m) : sp__law_same [a, b] m Q := by subst e; exact ⟨a, k, n, rfl, h, hk, hn, q⟩
theorem i_sources {many : Int} (k : Nat) (h1 : 1 ≤ many ∧ many ≤ 7) (h2 : k ≤ 900) (h3 : potAt m p k) (q : ∀ S c, (1 ≤ S.length ∧ (S.length : Int) ≤ many ∧ okT7 S) → potC (k + 50) c → Q (encS S) (updM m p c)) : sp__law_sources [.cel p, .int many, .int 20] m Q := ⟨p, many, k, rfl, h1, h2, h3, q⟩
theorem i_spans (h : ns.length ≤ 1000) (q : Q (.tup ((spansOf ns).map encP)) m) : sp__law_spans_of [.lst (ns.map D.int)] m Q := ⟨ns, rfl, h, q⟩
theorem i_had (h : okR S) (q : ∀ ks, good (one S) ks → Q (dicT ks (val (one S))) m) : sp__law_had_by [encS S] m Q := ⟨S, rfl, h, q⟩
theorem i_lawAg {many : Int} (h1 : ks.Nodup) (h2 : ks.length ≤ 1000) (q : Q (.tup ((spansOf (ks.filter fun n => decide (many ≤ f n))).map encP)) m) : sp__law_agreedH [dicT ks f, .int many] m Q := ⟨ks, f, many, rfl, h1, h2, q⟩
theorem i_lawPull {wr i : Int} (h1 : okT7 S) (h2 : S.length ≤ 20) (h3 : 0 ≤ i ∧ i < S.length) (q : ∀ ks, good (one (restOf S i)) ks → Q (lawPull S wr ks (val (one (restOf S i)))) m) : sp__law_pulled [encS S, .int wr, .int i] m Q := ⟨S, wr, i, rfl, h1, h2, h3, q⟩
end

/-! ### a dict of counts -/
theorem atK_map (ks : List Int) (f : Int → Int) (n : Int) : atK (ks.map Sum.inl) (ks.map fun n => .int (f n)) (.inl n) = if n ∈ ks then some (.int (f n)) else none := by
  unfold atK
  induction ks with
  | nil => simp
  | cons a ks ih =>
    simp only [List.map_cons, List.zip_cons_cons, List.find?_cons]
    by_cases e : a = n
    · subst e; simp
    · have : (Sum.inl a : Key) ≠ Sum.inl n := by simpa using e
      simp only [this, decide_false]
      rw [ih]
      have : n ≠ a := fun z => e z.symm
      simp [this]
theorem any_key (ks : List Int) (n : Int) : ((ks.map Sum.inl).any fun j : Key => decide (j = Sum.inl n)) = decide (n ∈ ks) := by
  rw [Bool.eq_iff_iff]; simp
theorem putKs_map (ks : List Int) (n : Int) : putKs (ks.map Sum.inl) (Sum.inl n) = (keyAdd ks n).map Sum.inl := by
  unfold putKs keyAdd
  rw [any_key]
  by_cases h : n ∈ ks <;> simp [h]
theorem putDs_map (ks : List Int) (f : Int → Int) (n v : Int) (g : Int → Int) (h : ∀ j, g j = if j = n then v else f j) : putDs (ks.map Sum.inl) (ks.map fun n => .int (f n)) (Sum.inl n) (.int v) = (keyAdd ks n).map fun n => .int (g n) := by
  unfold putDs keyAdd
  rw [any_key]
  by_cases hm : n ∈ ks
  · simp only [hm, decide_true, if_true]
    clear hm
    induction ks with
    | nil => rfl
    | cons a ks ih =>
      simp only [List.map_cons, List.zip_cons_cons, ih, h a]
      congr 1
      by_cases e : a = n
      · subst e; simp
      · have : (Sum.inl a : Key) ≠ Sum.inl n := by simpa using e
        simp [e, this]
  · simp only [hm, decide_false, if_neg (show ¬ (false = true) by decide), if_false]
    rw [List.map_append]
    congr 1
    · apply List.map_congr_left
      intro a ha
      rw [h a, if_neg (show ¬ a = n from fun e => hm (e ▸ ha))]
    · simp [h n]
theorem keyAdd_mem {ks : List Int} {n x : Int} : x ∈ keyAdd ks n ↔ x ∈ ks ∨ x = n := by
  unfold keyAdd
  by_cases h : n ∈ ks
  · rw [if_pos h]; exact ⟨.inl, by rintro (z | e); exact z; rw [e]; exact h⟩
  · rw [if_neg h]; simp
theorem keyAdd_nd {ks : List Int} {n : Int} (h : ks.Nodup) : (keyAdd ks n).Nodup := by
  unfold keyAdd
  by_cases hn : n ∈ ks
  · rw [if_pos hn]; exact h
  · rw [if_neg hn]
    rw [List.nodup_append]
    exact ⟨h, by simp, fun a ha b hb => by simp at hb; subst hb; exact fun e => hn (e ▸ ha)⟩
theorem val_app (T U : List Item) (n : Int) : val (T ++ U) n = val T n + val U n := by
  unfold val; rw [List.filter_append, List.map_append, List.sum_append]
theorem val_one (w lo hi n : Int) : val [(w, (lo, hi))] n = if lo ≤ n ∧ n ≤ hi then w else 0 := by
  unfold val cov
  by_cases h1 : lo ≤ n <;> by_cases h2 : n ≤ hi <;> simp [h1, h2]
/-- a range that is still empty -/
theorem good_start {T : List Item} {ks : List Int} (h : good T ks) (w lo : Int) : good (T ++ [(w, (lo, lo - 1))]) ks := by
  refine ⟨h.1, fun n => ?_⟩
  rw [h.2 n]
  constructor
  · rintro ⟨t, ht, c⟩; exact ⟨t, List.mem_append_left _ ht, c⟩
  · rintro ⟨t, ht, c⟩
    rcases List.mem_append.mp ht with z | z
    · exact ⟨t, z, c⟩
    · simp at z; subst z
      unfold cov at c; simp at c; omega
theorem good_step {T : List Item} {ks : List Int} {w lo hi : Int} (h : good (T ++ [(w, (lo, hi))]) ks) (hl : lo ≤ hi + 1) : good (T ++ [(w, (lo, hi + 1))]) (keyAdd ks (hi + 1)) := by
  refine ⟨keyAdd_nd h.1, fun n => ?_⟩
  rw [keyAdd_mem, h.2 n]
  constructor
  · rintro (⟨t, ht, c⟩ | e)
    · rcases List.mem_append.mp ht with z | z
      · exact ⟨t, List.mem_append_left _ z, c⟩
      · simp at z; subst z
        refine ⟨(w, (lo, hi + 1)), by simp, ?_⟩
        unfold cov at c ⊢; simp at c ⊢; omega
    · subst e
      refine ⟨(w, (lo, hi + 1)), by simp, ?_⟩
      unfold cov; simp; omega
  · rintro ⟨t, ht, c⟩
    rcases List.mem_append.mp ht with z | z
    · exact .inl ⟨t, List.mem_append_left _ z, c⟩
    · simp at z; subst z
      by_cases e : n = hi + 1
      · exact .inr e
      · refine .inl ⟨(w, (lo, hi)), by simp, ?_⟩
        unfold cov at c ⊢; simp at c ⊢; omega
theorem val_step (T : List Item) (w lo hi : Int) (hl : lo ≤ hi + 1) (n : Int) : val (T ++ [(w, (lo, hi + 1))]) n = if n = hi + 1 then val (T ++ [(w, (lo, hi))]) (hi + 1) + w else val (T ++ [(w, (lo, hi))]) n := by
  rw [val_app, val_one, val_app, val_app, val_one, val_one]
  by_cases e : n = hi + 1
  · subst e
    rw [if_pos ⟨hl, Int.le_refl _⟩, if_pos rfl, if_neg (by omega)]; omega
  · rw [if_neg e]
    by_cases h : lo ≤ n ∧ n ≤ hi
    · rw [if_pos h, if_pos ⟨h.1, by omega⟩]
    · rw [if_neg h, if_neg (by omega)]
theorem val_start (T : List Item) (w lo n : Int) : val (T ++ [(w, (lo, lo - 1))]) n = val T n := by
  rw [val_app, val_one, if_neg (by omega)]; omega
theorem val_none {T : List Item} {ks : List Int} (h : good T ks) {n : Int} (hn : n ∉ ks) : val T n = 0 := by
  have : T.filter (cov n) = [] := by
    rw [List.filter_eq_nil_iff]
    intro t ht c
    exact hn ((h.2 n).mpr ⟨t, ht, c⟩)
  unfold val; rw [this]; rfl
theorem nodup_len {l : List Int} {lo : Int} {n : Nat} (nd : l.Nodup) (h : ∀ x ∈ l, lo ≤ x ∧ x < lo + n) : l.length ≤ n := by
  have : l ⊆ (List.range n).map fun i : Nat => lo + (i : Int) := fun x hx => by
    have := h x hx
    exact List.mem_map.mpr ⟨(x - lo).toNat, List.mem_range.mpr (by omega), by omega⟩
  have := List.Nodup.length_le_of_subset nd this
  simpa using this
theorem good_len {T : List Item} {ks : List Int} (h : good T ks) {lo : Int} {n : Nat} (hT : ∀ t ∈ T, lo ≤ t.2.1 ∧ t.2.2 < lo + n) : ks.length ≤ n :=
  nodup_len (lo := lo) h.1 fun x hx => by
    obtain ⟨t, ht, c⟩ := (h.2 x).mp hx
    have := hT t ht
    unfold cov at c; simp at c; omega
theorem rngD_map (lo : Int) (n : Nat) : rngD lo n = ((List.range n).map fun i : Nat => lo + (i : Int)).map D.int := by
  unfold rngD; rw [List.map_map]; rfl
end PG
namespace PG
open PySem PySem.Spec L2 PF
theorem put_ok {i j : Nat} {dw : DE} {E : DEnds} {ρ : PF.Env} {m : Mem} {p : Addr} {n w : Int} {ks : List Int} {f g : Int → Int} (hi : ρ[i]? = some (some (.cel p))) (hj : ρ[j]? = some (some (.int n))) (hm : m p = some (celT ks f)) (hz : n ∉ ks → f n = 0)
    (hw : ∀ Q : D → Mem → Prop, Q (.int w) m → dw ρ m Q) (hg : ∀ x, g x = if x = n then f n + w else f x) (hl : ks.length < sizeLine) (k : E.nx ρ (updM m p (celT (keyAdd ks n) g))) :
    dDPut (dVar i) (dVar j) (dOp drAdd (dGet2 (dVar i) (dVar j) (dC (.int 0))) dw) E ρ m := by
  have hg2 : (atK (ks.map Sum.inl) (ks.map fun n => D.int (f n)) (.inl n)).getD (.int 0) = .int (f n) := by
    rw [atK_map]
    by_cases h : n ∈ ks
    · rw [if_pos h]; rfl
    · rw [if_neg h, hz h]; rfl
  have hd : dkv m (.cel p) = some (ks.map Sum.inl, ks.map fun n => .int (f n)) := by simp [dkv, hm, celT]
  unfold dDPut dOp dGet2
  simp only [s_var, hi, hj, s_c]
  refine ⟨_, rfl, by rw [hd]; rfl, _, rfl, ?_⟩
  rw [hd]
  simp only [keyD, hg2]
  refine hw _ ?_
  simp only [s_addI]
  refine ⟨_, rfl, _, rfl, ?_⟩
  simp only [hm, celT, List.length_map]
  refine ⟨hl, ?_⟩
  rw [putKs_map, putDs_map ks f n (f n + w) g hg]
  exact k
theorem range_at {n : Nat} {pre post : List Nat} {x : Nat} (h : List.range n = pre ++ x :: post) : x = pre.length ∧ pre.length < n := by
  have h1 : (List.range n)[pre.length]? = some x := by rw [h]; simp
  have h2 := (List.getElem?_eq_some_iff.mp h1).1
  rw [List.length_range] at h2
  refine ⟨?_, h2⟩
  rw [List.getElem?_range h2] at h1
  exact (Option.some.inj h1).symm
theorem cutTo (l : List D) (i : Int) (h0 : 0 ≤ i) : cutD l none (some i) = l.take i.toNat := by
  have e1 : HT.sIx l.length l.length (some i) = min i.toNat l.length := by
    show (if i < 0 then _ else _) = _
    rw [if_neg (by omega)]
  have e2 : HT.sIx l.length 0 none = 0 := rfl
  unfold cutD
  rw [e1, e2, List.drop_zero, Nat.sub_zero, List.take_eq_take_iff]; omega
theorem cutFrom (l : List D) (i : Int) (h0 : 0 ≤ i) : cutD l (some i) none = l.drop i.toNat := by
  have e1 : HT.sIx l.length 0 (some i) = min i.toNat l.length := by
    show (if i < 0 then _ else _) = _
    rw [if_neg (by omega)]
  have e2 : HT.sIx l.length l.length none = l.length := rfl
  unfold cutD
  rw [e1, e2]
  by_cases h : i.toNat ≤ l.length
  · rw [Nat.min_eq_left h, List.take_of_length_le (by simp)]
  · rw [List.drop_eq_nil_of_le (as := l) (i := i.toNat) (by omega), Nat.min_eq_right (by omega)]; simp
theorem rest_sub {S : Src} {i : Int} {q : Int × Int} (h : q ∈ restOf S i) : q ∈ S := by
  rcases List.mem_append.mp h with z | z
  · exact List.mem_of_mem_take z
  · exact List.mem_of_mem_drop z
theorem rest_len (S : Src) (i : Int) (h0 : 0 ≤ i) : (restOf S i).length ≤ S.length := by
  unfold restOf; simp; omega
theorem okR_of7 {S : Src} (h : okT7 S) (hl : S.length ≤ 20) : okR S := ⟨hl, fun q hq => by have := h q hq; omega⟩
theorem good7_len {S : Src} {ks : List Int} (h : okT7 S) (hg : good (one S) ks) : ks.length ≤ 59 :=
  good_len (lo := -20) hg fun t ht => by
    obtain ⟨q, hq, rfl⟩ := List.mem_map.mp ht
    have := h q hq
    simp; omega
end PG

namespace PG
open PySem PySem.Spec L2 PF
section
variable {P : Program} {w : World} {K : PySem.W.Frag} {mg : Str → Option Value} {base : Heap}
/-! _law_take -/
abbrev N__law_take : List Str := ["pot", "upto", "digit", "prime", "blend"]
theorem sc__law_take : FnScope N__law_take ["pot", "upto"] (defScope (top 39)) := ⟨rfl, rfl, rfl, by decide +kernel, rfl, by decide +kernel, by decide +kernel⟩
theorem ok__law_take {f : Addr} {fd : FuncData} (T : Txt mg) (F : Fun K "_law_take" "_law_take" (top 39) f fd) (hm : mg "_law_take" = some (.ref f))  : Def P w K mg base 1 "_law_take" (top 39) ["pot", "upto"] sp__law_take := by
  refine def_ok F hm sc__law_take (by rintro ds m Q ⟨p, u, k, rfl, _⟩; rfl) (fun f cdv A outer s H E c => (db_cons (ds_if (dt_cmp ox_gt (dx_ix (dx_var 0) dx_int) dx_int) (db_cons (ds_set 2 c (dx_op ox_mod (dx_ty cb_int T.n_int bt_int (da_cons (dx_ix (dx_var 0) dx_int) da_nil)) (dx_var 1))) (db_cons (ds_asg (dx_op ox_div (dx_ix (dx_var 0) dx_int) (dx_var 1)) (dg_sub (dx_var 0) dx_int)) (db_cons (ds_ret (dx_var 2)) db_nil))) db_nil) (db_cons (ds_asg (dx_op ox_add (dx_ix (dx_var 0) dx_int) dx_int) (dg_sub (dx_var 0) dx_int)) (db_cons (ds_set 3 c (dx_ix (dx_lst (da_cons dx_int (da_cons dx_int (da_cons dx_int (da_cons dx_int (da_cons dx_int da_nil)))))) (dx_op ox_mod (dx_ty cb_int T.n_int bt_int (da_cons (dx_ix (dx_var 0) dx_int) da_nil)) dx_int))) (db_cons (ds_set 4 c (dx_op ox_mod (dx_ty cb_int T.n_int bt_int (da_cons (dx_op ox_pow (dx_ty cb_int T.n_int bt_int (da_cons (dx_op ox_add (dx_op ox_add (dx_ix (dx_var 0) dx_int) (dx_op ox_mul (dx_op ox_mul dx_int (dx_ix (dx_var 0) dx_int)) (dx_ix (dx_var 0) dx_int))) dx_int) da_nil)) dx_int) da_nil)) (dx_var 3))) (db_cons (ds_set 4 c (dx_op ox_mod (dx_ty cb_int T.n_int bt_int (da_cons (dx_op ox_mul (dx_var 4) (dx_op ox_add (dx_op ox_mod (dx_ty cb_int T.n_int bt_int (da_cons (dx_var 4) da_nil)) dx_int) (dx_op ox_mul dx_int (dx_ix (dx_var 0) dx_int)))) da_nil)) dx_int)) (db_cons (ds_ret (dx_op ox_mod (dx_ty cb_int T.n_int bt_int (da_cons (dx_op ox_div (dx_var 4) dx_int) da_nil)) (dx_var 1))) db_nil))))))) ?_
  rintro ds m Q ⟨p, u, k, rfl, ⟨hu1, hu2⟩, hk, ⟨c, hm, own, mix, n, rfl, ho, ⟨hx0, hx1⟩, ⟨hn0, hn1⟩⟩, q⟩
  have a0 : ∀ x y z : Int, atI [D.int x, D.int y, D.int z] 0 = some (.int x) := fun _ _ _ => rfl
  have a1 : ∀ x y z : Int, atI [D.int x, D.int y, D.int z] 1 = some (.int y) := fun _ _ _ => rfl
  have a2 : ∀ x y z : Int, atI [D.int x, D.int y, D.int z] 2 = some (.int z) := fun _ _ _ => rfl
  have i0 : ixN 3 0 = some 0 := rfl
  have i2 : ixN 3 2 = some 2 := rfl
  simp [startD, hm, a0, i0]
  by_cases hp : 0 < own
  · simp [hp]
    refine .inr ⟨by omega, ⟨by omega, by omega⟩, ?_⟩
    exact ⟨_, MLe.refl _, q _ _ ⟨Int.fmod_nonneg ho (by omega), Int.fmod_lt_of_pos _ (by omega)⟩ ⟨own.fdiv u, mix, n, rfl, Int.fdiv_nonneg ho (by omega), ⟨hx0, hx1⟩, hn0, by omega⟩⟩
  · have e0 : own = 0 := by omega
    subst e0
    obtain ⟨pr, hpr, hp1, hp2⟩ : ∃ pr, atI [D.int 2147483647, D.int 2147483629, D.int 2147483587, D.int 2147483579, D.int 2147483563] ((n + 1).fmod 5) = some (.int pr) ∧ 2147483562 < pr ∧ pr < 2147483648 := by
      have b1 : 0 ≤ (n + 1).fmod 5 := Int.fmod_nonneg (by omega) (by omega)
      have b2 : (n + 1).fmod 5 < 5 := Int.fmod_lt_of_pos _ (by omega)
      generalize (n + 1).fmod 5 = r at b1 b2
      have : r = 0 ∨ r = 1 ∨ r = 2 ∨ r = 3 ∨ r = 4 := by omega
      rcases this with rfl | rfl | rfl | rfl | rfl <;> exact ⟨_, rfl, by decide, by decide⟩
    simp [hm, a1, a2, i2, updM_same, hpr, PySem.sizeLine_eq]
    have hq : 102203 * (n + 1) ≤ 102203 * 1001 := by omega
    have hz : 102203 * (n + 1) * (n + 1) ≤ 102203 * 1001 * 1001 := Int.mul_le_mul hq (by omega) (by omega) (by omega)
    have hz0 : 0 ≤ 102203 * (n + 1) * (n + 1) := Int.mul_nonneg (by omega) (by omega)
    refine ⟨.inl ⟨by decide, by decide⟩, .inr ⟨by omega, by omega⟩, ?_⟩
    generalize 102203 * (n + 1) * (n + 1) = z at hz hz0
    refine ⟨⟨by decide, by decide, by omega⟩, by omega, ?_⟩
    have p0 : 0 ≤ mix + z + 1327 := by omega
    have p1 : 0 ≤ (mix + z + 1327) ^ 3 := Int.pow_nonneg p0
    generalize (mix + z + 1327) ^ 3 = y at p1
    have b1 : 0 ≤ y.fmod pr := Int.fmod_nonneg p1 (by omega)
    have b2 : y.fmod pr < pr := Int.fmod_lt_of_pos _ (by omega)
    generalize y.fmod pr = b at b1 b2
    refine ⟨.inl ⟨by decide, by decide⟩, .inl ⟨by omega, by omega⟩, ⟨by decide, by decide⟩, by omega, ?_⟩
    have c0 : 0 ≤ b.fmod 10169 := Int.fmod_nonneg b1 (by omega)
    have d0 : 0 ≤ b * (b.fmod 10169 + 173 * (n + 1)) := Int.mul_nonneg b1 (by omega)
    generalize b * (b.fmod 10169 + 173 * (n + 1)) = y2 at d0
    have g0 : 0 ≤ (y2.fmod 2305843009213693907).fdiv 149 := Int.fdiv_nonneg (Int.fmod_nonneg d0 (by omega)) (by omega)
    refine ⟨_, MLe.refl _, q _ _ ⟨Int.fmod_nonneg g0 (by omega), Int.fmod_lt_of_pos _ (by omega)⟩ ⟨0, mix, n + 1, rfl, by omega, ⟨hx0, hx1⟩, by omega, by omega⟩⟩
/-! _law_of -/
abbrev N__law_of : List Str := ["pot", "some"]
theorem sc__law_of : FnScope N__law_of ["pot", "some"] (defScope (top 40)) := ⟨rfl, rfl, rfl, by decide +kernel, rfl, by decide +kernel, by decide +kernel⟩
theorem ok__law_of {f : Addr} {fd : FuncData} (T : Txt mg) (F : Fun K "_law_of" "_law_of" (top 40) f fd) (hm : mg "_law_of" = some (.ref f)) (d__law_take : Def P w K mg base 1 "_law_take" (top 39) ["pot", "upto"] sp__law_take) : Def P w K mg base 2 "_law_of" (top 40) ["pot", "some"] sp__law_of := by
  refine def_ok F hm sc__law_of (by rintro ds m Q ⟨p, u, k, rfl, _⟩; rfl) (fun f cdv A outer s H E c => (db_cons (ds_ret (dx_ix (dx_var 1) (dx_call d__law_take c (by decide) (da_cons (dx_var 0) (da_cons (dx_bi cb_len T.n_len bt_len (da_cons (dx_var 1) da_nil)) da_nil)) (fun _ _ _ _ _ _ us hl => match us, hl with | [_, _], _ => rfl)))) db_nil)) ?_
  rintro ds m Q ⟨p, l, k, rfl, ⟨h1, h2⟩, hk, hp, q⟩
  simp [startD]
  refine i_take k (by omega) hk hp fun d c hd hc => ?_
  have hlt : d.toNat < l.length := by omega
  have ha : atI (l.map id) d = some (l[d.toNat]) := atI_map id l d _ hd.1 (by simp [hlt])
  rw [List.map_id] at ha
  simp [ha]
  exact ⟨_, MLe.refl _, q _ _ (List.getElem_mem _) hc⟩
/-! _law_pot -/
abbrev N__law_pot : List Str := ["script", "place", "salt", "cell", "own", "small"]
theorem sc__law_pot : FnScope N__law_pot ["script", "place", "salt"] (defScope (top 38)) := ⟨rfl, rfl, rfl, by decide +kernel, rfl, by decide +kernel, by decide +kernel⟩
theorem ok__law_pot {f : Addr} {fd : FuncData} (T : Txt mg) (F : Fun K "_law_pot" "_law_pot" (top 38) f fd) (hm : mg "_law_pot" = some (.ref f))  : Def P w K mg base 1 "_law_pot" (top 38) ["script", "place", "salt"] sp__law_pot := by
  refine def_ok F hm sc__law_pot (by rintro ds m Q ⟨p, u, k, rfl, _⟩; rfl) (fun f cdv A outer s H E c => (db_cons (ds_set 3 c (dx_if (dt_cmp ox_lt (dx_var 1) (dx_bi cb_len T.n_len bt_len (da_cons (dx_var 0) da_nil))) (dx_ix (dx_var 0) (dx_var 1)) (dx_op ox_add (dx_op ox_add (dx_op ox_mod (dx_ty cb_int T.n_int bt_int (da_cons (dx_bi (cb_sum c) T.n_sum bt_sum (da_cons (dx_sl (dx_var 0) dp_no (dp_some dx_int)) da_nil)) da_nil)) dx_int) (dx_op ox_mul dx_int (dx_var 1))) (dx_op ox_mul dx_int (dx_var 2))))) (db_cons (ds_set 4 c (dx_op ox_mul (dx_op ox_mod (dx_ty cb_int T.n_int bt_int (da_cons (dx_bi cb_abs T.n_abs bt_abs (da_cons (dx_var 3) da_nil)) da_nil)) (dx_op ox_powW (dx_op ox_pow dx_int dx_int) dx_int)) (dx_ty cb_int T.n_int bt_int (da_cons (dx_cmp ox_ge (dx_bi cb_abs T.n_abs bt_abs (da_cons (dx_var 3) da_nil)) (dx_op ox_pow dx_int dx_int)) da_nil)))) (db_cons (ds_set 5 c (dx_op ox_mod (dx_ty cb_int T.n_int bt_int (da_cons (dx_var 3) da_nil)) dx_int)) (db_cons (ds_ret (dx_lstC (da_cons (dx_var 4) (da_cons (dx_op ox_mod (dx_ty cb_int T.n_int bt_int (da_cons (dx_op ox_add (dx_op ox_add (dx_op ox_add (dx_op ox_mul (dx_var 5) dx_int) (dx_op ox_mul (dx_op ox_mul dx_int (dx_var 1)) (dx_var 1))) (dx_op ox_mul dx_int (dx_var 2))) dx_int) da_nil)) dx_int) (da_cons dx_int da_nil))))) db_nil))))) ?_
  rintro ds m Q ⟨ns, i, s, rfl, ⟨hi0, hi1⟩, ⟨hs0, hs1⟩, q⟩
  have body : ∀ cell : Int, ∀ p, m p = none → ∃ m'', MLe m'' (updM m p (Cell.l [D.int ((if cell < 0 then -cell else cell).fmod ((10 ^ 60) ^ 5) * (if 1000000000000000000 ≤ (if cell < 0 then -cell else cell) then 1 else 0)),
      D.int ((cell.fmod 2305843009213693951 * 91283 + 8429 * i * i + 10159 * s + 1181).fmod 2305843009213693921), D.int 0])) ∧ Q (D.cel p) m'' := fun cell p hp => by
    refine ⟨_, MLe.refl _, q p _ hp ⟨_, _, 0, rfl, Int.mul_nonneg (Int.fmod_nonneg (by split <;> omega) (by decide +kernel)) (by split <;> omega), ⟨?_, ?_⟩, by omega, by omega⟩⟩
    · have h1 : 0 ≤ cell.fmod 2305843009213693951 := Int.fmod_nonneg_of_pos _ (by decide)
      have h2 : 0 ≤ 8429 * i * i := Int.mul_nonneg (by omega) (by omega)
      exact Int.fmod_nonneg (by omega) (by decide)
    · have := Int.fmod_lt_of_pos (cell.fmod 2305843009213693951 * 91283 + 8429 * i * i + 10159 * s + 1181) (show (0 : Int) < 2305843009213693921 by decide)
      omega
  have cm : ∀ (a b : Int), -1000000 < a → a < 1000000 → CMul a b := fun a b h1 h2 => .inl ⟨by omega, by omega⟩
  have cr : ∀ (a b : Int), -1000000 < b → b < 1000000 → CMul a b := fun a b h1 h2 => .inr ⟨by omega, by omega⟩
  have w1 : CPow 10 60 := ⟨by decide, by decide, by decide⟩
  have w2 : CPow 10 18 := ⟨by decide, by decide, by decide⟩
  have w3 : CPowW (10 ^ 60) 5 := ⟨by decide, by decide +kernel⟩
  have bb : ∀ c : Prop, ∀ [Decidable c], -1000000 < (if c then (1 : Int) else 0) ∧ (if c then (1 : Int) else 0) < 1000000 := fun c _ => by split <;> decide
  simp at w3
  simp [startD, e_sl, PySem.sizeLine_eq]
  by_cases hc : i < (ns.length : Int)
  · have hlt : i.toNat < ns.length := by omega
    have ha : atI (ns.map D.int) i = some (.int ns[i.toNat]) := atI_map D.int ns i _ hi0 (by simp [hlt])
    simp [hc, ha, w1, w2, w3]
    refine .inr ⟨cr _ _ (bb _).1 (bb _).2, cr _ _ (by decide) (by decide), cm _ _ (by decide) (by decide), cr _ _ (by omega) (by omega), cm _ _ (by decide) (by decide), fun p hp => ?_⟩
    have := body ns[i.toNat] p hp
    simp at this
    exact this
  · have hcut : cutD (ns.map D.int) none (some 1) = (ns.take 1).map D.int := by
      unfold cutD HT.sIx
      cases ns with
      | nil => rfl
      | cons a l => simp
    simp [hc, hcut, w1, w2, w3]
    refine ⟨by omega, ?_⟩
    rw [← List.map_take, s_sum]
    simp
    refine ⟨cm _ _ (by decide) (by decide), cm _ _ (by decide) (by decide), cr _ _ (bb _).1 (bb _).2, cr _ _ (by decide) (by decide), cm _ _ (by decide) (by decide), cr _ _ (by omega) (by omega), cm _ _ (by decide) (by decide), fun p hp => ?_⟩
    have := body ((ns.take 1).sum.fmod 1000033 + 2179 * i + 37 * s) p hp
    simp at this
    exact this
/-! _law_cells -/
abbrev N__law_cells : List Str := ["script", "limit"]
theorem sc__law_cells : FnScope N__law_cells ["script", "limit"] (defScope (top 42)) := ⟨rfl, rfl, rfl, by decide +kernel, rfl, by decide +kernel, by decide +kernel⟩
theorem ok__law_cells {f : Addr} {fd : FuncData} (T : Txt mg) (F : Fun K "_law_cells" "_law_cells" (top 42) f fd) (hm : mg "_law_cells" = some (.ref f))  : Def P w K mg base 1 "_law_cells" (top 42) ["script", "limit"] sp__law_cells := by
  refine def_ok F hm sc__law_cells (by rintro ds m Q ⟨p, u, rfl, _⟩; rfl) (fun f cdv A outer s H E c => (db_cons (ds_ret (dx_listR c (dx_bi (cb_max c) T.n_max bt_max (da_cons dx_int (da_cons (dx_bi (cb_min c) T.n_min bt_min (da_cons (dx_var 1) (da_cons (dx_bi cb_len T.n_len bt_len (da_cons (dx_var 0) da_nil)) da_nil))) da_nil))) T.n_list T.n_range)) db_nil)) ?_
  rintro ds m Q ⟨ns, i, rfl, ⟨hi0, hi1⟩, q⟩
  simp [startD, e_listR]
  have key : ∀ x : Int, 0 ≤ x → x ≤ i → RgOk 0 x ∧ ∃ m'', MLe m'' m ∧ Q (D.lst (rngD 0 x.toNat)) m'' := fun x h0 h =>
    ⟨RgOk.of_le (by omega) (by omega) (by omega) h0, m, MLe.refl m, q _ (by omega)⟩
  refine key _ ?_ ?_ <;> (repeat' split) <;> omega
/-! _law_same -/
abbrev N__law_same : List Str := ["one", "other"]
theorem sc__law_same : FnScope N__law_same ["one", "other"] (defScope (top 43)) := ⟨rfl, rfl, rfl, by decide +kernel, rfl, by decide +kernel, by decide +kernel⟩
theorem ok__law_same {f : Addr} {fd : FuncData} (T : Txt mg) (F : Fun K "_law_same" "_law_same" (top 43) f fd) (hm : mg "_law_same" = some (.ref f))  : Def P w K mg base 1 "_law_same" (top 43) ["one", "other"] sp__law_same := by
  refine def_ok F hm sc__law_same (by rintro ds m Q ⟨p, u, k, rfl, _⟩; rfl) (fun f cdv A outer s H E c => (db_cons (ds_ret (dx_and (dx_cmp (ox_eq c) (dx_var 0) (dx_var 1)) (dx_one (dx_cmp ox_eqS (dx_bi (cb_repr c) T.n_repr bt_repr (da_cons (dx_var 0) da_nil)) (dx_bi (cb_repr c) T.n_repr bt_repr (da_cons (dx_var 1) da_nil)))))) db_nil)) ?_
  rintro ds m Q ⟨a, k, n, rfl, h, hk, hn, q⟩
  simp [startD, okD_flat h.1 (by omega), eqD_refl h.1, shD_of h hk hn]
  exact ⟨m, MLe.refl m, q⟩
/-! _law_spans_of -/
abbrev N__law_spans_of : List Str := ["numbers", "found", "number"]
theorem sc__law_spans_of : FnScope N__law_spans_of ["numbers"] (defScope (top 45)) := ⟨rfl, rfl, rfl, by decide +kernel, rfl, by decide +kernel, by decide +kernel⟩
theorem ok__law_spans_of {f : Addr} {fd : FuncData} (T : Txt mg) (F : Fun K "_law_spans_of" "_law_spans_of" (top 45) f fd) (hm : mg "_law_spans_of" = some (.ref f))  : Def P w K mg base 1 "_law_spans_of" (top 45) ["numbers"] sp__law_spans_of := by
  refine def_ok F hm sc__law_spans_of (by rintro ds m Q ⟨p, rfl, _⟩; rfl) (fun f cdv A outer s H E c => (db_cons (ds_set 1 c (dx_lstC da_nil)) (db_cons (ds_for c PassesOwn.never (di_list (dx_bi cb_sorted T.n_sorted bt_sorted (da_cons (dx_var 0) da_nil))) (dg_name 2 c) (db_cons (ds_if (dt_w (dw_and (dt_cmp (ox_neV c) (dx_var 1) (dx_lst da_nil)) (dw_and1 (dt_cmp (ox_eq c) (dx_ix (dx_ix (dx_var 1) (dx_neg dx_int)) dx_int) (dx_op ox_sub (dx_var 2) dx_int))))) (db_cons (ds_asg (dx_tup (da_cons (dx_ix (dx_ix (dx_var 1) (dx_neg dx_int)) dx_int) (da_cons (dx_var 2) da_nil))) (dg_sub (dx_var 1) (dx_neg dx_int))) db_nil) (db_cons (ds_expr (dx_app (dx_var 1) (da_cons (dx_tup (da_cons (dx_var 2) (da_cons (dx_var 2) da_nil))) da_nil))) db_nil)) db_nil)) (db_cons (ds_ret (dx_ty cb_tuple T.n_tuple bt_tuple (da_cons (dx_var 1) da_nil))) db_nil)))) ?_
  rintro ds m Q ⟨ns, rfl, hn, q⟩
  have hlen : (sortI ns).length = ns.length := (sortI_perm ns).length_eq
  simp [startD, dFor, e_diL]
  intro p hp
  refine for_ok (sortI ns) D.int (fun pre ρ m' => ∃ x, ρ = [some (.lst (ns.map D.int)), some (.cel p), x] ∧ m' = updM m p (.l ((joinR (pre.map dup)).map encP))) rfl ⟨none, rfl, rfl⟩ ?_ ?_
  · rintro pre x post ρ m1 hx ⟨a, rfl, rfl⟩ N hN
    have hpl : pre.length ≤ ns.length := by rw [← hlen, hx]; simp
    have hv : vw (updM m p (.l ((joinR (pre.map dup)).map encP))) (.cel p) = .lst ((joinR (pre.map dup)).map encP) := e_vwC updM_same
    have step : joinR ((pre ++ [x]).map dup) = joinS (joinR (pre.map dup)) (dup x) := by simp [joinR]
    have hjl := joinR_len (pre.map dup)
    rw [List.length_map] at hjl
    generalize joinR (pre.map dup) = J at *
    have okL : okD (D.lst (J.map encP)) = true := okD_flat (n := 2) (flat_lst fun d hd => by
      obtain ⟨z, _, rfl⟩ := List.mem_map.mp hd
      exact flat_tup fun e he => by
        have : e = .int z.1 ∨ e = .int z.2 := by simpa using he
        rcases this with h | h <;> rw [h] <;> exact flat_int) (by omega)
    simp [hv, okL, updM_same]
    cases hg : J.getLast? with
    | none =>
      have e0 : J = [] := List.getLast?_eq_none_iff.mp hg
      simp [e0, e_tyC updM_same, e_app updM_same, PySem.sizeLine_eq]
      refine hN _ _ ⟨_, rfl, ?_⟩
      rw [step, updM_updM]
      simp [joinS, e0, encP, dup]
    | some z =>
      have ne : J ≠ [] := by rintro e; rw [e] at hg; cases hg
      have hla := atI_last encP _ _ hg
      have e3 : atI [D.int z.1, D.int z.2] 0 = some (.int z.1) := rfl
      have e4 : atI [D.int z.1, D.int z.2] 1 = some (.int z.2) := rfl
      simp [ne, hla, encP, e3, e4]
      by_cases hc : z.2 = x - 1
      · have e5 : atI [D.int z.1, D.int (x - 1)] 0 = some (.int z.1) := rfl
        simp [hc, updM_same, hla, encP, e3, e4, e5, PySem.sizeLine_eq]
        refine ⟨J.length - 1, ixN_last (List.length_pos_iff.mpr ne), ?_⟩
        refine hN _ _ ⟨_, rfl, ?_⟩
        rw [step, updM_updM]
        have e1 : joinS J (dup x) = J.dropLast ++ [(z.1, x)] := by simp [joinS, hg, dup, hc]
        have e2 := set_last (J.map encP) (encP (z.1, x)) (by simpa using ne)
        rw [e1]
        simp only [List.length_map] at e2
        simp [encP] at e2 ⊢
        rw [e2]
      · simp [hc, e_tyC updM_same, e_app updM_same, PySem.sizeLine_eq]
        refine ⟨by omega, hN _ _ ⟨_, rfl, ?_⟩⟩
        rw [step, updM_updM]
        have : ¬ z.2 + 1 = x := by omega
        simp [joinS, hg, this, encP, dup]
  · rintro ρ m1 ⟨a, rfl, rfl⟩
    simp
    rw [s_tupleC updM_same]
    exact ⟨m, MLe.new (MLe.refl m) hp, q⟩
end
end PG

namespace PG
open PySem PySem.Spec L2 PF
section
variable {P : Program} {w : World} {K : PySem.W.Frag} {mg : Str → Option Value} {base : Heap}
/-! _law_sources -/
abbrev N__law_sources : List Str := ["pot", "many", "wide", "found", "lap", "low"]
theorem sc__law_sources : FnScope N__law_sources ["pot", "many", "wide"] (defScope (top 44)) := ⟨rfl, rfl, rfl, by decide +kernel, rfl, by decide +kernel, by decide +kernel⟩
theorem ok__law_sources {f : Addr} {fd : FuncData} (T : Txt mg) (F : Fun K "_law_sources" "_law_sources" (top 44) f fd) (hm : mg "_law_sources" = some (.ref f)) (d__law_take : Def P w K mg base 1 "_law_take" (top 39) ["pot", "upto"] sp__law_take) (d__law_of : Def P w K mg base 2 "_law_of" (top 40) ["pot", "some"] sp__law_of) : Def P w K mg base 3 "_law_sources" (top 44) ["pot", "many", "wide"] sp__law_sources := by
  refine def_ok F hm sc__law_sources (by rintro ds m Q ⟨p, many, k, rfl, _⟩; rfl) (fun f cdv A outer s H E c => (db_cons (ds_set 3 c (dx_lstC da_nil)) (db_cons (ds_for c PassesOwn.never (di_r1 (da_cons (dx_op ox_add dx_int (dx_call d__law_take c (by decide) (da_cons (dx_var 0) (da_cons (dx_var 1) da_nil)) (fun _ _ _ _ _ _ us hl => match us, hl with | [_, _], _ => rfl))) da_nil) T.n_range) (dg_name 4 c) (db_cons (ds_set 5 c (dx_call d__law_of c (by decide) (da_cons (dx_var 0) (da_cons (dx_lst (da_cons (dx_call d__law_take c (by decide) (da_cons (dx_var 0) (da_cons (dx_var 2) da_nil)) (fun _ _ _ _ _ _ us hl => match us, hl with | [_, _], _ => rfl)) (da_cons dx_int (da_cons (dx_op ox_sub (dx_call d__law_take c (by decide) (da_cons (dx_var 0) (da_cons (dx_var 2) da_nil)) (fun _ _ _ _ _ _ us hl => match us, hl with | [_, _], _ => rfl)) (dx_var 2)) da_nil)))) da_nil)) (fun _ _ _ _ _ _ us hl => match us, hl with | [_, _], _ => rfl))) (db_cons (ds_expr (dx_app (dx_var 3) (da_cons (dx_tup (da_cons (dx_var 5) (da_cons (dx_op ox_add (dx_var 5) (dx_call d__law_of c (by decide) (da_cons (dx_var 0) (da_cons (dx_lst (da_cons dx_int (da_cons dx_int (da_cons dx_int (da_cons (dx_call d__law_take c (by decide) (da_cons (dx_var 0) (da_cons (dx_var 2) da_nil)) (fun _ _ _ _ _ _ us hl => match us, hl with | [_, _], _ => rfl)) da_nil))))) da_nil)) (fun _ _ _ _ _ _ us hl => match us, hl with | [_, _], _ => rfl))) da_nil))) da_nil))) db_nil))) (db_cons (ds_if (dt_w (dw_and (dt_cmp ox_lt (dx_bi cb_len T.n_len bt_len (da_cons (dx_var 3) da_nil)) (dx_var 1)) (dw_and1 (dt_cmp (ox_eq c) (dx_call d__law_take c (by decide) (da_cons (dx_var 0) (da_cons dx_int da_nil)) (fun _ _ _ _ _ _ us hl => match us, hl with | [_, _], _ => rfl)) dx_int)))) (db_cons (ds_expr (dx_app (dx_var 3) (da_cons (dx_ix (dx_var 3) dx_int) da_nil))) db_nil) db_nil) (db_cons (ds_ret (dx_ty cb_tuple T.n_tuple bt_tuple (da_cons (dx_var 3) da_nil))) db_nil))))) ?_
  rintro ds m Q ⟨p, many, k, rfl, ⟨hm1, hm2⟩, hk, hp, q⟩
  simp [startD, dFor, e_diR1, PySem.sizeLine_eq]
  intro f hf
  have hpm : m p ≠ none := by obtain ⟨c, h, _⟩ := hp; rw [h]; simp
  have hpf : p ≠ f := by rintro rfl; exact hpm hf
  have hp0 : potAt (updM m f (.l [])) p k := by obtain ⟨c, h, h2⟩ := hp; exact ⟨c, by rw [updM_ne hpf]; exact h, h2⟩
  refine i_take k (by omega) (by omega) hp0 fun d c hd hc => ?_
  refine ⟨1 + d, rfl, ⟨by omega, by omega⟩, ?_⟩
  have hlap : (1 + d).toNat ≤ many.toNat := by omega
  have hlap1 : 1 ≤ (1 + d).toNat := by omega
  refine for_ok (List.range (1 + d).toNat) (fun i : Nat => D.int (0 + (i : Int))) (fun pre ρ m' => ∃ (x y : Option D) (S : Src) (c : Cell), ρ = [some (.cel p), some (.int many), some (.int 20), some (.cel f), x, y] ∧ S.length = pre.length ∧ okT7 S ∧ potC (k + 1 + 5 * pre.length) c ∧ m' p = some c ∧ m' f = some (.l (S.map encP)) ∧ MLe (updM m p c) m') rfl ?_ ?_ ?_
  · refine ⟨_, _, [], c, rfl, rfl, (fun _ h => by cases h), hc, updM_same, ?_, MLe.upd (MLe.new (MLe.refl m) hf)⟩
    rw [updM_ne hpf.symm, updM_same]; rfl
  · rintro pre x post ρ m1 hx ⟨a, b, S, c1, rfl, hSl, hS, hc1, hmp, hmf, hle⟩ N hN
    have hpl : pre.length < many.toNat := by have := range_at hx; omega
    simp [PySem.sizeLine_eq]
    refine i_take _ (by omega) (by omega) ⟨c1, hmp, hc1⟩ fun d1 c2 hd1 hc2 => ?_
    refine i_take _ (by omega) (by omega) (potAt_upd hc2) fun d2 c3 hd2 hc3 => ?_
    simp
    refine i_of _ (by simp) (by omega) (potAt_upd hc3) fun low c4 hlow hc4 => ?_
    obtain ⟨lo, rfl, hlo⟩ : ∃ lo, low = .int lo ∧ -20 ≤ lo ∧ lo ≤ 19 := by
      simp at hlow
      rcases hlow with h | h | h <;> exact ⟨_, h, by omega⟩
    rw [updM_updM, updM_updM]
    have hf4 : ∀ c', (updM m1 p c') f = some (.l (S.map encP)) := fun c' => by rw [updM_ne hpf.symm]; exact hmf
    refine ⟨e_tyC (hf4 _), ?_⟩
    refine i_take _ (by omega) (by omega) (potAt_upd hc4) fun d3 c5 hd3 hc5 => ?_
    refine i_of _ (by simp) (by omega) (potAt_upd hc5) fun wd c6 hwd hc6 => ?_
    obtain ⟨wi, rfl, hwi⟩ : ∃ wi, wd = .int wi ∧ 0 ≤ wi ∧ wi ≤ 19 := by
      simp at hwd
      rcases hwd with h | h | h | h <;> exact ⟨_, h, by omega⟩
    rw [updM_updM, updM_updM]
    simp [e_app (hf4 _), PySem.sizeLine_eq]
    refine ⟨by omega, hN _ _ ⟨_, _, S ++ [(lo, lo + wi)], c6, rfl, by simp [hSl], ?_, hc6.mono (by simp; omega), ?_, ?_, ?_⟩⟩
    · intro q hq
      rcases List.mem_append.mp hq with z | z
      · exact hS q z
      · simp at z; subst z; simp; omega
    · rw [updM_ne hpf, updM_same]
    · rw [updM_same]; simp [encP]
    · refine MLe.new (MLe.trans (m1 := updM m1 p c6) ?_ (MLe.refl _)) (by rw [updM_ne hpf.symm]; exact hf)
      intro z cc hz
      by_cases e : z = p
      · subst e; rw [updM_same] at hz ⊢; exact hz
      · rw [updM_ne e] at hz ⊢
        exact hle z cc (by rw [updM_ne e]; exact hz)
  · rintro ρ m1 ⟨a, b, S, c1, rfl, hSl, hS, hc1, hmp, hmf, hle⟩
    rw [List.length_range] at hSl hc1
    have hfin : ∀ (S' : Src) (c' : Cell) (m' : Mem), m' f = some (.l (S'.map encP)) → (1 ≤ S'.length ∧ (S'.length : Int) ≤ many ∧ okT7 S') → potC (k + 50) c' → MLe (updM m p c') m' → dcTuple [.cel f] m' fun d m'_1 => ∃ m'', MLe m'' m'_1 ∧ Q d m'' := fun S' c' m' h1 h2 h3 h4 => by
      rw [s_tupleC h1]
      exact ⟨_, h4, q S' c' h2 h3⟩
    simp [s_lenC hmf]
    by_cases hlt : (S.length : Int) < many
    · simp [hlt]
      refine .inr ?_
      refine i_take _ (by omega) (by omega) ⟨c1, hmp, hc1⟩ fun d1 c2 hd1 hc2 => ?_
      have hmf2 : (updM m1 p c2) f = some (.l (S.map encP)) := by rw [updM_ne hpf.symm]; exact hmf
      have hle2 : MLe (updM m p c2) (updM m1 p c2) := by
        intro z cc hz
        by_cases e : z = p
        · subst e; rw [updM_same] at hz ⊢; exact hz
        · rw [updM_ne e] at hz ⊢
          exact hle z cc (by rw [updM_ne e]; exact hz)
      by_cases hd0 : d1 = 0
      · subst hd0
        obtain ⟨s0, hs0⟩ : ∃ s0, S.head? = some s0 := by
          cases S with
          | nil => simp at hSl; omega
          | cons a S => exact ⟨a, rfl⟩
        have hat := at_head encP S s0 hs0
        have hin : s0 ∈ S := by cases S with | nil => cases hs0 | cons a S => cases hs0; exact List.mem_cons_self
        simp [e_tyC hmf2, hmf2, hat, e_app hmf2, PySem.sizeLine_eq]
        refine ⟨by omega, hfin (S ++ [s0]) c2 _ (by rw [updM_same]; simp) ⟨by simp, by simp; omega, ?_⟩ (hc2.mono (by omega)) (MLe.new hle2 (by rw [updM_ne hpf.symm]; exact hf))⟩
        intro q hq
        rcases List.mem_append.mp hq with z | z
        · exact hS q z
        · simp at z; subst z; exact hS _ hin
      · simp [hd0]
        exact hfin S c2 _ hmf2 ⟨by omega, by omega, hS⟩ (hc2.mono (by omega)) hle2
    · simp [hlt]
      exact ⟨by omega, hfin S c1 _ hmf ⟨by omega, by omega, hS⟩ (hc1.mono (by omega)) hle⟩
/-! _law_had_by -/
abbrev N__law_had_by : List Str := ["sources", "found", "low", "high", "number"]
theorem sc__law_had_by : FnScope N__law_had_by ["sources"] (defScope (top 46)) := ⟨rfl, rfl, rfl, by decide +kernel, rfl, by decide +kernel, by decide +kernel⟩
theorem ok__law_had_by {f : Addr} {fd : FuncData} (T : Txt mg) (F : Fun K "_law_had_by" "_law_had_by" (top 46) f fd) (hm : mg "_law_had_by" = some (.ref f))  : Def P w K mg base 1 "_law_had_by" (top 46) ["sources"] sp__law_had_by := by
  refine def_ok F hm sc__law_had_by (by rintro ds m Q ⟨p, rfl, _⟩; rfl) (fun f cdv A outer s H E c => (db_cons (ds_set 1 c dx_dicC) (db_cons (ds_for c PassesOwn.never (di_tup (dx_var 0)) (dg_tup (n := 2) c (dgs_cons (dg_name 2 c) (dgs_cons (dg_name 3 c) dgs_nil))) (db_cons (ds_for c PassesOwn.never (di_r2 (da_cons (dx_var 2) (da_cons (dx_op ox_add (dx_var 3) dx_int) da_nil)) T.n_range) (dg_name 4 c) (db_cons (ds_dput c (dx_var 1) (dx_var 4) (dx_op ox_add (dx_dget2 c (dx_var 1) (dx_var 4) dx_int) dx_int)) db_nil)) db_nil)) (db_cons (ds_ret (dx_frzD (dx_var 1))) db_nil)))) ?_
  rintro ds m Q ⟨S, rfl, ⟨hSl, hS⟩, q⟩
  simp [startD, dFor, e_diT, encS]
  intro f hf
  refine for_ok S encP (fun pre ρ m' => ∃ x y z ks, ρ = [some (.tup (S.map encP)), some (.cel f), x, y, z] ∧ good (one pre) ks ∧ m' = updM m f (celT ks (val (one pre)))) rfl ⟨none, none, none, [], rfl, ⟨List.nodup_nil, by simp [one]⟩, rfl⟩ ?_ ?_
  · rintro pre x post ρ m1 hx ⟨a, b, c, ks, rfl, hg, rfl⟩ N hN
    have hxS : x ∈ S := by rw [hx]; simp
    have hx2 := hS x hxS
    have hTl : ∀ hi : Int, hi ≤ x.2 → ∀ t ∈ one pre ++ [((1 : Int), (x.1, hi))], -1000 ≤ t.2.1 ∧ t.2.2 < -1000 + ((2001 : Nat) : Int) := fun hi hh t ht => by
      rcases List.mem_append.mp ht with z | z
      · obtain ⟨y, hy, rfl⟩ := List.mem_map.mp z
        have := hS y (by rw [hx]; exact List.mem_append_left _ hy)
        simp; omega
      · simp at z; subst z; simp; omega
    rw [encP]
    simp [dFor, e_diR2]
    refine ⟨by omega, ?_⟩
    refine for_ok (List.range (x.2 + 1 - x.1).toNat) (fun i : Nat => D.int (x.1 + (i : Int))) (fun pre2 ρ m' => ∃ z ks', ρ = [some (.tup (S.map encP)), some (.cel f), some (.int x.1), some (.int x.2), z] ∧ good (one pre ++ [((1 : Int), (x.1, x.1 + (pre2.length : Int) - 1))]) ks' ∧ m' = updM m f (celT ks' (val (one pre ++ [((1 : Int), (x.1, x.1 + (pre2.length : Int) - 1))])))) rfl ?_ ?_ ?_
    · refine ⟨c, ks, rfl, by simpa using good_start hg 1 x.1, ?_⟩
      congr 2
      funext n
      simpa using (val_start (one pre) 1 x.1 n).symm
    · rintro pre2 y post2 ρ m2 hy ⟨z, ks', rfl, hg', rfl⟩ N2 hN2
      obtain ⟨rfl, hlt⟩ := range_at hy
      simp
      have e1 : x.1 + ((pre2 ++ [pre2.length]).length : Int) - 1 = x.1 + (pre2.length : Int) - 1 + 1 := by simp; omega
      have e2 : x.1 + (pre2.length : Int) - 1 + 1 = x.1 + (pre2.length : Int) := by omega
      refine put_ok (p := f) (n := x.1 + (pre2.length : Int)) (w := 1) (ks := ks') (f := val (one pre ++ [((1 : Int), (x.1, x.1 + (pre2.length : Int) - 1))])) (g := val (one pre ++ [((1 : Int), (x.1, x.1 + ((pre2 ++ [pre2.length]).length : Int) - 1))])) rfl rfl updM_same (val_none hg') (fun Q h => h) (fun n => ?_) ?_ ?_
      · rw [e1, val_step _ _ _ _ (by omega), e2]
      · have := good_len (lo := -1000) (n := 2001) hg' (hTl _ (by omega))
        rw [PySem.sizeLine_eq]; omega
      · refine hN2 _ _ ⟨_, keyAdd ks' (x.1 + (pre2.length : Int)), rfl, ?_, ?_⟩
        · have := good_step hg' (by omega)
          rw [e1]; rw [e2] at this ⊢; exact this
        · rw [updM_updM]
    · rintro ρ m2 ⟨z, ks', rfl, hg', rfl⟩
      have e3 : x.1 + ((List.range (x.2 + 1 - x.1).toNat).length : Int) - 1 = x.2 := by rw [List.length_range]; omega
      rw [e3] at hg'
      have e4 : one (pre ++ [x]) = one pre ++ [((1 : Int), (x.1, x.2))] := by simp [one]
      refine hN _ _ ⟨_, _, _, ks', rfl, by rw [e4]; exact hg', ?_⟩
      rw [e3, e4]
  · rintro ρ m1 ⟨a, b, c, ks, rfl, hg, rfl⟩
    simp
    refine ⟨_, _, updM_same, m, ?_, q ks hg⟩
    exact MLe.del (MLe.new (MLe.refl m) hf) hf
end
end PG

namespace PG
open PySem PySem.Spec L2 PF

/-! ### spans: parted, rising, none touching the next -/
def ch (R : Src) : Prop := R.Pairwise (fun a b => a.2 < b.1) ∧ ∀ a ∈ R, a.1 ≤ a.2
def Canon (R : Src) : Prop := R.Pairwise (fun a b => a.2 + 1 < b.1) ∧ ∀ a ∈ R, a.1 ≤ a.2
def inn (n : Int) (R : Src) : Prop := ∃ a ∈ R, a.1 ≤ n ∧ n ≤ a.2
theorem canon_tail {a : Int × Int} {R : Src} (h : Canon (a :: R)) : Canon R := ⟨(List.pairwise_cons.mp h.1).2, fun b hb => h.2 b (List.mem_cons_of_mem _ hb)⟩
theorem inn_lo {a : Int × Int} {R : Src} (h : Canon (a :: R)) {n : Int} (hn : inn n (a :: R)) : a.1 ≤ n := by
  obtain ⟨b, hb, h1, h2⟩ := hn
  have ha := h.2 a List.mem_cons_self
  rcases List.mem_cons.mp hb with e | e
  · subst e; exact h1
  · have := (List.pairwise_cons.mp h.1).1 b e; omega
theorem inn_tail {a : Int × Int} {R : Src} (h : Canon (a :: R)) {n : Int} : inn n R ↔ (inn n (a :: R) ∧ a.2 < n) := by
  constructor
  · rintro ⟨b, hb, h1, h2⟩
    have := (List.pairwise_cons.mp h.1).1 b hb
    exact ⟨⟨b, List.mem_cons_of_mem _ hb, h1, h2⟩, by omega⟩
  · rintro ⟨⟨b, hb, h1, h2⟩, h3⟩
    rcases List.mem_cons.mp hb with e | e
    · subst e; omega
    · exact ⟨b, e, h1, h2⟩
theorem canon_gap {a : Int × Int} {R : Src} (h : Canon (a :: R)) : ¬ inn (a.2 + 1) (a :: R) := by
  rintro ⟨b, hb, h1, h2⟩
  rcases List.mem_cons.mp hb with e | e
  · subst e; omega
  · have := (List.pairwise_cons.mp h.1).1 b e; omega
theorem canon_uniq : ∀ {R T : Src}, Canon R → Canon T → (∀ n, inn n R ↔ inn n T) → R = T
  | [], [], _, _, _ => rfl
  | [], b :: T, _, hT, h => by
    obtain ⟨c, hc, _⟩ := (h b.1).mpr ⟨b, List.mem_cons_self, Int.le_refl _, hT.2 b List.mem_cons_self⟩
    cases hc
  | a :: R, [], hR, _, h => by
    obtain ⟨c, hc, _⟩ := (h a.1).mp ⟨a, List.mem_cons_self, Int.le_refl _, hR.2 a List.mem_cons_self⟩
    cases hc
  | a :: R, b :: T, hR, hT, h => by
    have ha := hR.2 a List.mem_cons_self
    have hb := hT.2 b List.mem_cons_self
    have e1 : a.1 = b.1 := by
      have h1 := inn_lo hT ((h a.1).mp ⟨a, List.mem_cons_self, Int.le_refl _, ha⟩)
      have h2 := inn_lo hR ((h b.1).mpr ⟨b, List.mem_cons_self, Int.le_refl _, hb⟩)
      omega
    have key : ∀ {a b : Int × Int} {R T : Src}, Canon (a :: R) → Canon (b :: T) → (∀ n, inn n (a :: R) ↔ inn n (b :: T)) → a.1 = b.1 → ¬ a.2 < b.2 := fun {a b R T} hR hT h e1 lt => by
      have ha := hR.2 a List.mem_cons_self
      exact canon_gap hR ((h (a.2 + 1)).mpr ⟨b, List.mem_cons_self, by omega, by omega⟩)
    have n1 := key hR hT h e1
    have n2 := key hT hR (fun n => (h n).symm) e1.symm
    have e : a = b := Prod.ext e1 (by omega)
    subst e
    rw [canon_uniq (canon_tail hR) (canon_tail hT) fun n => ?_]
    rw [inn_tail hR, inn_tail hT, h n]
/-- what the program's and the law's joining gives -/
theorem joinS_ok {J : Src} {p : Int × Int} (h : Canon J) (hp : p.1 ≤ p.2) (hl : ∀ a ∈ J, a.2 < p.1) : Canon (joinS J p) ∧ (∀ n, inn n (joinS J p) ↔ inn n J ∨ (p.1 ≤ n ∧ n ≤ p.2)) ∧ ∀ a ∈ joinS J p, a.2 ≤ p.2 := by
  unfold joinS
  cases hg : J.getLast? with
  | none =>
    have e0 : J = [] := List.getLast?_eq_none_iff.mp hg
    subst e0
    refine ⟨⟨by simp, by simpa using hp⟩, fun n => ?_, by simp⟩
    constructor
    · rintro ⟨a, ha, h1, h2⟩; simp at ha; subst ha; exact .inr ⟨h1, h2⟩
    · rintro (⟨a, ha, _⟩ | h)
      · cases ha
      · exact ⟨p, by simp, h⟩
  | some q =>
    obtain ⟨L, rfl⟩ := List.getLast?_eq_some_iff.mp hg
    have hq := h.2 q (by simp)
    have hpw := List.pairwise_append.mp h.1
    have hlq := hl q (by simp)
    simp only
    by_cases hc : q.2 + 1 = p.1
    · rw [if_pos hc, List.dropLast_concat]
      refine ⟨⟨?_, ?_⟩, fun n => ?_, ?_⟩
      · exact List.pairwise_append.mpr ⟨hpw.1, by simp, fun a ha b hb => by simp at hb; subst hb; exact hpw.2.2 a ha q (by simp)⟩
      · intro a ha
        rcases List.mem_append.mp ha with z | z
        · exact h.2 a (List.mem_append_left _ z)
        · simp at z; subst z; simp; omega
      · constructor
        · rintro ⟨a, ha, h1, h2⟩
          rcases List.mem_append.mp ha with z | z
          · exact .inl ⟨a, List.mem_append_left _ z, h1, h2⟩
          · simp at z; subst z
            simp at h1 h2
            by_cases w : n ≤ q.2
            · exact .inl ⟨q, by simp, h1, w⟩
            · exact .inr ⟨by omega, h2⟩
        · rintro (⟨a, ha, h1, h2⟩ | ⟨h1, h2⟩)
          · rcases List.mem_append.mp ha with z | z
            · exact ⟨a, List.mem_append_left _ z, h1, h2⟩
            · simp at z; subst z
              exact ⟨(a.1, p.2), by simp, h1, by simp; omega⟩
          · exact ⟨(q.1, p.2), by simp, by simp; omega, h2⟩
      · intro a ha
        rcases List.mem_append.mp ha with z | z
        · have := hl a (List.mem_append_left _ z); omega
        · simp at z; subst z; simp
    · rw [if_neg hc]
      refine ⟨⟨?_, ?_⟩, fun n => ?_, ?_⟩
      · refine List.pairwise_append.mpr ⟨h.1, by simp, fun a ha b hb => ?_⟩
        simp at hb; subst hb
        rcases List.mem_append.mp ha with z | z
        · have := hpw.2.2 a z q (by simp); omega
        · simp at z; subst z; omega
      · intro a ha
        rcases List.mem_append.mp ha with z | z
        · exact h.2 a z
        · simp at z; subst z; exact hp
      · constructor
        · rintro ⟨a, ha, h1, h2⟩
          rcases List.mem_append.mp ha with z | z
          · exact .inl ⟨a, z, h1, h2⟩
          · simp at z; subst z; exact .inr ⟨h1, h2⟩
        · rintro (⟨a, ha, h1, h2⟩ | h3)
          · exact ⟨a, List.mem_append_left _ ha, h1, h2⟩
          · exact ⟨p, by simp, h3⟩
      · intro a ha
        rcases List.mem_append.mp ha with z | z
        · have := hl a z; omega
        · simp at z; subst z; exact Int.le_refl _
theorem joinR_ok {R : Src} (h : ch R) : Canon (joinR R) ∧ ∀ n, inn n (joinR R) ↔ inn n R := by
  have key : ∀ (R J : Src), ch R → Canon J → (∀ a ∈ J, ∀ b ∈ R, a.2 < b.1) → Canon (R.foldl joinS J) ∧ ∀ n, inn n (R.foldl joinS J) ↔ inn n J ∨ inn n R := by
    intro R
    induction R with
    | nil =>
      intro J _ hJ _
      exact ⟨hJ, fun n => ⟨.inl, by rintro (z | ⟨a, ha, _⟩); exact z; cases ha⟩⟩
    | cons p R ih =>
      intro J hR hJ hl
      have hp := hR.2 p List.mem_cons_self
      obtain ⟨h1, h2, h3⟩ := joinS_ok hJ hp fun a ha => hl a ha p List.mem_cons_self
      have hpw := List.pairwise_cons.mp hR.1
      obtain ⟨g1, g2⟩ := ih (joinS J p) ⟨hpw.2, fun a ha => hR.2 a (List.mem_cons_of_mem _ ha)⟩ h1 fun a ha b hb => by
        have := h3 a ha
        have := hpw.1 b hb
        omega
      refine ⟨g1, fun n => ?_⟩
      rw [List.foldl_cons, g2 n, h2 n]
      constructor
      · rintro ((z | z) | ⟨a, ha, z⟩)
        · exact .inl z
        · exact .inr ⟨p, List.mem_cons_self, z⟩
        · exact .inr ⟨a, List.mem_cons_of_mem _ ha, z⟩
      · rintro (z | ⟨a, ha, z⟩)
        · exact .inl (.inl z)
        · rcases List.mem_cons.mp ha with e | e
          · subst e; exact .inl (.inr z)
          · exact .inr ⟨a, e, z⟩
  obtain ⟨h1, h2⟩ := key R [] h ⟨by simp, fun _ z => by cases z⟩ fun _ z => by cases z
  refine ⟨h1, fun n => ?_⟩
  show inn n (R.foldl joinS []) ↔ _
  rw [h2 n]
  exact ⟨by rintro (⟨a, ha, _⟩ | z); cases ha; exact z, .inr⟩
theorem spansOf_ok {L : List Int} (h : L.Nodup) : Canon (spansOf L) ∧ ∀ n, inn n (spansOf L) ↔ n ∈ L := by
  have hs := sortI_sorted L
  have hp := sortI_perm L
  have hnd : (sortI L).Nodup := hp.nodup_iff.mpr h
  have hc : ch ((sortI L).map dup) := by
    refine ⟨?_, fun a ha => ?_⟩
    · rw [List.pairwise_map]
      refine (hs.and hnd).imp ?_
      intro a b ⟨h1, h2⟩
      show a < b
      omega
    · obtain ⟨x, _, rfl⟩ := List.mem_map.mp ha; exact Int.le_refl _
  obtain ⟨h1, h2⟩ := joinR_ok hc
  refine ⟨h1, fun n => ?_⟩
  show inn n (joinR _) ↔ _
  rw [h2 n, ← hp.mem_iff]
  constructor
  · rintro ⟨a, ha, z1, z2⟩
    obtain ⟨x, hx, rfl⟩ := List.mem_map.mp ha
    have : x = n := by simp [dup] at z1 z2; omega
    rw [← this]; exact hx
  · intro hn
    exact ⟨dup n, List.mem_map_of_mem hn, Int.le_refl _, Int.le_refl _⟩

/-! ### the least and the most of them -/
theorem minI_in {L : List Int} (h : L ≠ []) : minI L ∈ L ∧ ∀ x ∈ L, minI L ≤ x := by
  cases L with
  | nil => exact absurd rfl h
  | cons a L =>
    obtain ⟨h1, h2, h3⟩ := foldl_min L a
    refine ⟨?_, fun x hx => ?_⟩
    · rcases h1 with e | e
      · show L.foldl min a ∈ _
        rw [e]; exact List.mem_cons_self
      · exact List.mem_cons_of_mem _ e
    · rcases List.mem_cons.mp hx with e | e
      · rw [e]; exact h2
      · exact h3 x e
theorem maxI_in {L : List Int} (h : L ≠ []) : maxI L ∈ L ∧ ∀ x ∈ L, x ≤ maxI L := by
  cases L with
  | nil => exact absurd rfl h
  | cons a L =>
    obtain ⟨h1, h2, h3⟩ := foldl_max L a
    refine ⟨?_, fun x hx => ?_⟩
    · rcases h1 with e | e
      · show L.foldl max a ∈ _
        rw [e]; exact List.mem_cons_self
      · exact List.mem_cons_of_mem _ e
    · rcases List.mem_cons.mp hx with e | e
      · rw [e]; exact h2
      · exact h3 x e
theorem canon_last : ∀ {R : Src} {z : Int × Int}, Canon R → R.getLast? = some z → ∀ a ∈ R, a.2 ≤ z.2 := by
  intro R z h hz a ha
  obtain ⟨L, rfl⟩ := List.getLast?_eq_some_iff.mp hz
  rcases List.mem_append.mp ha with w | w
  · have := (List.pairwise_append.mp h.1).2.2 a w z (by simp)
    have := h.2 z (by simp)
    omega
  · simp at w; subst w; exact Int.le_refl _
theorem lo_hi {R : Src} {L : List Int} (h : Canon R) (hm : ∀ n, inn n R ↔ n ∈ L) (hn : L ≠ []) : R ≠ [] ∧ loOf R = minI L ∧ hiOf R = maxI L := by
  obtain ⟨m1, m2⟩ := minI_in hn
  obtain ⟨x1, x2⟩ := maxI_in hn
  have hne : R ≠ [] := by
    rintro rfl
    obtain ⟨a, ha, _⟩ := (hm _).mpr m1
    cases ha
  refine ⟨hne, ?_, ?_⟩
  · cases R with
    | nil => exact absurd rfl hne
    | cons a R =>
      show a.1 = minI L
      have h1 := m2 a.1 ((hm _).mp ⟨a, List.mem_cons_self, Int.le_refl _, h.2 a List.mem_cons_self⟩)
      have h2 := inn_lo h ((hm _).mpr m1)
      omega
  · cases hg : R.getLast? with
    | none => exact absurd (List.getLast?_eq_none_iff.mp hg) hne
    | some z =>
      have e : hiOf R = z.2 := by unfold hiOf; rw [hg]
      rw [e]
      have hz : z ∈ R := List.mem_of_getLast? hg
      have h1 := x2 z.2 ((hm _).mp ⟨z, hz, h.2 z hz, Int.le_refl _⟩)
      obtain ⟨a, ha, _, h3⟩ := (hm _).mpr x1
      have := canon_last h hg a ha
      omega
theorem inn_nil {R : Src} {L : List Int} (hc : Canon R) (hm : ∀ n, inn n R ↔ n ∈ L) : R = [] ↔ L = [] := by
  constructor
  · rintro rfl
    cases L with
    | nil => rfl
    | cons a L =>
      obtain ⟨b, hb, _⟩ := (hm a).mpr List.mem_cons_self
      cases hb
  · rintro rfl
    cases R with
    | nil => rfl
    | cons a R =>
      have := (hm a.1).mp ⟨a, List.mem_cons_self, Int.le_refl _, hc.2 a List.mem_cons_self⟩
      cases this
end PG

namespace PG
open PySem PySem.Spec L2 PF

/-! ### having, and counting -/
theorem mem_hav {S : Src} {n x : Int} : x ∈ hav S n ↔ ∃ p, S[x.toNat]? = some p ∧ 0 ≤ x ∧ p.1 ≤ n ∧ n ≤ p.2 := by
  unfold hav
  constructor
  · intro h
    obtain ⟨q, hq, rfl⟩ := List.mem_map.mp h
    obtain ⟨h1, h2⟩ := List.mem_filter.mp hq
    have := mem_zipIdx h1
    simp at h2
    exact ⟨q.1, by simpa using this, by omega, h2⟩
  · rintro ⟨p, h1, h2, h3, h4⟩
    refine List.mem_map.mpr ⟨(p, x.toNat), List.mem_filter.mpr ⟨List.mem_zipIdx_iff_getElem?.mpr (by simpa using h1), by simp [h3, h4]⟩, by simp; omega⟩
theorem hav_congr {S : Src} {n n' : Int} (h : ∀ p ∈ S, (p.1 ≤ n ∧ n ≤ p.2) ↔ (p.1 ≤ n' ∧ n' ≤ p.2)) : hav S n = hav S n' := by
  unfold hav
  congr 1
  apply List.filter_congr
  intro q hq
  have := h q.1 (List.mem_of_getElem? (mem_zipIdx hq))
  rw [Bool.eq_iff_iff]
  simpa using this
/-- the weights of those that have n -/
theorem wsum_go (n : Int) : ∀ (S : Src) (W : List Int) (k : Nat) (pre : List Int), W.length = S.length → pre.length = k →
    (((S.zipIdx k).filter fun p => decide (p.1.1 ≤ n) && decide (n ≤ p.1.2)).map fun p => (pre ++ W).getD p.2 0).sum = val (W.zip S) n
  | [], W, k, pre, hW, hk => by
    have : W = [] := List.length_eq_zero_iff.mp hW
    subst this; rfl
  | p :: S, [], k, pre, hW, hk => by simp at hW
  | p :: S, w :: W, k, pre, hW, hk => by
    have ih := wsum_go n S W (k + 1) (pre ++ [w]) (by simpa using hW) (by simp [hk])
    rw [List.append_assoc, List.singleton_append] at ih
    have e : (w :: W).zip (p :: S) = [(w, (p.1, p.2))] ++ W.zip S := rfl
    rw [e, val_app, val_one, ← ih, List.zipIdx_cons]
    have hat : (pre ++ w :: W).getD k 0 = w := by
      rw [List.getD_eq_getElem?_getD, List.getElem?_append_right (by omega), hk]; simp
    by_cases h : p.1 ≤ n ∧ n ≤ p.2
    · rw [if_pos h, List.filter_cons_of_pos (by simpa using h), List.map_cons, List.sum_cons, hat]
    · rw [if_neg h, List.filter_cons_of_neg (by simpa using h)]; omega
theorem wsum_val {S : Src} {W : List Int} (h : W.length = S.length) (n : Int) : wsum W (hav S n) = val (W.zip S) n := by
  have := wsum_go n S W 0 [] h rfl
  unfold wsum hav
  rw [List.map_map]
  simpa [Function.comp_def] using this
theorem one_zip (S : Src) : one S = (List.replicate S.length (1 : Int)).zip S := by
  unfold one
  induction S with
  | nil => rfl
  | cons p S ih => simp [List.replicate_succ, ih]
theorem wsum_ones {l : List Int} {k : Nat} (h : ∀ x ∈ l, 0 ≤ x ∧ x < k) : wsum (List.replicate k 1) l = l.length := by
  unfold wsum
  induction l with
  | nil => rfl
  | cons a l ih =>
    have ha := h a List.mem_cons_self
    rw [List.map_cons, List.sum_cons, ih fun x hx => h x (List.mem_cons_of_mem _ hx)]
    have : (List.replicate k (1 : Int)).getD a.toNat 0 = 1 := by
      rw [List.getD_eq_getElem?_getD, List.getElem?_replicate, if_pos (by omega)]; rfl
    rw [this, List.length_cons]; omega
theorem cnt_hav (S : Src) (n : Int) : val (one S) n = ((hav S n).length : Int) := by
  rw [one_zip, ← wsum_val (by simp) n]
  exact wsum_ones fun x hx => hav_bd hx
theorem cov_hav {S : Src} {ks : List Int} (hg : good (one S) ks) {n : Int} : n ∈ ks ↔ hav S n ≠ [] := by
  rw [hg.2 n]
  constructor
  · rintro ⟨t, ht, c⟩
    obtain ⟨p, hp, rfl⟩ := List.mem_map.mp ht
    obtain ⟨i, hi, e⟩ := List.mem_iff_getElem.mp hp
    unfold cov at c; simp at c
    have : (i : Int) ∈ hav S n := mem_hav.mpr ⟨p, by simp [hi, e], by omega, c⟩
    intro z; rw [z] at this; cases this
  · intro h
    obtain ⟨x, hx⟩ := List.exists_mem_of_ne_nil _ h
    obtain ⟨p, h1, _, h2, h3⟩ := mem_hav.mp hx
    exact ⟨(1, p), List.mem_map_of_mem (List.mem_of_getElem? h1), by unfold cov; simp [h2, h3]⟩

/-! ### the pieces -/
theorem zip_tail_lt : ∀ {l : List Int} {a b : Int}, l.Pairwise (· < ·) → (a, b) ∈ l.zip l.tail → a < b ∧ a ∈ l ∧ b ∈ l ∧ ∀ c ∈ l, c ≤ a ∨ b ≤ c
  | [], a, b, _, h => by simp at h
  | [x], a, b, _, h => by simp at h
  | x :: y :: r, a, b, hp, h => by
    have hp' := List.pairwise_cons.mp hp
    rcases List.mem_cons.mp (show (a, b) ∈ (x, y) :: (y :: r).zip r from h) with e | e
    · have ea : a = x := congrArg Prod.fst e
      have eb : b = y := congrArg Prod.snd e
      rw [ea, eb]
      refine ⟨hp'.1 y List.mem_cons_self, List.mem_cons_self, by simp, fun c hc => ?_⟩
      rcases List.mem_cons.mp hc with z | z
      · exact .inl (Int.le_of_eq z)
      · rcases List.mem_cons.mp z with w | w
        · exact .inr (Int.le_of_eq w.symm)
        · have := (List.pairwise_cons.mp hp'.2).1 c w
          exact .inr (by omega)
    · obtain ⟨h1, h2, h3, h4⟩ := zip_tail_lt hp'.2 e
      refine ⟨h1, List.mem_cons_of_mem _ h2, List.mem_cons_of_mem _ h3, fun c hc => ?_⟩
      rcases List.mem_cons.mp hc with z | z
      · have := hp'.1 a h2; exact .inl (by omega)
      · exact h4 c z
theorem zip_tail_pw : ∀ {l : List Int}, l.Pairwise (· < ·) → (l.zip l.tail).Pairwise (fun a b => a.2 ≤ b.1)
  | [], _ => by simp
  | [x], _ => by simp
  | x :: y :: r, hp => by
    have hp' := List.pairwise_cons.mp hp
    show ((x, y) :: (y :: r).zip r).Pairwise _
    refine List.pairwise_cons.mpr ⟨fun b hb => ?_, zip_tail_pw hp'.2⟩
    obtain ⟨_, h2, _⟩ := zip_tail_lt hp'.2 (show (b.1, b.2) ∈ (y :: r).zip (y :: r).tail from hb)
    rcases List.mem_cons.mp h2 with z | z
    · exact Int.le_of_eq z.symm
    · have := (List.pairwise_cons.mp hp'.2).1 _ z; show y ≤ b.1; omega
theorem zip_tail_cov : ∀ {l : List Int} {n u v : Int}, l.Pairwise (· < ·) → u ∈ l → v ∈ l → u ≤ n → n < v → ∃ a b, (a, b) ∈ l.zip l.tail ∧ a ≤ n ∧ n < b
  | [x], n, u, v, _, hu, hv, h1, h2 => by simp at hu hv; omega
  | x :: y :: r, n, u, v, hp, hu, hv, h1, h2 => by
    have hp' := List.pairwise_cons.mp hp
    by_cases h : n < y
    · refine ⟨x, y, by simp, ?_, h⟩
      rcases List.mem_cons.mp hu with z | z
      · omega
      · rcases List.mem_cons.mp z with w | w
        · omega
        · have := (List.pairwise_cons.mp hp'.2).1 u w; omega
    · have hv' : v ∈ y :: r := by
        rcases List.mem_cons.mp hv with z | z
        · have := hp'.1 y List.mem_cons_self; omega
        · exact z
      obtain ⟨a, b, h3, h4⟩ := zip_tail_cov hp'.2 (List.mem_cons_self (a := y)) hv' (by omega) h2
      cases r with
      | nil => simp at h3
      | cons z r => exact ⟨a, b, List.mem_cons_of_mem _ h3, h4⟩
theorem edges_pw (S : Src) : (edges S).Pairwise (· < ·) := setI_pw _
theorem mem_edges {S : Src} {c : Int} : c ∈ edges S ↔ ∃ p ∈ S, c = p.1 ∨ c = p.2 + 1 := by
  unfold edges
  rw [mem_setI, List.mem_append, List.mem_map, List.mem_map]
  constructor
  · rintro (⟨p, h, rfl⟩ | ⟨p, h, rfl⟩)
    · exact ⟨p, h, .inl rfl⟩
    · exact ⟨p, h, .inr rfl⟩
  · rintro ⟨p, h, rfl | rfl⟩
    · exact .inl ⟨p, h, rfl⟩
    · exact .inr ⟨p, h, rfl⟩
/-- within a piece all numbers are had by the same -/
theorem piece_ok {S : Src} {r : Piece} (hr : r ∈ pieces S) : r.1 ≤ r.2.1 ∧ ∀ n, r.1 ≤ n → n ≤ r.2.1 → hav S n = r.2.2 := by
  obtain ⟨⟨a, b⟩, hq, rfl⟩ := List.mem_map.mp hr
  obtain ⟨h1, _, _, h4⟩ := zip_tail_lt (edges_pw S) hq
  refine ⟨by show a ≤ b - 1; omega, fun n hn1 hn2 => ?_⟩
  have hn1 : a ≤ n := hn1
  have hn2 : n ≤ b - 1 := hn2
  refine hav_congr fun p hp => ?_
  have c1 := h4 p.1 (mem_edges.mpr ⟨p, hp, .inl rfl⟩)
  have c2 := h4 (p.2 + 1) (mem_edges.mpr ⟨p, hp, .inr rfl⟩)
  show (p.1 ≤ n ∧ n ≤ p.2) ↔ (p.1 ≤ a ∧ a ≤ p.2)
  omega
theorem pieces_ch {S : Src} (f : Piece → Bool) : ch (((pieces S).filter f).map fun r => (r.1, r.2.1)) := by
  refine ⟨?_, fun a ha => ?_⟩
  · rw [List.pairwise_map]
    refine List.Pairwise.filter _ ?_
    unfold pieces
    rw [List.pairwise_map]
    refine (zip_tail_pw (edges_pw S)).imp ?_
    intro a b h
    show a.2 - 1 < b.1
    omega
  · obtain ⟨r, hr, rfl⟩ := List.mem_map.mp ha
    exact (piece_ok (List.mem_filter.mp hr).1).1
theorem piece_cov {S : Src} {n : Int} (h : hav S n ≠ []) : ∃ r ∈ pieces S, r.1 ≤ n ∧ n ≤ r.2.1 := by
  obtain ⟨x, hx⟩ := List.exists_mem_of_ne_nil _ h
  obtain ⟨p, h1, _, h2, h3⟩ := mem_hav.mp hx
  have hp := List.mem_of_getElem? h1
  obtain ⟨a, b, h4, h5, h6⟩ := zip_tail_cov (edges_pw S) (mem_edges.mpr ⟨p, hp, .inl rfl⟩) (mem_edges.mpr ⟨p, hp, .inr rfl⟩) h2 (show n < p.2 + 1 by omega)
  exact ⟨(a, b - 1, hav S a), List.mem_map.mpr ⟨(a, b), h4, rfl⟩, h5, by show n ≤ b - 1; omega⟩
theorem joined_ok {S : Src} (f : List Int → Bool) (h0 : f [] = false) : Canon (joinR (((pieces S).filter fun r => f r.2.2).map fun r => (r.1, r.2.1))) ∧
    ∀ n, inn n (joinR (((pieces S).filter fun r => f r.2.2).map fun r => (r.1, r.2.1))) ↔ f (hav S n) = true := by
  obtain ⟨h1, h2⟩ := joinR_ok (pieces_ch (S := S) fun r => f r.2.2)
  refine ⟨h1, fun n => ?_⟩
  rw [h2 n]
  constructor
  · rintro ⟨a, ha, z1, z2⟩
    obtain ⟨r, hr, rfl⟩ := List.mem_map.mp ha
    obtain ⟨g1, g2⟩ := List.mem_filter.mp hr
    rw [(piece_ok g1).2 n z1 z2]; exact g2
  · intro h
    obtain ⟨r, hr, z1, z2⟩ := piece_cov (S := S) (n := n) (fun e => by rw [e, h0] at h; cases h)
    rw [(piece_ok hr).2 n z1 z2] at h
    exact ⟨(r.1, r.2.1), List.mem_map.mpr ⟨r, List.mem_filter.mpr ⟨hr, h⟩, rfl⟩, z1, z2⟩
theorem told_ok {S : Src} {many : Int} (h : 1 ≤ many) : Canon (told S many) ∧ ∀ n, inn n (told S many) ↔ many ≤ ((hav S n).length : Int) := by
  obtain ⟨h1, h2⟩ := joined_ok (S := S) (fun l => decide (many ≤ (l.length : Int))) (by simp; omega)
  exact ⟨h1, fun n => by have z := h2 n; rw [decide_eq_true_eq] at z; exact z⟩

/-! ### the law's numbers against the program's pieces -/
section
variable {S : Src} {ks : List Int}
theorem keys_many (hg : good (one S) ks) {many : Int} (h : 1 ≤ many) (n : Int) : n ∈ (ks.filter fun n => decide (many ≤ val (one S) n)) ↔ many ≤ ((hav S n).length : Int) := by
  rw [List.mem_filter, cov_hav hg, cnt_hav]
  simp only [decide_eq_true_eq]
  constructor
  · exact fun z => z.2
  · intro z
    refine ⟨?_, z⟩
    intro e; rw [e] at z; simp at z; omega
theorem told_spans (hg : good (one S) ks) {many : Int} (h : 1 ≤ many) : told S many = spansOf (ks.filter fun n => decide (many ≤ val (one S) n)) := by
  obtain ⟨h1, h2⟩ := told_ok (S := S) h
  obtain ⟨g1, g2⟩ := spansOf_ok (hg.1.filter fun n => decide (many ≤ val (one S) n))
  exact canon_uniq h1 g1 fun n => by rw [h2, g2, keys_many hg h]
theorem most_eq (hS : okS S) (hg : good (one S) ks) : ks ≠ [] ∧ mostA S = maxI (ks.map (val (one S))) := by
  have hm := mostA_toNat hS
  obtain ⟨r, hr, e⟩ := mostA_in hS
  have hp := piece_ok hr
  have hh := hp.2 r.1 (Int.le_refl _) hp.1
  have hk : r.1 ∈ ks := (cov_hav hg).mpr (by rw [hh]; intro z; rw [z] at e; simp at e; omega)
  have hne : ks.map (val (one S)) ≠ [] := by
    intro z
    have : ks = [] := List.map_eq_nil_iff.mp z
    rw [this] at hk; cases hk
  obtain ⟨m1, m2⟩ := maxI_in hne
  refine ⟨fun z => (by rw [z] at hk; cases hk), ?_⟩
  have a1 := m2 _ (List.mem_map_of_mem (f := val (one S)) hk)
  rw [cnt_hav, hh, ← e] at a1
  obtain ⟨n, hn, e2⟩ := List.mem_map.mp m1
  obtain ⟨r2, hr2, z1, z2⟩ := piece_cov ((cov_hav hg).mp hn)
  have a2 := mostA_all hr2
  rw [← (piece_ok hr2).2 n z1 z2, ← cnt_hav, e2] at a2
  omega
theorem lots_eq (hS : okS S) (hg : good (one S) ks) : lots S = setT ((ks.filter fun n => decide (val (one S) n = mostA S)).map (hav S)) := by
  have hm := mostA_toNat hS
  have hl := hS.2.1
  have ok1 : ∀ k ∈ (((pieces S).filter fun r => decide ((r.2.2.length : Int) = mostA S)).map fun r => r.2.2), okT (mostA S).toNat k := fun k hk => by
    obtain ⟨r, hr, rfl⟩ := List.mem_map.mp hk
    obtain ⟨h1, h2⟩ := List.mem_filter.mp hr
    have h2 : (r.2.2.length : Int) = mostA S := by simpa using h2
    refine ⟨by omega, fun x hx => ?_⟩
    obtain ⟨n, en⟩ := piece_have h1
    rw [en] at hx
    have := hav_bd hx
    omega
  have ok2 : ∀ k ∈ ((ks.filter fun n => decide (val (one S) n = mostA S)).map (hav S)), okT (mostA S).toNat k := fun k hk => by
    obtain ⟨n, hn, rfl⟩ := List.mem_map.mp hk
    have h2 := (List.mem_filter.mp hn).2
    rw [cnt_hav] at h2
    have h2 : ((hav S n).length : Int) = mostA S := by simpa using h2
    exact ⟨by omega, fun x hx => by have := hav_bd hx; omega⟩
  refine pwK_uniq codeT (setK_pw codeT _) (setK_pw codeT _) fun z => ?_
  show z ∈ setT _ ↔ z ∈ setT _
  rw [mem_setT ok1, mem_setT ok2]
  constructor
  · intro h
    obtain ⟨r, hr, rfl⟩ := List.mem_map.mp h
    obtain ⟨h1, h2⟩ := List.mem_filter.mp hr
    have h2 : (r.2.2.length : Int) = mostA S := by simpa using h2
    have hp := piece_ok h1
    have hh := hp.2 r.1 (Int.le_refl _) hp.1
    refine List.mem_map.mpr ⟨r.1, List.mem_filter.mpr ⟨(cov_hav hg).mpr ?_, ?_⟩, hh⟩
    · rw [hh]; intro e; rw [e] at h2; simp at h2; omega
    · rw [cnt_hav, hh, h2]; simp
  · intro h
    obtain ⟨n, hn, rfl⟩ := List.mem_map.mp h
    obtain ⟨h1, h2⟩ := List.mem_filter.mp hn
    rw [cnt_hav] at h2
    have h2 : ((hav S n).length : Int) = mostA S := by simpa using h2
    obtain ⟨r, hr, z1, z2⟩ := piece_cov ((cov_hav hg).mp h1)
    have hh := (piece_ok hr).2 n z1 z2
    exact List.mem_map.mpr ⟨r, List.mem_filter.mpr ⟨hr, by rw [← hh, h2]; simp⟩, hh.symm⟩
theorem weigh_eq {W ks2 : List Int} {e : Int} (hW : W.length = S.length) (he : 1 ≤ e) (hg : good (W.zip S) ks2) : weigh S W e = spansOf (ks2.filter fun n => decide (e ≤ val (W.zip S) n)) := by
  obtain ⟨h1, h2⟩ := joined_ok (S := S) (fun l => decide (e ≤ wsum W l)) (by
    have : wsum W [] = 0 := rfl
    simp [this]; omega)
  obtain ⟨g1, g2⟩ := spansOf_ok (hg.1.filter fun n => decide (e ≤ val (W.zip S) n))
  refine canon_uniq h1 g1 fun n => ?_
  show inn n (joinR _) ↔ _
  rw [h2, g2, List.mem_filter, wsum_val hW]
  simp only [decide_eq_true_eq]
  constructor
  · intro z
    refine ⟨?_, z⟩
    by_cases hn : n ∈ ks2
    · exact hn
    · rw [val_none hg hn] at z; omega
  · exact fun z => z.2
end
end PG

namespace PG
open PySem PySem.Spec L2 PF

theorem trim_lo {S : Src} {wr : Int} (h : 0 ≤ wr ∧ wr < S.length) : atI ((sortI (S.map fun p => p.1)).reverse.map D.int) wr = some (.int (trim S wr).1) := by
  have l1 : (sortI (S.map fun p => p.1)).length = S.length := by rw [(sortI_perm _).length_eq, List.length_map]
  refine atI_map D.int _ _ _ h.1 ?_
  rw [List.getElem?_reverse (by omega), l1]
  unfold trim
  rw [List.getD_eq_getElem?_getD]
  have e : ((S.length : Int) - 1 - wr).toNat = S.length - 1 - wr.toNat := by omega
  have : S.length - 1 - wr.toNat < (sortI (S.map fun p => p.1)).length := by omega
  simp [e, this]
theorem trim_hi {S : Src} {wr : Int} (h : 0 ≤ wr ∧ wr < S.length) : atI ((sortI (S.map fun p => p.2)).map D.int) wr = some (.int (trim S wr).2) := by
  have l2 : (sortI (S.map fun p => p.2)).length = S.length := by rw [(sortI_perm _).length_eq, List.length_map]
  refine atI_map D.int _ _ _ h.1 ?_
  unfold trim
  rw [List.getD_eq_getElem?_getD]
  have : wr.toNat < (sortI (S.map fun p => p.2)).length := by omega
  simp [this]
theorem others_go (t : Nat) : ∀ (S : Src) (k : Nat), ((S.zipIdx k).filter fun p => !decide ((p.2 : Int) = (t : Int))).map (fun p => p.1) = if t < k then S else S.take (t - k) ++ S.drop (t - k + 1)
  | [], k => by simp
  | p :: S, k => by
    rw [List.zipIdx_cons]
    have ih := others_go t S (k + 1)
    by_cases e : k = t
    · subst e
      rw [List.filter_cons_of_neg (by simp), ih, if_pos (by omega), if_neg (by omega)]
      simp
    · rw [List.filter_cons_of_pos (by simp; omega), List.map_cons, ih]
      by_cases h : t < k
      · rw [if_pos (by omega), if_pos h]
      · rw [if_neg (by omega), if_neg h]
        have : t - k = (t - (k + 1)) + 1 := by omega
        rw [this]; simp
theorem others_eq (S : Src) {i : Int} (h : 0 ≤ i) : others S i = restOf S i := by
  have := others_go i.toNat S 0
  rw [Int.toNat_of_nonneg h] at this
  unfold others restOf
  rw [this, if_neg (by omega)]
  have : (i + 1).toNat = i.toNat + 1 := by omega
  rw [this, Nat.sub_zero]
section
variable {S : Src} {ks : List Int}
theorem told_lo (hg : good (one S) ks) {many : Int} (h : 1 ≤ many) (hn : (ks.filter fun n => decide (many ≤ val (one S) n)) ≠ []) :
    told S many ≠ [] ∧ loOf (told S many) = minI (ks.filter fun n => decide (many ≤ val (one S) n)) ∧ hiOf (told S many) = maxI (ks.filter fun n => decide (many ≤ val (one S) n)) := by
  obtain ⟨h1, h2⟩ := told_ok (S := S) h
  exact lo_hi h1 (fun n => by rw [h2, keys_many hg h]) hn
theorem told_nil (hg : good (one S) ks) {many : Int} (h : 1 ≤ many) : told S many = [] ↔ (ks.filter fun n => decide (many ≤ val (one S) n)) = [] := by
  obtain ⟨h1, h2⟩ := told_ok (S := S) h
  exact inn_nil h1 fun n => by rw [h2, keys_many hg h]
theorem pull_eq {wr i : Int} (hi : 0 ≤ i) (hg : good (one (restOf S i)) ks) : pull S wr i = lawPull S wr ks (val (one (restOf S i))) := by
  unfold pull lawPull
  rw [others_eq S hi]
  by_cases h : (S.length : Int) - wr ≤ 1
  · rw [if_pos (by omega), if_pos h]; rfl
  · rw [if_neg (by omega), if_neg h]
    have hm : (1 : Int) ≤ S.length - wr - 1 := by omega
    by_cases he : (ks.filter fun n => decide ((S.length : Int) - wr - 1 ≤ val (one (restOf S i)) n)) = []
    · rw [if_pos ((told_nil hg hm).mpr he), if_pos he]
    · obtain ⟨h1, h2, h3⟩ := told_lo hg hm he
      rw [if_neg h1, if_neg he, h2, h3]
theorem right_eq (hg : good (one S) ks) {many : Int} (h : 1 ≤ many) (hn : (ks.filter fun n => decide (many ≤ val (one S) n)) ≠ []) :
    rightS S (told S many) = (S.zipIdx.filter fun p => (ks.filter fun n => decide (many ≤ val (one S) n)).all fun n => decide (p.1.1 ≤ n) && decide (n ≤ p.1.2)).map fun p => (p.2 : Int) := by
  obtain ⟨_, h2, h3⟩ := told_lo hg h hn
  unfold rightS
  rw [h2, h3]
  obtain ⟨m1, m2⟩ := minI_in hn
  obtain ⟨x1, x2⟩ := maxI_in hn
  generalize (ks.filter fun n => decide (many ≤ val (one S) n)) = L at *
  congr 1
  apply List.filter_congr
  intro p _
  rw [Bool.eq_iff_iff, Bool.and_eq_true, decide_eq_true_eq, decide_eq_true_eq, List.all_eq_true]
  constructor
  · rintro ⟨a, b⟩ n hn
    have := m2 n hn
    have := x2 n hn
    simp; omega
  · intro z
    have z1 := z _ m1
    have z2 := z _ x1
    simp at z1 z2
    omega
theorem wrong_eq (h7 : ∀ p ∈ S, p.1 ≤ p.2) (hg : good (one S) ks) {many : Int} (h : 1 ≤ many) :
    wrongS S (told S many) = (S.zipIdx.filter fun p => !((ks.filter fun n => decide (many ≤ val (one S) n)).any fun n => decide (p.1.1 ≤ n) && decide (n ≤ p.1.2))).map fun p => (p.2 : Int) := by
  obtain ⟨h1, h2⟩ := told_ok (S := S) h
  have h3 : ∀ n, inn n (told S many) ↔ n ∈ (ks.filter fun n => decide (many ≤ val (one S) n)) := fun n => by rw [h2, keys_many hg h]
  unfold wrongS
  generalize (ks.filter fun n => decide (many ≤ val (one S) n)) = L at *
  generalize told S many = R at *
  congr 1
  apply List.filter_congr
  intro p hp
  have hp2 := h7 p.1 (List.mem_of_getElem? (mem_zipIdx hp))
  congr 1
  rw [Bool.eq_iff_iff, List.any_eq_true, List.any_eq_true]
  constructor
  · rintro ⟨q, hq, z⟩
    have hq2 := h1.2 q hq
    simp at z
    by_cases w : q.1 ≤ p.1.1
    · exact ⟨p.1.1, (h3 _).mp ⟨q, hq, w, z.2⟩, by simp; omega⟩
    · exact ⟨q.1, (h3 _).mp ⟨q, hq, Int.le_refl _, hq2⟩, by simp; omega⟩
  · rintro ⟨n, hn, z⟩
    obtain ⟨q, hq, a, b⟩ := (h3 n).mpr hn
    simp at z
    exact ⟨q, hq, by simp; omega⟩
theorem truths_ne (hS : okS S) (hg : good (one S) ks) {wr : Int} (hm : ¬ more S wr) : (ks.filter fun n => decide ((S.length : Int) - wr ≤ val (one S) n)) ≠ [] := by
  obtain ⟨hne, e⟩ := most_eq hS hg
  have hne2 : ks.map (val (one S)) ≠ [] := fun z => hne (List.map_eq_nil_iff.mp z)
  obtain ⟨m1, _⟩ := maxI_in hne2
  obtain ⟨n, hn, e2⟩ := List.mem_map.mp m1
  unfold more at hm
  intro z
  have : n ∈ (ks.filter fun n => decide ((S.length : Int) - wr ≤ val (one S) n)) := List.mem_filter.mpr ⟨hn, by simp; omega⟩
  rw [z] at this; cases this
end

/-! ### shown -/
theorem joinR_ends (R : Src) : ∀ a ∈ joinR R, (∃ b ∈ R, a.1 = b.1) ∧ ∃ b ∈ R, a.2 = b.2 := by
  have key : ∀ (R J : Src) (P Q : Int → Prop), (∀ a ∈ J, P a.1 ∧ Q a.2) → (∀ b ∈ R, P b.1 ∧ Q b.2) → ∀ a ∈ R.foldl joinS J, P a.1 ∧ Q a.2 := by
    intro R
    induction R with
    | nil => intro J P Q h _; exact h
    | cons p R ih =>
      intro J P Q h1 h2
      refine ih (joinS J p) P Q ?_ fun b hb => h2 b (List.mem_cons_of_mem _ hb)
      have hp := h2 p List.mem_cons_self
      intro a ha
      unfold joinS at ha
      split at ha
      · next q hq =>
        have hqJ := List.mem_of_getLast? hq
        split at ha
        · rcases List.mem_append.mp ha with z | z
          · exact h1 a (List.dropLast_subset _ z)
          · simp at z; subst z; exact ⟨(h1 q hqJ).1, hp.2⟩
        · rcases List.mem_append.mp ha with z | z
          · exact h1 a z
          · simp at z; subst z; exact hp
      · simp at ha; subst ha; exact hp
  intro a ha
  exact key R [] (fun x => ∃ b ∈ R, x = b.1) (fun x => ∃ b ∈ R, x = b.2) (fun _ z => by cases z) (fun b hb => ⟨⟨b, hb, rfl⟩, ⟨b, hb, rfl⟩⟩) a ha
theorem shw_encP {p : Int × Int} (h1 : -1000000 < p.1 ∧ p.1 < 1000000) (h2 : -1000000 < p.2 ∧ p.2 < 1000000) : shw 3849 1 (encP p) := by
  refine shw_tup (k := 1921) (n := 0) (c := 2) (fun d hd => ?_) (by simp)
  simp at hd
  rcases hd with rfl | rfl
  · exact shw_int (by omega) (by omega)
  · exact shw_int (by omega) (by omega)
theorem shw_spans_of {L : List Int} (h : ∀ n ∈ L, -1000000 < n ∧ n < 1000000) (hl : L.length ≤ 60) : shw 231063 2 (.tup ((spansOf L).map encP)) := by
  have hlen : (spansOf L).length ≤ 60 := by
    have := joinR_len ((sortI L).map dup)
    rw [List.length_map, (sortI_perm L).length_eq] at this
    exact Nat.le_trans this hl
  refine shw_tup (k := 3849) (n := 1) (c := 60) (fun d hd => ?_) (by rw [List.length_map]; exact hlen)
  obtain ⟨p, hp, rfl⟩ := List.mem_map.mp hd
  obtain ⟨⟨a, ha, e1⟩, ⟨b, hb, e2⟩⟩ := joinR_ends _ p hp
  obtain ⟨x, hx, rfl⟩ := List.mem_map.mp ha
  obtain ⟨y, hy, rfl⟩ := List.mem_map.mp hb
  have h1 := h x ((sortI_perm L).mem_iff.mp hx)
  have h2 := h y ((sortI_perm L).mem_iff.mp hy)
  have e1 : p.1 = x := e1
  have e2 : p.2 = y := e2
  exact shw_encP (by rw [e1]; exact h1) (by rw [e2]; exact h2)
theorem shw_ints {L : List Int} (h : ∀ n ∈ L, -1000000 < n ∧ n < 1000000) (hl : L.length ≤ 20) : shw 38463 1 (.tup (L.map D.int)) := by
  refine shw_tup (k := 1921) (n := 0) (c := 20) (fun d hd => ?_) (by rw [List.length_map]; exact hl)
  obtain ⟨p, hp, rfl⟩ := List.mem_map.mp hd
  have := h p hp
  exact shw_int (by omega) (by omega)
theorem shw_pair {k1 n1 k2 n2 : Nat} {a b : D} (h1 : shw k1 n1 a) (h2 : shw k2 n2 b) : shw (2 * ((k1 + k2) + 2) + 3) (n1 + n2 + 1) (.tup [a, b]) := by
  refine shw_tup (fun d hd => ?_) (by simp)
  simp at hd
  rcases hd with rfl | rfl
  · exact h1.mono (by omega) (by omega)
  · exact h2.mono (by omega) (by omega)
theorem shw_three {k1 n1 k2 n2 k3 n3 : Nat} {a b c : D} (h1 : shw k1 n1 a) (h2 : shw k2 n2 b) (h3 : shw k3 n3 c) : shw (3 * ((k1 + k2 + k3) + 2) + 3) (n1 + n2 + n3 + 1) (.tup [a, b, c]) := by
  refine shw_tup (fun d hd => ?_) (by simp)
  simp at hd
  rcases hd with rfl | rfl | rfl
  · exact h1.mono (by omega) (by omega)
  · exact h2.mono (by omega) (by omega)
  · exact h3.mono (by omega) (by omega)
theorem shw_four {k1 n1 k2 n2 k3 n3 k4 n4 : Nat} {a b c e : D} (h1 : shw k1 n1 a) (h2 : shw k2 n2 b) (h3 : shw k3 n3 c) (h4 : shw k4 n4 e) : shw (4 * ((k1 + k2 + k3 + k4) + 2) + 3) (n1 + n2 + n3 + n4 + 1) (.tup [a, b, c, e]) := by
  refine shw_tup (fun d hd => ?_) (by simp)
  simp at hd
  rcases hd with rfl | rfl | rfl | rfl
  · exact h1.mono (by omega) (by omega)
  · exact h2.mono (by omega) (by omega)
  · exact h3.mono (by omega) (by omega)
  · exact h4.mono (by omega) (by omega)
theorem hav_sml {S : Src} (h : S.length ≤ 20) (n : Int) : (∀ x ∈ hav S n, -1000000 < x ∧ x < 1000000) ∧ (hav S n).length ≤ 20 :=
  ⟨fun x hx => by have := hav_bd hx; omega, Nat.le_trans (hav_len S n) h⟩
theorem idx_sml {S : Src} (h : S.length ≤ 20) (f : (Int × Int) × Nat → Bool) : (∀ x ∈ (S.zipIdx.filter f).map (fun p => (p.2 : Int)), -1000000 < x ∧ x < 1000000) ∧ ((S.zipIdx.filter f).map (fun p => (p.2 : Int))).length ≤ 20 := by
  refine ⟨fun x hx => ?_, ?_⟩
  · obtain ⟨p, hp, rfl⟩ := List.mem_map.mp hx
    have h2 := mem_zipIdx (List.mem_filter.mp hp).1
    have := (List.getElem?_eq_some_iff.mp h2).1
    omega
  · rw [List.length_map]
    have := List.length_filter_le f S.zipIdx
    simp at this; omega
theorem shw_lots {L : List (List Int)} (h : ∀ k ∈ L, (∀ n ∈ k, -1000000 < n ∧ n < 1000000) ∧ k.length ≤ 20) (hl : L.length ≤ 60) : shw 2307903 2 (.tup (L.map tupI)) := by
  refine shw_tup (k := 38463) (n := 1) (c := 60) (fun d hd => ?_) (by rw [List.length_map]; exact hl)
  obtain ⟨k, hk, rfl⟩ := List.mem_map.mp hd
  exact shw_ints (h k hk).1 (h k hk).2
theorem shw_pull {S : Src} {wr : Int} {ks : List Int} {f : Int → Int} (h : ∀ n ∈ ks, -1000000 < n ∧ n < 1000000) : shw 3849 1 (lawPull S wr ks f) := by
  unfold lawPull
  split
  · exact shw_encP (p := (-99999, 99999)) (by decide) (by decide)
  · split
    · exact shw_non.mono (by omega) (by omega)
    · next hne =>
      have h1 := h _ (List.mem_filter.mp (minI_in hne).1).1
      have h2 := h _ (List.mem_filter.mp (maxI_in hne).1).1
      exact shw_encP (p := (minI _, maxI _)) h1 h2
end PG
namespace PG
open PySem PySem.Spec L2 PF
def sp__law_rightX : DSp := fun ds m Q => ∃ (p : Addr), ds = [.cel p] ∧ potAt m p 0 ∧ ∀ m', Q (.bl true) m'
def sp_law : DSp := lawD 63
theorem i_rightX {m : Mem} {Q : D → Mem → Prop} {p : Addr} (h : potAt m p 0) (q : ∀ m', Q (.bl true) m') : sp__law_rightX [.cel p] m Q := ⟨p, rfl, h, q⟩
theorem s_dget {ks : List Int} {f : Int → Int} {n : Int} {m : Mem} {Q : D → Mem → Prop} (h : n ∈ ks) : drDGet (dicT ks f) (.int n) m Q = Q (.int (f n)) m := by
  have ha := atK_map ks f n
  rw [if_pos h] at ha
  simp [drDGet, dkv, dicT, keyD, ha]
theorem dicT_eq {ks : List Int} {f : Int → Int} {a : List Key} {b : List D} : (dicT ks f = D.dic a b) = (ks.map Sum.inl = a ∧ (ks.map fun n => D.int (f n)) = b) := by
  unfold dicT; simp
theorem keys_map (ks : List Int) : (ks.map Sum.inl).map dOfK = ks.map D.int := by rw [List.map_map]; rfl
@[simp] theorem s_frzSD {i : Nat} {t : DS} {E : DEnds} {ρ : PF.Env} {m : Mem} : dFrzSD i t E ρ m = ∃ a ks l, ρ[i]? = some (some (.cel a)) ∧ m a = some (.d ks l) ∧ t E (ρ.set i (some (.dic ks l))) (delM m a) := by
  unfold dFrzSD
  split
  · next a ha =>
    split
    · next ks l hc =>
      simp only [eq_iff_iff]
      exact ⟨fun q => ⟨a, ks, l, ha, hc, q⟩, fun ⟨a', ks', l', e1, e2, q⟩ => by rw [ha] at e1; cases e1; rw [hc] at e2; cases e2; exact q⟩
    · next hn =>
      simp only [eq_iff_iff, false_iff]
      rintro ⟨a', ks', l', e1, e2, _⟩
      rw [ha] at e1; cases e1
      exact hn _ _ e2
  · next hn =>
    simp only [eq_iff_iff, false_iff]
    rintro ⟨a', ks', l', e1, _⟩
    exact hn _ e1
end PG
namespace PG
open PySem PySem.Spec L2 PF
theorem lc_take {p : Addr} {ρ0 : PF.Env} {Q : List D → Mem → Prop} {α : Type} (enc : α → D) (h0 : ρ0[0]? = some (some (.cel p))) : ∀ (xs : List α) (m : Mem) (acc : List D) (k : Nat), k + xs.length ≤ 1000 → potAt m p k →
    (∀ (W : List Int) (m' : Mem), W.length = xs.length → (∀ x ∈ W, 0 ≤ x ∧ x ≤ 4) → potAt m' p (k + xs.length) → Q (acc ++ W.map D.int) m') →
    lcGo (gdName 19) dYes (dCall sp__law_take (dCons (dVar 0) (dCons (dC (D.int 5)) dNil))) ρ0 (xs.map enc) m acc Q
  | [], m, acc, k, _, hp, q => by
    have := q [] m rfl (fun _ h => by cases h) hp
    simpa [lcGo] using this
  | x :: xs, m, acc, k, hk, hp, q => by
    have hk : k + (xs.length + 1) ≤ 1000 := hk
    have e : (ρ0.set 19 (some (enc x)))[0]? = some (some (.cel p)) := by rw [List.getElem?_set_ne (by decide)]; exact h0
    rw [List.map_cons, lcGo_cons]
    simp [e]
    refine i_take k (by omega) (by omega) hp fun d c hd hc => ?_
    refine lc_take enc h0 xs _ _ (k + 1) (by omega) (potAt_upd hc) fun W m' hW hb hp' => ?_
    have := q (d :: W) m' (by simp [hW]) (fun y hy => by
      rcases List.mem_cons.mp hy with z | z
      · rw [z]; omega
      · exact hb y z) (by rw [List.length_cons]; exact hp'.mono (by omega))
    simpa using this
end PG
namespace PG
open PySem PySem.Spec L2 PF
theorem keys7 {S : Src} {ks : List Int} (h7 : okT7 S) (hg : good (one S) ks) {n : Int} (hn : n ∈ ks) : -20 ≤ n ∧ n ≤ 38 := by
  obtain ⟨t, ht, c⟩ := (hg.2 n).mp hn
  obtain ⟨p, hp, rfl⟩ := List.mem_map.mp ht
  have := h7 p hp
  unfold cov at c; simp at c; omega
theorem i_same2 {m : Mem} {Q : D → Mem → Prop} {a b : D} (e : a = b) {k n : Nat} (h : shw k n b) (hk : k ≤ 16777216) (hn : n ≤ 60) (q : Q (.bl true) m) : sp__law_same [a, b] m Q := i_same e (e ▸ h) hk hn q
theorem most_bd {S : Src} (hS : okS S) : 1 ≤ mostA S ∧ mostA S ≤ S.length := by
  have h1 := mostA_toNat hS
  obtain ⟨r, hr, e⟩ := mostA_in hS
  obtain ⟨n, en⟩ := piece_have hr
  have := hav_len S n
  rw [en] at e
  omega
theorem if_le {a b : Int} {A B : Prop} (h : if decide (a ≤ b) = true then A else B) : b < a ∧ B ∨ a ≤ b ∧ A := by
  by_cases c : a ≤ b
  · rw [if_pos (decide_eq_true c)] at h; exact .inr ⟨c, h⟩
  · rw [if_neg (by simpa using c)] at h; exact .inl ⟨by omega, h⟩
theorem if_eq {a b : Int} {A B : Prop} (h : if decide (a = b) = true then A else B) : ¬ a = b ∧ B ∨ a = b ∧ A := by
  by_cases c : a = b
  · rw [if_pos (decide_eq_true c)] at h; exact .inr ⟨c, h⟩
  · rw [if_neg (by simpa using c)] at h; exact .inl ⟨c, h⟩
end PG
namespace PG
open PySem PySem.Spec L2 PF
theorem trim_bd {S : Src} {wr : Int} (h7 : okT7 S) (h : 0 ≤ wr ∧ wr < S.length) : (-1000000 < (trim S wr).1 ∧ (trim S wr).1 < 1000000) ∧ (-1000000 < (trim S wr).2 ∧ (trim S wr).2 < 1000000) := by
  have l1 : (sortI (S.map fun p => p.1)).length = S.length := by rw [(sortI_perm _).length_eq, List.length_map]
  have l2 : (sortI (S.map fun p => p.2)).length = S.length := by rw [(sortI_perm _).length_eq, List.length_map]
  have i1 : ((S.length : Int) - 1 - wr).toNat < (sortI (S.map fun p => p.1)).length := by omega
  have i2 : wr.toNat < (sortI (S.map fun p => p.2)).length := by omega
  have e1 : (trim S wr).1 = (sortI (S.map fun p => p.1))[((S.length : Int) - 1 - wr).toNat] := by unfold trim; simp [List.getD_eq_getElem?_getD, i1]
  have e2 : (trim S wr).2 = (sortI (S.map fun p => p.2))[wr.toNat] := by unfold trim; simp [List.getD_eq_getElem?_getD, i2]
  have m1 := (sortI_perm (S.map fun p => p.1)).mem_iff.mp (List.getElem_mem i1)
  have m2 := (sortI_perm (S.map fun p => p.2)).mem_iff.mp (List.getElem_mem i2)
  rw [← e1] at m1
  rw [← e2] at m2
  obtain ⟨p, hp, z1⟩ := List.mem_map.mp m1
  obtain ⟨q, hq, z2⟩ := List.mem_map.mp m2
  have := h7 p hp
  have := h7 q hq
  omega
theorem lots_sml {S : Src} {ks : List Int} (hS : okS S) (hg : good (one S) ks) (hk : ks.length ≤ 59) : shw 2307903 2 (.tup ((lots S).map tupI)) := by
  rw [lots_eq hS hg]
  refine shw_lots (fun k hk => ?_) ?_
  · obtain ⟨n, _, rfl⟩ := List.mem_map.mp (setK_sub codeT hk)
    exact hav_sml hS.2.1 n
  · have h1 := setK_length codeT ((ks.filter fun n => decide (val (one S) n = mostA S)).map (hav S))
    have h2 := List.length_filter_le (fun n => decide (val (one S) n = mostA S)) ks
    rw [List.length_map] at h1
    exact Nat.le_trans h1 (by omega)
theorem for_okE {α : Type} {g : DG} {b : DS} {E : DEnds} {ρ : PF.Env} {m : Mem} {l : List D} (xs : List α) (enc : α → D) (I : PF.Env → List α → PF.Env → Mem → Prop) (hl : l = xs.map enc) (h0 : I ρ [] ρ m)
    (hs : ∀ pre x post ρ' m, xs = pre ++ x :: post → I ρ pre ρ' m → ∀ N : PF.Env → Mem → Prop, (∀ ρ2 m', I ρ (pre ++ [x]) ρ2 m' → N ρ2 m') → g (enc x) ρ' m fun ρ2 m2 => b { E with nx := N, ct := N, bk := E.nx } ρ2 m2)
    (he : ∀ ρ' m, I ρ xs ρ' m → E.nx ρ' m) : forGo g b E l ρ m := for_ok xs enc (I ρ) hl h0 hs he
theorem s_dget2 {ks : List Int} {f : Int → Int} {n : Int} {m : Mem} {Q : D → Mem → Prop} (h : n ∈ ks) : drDGet (.dic (ks.map Sum.inl) (ks.map fun n => D.int (f n))) (.int n) m Q = Q (.int (f n)) m := s_dget (f := f) h
theorem zip_in {W : List Int} {S : Src} {t : Item} (h : t ∈ W.zip S) : t.2 ∈ S := (List.of_mem_zip (show (t.1, t.2) ∈ W.zip S from h)).2
theorem keysZ {S : Src} {W ks : List Int} (h7 : okT7 S) (hg : good (W.zip S) ks) : (∀ n ∈ ks, -1000000 < n ∧ n < 1000000) ∧ ks.length ≤ 59 := by
  refine ⟨fun n hn => ?_, good_len (lo := -20) hg fun t ht => by have := h7 _ (zip_in ht); omega⟩
  obtain ⟨t, ht, c⟩ := (hg.2 n).mp hn
  have := h7 _ (zip_in ht)
  unfold cov at c; simp at c; omega
end PG
namespace PG
open PySem PySem.Spec L2 PF
theorem due_ok {N : PF.Env → Mem → Prop} {RT : D → Mem → Prop} {m6 : Mem} {TR : List Int} {e0 e1 e2 e3 e4 e5 e6 e7 e8 e9 e10 e11 e12 e13 e14 e15 e16 e17 e18 e19 e20 e21 e25 e26 : Option D} {A B : List D} (hp : 0 < TR.length) (hl : TR.length ≤ 59)
   (h : N [e0,e1,e2,e3,e4,e5,e6,e7,e8,e9, some (.tup [.tup [.str "spans", .tup ((spansOf TR).map encP)], .tup A, .tup B, .tup [.int (minI TR), .int (maxI TR)]]),e11,e12,e13,e14,e15,e16,e17,e18,e19,e20,e21,some (.lst (TR.map D.int)), some (.tup A), some (.tup B), e25, e26] m6) :
  dAsg (dTup (dCons (dTup (dCons (dC (.str "spans")) (dCons (dCall sp__law_spans_of (dCons (dVar 22) dNil)) dNil))) (dCons (dVar 23) (dCons (dVar 24) (dCons (dTup (dCons (dCB dcMin (dCons (dVar 22) dNil)) (dCons (dCB dcMax (dCons (dVar 22) dNil)) dNil))) dNil))))) (gdName 10) { nx := N, rt := RT }
   [e0,e1,e2,e3,e4,e5,e6,e7,e8,e9,e10,e11,e12,e13,e14,e15,e16,e17,e18,e19,e20,e21,some (.lst (TR.map D.int)), some (.tup A), some (.tup B), e25, e26] m6 := by
  simp [PySem.sizeLine_eq]
  refine i_spans (by omega) ?_
  exact ⟨hp, h⟩
end PG
namespace PG
open PySem PySem.Spec L2 PF
/-- the object's own promise, out of the def's -/
theorem fn_of_def {P : Program} {w : World} {K : PySem.W.Frag} {mg : Str → Option Value} {base : Heap} {k : Nat} {x y : Str} {st : Stmt} {sp : DSp} {fa : Addr} (d : Def P w K mg base k x st [y] sp) (hm : mg x = some (.ref fa))
    (hb : ∀ (kV doc pm : Value) (an : Option Addr) (cdv ct : Value) (u : Value), bindArgs (PySem.W.fnOf x x (defArgs st) (defBody st) (defScope st) .none kV doc pm an cdv ct) ⟨[u], []⟩ = pure [(y, u)]) :
    ∃ fd : FuncData, (∀ (s : Shared) (u : Value), BindsTo s fd ⟨[u], []⟩ [(y, u)]) ∧ FnG P w K mg base k fa fd [y] (spOf sp) := by
  obtain ⟨f, kV, doc, pm, an, cdv, ct, G, h1, _⟩ := d.ex
  rw [hm] at h1
  cases h1
  exact ⟨_, fun s u => .of_eq (hb kV doc pm an cdv ct u), G⟩
end PG

namespace PG
open PySem PySem.Spec L2 PF
theorem perm_erase {α : Type} : ∀ (l : List α) (i : Nat) (h : i < l.length), (l[i] :: l.eraseIdx i).Perm l
  | a :: l, 0, _ => List.Perm.refl _
  | a :: l, i + 1, h => by
    have hi : i < l.length := by simpa using h
    have ih := perm_erase l i hi
    show (l[i] :: a :: l.eraseIdx i).Perm (a :: l)
    exact (List.Perm.swap a l[i] _).trans (ih.cons a)
theorem map_erase {α β : Type} (f : α → β) : ∀ (l : List α) (i : Nat), (l.map f).eraseIdx i = (l.eraseIdx i).map f
  | [], _ => rfl
  | _ :: _, 0 => rfl
  | a :: l, i + 1 => by
    show f a :: (l.map f).eraseIdx i = f a :: (l.eraseIdx i).map f
    rw [map_erase f l i]
theorem s_listC {l : List D} {m : Mem} {Q : D → Mem → Prop} : dcListC [.lst l] m Q = ∀ p, m p = none → Q (.cel p) (updM m p (.l l)) := by
  unfold dcListC; simp
theorem e_pop {p : Addr} {l : List D} {m : Mem} {Q : D → Mem → Prop} {i : Int} {d : D} (h : m p = some (.l l)) (hi : 0 ≤ i ∧ i < 1000) (hd : l[i.toNat]? = some d) (q : Q d (updM m p (.l (l.eraseIdx i.toNat)))) : dmPop (.cel p) [.int i] m Q := by
  have hl := (List.getElem?_eq_some_iff.mp hd).1
  refine ⟨p, i, l, i.toNat, d, rfl, rfl, h, ⟨by omega, by omega⟩, ?_, hd, q⟩
  unfold seqIndex?
  have h0 : ¬ i < 0 := by omega
  have h1 : i < (l.length : Int) := by omega
  simp [h0, h1, hi.1]
def sp__law_some : DSp := fun ds m Q => ∃ (p : Addr) (S : Src) (k : Nat), ds = [.cel p, .lst (S.map encP), .int S.length] ∧ S.length ≤ 20 ∧ k ≤ 900 ∧ potAt m p k ∧ ∀ (S' : Src) (c : Cell), S'.Perm S → potC (k + S.length) c → Q (.lst (S'.map encP)) (updM m p c)
def sp__law_agreed : DSp := fun ds m Q => ∃ (S : Src) (many : Int), ds = [encS S, .int many] ∧ (okT7 S ∧ S.length ≤ 20) ∧ 1 ≤ many ∧ Q (.tup ((told S many).map encP)) m
theorem i_some {p : Addr} {S : Src} {m : Mem} {Q : D → Mem → Prop} (k : Nat) (h1 : S.length ≤ 20) (h2 : k ≤ 900) (h3 : potAt m p k) (q : ∀ (S' : Src) (c : Cell), S'.Perm S → potC (k + S.length) c → Q (.lst (S'.map encP)) (updM m p c)) :
    sp__law_some [.cel p, .lst (S.map encP), .int S.length] m Q := ⟨p, S, k, rfl, h1, h2, h3, q⟩
theorem i_agr {S : Src} {many : Int} {m : Mem} {Q : D → Mem → Prop} (h1 : okT7 S ∧ S.length ≤ 20) (h2 : 1 ≤ many) (q : Q (.tup ((told S many).map encP)) m) : sp__law_agreed [encS S, .int many] m Q := ⟨S, many, rfl, h1, h2, q⟩
end PG

namespace PG
open PySem PySem.Spec L2 PF
section
variable {P : Program} {w : World} {K : PySem.W.Frag} {mg : Str → Option Value} {base : Heap}
/-! _law_agreed -/
abbrev N__law_agreed : List Str := ["sources", "many", "had", "number"]
theorem sc__law_agreed : FnScope N__law_agreed ["sources", "many"] (defScope (top 47)) := ⟨rfl, rfl, rfl, by decide +kernel, rfl, by decide +kernel, by decide +kernel⟩
theorem ok__law_agreed {f : Addr} {fd : FuncData} (T : Txt mg) (F : Fun K "_law_agreed" "_law_agreed" (top 47) f fd) (hm : mg "_law_agreed" = some (.ref f)) (d__law_spans_of : Def P w K mg base 1 "_law_spans_of" (top 45) ["numbers"] sp__law_spans_of) (d__law_had_by : Def P w K mg base 1 "_law_had_by" (top 46) ["sources"] sp__law_had_by) : Def P w K mg base 2 "_law_agreed" (top 47) ["sources", "many"] sp__law_agreed := by
  refine def_ok F hm sc__law_agreed (by rintro ds m Q ⟨_, _, rfl, _⟩; rfl) (fun f cdv A outer s H E c => (db_cons (ds_set 2 c (dx_call d__law_had_by c (by decide) (da_cons (dx_var 0) da_nil) (fun _ _ _ _ _ _ us hl => match us, hl with | [_], _ => rfl))) (db_cons (ds_ret (dx_call d__law_spans_of c (by decide) (da_cons (dx_lc c (di_keys (dx_var 2)) (blkOk_by (own := [("number", 3)]) (by first | decide +kernel | kernel_rfl)) (fun _ _ _ _ _ => (dg_name 3 (c.blk _ _ _ _ _))) (fun _ _ _ _ _ => (dts_one (dt_cmp ox_ge (dx_dget (c.blk _ _ _ _ _) (dx_var 2) (dx_var 3)) (dx_var 1)))) (fun _ _ _ _ _ => (dx_var 3))) da_nil) (fun _ _ _ _ _ _ us hl => match us, hl with | [_], _ => rfl))) db_nil))) ?_
  rintro ds m Q ⟨S, many, rfl, hS, h1, q⟩
  simp [startD]
  refine i_had (okR_of7 hS.1 hS.2) fun ks hg => ?_
  have hk := good7_len hS.1 hg
  simp [e_diK, dicT_eq, dLc, wipeD, PySem.sizeLine_eq]
  refine ⟨by omega, lc_ok ks D.int (fun n => decide (many ≤ val (one S) n)) D.int (by simp [dOfK]) (fun x hx K1 K0 h => ?_) ?_⟩
  · simp [s_dget hx]
    exact if_le h
  · refine i_spans (Nat.le_trans (List.length_filter_le _ _) (by omega)) ?_
    rw [← told_spans hg h1]
    exact ⟨m, MLe.refl m, q⟩
/-! _law_some -/
abbrev N__law_some : List Str := ["pot", "pool", "width", "found", "lap"]
theorem sc__law_some : FnScope N__law_some ["pot", "pool", "width"] (defScope (top 41)) := ⟨rfl, rfl, rfl, by decide +kernel, rfl, by decide +kernel, by decide +kernel⟩
theorem ok__law_some {f : Addr} {fd : FuncData} (T : Txt mg) (F : Fun K "_law_some" "_law_some" (top 41) f fd) (hm : mg "_law_some" = some (.ref f)) (d__law_take : Def P w K mg base 1 "_law_take" (top 39) ["pot", "upto"] sp__law_take) : Def P w K mg base 2 "_law_some" (top 41) ["pot", "pool", "width"] sp__law_some := by
  refine def_ok F hm sc__law_some (by rintro ds m Q ⟨_, _, _, rfl, _⟩; rfl) (fun f cdv A outer s H E c => (db_cons (ds_par (i := 1) (j := 3) c (da_cons (dx_ty cb_listC T.n_list bt_list (da_cons (dx_var 1) da_nil)) (da_cons (dx_lstC da_nil) da_nil)) rfl rfl (by decide) (by rfl) (by rfl) (by rfl)) (db_cons (ds_for c PassesOwn.never (di_r1 (da_cons (dx_var 2) da_nil) T.n_range) (dg_name 4 c) (db_cons (ds_expr (dx_app (dx_var 3) (da_cons (dx_pop (dx_var 1) (da_cons (dx_call d__law_take c (by decide) (da_cons (dx_var 0) (da_cons (dx_bi cb_len T.n_len bt_len (da_cons (dx_var 1) da_nil)) da_nil)) (fun _ _ _ _ _ _ us hl => match us, hl with | [_, _], _ => rfl)) da_nil)) da_nil))) db_nil)) (db_cons (ds_ret (dx_frz (dx_var 3))) db_nil)))) ?_
  rintro ds m Q ⟨p, S, k, rfl, hS, hk, hp, q⟩
  have hpm : m p ≠ none := by obtain ⟨c, h, _⟩ := hp; rw [h]; simp
  simp [startD, dFor, e_diR1, s_listC, PySem.sizeLine_eq]
  intro a ha f hf
  have hpa : p ≠ a := by rintro rfl; exact hpm ha
  have hfa : f ≠ a := fun e => by rw [e, updM_same] at hf; cases hf
  have hf0 : m f = none := by rw [updM_ne hfa] at hf; exact hf
  have hpf : p ≠ f := by rintro rfl; exact hpm hf0
  obtain ⟨c0, hc0, hpc0⟩ := id hp
  refine ⟨by omega, ?_⟩
  refine for_ok (List.range S.length) (fun i : Nat => D.int (0 + (i : Int))) (fun pre ρ m' => ∃ (x : Option D) (L1 L2 : Src) (c : Cell), ρ = [some (.cel p), some (.cel a), some (.int S.length), some (.cel f), x] ∧ L2.length = pre.length ∧ (L2 ++ L1).Perm S ∧ potC (k + pre.length) c ∧ m' p = some c ∧ m' a = some (.l (L1.map encP)) ∧ m' f = some (.l (L2.map encP)) ∧ MLe (updM m p c) m') rfl ?_ ?_ ?_
  · refine ⟨_, S, [], c0, rfl, rfl, List.Perm.refl _, hpc0, ?_, ?_, ?_, ?_⟩
    · rw [updM_ne hpf, updM_ne hpa]; exact hc0
    · rw [updM_ne hfa.symm, updM_same]
    · rw [updM_same]; rfl
    · intro z cc hz
      by_cases e : z = p
      · subst e; rw [updM_same] at hz; cases hz; rw [updM_ne hpf, updM_ne hpa]; exact hc0
      · rw [updM_ne e] at hz
        have n1 : z ≠ f := by rintro rfl; rw [hf0] at hz; cases hz
        have n2 : z ≠ a := by rintro rfl; rw [ha] at hz; cases hz
        rw [updM_ne n1, updM_ne n2]; exact hz
  · rintro pre x post ρ m1 hx ⟨b, L1, L2, c1, rfl, hL2, hperm, hc1, hmp, hma, hmf, hle⟩ N hN
    have hr := range_at hx
    have hl1 : L2.length + L1.length = S.length := by have := hperm.length_eq; rw [List.length_append] at this; exact this
    simp [PySem.sizeLine_eq]
    refine ⟨e_tyC hmf, e_tyC hma, ?_⟩
    simp [s_lenC hma]
    refine i_take (k + pre.length) (by omega) (by omega) ⟨c1, hmp, hc1⟩ fun d c2 hd hc2 => ?_
    have hdl : d.toNat < L1.length := by omega
    have ha2 : (updM m1 p c2) a = some (.l (L1.map encP)) := by rw [updM_ne hpa.symm]; exact hma
    refine e_pop ha2 (by omega) (d := encP L1[d.toNat]) (by simp [hdl]) ?_
    have hf2 : (updM (updM m1 p c2) a (.l ((L1.map encP).eraseIdx d.toNat))) f = some (.l (L2.map encP)) := by rw [updM_ne hfa, updM_ne hpf.symm]; exact hmf
    rw [e_app hf2]
    refine ⟨by rw [List.length_map, PySem.sizeLine_eq]; omega, hN _ _ ⟨_, L1.eraseIdx d.toNat, L2 ++ [L1[d.toNat]], c2, rfl, by simp [hL2], ?_, by rw [List.length_append]; exact hc2, ?_, ?_, ?_, ?_⟩⟩
    · refine List.Perm.trans ?_ hperm
      rw [List.append_assoc]
      exact List.Perm.append_left L2 (perm_erase L1 d.toNat hdl)
    · rw [updM_ne hpf, updM_ne hpa, updM_same]
    · rw [updM_ne hfa.symm, updM_same, map_erase]
    · rw [updM_same]; simp
    · intro z cc hz
      by_cases e : z = p
      · subst e; rw [updM_same] at hz; cases hz; rw [updM_ne hpf, updM_ne hpa, updM_same]
      · rw [updM_ne e] at hz
        have n1 : z ≠ f := by rintro rfl; rw [hf0] at hz; cases hz
        have n2 : z ≠ a := by rintro rfl; rw [ha] at hz; cases hz
        rw [updM_ne n1, updM_ne n2, updM_ne e]
        exact hle z cc (by rw [updM_ne e]; exact hz)
  · rintro ρ m1 ⟨b, L1, L2, c1, rfl, hL2, hperm, hc1, hmp, hma, hmf, hle⟩
    rw [List.length_range] at hL2 hc1
    have hl1 : L2.length + L1.length = S.length := by have := hperm.length_eq; rw [List.length_append] at this; exact this
    have e0 : L1 = [] := List.length_eq_zero_iff.mp (by omega)
    subst e0
    rw [List.append_nil] at hperm
    simp
    refine ⟨_, hmf, updM m p c1, ?_, q L2 c1 hperm hc1⟩
    refine MLe.del hle ?_
    rw [updM_ne hpf.symm]; exact hf0
end
end PG

namespace PG
open PySem PySem.Spec L2 PF

/-! ### told hangs on the counts alone -/
def cnt (S : Src) (n : Int) : Int := ((hav S n).length : Int)
theorem cnt_val (S : Src) (n : Int) : cnt S n = val (one S) n := (cnt_hav S n).symm
theorem cnt_app (S T : Src) (n : Int) : cnt (S ++ T) n = cnt S n + cnt T n := by
  rw [cnt_val, cnt_val, cnt_val]
  unfold one
  rw [List.map_append, val_app]
theorem told_by {S T : Src} {a b : Int} (ha : 1 ≤ a) (hb : 1 ≤ b) (h : ∀ n, a ≤ cnt S n ↔ b ≤ cnt T n) : told S a = told T b := by
  obtain ⟨h1, h2⟩ := told_ok (S := S) ha
  obtain ⟨g1, g2⟩ := told_ok (S := T) hb
  exact canon_uniq h1 g1 fun n => by rw [h2, g2]; exact h n
/-- the most of a log, by counts -/
theorem most_is {S : Src} (hS : okS S) : (∃ n, cnt S n = mostA S) ∧ ∀ n, cnt S n ≤ mostA S := by
  obtain ⟨r, hr, e⟩ := mostA_in hS
  have hp := piece_ok hr
  refine ⟨⟨r.1, by unfold cnt; rw [hp.2 r.1 (Int.le_refl _) hp.1, e]⟩, fun n => ?_⟩
  by_cases h : hav S n = []
  · have := mostA_toNat hS
    unfold cnt; rw [h]; simp; omega
  · obtain ⟨q, hq, z1, z2⟩ := piece_cov h
    have := mostA_all hq
    unfold cnt
    rw [(piece_ok hq).2 n z1 z2]; exact this
theorem most_by {S : Src} (hS : okS S) {k : Int} (h1 : ∃ n, cnt S n = k) (h2 : ∀ n, cnt S n ≤ k) : mostA S = k := by
  obtain ⟨⟨n, e⟩, g⟩ := most_is hS
  obtain ⟨n2, e2⟩ := h1
  have := h2 n
  have := g n2
  omega

/-! ### so many times -/
def times (t : Nat) (S : Src) : Src := (List.replicate t S).flatten
theorem times_cnt (S : Src) (n : Int) : ∀ t : Nat, cnt (times t S) n = t * cnt S n
  | 0 => by
    have : cnt ([] : Src) n = 0 := rfl
    show cnt [] n = _
    rw [this]; simp
  | t + 1 => by
    have ih := times_cnt S n t
    show cnt (S ++ times t S) n = _
    rw [cnt_app, ih]
    have : ((t + 1 : Nat) : Int) = (t : Int) + 1 := by omega
    rw [this, Int.add_mul, Int.one_mul]; omega
theorem times_len (S : Src) : ∀ t : Nat, (times t S).length = t * S.length
  | 0 => by simp [times]
  | t + 1 => by
    have ih := times_len S t
    show (S ++ times t S).length = _
    rw [List.length_append, ih, Nat.add_mul, Nat.one_mul, Nat.add_comm]
theorem times_mem {S : Src} {t : Nat} {p : Int × Int} (h : p ∈ times t S) : p ∈ S := by
  obtain ⟨l, hl, hp⟩ := List.mem_flatten.mp h
  rw [(List.mem_replicate.mp hl).2] at hp
  exact hp
theorem told_times {S : Src} {t : Nat} {a g : Int} (ht : 1 ≤ t) (hg : 1 ≤ g) (h1 : (t : Int) * (g - 1) < a) (h2 : a ≤ t * g) : told (times t S) a = told S g := by
  have h0 : 0 ≤ (t : Int) * (g - 1) := Int.mul_nonneg (by omega) (by omega)
  refine told_by (by omega) hg fun n => ?_
  rw [times_cnt]
  constructor
  · intro z
    rcases Int.lt_or_le (cnt S n) g with q | q
    · have := Int.mul_le_mul_of_nonneg_left (show cnt S n ≤ g - 1 by omega) (show (0 : Int) ≤ t by omega)
      omega
    · exact q
  · intro z
    have := Int.mul_le_mul_of_nonneg_left z (show (0 : Int) ≤ t by omega)
    omega
theorem most_times {S : Src} {t : Nat} (hS : okS S) (hw : okS (times t S)) : mostA (times t S) = t * mostA S := by
  obtain ⟨⟨n, e⟩, g⟩ := most_is hS
  refine most_by hw ⟨n, by rw [times_cnt, e]⟩ fun n => ?_
  rw [times_cnt]
  exact Int.mul_le_mul_of_nonneg_left (g n) (by omega)
end PG

namespace PG
open PySem PySem.Spec L2 PF

/-! ### places of those that keep a condition -/
def sel (S : Src) (c : Int × Int → Bool) : List Int := (S.zipIdx.filter fun p => c p.1).map fun p => (p.2 : Int)
theorem sel_from (c : Int × Int → Bool) : ∀ (S : Src) (k : Nat), ((S.zipIdx k).filter fun p => c p.1).map (fun p => (p.2 : Int)) = (sel S c).map fun i => i + (k : Int)
  | [], k => rfl
  | p :: S, k => by
    have ih := sel_from c S (k + 1)
    have ih1 := sel_from c S 1
    unfold sel
    rw [List.zipIdx_cons, List.zipIdx_cons]
    have e1 : (sel S c).map (fun i => i + ((k + 1 : Nat) : Int)) = ((sel S c).map fun i => i + ((1 : Nat) : Int)).map fun i => i + (k : Int) := by
      rw [List.map_map]; apply List.map_congr_left; intro i _; simp; omega
    by_cases h : c p = true
    · rw [List.filter_cons_of_pos (by simpa using h), List.filter_cons_of_pos (by simpa using h), List.map_cons, List.map_cons, List.map_cons]
      simp only [Nat.zero_add]
      rw [ih, ih1, e1]; simp
    · rw [List.filter_cons_of_neg (by simpa using h), List.filter_cons_of_neg (by simpa using h)]
      simp only [Nat.zero_add]
      rw [ih, ih1, e1]
theorem sel_app (S T : Src) (c : Int × Int → Bool) : sel (S ++ T) c = sel S c ++ (sel T c).map fun i => i + (S.length : Int) := by
  unfold sel
  rw [List.zipIdx_append, List.filter_append, List.map_append]
  congr 1
  have := sel_from c T (0 + S.length)
  rw [this, Nat.zero_add]; rfl
theorem hav_sel (S : Src) (n : Int) : hav S n = sel S fun p => decide (p.1 ≤ n) && decide (n ≤ p.2) := rfl
theorem right_sel (S T : Src) : rightS S T = sel S fun p => decide (p.1 ≤ loOf T) && decide (hiOf T ≤ p.2) := rfl
theorem sel_times (S : Src) (c : Int × Int → Bool) : ∀ t : Nat, sel (times t S) c = ((List.range t).map fun lap : Nat => (sel S c).map fun i => i + (S.length : Int) * lap).flatten
  | 0 => rfl
  | t + 1 => by
    have ih := sel_times S c t
    show sel (S ++ times t S) c = _
    rw [sel_app, ih, List.range_succ_eq_map, List.map_cons, List.flatten_cons]
    congr 1
    · simp
    · rw [List.map_flatten, List.map_map, List.map_map]
      congr 1
      apply List.map_congr_left
      intro lap _
      show ((sel S c).map _).map _ = (sel S c).map _
      rw [List.map_map]
      apply List.map_congr_left
      intro i _
      show i + (S.length : Int) * lap + S.length = i + (S.length : Int) * ((lap + 1 : Nat) : Int)
      have : ((lap + 1 : Nat) : Int) = (lap : Int) + 1 := by omega
      rw [this, Int.mul_add]; omega

/-! ### put on -/
def putP (c : Int) (p : Int × Int) : Int × Int := (p.1 + c, p.2 + c)
theorem hav_put (S : Src) (c n : Int) : hav (S.map (putP c)) n = hav S (n - c) := by
  unfold hav
  rw [List.zipIdx_map, List.filter_map, List.map_map]
  have e : ((fun p : (Int × Int) × Nat => decide (p.1.1 ≤ n) && decide (n ≤ p.1.2)) ∘ Prod.map (putP c) id) = fun p => decide (p.1.1 ≤ n - c) && decide (n - c ≤ p.1.2) := by
    funext p
    rw [Bool.eq_iff_iff]
    show ((decide (p.1.1 + c ≤ n) && decide (n ≤ p.1.2 + c)) = true) ↔ ((decide (p.1.1 ≤ n - c) && decide (n - c ≤ p.1.2)) = true)
    rw [Bool.and_eq_true, Bool.and_eq_true]
    simp only [decide_eq_true_eq]
    constructor <;> rintro ⟨z1, z2⟩ <;> exact ⟨by omega, by omega⟩
  rw [e]; rfl
theorem canon_put {R : Src} (h : Canon R) (c : Int) : Canon (R.map (putP c)) := by
  refine ⟨?_, fun a ha => ?_⟩
  · rw [List.pairwise_map]
    exact h.1.imp fun {a b} z => by show a.2 + c + 1 < b.1 + c; omega
  · obtain ⟨b, hb, rfl⟩ := List.mem_map.mp ha
    have := h.2 b hb
    show b.1 + c ≤ b.2 + c; omega
theorem inn_put {R : Src} {c n : Int} : inn n (R.map (putP c)) ↔ inn (n - c) R := by
  constructor
  · rintro ⟨a, ha, h1, h2⟩
    obtain ⟨b, hb, rfl⟩ := List.mem_map.mp ha
    have h1 : b.1 + c ≤ n := h1
    have h2 : n ≤ b.2 + c := h2
    exact ⟨b, hb, by omega, by omega⟩
  · rintro ⟨b, hb, h1, h2⟩
    exact ⟨putP c b, List.mem_map_of_mem hb, by show b.1 + c ≤ n; omega, by show n ≤ b.2 + c; omega⟩
theorem told_put {S : Src} {c a : Int} (h : 1 ≤ a) : told (S.map (putP c)) a = (told S a).map (putP c) := by
  obtain ⟨h1, h2⟩ := told_ok (S := S.map (putP c)) h
  obtain ⟨g1, g2⟩ := told_ok (S := S) h
  refine canon_uniq h1 (canon_put g1 c) fun n => ?_
  rw [h2, inn_put, g2, hav_put]

/-! ### turned about -/
def negP (p : Int × Int) : Int × Int := (-p.2, -p.1)
theorem cnt_neg (S : Src) (n : Int) : cnt (S.map negP) n = cnt S (-n) := by
  unfold cnt hav
  rw [List.zipIdx_map, List.filter_map, List.length_map, List.length_map, List.length_map]
  have e : ((fun p : (Int × Int) × Nat => decide (p.1.1 ≤ n) && decide (n ≤ p.1.2)) ∘ Prod.map negP id) = fun p => decide (p.1.1 ≤ -n) && decide (-n ≤ p.1.2) := by
    funext p
    rw [Bool.eq_iff_iff]
    show ((decide (-p.1.2 ≤ n) && decide (n ≤ -p.1.1)) = true) ↔ ((decide (p.1.1 ≤ -n) && decide (-n ≤ p.1.2)) = true)
    rw [Bool.and_eq_true, Bool.and_eq_true]
    simp only [decide_eq_true_eq]
    constructor <;> rintro ⟨z1, z2⟩ <;> exact ⟨by omega, by omega⟩
  rw [e]
theorem canon_neg {R : Src} (h : Canon R) : Canon (R.reverse.map negP) := by
  refine ⟨?_, fun a ha => ?_⟩
  · rw [List.pairwise_map, List.pairwise_reverse]
    exact h.1.imp fun {a b} z => by show -b.1 + 1 < -a.2; omega
  · obtain ⟨b, hb, rfl⟩ := List.mem_map.mp ha
    have := h.2 b (List.mem_reverse.mp hb)
    show -b.2 ≤ -b.1; omega
theorem inn_neg {R : Src} {n : Int} : inn n (R.reverse.map negP) ↔ inn (-n) R := by
  constructor
  · rintro ⟨a, ha, h1, h2⟩
    obtain ⟨b, hb, rfl⟩ := List.mem_map.mp ha
    have h1 : -b.2 ≤ n := h1
    have h2 : n ≤ -b.1 := h2
    exact ⟨b, List.mem_reverse.mp hb, by omega, by omega⟩
  · rintro ⟨b, hb, h1, h2⟩
    exact ⟨negP b, List.mem_map_of_mem (List.mem_reverse.mpr hb), by show -b.2 ≤ n; omega, by show n ≤ -b.1; omega⟩
theorem told_neg {S : Src} {a : Int} (h : 1 ≤ a) : told (S.map negP) a = (told S a).reverse.map negP := by
  obtain ⟨h1, h2⟩ := told_ok (S := S.map negP) h
  obtain ⟨g1, g2⟩ := told_ok (S := S) h
  refine canon_uniq h1 (canon_neg g1) fun n => ?_
  rw [h2, inn_neg, g2]
  have := cnt_neg S n
  unfold cnt at this
  rw [this]

/-! ### in another sequence -/
theorem sum_perm {l k : List Int} (h : l.Perm k) : l.sum = k.sum := by
  induction h with
  | nil => rfl
  | cons a _ ih => rw [List.sum_cons, List.sum_cons, ih]
  | swap a b l => rw [List.sum_cons, List.sum_cons, List.sum_cons, List.sum_cons]; omega
  | trans _ _ i1 i2 => exact i1.trans i2
theorem cnt_perm {S T : Src} (h : S.Perm T) (n : Int) : cnt S n = cnt T n := by
  rw [cnt_val, cnt_val]
  unfold val one
  exact sum_perm (((h.map _).filter _).map _)
theorem told_perm {S T : Src} (h : S.Perm T) {a : Int} (ha : 1 ≤ a) : told S a = told T a := told_by ha ha fun n => by rw [cnt_perm h]
theorem trim_perm {S T : Src} (h : S.Perm T) (wr : Int) : trim S wr = trim T wr := by
  unfold trim
  have e1 : sortI (S.map fun p => p.1) = sortI (T.map fun p => p.1) := sortI_is ((sortI_perm _).trans (h.map _)) (sortI_sorted _)
  have e2 : sortI (S.map fun p => p.2) = sortI (T.map fun p => p.2) := sortI_is ((sortI_perm _).trans (h.map _)) (sortI_sorted _)
  rw [e1, e2, h.length_eq]
end PG

namespace PG
open PySem PySem.Spec L2 PF

/-! ### trimmed, put on and turned -/
theorem sortI_put (L : List Int) (c : Int) : sortI (L.map fun x => x + c) = (sortI L).map fun x => x + c := by
  refine (sortI_is ((sortI_perm L).map _) ?_).symm
  rw [List.pairwise_map]
  exact (sortI_sorted L).imp fun {a b} z => by omega
theorem sortI_neg (L : List Int) : sortI (L.map fun x => -x) = (sortI L).reverse.map fun x => -x := by
  refine (sortI_is (((List.reverse_perm _).trans (sortI_perm L)).map _) ?_).symm
  rw [List.pairwise_map, List.pairwise_reverse]
  exact (sortI_sorted L).imp fun {a b} z => by omega
theorem getD_map {L : List Int} {f : Int → Int} {i : Nat} (h : i < L.length) : (L.map f).getD i 0 = f (L.getD i 0) := by
  rw [List.getD_eq_getElem?_getD, List.getD_eq_getElem?_getD, List.getElem?_map, List.getElem?_eq_getElem h]; rfl
theorem trim_put {S : Src} {wr c : Int} (h : 0 ≤ wr ∧ wr < S.length) : trim (S.map (putP c)) wr = putP c (trim S wr) := by
  have l1 : (sortI (S.map fun p => p.1)).length = S.length := by rw [(sortI_perm _).length_eq, List.length_map]
  have l2 : (sortI (S.map fun p => p.2)).length = S.length := by rw [(sortI_perm _).length_eq, List.length_map]
  have e1 : (S.map (putP c)).map (fun p => p.1) = (S.map fun p => p.1).map fun x => x + c := by rw [List.map_map, List.map_map]; rfl
  have e2 : (S.map (putP c)).map (fun p => p.2) = (S.map fun p => p.2).map fun x => x + c := by rw [List.map_map, List.map_map]; rfl
  unfold trim
  rw [e1, e2, sortI_put, sortI_put, List.length_map, getD_map (by omega), getD_map (by omega)]
  rfl
theorem trim_neg {S : Src} {wr : Int} (h : 0 ≤ wr ∧ wr < S.length) : trim (S.map negP) wr = negP (trim S wr) := by
  have l1 : (sortI (S.map fun p => p.1)).length = S.length := by rw [(sortI_perm _).length_eq, List.length_map]
  have l2 : (sortI (S.map fun p => p.2)).length = S.length := by rw [(sortI_perm _).length_eq, List.length_map]
  have e1 : (S.map negP).map (fun p => p.1) = (S.map fun p => p.2).map fun x => -x := by rw [List.map_map, List.map_map]; rfl
  have e2 : (S.map negP).map (fun p => p.2) = (S.map fun p => p.1).map fun x => -x := by rw [List.map_map, List.map_map]; rfl
  have rv : ∀ (L : List Int) (i : Nat), i < L.length → L.reverse.getD i 0 = L.getD (L.length - 1 - i) 0 := fun L i hi => by
    rw [List.getD_eq_getElem?_getD, List.getD_eq_getElem?_getD, List.getElem?_reverse hi]
  unfold trim
  rw [e1, e2, sortI_neg, sortI_neg, List.length_map, getD_map (by rw [List.length_reverse]; omega), getD_map (by rw [List.length_reverse]; omega), rv _ _ (by omega), rv _ _ (by omega), l1, l2]
  show ((-(sortI _).getD _ 0, -(sortI _).getD _ 0) : Int × Int) = (-(sortI _).getD _ 0, -(sortI _).getD _ 0)
  have i1 : S.length - 1 - ((S.length : Int) - 1 - wr).toNat = wr.toNat := by omega
  have i2 : S.length - 1 - wr.toNat = ((S.length : Int) - 1 - wr).toNat := by omega
  rw [i1, i2]

/-! ### two logs far from each other -/
theorem canon_app {R T : Src} (h1 : Canon R) (h2 : Canon T) (h : ∀ a ∈ R, ∀ b ∈ T, a.2 + 1 < b.1) : Canon (R ++ T) :=
  ⟨List.pairwise_append.mpr ⟨h1.1, h2.1, h⟩, fun a ha => (List.mem_append.mp ha).elim (h1.2 a) (h2.2 a)⟩
theorem inn_app {R T : Src} {n : Int} : inn n (R ++ T) ↔ inn n R ∨ inn n T := by
  constructor
  · rintro ⟨a, ha, z⟩
    rcases List.mem_append.mp ha with q | q
    · exact .inl ⟨a, q, z⟩
    · exact .inr ⟨a, q, z⟩
  · rintro (⟨a, ha, z⟩ | ⟨a, ha, z⟩)
    · exact ⟨a, List.mem_append_left _ ha, z⟩
    · exact ⟨a, List.mem_append_right _ ha, z⟩
theorem cnt_pos {S : Src} {n : Int} (h : 1 ≤ cnt S n) : ∃ p ∈ S, p.1 ≤ n ∧ n ≤ p.2 := by
  unfold cnt at h
  obtain ⟨x, hx⟩ := List.exists_mem_of_ne_nil (hav S n) (fun e => by rw [e] at h; simp at h)
  obtain ⟨p, h1, _, h2⟩ := mem_hav.mp hx
  exact ⟨p, List.mem_of_getElem? h1, h2⟩
theorem cnt_zero {S : Src} {n : Int} (h : ∀ p ∈ S, ¬ (p.1 ≤ n ∧ n ≤ p.2)) : cnt S n = 0 := by
  rcases Int.lt_or_le 0 (cnt S n) with q | q
  · obtain ⟨p, hp, z⟩ := cnt_pos (S := S) (n := n) (by omega)
    exact absurd z (h p hp)
  · have : 0 ≤ cnt S n := by unfold cnt; omega
    omega
theorem told_in {S : Src} (h7 : okT7 S) {a : Int} (ha : 1 ≤ a) {q : Int × Int} (hq : q ∈ told S a) : -20 ≤ q.1 ∧ q.1 ≤ q.2 ∧ q.2 ≤ 38 := by
  obtain ⟨h1, h2⟩ := told_ok (S := S) ha
  have hle := h1.2 q hq
  have e1 := (h2 q.1).mp ⟨q, hq, Int.le_refl _, hle⟩
  have e2 := (h2 q.2).mp ⟨q, hq, hle, Int.le_refl _⟩
  obtain ⟨p, hp, z1, z2⟩ := cnt_pos (S := S) (n := q.1) (by unfold cnt; omega)
  obtain ⟨p2, hp2, z3, z4⟩ := cnt_pos (S := S) (n := q.2) (by unfold cnt; omega)
  have := h7 p hp
  have := h7 p2 hp2
  omega
theorem cnt_far {S T : Src} (hS : okT7 S) (hT : okT7 T) (n : Int) : cnt (S ++ T.map (putP 5000)) n = if n ≤ 2000 then cnt S n else cnt T (n - 5000) := by
  rw [cnt_app]
  have e : cnt (T.map (putP 5000)) n = cnt T (n - 5000) := by unfold cnt; rw [hav_put]
  rw [e]
  by_cases h : n ≤ 2000
  · rw [if_pos h, cnt_zero (S := T) fun p hp z => by have := hT p hp; omega]; omega
  · rw [if_neg h, cnt_zero (S := S) fun p hp z => by have := hS p hp; omega]; omega
theorem told_far {S T : Src} (hS : okT7 S) (hT : okT7 T) {a : Int} (ha : 1 ≤ a) : told (S ++ T.map (putP 5000)) a = told S a ++ (told T a).map (putP 5000) := by
  obtain ⟨h1, h2⟩ := told_ok (S := S ++ T.map (putP 5000)) ha
  obtain ⟨g1, g2⟩ := told_ok (S := S) ha
  obtain ⟨k1, k2⟩ := told_ok (S := T) ha
  refine canon_uniq h1 (canon_app g1 (canon_put k1 5000) fun x hx y hy => ?_) fun n => ?_
  · obtain ⟨z, hz, rfl⟩ := List.mem_map.mp hy
    have := told_in hS ha hx
    have := told_in hT ha hz
    show x.2 + 1 < z.1 + 5000
    omega
  · rw [h2, inn_app, inn_put, g2, k2]
    have := cnt_far hS hT n
    unfold cnt at this
    rw [this]
    by_cases h : n ≤ 2000
    · rw [if_pos h]
      have : cnt T (n - 5000) = 0 := cnt_zero fun p hp z => by have := hT p hp; omega
      unfold cnt at this
      rw [this]
      exact ⟨.inl, fun z => z.elim id fun q => by omega⟩
    · rw [if_neg h]
      have : cnt S n = 0 := cnt_zero fun p hp z => by have := hS p hp; omega
      unfold cnt at this
      rw [this]
      exact ⟨.inr, fun z => z.elim (fun q => by omega) id⟩
end PG

namespace PG
open PySem PySem.Spec L2 PF
def sp__law_are_turned_right : DSp := fun ds m Q => ∃ (p : Addr) (S : Src) (k : Nat), ds = [.cel p, encS S] ∧ (1 ≤ S.length ∧ S.length ≤ 6 ∧ okT7 S) ∧ k ≤ 700 ∧ potAt m p k ∧ ∀ m', potAt m' p (k + 30) → Q (.bl true) m'
theorem i_turned {p : Addr} {S : Src} {m : Mem} {Q : D → Mem → Prop} (k : Nat) (h1 : 1 ≤ S.length ∧ S.length ≤ 6 ∧ okT7 S) (h2 : k ≤ 700) (h3 : potAt m p k) (q : ∀ m', potAt m' p (k + 30) → Q (.bl true) m') : sp__law_are_turned_right [.cel p, encS S] m Q := ⟨p, S, k, rfl, h1, h2, h3, q⟩
theorem s_listT {l : List D} {m : Mem} {Q : D → Mem → Prop} : dcList [.tup l] m Q = Q (.lst l) m := rfl
theorem e_revT {de : DE} {ρ : PF.Env} {m : Mem} {Q : D → Mem → Prop} : dRevT de ρ m Q = de ρ m fun x m1 => ∃ ds, x = .tup ds ∧ Q (.tup ds.reverse) m1 := by
  unfold dRevT; congr 1; funext x m1; split <;> simp_all
theorem shw_pairs {R : Src} (h : ∀ p ∈ R, (-1000000 < p.1 ∧ p.1 < 1000000) ∧ (-1000000 < p.2 ∧ p.2 < 1000000)) (hl : R.length ≤ 40) : shw 154043 2 (.tup (R.map encP)) := by
  refine shw_tup (k := 3849) (n := 1) (c := 40) (fun d hd => ?_) (by rw [List.length_map]; exact hl)
  obtain ⟨p, hp, rfl⟩ := List.mem_map.mp hd
  exact shw_encP (h p hp).1 (h p hp).2
theorem okS_of7 {S : Src} (h7 : okT7 S) (h1 : 1 ≤ S.length) (h2 : S.length ≤ 20) : okS S := ⟨h1, h2, fun q hq => by have := h7 q hq; exact ⟨by omega, by omega, by omega⟩⟩
end PG

namespace PG
open PySem PySem.Spec L2 PF
def six (S : Src) : Prop := 1 ≤ S.length ∧ S.length ≤ 6 ∧ okT7 S
def sp__law_are_times_right : DSp := fun ds m Q => ∃ (p : Addr) (S : Src) (t k : Nat), ds = [.cel p, encS S, .int t] ∧ six S ∧ (2 ≤ t ∧ t ≤ 3) ∧ k ≤ 700 ∧ potAt m p k ∧ ∀ m', potAt m' p (k + 30) → Q (.bl true) m'
def sp__law_are_apart_right : DSp := fun ds m Q => ∃ (p : Addr) (S O : Src) (k : Nat), ds = [.cel p, encS S, encS O] ∧ six S ∧ six O ∧ k ≤ 700 ∧ potAt m p k ∧ ∀ m', potAt m' p (k + 30) → Q (.bl true) m'
theorem i_times {p : Addr} {S : Src} {m : Mem} {Q : D → Mem → Prop} (t k : Nat) (h1 : six S) (h : 2 ≤ t ∧ t ≤ 3) (h2 : k ≤ 700) (h3 : potAt m p k) (q : ∀ m', potAt m' p (k + 30) → Q (.bl true) m') : sp__law_are_times_right [.cel p, encS S, .int t] m Q := ⟨p, S, t, k, rfl, h1, h, h2, h3, q⟩
theorem i_apart {p : Addr} {S O : Src} {m : Mem} {Q : D → Mem → Prop} (k : Nat) (h1 : six S) (h : six O) (h2 : k ≤ 700) (h3 : potAt m p k) (q : ∀ m', potAt m' p (k + 30) → Q (.bl true) m') : sp__law_are_apart_right [.cel p, encS S, encS O] m Q := ⟨p, S, O, k, rfl, h1, h, h2, h3, q⟩
def sp__law_right : DSp := fun ds m Q => ∃ (p : Addr) (k : Nat), ds = [.cel p] ∧ k ≤ 300 ∧ potAt m p k ∧ ∀ m', potAt m' p (k + 250) → Q (.bl true) m'
theorem i_rightT {p : Addr} {m : Mem} {Q : D → Mem → Prop} (k : Nat) (h2 : k ≤ 300) (h3 : potAt m p k) (q : ∀ m', potAt m' p (k + 250) → Q (.bl true) m') : sp__law_right [.cel p] m Q := ⟨p, k, rfl, h2, h3, q⟩
end PG

namespace PG
open PySem PySem.Spec L2 PF
section
variable {P : Program} {w : World} {K : PySem.W.Frag} {mg : Str → Option Value} {base : Heap}
/-! _law_are_turned_right -/
abbrev N__law_are_turned_right : List Str := ["pot", "sources", "size", "on", "turned", "put", "mixed", "wrong", "lows", "highs", "due", "told", "many", "spans", "back", "later", "low", "high", "least", "most"]
theorem sc__law_are_turned_right : FnScope N__law_are_turned_right ["pot", "sources"] (defScope (top 50)) := ⟨rfl, rfl, rfl, by decide +kernel, rfl, by decide +kernel, by decide +kernel⟩
theorem ok__law_are_turned_right {f : Addr} {fd : FuncData} (T : Txt mg) (F : Fun K "_law_are_turned_right" "_law_are_turned_right" (top 50) f fd) (hm : mg "_law_are_turned_right" = some (.ref f)) (d_agreed : Def P w K mg base 5 "agreed" (top 24) ["sources", "many"] sp_agreed) (d_trimmed : Def P w K mg base 6 "trimmed" (top 35) ["sources", "wrong"] sp_trimmed) (d__law_take : Def P w K mg base 1 "_law_take" (top 39) ["pot", "upto"] sp__law_take) (d__law_some : Def P w K mg base 2 "_law_some" (top 41) ["pot", "pool", "width"] sp__law_some) (d__law_same : Def P w K mg base 1 "_law_same" (top 43) ["one", "other"] sp__law_same) (d__law_agreed : Def P w K mg base 2 "_law_agreed" (top 47) ["sources", "many"] sp__law_agreed) : Def P w K mg base 7 "_law_are_turned_right" (top 50) ["pot", "sources"] sp__law_are_turned_right := by
  refine def_ok F hm sc__law_are_turned_right (by rintro ds m Q ⟨p, S, k, rfl, _⟩; rfl) (fun f cdv A outer s H E c => (db_cons (ds_asg (dx_tup (da_cons (dx_bi cb_len T.n_len bt_len (da_cons (dx_var 1) da_nil)) (da_cons (dx_op ox_sub (dx_call d__law_take c (by decide) (da_cons (dx_var 0) (da_cons dx_int da_nil)) (fun _ _ _ _ _ _ us hl => match us, hl with | [_, _], _ => rfl)) dx_int) da_nil))) (dg_tup (n := 2) c (dgs_cons (dg_name 2 c) (dgs_cons (dg_name 3 c) dgs_nil)))) (db_cons (ds_set 4 c (dx_ty cb_tuple T.n_tuple bt_tuple (da_cons (dx_lc c (di_tup (dx_var 1)) (blkOk_by (own := [("low", 16), ("high", 17)]) (by first | decide +kernel | kernel_rfl)) (fun _ _ _ _ _ => (dg_tup (n := 2) (c.blk _ _ _ _ _) (dgs_cons (dg_name 16 (c.blk _ _ _ _ _)) (dgs_cons (dg_name 17 (c.blk _ _ _ _ _)) dgs_nil)))) (fun _ _ _ _ _ => dts_nil) (fun _ _ _ _ _ => (dx_tup (da_cons (dx_op ox_sub dx_int (dx_var 17)) (da_cons (dx_op ox_sub dx_int (dx_var 16)) da_nil))))) da_nil))) (db_cons (ds_set 5 c (dx_ty cb_tuple T.n_tuple bt_tuple (da_cons (dx_lc c (di_tup (dx_var 1)) (blkOk_by (own := [("low", 16), ("high", 17)]) (by first | decide +kernel | kernel_rfl)) (fun _ _ _ _ _ => (dg_tup (n := 2) (c.blk _ _ _ _ _) (dgs_cons (dg_name 16 (c.blk _ _ _ _ _)) (dgs_cons (dg_name 17 (c.blk _ _ _ _ _)) dgs_nil)))) (fun _ _ _ _ _ => dts_nil) (fun _ _ _ _ _ => (dx_tup (da_cons (dx_op ox_add (dx_var 16) (dx_var 3)) (da_cons (dx_op ox_add (dx_var 17) (dx_var 3)) da_nil))))) da_nil))) (db_cons (ds_set 6 c (dx_ty cb_tuple T.n_tuple bt_tuple (da_cons (dx_call d__law_some c (by decide) (da_cons (dx_var 0) (da_cons (dx_ty cb_list T.n_list bt_list (da_cons (dx_var 1) da_nil)) (da_cons (dx_var 2) da_nil))) (fun _ _ _ _ _ _ us hl => match us, hl with | [_, _, _], _ => rfl)) da_nil))) (db_cons (ds_set 7 c (dx_call d__law_take c (by decide) (da_cons (dx_var 0) (da_cons (dx_var 2) da_nil)) (fun _ _ _ _ _ _ us hl => match us, hl with | [_, _], _ => rfl))) (db_cons (ds_par (i := 8) (j := 9) c (da_cons (dx_sortedR (da_cons (dx_lc c (di_tup (dx_var 1)) (blkOk_by (own := [("low", 16), ("high", 17)]) (by first | decide +kernel | kernel_rfl)) (fun _ _ _ _ _ => (dg_tup (n := 2) (c.blk _ _ _ _ _) (dgs_cons (dg_name 16 (c.blk _ _ _ _ _)) (dgs_cons (dg_name 17 (c.blk _ _ _ _ _)) dgs_nil)))) (fun _ _ _ _ _ => dts_nil) (fun _ _ _ _ _ => (dx_var 16))) da_nil) T.n_sorted bt_sorted (mk := fun pa => pe_callBK cr_sortedRev (by rfl) T.n_sorted bt_sorted pa (pk_cons pe_bl pk_nil))) (da_cons (dx_bi cb_sorted T.n_sorted bt_sorted (da_cons (dx_lc c (di_tup (dx_var 1)) (blkOk_by (own := [("low", 16), ("high", 17)]) (by first | decide +kernel | kernel_rfl)) (fun _ _ _ _ _ => (dg_tup (n := 2) (c.blk _ _ _ _ _) (dgs_cons (dg_name 16 (c.blk _ _ _ _ _)) (dgs_cons (dg_name 17 (c.blk _ _ _ _ _)) dgs_nil)))) (fun _ _ _ _ _ => dts_nil) (fun _ _ _ _ _ => (dx_var 17))) da_nil)) da_nil)) rfl rfl (by decide) (by rfl) (by rfl) (by rfl)) (db_cons (ds_set 10 c (dx_tup (da_cons (dx_ix (dx_var 8) (dx_var 7)) (da_cons (dx_ix (dx_var 9) (dx_var 7)) da_nil)))) (db_cons (ds_set 11 c (dx_tup (da_cons (dx_call d_trimmed c (by decide) (da_cons (dx_var 1) (da_cons (dx_var 7) da_nil)) (fun _ _ _ _ _ _ us hl => match us, hl with | [_, _], _ => rfl)) (da_cons (dx_call d_trimmed c (by decide) (da_cons (dx_var 6) (da_cons (dx_var 7) da_nil)) (fun _ _ _ _ _ _ us hl => match us, hl with | [_, _], _ => rfl)) (da_cons (dx_call d_trimmed c (by decide) (da_cons (dx_var 5) (da_cons (dx_var 7) da_nil)) (fun _ _ _ _ _ _ us hl => match us, hl with | [_, _], _ => rfl)) (da_cons (dx_call d_trimmed c (by decide) (da_cons (dx_var 4) (da_cons (dx_var 7) da_nil)) (fun _ _ _ _ _ _ us hl => match us, hl with | [_, _], _ => rfl)) da_nil)))))) (db_cons (ds_if (dt_not (dt_val (dx_call d__law_same c (by decide) (da_cons (dx_var 11) (da_cons (dx_tup (da_cons (dx_var 10) (da_cons (dx_var 10) (da_cons (dx_tup (da_cons (dx_op ox_add (dx_ix (dx_var 10) dx_int) (dx_var 3)) (da_cons (dx_op ox_add (dx_ix (dx_var 10) dx_int) (dx_var 3)) da_nil))) (da_cons (dx_tup (da_cons (dx_op ox_sub dx_int (dx_ix (dx_var 10) dx_int)) (da_cons (dx_op ox_sub dx_int (dx_ix (dx_var 10) dx_int)) da_nil))) da_nil))))) da_nil)) (fun _ _ _ _ _ _ us hl => match us, hl with | [_, _], _ => rfl)))) (db_cons (ds_ret dx_bl) db_nil) db_nil) (db_cons (ds_set 12 c (dx_op ox_add dx_int (dx_call d__law_take c (by decide) (da_cons (dx_var 0) (da_cons (dx_var 2) da_nil)) (fun _ _ _ _ _ _ us hl => match us, hl with | [_, _], _ => rfl)))) (db_cons (ds_set 13 c (dx_call d__law_agreed c (by decide) (da_cons (dx_var 1) (da_cons (dx_var 12) da_nil)) (fun _ _ _ _ _ _ us hl => match us, hl with | [_, _], _ => rfl))) (db_cons (ds_set 14 c (dx_ty cb_tuple T.n_tuple bt_tuple (da_cons (dx_lc c (di_tup (dx_revT (dx_var 13))) (blkOk_by (own := [("least", 18), ("most", 19)]) (by first | decide +kernel | kernel_rfl)) (fun _ _ _ _ _ => (dg_tup (n := 2) (c.blk _ _ _ _ _) (dgs_cons (dg_name 18 (c.blk _ _ _ _ _)) (dgs_cons (dg_name 19 (c.blk _ _ _ _ _)) dgs_nil)))) (fun _ _ _ _ _ => dts_nil) (fun _ _ _ _ _ => (dx_tup (da_cons (dx_op ox_sub dx_int (dx_var 19)) (da_cons (dx_op ox_sub dx_int (dx_var 18)) da_nil))))) da_nil))) (db_cons (ds_set 15 c (dx_ty cb_tuple T.n_tuple bt_tuple (da_cons (dx_lc c (di_tup (dx_var 13)) (blkOk_by (own := [("least", 18), ("most", 19)]) (by first | decide +kernel | kernel_rfl)) (fun _ _ _ _ _ => (dg_tup (n := 2) (c.blk _ _ _ _ _) (dgs_cons (dg_name 18 (c.blk _ _ _ _ _)) (dgs_cons (dg_name 19 (c.blk _ _ _ _ _)) dgs_nil)))) (fun _ _ _ _ _ => dts_nil) (fun _ _ _ _ _ => (dx_tup (da_cons (dx_op ox_add (dx_var 18) (dx_var 3)) (da_cons (dx_op ox_add (dx_var 19) (dx_var 3)) da_nil))))) da_nil))) (db_cons (ds_ret (dx_call d__law_same c (by decide) (da_cons (dx_tup (da_cons (dx_call d_agreed c (by decide) (da_cons (dx_var 6) (da_cons (dx_var 12) da_nil)) (fun _ _ _ _ _ _ us hl => match us, hl with | [_, _], _ => rfl)) (da_cons (dx_call d_agreed c (by decide) (da_cons (dx_var 4) (da_cons (dx_var 12) da_nil)) (fun _ _ _ _ _ _ us hl => match us, hl with | [_, _], _ => rfl)) (da_cons (dx_call d_agreed c (by decide) (da_cons (dx_var 5) (da_cons (dx_var 12) da_nil)) (fun _ _ _ _ _ _ us hl => match us, hl with | [_, _], _ => rfl)) da_nil)))) (da_cons (dx_tup (da_cons (dx_var 13) (da_cons (dx_var 14) (da_cons (dx_var 15) da_nil)))) da_nil)) (fun _ _ _ _ _ _ us hl => match us, hl with | [_, _], _ => rfl))) db_nil))))))))))))))) ?_
  rintro ds m Q ⟨p, S, k, rfl, ⟨hS1, hS6, h7⟩, hk, hp, q⟩
  have hq : ∀ m', potAt m' p (k + 30) → ∃ m'', MLe m'' m' ∧ Q (D.bl true) m'' := fun m' h => ⟨m', MLe.refl m', q m' h⟩
  generalize hE : (fun (d : D) (m' : Mem) => ∃ m'', MLe m'' m' ∧ Q d m'') = RT
  have hRT : ∀ m', potAt m' p (k + 30) → RT (D.bl true) m' := by subst hE; exact hq
  clear hE hq q
  have okS' := okS_of7 h7 hS1 (by omega)
  rw [s_seq]; generalize hU : dSeq _ _ _ = N
  simp [startD, encS, PySem.sizeLine_eq]
  refine i_take k (by omega) (by omega) hp fun d1 c1 hd1 hc1 => ?_
  have hpc : potAt (updM m p c1) p (k + 1) := potAt_upd hc1
  generalize updM m p c1 = m1 at hpc
  simp [PySem.sizeLine_eq]
  -- turned
  subst hU; rw [s_seq]; generalize hU : dSeq _ _ _ = N
  simp [e_diT, dLc, wipeD, PySem.sizeLine_eq]
  refine ⟨by omega, lc_ok S encP (fun _ => true) (fun x => encP (negP x)) rfl (fun x hx K1 K0 h => by simpa [encP, negP, PySem.sizeLine_eq] using h) ?_⟩
  rw [filter_tt]
  -- put
  subst hU; rw [s_seq]; generalize hU : dSeq _ _ _ = N
  simp [e_diT, dLc, wipeD, PySem.sizeLine_eq]
  refine ⟨by omega, lc_ok S encP (fun _ => true) (fun x => encP (putP (d1 - 100) x)) rfl (fun x hx K1 K0 h => by simpa [encP, putP, PySem.sizeLine_eq] using h) ?_⟩
  rw [filter_tt]
  have eN : S.map (fun x => encP (negP x)) = (S.map negP).map encP := by rw [List.map_map]; rfl
  have eP : S.map (fun x => encP (putP (d1 - 100) x)) = (S.map (putP (d1 - 100))).map encP := by rw [List.map_map]; rfl
  rw [eN, eP]
  have b1 : okS (S.map negP) := ⟨by simp; omega, by simp; omega, fun q hq => by
    obtain ⟨y, hy, rfl⟩ := List.mem_map.mp hq
    have := h7 y hy
    exact ⟨by show -99999 ≤ -y.2; omega, by show -y.2 ≤ -y.1; omega, by show -y.1 ≤ 99999; omega⟩⟩
  have b2 : okS (S.map (putP (d1 - 100))) := ⟨by simp; omega, by simp; omega, fun q hq => by
    obtain ⟨y, hy, rfl⟩ := List.mem_map.mp hq
    have := h7 y hy
    exact ⟨by show -99999 ≤ y.1 + (d1 - 100); omega, by show y.1 + (d1 - 100) ≤ y.2 + (d1 - 100); omega, by show y.2 + (d1 - 100) ≤ 99999; omega⟩⟩
  have ln : (S.map negP).length = S.length := List.length_map _
  have lp : (S.map (putP (d1 - 100))).length = S.length := List.length_map _
  generalize hTn : S.map negP = Tn at *
  generalize hTp : S.map (putP (d1 - 100)) = Tp at *
  -- mixed
  subst hU; rw [s_seq]; generalize hU : dSeq _ _ _ = N
  simp [s_listT, PySem.sizeLine_eq]
  refine i_some (S := S) (k + 1) (by omega) (by omega) hpc fun S' c2 hperm hc2 => ?_
  have hpc : potAt (updM m1 p c2) p (k + 1 + S.length) := potAt_upd hc2
  generalize updM m1 p c2 = m2 at hpc
  try simp
  -- wrong
  subst hU; rw [s_seq]; generalize hU : dSeq _ _ _ = N
  simp [PySem.sizeLine_eq]
  refine i_take _ (by omega) (by omega) hpc fun wr c3 hwr hc3 => ?_
  have hpc : potAt (updM m2 p c3) p (k + 1 + S.length + 1) := potAt_upd hc3
  generalize updM m2 p c3 = m3 at hpc
  -- lows, highs
  subst hU; rw [s_seq]; generalize hU : dSeq _ _ _ = N
  simp [s_sortedR, e_diT, dLc, wipeD, PySem.sizeLine_eq]
  refine ⟨by omega, lc_ok S encP (fun _ => true) (fun p => .int p.1) rfl (fun x hx K1 K0 h => by simpa [encP] using h) ?_⟩
  rw [filter_tt]
  refine ⟨_, intsV_map _ _, by omega, lc_ok S encP (fun _ => true) (fun p => .int p.2) rfl (fun x hx K1 K0 h => by simpa [encP] using h) ?_⟩
  rw [filter_tt, sorted_int]
  have t1 : atI (List.map D.int (sortI (S.map fun p => p.1))).reverse wr = some (.int (trim S wr).1) := by rw [← List.map_reverse]; exact trim_lo hwr
  have t2 := trim_hi hwr
  -- due
  subst hU; rw [s_seq]; generalize hU : dSeq _ _ _ = N
  simp [t1, t2, PySem.sizeLine_eq]
  -- told
  have b3 : okS S' := ⟨by rw [hperm.length_eq]; omega, by rw [hperm.length_eq]; omega, fun q hq => okS'.2.2 q (hperm.mem_iff.mp hq)⟩
  have l3 := hperm.length_eq
  subst hU; rw [s_seq]; generalize hU : dSeq _ _ _ = N
  simp [PySem.sizeLine_eq]
  refine i_trimmed okS' hwr ?_
  refine i_trimmed b3 (by rw [l3]; exact hwr) ?_
  refine i_trimmed b2 (by rw [lp]; exact hwr) ?_
  refine i_trimmed b1 (by rw [ln]; exact hwr) ?_
  -- the first test
  subst hU; rw [s_seq]; generalize hU : dSeq _ _ _ = N
  have a0 : ∀ x y : Int, atI [D.int x, D.int y] 0 = some (.int x) := fun _ _ => rfl
  have a1 : ∀ x y : Int, atI [D.int x, D.int y] 1 = some (.int y) := fun _ _ => rfl
  simp [a0, a1, PySem.sizeLine_eq]
  obtain ⟨tb1, tb2⟩ := trim_bd h7 hwr
  refine i_same2 ?_ (shw_four (shw_encP (p := trim S wr) tb1 tb2) (shw_encP (p := trim S wr) tb1 tb2) (shw_pair (shw_int (i := (trim S wr).1 + (d1 - 100)) (by omega) (by omega)) (shw_int (i := (trim S wr).2 + (d1 - 100)) (by omega) (by omega))) (shw_pair (shw_int (i := -(trim S wr).2) (by omega) (by omega)) (shw_int (i := -(trim S wr).1) (by omega) (by omega)))) (by decide) (by decide) ?_
  · rw [trim_perm hperm, ← hTp, ← hTn, trim_put hwr, trim_neg hwr]
    rfl
  refine .inr ⟨rfl, ?_⟩
  -- many
  subst hU; rw [s_seq]; generalize hU : dSeq _ _ _ = N
  simp [PySem.sizeLine_eq]
  refine i_take _ (by omega) (by omega) hpc fun d5 c4 hd5 hc4 => ?_
  have hpc : potAt (updM m3 p c4) p (k + 1 + S.length + 1 + 1) := potAt_upd hc4
  generalize updM m3 p c4 = m4 at hpc
  simp
  -- spans
  subst hU; rw [s_seq]; generalize hU : dSeq _ _ _ = N
  simp [PySem.sizeLine_eq]
  refine i_agr ⟨h7, by omega⟩ (by omega) ?_
  have hRl := told_len okS' (1 + d5)
  have hRb : ∀ q ∈ told S (1 + d5), -20 ≤ q.1 ∧ q.1 ≤ q.2 ∧ q.2 ≤ 38 := fun q hq => told_in h7 (by omega) hq
  have e1 : told S' (1 + d5) = told S (1 + d5) := told_perm hperm (by omega)
  have e2 : told Tn (1 + d5) = (told S (1 + d5)).reverse.map negP := by rw [← hTn]; exact told_neg (by omega)
  have e3 : told Tp (1 + d5) = (told S (1 + d5)).map (putP (d1 - 100)) := by rw [← hTp]; exact told_put (by omega)
  generalize told S (1 + d5) = R at *
  -- back
  subst hU; rw [s_seq]; generalize hU : dSeq _ _ _ = N
  simp [e_diT, e_revT, dLc, wipeD, PySem.sizeLine_eq]
  refine ⟨by omega, lc_ok R.reverse encP (fun _ => true) (fun x => encP (negP x)) (by simp) (fun x hx K1 K0 h => by simpa [encP, negP, PySem.sizeLine_eq] using h) ?_⟩
  rw [filter_tt]
  have eN : R.reverse.map (fun x => encP (negP x)) = (R.reverse.map negP).map encP := by rw [List.map_map]; rfl
  rw [eN]
  -- later
  subst hU; rw [s_seq]; generalize hU : dSeq _ _ _ = N
  simp [e_diT, dLc, wipeD, PySem.sizeLine_eq]
  refine ⟨by omega, lc_ok R encP (fun _ => true) (fun x => encP (putP (d1 - 100) x)) rfl (fun x hx K1 K0 h => by simpa [encP, putP, PySem.sizeLine_eq] using h) ?_⟩
  rw [filter_tt]
  subst hU; rw [s_seq]
  simp [PySem.sizeLine_eq]
  refine i_agreed b3 (by rw [l3]; omega) ?_
  refine i_agreed b1 (by rw [ln]; omega) ?_
  refine i_agreed b2 (by rw [lp]; omega) ?_
  refine i_same ?_ (shw_three (shw_pairs (R := told S' (1 + d5)) (fun q hq => by rw [e1] at hq; have := hRb q hq; omega) (by rw [e1]; exact hRl)) (shw_pairs (R := told Tn (1 + d5)) (fun q hq => by
    rw [e2] at hq
    obtain ⟨y, hy, rfl⟩ := List.mem_map.mp hq
    have := hRb y (List.mem_reverse.mp hy)
    exact ⟨⟨by show -1000000 < -y.2; omega, by show -y.2 < 1000000; omega⟩, ⟨by show -1000000 < -y.1; omega, by show -y.1 < 1000000; omega⟩⟩) (by rw [e2]; simpa using hRl)) (shw_pairs (R := told Tp (1 + d5)) (fun q hq => by
    rw [e3] at hq
    obtain ⟨y, hy, rfl⟩ := List.mem_map.mp hq
    have := hRb y hy
    exact ⟨⟨by show -1000000 < y.1 + _; omega, by show y.1 + (d1 - 100) < 1000000; omega⟩, ⟨by show -1000000 < y.2 + (d1 - 100); omega, by show y.2 + (d1 - 100) < 1000000; omega⟩⟩) (by rw [e3]; simpa using hRl))) (by decide) (by decide) (hRT _ (hpc.mono (by omega)))
  rw [e1, e2, e3]
  simp [Function.comp_def, List.map_map]
end
end PG

namespace PG
open PySem PySem.Spec L2 PF

theorem fdiv_up {t : Nat} {g a : Int} (ht : 1 ≤ t) (z1 : g * (t : Int) - t < a) (z2 : a ≤ g * t) : 0 - (0 - a).fdiv t = g := by
  have e : (0 - a).fdiv t = (0 - a) / t := Int.fdiv_eq_ediv_of_nonneg _ (by omega)
  have h1 : -g ≤ (0 - a) / (t : Int) := Int.le_ediv_of_mul_le (by omega) (by rw [Int.neg_mul]; omega)
  have h2 : (0 - a) / (t : Int) < -g + 1 := Int.ediv_lt_of_lt_mul (by omega) (by rw [Int.add_mul, Int.neg_mul, Int.one_mul]; omega)
  rw [e]; omega
theorem key_times {S : Src} {t : Nat} {g a : Int} (ht : 1 ≤ t) (hg : 1 ≤ g) (z1 : g * (t : Int) - t < a) (z2 : a ≤ g * t) : told (times t S) a = told S g ∧ 0 - (0 - a).fdiv t = g := by
  refine ⟨told_times ht hg ?_ ?_, fdiv_up ht z1 z2⟩
  · rw [Int.mul_sub, Int.mul_one, Int.mul_comm]; exact z1
  · rw [Int.mul_comm]; exact z2
/-- what is left of so many times the numbers -/
theorem more_times {S : Src} {t : Nat} {wr e : Int} (ht : 1 ≤ t) (hS : okS S) (hw : okS (times t S)) (he : 0 ≤ e ∧ e < t) : more (times t S) (wr * t + e) ↔ more S wr := by
  unfold more
  rw [most_times hS hw, times_len]
  have e1 : ((t * S.length : Nat) : Int) - t * mostA S = (S.length - mostA S) * t := by
    rw [Int.sub_mul, Int.natCast_mul, Int.mul_comm, Int.mul_comm (t : Int) (mostA S)]
  rw [e1]
  generalize (S.length : Int) - mostA S = X
  constructor
  · intro h
    rcases Int.lt_or_le wr X with z | z
    · exact z
    · have := Int.mul_le_mul_of_nonneg_right z (show (0 : Int) ≤ t by omega)
      omega
  · intro h
    have := Int.mul_le_mul_of_nonneg_right (show wr + 1 ≤ X by omega) (show (0 : Int) ≤ t by omega)
    rw [Int.add_mul, Int.one_mul] at this
    omega
theorem told_left {S : Src} {t : Nat} {wr e : Int} (ht : 1 ≤ t) (he : 0 ≤ e ∧ e < t) (hw : wr < S.length) : told (times t S) ((times t S).length - (wr * t + e)) = told S (S.length - wr) := by
  have e1 : ((times t S).length : Int) - (wr * t + e) = (S.length - wr) * t - e := by
    rw [times_len, Int.natCast_mul, Int.sub_mul, Int.mul_comm]; omega
  rw [e1]
  exact (key_times ht (by omega) (by omega) (by omega)).1
theorem right_times {S T : Src} (t : Nat) : rightS (times t S) T = ((List.range t).map fun lap : Nat => (rightS S T).map fun i => i + (S.length : Int) * lap).flatten := by
  rw [right_sel, sel_times]; rfl
theorem could_times {S : Src} {t : Nat} {wr e : Int} (ht : 1 ≤ t) (hS : okS S) (hw : okS (times t S)) (he : 0 ≤ e ∧ e < t) (hwr : wr < S.length) :
    could (times t S) (wr * t + e) = if more S wr then .tup [.str "more", .int (t * (S.length - mostA S))] else .tup [.str "spans", .tup ((told S (S.length - wr)).map encP)] := by
  unfold could
  by_cases h : more S wr
  · rw [if_pos ((more_times ht hS hw he).mpr h), if_pos h, most_times hS hw, times_len, Int.mul_sub, Int.natCast_mul]
  · rw [if_neg (fun z => h ((more_times ht hS hw he).mp z)), if_neg h, told_left ht he hwr]
theorem times_facts {S : Src} {t : Nat} {M : Int} (ht : 1 ≤ t) (hM : 1 ≤ M ∧ M ≤ S.length) : (t : Int) ≤ M * t ∧ M * (t : Int) ≤ (times t S).length ∧ ∀ a : Int, M * t - t < a → a ≤ M * t → told (times t S) a = told S M ∧ -((-a).fdiv t) = M := by
  refine ⟨?_, ?_, fun a z1 z2 => ?_⟩
  · have := Int.mul_le_mul_of_nonneg_right hM.1 (show (0 : Int) ≤ t by omega)
    rw [Int.one_mul] at this; exact this
  · rw [times_len, Int.natCast_mul, Int.mul_comm (t : Int)]
    exact Int.mul_le_mul_of_nonneg_right hM.2 (by omega)
  · have := key_times (S := S) ht hM.1 z1 z2
    rw [Int.zero_sub, Int.zero_sub] at this
    exact this
theorem for_open {di : DI} {g : DG} {b : DS} {E : DEnds} {ρ : PF.Env} {m : Mem} (h : ∀ B, B = b → dFor di g B E ρ m) : dFor di g b E ρ m := h b rfl
end PG

namespace PG
open PySem PySem.Spec L2 PF
/-- the loop over three numbers that ask for as many groups -/
theorem times_loop {p : Addr} {S : Src} {t k : Nat} {M : Int} {m1 : Mem} {N : PF.Env → Mem → Prop} {RT : D → Mem → Prop} {e8 e9 e10 e11 e12 e13 e14 e15 e16 e17 e18 e19 e20 e21 e22 e23 e24 : Option D}
  (okS' : okS S) (okW : okS (times t S)) (h7 : okT7 S) (hS6 : S.length ≤ 6) (ht : 2 ≤ t ∧ t ≤ 3) (hM : 1 ≤ M ∧ M ≤ S.length) (hk : k ≤ 900) (hpc : potAt m1 p k)
  (g1 : (t : Int) ≤ M * t) (g2 : M * (t : Int) ≤ (times t S).length) (key : ∀ a : Int, M * t - t < a → a ≤ M * t → told (times t S) a = told S M ∧ -((-a).fdiv t) = M)
  (fin : ∀ x y m2, potAt m2 p (k + 1) → N [some (D.cel p), some (D.tup (List.map encP S)), some (D.int ↑t), some (D.int ↑(List.length S)), some (D.int M),
      some (D.tup (List.map encP (times t S))), x, y, e8, e9, e10, e11, e12, e13, e14, e15, e16, e17, e18, e19, e20, e21, e22, e23, e24] m2) : dFor
    (diT
      (dTup
        (dCons (dOp drMul (dVar 4) (dVar 2))
          (dCons (dOp drSub (dOp drMul (dVar 4) (dVar 2)) (dCall sp__law_take (dCons (dVar 0) (dCons (dVar 2) dNil))))
            (dCons
              (dCB dcMax
                (dCons (dC (D.int 1))
                  (dCons (dOp drAdd (dOp drSub (dOp drMul (dVar 4) (dVar 2)) (dVar 2)) (dC (D.int 1))) dNil)))
              dNil)))))
    (gdName 6)
    (dSeq (dAsg (dOp drSub (dC (D.int 0)) (dOp drDiv (dOp drSub (dC (D.int 0)) (dVar 6)) (dVar 2))) (gdName 7))
      (dSeq
        (dIfS
          (dNot
            (dTest
              (dCall sp__law_same
                (dCons
                  (dTup
                    (dCons (dCall sp_agreed (dCons (dVar 5) (dCons (dVar 6) dNil)))
                      (dCons (dCall sp_agreed (dCons (dVar 1) (dCons (dVar 7) dNil))) dNil)))
                  (dCons
                    (dOp drMul (dTup (dCons (dCall sp__law_agreed (dCons (dVar 1) (dCons (dVar 7) dNil))) dNil))
                      (dC (D.int 2)))
                    dNil)))))
          (dSeq (dRet (dC (D.bl false))) dNext) dNext)
        dNext))
    { nx := N, rt := RT }
    [some (D.cel p), some (D.tup (List.map encP S)), some (D.int ↑t), some (D.int ↑(List.length S)), some (D.int M),
      some (D.tup (List.map encP (times t S))), none, none, e8, e9, e10, e11, e12, e13, e14, e15, e16, e17, e18, e19, e20, e21, e22, e23, e24]
    m1 := by
  have cm : CMul M t := .inl ⟨by omega, by omega⟩
  refine for_open fun B hB => ?_
  simp [dFor, e_diT, PySem.sizeLine_eq]
  refine ⟨cm, i_take k (by omega) (by omega) hpc fun d c hd hc => ?_⟩
  refine ⟨d, rfl, cm, ?_⟩
  have hpc : potAt (updM m1 p c) p (k + 1) := potAt_upd hc
  generalize updM m1 p c = m2 at hpc
  refine for_ok [M * (t : Int), M * (t : Int) - d, if 1 < M * (t : Int) - t + 1 then M * (t : Int) - t + 1 else 1] D.int (fun pre ρ m' => m' = m2 ∧ ∃ x y, ρ = [some (D.cel p), some (D.tup (List.map encP S)), some (D.int ↑t), some (D.int ↑(List.length S)), some (D.int M),
      some (D.tup (List.map encP (times t S))), x, y, e8, e9, e10, e11, e12, e13, e14, e15, e16, e17, e18, e19, e20, e21, e22, e23, e24]) rfl ⟨rfl, none, none, rfl⟩ ?_ ?_
  · rintro pre a post ρ m3 hx ⟨rfl, x, y, rfl⟩ N2 hN2
    have ha : M * (t : Int) - t < a ∧ a ≤ M * t ∧ 1 ≤ a := by
      have : a ∈ [M * (t : Int), M * (t : Int) - d, if 1 < M * (t : Int) - t + 1 then M * (t : Int) - t + 1 else 1] := by rw [hx]; simp
      simp only [List.mem_cons, List.not_mem_nil, or_false] at this
      rcases this with rfl | rfl | rfl
      · omega
      · omega
      · split <;> omega
    obtain ⟨k1, k2⟩ := key a ha.1 ha.2.1
    subst hB
    simp only [s_gname, List.set_cons_zero, List.set_cons_succ]
    rw [s_seq]; generalize hU : dSeq _ _ _ = N3
    simp [k2]
    refine ⟨⟨by omega, by omega⟩, ?_⟩
    subst hU; rw [s_seq]; generalize hU : dSeq _ _ _ = N4
    rw [s_ifS]
    have hl := told_len okS' M
    have hRb : ∀ q ∈ told S M, (-1000000 < q.1 ∧ q.1 < 1000000) ∧ (-1000000 < q.2 ∧ q.2 < 1000000) := fun q hq => by have := told_in h7 hM.1 hq; omega
    have sp := shw_pairs hRb hl
    simp [PySem.sizeLine_eq]
    refine i_agreed okW (by omega) ?_
    refine i_agreed okS' hM ?_
    refine i_agr ⟨h7, by omega⟩ hM.1 ?_
    simp [drMul]
    refine i_same2 (k := 2 * (154043 + 2) + 3) (n := 3) (by rw [k1]) ?_ (by decide) (by decide) ?_
    · refine shw_tup (k := 154043) (n := 2) (c := 2) (fun e he => ?_) (Nat.le_refl 2)
      have : e = .tup ((told S M).map encP) := by
        have he : e ∈ [D.tup ((told S M).map encP), D.tup ((told S M).map encP)] := he
        simpa using he
      rw [this]; exact sp
    subst hU
    refine .inr ⟨rfl, ?_⟩
    exact hN2 _ _ ⟨rfl, _, _, rfl⟩
  · rintro ρ m3 ⟨rfl, x, y, rfl⟩
    exact fin _ _ _ hpc
end PG

namespace PG
open PySem PySem.Spec L2 PF
def dS_times : DS :=
    dSeq (dAsg (dCB dcLen (dCons (dVar 1) dNil)) (gdName 3))
    (dSeq (dAsg (dOp drAdd (dC (D.int 1)) (dCall sp__law_take (dCons (dVar 0) (dCons (dVar 3) dNil)))) (gdName 4))
      (dSeq (dAsg (dOp drMul (dVar 1) (dVar 2)) (gdName 5))
        (dSeq
          (dFor
            (diT
              (dTup
                (dCons (dOp drMul (dVar 4) (dVar 2))
                  (dCons
                    (dOp drSub (dOp drMul (dVar 4) (dVar 2))
                      (dCall sp__law_take (dCons (dVar 0) (dCons (dVar 2) dNil))))
                    (dCons
                      (dCB dcMax
                        (dCons (dC (D.int 1))
                          (dCons (dOp drAdd (dOp drSub (dOp drMul (dVar 4) (dVar 2)) (dVar 2)) (dC (D.int 1))) dNil)))
                      dNil)))))
            (gdName 6)
            (dSeq (dAsg (dOp drSub (dC (D.int 0)) (dOp drDiv (dOp drSub (dC (D.int 0)) (dVar 6)) (dVar 2))) (gdName 7))
              (dSeq
                (dIfS
                  (dNot
                    (dTest
                      (dCall sp__law_same
                        (dCons
                          (dTup
                            (dCons (dCall sp_agreed (dCons (dVar 5) (dCons (dVar 6) dNil)))
                              (dCons (dCall sp_agreed (dCons (dVar 1) (dCons (dVar 7) dNil))) dNil)))
                          (dCons
                            (dOp drMul (dTup (dCons (dCall sp__law_agreed (dCons (dVar 1) (dCons (dVar 7) dNil))) dNil))
                              (dC (D.int 2)))
                            dNil)))))
                  (dSeq (dRet (dC (D.bl false))) dNext) dNext)
                dNext)))
          (dSeq (dAsg (dCall sp__law_had_by (dCons (dVar 1) dNil)) (gdName 8))
            (dSeq
              (dAsg
                (dCB dcMax
                  (dCons
                    (dLc (diK (dVar 8)) (gdName 6) dYes (dOp drDGet (dVar 8) (dVar 6))
                      (List.map (fun x => x.snd) [(Str.ofString "number", 6)]))
                    dNil))
                (gdName 9))
              (dSeq (dAsg (dCall sp__law_agreed (dCons (dVar 1) (dCons (dVar 9) dNil))) (gdName 10))
                (dSeq
                  (dIfS
                    (dNot
                      (dTest
                        (dCall sp__law_same
                          (dCons
                            (dTup
                              (dCons (dCall sp_best_agreed (dCons (dVar 1) dNil))
                                (dCons (dCall sp_best_agreed (dCons (dVar 5) dNil)) dNil)))
                            (dCons
                              (dTup
                                (dCons (dTup (dCons (dVar 9) (dCons (dVar 10) dNil)))
                                  (dCons (dTup (dCons (dOp drMul (dVar 2) (dVar 9)) (dCons (dVar 10) dNil))) dNil)))
                              dNil)))))
                    (dSeq (dRet (dC (D.bl false))) dNext) dNext)
                  (dSeq (dAsg (dCall sp__law_take (dCons (dVar 0) (dCons (dVar 3) dNil))) (gdName 11))
                    (dSeq
                      (dAsg
                        (dOp drAdd (dOp drMul (dVar 11) (dVar 2))
                          (dCall sp__law_take (dCons (dVar 0) (dCons (dVar 2) dNil))))
                        (gdName 12))
                      (dSeq
                        (dAsg
                          (dIf (dTest (dOp drLt (dVar 9) (dOp drSub (dVar 3) (dVar 11))))
                            (dTup (dCons (dC (D.str (Str.ofString "more"))) (dCons (dOp drSub (dVar 3) (dVar 9)) dNil)))
                            (dTup
                              (dCons (dC (D.str (Str.ofString "spans")))
                                (dCons
                                  (dCall sp__law_agreed (dCons (dVar 1) (dCons (dOp drSub (dVar 3) (dVar 11)) dNil)))
                                  dNil))))
                          (gdName 13))
                        (dSeq (dAsg (dCall sp_truth_spans (dCons (dVar 5) (dCons (dVar 12) dNil))) (gdName 14))
                          (dSeq
                            (dIfS
                              (dNot
                                (dTest
                                  (dCall sp__law_same
                                    (dCons (dCall sp_truth_spans (dCons (dVar 1) (dCons (dVar 11) dNil)))
                                      (dCons (dVar 13) dNil)))))
                              (dSeq (dRet (dC (D.bl false))) dNext) dNext)
                            (dSeq
                              (dIfS
                                (dTest
                                  (dOp drEq (dOp drIx (dVar 13) (dC (D.int 0))) (dC (D.str (Str.ofString "more")))))
                                (dSeq
                                  (dRet
                                    (dCall sp__law_same
                                      (dCons (dVar 14)
                                        (dCons
                                          (dTup
                                            (dCons (dC (D.str (Str.ofString "more")))
                                              (dCons (dOp drMul (dVar 2) (dOp drSub (dVar 3) (dVar 9))) dNil)))
                                          dNil))))
                                  dNext)
                                dNext)
                              (dSeq
                                (dAsg
                                  (dTup
                                    (dCons
                                      (dOp drIx (dOp drIx (dOp drIx (dVar 13) (dC (D.int 1))) (dC (D.int 0)))
                                        (dC (D.int 0)))
                                      (dCons
                                        (dOp drIx (dOp drIx (dOp drIx (dVar 13) (dC (D.int 1))) (dNeg (dC (D.int 1))))
                                          (dC (D.int 1)))
                                        dNil)))
                                  (gdName 15))
                                (dSeq
                                  (dIfS
                                    (dNot
                                      (dTest
                                        (dCall sp__law_same
                                          (dCons
                                            (dTup
                                              (dCons (dVar 14)
                                                (dCons (dCall sp_hull (dCons (dVar 1) (dCons (dVar 11) dNil)))
                                                  (dCons (dCall sp_hull (dCons (dVar 5) (dCons (dVar 12) dNil)))
                                                    dNil))))
                                            (dCons (dTup (dCons (dVar 13) (dCons (dVar 15) (dCons (dVar 15) dNil))))
                                              dNil)))))
                                    (dSeq (dRet (dC (D.bl false))) dNext) dNext)
                                  (dSeq
                                    (dPar 16 17
                                      (dCons (dCall sp_surely_right (dCons (dVar 1) (dCons (dVar 11) dNil)))
                                        (dCons (dCall sp_surely_wrong (dCons (dVar 1) (dCons (dVar 11) dNil))) dNil)))
                                    (dSeq
                                      (dAsg
                                        (dLc (diK (dVar 8)) (gdName 6)
                                          (dTest
                                            (dOp drGe (dOp drDGet (dVar 8) (dVar 6)) (dOp drSub (dVar 3) (dVar 11))))
                                          (dVar 6) (List.map (fun x => x.snd) [(Str.ofString "number", 6)]))
                                        (gdName 18))
                                      (dSeq
                                        (dAsg
                                          (dCB dcTuple
                                            (dCons
                                              (dLc (diEnT (dCons (dVar 1) dNil))
                                                (gdTup 2 (gdCons (gdName 22) (gdCons (gdName 23) gdNil)))
                                                (dTest
                                                  (dCB dcAll
                                                    (dCons
                                                      (dLc (diL (dVar 18)) (gdName 6) dYes
                                                        (dChain drLe drLe (dOp drIx (dVar 23) (dC (D.int 0))) (dVar 6)
                                                          (dOp drIx (dVar 23) (dC (D.int 1))))
                                                        (List.map (fun x => x.snd) [(Str.ofString "number", 6)]))
                                                      dNil)))
                                                (dVar 22)
                                                (List.map (fun x => x.snd)
                                                  [(Str.ofString "at", 22), (Str.ofString "source", 23)]))
                                              dNil))
                                          (gdName 19))
                                        (dSeq
                                          (dAsg
                                            (dCB dcTuple
                                              (dCons
                                                (dLc (diEnT (dCons (dVar 1) dNil))
                                                  (gdTup 2 (gdCons (gdName 22) (gdCons (gdName 23) gdNil)))
                                                  (dNot
                                                    (dTest
                                                      (dCB dcAny
                                                        (dCons
                                                          (dLc (diL (dVar 18)) (gdName 6) dYes
                                                            (dChain drLe drLe (dOp drIx (dVar 23) (dC (D.int 0)))
                                                              (dVar 6) (dOp drIx (dVar 23) (dC (D.int 1))))
                                                            (List.map (fun x => x.snd) [(Str.ofString "number", 6)]))
                                                          dNil))))
                                                  (dVar 22)
                                                  (List.map (fun x => x.snd)
                                                    [(Str.ofString "at", 22), (Str.ofString "source", 23)]))
                                                dNil))
                                            (gdName 20))
                                          (dSeq
                                            (dIfS
                                              (dNot
                                                (dTest
                                                  (dCall sp__law_same
                                                    (dCons (dTup (dCons (dVar 16) (dCons (dVar 17) dNil)))
                                                      (dCons (dTup (dCons (dVar 19) (dCons (dVar 20) dNil))) dNil)))))
                                              (dSeq (dRet (dC (D.bl false))) dNext) dNext)
                                            (dSeq
                                              (dAsg
                                                (dCB dcSumL
                                                  (dCons
                                                    (dLc (diR1 (dCons (dVar 2) dNil)) (gdName 24) dYes
                                                      (dLc (diT (dVar 19)) (gdName 22) dYes
                                                        (dOp drAdd (dVar 22) (dOp drMul (dVar 3) (dVar 24)))
                                                        (List.map (fun x => x.snd) [(Str.ofString "at", 22)]))
                                                      (List.map (fun x => x.snd) [(Str.ofString "lap", 24)]))
                                                    (dCons (dLst dNil) dNil)))
                                                (gdName 21))
                                              (dSeq
                                                (dRet
                                                  (dCall sp__law_same
                                                    (dCons
                                                      (dCall sp_surely_right (dCons (dVar 5) (dCons (dVar 12) dNil)))
                                                      (dCons (dCB dcTuple (dCons (dVar 21) dNil)) dNil))))
                                                dNext))))))))))))))))))))))
def dS_apart : DS :=
    dSeq
    (dAsg
      (dCB dcTuple
        (dCons
          (dLc (diT (dVar 2)) (gdTup 2 (gdCons (gdName 21) (gdCons (gdName 22) gdNil))) dYes
            (dTup (dCons (dOp drAdd (dVar 21) (dC (D.int 5000))) (dCons (dOp drAdd (dVar 22) (dC (D.int 5000))) dNil)))
            (List.map (fun x => x.snd) [(Str.ofString "low", 21), (Str.ofString "high", 22)]))
          dNil))
      (gdName 3))
    (dSeq (dAsg (dOp drAdd (dVar 1) (dVar 3)) (gdName 4))
      (dSeq
        (dAsg
          (dTup
            (dCons (dCall sp__law_had_by (dCons (dVar 1) dNil))
              (dCons (dCall sp__law_had_by (dCons (dVar 2) dNil)) dNil)))
          (gdTup 2 (gdCons (gdName 5) (gdCons (gdName 6) gdNil))))
        (dSeq
          (dAsg
            (dLc (diT (dTup (dCons (dVar 5) (dCons (dVar 6) dNil)))) (gdName 23) dYes
              (dCB dcMax
                (dCons
                  (dLc (diK (dVar 23)) (gdName 14) dYes (dOp drDGet (dVar 23) (dVar 14))
                    (List.map (fun x => x.snd) [(Str.ofString "number", 14)]))
                  dNil))
              (List.map (fun x => x.snd) [(Str.ofString "some", 23)]))
            (gdName 7))
          (dSeq
            (dFor
              (diR2 (dCons (dC (D.int 1)) (dCons (dOp drAdd (dCB dcMax (dCons (dVar 7) dNil)) (dC (D.int 2))) dNil)))
              (gdName 8)
              (dSeq (dIfS (dTest (dOp drGt (dVar 8) (dCB dcLen (dCons (dVar 4) dNil)))) (dSeq dBreak dNext) dNext)
                (dSeq
                  (dAsg
                    (dCB dcTuple
                      (dCons
                        (dLc (diT (dCall sp__law_agreed (dCons (dVar 2) (dCons (dVar 8) dNil))))
                          (gdTup 2 (gdCons (gdName 21) (gdCons (gdName 22) gdNil))) dYes
                          (dTup
                            (dCons (dOp drAdd (dVar 21) (dC (D.int 5000)))
                              (dCons (dOp drAdd (dVar 22) (dC (D.int 5000))) dNil)))
                          (List.map (fun x => x.snd) [(Str.ofString "low", 21), (Str.ofString "high", 22)]))
                        dNil))
                    (gdName 9))
                  (dSeq
                    (dIfS
                      (dNot
                        (dTest
                          (dCall sp__law_same
                            (dCons (dCall sp_agreed (dCons (dVar 4) (dCons (dVar 8) dNil)))
                              (dCons (dOp drAdd (dCall sp__law_agreed (dCons (dVar 1) (dCons (dVar 8) dNil))) (dVar 9))
                                dNil)))))
                      (dSeq (dRet (dC (D.bl false))) dNext) dNext)
                    dNext))))
            (dSeq
              (dAsg
                (dLc (diK (dVar 5)) (gdName 14)
                  (dTest (dOp drEq (dOp drDGet (dVar 5) (dVar 14)) (dCB dcMax (dCons (dVar 7) dNil)))) (dVar 14)
                  (List.map (fun x => x.snd) [(Str.ofString "number", 14)]))
                (gdName 10))
              (dSeq
                (dAsg
                  (dLc (diL (dVar 10)) (gdName 14) dYes
                    (dCB dcTuple
                      (dCons
                        (dLc (diEnT (dCons (dVar 1) dNil)) (gdTup 2 (gdCons (gdName 24) (gdCons (gdName 20) gdNil)))
                          (dTest
                            (dChain drLe drLe (dOp drIx (dVar 20) (dC (D.int 0))) (dVar 14)
                              (dOp drIx (dVar 20) (dC (D.int 1)))))
                          (dVar 24) (List.map (fun x => x.snd) [(Str.ofString "at", 24), (Str.ofString "it", 20)]))
                        dNil))
                    (List.map (fun x => x.snd) [(Str.ofString "number", 14)]))
                  (gdName 11))
                (dSeq
                  (dAsg
                    (dLc (diK (dVar 6)) (gdName 14)
                      (dTest (dOp drEq (dOp drDGet (dVar 6) (dVar 14)) (dCB dcMax (dCons (dVar 7) dNil)))) (dVar 14)
                      (List.map (fun x => x.snd) [(Str.ofString "number", 14)]))
                    (gdName 12))
                  (dSeq
                    (dAsg
                      (dLc (diL (dVar 12)) (gdName 14) dYes
                        (dCB dcTuple
                          (dCons
                            (dLc (diEnT (dCons (dVar 2) dNil)) (gdTup 2 (gdCons (gdName 24) (gdCons (gdName 20) gdNil)))
                              (dTest
                                (dChain drLe drLe (dOp drIx (dVar 20) (dC (D.int 0))) (dVar 14)
                                  (dOp drIx (dVar 20) (dC (D.int 1)))))
                              (dOp drAdd (dVar 24) (dCB dcLen (dCons (dVar 1) dNil)))
                              (List.map (fun x => x.snd) [(Str.ofString "at", 24), (Str.ofString "it", 20)]))
                            dNil))
                        (List.map (fun x => x.snd) [(Str.ofString "number", 14)]))
                      (gdName 13))
                    (dSeq
                      (dIfS
                        (dNot
                          (dTest
                            (dCall sp__law_same
                              (dCons (dCall sp_lots_right (dCons (dVar 4) dNil))
                                (dCons
                                  (dCB dcTuple (dCons (dSortSetM (dCons (dOp drAdd (dVar 11) (dVar 13)) dNil)) dNil))
                                  dNil)))))
                        (dSeq (dRet (dC (D.bl false))) dNext) dNext)
                      (dSeq
                        (dAsg (dCall sp__law_of (dCons (dVar 0) (dCons (dCB dcSortK (dCons (dVar 5) dNil)) dNil)))
                          (gdName 14))
                        (dSeq
                          (dIfS
                            (dNot
                              (dTest
                                (dCall sp__law_same
                                  (dCons (dCall sp_have (dCons (dVar 4) (dCons (dVar 14) dNil)))
                                    (dCons
                                      (dCB dcTuple
                                        (dCons
                                          (dLc (diEnT (dCons (dVar 1) dNil))
                                            (gdTup 2 (gdCons (gdName 24) (gdCons (gdName 20) gdNil)))
                                            (dTest
                                              (dChain drLe drLe (dOp drIx (dVar 20) (dC (D.int 0))) (dVar 14)
                                                (dOp drIx (dVar 20) (dC (D.int 1)))))
                                            (dVar 24)
                                            (List.map (fun x => x.snd)
                                              [(Str.ofString "at", 24), (Str.ofString "it", 20)]))
                                          dNil))
                                      dNil)))))
                            (dSeq (dRet (dC (D.bl false))) dNext) dNext)
                          (dSeq
                            (dAsg
                              (dCB dcTuple
                                (dCons
                                  (dLc (diT (dVar 4)) (gdName 20) dYes
                                    (dCall sp__law_take (dCons (dVar 0) (dCons (dC (D.int 4)) dNil)))
                                    (List.map (fun x => x.snd) [(Str.ofString "it", 20)]))
                                  dNil))
                              (gdName 15))
                            (dSeq
                              (dAsg
                                (dOp drAdd (dC (D.int 1))
                                  (dCall sp__law_take (dCons (dVar 0) (dCons (dC (D.int 6)) dNil))))
                                (gdName 16))
                              (dSeq (dAsg dDicC (gdName 17))
                                (dSeq
                                  (dFor (diZip (dCons (dVar 15) (dCons (dVar 4) dNil)))
                                    (gdTup 2 (gdCons (gdName 18) (gdCons (gdName 19) gdNil)))
                                    (dSeq
                                      (dFor
                                        (diR2
                                          (dCons (dOp drIx (dVar 19) (dC (D.int 0)))
                                            (dCons (dOp drAdd (dOp drIx (dVar 19) (dC (D.int 1))) (dC (D.int 1)))
                                              dNil)))
                                        (gdName 20)
                                        (dSeq
                                          (dDPut (dVar 17) (dVar 20)
                                            (dOp drAdd (dGet2 (dVar 17) (dVar 20) (dC (D.int 0))) (dVar 18)))
                                          dNext))
                                      dNext))
                                  (dSeq
                                    (dFrzSD 17
                                      (dRet
                                        (dCall sp__law_same
                                          (dCons
                                            (dCall sp_weighed (dCons (dVar 4) (dCons (dVar 15) (dCons (dVar 16) dNil))))
                                            (dCons
                                              (dCall sp__law_spans_of
                                                (dCons
                                                  (dLc (diK (dVar 17)) (gdName 20)
                                                    (dTest (dOp drGe (dOp drDGet (dVar 17) (dVar 20)) (dVar 16)))
                                                    (dVar 20) (List.map (fun x => x.snd) [(Str.ofString "it", 20)]))
                                                  dNil))
                                              dNil)))))
                                    dNext))))))))))))))))
end PG

namespace PG
open PySem PySem.Spec L2 PF
theorem rows_in {x : (Int × Int) × Nat} {n : Int} {A B : Prop} (h : if (decide (x.1.1 ≤ n) && decide (n ≤ x.1.2)) = true then A else B) : n < x.1.1 ∧ B ∨ x.1.1 ≤ n ∧ (x.1.2 < n ∧ B ∨ n ≤ x.1.2 ∧ A) := by
  by_cases b1 : x.1.1 ≤ n
  · by_cases b2 : n ≤ x.1.2
    · rw [if_pos (by simp [b1, b2])] at h; exact .inr ⟨b1, .inr ⟨b2, h⟩⟩
    · rw [if_neg (by simp [b1, b2])] at h; exact .inr ⟨b1, .inl ⟨by omega, h⟩⟩
  · rw [if_neg (by simp [b1])] at h; exact .inl ⟨by omega, h⟩
theorem hav_enc (S : Src) (n : Int) : (S.zipIdx.filter fun p => decide (p.1.1 ≤ n) && decide (n ≤ p.1.2)).map (fun p => D.int (p.2 : Nat)) = (hav S n).map D.int := by rw [hav, List.map_map]; rfl
theorem ix0 (x y : Int) : atI [D.int x, D.int y] 0 = some (.int x) := rfl
theorem ix1 (x y : Int) : atI [D.int x, D.int y] 1 = some (.int y) := rfl
theorem ix_enc0 {p : Int × Int} {m : Mem} {Q : D → Mem → Prop} : drIx (encP p) (.int 0) m Q = Q (.int p.1) m := rfl
theorem ix_enc1 {p : Int × Int} {m : Mem} {Q : D → Mem → Prop} : drIx (encP p) (.int 1) m Q = Q (.int p.2) m := rfl
theorem sem_times {p : Addr} {S : Src} {t k : Nat} {m : Mem} {NX : PF.Env → Mem → Prop} {RT : D → Mem → Prop} (hS : six S) (ht : 2 ≤ t ∧ t ≤ 3) (hk : k ≤ 700) (hp : potAt m p k) (hRT : ∀ m', potAt m' p (k + 30) → RT (D.bl true) m') :
   dS_times { nx := NX, rt := RT } [some (.cel p), some (encS S), some (.int t), none, none, none, none, none, none, none, none, none, none, none, none, none, none, none, none, none, none, none, none, none, none] m := by
  obtain ⟨hS1, hS6, h7⟩ := hS
  have okS' := okS_of7 h7 hS1 (by omega)
  have hwl : (times t S).length = t * S.length := times_len S t
  have hw18 : (times t S).length ≤ 18 := by rw [hwl]; have := Nat.mul_le_mul ht.2 hS6; omega
  have hw1 : 1 ≤ (times t S).length := by rw [hwl]; have := Nat.mul_le_mul ht.1 hS1; omega
  have okW : okS (times t S) := ⟨hw1, by omega, fun q hq => okS'.2.2 q (times_mem hq)⟩
  have ht1 : 1 ≤ t := by omega
  have hS20 : S.length ≤ 20 := by omega
  unfold dS_times
  rw [s_seq]; generalize hU : dSeq _ _ _ = N
  simp [encS]
  subst hU; rw [s_seq]; generalize hU : dSeq _ _ _ = N
  simp
  refine i_take k (by omega) (by omega) hp fun d1 c1 hd1 hc1 => ?_
  have hpc : potAt (updM m p c1) p (k + 1) := potAt_upd hc1
  generalize updM m p c1 = m1 at hpc
  simp
  have hM : 1 ≤ 1 + d1 ∧ 1 + d1 ≤ S.length := by omega
  generalize (1 + d1 : Int) = M at hM ⊢
  clear hd1 hc1 hp
  subst hU; rw [s_seq]; generalize hU : dSeq _ _ _ = N
  simp [drMul]
  refine ⟨⟨by rintro rfl; simp at hS1, by omega, by omega, by omega⟩, ?_⟩
  have eW : (List.replicate t (S.map encP)).flatten = (times t S).map encP := by unfold times; rw [List.map_flatten, List.map_replicate]
  rw [eW]
  obtain ⟨g1, g2, key⟩ := times_facts (S := S) ht1 hM
  subst hU; rw [s_seq]; generalize hU : dSeq _ _ _ = N
  refine times_loop okS' okW h7 hS6 ht hM (by omega) hpc g1 g2 key fun x6 x7 m2 hpc => ?_
  clear key g1 g2 eW
  -- had
  subst hU; rw [s_seq]; generalize hU : dSeq _ _ _ = N
  simp
  refine i_had (S := S) (okR_of7 h7 hS20) fun ks hg => ?_
  have hk59 := good7_len h7 hg
  obtain ⟨hkne, hmost⟩ := most_eq okS' hg
  have hkpos : 0 < ks.length := List.length_pos_iff.mpr hkne
  -- most
  subst hU; rw [s_seq]; generalize hU : dSeq _ _ _ = N
  simp [e_diK, dicT_eq, dLc, wipeD]
  refine ⟨by rw [PySem.sizeLine_eq]; omega, lc_ok ks D.int (fun _ => true) (fun n => .int (val (one S) n)) (by simp [dOfK]) (fun x hx K1 K0 h => by simpa [s_dget hx] using h) ?_⟩
  rw [filter_tt, max_int]
  refine ⟨hkpos, ?_⟩
  rw [← hmost]
  have hmb := most_bd okS'
  -- spans
  subst hU; rw [s_seq]; generalize hU : dSeq _ _ _ = N
  simp
  refine i_agr ⟨h7, hS20⟩ hmb.1 ?_
  -- the first test
  have hRb : ∀ a, 1 ≤ a → ∀ q ∈ told S a, (-1000000 < q.1 ∧ q.1 < 1000000) ∧ (-1000000 < q.2 ∧ q.2 < 1000000) := fun a ha q hq => by have := told_in h7 ha hq; omega
  have sp : ∀ a, 1 ≤ a → shw 154043 2 (.tup ((told S a).map encP)) := fun a ha => shw_pairs (hRb a ha) (told_len okS' a)
  have emw : mostA (times t S) = t * mostA S := most_times okS' okW
  have etw : told (times t S) (t * mostA S) = told S (mostA S) := (told_times ht1 hmb.1 (by rw [Int.mul_sub, Int.mul_one]; omega) (Int.le_refl _))
  subst hU; rw [s_seq]; generalize hU : dSeq _ _ _ = N
  simp [PySem.sizeLine_eq]
  refine i_best_agreed okS' ?_
  refine i_best_agreed okW ?_
  refine ⟨.inl ⟨by omega, by omega⟩, ?_⟩
  have tb : (t : Int) * mostA S ≤ 60 := by
    have := Int.mul_le_mul_of_nonneg_right (show (t : Int) ≤ 3 by omega) (show 0 ≤ mostA S by omega)
    omega
  have tb0 : 0 ≤ (t : Int) * mostA S := Int.mul_nonneg (by omega) (by omega)
  refine i_same2 (by rw [emw, etw]) (shw_pair (shw_pair (shw_int (i := mostA S) (by omega) (by omega)) (sp _ hmb.1)) (shw_pair (shw_int (i := t * mostA S) (by omega) (by omega)) (sp _ hmb.1))) (by decide) (by decide) ?_
  refine .inr ⟨rfl, ?_⟩
  -- wrong
  subst hU; rw [s_seq]; generalize hU : dSeq _ _ _ = N
  simp
  refine i_take _ (by omega) (by omega) hpc fun wr c2 hwr hc2 => ?_
  have hpc : potAt (updM m2 p c2) p (k + 1 + 1 + 1) := potAt_upd hc2
  generalize updM m2 p c2 = m3 at hpc
  -- great
  subst hU; rw [s_seq]; generalize hU : dSeq _ _ _ = N
  simp
  refine ⟨.inl ⟨by omega, by omega⟩, ?_⟩
  refine i_take _ (by omega) (by omega) hpc fun e c3 he hc3 => ?_
  have hpc : potAt (updM m3 p c3) p (k + 1 + 1 + 1 + 1) := potAt_upd hc3
  generalize updM m3 p c3 = m4 at hpc
  simp
  have ec := could_times (wr := wr) ht1 okS' okW he hwr.2
  have emo := more_times (wr := wr) ht1 okS' okW he
  have etl := told_left (wr := wr) ht1 he hwr.2
  have hgr : 0 ≤ wr * t + e ∧ wr * t + e < (times t S).length := by
    have a1 : 0 ≤ wr * (t : Int) := Int.mul_nonneg hwr.1 (by omega)
    have a2 := Int.mul_le_mul_of_nonneg_right (show wr + 1 ≤ S.length by omega) (show (0 : Int) ≤ t by omega)
    rw [Int.add_mul, Int.one_mul] at a2
    have a3 : ((times t S).length : Int) = S.length * t := by rw [hwl, Int.natCast_mul]; exact Int.mul_comm _ _
    omega
  generalize wr * (t : Int) + e = great at *
  -- due
  subst hU; rw [s_seq]; generalize hU : dSeq _ _ _ = N
  have ecS : could S wr = if more S wr then D.tup [D.str "more", D.int (S.length - mostA S)] else D.tup [D.str "spans", D.tup ((told S (S.length - wr)).map encP)] := rfl
  have hg1 : 1 ≤ (S.length : Int) - wr := by omega
  by_cases hm : more S wr
  · have c1 : mostA S < S.length - wr := by unfold more at hm; omega
    rw [if_pos hm] at ec ecS
    simp [c1, PySem.sizeLine_eq]
    refine .inr ?_
    subst hU; rw [s_seq]; generalize hU : dSeq _ _ _ = N
    simp
    refine i_truth_spans okW hgr ?_
    rw [ec]
    subst hU; rw [s_seq]; generalize hU : dSeq _ _ _ = N
    simp
    refine i_truth_spans okS' hwr ?_
    rw [ecS]
    refine i_same2 rfl (shw_pair shw_more (shw_int (i := (S.length : Int) - mostA S) (by omega) (by omega))) (by decide) (by decide) ?_
    refine .inr ⟨rfl, ?_⟩
    subst hU; rw [s_seq]; generalize hU : dSeq _ _ _ = N
    have a0 : atI [D.str "more", D.int (S.length - mostA S)] 0 = some (D.str "more") := rfl
    simp [a0, PySem.sizeLine_eq]
    refine ⟨okD_more, .inr ⟨by rw [eqD_str]; simp, .inl ⟨by omega, by omega⟩, ?_⟩⟩
    have b1 : 0 ≤ (S.length : Int) - mostA S := by omega
    have b2 := Int.mul_le_mul_of_nonneg_right (show (t : Int) ≤ 3 by omega) b1
    have b3 : 0 ≤ (t : Int) * (S.length - mostA S) := Int.mul_nonneg (by omega) b1
    exact i_same2 rfl (shw_pair shw_more (shw_int (i := (t : Int) * (S.length - mostA S)) (by omega) (by omega))) (by decide) (by decide) (hRT _ (hpc.mono (by omega)))
  have c1 : ¬ mostA S < S.length - wr := by unfold more at hm; omega
  rw [if_neg hm] at ec ecS
  simp [c1, PySem.sizeLine_eq]
  refine ⟨by omega, ?_⟩
  refine i_agr ⟨h7, hS20⟩ hg1 ?_
  subst hU; rw [s_seq]; generalize hU : dSeq _ _ _ = N
  simp
  refine i_truth_spans okW hgr ?_
  rw [ec]
  subst hU; rw [s_seq]; generalize hU : dSeq _ _ _ = N
  simp
  refine i_truth_spans okS' hwr ?_
  rw [ecS]
  have spd := shw_pair shw_spans (sp _ hg1)
  refine i_same2 rfl spd (by decide) (by decide) ?_
  refine .inr ⟨rfl, ?_⟩
  subst hU; rw [s_seq]; generalize hU : dSeq _ _ _ = N
  have a0 : atI [D.str "spans", D.tup ((told S (S.length - wr)).map encP)] 0 = some (D.str "spans") := rfl
  have a1 : atI [D.str "spans", D.tup ((told S (S.length - wr)).map encP)] 1 = some (D.tup ((told S (S.length - wr)).map encP)) := rfl
  simp [a0, PySem.sizeLine_eq]
  refine ⟨⟨okD_spans, okD_more⟩, .inl ⟨by rw [eqD_str]; decide +kernel, ?_⟩⟩
  have hTne := truths_ne okS' hg hm
  obtain ⟨r1, r2, r3⟩ := told_lo hg hg1 hTne
  have r4 := right_eq hg hg1 hTne
  have r5 := wrong_eq (fun p hp => (h7 p hp).2.1) hg hg1
  have hmore : ¬ more (times t S) great := fun z => hm (emo.mp z)
  have sp1 := sp _ hg1
  have hRb1 := hRb _ hg1
  have rw1 : rightS (times t S) (told S (S.length - wr)) = ((List.range t).map fun lap : Nat => (rightS S (told S (S.length - wr))).map fun i => i + (S.length : Int) * lap).flatten := right_times t
  generalize hR : told S (S.length - wr) = R at *
  have hRl : R.length ≤ 40 := by rw [← hR]; exact told_len okS' _
  obtain ⟨a, ha⟩ : ∃ a, R.head? = some a := by
    cases R with
    | nil => exact absurd rfl r1
    | cons a R => exact ⟨a, rfl⟩
  obtain ⟨z, hz⟩ : ∃ z, R.getLast? = some z := by
    cases h : R.getLast? with
    | none => exact absurd (List.getLast?_eq_none_iff.mp h) r1
    | some z => exact ⟨z, rfl⟩
  have l1 : loOf R = a.1 := by unfold loOf; rw [ha]
  have l2 : hiOf R = z.2 := by unfold hiOf; rw [hz]
  have hab := hRb1 a (List.mem_of_mem_head? ha)
  have hzb := hRb1 z (List.mem_of_getLast? hz)
  have e1 := at_head encP R a ha
  have e2 := atI_last encP R z hz
  -- ends
  subst hU; rw [s_seq]; generalize hU : dSeq _ _ _ = N
  have a1 : atI [D.str "spans", D.tup (R.map encP)] 1 = some (D.tup (R.map encP)) := rfl
  simp [a1, e1, e2, ix_enc0, ix_enc1, PySem.sizeLine_eq]
  -- the third test
  subst hU; rw [s_seq]; generalize hU : dSeq _ _ _ = N
  simp [PySem.sizeLine_eq]
  refine i_hull okS' hwr ⟨hm, by rw [hR]; exact r1⟩ ?_
  refine i_hull okW hgr ⟨hmore, by rw [etl]; exact r1⟩ ?_
  rw [etl, hR, l1, l2]
  refine i_same2 rfl (shw_three spd (shw_encP (p := (a.1, z.2)) hab.1 hzb.2) (shw_encP (p := (a.1, z.2)) hab.1 hzb.2)) (by decide) (by decide) ?_
  refine .inr ⟨rfl, ?_⟩
  -- right, bad
  subst hU; rw [s_seq]; generalize hU : dSeq _ _ _ = N
  simp
  refine i_surely_right okS' hwr ⟨hm, by rw [hR]; exact r1⟩ ?_
  refine i_surely_wrong okS' hwr ⟨hm, by rw [hR]; exact r1⟩ ?_
  rw [hR]
  -- truths
  subst hU; rw [s_seq]; generalize hU : dSeq _ _ _ = N
  simp [e_diK, dicT_eq, dLc, wipeD]
  refine ⟨by rw [PySem.sizeLine_eq]; omega, lc_ok ks D.int (fun n => decide ((S.length : Int) - wr ≤ val (one S) n)) D.int (by simp [dOfK]) (fun x hx K1 K0 h => ?_) ?_⟩
  · simp [s_dget hx]
    exact if_le h
  have hTl : (ks.filter fun n => decide ((S.length : Int) - wr ≤ val (one S) n)).length ≤ 59 := by have := List.length_filter_le (fun n => decide ((S.length : Int) - wr ≤ val (one S) n)) ks; omega
  generalize (ks.filter fun n => decide ((S.length : Int) - wr ≤ val (one S) n)) = TR at *
  -- fine
  subst hU; rw [s_seq]; generalize hU : dSeq _ _ _ = N
  simp [e_diEnT, dLc, wipeD]
  refine ⟨by simp [enumD, PySem.sizeLine_eq]; omega, lc_ok S.zipIdx (fun p => .tup [.int (p.2:Nat), encP p.1]) (fun p => TR.all fun n => decide (p.1.1 ≤ n) && decide (n ≤ p.1.2)) (fun p => .int (p.2:Nat)) (enumD_map encP S) (fun x hx K1 K0 h => ?_) ?_⟩
  · simp [encP, e_diL, dLc, wipeD]
    refine ⟨by rw [PySem.sizeLine_eq]; omega, lc_ok TR D.int (fun _ => true) (fun n => .bl (decide (x.1.1 ≤ n) && decide (n ≤ x.1.2))) rfl (fun y hy K1' K0' h' => ?_) ?_⟩
    · simp [ix0, ix1] at h' ⊢
      by_cases b1 : x.1.1 ≤ y
      · exact .inr ⟨b1, by simpa [b1] using h'⟩
      · exact .inl ⟨by omega, by simpa [b1] using h'⟩
    · rw [filter_tt, all_bl]
      have h' : (if (TR.all fun n => decide (x.1.1 ≤ n) && decide (n ≤ x.1.2)) = true then K1 (D.int (x.2 : Nat)) m4 else K0 m4) := h
      by_cases b : (TR.all fun n => decide (x.1.1 ≤ n) && decide (n ≤ x.1.2)) = true
      · rw [if_pos b] at h'
        exact .inr ⟨by rw [b], h'⟩
      · rw [if_neg b] at h'
        exact .inl ⟨by rw [Bool.eq_false_iff.mpr b], h'⟩
  -- none
  subst hU; rw [s_seq]; generalize hU : dSeq _ _ _ = N
  simp [e_diEnT, dLc, wipeD]
  refine ⟨by simp [enumD, PySem.sizeLine_eq]; omega, lc_ok S.zipIdx (fun p => .tup [.int (p.2:Nat), encP p.1]) (fun p => !(TR.any fun n => decide (p.1.1 ≤ n) && decide (n ≤ p.1.2))) (fun p => .int (p.2:Nat)) (enumD_map encP S) (fun x hx K1 K0 h => ?_) ?_⟩
  · simp [encP, e_diL, dLc, wipeD]
    refine ⟨by rw [PySem.sizeLine_eq]; omega, lc_ok TR D.int (fun _ => true) (fun n => .bl (decide (x.1.1 ≤ n) && decide (n ≤ x.1.2))) rfl (fun y hy K1' K0' h' => ?_) ?_⟩
    · simp [ix0, ix1] at h' ⊢
      by_cases b1 : x.1.1 ≤ y
      · exact .inr ⟨b1, by simpa [b1] using h'⟩
      · exact .inl ⟨by omega, by simpa [b1] using h'⟩
    · rw [filter_tt, any_bl]
      have h' : (if (!(TR.any fun n => decide (x.1.1 ≤ n) && decide (n ≤ x.1.2))) = true then K1 (D.int (x.2 : Nat)) m4 else K0 m4) := h
      by_cases b : (TR.any fun n => decide (x.1.1 ≤ n) && decide (n ≤ x.1.2)) = true
      · rw [if_neg (by rw [b]; decide)] at h'
        rw [b]
        simpa using h'
      · have b' := Bool.eq_false_iff.mpr b
        rw [if_pos (by rw [b']; decide)] at h'
        rw [b']
        simpa using h'
  -- the fourth test
  have shwI : ∀ g, shw 38463 1 (.tup ((S.zipIdx.filter g).map fun p => D.int (p.2 : Nat))) := fun g => by
    have := shw_ints (idx_sml hS20 g).1 (idx_sml hS20 g).2
    rw [List.map_map] at this
    exact this
  subst hU; rw [s_seq]; generalize hU : dSeq _ _ _ = N
  simp [PySem.sizeLine_eq]
  refine i_same2 (by rw [r4, r5, List.map_map, List.map_map]; rfl) (shw_pair (shwI _) (shwI _)) (by decide) (by decide) ?_
  refine .inr ⟨rfl, ?_⟩
  have eF : (S.zipIdx.filter fun p => TR.all fun n => decide (p.1.1 ≤ n) && decide (n ≤ p.1.2)).map (fun p => D.int (p.2 : Nat)) = (rightS S R).map D.int := by rw [r4, List.map_map]; rfl
  rw [eF]
  have hRS : (∀ x ∈ rightS S R, 0 ≤ x ∧ x < 6) ∧ (rightS S R).length ≤ 6 := by
    refine ⟨fun x hx => ?_, ?_⟩
    · obtain ⟨p, hp, rfl⟩ := List.mem_map.mp hx
      have h2 := mem_zipIdx (List.mem_filter.mp hp).1
      have := (List.getElem?_eq_some_iff.mp h2).1
      omega
    · unfold rightS
      rw [List.length_map]
      refine Nat.le_trans (List.length_filter_le _ _) ?_
      simp; omega
  generalize rightS S R = RS at *
  -- more
  subst hU; rw [s_seq]; generalize hU : dSeq _ _ _ = N
  simp [e_diR1, dLc, wipeD, rngD]
  refine ⟨by omega, by rw [PySem.sizeLine_eq]; omega, lc_ok (List.range t) (fun i : Nat => D.int (i : Int)) (fun _ => true) (fun lap : Nat => D.lst ((RS.map fun i => i + (S.length : Int) * lap).map D.int)) rfl (fun x hx K1 K0 h => ?_) ?_⟩
  · simp [e_diT, dLc, wipeD]
    refine ⟨by rw [PySem.sizeLine_eq]; omega, lc_ok RS D.int (fun _ => true) (fun i => .int (i + (S.length : Int) * x)) rfl (fun y hy K1' K0' h' => ?_) ?_⟩
    · simp at h' ⊢
      exact ⟨.inl ⟨by omega, by omega⟩, h'⟩
    · rw [filter_tt]
      simp [List.map_map] at h
      exact h
  rw [filter_tt]
  have lF : ∀ n : Nat, (((List.range n).map fun lap : Nat => (RS.map fun i => i + (S.length : Int) * lap)).flatten).length = n * RS.length := fun n => by
    induction n with
    | zero => simp
    | succ n ih => rw [List.range_succ, List.map_append, List.flatten_append, List.length_append, ih]; simp [Nat.add_mul]
  have lt18 : (((List.range t).map fun lap : Nat => (RS.map fun i => i + (S.length : Int) * lap)).flatten).length ≤ 18 := by
    rw [lF]; have := Nat.mul_le_mul ht.2 hRS.2; omega
  refine ⟨(List.range t).map fun lap : Nat => (RS.map fun i => i + (S.length : Int) * lap).map D.int, by rw [List.map_map]; rfl, by intro z; have := congrArg List.length z; simp at this; omega, ?_, ?_⟩
  · have e3 : ((List.range t).map fun lap : Nat => (RS.map fun i => i + (S.length : Int) * lap).map D.int).flatten = (((List.range t).map fun lap : Nat => (RS.map fun i => i + (S.length : Int) * lap)).flatten).map D.int := by rw [List.map_flatten, List.map_map]; rfl
    rw [e3, List.length_map, PySem.sizeLine_eq]; omega
  have e3 : ((List.range t).map fun lap : Nat => (RS.map fun i => i + (S.length : Int) * lap).map D.int).flatten = (((List.range t).map fun lap : Nat => (RS.map fun i => i + (S.length : Int) * lap)).flatten).map D.int := by rw [List.map_flatten, List.map_map]; rfl
  rw [e3]
  have hFb : ∀ n ∈ ((List.range t).map fun lap : Nat => (RS.map fun i => i + (S.length : Int) * lap)).flatten, -1000000 < n ∧ n < 1000000 := fun n hn => by
    obtain ⟨l, hl, hn⟩ := List.mem_flatten.mp hn
    obtain ⟨lap, hlap, rfl⟩ := List.mem_map.mp hl
    obtain ⟨i, hi, rfl⟩ := List.mem_map.mp hn
    have h1 := hRS.1 i hi
    have h2 := List.mem_range.mp hlap
    have h3 := Int.mul_le_mul_of_nonneg_right (show (S.length : Int) ≤ 6 by omega) (show (0 : Int) ≤ lap by omega)
    have h4 : 0 ≤ (S.length : Int) * lap := Int.mul_nonneg (by omega) (by omega)
    omega
  clear e3
  generalize ((List.range t).map fun lap : Nat => (RS.map fun i => i + (S.length : Int) * lap)).flatten = FL at *
  subst hU
  simp
  refine i_surely_right okW hgr ⟨hmore, by rw [etl]; exact r1⟩ ?_
  rw [etl, rw1]
  exact i_same2 rfl (shw_ints (L := FL) hFb (by omega)) (by decide) (by decide) (hRT _ (hpc.mono (by omega)))
end PG

namespace PG
open PySem PySem.Spec L2 PF
def farS (O : Src) : Src := O.map (putP 5000)
def okF (B : Src) : Prop := ∀ q ∈ B, -20 ≤ q.1 ∧ q.1 ≤ q.2 ∧ q.2 ≤ 5038
theorem far_len (O : Src) : (farS O).length = O.length := List.length_map _
theorem far_in {O : Src} (h7 : okT7 O) {q : Int × Int} (hq : q ∈ farS O) : 4980 ≤ q.1 ∧ q.1 ≤ q.2 ∧ q.2 ≤ 5038 := by
  obtain ⟨p, hp, rfl⟩ := List.mem_map.mp hq
  have := h7 p hp
  show 4980 ≤ p.1 + 5000 ∧ p.1 + 5000 ≤ p.2 + 5000 ∧ p.2 + 5000 ≤ 5038
  omega
theorem both_in {S O : Src} (hS : okT7 S) (hO : okT7 O) : okF (S ++ farS O) := fun q hq => by
  rcases List.mem_append.mp hq with z | z
  · have := hS q z; omega
  · have := far_in hO z; omega
theorem both_ok {S O : Src} (hS : six S) (hO : six O) : okS (S ++ farS O) := by
  obtain ⟨a1, a2, a3⟩ := hS
  obtain ⟨b1, b2, b3⟩ := hO
  refine ⟨by rw [List.length_append]; omega, by rw [List.length_append, far_len]; omega, fun q hq => ?_⟩
  have := both_in a3 b3 q hq
  exact ⟨by omega, by omega, by omega⟩
theorem hav_app (S T : Src) (n : Int) : hav (S ++ T) n = hav S n ++ (hav T n).map fun i => i + (S.length : Int) := by
  rw [hav_sel, hav_sel, hav_sel, sel_app]
theorem hav_nil {S : Src} {n : Int} (h : ∀ p ∈ S, ¬ (p.1 ≤ n ∧ n ≤ p.2)) : hav S n = [] := by
  have := cnt_zero h
  unfold cnt at this
  exact List.length_eq_zero_iff.mp (by omega)
theorem hav_near {S O : Src} (hO : okT7 O) {n : Int} (hn : n ≤ 2000) : hav (S ++ farS O) n = hav S n := by
  rw [hav_app, hav_nil (S := farS O) fun p hp z => by have := far_in hO hp; omega]
  simp
theorem hav_far {S O : Src} (hS : okT7 S) {n : Int} (hn : -2000 ≤ n) : hav (S ++ farS O) (n + 5000) = (hav O n).map fun i => i + (S.length : Int) := by
  rw [hav_app, hav_nil (S := S) fun p hp z => by have := hS p hp; omega]
  unfold farS
  rw [hav_put]
  have : n + 5000 - 5000 = n := by omega
  rw [this, List.nil_append]
theorem far_good {S O : Src} {ks kt : List Int} (hS : okT7 S) (hO : okT7 O) (h1 : good (one S) ks) (h2 : good (one O) kt) : good (one (S ++ farS O)) (ks ++ kt.map fun n => n + 5000) := by
  have b1 : ∀ n ∈ ks, -20 ≤ n ∧ n ≤ 38 := fun n hn => keys7 hS h1 hn
  have b2 : ∀ n ∈ kt, -20 ≤ n ∧ n ≤ 38 := fun n hn => keys7 hO h2 hn
  refine ⟨?_, fun n => ?_⟩
  · rw [List.nodup_append]
    refine ⟨h1.1, ?_, fun a ha b hb => ?_⟩
    · exact List.pairwise_map.mpr (h2.1.imp fun {a b} z => by omega)
    · obtain ⟨c, hc, rfl⟩ := List.mem_map.mp hb
      have := b1 a ha
      have := b2 c hc
      omega
  · unfold one
    rw [List.map_append]
    have e1 := h1.2 n
    have e2 := h2.2 (n - 5000)
    unfold one at e1 e2
    have e3 : (n ∈ kt.map fun n => n + 5000) ↔ n - 5000 ∈ kt := by
      constructor
      · intro z
        obtain ⟨c, hc, rfl⟩ := List.mem_map.mp z
        have : c + 5000 - 5000 = c := by omega
        rw [this]; exact hc
      · intro z
        exact List.mem_map.mpr ⟨_, z, by omega⟩
    rw [List.mem_append, e3, e1, e2]
    constructor
    · rintro (⟨t, ht, c⟩ | ⟨t, ht, c⟩)
      · exact ⟨t, List.mem_append_left _ ht, c⟩
      · obtain ⟨p, hp, rfl⟩ := List.mem_map.mp ht
        refine ⟨(1, putP 5000 p), List.mem_append_right _ (List.mem_map.mpr ⟨_, List.mem_map_of_mem hp, rfl⟩), ?_⟩
        unfold cov at c ⊢
        rw [Bool.and_eq_true, decide_eq_true_eq, decide_eq_true_eq] at c ⊢
        have c1 : p.1 ≤ n - 5000 := c.1
        have c2 : n - 5000 ≤ p.2 := c.2
        exact ⟨by show p.1 + 5000 ≤ n; omega, by show n ≤ p.2 + 5000; omega⟩
    · rintro ⟨t, ht, c⟩
      rcases List.mem_append.mp ht with z | z
      · exact .inl ⟨t, z, c⟩
      · obtain ⟨q, hq, rfl⟩ := List.mem_map.mp z
        obtain ⟨p, hp, rfl⟩ := List.mem_map.mp hq
        refine .inr ⟨(1, p), List.mem_map_of_mem hp, ?_⟩
        unfold cov at c ⊢
        rw [Bool.and_eq_true, decide_eq_true_eq, decide_eq_true_eq] at c ⊢
        have c1 : p.1 + 5000 ≤ n := c.1
        have c2 : n ≤ p.2 + 5000 := c.2
        exact ⟨by show p.1 ≤ n - 5000; omega, by show n - 5000 ≤ p.2; omega⟩
theorem maxI_two (a b : Int) : maxI [a, b] = if a < b then b else a := by
  show max a b = _
  split <;> omega
theorem most_far {S O : Src} (hS : six S) (hO : six O) : mostA (S ++ farS O) = maxI [mostA S, mostA O] := by
  have okB := both_ok hS hO
  obtain ⟨a1, a2, a3⟩ := hS
  obtain ⟨b1, b2, b3⟩ := hO
  have oS := okS_of7 a3 a1 (by omega)
  have oO := okS_of7 b3 b1 (by omega)
  obtain ⟨⟨x, hx⟩, gx⟩ := most_is oS
  obtain ⟨⟨y, hy⟩, gy⟩ := most_is oO
  have p1 := most_bd oS
  have p2 := most_bd oO
  rw [maxI_two]
  have cf : ∀ n, cnt (S ++ farS O) n = if n ≤ 2000 then cnt S n else cnt O (n - 5000) := fun n => cnt_far a3 b3 n
  refine most_by okB ?_ fun n => ?_
  · split
    · refine ⟨y + 5000, ?_⟩
      obtain ⟨p, hp, z⟩ := cnt_pos (S := O) (n := y) (by omega)
      have := b3 p hp
      rw [cf, if_neg (by omega)]
      have : y + 5000 - 5000 = y := by omega
      rw [this, hy]
    · refine ⟨x, ?_⟩
      obtain ⟨p, hp, z⟩ := cnt_pos (S := S) (n := x) (by omega)
      have := a3 p hp
      rw [cf, if_pos (by omega), hx]
  · rw [cf]
    have := gx n
    have := gy (n - 5000)
    split <;> split <;> omega
theorem lots_far {S O : Src} {ks kt : List Int} {top : Int} (hS : six S) (hO : six O) (h1 : good (one S) ks) (h2 : good (one O) kt) (ht : mostA (S ++ farS O) = top) :
    lots (S ++ farS O) = setT ((ks.filter fun n => decide (val (one S) n = top)).map (hav S) ++ (kt.filter fun n => decide (val (one O) n = top)).map fun n => (hav O n).map fun i => i + (S.length : Int)) := by
  have okB := both_ok hS hO
  have b1 : ∀ n ∈ ks, -20 ≤ n ∧ n ≤ 38 := fun n hn => keys7 hS.2.2 h1 hn
  have b2 : ∀ n ∈ kt, -20 ≤ n ∧ n ≤ 38 := fun n hn => keys7 hO.2.2 h2 hn
  rw [lots_eq okB (far_good hS.2.2 hO.2.2 h1 h2), ht, List.filter_append, List.map_append, List.filter_map, List.map_map]
  have v1 : ∀ n, val (one (S ++ farS O)) n = ((hav (S ++ farS O) n).length : Int) := fun n => cnt_hav _ _
  congr 2
  · have e : ks.filter (fun n => decide (val (one (S ++ farS O)) n = top)) = ks.filter fun n => decide (val (one S) n = top) := by
      apply List.filter_congr
      intro n hn
      have := b1 n hn
      rw [v1, hav_near hO.2.2 (by omega), cnt_hav]
    rw [e]
    apply List.map_congr_left
    intro n hn
    have := b1 n (List.mem_filter.mp hn).1
    exact hav_near hO.2.2 (by omega)
  · have e : kt.filter ((fun n => decide (val (one (S ++ farS O)) n = top)) ∘ fun n => n + 5000) = kt.filter fun n => decide (val (one O) n = top) := by
      apply List.filter_congr
      intro n hn
      have := b2 n hn
      show decide (val (one (S ++ farS O)) (n + 5000) = top) = _
      rw [v1, hav_far hS.2.2 (by omega), cnt_hav, List.length_map]
    rw [e]
    apply List.map_congr_left
    intro n hn
    have := b2 n (List.mem_filter.mp hn).1
    exact hav_far hS.2.2 (by omega)
theorem lots_le {S : Src} (h : okS S) : (lots S).length ≤ 40 := by
  unfold lots
  refine Nat.le_trans (setK_length _ _) ?_
  rw [List.length_map]
  exact Nat.le_trans (List.length_filter_le _ _) (pieces_len h)
theorem keysF {B : Src} {W ks : List Int} (hB : okF B) (hg : good (W.zip B) ks) : (∀ n ∈ ks, -1000000 < n ∧ n < 1000000) ∧ ∀ n ∈ ks, -20 ≤ n ∧ n ≤ 5038 := by
  have : ∀ n ∈ ks, -20 ≤ n ∧ n ≤ 5038 := fun n hn => by
    obtain ⟨t, ht, c⟩ := (hg.2 n).mp hn
    have := hB _ (zip_in ht)
    unfold cov at c; simp at c; omega
  exact ⟨fun n hn => by have := this n hn; omega, this⟩
theorem keysF_len {S O : Src} {W ks : List Int} (hS : okT7 S) (hO : okT7 O) (hg : good (W.zip (S ++ farS O)) ks) : ks.length ≤ 118 := by
  have h1 : ∀ n ∈ ks, (-20 ≤ n ∧ n ≤ 38) ∨ (4980 ≤ n ∧ n ≤ 5038) := fun n hn => by
    obtain ⟨t, ht, c⟩ := (hg.2 n).mp hn
    have hq := zip_in ht
    unfold cov at c; simp at c
    rcases List.mem_append.mp hq with z | z
    · have := hS _ z; omega
    · have := far_in hO z; omega
  have : ks ⊆ ((List.range 59).map fun i : Nat => (i : Int) - 20) ++ (List.range 59).map fun i : Nat => (i : Int) + 4980 := fun n hn => by
    rcases h1 n hn with z | z
    · exact List.mem_append_left _ (List.mem_map.mpr ⟨(n + 20).toNat, List.mem_range.mpr (by omega), by omega⟩)
    · exact List.mem_append_right _ (List.mem_map.mpr ⟨(n - 4980).toNat, List.mem_range.mpr (by omega), by omega⟩)
  have := List.Nodup.length_le_of_subset hg.1 this
  simpa using this
theorem shw_spans_far {L : List Int} (h : ∀ n ∈ L, -1000000 < n ∧ n < 1000000) (hl : L.length ≤ 120) : shw 462123 2 (.tup ((spansOf L).map encP)) := by
  have hlen : (spansOf L).length ≤ 120 := by
    have := joinR_len ((sortI L).map dup)
    rw [List.length_map, (sortI_perm L).length_eq] at this
    exact Nat.le_trans this hl
  refine shw_tup (k := 3849) (n := 1) (c := 120) (fun d hd => ?_) (by rw [List.length_map]; exact hlen)
  obtain ⟨p, hp, rfl⟩ := List.mem_map.mp hd
  obtain ⟨⟨a, ha, e1⟩, ⟨b, hb, e2⟩⟩ := joinR_ends _ p hp
  obtain ⟨x, hx, rfl⟩ := List.mem_map.mp ha
  obtain ⟨y, hy, rfl⟩ := List.mem_map.mp hb
  have h1 := h x ((sortI_perm L).mem_iff.mp hx)
  have h2 := h y ((sortI_perm L).mem_iff.mp hy)
  have e1 : p.1 = x := e1
  have e2 : p.2 = y := e2
  exact shw_encP (by rw [e1]; exact h1) (by rw [e2]; exact h2)
end PG

namespace PG
open PySem PySem.Spec L2 PF
theorem e_sortSetM {dl : DA} {ρ : PF.Env} {m : Mem} {Q : D → Mem → Prop} : dSortSetM dl ρ m Q = dl ρ m fun ds m1 => ∃ d l ks, ds = [d] ∧ vw m1 d = .lst l ∧ tupIs? l = some ks ∧ ((setT ks).length < 63 ∧ ∃ w, 1 ≤ w ∧ ∀ k ∈ ks, okT w k) ∧ Q (.lst ((setT ks).map tupI)) m1 := by
  unfold dSortSetM; congr 1; funext ds m1; apply propext; constructor
  · intro h
    split at h
    · next d =>
      split at h
      · next l hl =>
        split at h
        · next ks hk => exact ⟨d, l, ks, rfl, hl, hk, h.1, h.2⟩
        · exact h.elim
      · exact h.elim
    · exact h.elim
  · rintro ⟨d, l, ks, rfl, h1, h2, h3, q⟩
    simp only [h1, h2]
    exact ⟨h3, q⟩
theorem lc_takeU {p : Addr} {ρ0 : PF.Env} {Q : List D → Mem → Prop} {α : Type} {j : Nat} {u : Int} (hu : 1 ≤ u ∧ u ≤ 1000) (hj : j ≠ 0) (enc : α → D) (h0 : ρ0[0]? = some (some (.cel p))) : ∀ (xs : List α) (m : Mem) (acc : List D) (k : Nat), k + xs.length ≤ 1000 → potAt m p k →
    (∀ (W : List Int) (m' : Mem), W.length = xs.length → (∀ x ∈ W, 0 ≤ x ∧ x < u) → potAt m' p (k + xs.length) → Q (acc ++ W.map D.int) m') →
    lcGo (gdName j) dYes (dCall sp__law_take (dCons (dVar 0) (dCons (dC (D.int u)) dNil))) ρ0 (xs.map enc) m acc Q
  | [], m, acc, k, _, hp, q => by
    have := q [] m rfl (fun _ h => by cases h) hp
    simpa [lcGo] using this
  | x :: xs, m, acc, k, hk, hp, q => by
    have hk : k + (xs.length + 1) ≤ 1000 := hk
    have e : (ρ0.set j (some (enc x)))[0]? = some (some (.cel p)) := by rw [List.getElem?_set_ne hj]; exact h0
    rw [List.map_cons, lcGo_cons]
    simp [e]
    refine i_take k hu (by omega) hp fun d c hd hc => ?_
    refine lc_takeU hu hj enc h0 xs _ _ (k + 1) (by omega) (potAt_upd hc) fun W m' hW hb hp' => ?_
    have := q (d :: W) m' (by simp [hW]) (fun y hy => by
      rcases List.mem_cons.mp hy with z | z
      · rw [z]; exact hd
      · exact hb y z) (by rw [List.length_cons]; exact hp'.mono (by omega))
    simpa using this
theorem sem_apart {p : Addr} {S O : Src} {k : Nat} {m : Mem} {NX : PF.Env → Mem → Prop} {RT : D → Mem → Prop} (hS : six S) (hO : six O) (hk : k ≤ 700) (hp : potAt m p k) (hRT : ∀ m', potAt m' p (k + 30) → RT (D.bl true) m') :
   dS_apart { nx := NX, rt := RT } [some (.cel p), some (encS S), some (encS O), none, none, none, none, none, none, none, none, none, none, none, none, none, none, none, none, none, none, none, none, none, none] m := by
  have okB := both_ok hS hO
  have mB := most_far hS hO
  have lB := fun ks kt top => @lots_far S O ks kt top hS hO
  obtain ⟨hS1, hS6, h7⟩ := hS
  obtain ⟨hO1, hO6, h8⟩ := hO
  have okS' := okS_of7 h7 hS1 (by omega)
  have okO' := okS_of7 h8 hO1 (by omega)
  have hS20 : S.length ≤ 20 := by omega
  have hO20 : O.length ≤ 20 := by omega
  have mbS := most_bd okS'
  have mbO := most_bd okO'
  have fl := far_len O
  have bl : (S ++ farS O).length = S.length + O.length := by rw [List.length_append, fl]
  unfold dS_apart
  -- far
  rw [s_seq]; generalize hU : dSeq _ _ _ = N
  simp [encS, e_diT, dLc, wipeD]
  refine ⟨by rw [PySem.sizeLine_eq]; omega, lc_ok O encP (fun _ => true) (fun x => encP (putP 5000 x)) rfl (fun x hx K1 K0 h => by simpa [encP, putP, PySem.sizeLine_eq] using h) ?_⟩
  rw [filter_tt]
  have eP : O.map (fun x => encP (putP 5000 x)) = (farS O).map encP := by unfold farS; rw [List.map_map]; rfl
  rw [eP]
  -- both
  subst hU; rw [s_seq]; generalize hU : dSeq _ _ _ = N
  simp
  refine ⟨by rw [PySem.sizeLine_eq]; omega, ?_⟩
  rw [← List.map_append]
  have iB := both_in h7 h8
  have tB : ∀ a, 1 ≤ a → told (S ++ farS O) a = told S a ++ (told O a).map (putP 5000) := fun a ha => told_far h7 h8 ha
  have nB : ∀ n, n ≤ 2000 → hav (S ++ farS O) n = hav S n := fun n hn => hav_near h8 hn
  have kB : ∀ {W ks : List Int}, good (W.zip (S ++ farS O)) ks → ks.length ≤ 118 := fun hg => keysF_len h7 h8 hg
  generalize S ++ farS O = B at okB mB lB bl iB tB nB kB ⊢
  -- had, there
  subst hU; rw [s_seq]; generalize hU : dSeq _ _ _ = N
  simp
  refine i_had (S := S) (okR_of7 h7 hS20) fun ks hg => ?_
  refine i_had (S := O) (okR_of7 h8 hO20) fun kt hg2 => ?_
  simp [PySem.sizeLine_eq]
  have hk59 := good7_len h7 hg
  have ht59 := good7_len h8 hg2
  obtain ⟨hkne, hmS⟩ := most_eq okS' hg
  obtain ⟨htne, hmO⟩ := most_eq okO' hg2
  have hkpos : 0 < ks.length := List.length_pos_iff.mpr hkne
  have htpos : 0 < kt.length := List.length_pos_iff.mpr htne
  -- tops
  subst hU; rw [s_seq]; generalize hU : dSeq _ _ _ = N
  simp [e_diT, dLc, wipeD, PySem.sizeLine_eq]
  rw [lcGo_cons]
  simp [e_diK, dicT_eq, dLc, wipeD]
  refine ⟨by rw [PySem.sizeLine_eq]; omega, lc_ok ks D.int (fun _ => true) (fun n => .int (val (one S) n)) (by simp [dOfK]) (fun x hx K1 K0 h => by simpa [s_dget hx] using h) ?_⟩
  rw [filter_tt, max_int]
  refine ⟨hkpos, ?_⟩
  rw [← hmS, lcGo_cons]
  simp [e_diK, dicT_eq, dLc, wipeD]
  refine ⟨by rw [PySem.sizeLine_eq]; omega, lc_ok kt D.int (fun _ => true) (fun n => .int (val (one O) n)) (by simp [dOfK]) (fun x hx K1 K0 h => by simpa [s_dget hx] using h) ?_⟩
  rw [filter_tt, max_int]
  refine ⟨htpos, ?_⟩
  rw [← hmO]
  simp only [lcGo]
  have mx : ∀ (m : Mem) (Q : D → Mem → Prop), dcMax [.lst [.int (mostA S), .int (mostA O)]] m Q = Q (.int (mostA B)) m := fun m Q => by
    have e := s_max (m := m) (Q := Q) (ns := [mostA S, mostA O])
    rw [← mB] at e
    have e2 : dcMax [.lst [.int (mostA S), .int (mostA O)]] m Q = (0 < [mostA S, mostA O].length ∧ Q (.int (mostA B)) m) := e
    rw [e2]; simp
  have hmb := most_bd okB
  have hmle : mostA S ≤ mostA B ∧ mostA O ≤ mostA B := by rw [mB, maxI_two]; split <;> omega
  -- the loop
  subst hU; rw [s_seq]; generalize hU : dSeq _ _ _ = N
  refine for_open fun BB hBB => ?_
  simp [dFor, e_diR2, mx]
  refine ⟨by omega, ?_⟩
  suffices fin : ∀ x8 x9, N [some (D.cel p), some (D.tup (List.map encP S)), some (D.tup (List.map encP O)),
      some (D.tup (List.map encP (farS O))), some (D.tup (List.map encP B)), some (dicT ks (val (one S))),
      some (dicT kt (val (one O))), some (D.lst [D.int (mostA S), D.int (mostA O)]), x8, x9, none, none, none, none,
      none, none, none, none, none, none, none, none, none, none, none] m by
    refine for_ok (List.range ((mostA B + 2).toNat - 1)) (fun i : Nat => D.int (1 + (i : Int))) (fun pre ρ m' => m' = m ∧ ∃ x y, ρ = [some (D.cel p), some (D.tup (List.map encP S)), some (D.tup (List.map encP O)),
      some (D.tup (List.map encP (farS O))), some (D.tup (List.map encP B)), some (dicT ks (val (one S))),
      some (dicT kt (val (one O))), some (D.lst [D.int (mostA S), D.int (mostA O)]), x, y, none, none, none, none,
      none, none, none, none, none, none, none, none, none, none, none]) rfl ⟨rfl, none, none, rfl⟩ ?_ ?_
    · rintro pre a post ρ m3 hx ⟨rfl, x, y, rfl⟩ N2 hN2
      have hr := range_at hx
      subst hBB
      simp only [s_gname, List.set_cons_zero, List.set_cons_succ]
      rw [s_seq]; generalize hU2 : dSeq _ _ _ = N3
      simp
      by_cases hb : (B.length : Int) < 1 + a
      · refine .inr ⟨by omega, ?_⟩
        exact fin _ _
      refine .inl ⟨by omega, ?_⟩
      have ha : (1 : Int) ≤ 1 + a := by omega
      have hRb : ∀ q ∈ told O (1 + a), -20 ≤ q.1 ∧ q.1 ≤ q.2 ∧ q.2 ≤ 38 := fun q hq => told_in h8 ha hq
      have hRs : ∀ q ∈ told S (1 + a), -20 ≤ q.1 ∧ q.1 ≤ q.2 ∧ q.2 ≤ 38 := fun q hq => told_in h7 ha hq
      have lO := told_len okO' (1 + a)
      have lS := told_len okS' (1 + a)
      have lB' := told_len okB (1 + a)
      have eB := tB _ ha
      subst hU2; rw [s_seq]; generalize hU2 : dSeq _ _ _ = N3
      simp [e_diT, dLc, wipeD]
      refine i_agr ⟨h8, hO20⟩ ha ?_
      refine ⟨_, rfl, by rw [List.length_map, PySem.sizeLine_eq]; omega, lc_ok (told O (1 + a)) encP (fun _ => true) (fun x => encP (putP 5000 x)) rfl (fun x hx K1 K0 h => by simpa [encP, putP, PySem.sizeLine_eq] using h) ?_⟩
      rw [filter_tt]
      have eP : (told O (1 + a)).map (fun x => encP (putP 5000 x)) = ((told O (1 + a)).map (putP 5000)).map encP := by rw [List.map_map]; rfl
      rw [eP]
      subst hU2; rw [s_seq]; generalize hU2 : dSeq _ _ _ = N3
      simp only [s_ifS, s_not, s_test, s_call, s_cons, s_nil, s_op, s_var, List.getElem?_cons_succ, List.getElem?_cons_zero, Option.some.injEq, exists_eq_left']
      refine i_agreed okB (by omega) ?_
      refine i_agr ⟨h7, hS20⟩ ha ?_
      rw [s_addT, ← List.map_append]
      refine ⟨by simp [PySem.sizeLine_eq]; omega, ?_⟩
      refine i_same2 (by rw [eB]) (by rw [← eB]; exact shw_pairs (fun q hq => by
        rw [eB] at hq
        rcases List.mem_append.mp hq with z | z
        · have := hRs q z; omega
        · obtain ⟨w, hw, rfl⟩ := List.mem_map.mp z
          have := hRb w hw
          exact ⟨⟨by show -1000000 < w.1 + 5000; omega, by show w.1 + 5000 < 1000000; omega⟩, ⟨by show -1000000 < w.2 + 5000; omega, by show w.2 + 5000 < 1000000; omega⟩⟩) lB') (by decide) (by decide) ?_
      subst hU2
      exact ⟨true, rfl, hN2 _ _ ⟨rfl, _, _, rfl⟩⟩
    · rintro ρ m3 ⟨rfl, x, y, rfl⟩
      exact fin _ _
  intro x8 x9
  clear mx hBB BB
  have mx : ∀ (m : Mem) (Q : D → Mem → Prop), dcMax [.lst [.int (mostA S), .int (mostA O)]] m Q = Q (.int (mostA B)) m := fun m Q => by
    have e := s_max (m := m) (Q := Q) (ns := [mostA S, mostA O])
    rw [← mB] at e
    have e2 : dcMax [.lst [.int (mostA S), .int (mostA O)]] m Q = (0 < [mostA S, mostA O].length ∧ Q (.int (mostA B)) m) := e
    rw [e2]; simp
  -- now
  subst hU; rw [s_seq]; generalize hU : dSeq _ _ _ = N
  simp [e_diK, dicT_eq, dLc, wipeD, mx]
  refine ⟨by rw [PySem.sizeLine_eq]; omega, lc_ok ks D.int (fun n => decide (val (one S) n = mostA B)) D.int (by simp [dOfK]) (fun x hx K1 K0 h => ?_) ?_⟩
  · simp [s_dget hx, mx]
    exact if_eq h
  -- lots
  subst hU; rw [s_seq]; generalize hU : dSeq _ _ _ = N
  have hnl : (ks.filter fun n => decide (val (one S) n = mostA B)).length ≤ 59 := by have := List.length_filter_le (fun n => decide (val (one S) n = mostA B)) ks; omega
  simp [e_diL, dLc, wipeD]
  refine ⟨by rw [PySem.sizeLine_eq]; omega, lc_ok (ks.filter fun n => decide (val (one S) n = mostA B)) D.int (fun _ => true) (fun n => tupI (hav S n)) rfl (fun x hx K1 K0 h => ?_) ?_⟩
  · simp [dLc, e_diEnT, wipeD]
    refine ⟨by simp [enumD, PySem.sizeLine_eq]; omega, lc_ok S.zipIdx (fun p => .tup [.int (p.2:Nat), encP p.1]) (fun p => decide (p.1.1 ≤ x) && decide (x ≤ p.1.2)) (fun p => .int (p.2:Nat)) (enumD_map encP S) (fun y hy K1' K0' h' => ?_) ?_⟩
    · simp [encP, ix0, ix1]
      exact rows_in h'
    · rw [hav_enc]
      simpa [tupI] using h
  rw [filter_tt]
  -- later
  subst hU; rw [s_seq]; generalize hU : dSeq _ _ _ = N
  simp [e_diK, dicT_eq, dLc, wipeD, mx]
  refine ⟨by rw [PySem.sizeLine_eq]; omega, lc_ok kt D.int (fun n => decide (val (one O) n = mostA B)) D.int (by simp [dOfK]) (fun x hx K1 K0 h => ?_) ?_⟩
  · simp [s_dget hx, mx]
    exact if_eq h
  -- more
  subst hU; rw [s_seq]; generalize hU : dSeq _ _ _ = N
  have hll : (kt.filter fun n => decide (val (one O) n = mostA B)).length ≤ 59 := by have := List.length_filter_le (fun n => decide (val (one O) n = mostA B)) kt; omega
  simp [e_diL, dLc, wipeD]
  refine ⟨by rw [PySem.sizeLine_eq]; omega, lc_ok (kt.filter fun n => decide (val (one O) n = mostA B)) D.int (fun _ => true) (fun n => tupI ((hav O n).map fun i => i + (S.length : Int))) rfl (fun x hx K1 K0 h => ?_) ?_⟩
  · simp [dLc, e_diEnT, wipeD]
    refine ⟨by simp [enumD, PySem.sizeLine_eq]; omega, lc_ok O.zipIdx (fun p => .tup [.int (p.2:Nat), encP p.1]) (fun p => decide (p.1.1 ≤ x) && decide (x ≤ p.1.2)) (fun p => .int ((p.2:Nat) + (S.length : Int))) (enumD_map encP O) (fun y hy K1' K0' h' => ?_) ?_⟩
    · simp [encP, ix0, ix1]
      exact rows_in h'
    · have e9 : (O.zipIdx.filter fun p => decide (p.1.1 ≤ x) && decide (x ≤ p.1.2)).map (fun p => D.int ((p.2:Nat) + (S.length : Int))) = ((hav O x).map fun i => i + (S.length : Int)).map D.int := by
        unfold hav; rw [List.map_map, List.map_map]; rfl
      rw [e9]
      simpa [tupI] using h
  rw [filter_tt]
  -- lots_right
  subst hU; rw [s_seq]; generalize hU : dSeq _ _ _ = N
  have elot : (ks.filter fun n => decide (val (one S) n = mostA B)).map (fun n => tupI (hav S n)) ++ (kt.filter fun n => decide (val (one O) n = mostA B)).map (fun n => tupI ((hav O n).map fun i => i + (S.length : Int))) =
     ((ks.filter fun n => decide (val (one S) n = mostA B)).map (hav S) ++ (kt.filter fun n => decide (val (one O) n = mostA B)).map fun n => (hav O n).map fun i => i + (S.length : Int)).map tupI := by rw [List.map_append, List.map_map, List.map_map]; rfl
  have eL := lB ks kt _ hg hg2 rfl
  have lL := lots_le okB
  have bd : ∀ k ∈ ((ks.filter fun n => decide (val (one S) n = mostA B)).map (hav S) ++ (kt.filter fun n => decide (val (one O) n = mostA B)).map fun n => (hav O n).map fun i => i + (S.length : Int)), (k.length : Int) = mostA B ∧ ∀ x ∈ k, 0 ≤ x ∧ x < 12 := fun k hk => by
    rcases List.mem_append.mp hk with z | z
    · obtain ⟨n, hn, rfl⟩ := List.mem_map.mp z
      have h2 := (List.mem_filter.mp hn).2
      rw [cnt_hav] at h2
      have h2 : ((hav S n).length : Int) = mostA B := by simpa using h2
      exact ⟨h2, fun x hx => by have := hav_bd hx; omega⟩
    · obtain ⟨n, hn, rfl⟩ := List.mem_map.mp z
      have h2 := (List.mem_filter.mp hn).2
      rw [cnt_hav] at h2
      have h2 : ((hav O n).length : Int) = mostA B := by simpa using h2
      refine ⟨by rw [List.length_map]; exact h2, fun x hx => ?_⟩
      obtain ⟨y, hy, rfl⟩ := List.mem_map.mp hx
      have := hav_bd hy
      omega
  simp only [s_ifS, s_not, s_test, s_call, s_cons, s_nil, s_cb, e_sortSetM, s_op, s_var, List.getElem?_cons_succ, List.getElem?_cons_zero, Option.some.injEq, exists_eq_left', s_addL]
  refine i_lots_right okB ?_
  refine ⟨by simp [PySem.sizeLine_eq]; omega, ?_⟩
  rw [elot]
  generalize ((ks.filter fun n => decide (val (one S) n = mostA B)).map (hav S) ++ (kt.filter fun n => decide (val (one O) n = mostA B)).map fun n => (hav O n).map fun i => i + (S.length : Int)) = LL at eL bd ⊢
  refine ⟨_, _, LL, rfl, rfl, tupIs?_map _, ⟨by rw [← eL]; omega, (mostA B).toNat, by omega, fun k hk => ⟨by have := (bd k hk).1; omega, fun x hx => by have := (bd k hk).2 x hx; omega⟩⟩, ?_⟩
  rw [← eL, s_tupleL]
  refine i_same2 rfl (shw_lots (fun k hk => ?_) (by omega)) (by decide) (by decide) ?_
  · rw [eL] at hk
    have h3 := bd k (setK_sub codeT hk)
    exact ⟨fun n hn => by have := h3.2 n hn; omega, by omega⟩
  refine ⟨true, rfl, ?_⟩
  simp only [Bool.not_true, Bool.false_eq_true, if_false, s_next]
  clear elot eL lL bd
  -- number
  subst hU; rw [s_seq]; generalize hU : dSeq _ _ _ = N
  simp
  refine ⟨ks, _, rfl, by omega, ?_⟩
  refine i_of k (by simp [(sortI_perm ks).length_eq]; omega) (by omega) hp fun d c1 hd hc1 => ?_
  obtain ⟨nu, hnu, rfl⟩ := List.mem_map.mp hd
  have hnu := (sortI_perm ks).mem_iff.mp hnu
  have hnub := keys7 h7 hg hnu
  have hpc : potAt (updM m p c1) p (k + 1) := potAt_upd hc1
  generalize updM m p c1 = m1 at hpc
  -- have
  subst hU; rw [s_seq]; generalize hU : dSeq _ _ _ = N
  simp [e_diEnT, dLc, wipeD]
  refine i_have okB ⟨by omega, by omega⟩ ?_
  refine ⟨by simp [enumD, PySem.sizeLine_eq]; omega, lc_ok S.zipIdx (fun p => .tup [.int (p.2:Nat), encP p.1]) (fun p => decide (p.1.1 ≤ nu) && decide (nu ≤ p.1.2)) (fun p => .int (p.2:Nat)) (enumD_map encP S) (fun y hy K1' K0' h' => ?_) ?_⟩
  · simp [encP, ix0, ix1]
    exact rows_in h'
  rw [hav_enc, nB nu (by omega)]
  refine i_same2 rfl (shw_ints (hav_sml hS20 _).1 (hav_sml hS20 _).2) (by decide) (by decide) ?_
  refine .inr ⟨rfl, ?_⟩
  -- weights
  subst hU; rw [s_seq]; generalize hU : dSeq _ _ _ = N
  simp [e_diT, dLc, wipeD]
  refine ⟨by rw [PySem.sizeLine_eq]; omega, lc_takeU (j := 20) (u := 4) (by omega) (by decide) encP rfl B m1 [] (k + 1) (by omega) hpc fun W m3 hW hWb hp3 => ?_⟩
  simp
  -- enough
  subst hU; rw [s_seq]; generalize hU : dSeq _ _ _ = N
  simp
  refine i_take (k + 1 + B.length) (by omega) (by omega) hp3 fun en c5 hen hc5 => ?_
  have hpc : potAt (updM m3 p c5) p (k + 1 + B.length + 1) := potAt_upd hc5
  generalize updM m3 p c5 = m4 at hpc
  simp
  -- found
  subst hU; rw [s_seq]; generalize hU : dSeq _ _ _ = N
  simp
  intro f hf
  have hpf : p ≠ f := by
    rintro rfl
    obtain ⟨c, h, _⟩ := hpc
    rw [hf] at h; cases h
  -- the loop
  subst hU; rw [s_seq]; generalize hU : dSeq _ _ _ = N
  simp [dFor, e_diZip]
  rw [zipD_map]
  refine for_okE (W.zip B) (fun t => D.tup [.int t.1, encP t.2]) (fun L pre ρ m' => ∃ x y z ks2, ρ = ((L.set 18 x).set 19 y).set 20 z ∧ good pre ks2 ∧ m' = updM m4 f (celT ks2 (val pre))) rfl ⟨none, none, none, [], rfl, ⟨List.nodup_nil, by simp⟩, rfl⟩ ?_ ?_
  · rintro pre t post ρ m5 hx ⟨x, y, z, ks2, rfl, hg3, rfl⟩ N2 hN2
    have htS : t.2 ∈ B := zip_in (W := W) (by rw [hx]; simp)
    have ht7 := iB _ htS
    have hTl : ∀ hi : Int, hi ≤ t.2.2 → ∀ u ∈ pre ++ [(t.1, (t.2.1, hi))], -1000 ≤ u.2.1 ∧ u.2.2 < -1000 + ((7001 : Nat) : Int) := fun hi hh u hu => by
      rcases List.mem_append.mp hu with w | w
      · have := iB u.2 (zip_in (W := W) (by rw [hx]; exact List.mem_append_left _ w))
        omega
      · simp at w; subst w; simp; omega
    simp [dFor, e_diR2, encP, ix0, ix1]
    refine ⟨by omega, ?_⟩
    refine for_okE (List.range (t.2.2 + 1 - t.2.1).toNat) (fun i : Nat => D.int (t.2.1 + (i : Int))) (fun L pre2 ρ m' => ∃ z ks', ρ = L.set 20 z ∧ good (pre ++ [(t.1, (t.2.1, t.2.1 + (pre2.length : Int) - 1))]) ks' ∧ m' = updM m4 f (celT ks' (val (pre ++ [(t.1, (t.2.1, t.2.1 + (pre2.length : Int) - 1))])))) rfl ?_ ?_ ?_
    · refine ⟨_, ks2, rfl, by simpa using good_start hg3 t.1 t.2.1, ?_⟩
      congr 2
      funext n
      simpa using (val_start pre t.1 t.2.1 n).symm
    · rintro pre2 y2 post2 ρ m6 hy ⟨z2, ks', rfl, hg', rfl⟩ N3 hN3
      obtain ⟨rfl, hlt⟩ := range_at hy
      simp
      have e1 : t.2.1 + ((pre2 ++ [pre2.length]).length : Int) - 1 = t.2.1 + (pre2.length : Int) - 1 + 1 := by simp; omega
      have e2 : t.2.1 + (pre2.length : Int) - 1 + 1 = t.2.1 + (pre2.length : Int) := by omega
      refine put_ok (p := f) (n := t.2.1 + (pre2.length : Int)) (w := t.1) (ks := ks') (f := val (pre ++ [(t.1, (t.2.1, t.2.1 + (pre2.length : Int) - 1))])) (g := val (pre ++ [(t.1, (t.2.1, t.2.1 + ((pre2 ++ [pre2.length]).length : Int) - 1))])) rfl rfl updM_same (val_none hg') (fun Q h => by simpa using h) (fun n => ?_) ?_ ?_
      · rw [e1, val_step _ _ _ _ (by omega), e2]
      · have := good_len (lo := -1000) (n := 7001) hg' (hTl _ (by omega))
        rw [PySem.sizeLine_eq]; omega
      · refine hN3 _ _ ⟨_, keyAdd ks' (t.2.1 + (pre2.length : Int)), rfl, ?_, ?_⟩
        · have := good_step hg' (by omega)
          rw [e1]; rw [e2] at this ⊢; exact this
        · rw [updM_updM]
    · rintro ρ m6 ⟨z2, ks', rfl, hg', rfl⟩
      have e3 : t.2.1 + ((List.range (t.2.2 + 1 - t.2.1).toNat).length : Int) - 1 = t.2.2 := by rw [List.length_range]; omega
      rw [e3] at hg'
      refine hN2 _ _ ⟨_, _, _, ks', rfl, hg', ?_⟩
      rw [e3]
  rintro ρ m5 ⟨x, y, z, ks2, rfl, hg3, rfl⟩
  obtain ⟨hk2, _⟩ := keysF iB hg3
  have hk2l := kB hg3
  show N _ _
  -- weighed
  subst hU; rw [s_seq]
  simp [updM_same, celT]
  refine ⟨_, _, ⟨rfl, rfl⟩, i_weighed (e := 1 + en) (W := W) okB ⟨hW, fun x hx => by have := hWb x hx; omega, by omega, by omega⟩ ?_⟩
  have hpe : potAt (delM (updM m4 f (.d (ks2.map Sum.inl) (ks2.map fun n => D.int (val (W.zip B) n)))) f) p (k + 1 + B.length + 1) := by
    obtain ⟨c, h1, h2⟩ := hpc
    exact ⟨c, by rw [delM_ne hpf, updM_ne hpf]; exact h1, h2⟩
  generalize delM (updM m4 f _) f = m6 at hpe
  simp [e_diK, dLc, wipeD]
  refine ⟨by rw [PySem.sizeLine_eq]; omega, lc_ok ks2 D.int (fun n => decide (1 + en ≤ val (W.zip B) n)) D.int (by simp [dOfK]) (fun x hx K1 K0 h => ?_) ?_⟩
  · simp [s_dget2 hx]
    exact if_le h
  refine i_spans (Nat.le_trans (List.length_filter_le _ _) (by omega)) ?_
  exact i_same2 (by rw [weigh_eq hW (by omega) hg3]) (shw_spans_far (fun n hn => hk2 n (List.mem_filter.mp hn).1) (Nat.le_trans (List.length_filter_le _ _) (by omega))) (by decide) (by decide) (hRT _ (hpe.mono (by omega)))
end PG

namespace PG
open PySem PySem.Spec L2 PF
section
variable {P : Program} {w : World} {K : PySem.W.Frag} {mg : Str → Option Value} {base : Heap}
/-! _law_are_times_right -/
abbrev N__law_are_times_right : List Str := ["pot", "sources", "times", "size", "many", "wide", "number", "groups", "had", "most", "spans", "wrong", "great", "due", "told", "ends", "right", "bad", "truths", "fine", "none", "more", "at", "source", "lap"]
theorem sc__law_are_times_right : FnScope N__law_are_times_right ["pot", "sources", "times"] (defScope (top 48)) := ⟨rfl, rfl, rfl, by decide +kernel, rfl, by decide +kernel, by decide +kernel⟩
theorem ok__law_are_times_right {f : Addr} {fd : FuncData} (T : Txt mg) (F : Fun K "_law_are_times_right" "_law_are_times_right" (top 48) f fd) (hm : mg "_law_are_times_right" = some (.ref f)) (d_agreed : Def P w K mg base 5 "agreed" (top 24) ["sources", "many"] sp_agreed) (d_best_agreed : Def P w K mg base 5 "best_agreed" (top 26) ["sources"] sp_best_agreed) (d_truth_spans : Def P w K mg base 6 "truth_spans" (top 29) ["sources", "wrong"] sp_truth_spans) (d_surely_right : Def P w K mg base 7 "surely_right" (top 31) ["sources", "wrong"] sp_surely_right) (d_surely_wrong : Def P w K mg base 7 "surely_wrong" (top 32) ["sources", "wrong"] sp_surely_wrong) (d_hull : Def P w K mg base 7 "hull" (top 36) ["sources", "wrong"] sp_hull) (d__law_take : Def P w K mg base 1 "_law_take" (top 39) ["pot", "upto"] sp__law_take) (d__law_same : Def P w K mg base 1 "_law_same" (top 43) ["one", "other"] sp__law_same) (d__law_had_by : Def P w K mg base 1 "_law_had_by" (top 46) ["sources"] sp__law_had_by) (d__law_agreed : Def P w K mg base 2 "_law_agreed" (top 47) ["sources", "many"] sp__law_agreed) : Def P w K mg base 8 "_law_are_times_right" (top 48) ["pot", "sources", "times"] sp__law_are_times_right := by
  refine def_ok F hm sc__law_are_times_right (by rintro ds m Q ⟨p, S, t, k, rfl, _⟩; rfl) (fun f cdv A outer s H E c => (db_cons (ds_set 3 c (dx_bi cb_len T.n_len bt_len (da_cons (dx_var 1) da_nil))) (db_cons (ds_set 4 c (dx_op ox_add dx_int (dx_call d__law_take c (by decide) (da_cons (dx_var 0) (da_cons (dx_var 3) da_nil)) (fun _ _ _ _ _ _ us hl => match us, hl with | [_, _], _ => rfl)))) (db_cons (ds_set 5 c (dx_op ox_mul (dx_var 1) (dx_var 2))) (db_cons (ds_for c PassesOwn.never (di_tup (dx_tup (da_cons (dx_op ox_mul (dx_var 4) (dx_var 2)) (da_cons (dx_op ox_sub (dx_op ox_mul (dx_var 4) (dx_var 2)) (dx_call d__law_take c (by decide) (da_cons (dx_var 0) (da_cons (dx_var 2) da_nil)) (fun _ _ _ _ _ _ us hl => match us, hl with | [_, _], _ => rfl))) (da_cons (dx_bi (cb_max c) T.n_max bt_max (da_cons dx_int (da_cons (dx_op ox_add (dx_op ox_sub (dx_op ox_mul (dx_var 4) (dx_var 2)) (dx_var 2)) dx_int) da_nil))) da_nil))))) (dg_name 6 c) (db_cons (ds_set 7 c (dx_op ox_sub dx_int (dx_op ox_div (dx_op ox_sub dx_int (dx_var 6)) (dx_var 2)))) (db_cons (ds_if (dt_not (dt_val (dx_call d__law_same c (by decide) (da_cons (dx_tup (da_cons (dx_call d_agreed c (by decide) (da_cons (dx_var 5) (da_cons (dx_var 6) da_nil)) (fun _ _ _ _ _ _ us hl => match us, hl with | [_, _], _ => rfl)) (da_cons (dx_call d_agreed c (by decide) (da_cons (dx_var 1) (da_cons (dx_var 7) da_nil)) (fun _ _ _ _ _ _ us hl => match us, hl with | [_, _], _ => rfl)) da_nil))) (da_cons (dx_op ox_mul (dx_tup (da_cons (dx_call d__law_agreed c (by decide) (da_cons (dx_var 1) (da_cons (dx_var 7) da_nil)) (fun _ _ _ _ _ _ us hl => match us, hl with | [_, _], _ => rfl)) da_nil)) dx_int) da_nil)) (fun _ _ _ _ _ _ us hl => match us, hl with | [_, _], _ => rfl)))) (db_cons (ds_ret dx_bl) db_nil) db_nil) db_nil))) (db_cons (ds_set 8 c (dx_call d__law_had_by c (by decide) (da_cons (dx_var 1) da_nil) (fun _ _ _ _ _ _ us hl => match us, hl with | [_], _ => rfl))) (db_cons (ds_set 9 c (dx_bi (cb_max c) T.n_max bt_max (da_cons (dx_lc c (di_keys (dx_var 8)) (blkOk_by (own := [("number", 6)]) (by first | decide +kernel | kernel_rfl)) (fun _ _ _ _ _ => (dg_name 6 (c.blk _ _ _ _ _))) (fun _ _ _ _ _ => dts_nil) (fun _ _ _ _ _ => (dx_dget (c.blk _ _ _ _ _) (dx_var 8) (dx_var 6)))) da_nil))) (db_cons (ds_set 10 c (dx_call d__law_agreed c (by decide) (da_cons (dx_var 1) (da_cons (dx_var 9) da_nil)) (fun _ _ _ _ _ _ us hl => match us, hl with | [_, _], _ => rfl))) (db_cons (ds_if (dt_not (dt_val (dx_call d__law_same c (by decide) (da_cons (dx_tup (da_cons (dx_call d_best_agreed c (by decide) (da_cons (dx_var 1) da_nil) (fun _ _ _ _ _ _ us hl => match us, hl with | [_], _ => rfl)) (da_cons (dx_call d_best_agreed c (by decide) (da_cons (dx_var 5) da_nil) (fun _ _ _ _ _ _ us hl => match us, hl with | [_], _ => rfl)) da_nil))) (da_cons (dx_tup (da_cons (dx_tup (da_cons (dx_var 9) (da_cons (dx_var 10) da_nil))) (da_cons (dx_tup (da_cons (dx_op ox_mul (dx_var 2) (dx_var 9)) (da_cons (dx_var 10) da_nil))) da_nil))) da_nil)) (fun _ _ _ _ _ _ us hl => match us, hl with | [_, _], _ => rfl)))) (db_cons (ds_ret dx_bl) db_nil) db_nil) (db_cons (ds_set 11 c (dx_call d__law_take c (by decide) (da_cons (dx_var 0) (da_cons (dx_var 3) da_nil)) (fun _ _ _ _ _ _ us hl => match us, hl with | [_, _], _ => rfl))) (db_cons (ds_set 12 c (dx_op ox_add (dx_op ox_mul (dx_var 11) (dx_var 2)) (dx_call d__law_take c (by decide) (da_cons (dx_var 0) (da_cons (dx_var 2) da_nil)) (fun _ _ _ _ _ _ us hl => match us, hl with | [_, _], _ => rfl)))) (db_cons (ds_set 13 c (dx_if (dt_cmp ox_lt (dx_var 9) (dx_op ox_sub (dx_var 3) (dx_var 11))) (dx_tup (da_cons dx_str (da_cons (dx_op ox_sub (dx_var 3) (dx_var 9)) da_nil))) (dx_tup (da_cons dx_str (da_cons (dx_call d__law_agreed c (by decide) (da_cons (dx_var 1) (da_cons (dx_op ox_sub (dx_var 3) (dx_var 11)) da_nil)) (fun _ _ _ _ _ _ us hl => match us, hl with | [_, _], _ => rfl)) da_nil))))) (db_cons (ds_set 14 c (dx_call d_truth_spans c (by decide) (da_cons (dx_var 5) (da_cons (dx_var 12) da_nil)) (fun _ _ _ _ _ _ us hl => match us, hl with | [_, _], _ => rfl))) (db_cons (ds_if (dt_not (dt_val (dx_call d__law_same c (by decide) (da_cons (dx_call d_truth_spans c (by decide) (da_cons (dx_var 1) (da_cons (dx_var 11) da_nil)) (fun _ _ _ _ _ _ us hl => match us, hl with | [_, _], _ => rfl)) (da_cons (dx_var 13) da_nil)) (fun _ _ _ _ _ _ us hl => match us, hl with | [_, _], _ => rfl)))) (db_cons (ds_ret dx_bl) db_nil) db_nil) (db_cons (ds_if (dt_cmp (ox_eq c) (dx_ix (dx_var 13) dx_int) dx_str) (db_cons (ds_ret (dx_call d__law_same c (by decide) (da_cons (dx_var 14) (da_cons (dx_tup (da_cons dx_str (da_cons (dx_op ox_mul (dx_var 2) (dx_op ox_sub (dx_var 3) (dx_var 9))) da_nil))) da_nil)) (fun _ _ _ _ _ _ us hl => match us, hl with | [_, _], _ => rfl))) db_nil) db_nil) (db_cons (ds_set 15 c (dx_tup (da_cons (dx_ix (dx_ix (dx_ix (dx_var 13) dx_int) dx_int) dx_int) (da_cons (dx_ix (dx_ix (dx_ix (dx_var 13) dx_int) (dx_neg dx_int)) dx_int) da_nil)))) (db_cons (ds_if (dt_not (dt_val (dx_call d__law_same c (by decide) (da_cons (dx_tup (da_cons (dx_var 14) (da_cons (dx_call d_hull c (by decide) (da_cons (dx_var 1) (da_cons (dx_var 11) da_nil)) (fun _ _ _ _ _ _ us hl => match us, hl with | [_, _], _ => rfl)) (da_cons (dx_call d_hull c (by decide) (da_cons (dx_var 5) (da_cons (dx_var 12) da_nil)) (fun _ _ _ _ _ _ us hl => match us, hl with | [_, _], _ => rfl)) da_nil)))) (da_cons (dx_tup (da_cons (dx_var 13) (da_cons (dx_var 15) (da_cons (dx_var 15) da_nil)))) da_nil)) (fun _ _ _ _ _ _ us hl => match us, hl with | [_, _], _ => rfl)))) (db_cons (ds_ret dx_bl) db_nil) db_nil) (db_cons (ds_par (i := 16) (j := 17) c (da_cons (dx_call d_surely_right c (by decide) (da_cons (dx_var 1) (da_cons (dx_var 11) da_nil)) (fun _ _ _ _ _ _ us hl => match us, hl with | [_, _], _ => rfl)) (da_cons (dx_call d_surely_wrong c (by decide) (da_cons (dx_var 1) (da_cons (dx_var 11) da_nil)) (fun _ _ _ _ _ _ us hl => match us, hl with | [_, _], _ => rfl)) da_nil)) rfl rfl (by decide) (by rfl) (by rfl) (by rfl)) (db_cons (ds_set 18 c (dx_lc c (di_keys (dx_var 8)) (blkOk_by (own := [("number", 6)]) (by first | decide +kernel | kernel_rfl)) (fun _ _ _ _ _ => (dg_name 6 (c.blk _ _ _ _ _))) (fun _ _ _ _ _ => (dts_one (dt_cmp ox_ge (dx_dget (c.blk _ _ _ _ _) (dx_var 8) (dx_var 6)) (dx_op ox_sub (dx_var 3) (dx_var 11))))) (fun _ _ _ _ _ => (dx_var 6)))) (db_cons (ds_set 19 c (dx_ty cb_tuple T.n_tuple bt_tuple (da_cons (dx_lc c (di_enT (da_cons (dx_var 1) da_nil) T.n_enumerate) (blkOk_by (own := [("at", 22), ("source", 23)]) (by first | decide +kernel | kernel_rfl)) (fun _ _ _ _ _ => (dg_tup (n := 2) (c.blk _ _ _ _ _) (dgs_cons (dg_name 22 (c.blk _ _ _ _ _)) (dgs_cons (dg_name 23 (c.blk _ _ _ _ _)) dgs_nil)))) (fun _ _ _ _ _ => (dts_one (dt_val (dx_bi (cb_all (c.blk _ _ _ _ _)) T.n_all bt_all (da_cons (dx_lc (c.blk _ _ _ _ _) (di_list (dx_var 18)) (blkOk_by (own := [("number", 6)]) (by first | decide +kernel | kernel_rfl)) (fun _ _ _ _ _ => (dg_name 6 ((c.blk _ _ _ _ _).blk _ _ _ _ _))) (fun _ _ _ _ _ => dts_nil) (fun _ _ _ _ _ => (dx_chain ox_le ox_le (dx_ix (dx_var 23) dx_int) (dx_var 6) (dx_ix (dx_var 23) dx_int)))) da_nil))))) (fun _ _ _ _ _ => (dx_var 22))) da_nil))) (db_cons (ds_set 20 c (dx_ty cb_tuple T.n_tuple bt_tuple (da_cons (dx_lc c (di_enT (da_cons (dx_var 1) da_nil) T.n_enumerate) (blkOk_by (own := [("at", 22), ("source", 23)]) (by first | decide +kernel | kernel_rfl)) (fun _ _ _ _ _ => (dg_tup (n := 2) (c.blk _ _ _ _ _) (dgs_cons (dg_name 22 (c.blk _ _ _ _ _)) (dgs_cons (dg_name 23 (c.blk _ _ _ _ _)) dgs_nil)))) (fun _ _ _ _ _ => (dts_one (dt_not (dt_val (dx_bi (cb_any (c.blk _ _ _ _ _)) T.n_any bt_any (da_cons (dx_lc (c.blk _ _ _ _ _) (di_list (dx_var 18)) (blkOk_by (own := [("number", 6)]) (by first | decide +kernel | kernel_rfl)) (fun _ _ _ _ _ => (dg_name 6 ((c.blk _ _ _ _ _).blk _ _ _ _ _))) (fun _ _ _ _ _ => dts_nil) (fun _ _ _ _ _ => (dx_chain ox_le ox_le (dx_ix (dx_var 23) dx_int) (dx_var 6) (dx_ix (dx_var 23) dx_int)))) da_nil)))))) (fun _ _ _ _ _ => (dx_var 22))) da_nil))) (db_cons (ds_if (dt_not (dt_val (dx_call d__law_same c (by decide) (da_cons (dx_tup (da_cons (dx_var 16) (da_cons (dx_var 17) da_nil))) (da_cons (dx_tup (da_cons (dx_var 19) (da_cons (dx_var 20) da_nil))) da_nil)) (fun _ _ _ _ _ _ us hl => match us, hl with | [_, _], _ => rfl)))) (db_cons (ds_ret dx_bl) db_nil) db_nil) (db_cons (ds_set 21 c (dx_bi (cb_sumL c) T.n_sum bt_sum (da_cons (dx_lc c (di_r1 (da_cons (dx_var 2) da_nil) T.n_range) (blkOk_by (own := [("lap", 24)]) (by first | decide +kernel | kernel_rfl)) (fun _ _ _ _ _ => (dg_name 24 (c.blk _ _ _ _ _))) (fun _ _ _ _ _ => dts_nil) (fun _ _ _ _ _ => (dx_lc (c.blk _ _ _ _ _) (di_tup (dx_var 19)) (blkOk_by (own := [("at", 22)]) (by first | decide +kernel | kernel_rfl)) (fun _ _ _ _ _ => (dg_name 22 ((c.blk _ _ _ _ _).blk _ _ _ _ _))) (fun _ _ _ _ _ => dts_nil) (fun _ _ _ _ _ => (dx_op ox_add (dx_var 22) (dx_op ox_mul (dx_var 3) (dx_var 24))))))) (da_cons (dx_lst da_nil) da_nil)))) (db_cons (ds_ret (dx_call d__law_same c (by decide) (da_cons (dx_call d_surely_right c (by decide) (da_cons (dx_var 5) (da_cons (dx_var 12) da_nil)) (fun _ _ _ _ _ _ us hl => match us, hl with | [_, _], _ => rfl)) (da_cons (dx_ty cb_tuple T.n_tuple bt_tuple (da_cons (dx_var 21) da_nil)) da_nil)) (fun _ _ _ _ _ _ us hl => match us, hl with | [_, _], _ => rfl))) db_nil)))))))))))))))))))))))) ?_
  rintro ds m Q ⟨p, S, t, k, rfl, hS, ht, hk, hp, q⟩
  exact sem_times hS ht hk hp fun m' h => ⟨m', MLe.refl m', q m' h⟩
/-! _law_are_apart_right -/
abbrev N__law_are_apart_right : List Str := ["pot", "sources", "others", "far", "both", "had", "there", "tops", "many", "late", "now", "lots", "later", "more", "number", "weights", "enough", "found", "weight", "source", "it", "low", "high", "some", "at"]
theorem sc__law_are_apart_right : FnScope N__law_are_apart_right ["pot", "sources", "others"] (defScope (top 49)) := ⟨rfl, rfl, rfl, by decide +kernel, rfl, by decide +kernel, by decide +kernel⟩
theorem ok__law_are_apart_right {f : Addr} {fd : FuncData} (T : Txt mg) (F : Fun K "_law_are_apart_right" "_law_are_apart_right" (top 49) f fd) (hm : mg "_law_are_apart_right" = some (.ref f)) (d_have : Def P w K mg base 5 "have" (top 20) ["sources", "truth"] sp_have) (d_agreed : Def P w K mg base 5 "agreed" (top 24) ["sources", "many"] sp_agreed) (d_lots_right : Def P w K mg base 5 "lots_right" (top 27) ["sources"] sp_lots_right) (d_weighed : Def P w K mg base 5 "weighed" (top 33) ["sources", "weights", "enough"] sp_weighed) (d__law_take : Def P w K mg base 1 "_law_take" (top 39) ["pot", "upto"] sp__law_take) (d__law_of : Def P w K mg base 2 "_law_of" (top 40) ["pot", "some"] sp__law_of) (d__law_same : Def P w K mg base 1 "_law_same" (top 43) ["one", "other"] sp__law_same) (d__law_spans_of : Def P w K mg base 1 "_law_spans_of" (top 45) ["numbers"] sp__law_spans_of) (d__law_had_by : Def P w K mg base 1 "_law_had_by" (top 46) ["sources"] sp__law_had_by) (d__law_agreed : Def P w K mg base 2 "_law_agreed" (top 47) ["sources", "many"] sp__law_agreed) : Def P w K mg base 6 "_law_are_apart_right" (top 49) ["pot", "sources", "others"] sp__law_are_apart_right := by
  refine def_ok F hm sc__law_are_apart_right (by rintro ds m Q ⟨p, S, O, k, rfl, _⟩; rfl) (fun f cdv A outer s H E c => (db_cons (ds_set 3 c (dx_ty cb_tuple T.n_tuple bt_tuple (da_cons (dx_lc c (di_tup (dx_var 2)) (blkOk_by (own := [("low", 21), ("high", 22)]) (by first | decide +kernel | kernel_rfl)) (fun _ _ _ _ _ => (dg_tup (n := 2) (c.blk _ _ _ _ _) (dgs_cons (dg_name 21 (c.blk _ _ _ _ _)) (dgs_cons (dg_name 22 (c.blk _ _ _ _ _)) dgs_nil)))) (fun _ _ _ _ _ => dts_nil) (fun _ _ _ _ _ => (dx_tup (da_cons (dx_op ox_add (dx_var 21) dx_int) (da_cons (dx_op ox_add (dx_var 22) dx_int) da_nil))))) da_nil))) (db_cons (ds_set 4 c (dx_op ox_add (dx_var 1) (dx_var 3))) (db_cons (ds_asg (dx_tup (da_cons (dx_call d__law_had_by c (by decide) (da_cons (dx_var 1) da_nil) (fun _ _ _ _ _ _ us hl => match us, hl with | [_], _ => rfl)) (da_cons (dx_call d__law_had_by c (by decide) (da_cons (dx_var 2) da_nil) (fun _ _ _ _ _ _ us hl => match us, hl with | [_], _ => rfl)) da_nil))) (dg_tup (n := 2) c (dgs_cons (dg_name 5 c) (dgs_cons (dg_name 6 c) dgs_nil)))) (db_cons (ds_set 7 c (dx_lc c (di_tup (dx_tup (da_cons (dx_var 5) (da_cons (dx_var 6) da_nil)))) (blkOk_by (own := [("some", 23)]) (by first | decide +kernel | kernel_rfl)) (fun _ _ _ _ _ => (dg_name 23 (c.blk _ _ _ _ _))) (fun _ _ _ _ _ => dts_nil) (fun _ _ _ _ _ => (dx_bi (cb_max (c.blk _ _ _ _ _)) T.n_max bt_max (da_cons (dx_lc (c.blk _ _ _ _ _) (di_keys (dx_var 23)) (blkOk_by (own := [("number", 14)]) (by first | decide +kernel | kernel_rfl)) (fun _ _ _ _ _ => (dg_name 14 ((c.blk _ _ _ _ _).blk _ _ _ _ _))) (fun _ _ _ _ _ => dts_nil) (fun _ _ _ _ _ => (dx_dget ((c.blk _ _ _ _ _).blk _ _ _ _ _) (dx_var 23) (dx_var 14)))) da_nil))))) (db_cons (ds_for c PassesOwn.never (di_r2 (da_cons dx_int (da_cons (dx_op ox_add (dx_bi (cb_max c) T.n_max bt_max (da_cons (dx_var 7) da_nil)) dx_int) da_nil)) T.n_range) (dg_name 8 c) (db_cons (ds_if (dt_cmp ox_gt (dx_var 8) (dx_bi cb_len T.n_len bt_len (da_cons (dx_var 4) da_nil))) (db_cons ds_break db_nil) db_nil) (db_cons (ds_set 9 c (dx_ty cb_tuple T.n_tuple bt_tuple (da_cons (dx_lc c (di_tup (dx_call d__law_agreed c (by decide) (da_cons (dx_var 2) (da_cons (dx_var 8) da_nil)) (fun _ _ _ _ _ _ us hl => match us, hl with | [_, _], _ => rfl))) (blkOk_by (own := [("low", 21), ("high", 22)]) (by first | decide +kernel | kernel_rfl)) (fun _ _ _ _ _ => (dg_tup (n := 2) (c.blk _ _ _ _ _) (dgs_cons (dg_name 21 (c.blk _ _ _ _ _)) (dgs_cons (dg_name 22 (c.blk _ _ _ _ _)) dgs_nil)))) (fun _ _ _ _ _ => dts_nil) (fun _ _ _ _ _ => (dx_tup (da_cons (dx_op ox_add (dx_var 21) dx_int) (da_cons (dx_op ox_add (dx_var 22) dx_int) da_nil))))) da_nil))) (db_cons (ds_if (dt_not (dt_val (dx_call d__law_same c (by decide) (da_cons (dx_call d_agreed c (by decide) (da_cons (dx_var 4) (da_cons (dx_var 8) da_nil)) (fun _ _ _ _ _ _ us hl => match us, hl with | [_, _], _ => rfl)) (da_cons (dx_op ox_add (dx_call d__law_agreed c (by decide) (da_cons (dx_var 1) (da_cons (dx_var 8) da_nil)) (fun _ _ _ _ _ _ us hl => match us, hl with | [_, _], _ => rfl)) (dx_var 9)) da_nil)) (fun _ _ _ _ _ _ us hl => match us, hl with | [_, _], _ => rfl)))) (db_cons (ds_ret dx_bl) db_nil) db_nil) db_nil)))) (db_cons (ds_lc 10 c (di_keys (dx_var 5)) (blkOk_by (own := [("number", 14)]) (by first | decide +kernel | kernel_rfl)) (fun _ _ _ _ _ => (dg_name 14 (c.blk _ _ _ _ _))) (fun _ _ _ _ _ => (dts_one (dt_cmp (ox_eq (c.blk _ _ _ _ _)) (dx_dget (c.blk _ _ _ _ _) (dx_var 5) (dx_var 14)) (dx_bi (cb_max (c.blk _ _ _ _ _)) T.n_max bt_max (da_cons (dx_var 7) da_nil))))) (fun _ _ _ _ _ => (dx_var 14)) (by rfl)) (db_cons (ds_lc 11 c (di_list (dx_var 10)) (blkOk_by (own := [("number", 14)]) (by first | decide +kernel | kernel_rfl)) (fun _ _ _ _ _ => (dg_name 14 (c.blk _ _ _ _ _))) (fun _ _ _ _ _ => dts_nil) (fun _ _ _ _ _ => (dx_ty cb_tuple T.n_tuple bt_tuple (da_cons (dx_lc (c.blk _ _ _ _ _) (di_enT (da_cons (dx_var 1) da_nil) T.n_enumerate) (blkOk_by (own := [("at", 24), ("it", 20)]) (by first | decide +kernel | kernel_rfl)) (fun _ _ _ _ _ => (dg_tup (n := 2) ((c.blk _ _ _ _ _).blk _ _ _ _ _) (dgs_cons (dg_name 24 ((c.blk _ _ _ _ _).blk _ _ _ _ _)) (dgs_cons (dg_name 20 ((c.blk _ _ _ _ _).blk _ _ _ _ _)) dgs_nil)))) (fun _ _ _ _ _ => (dts_one (dt_chain ox_le ox_le (dx_ix (dx_var 20) dx_int) (dx_var 14) (dx_ix (dx_var 20) dx_int)))) (fun _ _ _ _ _ => (dx_var 24))) da_nil))) (by rfl)) (db_cons (ds_lc 12 c (di_keys (dx_var 6)) (blkOk_by (own := [("number", 14)]) (by first | decide +kernel | kernel_rfl)) (fun _ _ _ _ _ => (dg_name 14 (c.blk _ _ _ _ _))) (fun _ _ _ _ _ => (dts_one (dt_cmp (ox_eq (c.blk _ _ _ _ _)) (dx_dget (c.blk _ _ _ _ _) (dx_var 6) (dx_var 14)) (dx_bi (cb_max (c.blk _ _ _ _ _)) T.n_max bt_max (da_cons (dx_var 7) da_nil))))) (fun _ _ _ _ _ => (dx_var 14)) (by rfl)) (db_cons (ds_lc 13 c (di_list (dx_var 12)) (blkOk_by (own := [("number", 14)]) (by first | decide +kernel | kernel_rfl)) (fun _ _ _ _ _ => (dg_name 14 (c.blk _ _ _ _ _))) (fun _ _ _ _ _ => dts_nil) (fun _ _ _ _ _ => (dx_ty cb_tuple T.n_tuple bt_tuple (da_cons (dx_lc (c.blk _ _ _ _ _) (di_enT (da_cons (dx_var 2) da_nil) T.n_enumerate) (blkOk_by (own := [("at", 24), ("it", 20)]) (by first | decide +kernel | kernel_rfl)) (fun _ _ _ _ _ => (dg_tup (n := 2) ((c.blk _ _ _ _ _).blk _ _ _ _ _) (dgs_cons (dg_name 24 ((c.blk _ _ _ _ _).blk _ _ _ _ _)) (dgs_cons (dg_name 20 ((c.blk _ _ _ _ _).blk _ _ _ _ _)) dgs_nil)))) (fun _ _ _ _ _ => (dts_one (dt_chain ox_le ox_le (dx_ix (dx_var 20) dx_int) (dx_var 14) (dx_ix (dx_var 20) dx_int)))) (fun _ _ _ _ _ => (dx_op ox_add (dx_var 24) (dx_bi cb_len T.n_len bt_len (da_cons (dx_var 1) da_nil))))) da_nil))) (by rfl)) (db_cons (ds_if (dt_not (dt_val (dx_call d__law_same c (by decide) (da_cons (dx_call d_lots_right c (by decide) (da_cons (dx_var 4) da_nil) (fun _ _ _ _ _ _ us hl => match us, hl with | [_], _ => rfl)) (da_cons (dx_ty cb_tuple T.n_tuple bt_tuple (da_cons (dx_sortSetM c (da_cons (dx_op ox_add (dx_var 11) (dx_var 13)) da_nil) T.n_sorted bt_sorted T.n_set bt_set) da_nil)) da_nil)) (fun _ _ _ _ _ _ us hl => match us, hl with | [_, _], _ => rfl)))) (db_cons (ds_ret dx_bl) db_nil) db_nil) (db_cons (ds_set 14 c (dx_call d__law_of c (by decide) (da_cons (dx_var 0) (da_cons (dx_bi (cb_sortK c) T.n_sorted bt_sorted (da_cons (dx_var 5) da_nil)) da_nil)) (fun _ _ _ _ _ _ us hl => match us, hl with | [_, _], _ => rfl))) (db_cons (ds_if (dt_not (dt_val (dx_call d__law_same c (by decide) (da_cons (dx_call d_have c (by decide) (da_cons (dx_var 4) (da_cons (dx_var 14) da_nil)) (fun _ _ _ _ _ _ us hl => match us, hl with | [_, _], _ => rfl)) (da_cons (dx_ty cb_tuple T.n_tuple bt_tuple (da_cons (dx_lc c (di_enT (da_cons (dx_var 1) da_nil) T.n_enumerate) (blkOk_by (own := [("at", 24), ("it", 20)]) (by first | decide +kernel | kernel_rfl)) (fun _ _ _ _ _ => (dg_tup (n := 2) (c.blk _ _ _ _ _) (dgs_cons (dg_name 24 (c.blk _ _ _ _ _)) (dgs_cons (dg_name 20 (c.blk _ _ _ _ _)) dgs_nil)))) (fun _ _ _ _ _ => (dts_one (dt_chain ox_le ox_le (dx_ix (dx_var 20) dx_int) (dx_var 14) (dx_ix (dx_var 20) dx_int)))) (fun _ _ _ _ _ => (dx_var 24))) da_nil)) da_nil)) (fun _ _ _ _ _ _ us hl => match us, hl with | [_, _], _ => rfl)))) (db_cons (ds_ret dx_bl) db_nil) db_nil) (db_cons (ds_set 15 c (dx_ty cb_tuple T.n_tuple bt_tuple (da_cons (dx_lc c (di_tup (dx_var 4)) (blkOk_by (own := [("it", 20)]) (by first | decide +kernel | kernel_rfl)) (fun _ _ _ _ _ => (dg_name 20 (c.blk _ _ _ _ _))) (fun _ _ _ _ _ => dts_nil) (fun _ _ _ _ _ => (dx_call d__law_take (c.blk _ _ _ _ _) (by decide) (da_cons (dx_var 0) (da_cons dx_int da_nil)) (fun _ _ _ _ _ _ us hl => match us, hl with | [_, _], _ => rfl)))) da_nil))) (db_cons (ds_set 16 c (dx_op ox_add dx_int (dx_call d__law_take c (by decide) (da_cons (dx_var 0) (da_cons dx_int da_nil)) (fun _ _ _ _ _ _ us hl => match us, hl with | [_, _], _ => rfl)))) (db_cons (ds_set 17 c dx_dicC) (db_cons (ds_for c PassesOwn.never (di_zip (da_cons (dx_var 15) (da_cons (dx_var 4) da_nil)) T.n_zip) (dg_tup (n := 2) c (dgs_cons (dg_name 18 c) (dgs_cons (dg_name 19 c) dgs_nil))) (db_cons (ds_for c PassesOwn.never (di_r2 (da_cons (dx_ix (dx_var 19) dx_int) (da_cons (dx_op ox_add (dx_ix (dx_var 19) dx_int) dx_int) da_nil)) T.n_range) (dg_name 20 c) (db_cons (ds_dput c (dx_var 17) (dx_var 20) (dx_op ox_add (dx_dget2 c (dx_var 17) (dx_var 20) dx_int) (dx_var 18))) db_nil)) db_nil)) (db_cons (ds_frzD 17 (ds_ret (dx_call d__law_same c (by decide) (da_cons (dx_call d_weighed c (by decide) (da_cons (dx_var 4) (da_cons (dx_var 15) (da_cons (dx_var 16) da_nil))) (fun _ _ _ _ _ _ us hl => match us, hl with | [_, _, _], _ => rfl)) (da_cons (dx_call d__law_spans_of c (by decide) (da_cons (dx_lc c (di_keys (dx_var 17)) (blkOk_by (own := [("it", 20)]) (by first | decide +kernel | kernel_rfl)) (fun _ _ _ _ _ => (dg_name 20 (c.blk _ _ _ _ _))) (fun _ _ _ _ _ => (dts_one (dt_cmp ox_ge (dx_dget (c.blk _ _ _ _ _) (dx_var 17) (dx_var 20)) (dx_var 16)))) (fun _ _ _ _ _ => (dx_var 20))) da_nil) (fun _ _ _ _ _ _ us hl => match us, hl with | [_], _ => rfl)) da_nil)) (fun _ _ _ _ _ _ us hl => match us, hl with | [_, _], _ => rfl)))) db_nil)))))))))))))))))) ?_
  rintro ds m Q ⟨p, S, O, k, rfl, hS, hO, hk, hp, q⟩
  exact sem_apart hS hO hk hp fun m' h => ⟨m', MLe.refl m', q m' h⟩
end
end PG

namespace PG
open PySem PySem.Spec L2 PF
section
variable {P : Program} {w : World} {K : PySem.W.Frag} {mg : Str → Option Value} {base : Heap}
/-! _law_right -/
abbrev N__law_right : List Str := ["pot", "sources", "others"]
theorem sc__law_right : FnScope N__law_right ["pot"] (defScope (top 51)) := ⟨rfl, rfl, rfl, by decide +kernel, rfl, by decide +kernel, by decide +kernel⟩
theorem ok__law_right {f : Addr} {fd : FuncData} (T : Txt mg) (F : Fun K "_law_right" "_law_right" (top 51) f fd) (hm : mg "_law_right" = some (.ref f)) (d__law_take : Def P w K mg base 1 "_law_take" (top 39) ["pot", "upto"] sp__law_take) (d__law_sources : Def P w K mg base 3 "_law_sources" (top 44) ["pot", "many", "wide"] sp__law_sources) (d__law_are_times_right : Def P w K mg base 8 "_law_are_times_right" (top 48) ["pot", "sources", "times"] sp__law_are_times_right) (d__law_are_apart_right : Def P w K mg base 6 "_law_are_apart_right" (top 49) ["pot", "sources", "others"] sp__law_are_apart_right) (d__law_are_turned_right : Def P w K mg base 7 "_law_are_turned_right" (top 50) ["pot", "sources"] sp__law_are_turned_right) : Def P w K mg base 9 "_law_right" (top 51) ["pot"] sp__law_right := by
  refine def_ok F hm sc__law_right (by rintro ds m Q ⟨p, k, rfl, _⟩; rfl) (fun f cdv A outer s H E c => (db_cons (ds_par (i := 1) (j := 2) c (da_cons (dx_call d__law_sources c (by decide) (da_cons (dx_var 0) (da_cons dx_int (da_cons dx_int da_nil))) (fun _ _ _ _ _ _ us hl => match us, hl with | [_, _, _], _ => rfl)) (da_cons (dx_call d__law_sources c (by decide) (da_cons (dx_var 0) (da_cons dx_int (da_cons dx_int da_nil))) (fun _ _ _ _ _ _ us hl => match us, hl with | [_, _, _], _ => rfl)) da_nil)) rfl rfl (by decide) (by rfl) (by rfl) (by rfl)) (db_cons (ds_if (dt_w (dw_or (dt_not (dt_val (dx_call d__law_are_times_right c (by decide) (da_cons (dx_var 0) (da_cons (dx_var 1) (da_cons (dx_op ox_add dx_int (dx_call d__law_take c (by decide) (da_cons (dx_var 0) (da_cons dx_int da_nil)) (fun _ _ _ _ _ _ us hl => match us, hl with | [_, _], _ => rfl))) da_nil))) (fun _ _ _ _ _ _ us hl => match us, hl with | [_, _, _], _ => rfl)))) (dw_or1 (dt_not (dt_val (dx_call d__law_are_apart_right c (by decide) (da_cons (dx_var 0) (da_cons (dx_var 1) (da_cons (dx_var 2) da_nil))) (fun _ _ _ _ _ _ us hl => match us, hl with | [_, _, _], _ => rfl))))))) (db_cons (ds_ret dx_bl) db_nil) db_nil) (db_cons (ds_ret (dx_call d__law_are_turned_right c (by decide) (da_cons (dx_var 0) (da_cons (dx_var 1) da_nil)) (fun _ _ _ _ _ _ us hl => match us, hl with | [_, _], _ => rfl))) db_nil)))) ?_
  rintro ds m Q ⟨p, k, rfl, hk, hp, q⟩
  have hq : ∀ m', potAt m' p (k + 250) → ∃ m'', MLe m'' m' ∧ Q (D.bl true) m'' := fun m' h => ⟨m', MLe.refl m', q m' h⟩
  simp [startD, PySem.sizeLine_eq]
  refine i_sources k (by omega) (by omega) hp fun S c1 ⟨a1, a2, a3⟩ hc1 => ?_
  refine i_sources (k + 50) (by omega) (by omega) (potAt_upd hc1) fun O c2 ⟨b1, b2, b3⟩ hc2 => ?_
  try simp
  refine i_take (k + 100) (by omega) (by omega) (potAt_upd hc2) fun d c3 hd hc3 => ?_
  have e : (2 + d : Int) = ((2 + d.toNat : Nat) : Int) := by omega
  try simp
  rw [e]
  refine i_times (2 + d.toNat) (k + 101) ⟨a1, by omega, a3⟩ (by omega) (by omega) (potAt_upd hc3) fun m1 h1 => ?_
  try simp
  refine i_apart (k + 131) ⟨a1, by omega, a3⟩ ⟨b1, by omega, b3⟩ (by omega) h1 fun m2 h2 => ?_
  try simp
  exact i_turned (k + 161) ⟨a1, by omega, a3⟩ (by omega) h2 fun m3 h3 => hq m3 (h3.mono (by omega))
/-! law -/
abbrev N_law : List Str := ["script", "place", "pot", "lap"]
theorem sc_law : FnScope N_law ["script"] (defScope (top 52)) := ⟨rfl, rfl, rfl, by decide +kernel, rfl, by decide +kernel, by decide +kernel⟩
theorem ok_law {f : Addr} {fd : FuncData} (T : Txt mg) (F : Fun K "law" "law" (top 52) f fd) (hm : mg "law" = some (.ref f)) (d__law_pot : Def P w K mg base 1 "_law_pot" (top 38) ["script", "place", "salt"] sp__law_pot) (d__law_cells : Def P w K mg base 1 "_law_cells" (top 42) ["script", "limit"] sp__law_cells) (d__law_right : Def P w K mg base 9 "_law_right" (top 51) ["pot"] sp__law_right) : Def P w K mg base 10 "law" (top 52) ["script"] sp_law := by
  refine def_ok F hm sc_law (by rintro ds m Q ⟨ns, rfl, _⟩; rfl) (fun f cdv A outer s H E c => (db_cons (ds_for c PassesOwn.never (di_list (dx_call d__law_cells c (by decide) (da_cons (dx_var 0) (da_cons dx_int da_nil)) (fun _ _ _ _ _ _ us hl => match us, hl with | [_, _], _ => rfl))) (dg_name 1 c) (db_cons (ds_set 2 c (dx_call d__law_pot c (by decide) (da_cons (dx_var 0) (da_cons (dx_var 1) (da_cons dx_int da_nil))) (fun _ _ _ _ _ _ us hl => match us, hl with | [_, _, _], _ => rfl))) (db_cons (ds_if (dt_not (dt_val (dx_bi (cb_all c) T.n_all bt_all (da_cons (dx_lc c (di_r1 (da_cons dx_int da_nil) T.n_range) (blkOk_by (own := [("lap", 3)]) (by first | decide +kernel | kernel_rfl)) (fun _ _ _ _ _ => (dg_name 3 (c.blk _ _ _ _ _))) (fun _ _ _ _ _ => dts_nil) (fun _ _ _ _ _ => (dx_call d__law_right (c.blk _ _ _ _ _) (by decide) (da_cons (dx_var 2) da_nil) (fun _ _ _ _ _ _ us hl => match us, hl with | [_], _ => rfl)))) da_nil)))) (db_cons (ds_ret dx_bl) db_nil) db_nil) db_nil))) (db_cons (ds_ret dx_bl) db_nil))) ?_
  rintro ds m Q ⟨ns, rfl, hn, q⟩
  simp [startD, dFor, e_diL]
  refine i_cells (by omega) fun n hn2 => ?_
  simp
  refine for_ok (List.range n) (fun i : Nat => D.int (0 + (i : Int))) (fun pre ρ m' => ∃ x y z, ρ = [some (.frl (ns.map D.int)), x, y, z]) rfl ⟨none, none, none, rfl⟩ ?_ ?_
  · rintro pre x post ρ m1 hx ⟨a, b, c, rfl⟩ N hN
    have hr := range_at hx
    simp
    refine i_pot (by omega) (by omega) fun p c hp hc => ?_
    simp [e_diR1, dLc, wipeD, rngD, PySem.sizeLine_eq]
    show lcGo _ _ _ _ [D.int 0, D.int 1] _ _ _
    rw [lcGo_cons]
    simp
    refine i_rightT 0 (by omega) (potAt_upd hc) fun m2 h2 => ?_
    rw [lcGo_cons]
    simp
    refine i_rightT 250 (by omega) h2 fun m3 h3 => ?_
    show dcAll [.lst ([true, true].map D.bl)] m3 _
    rw [s_all]
    exact .inr ⟨rfl, hN _ _ ⟨_, _, _, rfl⟩⟩
  · rintro ρ m1 ⟨a, b, c, rfl⟩
    simp
    exact ⟨m1, MLe.refl m1, q m1⟩
end
end PG

/-! ### what the top has written, the head -/
namespace PG
open PySem PySem.Spec L2 PF
theorem all_mk {l : PySem.W.OpenLaw} {w : World} {K : PySem.W.Frag} {h : Heap} {mg : Str → Option Value} {fa : Addr} (X : K.In h) (G : h.Ns mainGlobals mg) (hfa : mg "law" = some (.ref fa))
    {f0 : Addr} {od0 an0 : Option Addr} {sl0 : Array (Option Value)} {oc0 kV0 dc0 pm0 cd0 ct0 : Value} (a0 : PySem.W.nsIn K mainGlobals "is_integer" = some (some (.ref f0))) (l0 : K.lookup f0 = some ⟨oc0, od0, .func (PySem.W.fnOf "is_integer" "is_integer" (defArgs (top 7)) (defBody (top 7)) (defScope (top 7)) .none kV0 dc0 pm0 an0 cd0 ct0), sl0⟩) (c0 : PySem.W.codeIn K cd0 "is_integer" = true) (k0 : PySem.W.keepIn K (.ref f0) = true)
    {f1 : Addr} {od1 an1 : Option Addr} {sl1 : Array (Option Value)} {oc1 kV1 dc1 pm1 cd1 ct1 : Value} (a1 : PySem.W.nsIn K mainGlobals "is_between" = some (some (.ref f1))) (l1 : K.lookup f1 = some ⟨oc1, od1, .func (PySem.W.fnOf "is_between" "is_between" (defArgs (top 8)) (defBody (top 8)) (defScope (top 8)) .none kV1 dc1 pm1 an1 cd1 ct1), sl1⟩) (c1 : PySem.W.codeIn K cd1 "is_between" = true) (k1 : PySem.W.keepIn K (.ref f1) = true)
    {f2 : Addr} {od2 an2 : Option Addr} {sl2 : Array (Option Value)} {oc2 kV2 dc2 pm2 cd2 ct2 : Value} (a2 : PySem.W.nsIn K mainGlobals "is_source" = some (some (.ref f2))) (l2 : K.lookup f2 = some ⟨oc2, od2, .func (PySem.W.fnOf "is_source" "is_source" (defArgs (top 16)) (defBody (top 16)) (defScope (top 16)) .none kV2 dc2 pm2 an2 cd2 ct2), sl2⟩) (c2 : PySem.W.codeIn K cd2 "is_source" = true) (k2 : PySem.W.keepIn K (.ref f2) = true)
    {f3 : Addr} {od3 an3 : Option Addr} {sl3 : Array (Option Value)} {oc3 kV3 dc3 pm3 cd3 ct3 : Value} (a3 : PySem.W.nsIn K mainGlobals "check_sources" = some (some (.ref f3))) (l3 : K.lookup f3 = some ⟨oc3, od3, .func (PySem.W.fnOf "check_sources" "check_sources" (defArgs (top 17)) (defBody (top 17)) (defScope (top 17)) .none kV3 dc3 pm3 an3 cd3 ct3), sl3⟩) (c3 : PySem.W.codeIn K cd3 "check_sources" = true) (k3 : PySem.W.keepIn K (.ref f3) = true)
    {f4 : Addr} {od4 an4 : Option Addr} {sl4 : Array (Option Value)} {oc4 kV4 dc4 pm4 cd4 ct4 : Value} (a4 : PySem.W.nsIn K mainGlobals "check_wrong" = some (some (.ref f4))) (l4 : K.lookup f4 = some ⟨oc4, od4, .func (PySem.W.fnOf "check_wrong" "check_wrong" (defArgs (top 18)) (defBody (top 18)) (defScope (top 18)) .none kV4 dc4 pm4 an4 cd4 ct4), sl4⟩) (c4 : PySem.W.codeIn K cd4 "check_wrong" = true) (k4 : PySem.W.keepIn K (.ref f4) = true)
    {f5 : Addr} {od5 an5 : Option Addr} {sl5 : Array (Option Value)} {oc5 kV5 dc5 pm5 cd5 ct5 : Value} (a5 : PySem.W.nsIn K mainGlobals "having" = some (some (.ref f5))) (l5 : K.lookup f5 = some ⟨oc5, od5, .func (PySem.W.fnOf "having" "having" (defArgs (top 19)) (defBody (top 19)) (defScope (top 19)) .none kV5 dc5 pm5 an5 cd5 ct5), sl5⟩) (c5 : PySem.W.codeIn K cd5 "having" = true) (k5 : PySem.W.keepIn K (.ref f5) = true)
    {f6 : Addr} {od6 an6 : Option Addr} {sl6 : Array (Option Value)} {oc6 kV6 dc6 pm6 cd6 ct6 : Value} (a6 : PySem.W.nsIn K mainGlobals "have" = some (some (.ref f6))) (l6 : K.lookup f6 = some ⟨oc6, od6, .func (PySem.W.fnOf "have" "have" (defArgs (top 20)) (defBody (top 20)) (defScope (top 20)) .none kV6 dc6 pm6 an6 cd6 ct6), sl6⟩) (c6 : PySem.W.codeIn K cd6 "have" = true) (k6 : PySem.W.keepIn K (.ref f6) = true)
    {f7 : Addr} {od7 an7 : Option Addr} {sl7 : Array (Option Value)} {oc7 kV7 dc7 pm7 cd7 ct7 : Value} (a7 : PySem.W.nsIn K mainGlobals "pieces_of" = some (some (.ref f7))) (l7 : K.lookup f7 = some ⟨oc7, od7, .func (PySem.W.fnOf "pieces_of" "pieces_of" (defArgs (top 21)) (defBody (top 21)) (defScope (top 21)) .none kV7 dc7 pm7 an7 cd7 ct7), sl7⟩) (c7 : PySem.W.codeIn K cd7 "pieces_of" = true) (k7 : PySem.W.keepIn K (.ref f7) = true)
    {f8 : Addr} {od8 an8 : Option Addr} {sl8 : Array (Option Value)} {oc8 kV8 dc8 pm8 cd8 ct8 : Value} (a8 : PySem.W.nsIn K mainGlobals "joined" = some (some (.ref f8))) (l8 : K.lookup f8 = some ⟨oc8, od8, .func (PySem.W.fnOf "joined" "joined" (defArgs (top 22)) (defBody (top 22)) (defScope (top 22)) .none kV8 dc8 pm8 an8 cd8 ct8), sl8⟩) (c8 : PySem.W.codeIn K cd8 "joined" = true) (k8 : PySem.W.keepIn K (.ref f8) = true)
    {f9 : Addr} {od9 an9 : Option Addr} {sl9 : Array (Option Value)} {oc9 kV9 dc9 pm9 cd9 ct9 : Value} (a9 : PySem.W.nsIn K mainGlobals "told_agreed" = some (some (.ref f9))) (l9 : K.lookup f9 = some ⟨oc9, od9, .func (PySem.W.fnOf "told_agreed" "told_agreed" (defArgs (top 23)) (defBody (top 23)) (defScope (top 23)) .none kV9 dc9 pm9 an9 cd9 ct9), sl9⟩) (c9 : PySem.W.codeIn K cd9 "told_agreed" = true) (k9 : PySem.W.keepIn K (.ref f9) = true)
    {f10 : Addr} {od10 an10 : Option Addr} {sl10 : Array (Option Value)} {oc10 kV10 dc10 pm10 cd10 ct10 : Value} (a10 : PySem.W.nsIn K mainGlobals "agreed" = some (some (.ref f10))) (l10 : K.lookup f10 = some ⟨oc10, od10, .func (PySem.W.fnOf "agreed" "agreed" (defArgs (top 24)) (defBody (top 24)) (defScope (top 24)) .none kV10 dc10 pm10 an10 cd10 ct10), sl10⟩) (c10 : PySem.W.codeIn K cd10 "agreed" = true) (k10 : PySem.W.keepIn K (.ref f10) = true)
    {f11 : Addr} {od11 an11 : Option Addr} {sl11 : Array (Option Value)} {oc11 kV11 dc11 pm11 cd11 ct11 : Value} (a11 : PySem.W.nsIn K mainGlobals "most_agreed" = some (some (.ref f11))) (l11 : K.lookup f11 = some ⟨oc11, od11, .func (PySem.W.fnOf "most_agreed" "most_agreed" (defArgs (top 25)) (defBody (top 25)) (defScope (top 25)) .none kV11 dc11 pm11 an11 cd11 ct11), sl11⟩) (c11 : PySem.W.codeIn K cd11 "most_agreed" = true) (k11 : PySem.W.keepIn K (.ref f11) = true)
    {f12 : Addr} {od12 an12 : Option Addr} {sl12 : Array (Option Value)} {oc12 kV12 dc12 pm12 cd12 ct12 : Value} (a12 : PySem.W.nsIn K mainGlobals "best_agreed" = some (some (.ref f12))) (l12 : K.lookup f12 = some ⟨oc12, od12, .func (PySem.W.fnOf "best_agreed" "best_agreed" (defArgs (top 26)) (defBody (top 26)) (defScope (top 26)) .none kV12 dc12 pm12 an12 cd12 ct12), sl12⟩) (c12 : PySem.W.codeIn K cd12 "best_agreed" = true) (k12 : PySem.W.keepIn K (.ref f12) = true)
    {f13 : Addr} {od13 an13 : Option Addr} {sl13 : Array (Option Value)} {oc13 kV13 dc13 pm13 cd13 ct13 : Value} (a13 : PySem.W.nsIn K mainGlobals "lots_right" = some (some (.ref f13))) (l13 : K.lookup f13 = some ⟨oc13, od13, .func (PySem.W.fnOf "lots_right" "lots_right" (defArgs (top 27)) (defBody (top 27)) (defScope (top 27)) .none kV13 dc13 pm13 an13 cd13 ct13), sl13⟩) (c13 : PySem.W.codeIn K cd13 "lots_right" = true) (k13 : PySem.W.keepIn K (.ref f13) = true)
    {f14 : Addr} {od14 an14 : Option Addr} {sl14 : Array (Option Value)} {oc14 kV14 dc14 pm14 cd14 ct14 : Value} (a14 : PySem.W.nsIn K mainGlobals "told_could" = some (some (.ref f14))) (l14 : K.lookup f14 = some ⟨oc14, od14, .func (PySem.W.fnOf "told_could" "told_could" (defArgs (top 28)) (defBody (top 28)) (defScope (top 28)) .none kV14 dc14 pm14 an14 cd14 ct14), sl14⟩) (c14 : PySem.W.codeIn K cd14 "told_could" = true) (k14 : PySem.W.keepIn K (.ref f14) = true)
    {f15 : Addr} {od15 an15 : Option Addr} {sl15 : Array (Option Value)} {oc15 kV15 dc15 pm15 cd15 ct15 : Value} (a15 : PySem.W.nsIn K mainGlobals "truth_spans" = some (some (.ref f15))) (l15 : K.lookup f15 = some ⟨oc15, od15, .func (PySem.W.fnOf "truth_spans" "truth_spans" (defArgs (top 29)) (defBody (top 29)) (defScope (top 29)) .none kV15 dc15 pm15 an15 cd15 ct15), sl15⟩) (c15 : PySem.W.codeIn K cd15 "truth_spans" = true) (k15 : PySem.W.keepIn K (.ref f15) = true)
    {f16 : Addr} {od16 an16 : Option Addr} {sl16 : Array (Option Value)} {oc16 kV16 dc16 pm16 cd16 ct16 : Value} (a16 : PySem.W.nsIn K mainGlobals "spans_if" = some (some (.ref f16))) (l16 : K.lookup f16 = some ⟨oc16, od16, .func (PySem.W.fnOf "spans_if" "spans_if" (defArgs (top 30)) (defBody (top 30)) (defScope (top 30)) .none kV16 dc16 pm16 an16 cd16 ct16), sl16⟩) (c16 : PySem.W.codeIn K cd16 "spans_if" = true) (k16 : PySem.W.keepIn K (.ref f16) = true)
    {f17 : Addr} {od17 an17 : Option Addr} {sl17 : Array (Option Value)} {oc17 kV17 dc17 pm17 cd17 ct17 : Value} (a17 : PySem.W.nsIn K mainGlobals "surely_right" = some (some (.ref f17))) (l17 : K.lookup f17 = some ⟨oc17, od17, .func (PySem.W.fnOf "surely_right" "surely_right" (defArgs (top 31)) (defBody (top 31)) (defScope (top 31)) .none kV17 dc17 pm17 an17 cd17 ct17), sl17⟩) (c17 : PySem.W.codeIn K cd17 "surely_right" = true) (k17 : PySem.W.keepIn K (.ref f17) = true)
    {f18 : Addr} {od18 an18 : Option Addr} {sl18 : Array (Option Value)} {oc18 kV18 dc18 pm18 cd18 ct18 : Value} (a18 : PySem.W.nsIn K mainGlobals "surely_wrong" = some (some (.ref f18))) (l18 : K.lookup f18 = some ⟨oc18, od18, .func (PySem.W.fnOf "surely_wrong" "surely_wrong" (defArgs (top 32)) (defBody (top 32)) (defScope (top 32)) .none kV18 dc18 pm18 an18 cd18 ct18), sl18⟩) (c18 : PySem.W.codeIn K cd18 "surely_wrong" = true) (k18 : PySem.W.keepIn K (.ref f18) = true)
    {f19 : Addr} {od19 an19 : Option Addr} {sl19 : Array (Option Value)} {oc19 kV19 dc19 pm19 cd19 ct19 : Value} (a19 : PySem.W.nsIn K mainGlobals "weighed" = some (some (.ref f19))) (l19 : K.lookup f19 = some ⟨oc19, od19, .func (PySem.W.fnOf "weighed" "weighed" (defArgs (top 33)) (defBody (top 33)) (defScope (top 33)) .none kV19 dc19 pm19 an19 cd19 ct19), sl19⟩) (c19 : PySem.W.codeIn K cd19 "weighed" = true) (k19 : PySem.W.keepIn K (.ref f19) = true)
    {f20 : Addr} {od20 an20 : Option Addr} {sl20 : Array (Option Value)} {oc20 kV20 dc20 pm20 cd20 ct20 : Value} (a20 : PySem.W.nsIn K mainGlobals "trimmed" = some (some (.ref f20))) (l20 : K.lookup f20 = some ⟨oc20, od20, .func (PySem.W.fnOf "trimmed" "trimmed" (defArgs (top 35)) (defBody (top 35)) (defScope (top 35)) .none kV20 dc20 pm20 an20 cd20 ct20), sl20⟩) (c20 : PySem.W.codeIn K cd20 "trimmed" = true) (k20 : PySem.W.keepIn K (.ref f20) = true)
    {f21 : Addr} {od21 an21 : Option Addr} {sl21 : Array (Option Value)} {oc21 kV21 dc21 pm21 cd21 ct21 : Value} (a21 : PySem.W.nsIn K mainGlobals "hull" = some (some (.ref f21))) (l21 : K.lookup f21 = some ⟨oc21, od21, .func (PySem.W.fnOf "hull" "hull" (defArgs (top 36)) (defBody (top 36)) (defScope (top 36)) .none kV21 dc21 pm21 an21 cd21 ct21), sl21⟩) (c21 : PySem.W.codeIn K cd21 "hull" = true) (k21 : PySem.W.keepIn K (.ref f21) = true)
    {f22 : Addr} {od22 an22 : Option Addr} {sl22 : Array (Option Value)} {oc22 kV22 dc22 pm22 cd22 ct22 : Value} (a22 : PySem.W.nsIn K mainGlobals "_law_pot" = some (some (.ref f22))) (l22 : K.lookup f22 = some ⟨oc22, od22, .func (PySem.W.fnOf "_law_pot" "_law_pot" (defArgs (top 38)) (defBody (top 38)) (defScope (top 38)) .none kV22 dc22 pm22 an22 cd22 ct22), sl22⟩) (c22 : PySem.W.codeIn K cd22 "_law_pot" = true) (k22 : PySem.W.keepIn K (.ref f22) = true)
    {f23 : Addr} {od23 an23 : Option Addr} {sl23 : Array (Option Value)} {oc23 kV23 dc23 pm23 cd23 ct23 : Value} (a23 : PySem.W.nsIn K mainGlobals "_law_take" = some (some (.ref f23))) (l23 : K.lookup f23 = some ⟨oc23, od23, .func (PySem.W.fnOf "_law_take" "_law_take" (defArgs (top 39)) (defBody (top 39)) (defScope (top 39)) .none kV23 dc23 pm23 an23 cd23 ct23), sl23⟩) (c23 : PySem.W.codeIn K cd23 "_law_take" = true) (k23 : PySem.W.keepIn K (.ref f23) = true)
    {f24 : Addr} {od24 an24 : Option Addr} {sl24 : Array (Option Value)} {oc24 kV24 dc24 pm24 cd24 ct24 : Value} (a24 : PySem.W.nsIn K mainGlobals "_law_of" = some (some (.ref f24))) (l24 : K.lookup f24 = some ⟨oc24, od24, .func (PySem.W.fnOf "_law_of" "_law_of" (defArgs (top 40)) (defBody (top 40)) (defScope (top 40)) .none kV24 dc24 pm24 an24 cd24 ct24), sl24⟩) (c24 : PySem.W.codeIn K cd24 "_law_of" = true) (k24 : PySem.W.keepIn K (.ref f24) = true)
    {f25 : Addr} {od25 an25 : Option Addr} {sl25 : Array (Option Value)} {oc25 kV25 dc25 pm25 cd25 ct25 : Value} (a25 : PySem.W.nsIn K mainGlobals "_law_some" = some (some (.ref f25))) (l25 : K.lookup f25 = some ⟨oc25, od25, .func (PySem.W.fnOf "_law_some" "_law_some" (defArgs (top 41)) (defBody (top 41)) (defScope (top 41)) .none kV25 dc25 pm25 an25 cd25 ct25), sl25⟩) (c25 : PySem.W.codeIn K cd25 "_law_some" = true) (k25 : PySem.W.keepIn K (.ref f25) = true)
    {f26 : Addr} {od26 an26 : Option Addr} {sl26 : Array (Option Value)} {oc26 kV26 dc26 pm26 cd26 ct26 : Value} (a26 : PySem.W.nsIn K mainGlobals "_law_cells" = some (some (.ref f26))) (l26 : K.lookup f26 = some ⟨oc26, od26, .func (PySem.W.fnOf "_law_cells" "_law_cells" (defArgs (top 42)) (defBody (top 42)) (defScope (top 42)) .none kV26 dc26 pm26 an26 cd26 ct26), sl26⟩) (c26 : PySem.W.codeIn K cd26 "_law_cells" = true) (k26 : PySem.W.keepIn K (.ref f26) = true)
    {f27 : Addr} {od27 an27 : Option Addr} {sl27 : Array (Option Value)} {oc27 kV27 dc27 pm27 cd27 ct27 : Value} (a27 : PySem.W.nsIn K mainGlobals "_law_same" = some (some (.ref f27))) (l27 : K.lookup f27 = some ⟨oc27, od27, .func (PySem.W.fnOf "_law_same" "_law_same" (defArgs (top 43)) (defBody (top 43)) (defScope (top 43)) .none kV27 dc27 pm27 an27 cd27 ct27), sl27⟩) (c27 : PySem.W.codeIn K cd27 "_law_same" = true) (k27 : PySem.W.keepIn K (.ref f27) = true)
    {f28 : Addr} {od28 an28 : Option Addr} {sl28 : Array (Option Value)} {oc28 kV28 dc28 pm28 cd28 ct28 : Value} (a28 : PySem.W.nsIn K mainGlobals "_law_sources" = some (some (.ref f28))) (l28 : K.lookup f28 = some ⟨oc28, od28, .func (PySem.W.fnOf "_law_sources" "_law_sources" (defArgs (top 44)) (defBody (top 44)) (defScope (top 44)) .none kV28 dc28 pm28 an28 cd28 ct28), sl28⟩) (c28 : PySem.W.codeIn K cd28 "_law_sources" = true) (k28 : PySem.W.keepIn K (.ref f28) = true)
    {f29 : Addr} {od29 an29 : Option Addr} {sl29 : Array (Option Value)} {oc29 kV29 dc29 pm29 cd29 ct29 : Value} (a29 : PySem.W.nsIn K mainGlobals "_law_spans_of" = some (some (.ref f29))) (l29 : K.lookup f29 = some ⟨oc29, od29, .func (PySem.W.fnOf "_law_spans_of" "_law_spans_of" (defArgs (top 45)) (defBody (top 45)) (defScope (top 45)) .none kV29 dc29 pm29 an29 cd29 ct29), sl29⟩) (c29 : PySem.W.codeIn K cd29 "_law_spans_of" = true) (k29 : PySem.W.keepIn K (.ref f29) = true)
    {f30 : Addr} {od30 an30 : Option Addr} {sl30 : Array (Option Value)} {oc30 kV30 dc30 pm30 cd30 ct30 : Value} (a30 : PySem.W.nsIn K mainGlobals "_law_had_by" = some (some (.ref f30))) (l30 : K.lookup f30 = some ⟨oc30, od30, .func (PySem.W.fnOf "_law_had_by" "_law_had_by" (defArgs (top 46)) (defBody (top 46)) (defScope (top 46)) .none kV30 dc30 pm30 an30 cd30 ct30), sl30⟩) (c30 : PySem.W.codeIn K cd30 "_law_had_by" = true) (k30 : PySem.W.keepIn K (.ref f30) = true)
    {f31 : Addr} {od31 an31 : Option Addr} {sl31 : Array (Option Value)} {oc31 kV31 dc31 pm31 cd31 ct31 : Value} (a31 : PySem.W.nsIn K mainGlobals "_law_agreed" = some (some (.ref f31))) (l31 : K.lookup f31 = some ⟨oc31, od31, .func (PySem.W.fnOf "_law_agreed" "_law_agreed" (defArgs (top 47)) (defBody (top 47)) (defScope (top 47)) .none kV31 dc31 pm31 an31 cd31 ct31), sl31⟩) (c31 : PySem.W.codeIn K cd31 "_law_agreed" = true) (k31 : PySem.W.keepIn K (.ref f31) = true)
    {f32 : Addr} {od32 an32 : Option Addr} {sl32 : Array (Option Value)} {oc32 kV32 dc32 pm32 cd32 ct32 : Value} (a32 : PySem.W.nsIn K mainGlobals "_law_are_times_right" = some (some (.ref f32))) (l32 : K.lookup f32 = some ⟨oc32, od32, .func (PySem.W.fnOf "_law_are_times_right" "_law_are_times_right" (defArgs (top 48)) (defBody (top 48)) (defScope (top 48)) .none kV32 dc32 pm32 an32 cd32 ct32), sl32⟩) (c32 : PySem.W.codeIn K cd32 "_law_are_times_right" = true) (k32 : PySem.W.keepIn K (.ref f32) = true)
    {f33 : Addr} {od33 an33 : Option Addr} {sl33 : Array (Option Value)} {oc33 kV33 dc33 pm33 cd33 ct33 : Value} (a33 : PySem.W.nsIn K mainGlobals "_law_are_apart_right" = some (some (.ref f33))) (l33 : K.lookup f33 = some ⟨oc33, od33, .func (PySem.W.fnOf "_law_are_apart_right" "_law_are_apart_right" (defArgs (top 49)) (defBody (top 49)) (defScope (top 49)) .none kV33 dc33 pm33 an33 cd33 ct33), sl33⟩) (c33 : PySem.W.codeIn K cd33 "_law_are_apart_right" = true) (k33 : PySem.W.keepIn K (.ref f33) = true)
    {f34 : Addr} {od34 an34 : Option Addr} {sl34 : Array (Option Value)} {oc34 kV34 dc34 pm34 cd34 ct34 : Value} (a34 : PySem.W.nsIn K mainGlobals "_law_are_turned_right" = some (some (.ref f34))) (l34 : K.lookup f34 = some ⟨oc34, od34, .func (PySem.W.fnOf "_law_are_turned_right" "_law_are_turned_right" (defArgs (top 50)) (defBody (top 50)) (defScope (top 50)) .none kV34 dc34 pm34 an34 cd34 ct34), sl34⟩) (c34 : PySem.W.codeIn K cd34 "_law_are_turned_right" = true) (k34 : PySem.W.keepIn K (.ref f34) = true)
    {f35 : Addr} {od35 an35 : Option Addr} {sl35 : Array (Option Value)} {oc35 kV35 dc35 pm35 cd35 ct35 : Value} (a35 : PySem.W.nsIn K mainGlobals "_law_right" = some (some (.ref f35))) (l35 : K.lookup f35 = some ⟨oc35, od35, .func (PySem.W.fnOf "_law_right" "_law_right" (defArgs (top 51)) (defBody (top 51)) (defScope (top 51)) .none kV35 dc35 pm35 an35 cd35 ct35), sl35⟩) (c35 : PySem.W.codeIn K cd35 "_law_right" = true) (k35 : PySem.W.keepIn K (.ref f35) = true)
    {f36 : Addr} {od36 an36 : Option Addr} {sl36 : Array (Option Value)} {oc36 kV36 dc36 pm36 cd36 ct36 : Value} (a36 : PySem.W.nsIn K mainGlobals "law" = some (some (.ref f36))) (l36 : K.lookup f36 = some ⟨oc36, od36, .func (PySem.W.fnOf "law" "law" (defArgs (top 52)) (defBody (top 52)) (defScope (top 52)) .none kV36 dc36 pm36 an36 cd36 ct36), sl36⟩) (c36 : PySem.W.codeIn K cd36 "law" = true) (k36 : PySem.W.keepIn K (.ref f36) = true)
    (z_abs : PySem.W.nsIn K mainGlobals "abs" = some none)
    (z_all : PySem.W.nsIn K mainGlobals "all" = some none)
    (z_any : PySem.W.nsIn K mainGlobals "any" = some none)
    (z_bool : PySem.W.nsIn K mainGlobals "bool" = some none)
    (z_enumerate : PySem.W.nsIn K mainGlobals "enumerate" = some none)
    (z_int : PySem.W.nsIn K mainGlobals "int" = some none)
    (z_isinstance : PySem.W.nsIn K mainGlobals "isinstance" = some none)
    (z_len : PySem.W.nsIn K mainGlobals "len" = some none)
    (z_list : PySem.W.nsIn K mainGlobals "list" = some none)
    (z_max : PySem.W.nsIn K mainGlobals "max" = some none)
    (z_min : PySem.W.nsIn K mainGlobals "min" = some none)
    (z_range : PySem.W.nsIn K mainGlobals "range" = some none)
    (z_repr : PySem.W.nsIn K mainGlobals "repr" = some none)
    (z_set : PySem.W.nsIn K mainGlobals "set" = some none)
    (z_sorted : PySem.W.nsIn K mainGlobals "sorted" = some none)
    (z_sum : PySem.W.nsIn K mainGlobals "sum" = some none)
    (z_tuple : PySem.W.nsIn K mainGlobals "tuple" = some none)
    (z_zip : PySem.W.nsIn K mainGlobals "zip" = some none)
    {t_MOST_SOURCES : Tok} (g_MOST_SOURCES : PySem.W.nsIn K mainGlobals "MOST_SOURCES" = some (some (.int 20 t_MOST_SOURCES)))
    {t_MOST_FAR : Tok} (g_MOST_FAR : PySem.W.nsIn K mainGlobals "MOST_FAR" = some (some (.int 99999 t_MOST_FAR)))
    {t_MOST_TRUTH : Tok} (g_MOST_TRUTH : PySem.W.nsIn K mainGlobals "MOST_TRUTH" = some (some (.int 199998 t_MOST_TRUTH)))
    {t_MOST_WEIGHT : Tok} (g_MOST_WEIGHT : PySem.W.nsIn K mainGlobals "MOST_WEIGHT" = some (some (.int 99 t_MOST_WEIGHT)))
    {t_SPANS : Tok} (g_SPANS : PySem.W.nsIn K mainGlobals "SPANS" = some (some (.str "spans" t_SPANS)))
    {t_MORE : Tok} (g_MORE : PySem.W.nsIn K mainGlobals "MORE" = some (some (.str "more" t_MORE)))
    : ∀ base : Heap, K.In base → base.Ns mainGlobals mg → ∃ fd : FuncData, (∀ (s : Shared) (v : Value), BindsTo s fd ⟨[v], []⟩ [("script", v)]) ∧ FnG l.prog w K mg base 10 fa fd ["script"] (spOf sp_law) := by
  have e := hfa.symm.trans (PySem.W.mg_of X G a36)
  cases e
  have T : Txt mg := ⟨PySem.W.mg_none_of X G z_abs, PySem.W.mg_none_of X G z_all, PySem.W.mg_none_of X G z_any, PySem.W.mg_none_of X G z_bool, PySem.W.mg_none_of X G z_enumerate, PySem.W.mg_none_of X G z_int, PySem.W.mg_none_of X G z_isinstance, PySem.W.mg_none_of X G z_len, PySem.W.mg_none_of X G z_list, PySem.W.mg_none_of X G z_max, PySem.W.mg_none_of X G z_min, PySem.W.mg_none_of X G z_range, PySem.W.mg_none_of X G z_repr, PySem.W.mg_none_of X G z_set, PySem.W.mg_none_of X G z_sorted, PySem.W.mg_none_of X G z_sum, PySem.W.mg_none_of X G z_tuple, PySem.W.mg_none_of X G z_zip, ⟨_, PySem.W.mg_of X G g_MOST_SOURCES⟩, ⟨_, PySem.W.mg_of X G g_MOST_FAR⟩, ⟨_, PySem.W.mg_of X G g_MOST_TRUTH⟩, ⟨_, PySem.W.mg_of X G g_MOST_WEIGHT⟩, ⟨_, PySem.W.mg_of X G g_SPANS⟩, ⟨_, PySem.W.mg_of X G g_MORE⟩⟩
  have F0 := fun_mk (st := top 7) l0 c0 k0
  have F1 := fun_mk (st := top 8) l1 c1 k1
  have F2 := fun_mk (st := top 16) l2 c2 k2
  have F3 := fun_mk (st := top 17) l3 c3 k3
  have F4 := fun_mk (st := top 18) l4 c4 k4
  have F5 := fun_mk (st := top 19) l5 c5 k5
  have F6 := fun_mk (st := top 20) l6 c6 k6
  have F7 := fun_mk (st := top 21) l7 c7 k7
  have F8 := fun_mk (st := top 22) l8 c8 k8
  have F9 := fun_mk (st := top 23) l9 c9 k9
  have F10 := fun_mk (st := top 24) l10 c10 k10
  have F11 := fun_mk (st := top 25) l11 c11 k11
  have F12 := fun_mk (st := top 26) l12 c12 k12
  have F13 := fun_mk (st := top 27) l13 c13 k13
  have F14 := fun_mk (st := top 28) l14 c14 k14
  have F15 := fun_mk (st := top 29) l15 c15 k15
  have F16 := fun_mk (st := top 30) l16 c16 k16
  have F17 := fun_mk (st := top 31) l17 c17 k17
  have F18 := fun_mk (st := top 32) l18 c18 k18
  have F19 := fun_mk (st := top 33) l19 c19 k19
  have F20 := fun_mk (st := top 35) l20 c20 k20
  have F21 := fun_mk (st := top 36) l21 c21 k21
  have F22 := fun_mk (st := top 38) l22 c22 k22
  have F23 := fun_mk (st := top 39) l23 c23 k23
  have F24 := fun_mk (st := top 40) l24 c24 k24
  have F25 := fun_mk (st := top 41) l25 c25 k25
  have F26 := fun_mk (st := top 42) l26 c26 k26
  have F27 := fun_mk (st := top 43) l27 c27 k27
  have F28 := fun_mk (st := top 44) l28 c28 k28
  have F29 := fun_mk (st := top 45) l29 c29 k29
  have F30 := fun_mk (st := top 46) l30 c30 k30
  have F31 := fun_mk (st := top 47) l31 c31 k31
  have F32 := fun_mk (st := top 48) l32 c32 k32
  have F33 := fun_mk (st := top 49) l33 c33 k33
  have F34 := fun_mk (st := top 50) l34 c34 k34
  have F35 := fun_mk (st := top 51) l35 c35 k35
  have F36 := fun_mk (st := top 52) l36 c36 k36
  intro base _ _
  have d_is_integer := ok_is_integer (P := l.prog) (w := w) (base := base) T F0 (PySem.W.mg_of X G a0)
  have d_is_between := ok_is_between (P := l.prog) (w := w) (base := base) T F1 (PySem.W.mg_of X G a1) d_is_integer
  have d_is_source := ok_is_source (P := l.prog) (w := w) (base := base) T F2 (PySem.W.mg_of X G a2) d_is_between
  have d_check_sources := ok_check_sources (P := l.prog) (w := w) (base := base) T F3 (PySem.W.mg_of X G a3) d_is_source
  have d_check_wrong := ok_check_wrong (P := l.prog) (w := w) (base := base) T F4 (PySem.W.mg_of X G a4) d_is_between d_check_sources
  have d_having := ok_having (P := l.prog) (w := w) (base := base) T F5 (PySem.W.mg_of X G a5)
  have d_have := ok_have (P := l.prog) (w := w) (base := base) T F6 (PySem.W.mg_of X G a6) d_is_between d_check_sources d_having
  have d_pieces_of := ok_pieces_of (P := l.prog) (w := w) (base := base) T F7 (PySem.W.mg_of X G a7) d_having
  have d_joined := ok_joined (P := l.prog) (w := w) (base := base) T F8 (PySem.W.mg_of X G a8)
  have d_told_agreed := ok_told_agreed (P := l.prog) (w := w) (base := base) T F9 (PySem.W.mg_of X G a9) d_pieces_of d_joined
  have d_agreed := ok_agreed (P := l.prog) (w := w) (base := base) T F10 (PySem.W.mg_of X G a10) d_is_between d_check_sources d_told_agreed
  have d_most_agreed := ok_most_agreed (P := l.prog) (w := w) (base := base) T F11 (PySem.W.mg_of X G a11) d_pieces_of
  have d_best_agreed := ok_best_agreed (P := l.prog) (w := w) (base := base) T F12 (PySem.W.mg_of X G a12) d_check_sources d_told_agreed d_most_agreed
  have d_lots_right := ok_lots_right (P := l.prog) (w := w) (base := base) T F13 (PySem.W.mg_of X G a13) d_check_sources d_pieces_of d_most_agreed
  have d_told_could := ok_told_could (P := l.prog) (w := w) (base := base) T F14 (PySem.W.mg_of X G a14) d_told_agreed d_most_agreed
  have d_truth_spans := ok_truth_spans (P := l.prog) (w := w) (base := base) T F15 (PySem.W.mg_of X G a15) d_check_wrong d_told_could
  have d_spans_if := ok_spans_if (P := l.prog) (w := w) (base := base) T F16 (PySem.W.mg_of X G a16) d_check_wrong d_told_could
  have d_surely_right := ok_surely_right (P := l.prog) (w := w) (base := base) T F17 (PySem.W.mg_of X G a17) d_spans_if
  have d_surely_wrong := ok_surely_wrong (P := l.prog) (w := w) (base := base) T F18 (PySem.W.mg_of X G a18) d_spans_if
  have d_weighed := ok_weighed (P := l.prog) (w := w) (base := base) T F19 (PySem.W.mg_of X G a19) d_is_between d_check_sources d_pieces_of d_joined
  have d_trimmed := ok_trimmed (P := l.prog) (w := w) (base := base) T F20 (PySem.W.mg_of X G a20) d_check_wrong
  have d_hull := ok_hull (P := l.prog) (w := w) (base := base) T F21 (PySem.W.mg_of X G a21) d_spans_if
  have d__law_pot := ok__law_pot (P := l.prog) (w := w) (base := base) T F22 (PySem.W.mg_of X G a22)
  have d__law_take := ok__law_take (P := l.prog) (w := w) (base := base) T F23 (PySem.W.mg_of X G a23)
  have d__law_of := ok__law_of (P := l.prog) (w := w) (base := base) T F24 (PySem.W.mg_of X G a24) d__law_take
  have d__law_some := ok__law_some (P := l.prog) (w := w) (base := base) T F25 (PySem.W.mg_of X G a25) d__law_take
  have d__law_cells := ok__law_cells (P := l.prog) (w := w) (base := base) T F26 (PySem.W.mg_of X G a26)
  have d__law_same := ok__law_same (P := l.prog) (w := w) (base := base) T F27 (PySem.W.mg_of X G a27)
  have d__law_sources := ok__law_sources (P := l.prog) (w := w) (base := base) T F28 (PySem.W.mg_of X G a28) d__law_take d__law_of
  have d__law_spans_of := ok__law_spans_of (P := l.prog) (w := w) (base := base) T F29 (PySem.W.mg_of X G a29)
  have d__law_had_by := ok__law_had_by (P := l.prog) (w := w) (base := base) T F30 (PySem.W.mg_of X G a30)
  have d__law_agreed := ok__law_agreed (P := l.prog) (w := w) (base := base) T F31 (PySem.W.mg_of X G a31) d__law_spans_of d__law_had_by
  have d__law_are_times_right := ok__law_are_times_right (P := l.prog) (w := w) (base := base) T F32 (PySem.W.mg_of X G a32) d_agreed d_best_agreed d_truth_spans d_surely_right d_surely_wrong d_hull d__law_take d__law_same d__law_had_by d__law_agreed
  have d__law_are_apart_right := ok__law_are_apart_right (P := l.prog) (w := w) (base := base) T F33 (PySem.W.mg_of X G a33) d_have d_agreed d_lots_right d_weighed d__law_take d__law_of d__law_same d__law_spans_of d__law_had_by d__law_agreed
  have d__law_are_turned_right := ok__law_are_turned_right (P := l.prog) (w := w) (base := base) T F34 (PySem.W.mg_of X G a34) d_agreed d_trimmed d__law_take d__law_some d__law_same d__law_agreed
  have d__law_right := ok__law_right (P := l.prog) (w := w) (base := base) T F35 (PySem.W.mg_of X G a35) d__law_take d__law_sources d__law_are_times_right d__law_are_apart_right d__law_are_turned_right
  have d_law := ok_law (P := l.prog) (w := w) (base := base) T F36 (PySem.W.mg_of X G a36) d__law_pot d__law_cells d__law_right
  exact fn_of_def d_law (PySem.W.mg_of X G a36) fun _ _ _ _ _ _ u => rfl
end PG

open PySem PySem.W PyProof.Rows in
set_option maxRecDepth 100000 in
set_option maxHeartbeats 0 in
theorem PySem.Challenge.cw_surelyahead_k40_whole_sources_twice_and_holds : PySem.Challenge.rw_surelyahead_k40_whole_sources_twice_and.Holds := by
  w_on; o_law; k_head; (case hw => w_witness2)
  k_fill
  refine PF.walk_ofG (n := 63) (k := 10) (x := "script") (l := PySem.Challenge.rw_surelyahead_k40_whole_sources_twice_and) rfl (by decide) rfl ⟨rfl, by decide, by decide⟩ (fun w h Y => PySem.W.kIn_of Y) ?nl ?F
  case nl => intro w; kernel_rfl
  case F =>
    intro w mg fa h KX G hmg
    refine' PG.all_mk KX G hmg ?a0 ?l0 ?c0 ?k0 ?a1 ?l1 ?c1 ?k1 ?a2 ?l2 ?c2 ?k2 ?a3 ?l3 ?c3 ?k3 ?a4 ?l4 ?c4 ?k4 ?a5 ?l5 ?c5 ?k5 ?a6 ?l6 ?c6 ?k6 ?a7 ?l7 ?c7 ?k7 ?a8 ?l8 ?c8 ?k8 ?a9 ?l9 ?c9 ?k9 ?a10 ?l10 ?c10 ?k10 ?a11 ?l11 ?c11 ?k11 ?a12 ?l12 ?c12 ?k12 ?a13 ?l13 ?c13 ?k13 ?a14 ?l14 ?c14 ?k14 ?a15 ?l15 ?c15 ?k15 ?a16 ?l16 ?c16 ?k16 ?a17 ?l17 ?c17 ?k17 ?a18 ?l18 ?c18 ?k18 ?a19 ?l19 ?c19 ?k19 ?a20 ?l20 ?c20 ?k20 ?a21 ?l21 ?c21 ?k21 ?a22 ?l22 ?c22 ?k22 ?a23 ?l23 ?c23 ?k23 ?a24 ?l24 ?c24 ?k24 ?a25 ?l25 ?c25 ?k25 ?a26 ?l26 ?c26 ?k26 ?a27 ?l27 ?c27 ?k27 ?a28 ?l28 ?c28 ?k28 ?a29 ?l29 ?c29 ?k29 ?a30 ?l30 ?c30 ?k30 ?a31 ?l31 ?c31 ?k31 ?a32 ?l32 ?c32 ?k32 ?a33 ?l33 ?c33 ?k33 ?a34 ?l34 ?c34 ?k34 ?a35 ?l35 ?c35 ?k35 ?a36 ?l36 ?c36 ?k36 ?z_abs ?z_all ?z_any ?z_bool ?z_enumerate ?z_int ?z_isinstance ?z_len ?z_list ?z_max ?z_min ?z_range ?z_repr ?z_set ?z_sorted ?z_sum ?z_tuple ?z_zip ?g_MOST_SOURCES ?g_MOST_FAR ?g_MOST_TRUTH ?g_MOST_WEIGHT ?g_SPANS ?g_MORE
    (case a0 => k_is)
    (case l0 => k_is)
    (case c0 => k_is)
    (case k0 => k_is)
    (case a1 => k_is)
    (case l1 => k_is)
    (case c1 => k_is)
    (case k1 => k_is)
    (case a2 => k_is)
    (case l2 => k_is)
    (case c2 => k_is)
    (case k2 => k_is)
    (case a3 => k_is)
    (case l3 => k_is)
    (case c3 => k_is)
    (case k3 => k_is)
    (case a4 => k_is)
    (case l4 => k_is)
    (case c4 => k_is)
    (case k4 => k_is)
    (case a5 => k_is)
    (case l5 => k_is)
    (case c5 => k_is)
    (case k5 => k_is)
    (case a6 => k_is)
    (case l6 => k_is)
    (case c6 => k_is)
    (case k6 => k_is)
    (case a7 => k_is)
    (case l7 => k_is)
    (case c7 => k_is)
    (case k7 => k_is)
    (case a8 => k_is)
    (case l8 => k_is)
    (case c8 => k_is)
    (case k8 => k_is)
    (case a9 => k_is)
    (case l9 => k_is)
    (case c9 => k_is)
    (case k9 => k_is)
    (case a10 => k_is)
    (case l10 => k_is)
    (case c10 => k_is)
    (case k10 => k_is)
    (case a11 => k_is)
    (case l11 => k_is)
    (case c11 => k_is)
    (case k11 => k_is)
    (case a12 => k_is)
    (case l12 => k_is)
    (case c12 => k_is)
    (case k12 => k_is)
    (case a13 => k_is)
    (case l13 => k_is)
    (case c13 => k_is)
    (case k13 => k_is)
    (case a14 => k_is)
    (case l14 => k_is)
    (case c14 => k_is)
    (case k14 => k_is)
    (case a15 => k_is)
    (case l15 => k_is)
    (case c15 => k_is)
    (case k15 => k_is)
    (case a16 => k_is)
    (case l16 => k_is)
    (case c16 => k_is)
    (case k16 => k_is)
    (case a17 => k_is)
    (case l17 => k_is)
    (case c17 => k_is)
    (case k17 => k_is)
    (case a18 => k_is)
    (case l18 => k_is)
    (case c18 => k_is)
    (case k18 => k_is)
    (case a19 => k_is)
    (case l19 => k_is)
    (case c19 => k_is)
    (case k19 => k_is)
    (case a20 => k_is)
    (case l20 => k_is)
    (case c20 => k_is)
    (case k20 => k_is)
    (case a21 => k_is)
    (case l21 => k_is)
    (case c21 => k_is)
    (case k21 => k_is)
    (case a22 => k_is)
    (case l22 => k_is)
    (case c22 => k_is)
    (case k22 => k_is)
    (case a23 => k_is)
    (case l23 => k_is)
    (case c23 => k_is)
    (case k23 => k_is)
    (case a24 => k_is)
    (case l24 => k_is)
    (case c24 => k_is)
    (case k24 => k_is)
    (case a25 => k_is)
    (case l25 => k_is)
    (case c25 => k_is)
    (case k25 => k_is)
    (case a26 => k_is)
    (case l26 => k_is)
    (case c26 => k_is)
    (case k26 => k_is)
    (case a27 => k_is)
    (case l27 => k_is)
    (case c27 => k_is)
    (case k27 => k_is)
    (case a28 => k_is)
    (case l28 => k_is)
    (case c28 => k_is)
    (case k28 => k_is)
    (case a29 => k_is)
    (case l29 => k_is)
    (case c29 => k_is)
    (case k29 => k_is)
    (case a30 => k_is)
    (case l30 => k_is)
    (case c30 => k_is)
    (case k30 => k_is)
    (case a31 => k_is)
    (case l31 => k_is)
    (case c31 => k_is)
    (case k31 => k_is)
    (case a32 => k_is)
    (case l32 => k_is)
    (case c32 => k_is)
    (case k32 => k_is)
    (case a33 => k_is)
    (case l33 => k_is)
    (case c33 => k_is)
    (case k33 => k_is)
    (case a34 => k_is)
    (case l34 => k_is)
    (case c34 => k_is)
    (case k34 => k_is)
    (case a35 => k_is)
    (case l35 => k_is)
    (case c35 => k_is)
    (case k35 => k_is)
    (case a36 => k_is)
    (case l36 => k_is)
    (case c36 => k_is)
    (case k36 => k_is)
    (case z_abs => k_is)
    (case z_all => k_is)
    (case z_any => k_is)
    (case z_bool => k_is)
    (case z_enumerate => k_is)
    (case z_int => k_is)
    (case z_isinstance => k_is)
    (case z_len => k_is)
    (case z_list => k_is)
    (case z_max => k_is)
    (case z_min => k_is)
    (case z_range => k_is)
    (case z_repr => k_is)
    (case z_set => k_is)
    (case z_sorted => k_is)
    (case z_sum => k_is)
    (case z_tuple => k_is)
    (case z_zip => k_is)
    (case g_MOST_SOURCES => k_is)
    (case g_MOST_FAR => k_is)
    (case g_MOST_TRUTH => k_is)
    (case g_MOST_WEIGHT => k_is)
    (case g_SPANS => k_is)
    (case g_MORE => k_is)
#print axioms PySem.Challenge.cw_surelyahead_k40_whole_sources_twice_and_holds
