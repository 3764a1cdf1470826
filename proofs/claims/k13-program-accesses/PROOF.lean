import PyProof.Rows.All
import HandS.ForMost
import HandS.ForExc
import HandS.TryMany
import HandS.SuiteRaise
import KE.SortData
import KE.KDictKeyed
import PyProof.ReprRoads
import PyProof.P3Eq
import PyProof.Rows.EqDataRows
import HandS.TupAny
import HandS.TupMul
import HandS.Deep
import HandS.Conv
import HandS.StrMore
import PyProof.ReprBulk
import PyProof.FitsInt
import HandS.RaiseMore
import HandS.More
import HandS.Iter
import HandS.Comp
import HandS.Ends
import HandS.Words
import HandS.Replace
import HandS.ExcOwn
import HandS.TryOnly
import HandS.ExcIs
import PyProof.Rows.RuleIs
import KE.KTops
import KE.KDictMeth
import PyProof.ListRange
import HandS.Sort
import HandS.IsInst
import HandS.Strs
import KE.GoesEnum
import KE.GoesMore
import KE.DataEq
import KE.DataFind
import HandS.Dict
import KE.KExcIs
import HandS.ExcInit
import HandS.ExcField
import HandS.ClsMeth
import HandS.WordsExc
import HandS.Small
import HandS.Style
import HandS.Call
import HandS.Exc
import KE.KDictText
import KE.KDictLetter
import PySem.Challenge.RW_coheir_k13_what_programs_access
set_option Elab.async false
set_option linter.all false
set_option maxRecDepth 100000
set_option maxHeartbeats 8000000
/-! SvA: values without a heap: pure data, owned lists; what represents them; how a state evolves. -/
namespace SV
open PySem PySem.Spec PyProof.Rows L2

/-- what a slot, or a result, holds: pure data that is never changed; an owned list; an owned dict; an owned instance -/
inductive S where
  | val (d : PyData)
  | lst (ds : List PyData)
  | dct (kvs : List (PyData × PyData))
  | ins (C : Addr) (fs : List (Str × S))
  | scr (ns : List Int)
  | adr (a : Addr)
  | exn (a dd : Addr) (fs : List (Str × PyData))
  | tpl (ds : List PyData)

abbrev S.toD : S → Option PyData
  | .val d => some d
  | .lst ds => some (.list ds)
  | .tpl ds => some (.tuple ds)
  | _ => none

abbrev SSt := List (Option S)
def gets : SSt → Nat → Option S
  | [], _ => none
  | x :: _, 0 => x
  | _ :: r, n + 1 => gets r n
def sets : SSt → Nat → Option S → SSt
  | [], _, _ => []
  | _ :: r, 0, y => y :: r
  | x :: r, n + 1, y => x :: sets r n y
theorem gets_sets_same : ∀ {σ : SSt} {i : Nat} {y : S}, i < σ.length → gets (sets σ i (some y)) i = some y
  | [], i, y, h => absurd h (Nat.not_lt_zero _)
  | _ :: _, 0, _, _ => rfl
  | _ :: r, n + 1, y, h => gets_sets_same (σ := r) (Nat.lt_of_succ_lt_succ h)
theorem gets_sets_ne : ∀ {σ : SSt} {i j : Nat} {y : Option S}, j ≠ i → gets (sets σ i y) j = gets σ j
  | [], _, _, _, _ => rfl
  | _ :: _, 0, 0, _, h => absurd rfl h
  | _ :: _, 0, _ + 1, _, _ => rfl
  | _ :: _, _ + 1, 0, _, _ => rfl
  | _ :: r, i + 1, j + 1, y, h => gets_sets_ne (σ := r) (fun e => h (by rw [e]))
theorem gets_sets_none : ∀ {σ : SSt} {i : Nat}, gets (sets σ i none) i = none
  | [], _ => rfl
  | _ :: _, 0 => rfl
  | _ :: r, n + 1 => gets_sets_none (σ := r)
theorem sets_length : ∀ {σ : SSt} {i : Nat} {y : Option S}, (sets σ i y).length = σ.length
  | [], _, _ => rfl
  | _ :: _, 0, _ => rfl
  | _ :: r, n + 1, y => by
    show (sets r n y).length + 1 = r.length + 1
    rw [sets_length]
theorem gets_some_lt : ∀ {σ : SSt} {i : Nat} {y : S}, gets σ i = some y → i < σ.length
  | [], _, _, h => by cases h
  | _ :: _, 0, _, _ => Nat.succ_pos _
  | _ :: r, n + 1, _, h => Nat.succ_lt_succ (gets_some_lt (σ := r) h)

/-- a key as data -/
def kD : Key → PyData
  | .inl i => .int i
  | .inr x => .str x
section
variable (K : PySem.W.Frag)
mutual
/-- v is the pure data d, by objects of I alone -/
inductive PR (I : Hp) : V → PyData → Prop
  | non : PR I .non .none
  | bl (b : Bool) : PR I (.bl b) (.bool b)
  | int (i : Int) : PR I (.int i) (.int i)
  | str (x : Str) : PyData.strOk x = true → x.length ≤ sizeLine → PR I (.str x) (.str x)
  | tup {a : Addr} {vs : List V} {ds : List PyData} : SqT K I a vs → PRs I vs ds → PR I (.ref a) (.tuple ds)
  | lst {a : Addr} {vs : List V} {ds : List PyData} : I a = some (.lst vs) → PRs I vs ds → PR I (.ref a) (.list ds)
inductive PRs (I : Hp) : List V → List PyData → Prop
  | nil : PRs I [] []
  | cons {v : V} {d : PyData} {vs : List V} {ds : List PyData} : PR I v d → PRs I vs ds → PRs I (v :: vs) (d :: ds)
end

mutual
/-- v is r, its owned objects at R -/
inductive SR (I H : Hp) : V → S → List Addr → Prop
  | val {v : V} {d : PyData} : PR K I v d → SR I H v (.val d) []
  | lst {a : Addr} {vs : List V} {ds : List PyData} : H a = some (.lst vs) → PRs K I vs ds → SR I H (.ref a) (.lst ds) [a]
  | scr {a : Addr} {ns : List Int} : SqL K I a (ns.map V.int) → SR I H (.ref a) (.scr ns) []
  | adr (a : Addr) : SR I H (.ref a) (.adr a) []
  | exn {a dd : Addr} {vf : List (Str × V)} {fs : List (Str × PyData)} : I dd = some (.xd vf) → vf.map (·.1) = fs.map (·.1) → PRs K I (vf.map (·.2)) (fs.map (·.2)) → SR I H (.ref a) (.exn a dd fs) []
  | tpl {a : Addr} {o : Obj} {vs : List V} {ds : List PyData} : I a = some (.frz o (.tup vs)) → o.cls = .type "tuple" → o.dict = none → PRs K I vs ds → SR I H (.ref a) (.tpl ds) []
  | dct {a : Addr} {vk : List (Key × V)} {kvs : List (PyData × PyData)} : H a = some (.dK vk) → kvs.map (·.1) = vk.map (fun p => kD p.1) → PRs K I (vk.map (·.2)) (kvs.map (·.2)) → SR I H (.ref a) (.dct kvs) [a]
  | ins {a C dx : Addr} {vf : List (Str × V)} {fs : List (Str × S)} {R : List Addr} : H a = some (.ins C dx vf) → H dx = some (.own a) → FRs I H vf fs R → a ∉ R → dx ∉ R → a ≠ dx → SR I H (.ref a) (.ins C fs) (a :: dx :: R)
inductive FRs (I H : Hp) : List (Str × V) → List (Str × S) → List Addr → Prop
  | nil : FRs I H [] [] []
  | cons {f : Str} {v : V} {r : S} {R Rs : List Addr} {vf : List (Str × V)} {fs : List (Str × S)} : SR I H v r R → FRs I H vf fs Rs → (∀ a ∈ R, a ∉ Rs) → FRs I H ((f, v) :: vf) ((f, r) :: fs) (R ++ Rs)
end
end

abbrev Sub (I H : Hp) : Prop := ∀ a x, I a = some x → H a = some x
theorem Sub.refl (I : Hp) : Sub I I := fun _ _ h => h
theorem Sub.trans {I J H : Hp} (a : Sub I J) (b : Sub J H) : Sub I H := fun c x h => b c x (a c x h)

section
variable {K : PySem.W.Frag} {I I' H H' : Hp}
theorem SqT.sub {a : Addr} {xs : List V} (e : Sub I I') (h : SqT K I a xs) : SqT K I' a xs := by
  rcases h with (h | ⟨o, h⟩) | h
  · exact .inl (.inl (e _ _ h))
  · exact .inl (.inr ⟨o, e _ _ h⟩)
  · exact .inr h
theorem SqL.sub {a : Addr} {xs : List V} (e : Sub I I') (h : SqL K I a xs) : SqL K I' a xs := by
  rcases h with (h | ⟨o, h⟩) | h
  · exact .inl (.inl (e _ _ h))
  · exact .inl (.inr ⟨o, e _ _ h⟩)
  · exact .inr h
mutual
theorem PR.sub (e : Sub I I') : ∀ {v : V} {d : PyData}, PR K I v d → PR K I' v d
  | _, _, .non => .non
  | _, _, .bl b => .bl b
  | _, _, .int i => .int i
  | _, _, .str x h z => .str x h z
  | _, _, .tup h r => .tup (SqT.sub e h) (PRs.sub e r)
  | _, _, .lst h r => .lst (e _ _ h) (PRs.sub e r)
theorem PRs.sub (e : Sub I I') : ∀ {vs : List V} {ds : List PyData}, PRs K I vs ds → PRs K I' vs ds
  | _, _, .nil => .nil
  | _, _, .cons h t => .cons (PR.sub e h) (PRs.sub e t)
end
theorem PRs.length : ∀ {vs : List V} {ds : List PyData}, PRs K I vs ds → vs.length = ds.length
  | _, _, .nil => rfl
  | _, _, .cons _ t => by simp [PRs.length t]
theorem PRs.get : ∀ {vs : List V} {ds : List PyData} {i : Nat} {d : PyData}, PRs K I vs ds → ds[i]? = some d → ∃ v, vs[i]? = some v ∧ PR K I v d
  | _, _, _, _, .nil, h => by simp at h
  | _, _, 0, _, .cons r _, h => by
    simp at h
    subst h
    exact ⟨_, rfl, r⟩
  | _, _, i + 1, _, .cons _ t, h => by
    obtain ⟨v, e, r⟩ := PRs.get (i := i) t (by simpa using h)
    exact ⟨v, by simpa using e, r⟩
theorem PRs.getV : ∀ {vs : List V} {ds : List PyData} {i : Nat} {v : V}, PRs K I vs ds → vs[i]? = some v → ∃ d, ds[i]? = some d ∧ PR K I v d
  | _, _, _, _, .nil, h => by simp at h
  | _, _, 0, _, .cons r _, h => by
    simp at h
    subst h
    exact ⟨_, rfl, r⟩
  | _, _, i + 1, _, .cons _ t, h => by
    obtain ⟨v, e, r⟩ := PRs.getV (i := i) t (by simpa using h)
    exact ⟨v, by simpa using e, r⟩
theorem PRs.append : ∀ {vs : List V} {ds : List PyData} {vs' : List V} {ds' : List PyData}, PRs K I vs ds → PRs K I vs' ds' → PRs K I (vs ++ vs') (ds ++ ds')
  | _, _, _, _, .nil, q => q
  | _, _, _, _, .cons h t, q => .cons h (PRs.append t q)
theorem PRs.take : ∀ {vs : List V} {ds : List PyData} (n : Nat), PRs K I vs ds → PRs K I (vs.take n) (ds.take n)
  | _, _, 0, _ => .nil
  | _, _, _ + 1, .nil => .nil
  | _, _, n + 1, .cons h t => .cons h (PRs.take n t)
theorem PRs.drop : ∀ {vs : List V} {ds : List PyData} (n : Nat), PRs K I vs ds → PRs K I (vs.drop n) (ds.drop n)
  | _, _, 0, h => h
  | _, _, _ + 1, .nil => .nil
  | _, _, n + 1, .cons h t => PRs.drop n t
theorem PRs.reverse : ∀ {vs : List V} {ds : List PyData}, PRs K I vs ds → PRs K I vs.reverse ds.reverse
  | _, _, .nil => .nil
  | _, _, .cons h t => by
    rw [List.reverse_cons, List.reverse_cons]
    exact PRs.append (PRs.reverse t) (.cons h .nil)
theorem PRs.set : ∀ {vs : List V} {ds : List PyData} {v : V} {d : PyData} (i : Nat), PRs K I vs ds → PR K I v d → PRs K I (vs.set i v) (ds.set i d)
  | _, _, _, _, _, .nil, _ => .nil
  | _, _, _, _, 0, .cons _ t, q => .cons q t
  | _, _, _, _, i + 1, .cons h t, q => .cons h (PRs.set i t q)
theorem PRs.ints : ∀ ns : List Int, PRs K I (ns.map V.int) (ns.map PyData.int)
  | [] => .nil
  | n :: r => .cons (.int n) (PRs.ints r)

mutual
theorem PR.canLay : ∀ {v : V} {d : PyData}, PR K I v d → d.canLay0 = true
  | _, _, .non => rfl
  | _, _, .bl _ => rfl
  | _, _, .int _ => rfl
  | _, _, .str _ h _ => h
  | _, _, .tup _ r => PRs.canLay r
  | _, _, .lst _ r => PRs.canLay r
theorem PRs.canLay : ∀ {vs : List V} {ds : List PyData}, PRs K I vs ds → PyData.canLayAll0 ds = true
  | _, _, .nil => rfl
  | _, _, .cons h t => by
    show (PyData.canLay0 _ && PyData.canLayAll0 _) = true
    rw [PR.canLay h, PRs.canLay t]
    rfl
end

mutual
theorem SR.there : ∀ {v : V} {r : S} {R : List Addr}, SR K I H v r R → ∀ a ∈ R, ∃ x, H a = some x
  | _, _, _, .val _, a, h => absurd h (by simp)
  | _, _, _, .scr _, a, h => absurd h (by simp)
  | _, _, _, .adr _, a, h => absurd h (by simp)
  | _, _, _, .exn _ _ _, a, h => absurd h (by simp)
  | _, _, _, .tpl _ _ _ _, a, h => absurd h (by simp)
  | _, _, _, .lst e _, a, h => by
    rw [List.mem_singleton] at h
    subst h
    exact ⟨_, e⟩
  | _, _, _, .dct e _ _, a, h => by
    rw [List.mem_singleton] at h
    subst h
    exact ⟨_, e⟩
  | _, _, _, .ins e1 e2 f _ _ _, a, h => by
    rcases List.mem_cons.mp h with rfl | h
    · exact ⟨_, e1⟩
    · rcases List.mem_cons.mp h with rfl | h
      · exact ⟨_, e2⟩
      · exact FRs.there f a h
theorem FRs.there : ∀ {vf : List (Str × V)} {fs : List (Str × S)} {R : List Addr}, FRs K I H vf fs R → ∀ a ∈ R, ∃ x, H a = some x
  | _, _, _, .nil, a, h => absurd h (by simp)
  | _, _, _, .cons r t _, a, h => by
    rcases List.mem_append.mp h with h | h
    · exact SR.there r a h
    · exact FRs.there t a h
end
mutual
theorem SR.keep (e : Sub I I') : ∀ {v : V} {r : S} {R : List Addr}, SR K I H v r R → (∀ a ∈ R, ∀ x, H a = some x → H' a = some x) → SR K I' H' v r R
  | _, _, _, .val p, _ => .val (p.sub e)
  | _, _, _, .scr h, k => .scr (SqL.sub e h)
  | _, _, _, .adr a, k => .adr a
  | _, _, _, .exn h h2 p, k => .exn (e _ _ h) h2 (p.sub e)
  | _, _, _, .tpl h c d p, k => .tpl (e _ _ h) c d (p.sub e)
  | _, _, _, .lst h p, k => .lst (k _ (by simp) _ h) (p.sub e)
  | _, _, _, .dct h h2 p, k => .dct (k _ (by simp) _ h) h2 (p.sub e)
  | _, _, _, .ins e1 e2 f n1 n2 n3, k => .ins (k _ (by simp) _ e1) (k _ (by simp) _ e2) (FRs.keep e f fun a h => k a (by simp [h])) n1 n2 n3
theorem FRs.keep (e : Sub I I') : ∀ {vf : List (Str × V)} {fs : List (Str × S)} {R : List Addr}, FRs K I H vf fs R → (∀ a ∈ R, ∀ x, H a = some x → H' a = some x) → FRs K I' H' vf fs R
  | _, _, _, .nil, _ => .nil
  | _, _, _, .cons r t d, k => .cons (SR.keep e r fun a h => k a (by simp [h])) (FRs.keep e t fun a h => k a (by simp [h])) d
end

theorem SR.val_inv {v : V} {d : PyData} {R : List Addr} (h : SR K I H v (.val d) R) : R = [] ∧ PR K I v d := by
  generalize e : S.val d = r at h
  cases h with
  | val p => cases e; exact ⟨rfl, p⟩
  | lst => cases e
  | scr => cases e
  | adr => cases e
  | exn => cases e
  | tpl => cases e
  | dct => cases e
  | ins => cases e
/-- the owned objects at R become immutable -/
def fz (I H : Hp) (R : List Addr) : Hp := fun a => if a ∈ R then H a else I a
theorem fz_sub {R : List Addr} (h : Sub I H) : Sub (fz I H R) H := fun a x e => by
  unfold fz at e
  split at e
  · exact e
  · exact h a x e
theorem sub_fz {R : List Addr} (n : ∀ a ∈ R, I a = none) : Sub I (fz I H R) := fun a x e => by
  unfold fz
  split
  · rename_i m
    rw [n a m] at e
    cases e
  · exact e
theorem fz_in {R : List Addr} {a : Addr} (h : a ∈ R) : fz I H R a = H a := if_pos h
theorem fz_out {R : List Addr} {a : Addr} (h : a ∉ R) : fz I H R a = I a := if_neg h
theorem SR.freeze {v : V} {r : S} {R : List Addr} {d : PyData} (h : SR K I H v r R) (e : r.toD = some d) (n : ∀ a ∈ R, I a = none) : PR K (fz I H R) v d := by
  cases h with
  | val p =>
    cases e
    exact p.sub (sub_fz n)
  | lst h p =>
    cases e
    refine .lst ?_ (p.sub (sub_fz n))
    rw [fz_in (by simp)]
    exact h
  | ins => cases e
  | dct => cases e
  | scr => cases e
  | adr => cases e
  | exn => cases e
  | tpl h c d p =>
    cases e
    exact .tup (SqT.sub (sub_fz n) (.inl (.inr ⟨_, h⟩))) (p.sub (sub_fz n))
end

section
variable {X : Cx} {pins : List (Addr × Obj)} {σ : L2.St} {H I : Hp} {s : Shared}
mutual
theorem PR.reads (J : Inv X pins σ H s) (sb : Sub I H) : ∀ {v : V} {d : PyData} {u : Value}, PR X.K I v d → RelV v u → ∃ as, Reads s.heap u d as
  | _, _, _, .non, r => by cases r; exact ⟨_, .none⟩
  | _, _, _, .bl b, r => by cases r; exact ⟨_, .bool b⟩
  | _, _, _, .int i, r => by obtain ⟨t, rfl⟩ := r; exact ⟨_, .int i t⟩
  | _, _, _, .str x _ _, r => by obtain ⟨t, rfl⟩ := r; exact ⟨_, .str x t⟩
  | _, _, _, .tup h p, r => by
    cases r
    obtain ⟨its, rv, ⟨o, e, c, n, dd⟩, _⟩ := J.tuple (SqT.sub sb h)
    obtain ⟨as, ra⟩ := PRs.reads J sb p rv
    exact ⟨_, .tuple e c dd (by simpa using ra)⟩
  | _, _, _, .lst h p, r => by
    cases r
    obtain ⟨its, rv, ⟨o, n, e, c, _, dd⟩, _⟩ := J.list (SqL.of (sb _ _ h))
    obtain ⟨as, ra⟩ := PRs.reads J sb p rv
    exact ⟨_, .list e c dd (by simpa using ra)⟩
theorem PRs.reads (J : Inv X pins σ H s) (sb : Sub I H) : ∀ {vs : List V} {ds : List PyData} {us : List Value}, PRs X.K I vs ds → Vals vs us → ∃ as, ReadsAll s.heap us ds as
  | _, _, _, .nil, r => by cases r; exact ⟨_, .nil⟩
  | _, _, _, .cons p t, r => by
    cases r with
    | cons r1 r2 =>
      obtain ⟨as, ra⟩ := PR.reads J sb p r1
      obtain ⟨bs, rb⟩ := PRs.reads J sb t r2
      exact ⟨_, .cons ra rb⟩
end
end
end SV
/-! SvB: a state of slots and what stands behind it; the judgements of expressions. -/
namespace SV
open PySem PySem.Spec PyProof.Rows L2

/-- the owned objects -/
def own (F : Nat → List Addr) : Addr → Prop := fun a => ∃ i, a ∈ F i

/-- the values of a def's arguments, by place -/
def arV (vs : List V) : Nat → Option V := fun i => vs[i]?
theorem arV_none {vs : List V} {i : Nat} (h : vs.length ≤ i) : arV vs i = none := List.getElem?_eq_none h
/-- a slot that is not to be stored -/
def prot (ar : Nat → Option V) (i : Nat) (v : V) : Nat → Option V := fun j => if j = i then some v else ar j
theorem prot_none {ar : Nat → Option V} {i j : Nat} {v : V} (h : j ≠ i) (n : ar j = none) : prot ar i v j = none := by
  unfold prot
  rw [if_neg h]
  exact n

structure Evo (I H : Hp) (o : Addr → Prop) (I' H' : Hp) (o' : Addr → Prop) : Prop where
  up : Sub I I'
  fr : ∀ a x, H a = some x → ¬ o a → H' a = some x
  nw : ∀ a, o' a → o a ∨ H a = none
  ni : ∀ a x, I' a = some x → I a = some x ∨ o a ∨ H a = none
theorem Evo.refl (I H : Hp) (o : Addr → Prop) : Evo I H o I H o := ⟨.refl I, fun _ _ h _ => h, fun _ h => .inl h, fun _ _ h => .inl h⟩
theorem Evo.back {I H I1 H1 : Hp} {o o1 : Addr → Prop} (E : Evo I H o I1 H1 o1) {a : Addr} (h : H1 a = none) : o a ∨ H a = none := by
  cases q : H a with
  | none => exact .inr rfl
  | some x =>
    by_cases c : o a
    · exact .inl c
    · rw [E.fr a x q c] at h
      cases h
theorem Evo.trans {I H I1 H1 I2 H2 : Hp} {o o1 p1 o2 o3 : Addr → Prop} (a : Evo I H o I1 H1 o1) (b : Evo I1 H1 p1 I2 H2 o2) (h1 : ∀ c, p1 c → o1 c) (h3 : ∀ c, o3 c → o1 c ∨ o2 c) : Evo I H o I2 H2 o3 where
  up := a.up.trans b.up
  fr := fun c x q n => by
    refine b.fr c x (a.fr c x q n) fun z => ?_
    rcases a.nw c (h1 c z) with z | z
    · exact n z
    · rw [q] at z
      cases z
  nw := fun c q => by
    rcases h3 c q with z | z
    · exact a.nw c z
    · rcases b.nw c z with z | z
      · exact a.nw c (h1 c z)
      · exact a.back z
  ni := fun c x q => by
    rcases b.ni c x q with z | z | z
    · exact a.ni c x z
    · exact .inr (a.nw c (h1 c z))
    · exact .inr (a.back z)

structure StR (K : PySem.W.Frag) (ar : Nat → Option V) (I H : Hp) (σ : L2.St) (σs : SSt) (F : Nat → List Addr) : Prop where
  sub : Sub I H
  rep : ∀ i r, gets σs i = some r → ∃ v, σ[i]? = some (some v) ∧ SR K I H v r (F i)
  non : ∀ i, gets σs i = none → F i = []
  dis : ∀ i j a, a ∈ F i → a ∈ F j → i = j
  notI : ∀ i, ∀ a ∈ F i, I a = none
  par : ∀ i v r, ar i = some v → gets σs i = some r → (∃ d, r = .val d) ∨ σ[i]? = some (some v)
  len : σs.length = σ.length

section
variable {K : PySem.W.Frag} {ar : Nat → Option V} {I H I' H' : Hp} {σ : L2.St} {σs : SSt} {F : Nat → List Addr}
theorem StR.there (h : StR K ar I H σ σs F) {a : Addr} (m : own F a) : ∃ x, H a = some x := by
  obtain ⟨i, m⟩ := m
  cases q : gets σs i with
  | none =>
    rw [h.non i q] at m
    cases m
  | some r =>
    obtain ⟨v, _, r⟩ := h.rep i r q
    exact r.there a m
theorem StR.ownI (h : StR K ar I H σ σs F) {a : Addr} (m : own F a) : I a = none := let ⟨i, m⟩ := m; h.notI i a m
/-- nothing of it is touched -/
theorem StR.keep (h : StR K ar I H σ σs F) (s : Sub I' H') (e : Sub I I') (k : ∀ a, own F a → ∀ x, H a = some x → H' a = some x) (n : ∀ a, own F a → I' a = none) : StR K ar I' H' σ σs F where
  sub := s
  rep := fun i r q => by
    obtain ⟨v, e1, r1⟩ := h.rep i r q
    exact ⟨v, e1, r1.keep e fun a m => k a ⟨i, m⟩⟩
  non := h.non
  dis := h.dis
  notI := fun i a m => n a ⟨i, m⟩
  par := h.par
  len := h.len
/-- the i-th slot without its objects -/
def drop1 (F : Nat → List Addr) (i : Nat) : Nat → List Addr := fun j => if j = i then [] else F j
theorem own_drop1 {i : Nat} {a : Addr} (m : own (drop1 F i) a) : own F a ∧ a ∉ F i ∨ own F a := by
  obtain ⟨j, m⟩ := m
  unfold drop1 at m
  split at m
  · cases m
  · exact .inr ⟨j, m⟩
theorem own_of_drop1 {i : Nat} {a : Addr} (m : own (drop1 F i) a) : own F a := by
  obtain ⟨j, m⟩ := m
  unfold drop1 at m
  split at m
  · cases m
  · exact ⟨j, m⟩
theorem drop1_not {i : Nat} {a : Addr} (h : StR K ar I H σ σs F) (m : own (drop1 F i) a) : a ∉ F i := by
  obtain ⟨j, m⟩ := m
  unfold drop1 at m
  split at m
  · cases m
  · rename_i ne
    exact fun z => ne (h.dis j i a m z)
/-- a slot is frozen -/
theorem StR.freeze (h : StR K ar I H σ σs F) {i : Nat} {r : S} {d : PyData} (q : gets σs i = some r) (e : r.toD = some d) :
    ∃ v, σ[i]? = some (some v) ∧ PR K (fz I H (F i)) v d ∧ StR K ar (fz I H (F i)) H σ (sets σs i (some (.val d))) (drop1 F i) ∧ Evo I H (own F) (fz I H (F i)) H (own (drop1 F i)) := by
  obtain ⟨v, e1, r1⟩ := h.rep i r q
  have n := h.notI i
  have p := r1.freeze e n
  refine ⟨v, e1, p, ⟨fz_sub h.sub, fun j r' q' => ?_, fun j q' => ?_, fun j k a m m' => ?_, fun j a m => ?_, fun j w r' ha q' => ?_, by rw [sets_length]; exact h.len⟩, ⟨sub_fz n, fun a x q _ => q, fun a m => .inl (own_of_drop1 m), fun a x q => ?_⟩⟩
  · by_cases hj : j = i
    · subst hj
      rw [gets_sets_same (gets_some_lt q)] at q'
      cases q'
      refine ⟨v, e1, ?_⟩
      unfold drop1
      rw [if_pos rfl]
      exact .val p
    · rw [gets_sets_ne hj] at q'
      obtain ⟨w, e2, r2⟩ := h.rep j r' q'
      refine ⟨w, e2, ?_⟩
      unfold drop1
      rw [if_neg hj]
      exact r2.keep (sub_fz n) fun _ _ _ z => z
  · by_cases hj : j = i
    · unfold drop1
      rw [if_pos hj]
    · unfold drop1
      rw [if_neg hj]
      rw [gets_sets_ne hj] at q'
      exact h.non j q'
  · unfold drop1 at m m'
    split at m
    · cases m
    · split at m'
      · cases m'
      · exact h.dis j k a m m'
  · have nm : a ∉ F i := drop1_not h ⟨j, m⟩
    rw [fz_out nm]
    exact h.ownI (own_of_drop1 ⟨j, m⟩)
  · by_cases hj : j = i
    · subst hj
      rw [gets_sets_same (gets_some_lt q)] at q'
      cases q'
      exact .inl ⟨d, rfl⟩
    · rw [gets_sets_ne hj] at q'
      exact h.par j w r' ha q'
  · unfold fz at q
    split at q
    · rename_i m
      exact .inr (.inl ⟨i, m⟩)
    · exact .inl q
/-- a slot is forgotten -/
theorem StR.forget (h : StR K ar I H σ σs F) (i : Nat) : StR K ar I H σ (sets σs i none) (drop1 F i) := by
  refine ⟨h.sub, fun j r' q' => ?_, fun j q' => ?_, fun j k a m m' => ?_, fun j a m => ?_, fun j w r' ha q' => ?_, by rw [sets_length]; exact h.len⟩
  · have hj : j ≠ i := fun e => by
      rw [e, gets_sets_none] at q'
      cases q'
    rw [gets_sets_ne hj] at q'
    obtain ⟨w, e2, r2⟩ := h.rep j r' q'
    refine ⟨w, e2, ?_⟩
    unfold drop1
    rw [if_neg hj]
    exact r2
  · by_cases hj : j = i
    · unfold drop1
      rw [if_pos hj]
    · unfold drop1
      rw [if_neg hj]
      rw [gets_sets_ne hj] at q'
      exact h.non j q'
  · unfold drop1 at m m'
    split at m
    · cases m
    · split at m'
      · cases m'
      · exact h.dis j k a m m'
  · exact h.ownI (own_of_drop1 ⟨j, m⟩)
  · have hj : j ≠ i := fun e => by
      rw [e, gets_sets_none] at q'
      cases q'
    rw [gets_sets_ne hj] at q'
    exact h.par j w r' ha q'
/-- a slot is stored: v, with its own objects R -/
def put1 (F : Nat → List Addr) (i : Nat) (R : List Addr) : Nat → List Addr := fun j => if j = i then R else F j
theorem own_put1 {i : Nat} {R : List Addr} {a : Addr} (m : own (put1 F i R) a) : a ∈ R ∨ own F a := by
  obtain ⟨j, m⟩ := m
  unfold put1 at m
  split at m
  · exact .inl m
  · exact .inr ⟨j, m⟩
theorem StR.store (h : StR K ar I H σ σs F) {i : Nat} {v : V} {r : S} {R : List Addr} (hi : i < σs.length) (q : SR K I H v r R) (nf : ∀ a ∈ R, ¬ own F a) (nI : ∀ a ∈ R, I a = none) (hp : (∃ d, r = .val d) ∨ ar i = none) :
    StR K ar I H (σ.set i (some v)) (sets σs i (some r)) (put1 F i R) := by
  refine ⟨h.sub, fun j r' q' => ?_, fun j q' => ?_, fun j k a m m' => ?_, fun j a m => ?_, fun j w r' ha q' => ?_, by rw [sets_length, List.length_set]; exact h.len⟩
  · by_cases hj : j = i
    · subst hj
      rw [gets_sets_same hi] at q'
      cases q'
      refine ⟨v, ?_, ?_⟩
      · rw [List.getElem?_set_self (by rw [← h.len]; exact hi)]
      · unfold put1
        rw [if_pos rfl]
        exact q
    · rw [gets_sets_ne hj] at q'
      obtain ⟨w, e2, r2⟩ := h.rep j r' q'
      refine ⟨w, by rw [List.getElem?_set_ne (Ne.symm hj)]; exact e2, ?_⟩
      unfold put1
      rw [if_neg hj]
      exact r2
  · have hj : j ≠ i := fun e => by
      rw [e, gets_sets_same hi] at q'
      cases q'
    unfold put1
    rw [if_neg hj]
    rw [gets_sets_ne hj] at q'
    exact h.non j q'
  · unfold put1 at m m'
    split at m
    · split at m'
      · rename_i e1 e2
        rw [e1, e2]
      · exact absurd ⟨k, m'⟩ (nf a m)
    · split at m'
      · exact absurd ⟨j, m⟩ (nf a m')
      · exact h.dis j k a m m'
  · unfold put1 at m
    split at m
    · exact nI a m
    · exact h.notI j a m
  · by_cases hj : j = i
    · subst hj
      rw [gets_sets_same hi] at q'
      cases q'
      rcases hp with z | z
      · exact .inl z
      · rw [z] at ha
        cases ha
    · rw [gets_sets_ne hj] at q'
      rcases h.par j w r' ha q' with z | z
      · exact .inl z
      · exact .inr (by rw [List.getElem?_set_ne (Ne.symm hj)]; exact z)
end

/-! ### exceptions -/
/-- an exception's own data -/
def ED (K : PySem.W.Frag) (I H : Hp) (d : Option Addr) (e : Option (List (Str × PyData))) : Prop :=
  match d, e with
  | none, none => True
  | some a, some fs => ∃ vf : List (Str × V), I a = some (.xd vf) ∧ vf.map (·.1) = fs.map (·.1) ∧ PRs K I (vf.map (·.2)) (fs.map (·.2))
  | _, _ => False
/-- what is wanted of an exception: its class, its data, the slots -/
abbrev XS := Value → Option (List (Str × PyData)) → SSt → Prop
def TX (X : Cx) (ar : Nat → Option V) (I H : Hp) (o : Addr → Prop) (ES : XS) : Prop :=
  ∃ W : WX, Takes X W ∧ ∀ cls d σ' I' H' F' σs' ed, Evo I H o I' H' (own F') → StR X.K ar I' H' σ' σs' F' → ED X.K I' H' d ed → ES cls ed σs' → W cls d σ' H'
theorem TX.none {X : Cx} {ar : Nat → Option V} {I H : Hp} {o : Addr → Prop} : TX X ar I H o (fun _ _ _ => False) := ⟨fun _ _ _ _ => False, takes0, fun _ _ _ _ _ _ _ _ _ _ _ z => z⟩
theorem TX.go {X : Cx} {ar : Nat → Option V} {I H I1 H1 : Hp} {o o1 p1 : Addr → Prop} {ES : XS} (t : TX X ar I H o ES) (a : Evo I H o I1 H1 o1) (h : ∀ c, p1 c → o1 c) : TX X ar I1 H1 p1 ES := by
  obtain ⟨W, tk, f⟩ := t
  exact ⟨W, tk, fun cls d σ' I' H' F' σs' ed b r e q => f cls d σ' I' H' F' σs' ed (a.trans b h fun c z => .inr z) r e q⟩

/-! ### the judgements -/
abbrev KS := S → SSt → Prop
abbrev TEs := SSt → KS → XS → Prop
abbrev TTs := SSt → (Bool → SSt → Prop) → XS → Prop
abbrev TAs := SSt → (List S → SSt → Prop) → XS → Prop

/-- behind an expression: the value v is r with its own objects R; the state has come to σs' -/
structure RPd (X : Cx) (ar : Nat → Option V) (pins : List (Addr × Obj)) (σ : L2.St) (b m : Bool) (I H : Hp) (F : Nat → List Addr) (σs : SSt) (v : V) (r : S) (R : List Addr) (I' H' : Hp) (F' : Nat → List Addr) (σs' : SSt) (s' : Shared) : Prop where
  inv : Inv X pins σ H' s'
  evo : Evo I H (own F) I' H' (fun a => a ∈ R ∨ own F' a)
  st : StR X.K ar I' H' σ σs' F'
  sr : SR X.K I' H' v r R
  nf : m = true → ∀ a ∈ R, ¬ own F' a
  nI : ∀ a ∈ R, I' a = none
  pu : b = true → σs' = σs ∧ F' = F ∧ (∀ a x, H a = some x → H' a = some x)
def RP (X : Cx) (ar : Nat → Option V) (pins : List (Addr × Obj)) (σ : L2.St) (b m : Bool) (I H : Hp) (F : Nat → List Addr) (σs : SSt) (Q : KS) (u : Value) (s' : Shared) : Prop :=
  ∃ v r R I' H' F' σs', RPd X ar pins σ b m I H F σs v r R I' H' F' σs' s' ∧ RelV v u ∧ Q r σs'

/-- b: the state and the heap's objects stay; m: the result is none of the slots' own -/
structure JE (X : Cx) (ar : Nat → Option V) (b m : Bool) (e : Expr) (t : TEs) : Prop where
  run : ∀ (pins : List (Addr × Obj)) (s : Shared) (σ : L2.St) (I H : Hp) (F : Nat → List Addr) (σs : SSt) (Q : KS) (ES : XS), Inv X pins σ H s → StR X.K ar I H σ σs F → TX X ar I H (own F) ES → t σs Q ES →
    wpAny (model X.prog X.w) X.A (eval e X.env) (RP X ar pins σ b m I H F σs Q) X.xe s

/-- behind a test -/
structure BPd (X : Cx) (ar : Nat → Option V) (pins : List (Addr × Obj)) (σ : L2.St) (b : Bool) (I H : Hp) (F : Nat → List Addr) (σs : SSt) (I' H' : Hp) (F' : Nat → List Addr) (σs' : SSt) (s' : Shared) : Prop where
  inv : Inv X pins σ H' s'
  evo : Evo I H (own F) I' H' (own F')
  st : StR X.K ar I' H' σ σs' F'
  pu : b = true → σs' = σs ∧ F' = F ∧ (∀ a x, H a = some x → H' a = some x)
def BP (X : Cx) (ar : Nat → Option V) (pins : List (Addr × Obj)) (σ : L2.St) (b : Bool) (I H : Hp) (F : Nat → List Addr) (σs : SSt) (Q : Bool → SSt → Prop) (c : Bool) (s' : Shared) : Prop :=
  ∃ I' H' F' σs', BPd X ar pins σ b I H F σs I' H' F' σs' s' ∧ Q c σs'
structure JT (X : Cx) (ar : Nat → Option V) (b : Bool) (e : Expr) (t : TTs) : Prop where
  run : ∀ (pins : List (Addr × Obj)) (s : Shared) (σ : L2.St) (I H : Hp) (F : Nat → List Addr) (σs : SSt) (Q : Bool → SSt → Prop) (ES : XS), Inv X pins σ H s → StR X.K ar I H σ σs F → TX X ar I H (own F) ES → t σs Q ES →
    wpAny (model X.prog X.w) X.A (isTrue e X.env (eval e X.env)) (BP X ar pins σ b I H F σs Q) X.xe s
/-- a test whatever its whole is -/
structure JW (X : Cx) (ar : Nat → Option V) (b : Bool) (e : Expr) (t : TTs) : Prop where
  run : ∀ (whole : Sem Value) (pins : List (Addr × Obj)) (s : Shared) (σ : L2.St) (I H : Hp) (F : Nat → List Addr) (σs : SSt) (Q : Bool → SSt → Prop) (ES : XS), Inv X pins σ H s → StR X.K ar I H σ σs F → TX X ar I H (own F) ES → t σs Q ES →
    wpAny (model X.prog X.w) X.A (isTrue e X.env whole) (BP X ar pins σ b I H F σs Q) X.xe s
theorem JW.jt {X : Cx} {ar : Nat → Option V} {b : Bool} {e : Expr} {t : TTs} (h : JW X ar b e t) : JT X ar b e t := ⟨h.run _⟩

section
variable {X : Cx} {ar : Nat → Option V} {pins : List (Addr × Obj)} {σ : L2.St} {I H : Hp} {F : Nat → List Addr} {σs : SSt} {s : Shared}
/-- nothing has changed, and a pure value stands there -/
theorem RP.val {b m : Bool} {Q : KS} {v : V} {u : Value} {d : PyData} (J : Inv X pins σ H s) (st : StR X.K ar I H σ σs F) (p : PR X.K I v d) (r : RelV v u) (q : Q (.val d) σs) : RP X ar pins σ b m I H F σs Q u s :=
  ⟨v, .val d, [], I, H, F, σs, ⟨J, ⟨.refl I, fun _ _ h _ => h, fun a h => by rcases h with h | h; cases h; exact .inl h, fun _ _ h => .inl h⟩, st, .val p, fun _ a m => absurd m (by simp), fun a m => absurd m (by simp), fun _ => ⟨rfl, rfl, fun _ _ h => h⟩⟩, r, q⟩
theorem BPd.refl {b : Bool} (J : Inv X pins σ H s) (st : StR X.K ar I H σ σs F) : BPd X ar pins σ b I H F σs I H F σs s :=
  ⟨J, .refl _ _ _, st, fun _ => ⟨rfl, rfl, fun _ _ h => h⟩⟩
end

/-- a need that is met -/
inductive need {α : Type} (o : Option α) (k : α → Prop) : Prop
  | mk (x : α) : o = some x → k x → need o k
abbrev nd {α : Type} (o : Option α) (k : α → Prop) : Prop := match o with
  | some x => k x
  | none => False
theorem nd_some {α : Type} {o : Option α} {k : α → Prop} (h : nd o k) : ∃ x, o = some x ∧ k x := by
  cases o with
  | none => exact h.elim
  | some x => exact ⟨x, rfl, h⟩
theorem need_of {α : Type} {o : Option α} {x : α} {k : α → Prop} (e : o = some x) (h : k x) : need o k := ⟨x, e, h⟩
theorem need_some {α : Type} {o : Option α} {k : α → Prop} (h : need o k) : ∃ x, o = some x ∧ k x := let ⟨x, e, q⟩ := h; ⟨x, e, q⟩

/-- the result's own objects become immutable -/
theorem RPd.freeze {X : Cx} {ar : Nat → Option V} {pins : List (Addr × Obj)} {σ : L2.St} {b : Bool} {I H I' H' : Hp} {F F' : Nat → List Addr} {σs σs' : SSt} {v : V} {r : S} {R : List Addr} {s' : Shared} {d : PyData}
    (h : RPd X ar pins σ b true I H F σs v r R I' H' F' σs' s') (e : r.toD = some d) : BPd X ar pins σ b I H F σs (fz I' H' R) H' F' σs' s' ∧ PR X.K (fz I' H' R) v d := by
  have n := h.nI
  refine ⟨⟨h.inv, ⟨h.evo.up.trans (sub_fz n), h.evo.fr, fun a m => h.evo.nw a (.inr m), fun a x q => ?_⟩, h.st.keep (fz_sub h.st.sub) (sub_fz n) (fun _ _ _ z => z) (fun a m => ?_), h.pu⟩, h.sr.freeze e n⟩
  · unfold fz at q
    split at q
    · rename_i m
      exact .inr (h.evo.nw a (.inl m))
    · exact h.evo.ni a x q
  · rw [fz_out fun z => h.nf rfl a z m]
    exact h.st.ownI m

/-- two steps in a row -/
theorem BPd.then {X : Cx} {ar : Nat → Option V} {pins : List (Addr × Obj)} {σ : L2.St} {b1 b2 : Bool} {I H I1 H1 I2 H2 : Hp} {F F1 F2 : Nat → List Addr} {σs σ1 σ2 : SSt} {s1 s2 : Shared}
    (a : BPd X ar pins σ b1 I H F σs I1 H1 F1 σ1 s1) (c : BPd X ar pins σ b2 I1 H1 F1 σ1 I2 H2 F2 σ2 s2) : BPd X ar pins σ (b1 && b2) I H F σs I2 H2 F2 σ2 s2 := by
  refine ⟨c.inv, a.evo.trans c.evo (fun _ z => z) (fun _ z => .inr z), c.st, fun hb => ?_⟩
  rw [Bool.and_eq_true] at hb
  obtain ⟨e1, e2, e3⟩ := a.pu hb.1
  obtain ⟨g1, g2, g3⟩ := c.pu hb.2
  exact ⟨g1.trans e1, g2.trans e2, fun a x q => g3 a x (e3 a x q)⟩
theorem BPd.thenR {X : Cx} {ar : Nat → Option V} {pins : List (Addr × Obj)} {σ : L2.St} {b1 b2 m : Bool} {I H I1 H1 I2 H2 : Hp} {F F1 F2 : Nat → List Addr} {σs σ1 σ2 : SSt} {s1 s2 : Shared} {v : V} {r : S} {R : List Addr}
    (a : BPd X ar pins σ b1 I H F σs I1 H1 F1 σ1 s1) (c : RPd X ar pins σ b2 m I1 H1 F1 σ1 v r R I2 H2 F2 σ2 s2) : RPd X ar pins σ (b1 && b2) m I H F σs v r R I2 H2 F2 σ2 s2 := by
  refine ⟨c.inv, a.evo.trans c.evo (fun _ z => z) (fun _ z => .inr z), c.st, c.sr, c.nf, c.nI, fun hb => ?_⟩
  rw [Bool.and_eq_true] at hb
  obtain ⟨e1, e2, e3⟩ := a.pu hb.1
  obtain ⟨g1, g2, g3⟩ := c.pu hb.2
  exact ⟨g1.trans e1, g2.trans e2, fun a x q => g3 a x (e3 a x q)⟩
theorem TX.then {X : Cx} {ar : Nat → Option V} {pins : List (Addr × Obj)} {σ : L2.St} {b1 : Bool} {I H I1 H1 : Hp} {F F1 : Nat → List Addr} {σs σ1 : SSt} {s1 : Shared} {ES : XS} (t : TX X ar I H (own F) ES)
    (a : BPd X ar pins σ b1 I H F σs I1 H1 F1 σ1 s1) : TX X ar I1 H1 (own F1) ES := t.go a.evo fun _ z => z

/-- the state behind an expression, its result dropped -/
theorem RPd.base {X : Cx} {ar : Nat → Option V} {pins : List (Addr × Obj)} {σ : L2.St} {b m : Bool} {I H I' H' : Hp} {F F' : Nat → List Addr} {σs σs' : SSt} {v : V} {r : S} {R : List Addr} {s' : Shared}
    (h : RPd X ar pins σ b m I H F σs v r R I' H' F' σs' s') : BPd X ar pins σ b I H F σs I' H' F' σs' s' :=
  ⟨h.inv, ⟨h.evo.up, h.evo.fr, fun a z => h.evo.nw a (.inr z), h.evo.ni⟩, h.st, h.pu⟩
/-- what was made ahead of a further step stands behind it -/
theorem RPd.over {X : Cx} {ar : Nat → Option V} {pins : List (Addr × Obj)} {σ : L2.St} {b1 b2 m : Bool} {I H I1 H1 I2 H2 : Hp} {F F1 F2 : Nat → List Addr} {σs σ1 σ2 : SSt} {v : V} {r : S} {R : List Addr} {s1 s2 : Shared}
    (h : RPd X ar pins σ b1 m I H F σs v r R I1 H1 F1 σ1 s1) (c : BPd X ar pins σ b2 I1 H1 F1 σ1 I2 H2 F2 σ2 s2) (hm : m = true ∨ b2 = true) :
    SR X.K I2 H2 v r R ∧ (∀ a ∈ R, I2 a = none) ∧ (m = true → ∀ a ∈ R, ¬ own F2 a) ∧ RPd X ar pins σ (b1 && b2) m I H F σs v r R I2 H2 F2 σ2 s2 := by
  have there := h.sr.there
  have k : ∀ a ∈ R, ∀ x, H1 a = some x → H2 a = some x := fun a z x q => by
    rcases hm with hm | hm
    · exact c.evo.fr a x q (h.nf hm a z)
    · exact (c.pu hm).2.2 a x q
  have n : ∀ a ∈ R, I2 a = none := fun a z => by
    cases e0 : I2 a with
    | none => rfl
    | some x =>
      rcases c.evo.ni a x e0 with e | e | e
      · rw [h.nI a z] at e
        cases e
      · rcases hm with hm | hm
        · exact absurd e (h.nf hm a z)
        · have e2 : own F2 a := by rw [(c.pu hm).2.1]; exact e
          have e3 := c.st.ownI e2
          rw [e0] at e3
          cases e3
      · obtain ⟨y, e2⟩ := there a z
        rw [e] at e2
        cases e2
  have nf : m = true → ∀ a ∈ R, ¬ own F2 a := fun hm a z q => by
    rcases c.evo.nw a q with q | q
    · exact h.nf hm a z q
    · obtain ⟨y, e2⟩ := there a z
      rw [q] at e2
      cases e2
  have b := h.base.then c
  have sr := h.sr.keep c.evo.up k
  refine ⟨sr, n, nf, b.inv, ⟨b.evo.up, b.evo.fr, fun a z => ?_, b.evo.ni⟩, b.st, sr, nf, n, b.pu⟩
  rcases z with z | z
  · exact h.evo.nw a (.inl z)
  · exact b.evo.nw a z
end SV
/-! SvC: operations on values. -/
namespace SV
open PySem PySem.Spec PyProof.Rows L2

/-- behind an operation on pure values: all that stood stands, the result is r, with its own new objects R -/
structure VPd (X : Cx) (I H : Hp) (v : V) (r : S) (R : List Addr) (I' H' : Hp) : Prop where
  up : Sub I I'
  sub : Sub I' H'
  grow : Sub H H'
  newR : ∀ a ∈ R, H a = none
  newI : ∀ a x, I' a = some x → I a = some x ∨ H a = none
  sr : SR X.K I' H' v r R
  nI : ∀ a ∈ R, I' a = none
def VP (X : Cx) (I H : Hp) (Q : S → Prop) : VK := fun v H' => ∃ r R I', VPd X I H v r R I' H' ∧ Q r
theorem upd_grow {H : Hp} {p : Addr} {o : HO} (h : H p = none) : Sub H (upd H p o) := fun a x q => by
  rw [upd_ne (ne_of_none q h)]
  exact q
theorem upd_sub {I H : Hp} {p : Addr} {o : HO} (s : Sub I H) : Sub (upd I p o) (upd H p o) := fun a x q => by
  unfold upd at q ⊢
  split at q
  · rename_i e
    rw [if_pos e]
    exact q
  · rename_i e
    rw [if_neg e]
    exact s a x q
theorem sub_none {I H : Hp} {p : Addr} (s : Sub I H) (h : H p = none) : I p = none := by
  cases e : I p with
  | none => rfl
  | some x =>
    rw [s p x e] at h
    cases h
section
variable {X : Cx} {I H : Hp} {Q : S → Prop} {v : V} {d : PyData} {p : Addr} {vs : List V} {ds : List PyData}
theorem VP.val (s : Sub I H) (h : PR X.K I v d) (q : Q (.val d)) : VP X I H Q v H :=
  ⟨.val d, [], I, ⟨.refl I, s, .refl H, fun _ m => absurd m (by simp), fun _ _ h => .inl h, .val h, fun _ m => absurd m (by simp)⟩, q⟩
theorem VP.newTup (s : Sub I H) (hp : H p = none) (h : PRs X.K I vs ds) (q : Q (.val (.tuple ds))) : VP X I H Q (.ref p) (upd H p (.tup vs)) :=
  ⟨_, [], upd I p (.tup vs), ⟨upd_grow (sub_none s hp), upd_sub s, upd_grow hp, fun _ m => absurd m (by simp), fun a x q => by
    by_cases e : a = p
    · subst e; exact .inr hp
    · rw [upd_ne e] at q; exact .inl q, .val (.tup (SqT.of upd_same) (h.sub (upd_grow (sub_none s hp)))), fun _ m => absurd m (by simp)⟩, q⟩
theorem VP.newLst (s : Sub I H) (hp : H p = none) (h : PRs X.K I vs ds) (q : Q (.lst ds)) : VP X I H Q (.ref p) (upd H p (.lst vs)) :=
  ⟨_, [p], I, ⟨.refl I, s.trans (upd_grow hp), upd_grow hp, fun a m => by
    rw [List.mem_singleton] at m
    subst m
    exact hp, fun _ _ h => .inl h, .lst upd_same h, fun a m => by
    rw [List.mem_singleton] at m
    subst m
    exact sub_none s hp⟩, q⟩
end
/-- data to be read: pure, or an owned list -/
inductive AR (K : PySem.W.Frag) (I H : Hp) : V → PyData → Prop
  | non : AR K I H .non .none
  | bl (b : Bool) : AR K I H (.bl b) (.bool b)
  | int (i : Int) : AR K I H (.int i) (.int i)
  | str (x : Str) : PyData.strOk x = true → x.length ≤ sizeLine → AR K I H (.str x) (.str x)
  | tup {a : Addr} {vs : List V} {ds : List PyData} : SqT K I a vs → PRs K I vs ds → AR K I H (.ref a) (.tuple ds)
  | lst {a : Addr} {vs : List V} {ds : List PyData} : H a = some (.lst vs) → PRs K I vs ds → AR K I H (.ref a) (.list ds)
theorem PR.ar {K : PySem.W.Frag} {I H : Hp} {v : V} {d : PyData} (sb : Sub I H) (p : PR K I v d) : AR K I H v d := by
  cases p with
  | non => exact .non
  | bl b => exact .bl b
  | int i => exact .int i
  | str x h z => exact .str x h z
  | tup h p => exact .tup h p
  | lst h p => exact .lst (sb _ _ h) p
theorem SR.ar {K : PySem.W.Frag} {I H : Hp} {v : V} {r : S} {R : List Addr} {d : PyData} (sb : Sub I H) (h : SR K I H v r R) (e : r.toD = some d) : AR K I H v d := by
  cases h with
  | val p => cases e; exact p.ar sb
  | lst h p => cases e; exact .lst h p
  | ins => cases e
  | dct => cases e
  | scr => cases e
  | adr => cases e
  | exn => cases e
  | tpl h c d p => cases e; exact .tup (.inl (.inr ⟨_, h⟩)) p
inductive ARs (K : PySem.W.Frag) (I H : Hp) : List V → List PyData → Prop
  | nil : ARs K I H [] []
  | cons {v : V} {d : PyData} {vs : List V} {ds : List PyData} : AR K I H v d → ARs K I H vs ds → ARs K I H (v :: vs) (d :: ds)
theorem AR.canLay {K : PySem.W.Frag} {I H : Hp} {v : V} {d : PyData} (h : AR K I H v d) : d.canLay0 = true := by
  cases h with
  | non => rfl
  | bl b => rfl
  | int i => rfl
  | str x h z => exact h
  | tup h p => exact p.canLay
  | lst h p => exact p.canLay
theorem AR.reads {X : Cx} {pins : List (Addr × Obj)} {σ : L2.St} {H I : Hp} {s : Shared} {v : V} {d : PyData} {u : Value} (J : Inv X pins σ H s) (sb : Sub I H) (h : AR X.K I H v d) (r : RelV v u) : ∃ as, Reads s.heap u d as := by
  cases h with
  | non => exact PR.reads J sb .non r
  | bl b => exact PR.reads J sb (.bl b) r
  | int i => exact PR.reads J sb (.int i) r
  | str x h z => exact PR.reads J sb (.str x h z) r
  | tup h p => exact PR.reads J sb (.tup h p) r
  | lst h p =>
    cases r
    obtain ⟨its, rv, ⟨o, n, e, c, _, dd⟩, _⟩ := J.list (SqL.of h)
    obtain ⟨as, ra⟩ := PRs.reads J sb p rv
    exact ⟨_, .list e c dd (by simpa using ra)⟩
theorem RP.of_vp {X : Cx} {ar : Nat → Option V} {pins : List (Addr × Obj)} {σ : L2.St} {b : Bool} {I H I1 H1 : Hp} {F F1 : Nat → List Addr} {σs σ1 : SSt} {s1 s' : Shared} {Q : KS} {u : Value}
    (a : BPd X ar pins σ b I H F σs I1 H1 F1 σ1 s1) (h : EP X pins σ (VP X I1 H1 fun r => Q r σ1) u s') : RP X ar pins σ b true I H F σs Q u s' := by
  obtain ⟨v, H', J, rv, r, R, I', d, q⟩ := h
  have nf : ∀ c ∈ R, ¬ own F1 c := fun c m z => by
    obtain ⟨x, e⟩ := a.st.there z
    rw [d.newR c m] at e
    cases e
  refine ⟨v, r, R, I', H', F1, σ1, ⟨J, ⟨a.evo.up.trans d.up, fun c x q n => d.grow c x (a.evo.fr c x q n), fun c m => ?_, fun c x q => ?_⟩, a.st.keep d.sub d.up (fun c _ x q => d.grow c x q) (fun c m => ?_), d.sr, fun _ => nf, d.nI, fun hb => ?_⟩, rv, q⟩
  · rcases m with m | m
    · exact a.evo.back (d.newR c m)
    · exact a.evo.nw c m
  · rcases d.newI c x q with q | q
    · exact a.evo.ni c x q
    · exact .inr (a.evo.back q)
  · cases e : I' c with
    | none => rfl
    | some x =>
      rcases d.newI c x e with e | e
      · rw [a.st.ownI m] at e
        cases e
      · obtain ⟨y, e2⟩ := a.st.there m
        rw [e] at e2
        cases e2
  · obtain ⟨e1, e2, e3⟩ := a.pu hb
    exact ⟨e1, e2, fun c x q => d.grow c x (e3 c x q)⟩

abbrev R1s := PyData → (S → Prop) → Prop
abbrev R2s := PyData → PyData → (S → Prop) → Prop
abbrev RNs := List PyData → (S → Prop) → Prop
def Op1 (X : Cx) (f : Value → Sem Value) (r : R1s) : Prop :=
  ∀ (pins : List (Addr × Obj)) (s : Shared) (σ : L2.St) (H I : Hp) (x : V) (v : Value) (d : PyData) (Q : S → Prop), Inv X pins σ H s → Sub I H → RelV x v → AR X.K I H x d → r d Q →
    wpAny (model X.prog X.w) X.A (f v) (EP X pins σ (VP X I H Q)) X.xe s
def Op2 (X : Cx) (f : Value → Value → Sem Value) (r : R2s) : Prop :=
  ∀ (pins : List (Addr × Obj)) (s : Shared) (σ : L2.St) (H I : Hp) (x y : V) (v u : Value) (d e : PyData) (Q : S → Prop), Inv X pins σ H s → Sub I H → RelV x v → RelV y u → AR X.K I H x d → AR X.K I H y e → r d e Q →
    wpAny (model X.prog X.w) X.A (f v u) (EP X pins σ (VP X I H Q)) X.xe s
def OpN (X : Cx) (f : List Value → Sem Value) (r : RNs) : Prop :=
  ∀ (pins : List (Addr × Obj)) (s : Shared) (σ : L2.St) (H I : Hp) (xs : List V) (us : List Value) (ds : List PyData) (Q : S → Prop), Inv X pins σ H s → Sub I H → Vals xs us → ARs X.K I H xs ds → r ds Q →
    wpAny (model X.prog X.w) X.A (f us) (EP X pins σ (VP X I H Q)) X.xe s

/-! ### arithmetic -/
def rAdd : R2s
  | .int i, .int j, Q => Q (.val (.int (i + j)))
  | .str x, .str y, Q => x.length + y.length ≤ sizeLine ∧ Q (.val (.str (x ++ y)))
  | .list xs, .list ys, Q => xs.length + ys.length ≤ sizeLine ∧ Q (.lst (xs ++ ys))
  | .tuple xs, .tuple ys, Q => xs.length + ys.length ≤ sizeLine ∧ Q (.val (.tuple (xs ++ ys)))
  | _, _, _ => False
theorem strOk_append {x y : Str} (hx : PyData.strOk x = true) (hy : PyData.strOk y = true) : PyData.strOk (x ++ y) = true := by
  show (x.cps ++ y.cps).all _ = true
  rw [Array.all_append]
  exact (Bool.and_eq_true _ _).mpr ⟨hx, hy⟩
theorem str_append_length (x y : Str) : (x ++ y).length = x.length + y.length := by
  show (x.cps ++ y.cps).size = x.cps.size + y.cps.size
  rw [Array.size_append]
section
variable {X : Cx}
theorem o_add : Op2 X (binaryOp .Add) rAdd := by
  intro pins s σ H I x y v u d e Q J sb rx ry px py q
  cases px with
  | int i =>
    cases py with
    | int j => exact op_add pins s σ H _ _ v u _ J rx ry ⟨i, j, rfl, rfl, .val sb (.int _) q⟩
    | _ => exact q.elim
  | str a ha za =>
    cases py with
    | str b hb zb =>
      obtain ⟨hz, q⟩ := q
      exact op_add_str pins s σ H _ _ v u _ J rx ry ⟨a, b, rfl, rfl, hz, .val sb (.str _ (strOk_append ha hb) (by rw [str_append_length]; exact hz)) q⟩
    | _ => exact q.elim
  | lst h p =>
    cases py with
    | lst h' p' =>
      obtain ⟨hz, q⟩ := q
      exact op_cat pins s σ H _ _ v u _ J rx ry ⟨_, _, _, _, rfl, rfl, h, h', by rw [p.length, p'.length]; exact hz, fun a ha => .newLst sb ha (p.append p') q⟩
    | _ => exact q.elim
  | tup h p =>
    cases py with
    | tup h' p' =>
      obtain ⟨hz, q⟩ := q
      refine op_catA pins s σ H _ _ v u _ J rx ry ⟨_, _, _, _, rfl, rfl, SqT.sub sb h, SqT.sub sb h', by rw [p.length, p'.length]; exact hz, fun e => ?_, fun _ e => ?_, fun _ _ a ha => .newTup sb ha (p.append p') q⟩
      · subst e
        cases p
        exact .val sb (.tup h' p') (by simpa using q)
      · subst e
        cases p'
        exact .val sb (.tup h p) (by simpa using q)
    | _ => exact q.elim
  | _ => exact q.elim
def rSub : R2s
  | .int i, .int j, Q => Q (.val (.int (i - j)))
  | _, _, _ => False
theorem o_sub : Op2 X (binaryOp .Sub) rSub := by
  intro pins s σ H I x y v u d e Q J sb rx ry px py q
  cases px with
  | int i =>
    cases py with
    | int j => exact op_sub pins s σ H _ _ v u _ J rx ry ⟨i, j, rfl, rfl, .val sb (.int _) q⟩
    | _ => exact q.elim
  | _ => exact q.elim
def rMod : R2s
  | .int i, .int j, Q => 0 < j ∧ Q (.val (.int (i % j)))
  | _, _, _ => False
theorem o_mod : Op2 X (binaryOp .Mod) rMod := by
  intro pins s σ H I x y v u d e Q J sb rx ry px py q
  cases px with
  | int i =>
    cases py with
    | int j => exact op_mod pins s σ H _ _ v u _ J rx ry ⟨i, j, rfl, rfl, q.1, .val sb (.int _) q.2⟩
    | _ => exact q.elim
  | _ => exact q.elim
def rFdiv : R2s
  | .int i, .int j, Q => CDiv i j ∧ Q (.val (.int (i / j)))
  | _, _, _ => False
theorem o_fdiv : Op2 X (binaryOp .FloorDiv) rFdiv := by
  intro pins s σ H I x y v u d e Q J sb rx ry px py q
  cases px with
  | int i =>
    cases py with
    | int j => exact op_fdiv pins s σ H _ _ v u _ J rx ry ⟨i, j, rfl, rfl, q.1, .val sb (.int _) q.2⟩
    | _ => exact q.elim
  | _ => exact q.elim
def rMul : R2s
  | .int i, .int j, Q => CMul i j ∧ Q (.val (.int (i * j)))
  | .list xs, .int k, Q => (-(2 ^ 63) ≤ k ∧ k < 2 ^ 63 ∧ xs.length * k.toNat ≤ sizeLine) ∧ Q (.lst (List.replicate k.toNat xs).flatten)
  | .tuple xs, .int k, Q => (xs ≠ [] ∧ 2 ≤ k ∧ k ≤ 1000 ∧ xs.length ≤ 1000) ∧ Q (.val (.tuple (List.replicate k.toNat xs).flatten))
  | _, _, _ => False
theorem PRs.rep {K : PySem.W.Frag} {I : Hp} {vs : List V} {ds : List PyData} (p : PRs K I vs ds) : ∀ n : Nat, PRs K I (List.replicate n vs).flatten (List.replicate n ds).flatten
  | 0 => .nil
  | n + 1 => by
    rw [List.replicate_succ, List.replicate_succ, List.flatten_cons, List.flatten_cons]
    exact p.append (PRs.rep p n)
theorem PRs.ne_nil {K : PySem.W.Frag} {I : Hp} {vs : List V} {ds : List PyData} (p : PRs K I vs ds) (h : ds ≠ []) : vs ≠ [] := fun e => by
  subst e
  cases p
  exact h rfl
theorem o_mul : Op2 X (binaryOp .Mult) rMul := by
  intro pins s σ H I x y v u d e Q J sb rx ry px py q
  cases px with
  | int i =>
    cases py with
    | int j => exact op_mul pins s σ H _ _ v u _ J rx ry ⟨i, j, rfl, rfl, q.1, .val sb (.int _) q.2⟩
    | _ => exact q.elim
  | lst h p =>
    cases py with
    | int k =>
      obtain ⟨⟨h1, h2, h3⟩, q⟩ := q
      exact op_rep pins s σ H _ _ v u _ J rx ry ⟨_, k, _, rfl, rfl, h, h1, h2, by rw [p.length]; exact h3, fun a ha => .newLst sb ha (p.rep _) q⟩
    | _ => exact q.elim
  | tup h p =>
    cases py with
    | int k =>
      obtain ⟨⟨h1, h2, h3, h4⟩, q⟩ := q
      exact op_repT pins s σ H _ _ v u _ J rx ry ⟨_, k, _, rfl, rfl, SqT.sub sb h, p.ne_nil h1, h2, h3, by rw [p.length]; exact h4, fun a ha => .newTup sb ha (p.rep _) q⟩
    | _ => exact q.elim
  | _ => exact q.elim
def rPow : R2s
  | .int i, .int j, Q => CPow i j ∧ Q (.val (.int (i ^ j.toNat)))
  | _, _, _ => False
theorem o_pow : Op2 X (binaryOp .Pow) rPow := by
  intro pins s σ H I x y v u d e Q J sb rx ry px py q
  cases px with
  | int i =>
    cases py with
    | int j => exact op_pow pins s σ H _ _ v u _ J rx ry ⟨i, j, rfl, rfl, q.1, .val sb (.int _) q.2⟩
    | _ => exact q.elim
  | _ => exact q.elim
def rNeg : R1s
  | .int i, Q => Q (.val (.int (-i)))
  | _, _ => False
theorem o_neg : Op1 X (unaryOp .USub) rNeg := by
  intro pins s σ H I x v d Q J sb rx px q
  cases px with
  | int i => exact un_neg pins s σ H _ v _ J rx ⟨i, rfl, .val sb (.int _) q⟩
  | _ => exact q.elim

/-! ### comparisons -/
def rEq : R2s := fun d e Q => (d.depth ≤ 64 ∧ e.depth ≤ 64) ∧ Q (.val (.bool (PyData.eqv d e)))
def rNe : R2s := fun d e Q => (d.depth ≤ 64 ∧ e.depth ≤ 64) ∧ Q (.val (.bool (!PyData.eqv d e)))
theorem shaped_of {d : PyData} (h : d.canLay0 = true) (z : d.depth ≤ 64) : SeqAt.shaped d = true := by
  unfold SeqAt.shaped
  rw [h, decide_eq_true z]
  rfl
theorem o_eq (hu : X.A.units + 64 < cLine) : Op2 X (compareOp .Eq) rEq := by
  intro pins s σ H I x y v u d e Q J sb rx ry px py q
  obtain ⟨as, r1⟩ := px.reads J sb rx
  obtain ⟨bs, r2⟩ := py.reads J sb ry
  exact eq_dataH r1 r2 (shaped_of px.canLay q.1.1) (shaped_of py.canLay q.1.2) hu ⟨.bl _, H, J, rfl, .val sb (.bl _) q.2⟩
theorem o_ne (hu : X.A.units + 64 < cLine) : Op2 X (compareOp .NotEq) rNe := by
  intro pins s σ H I x y v u d e Q J sb rx ry px py q
  obtain ⟨as, r1⟩ := px.reads J sb rx
  obtain ⟨bs, r2⟩ := py.reads J sb ry
  exact ne_dataH r1 r2 (shaped_of px.canLay q.1.1) (shaped_of py.canLay q.1.2) hu ⟨.bl _, H, J, rfl, .val sb (.bl _) q.2⟩
def rLt : R2s
  | .int i, .int j, Q => Q (.val (.bool (decide (i < j))))
  | .str x, .str y, Q => Q (.val (.bool (decide (x.cps.toList < y.cps.toList))))
  | _, _, _ => False
def rLe : R2s
  | .int i, .int j, Q => Q (.val (.bool (decide (i ≤ j))))
  | .str x, .str y, Q => Q (.val (.bool (!decide (y.cps.toList < x.cps.toList))))
  | _, _, _ => False
def rGt : R2s
  | .int i, .int j, Q => Q (.val (.bool (decide (j < i))))
  | .str x, .str y, Q => Q (.val (.bool (decide (y.cps.toList < x.cps.toList))))
  | _, _, _ => False
def rGe : R2s
  | .int i, .int j, Q => Q (.val (.bool (decide (j ≤ i))))
  | .str x, .str y, Q => Q (.val (.bool (!decide (x.cps.toList < y.cps.toList))))
  | _, _, _ => False
theorem o_lt : Op2 X (compareOp .Lt) rLt := by
  intro pins s σ H I x y v u d e Q J sb rx ry px py q
  cases px with
  | int i =>
    cases py with
    | int j => exact op_lt pins s σ H _ _ v u _ J rx ry ⟨i, j, rfl, rfl, .val sb (.bl _) q⟩
    | _ => exact q.elim
  | str a _ _ =>
    cases py with
    | str b _ _ => exact op_lt_str pins s σ H _ _ v u _ J rx ry ⟨a, b, rfl, rfl, .val sb (.bl _) q⟩
    | _ => exact q.elim
  | _ => exact q.elim
theorem o_le : Op2 X (compareOp .LtE) rLe := by
  intro pins s σ H I x y v u d e Q J sb rx ry px py q
  cases px with
  | int i =>
    cases py with
    | int j => exact op_le pins s σ H _ _ v u _ J rx ry ⟨i, j, rfl, rfl, .val sb (.bl _) q⟩
    | _ => exact q.elim
  | str a _ _ =>
    cases py with
    | str b _ _ => exact op_le_str pins s σ H _ _ v u _ J rx ry ⟨a, b, rfl, rfl, .val sb (.bl _) q⟩
    | _ => exact q.elim
  | _ => exact q.elim
theorem o_gt : Op2 X (compareOp .Gt) rGt := by
  intro pins s σ H I x y v u d e Q J sb rx ry px py q
  cases px with
  | int i =>
    cases py with
    | int j => exact op_gt pins s σ H _ _ v u _ J rx ry ⟨i, j, rfl, rfl, .val sb (.bl _) q⟩
    | _ => exact q.elim
  | str a _ _ =>
    cases py with
    | str b _ _ => exact op_gt_str pins s σ H _ _ v u _ J rx ry ⟨a, b, rfl, rfl, .val sb (.bl _) q⟩
    | _ => exact q.elim
  | _ => exact q.elim
theorem o_ge : Op2 X (compareOp .GtE) rGe := by
  intro pins s σ H I x y v u d e Q J sb rx ry px py q
  cases px with
  | int i =>
    cases py with
    | int j => exact op_ge pins s σ H _ _ v u _ J rx ry ⟨i, j, rfl, rfl, .val sb (.bl _) q⟩
    | _ => exact q.elim
  | str a _ _ =>
    cases py with
    | str b _ _ => exact op_ge_str pins s σ H _ _ v u _ J rx ry ⟨a, b, rfl, rfl, .val sb (.bl _) q⟩
    | _ => exact q.elim
  | _ => exact q.elim
def inD (d : PyData) (xs : List PyData) : Bool := xs.any fun z => PyData.eqv z d
def rIn : R2s
  | d, .list xs, Q => d.depth ≤ 64 ∧ Q (.val (.bool (inD d xs)))
  | d, .tuple xs, Q => d.depth ≤ 64 ∧ Q (.val (.bool (inD d xs)))
  | .str x, .str y, Q => Q (.val (.bool (!(Builtin.Str.occurrences y x 0 y.length 1).isEmpty)))
  | _, _, _ => False
def rNotIn : R2s
  | d, .list xs, Q => d.depth ≤ 64 ∧ Q (.val (.bool (!inD d xs)))
  | d, .tuple xs, Q => d.depth ≤ 64 ∧ Q (.val (.bool (!inD d xs)))
  | .str x, .str y, Q => Q (.val (.bool (!(!(Builtin.Str.occurrences y x 0 y.length 1).isEmpty))))
  | _, _, _ => False
theorem o_in (hu : X.A.units + 65 < cLine) : Op2 X (compareOp .In) rIn := by
  intro pins s σ H I x y v u d e Q J sb rx ry px py q
  cases py with
  | @lst a0 vs0 ds0 h p =>
    obtain ⟨as, r1⟩ := px.reads J sb rx
    obtain ⟨bs, r2⟩ := (AR.lst h p).reads J sb ry
    have hq : d.depth ≤ 64 ∧ Q (.val (.bool (inD d ds0))) := by cases d <;> exact q
    exact SeqAt.in_list_reads r2 r1 (AR.lst (I := I) (H := H) h p).canLay px.canLay (room_in_shaped (shaped_of px.canLay hq.1) hu) ⟨.bl _, H, J, rfl, .val sb (.bl _) hq.2⟩
  | @tup a0 vs0 ds0 h p =>
    obtain ⟨as, r1⟩ := px.reads J sb rx
    obtain ⟨bs, r2⟩ := (AR.tup h p).reads J sb ry
    have hq : d.depth ≤ 64 ∧ Q (.val (.bool (inD d ds0))) := by cases d <;> exact q
    exact SeqAt.in_tuple_reads r2 r1 (AR.tup (H := H) h p).canLay px.canLay (room_in_shaped (shaped_of px.canLay hq.1) hu) ⟨.bl _, H, J, rfl, .val sb (.bl _) hq.2⟩
  | str b _ _ =>
    cases px with
    | str a _ _ => exact op_in_str pins s σ H _ _ v u _ J rx ry ⟨a, b, rfl, rfl, .val sb (.bl _) q⟩
    | _ => exact q.elim
  | _ => cases px <;> exact q.elim
theorem o_notIn (hu : X.A.units + 65 < cLine) : Op2 X (compareOp .NotIn) rNotIn := by
  intro pins s σ H I x y v u d e Q J sb rx ry px py q
  cases py with
  | @lst a0 vs0 ds0 h p =>
    obtain ⟨as, r1⟩ := px.reads J sb rx
    obtain ⟨bs, r2⟩ := (AR.lst h p).reads J sb ry
    have hq : d.depth ≤ 64 ∧ Q (.val (.bool (!inD d ds0))) := by cases d <;> exact q
    exact SeqAt.notIn_list_reads r2 r1 (AR.lst (I := I) (H := H) h p).canLay px.canLay (room_in_shaped (shaped_of px.canLay hq.1) hu) ⟨.bl _, H, J, rfl, .val sb (.bl _) hq.2⟩
  | @tup a0 vs0 ds0 h p =>
    obtain ⟨as, r1⟩ := px.reads J sb rx
    obtain ⟨bs, r2⟩ := (AR.tup h p).reads J sb ry
    have hq : d.depth ≤ 64 ∧ Q (.val (.bool (!inD d ds0))) := by cases d <;> exact q
    exact SeqAt.notIn_tuple_reads r2 r1 (AR.tup (H := H) h p).canLay px.canLay (room_in_shaped (shaped_of px.canLay hq.1) hu) ⟨.bl _, H, J, rfl, .val sb (.bl _) hq.2⟩
  | str b _ _ =>
    cases px with
    | str a _ _ => exact L2.op_notIn_str pins s σ H _ _ v u _ J rx ry ⟨a, b, rfl, rfl, .val sb (.bl _) q⟩
    | _ => exact q.elim
  | _ => cases px <;> exact q.elim
def isNo : PyData → Bool
  | .none => true
  | _ => false
def rIs : R2s := fun d e Q => e = .none ∧ Q (.val (.bool (isNo d)))
def rIsNot : R2s := fun d e Q => e = .none ∧ Q (.val (.bool (!isNo d)))
theorem AR.isNo {K : PySem.W.Frag} {I H : Hp} {v : V} {d : PyData} (p : AR K I H v d) : decide (v = .non) = isNo d := by
  cases p <;> rfl
theorem o_is : Op2 X (compareOp .Is) rIs := by
  intro pins s σ H I x y v u d e Q J sb rx ry px py q
  obtain ⟨rfl, q⟩ := q
  cases py
  exact op_isN pins s σ H x _ v u _ J rx ry ⟨rfl, by rw [px.isNo]; exact .val sb (.bl _) q⟩
theorem o_isNot : Op2 X (compareOp .IsNot) rIsNot := by
  intro pins s σ H I x y v u d e Q J sb rx ry px py q
  obtain ⟨rfl, q⟩ := q
  cases py
  exact op_notN pins s σ H x _ v u _ J rx ry ⟨rfl, by rw [px.isNo]; exact .val sb (.bl _) q⟩

/-! ### truth -/
def tru : PyData → Bool
  | .none => false
  | .bool b => b
  | .int i => i != 0
  | .str x => (x.length : Int) != 0
  | .list xs => !xs.isEmpty
  | .tuple xs => !xs.isEmpty
  | .dict xs => !xs.isEmpty
theorem PRs.isEmpty {K : PySem.W.Frag} {I : Hp} {vs : List V} {ds : List PyData} (p : PRs K I vs ds) : vs.isEmpty = ds.isEmpty := by
  cases p <;> rfl
theorem AR.tru {K : PySem.W.Frag} {I H : Hp} {v : V} {d : PyData} (sb : Sub I H) (p : AR K I H v d) : TruV K v H (tru d) := by
  cases p with
  | non => rfl
  | bl b => rfl
  | int i => rfl
  | str x _ z => exact ⟨z, rfl⟩
  | tup h p => exact .inr (.inl ⟨_, SqT.sub sb h, by rw [p.isEmpty]; rfl⟩)
  | lst h p => exact .inl ⟨_, SqL.of h, by rw [p.isEmpty]; rfl⟩

/-! ### items and slices -/
def rIx : R2s
  | .list xs, .int i, Q => need (atI xs i) fun d => Q (.val d)
  | .tuple xs, .int i, Q => need (atI xs i) fun d => Q (.val d)
  | .str x, .int i, Q => need (atI x.cps.toList i) fun c => Q (.val (.str ⟨#[c]⟩))
  | _, _, _ => False
theorem atI_rel {K : PySem.W.Frag} {I : Hp} {vs : List V} {ds : List PyData} {i : Int} {d : PyData} (p : PRs K I vs ds) (h : atI ds i = some d) : ∃ v, atI vs i = some v ∧ PR K I v d := by
  unfold atI at h ⊢
  rw [p.length]
  cases e : ixN ds.length i with
  | none =>
    rw [e] at h
    cases h
  | some j =>
    rw [e] at h
    obtain ⟨v, h1, h2⟩ := p.get h
    exact ⟨v, h1, h2⟩
theorem strOk_at {x : Str} {i : Int} {c : Nat} (h : PyData.strOk x = true) (e : atI x.cps.toList i = some c) : PyData.strOk ⟨#[c]⟩ = true := by
  obtain ⟨j, _, h2, _⟩ := atI_get e
  have hm : c ∈ x.cps := by
    have := List.mem_of_getElem? h2
    simpa using this
  have := (Array.all_eq_true_iff_forall_mem.mp h) c hm
  show (#[c] : Array Nat).all _ = true
  simpa using this
theorem sizeLine_pos : 1 ≤ sizeLine := by rw [sizeLine_eq]; decide
/-- a[b] -/
def IxOp (X : Cx) (r : R2s) : Prop :=
  ∀ (value slice : Expr) (pins : List (Addr × Obj)) (s : Shared) (σ : L2.St) (H I : Hp) (x y : V) (v u : Value) (d e : PyData) (Q : S → Prop), Inv X pins σ H s → Sub I H → RelV x v → RelV y u → AR X.K I H x d → AR X.K I H y e → r d e Q → PlainIx slice →
    wpAny (model X.prog X.w) X.A (subscriptTail value slice v u) (EP X pins σ (VP X I H Q)) X.xe s
theorem o_ix : IxOp X rIx := by
  intro value slice pins s σ H I x y v u d e Q J sb rx ry px py q hs
  cases px with
  | lst h p =>
    cases py with
    | int i =>
      obtain ⟨d, e, q⟩ := need_some q
      obtain ⟨w, h1, h2⟩ := atI_rel p e
      exact ix_list value slice pins s σ H _ _ v u _ J rx ry ⟨_, _, i, w, rfl, rfl, SqL.of h, h1, .val sb h2 q⟩ (hs _ _)
    | _ => exact q.elim
  | tup h p =>
    cases py with
    | int i =>
      obtain ⟨d, e, q⟩ := need_some q
      obtain ⟨w, h1, h2⟩ := atI_rel p e
      exact ix_tup value slice pins s σ H _ _ v u _ J rx ry ⟨_, _, i, w, rfl, rfl, SqT.sub sb h, h1, .val sb h2 q⟩ (hs _ _)
    | _ => exact q.elim
  | str a ha za =>
    cases py with
    | int i =>
      obtain ⟨c, e, q⟩ := need_some q
      exact ix_str value slice pins s σ H _ _ v u _ J rx ry ⟨a, i, c, rfl, rfl, za, e, .val sb (.str _ (strOk_at ha e) sizeLine_pos) q⟩ (hs _ _)
    | _ => exact q.elim
  | _ => exact q.elim
def cutD {α : Type} (xs : List α) (lo hi : Option Int) : List α := (xs.drop (HT.sIx xs.length 0 lo)).take (HT.sIx xs.length xs.length hi - HT.sIx xs.length 0 lo)
theorem cut_rel {K : PySem.W.Frag} {I : Hp} {vs : List V} {ds : List PyData} (p : PRs K I vs ds) (lo hi : Option Int) : PRs K I (cutV vs lo hi) (cutD ds lo hi) := by
  unfold cutV cutD
  rw [p.length]
  exact (p.drop _).take _
theorem cut_whole {xs : List PyData} {lo hi : Option Int} (h : HT.sIx xs.length 0 lo = 0 ∧ HT.sIx xs.length xs.length hi = xs.length) : cutD xs lo hi = xs := by
  unfold cutD
  rw [h.1, h.2]
  simp
def rSl : PyData → Option Int → Option Int → (S → Prop) → Prop
  | .list xs, lo, hi, Q => Q (.lst (cutD xs lo hi))
  | .tuple xs, lo, hi, Q => Q (.val (.tuple (cutD xs lo hi)))
  | .str x, lo, hi, Q => Q (.val (.str (cutS x lo hi)))
  | _, _, _, _ => False
theorem strOk_cut {x : Str} (h : PyData.strOk x = true) (lo hi : Option Int) : PyData.strOk (cutS x lo hi) = true := by
  refine Array.all_eq_true_iff_forall_mem.mpr fun c hc => ?_
  refine (Array.all_eq_true_iff_forall_mem.mp h) c ?_
  unfold cutS at hc
  have hc' : c ∈ (x.cps.toList.drop (HT.sIx x.length 0 lo)).take (HT.sIx x.length x.length hi - HT.sIx x.length 0 lo) := by simpa using hc
  have := List.mem_of_mem_drop (List.mem_of_mem_take hc')
  simpa using this
def SlOp (X : Cx) (r : PyData → Option Int → Option Int → (S → Prop) → Prop) : Prop :=
  ∀ (I : Hp) (Q : S → Prop) (d : PyData) (lo hi : Option Int), r d lo hi Q → ∀ (x : V) (H : Hp), Sub I H → AR X.K I H x d → ∃ r2, SlR X r2 ∧ r2 x lo hi H (VP X I H Q)
theorem o_sl : SlOp X rSl := by
  intro I Q d lo hi q x H sb px
  cases px with
  | lst h p => exact ⟨_, sl_list, _, _, rfl, SqL.of h, fun a ha => .newLst sb ha (cut_rel p lo hi) q⟩
  | tup h p =>
    refine ⟨_, sl_tupA, _, _, rfl, SqT.sub sb h, fun e => ?_, fun _ a ha => .newTup sb ha (cut_rel p lo hi) q⟩
    rw [p.length] at e
    refine .val sb (.tup h p) ?_
    have q' : Q (.val (.tuple (cutD _ lo hi))) := q
    rw [cut_whole e] at q'
    exact q'
  | str a ha za => exact ⟨_, sl_str, a, rfl, za, .val sb (.str _ (strOk_cut ha lo hi) (Nat.le_trans (cutS_length a lo hi) za)) q⟩
  | _ => exact (show False from q).elim
end
end SV
/-! SvD: rules of expressions. -/
namespace SV
open PySem PySem.Spec PyProof.Rows L2

/-- by a bool -/
inductive ifb (k : Bool) (A B : Prop) : Prop
  | mk : (k = true → A) → (k = false → B) → ifb k A B
theorem ifb_of {k : Bool} {A B : Prop} (h1 : k = true → A) (h2 : k = false → B) : ifb k A B := ⟨h1, h2⟩
theorem ifb_t {k : Bool} {A B : Prop} (e : k = true) (h : A) : ifb k A B := .mk (fun _ => h) (fun z => by rw [e] at z; cases z)
theorem ifb_f {k : Bool} {A B : Prop} (e : k = false) (h : B) : ifb k A B := .mk (fun z => by rw [e] at z; cases z) (fun _ => h)
theorem ifb.tt {A B : Prop} (h : ifb true A B) : A := match h with
  | .mk a _ => a rfl
theorem ifb.ff {A B : Prop} (h : ifb false A B) : B := match h with
  | .mk _ b => b rfl
theorem ifb_dec {p : Prop} [Decidable p] {A B : Prop} (h1 : p → A) (h2 : ¬ p → B) : ifb (decide p) A B :=
  ifb_of (fun e => h1 (of_decide_eq_true e)) fun e => h2 (of_decide_eq_false e)

section
variable {X : Cx} {ar : Nat → Option V} {a b c e : Expr} {b1 b2 b3 m1 m2 m3 : Bool} {ta tb tc : TEs} {pos : Pos}

theorem TX.upd {I H I1 H1 : Hp} {F F1 : Nat → List Addr} {o1 : Addr → Prop} {ES : XS} (t : TX X ar I H (own F) ES) (a : Evo I H (own F) I1 H1 o1) (h : ∀ c, own F1 c → o1 c) : TX X ar I1 H1 (own F1) ES := t.go a h

/-! ### names, constants -/
/-- a name that holds pure data -/
def sVar (i : Nat) : TEs := fun σs Q _ => match gets σs i with
  | some (.val d) => Q (.val d) σs
  | _ => False
/-- a name, only looked at -/
def sView (i : Nat) : TEs := fun σs Q _ => nd (gets σs i) fun r => Q r σs
/-- a name whose own list is never changed from here on -/
def sFrz (i : Nat) : TEs := fun σs Q _ => nd (gets σs i) fun r => nd r.toD fun d => Q (.val d) (sets σs i (some (.val d)))
/-- a name that is given away -/
def sMov (i : Nat) : TEs := fun σs Q _ => nd (gets σs i) fun r => Q r (sets σs i none)
def sC (d : PyData) : TEs := fun σs Q _ => Q (.val d) σs

theorem eval_name {i : Nat} {x : Str} {pins : List (Addr × Obj)} {s : Shared} {σ : L2.St} {H : Hp} {v : V} {P : Value → Shared → Prop} (J : Inv X pins σ H s) (hN : X.N[i]? = some x) (hv : Vis X.env.scope x) (e1 : σ[i]? = some (some v))
    (hd : (x == ("__debug__" : Str)) = false) (hcd : (x == ("__classdict__" : Str)) = false) (h : ∀ u s', Inv X pins σ H s' → RelV v u → P u s') : wpAny (model X.prog X.w) X.A (eval (.Name x pos) X.env) P X.xe s :=
  thn ((pe_var (X := X) (pos := pos) hN hv hd hcd).run pins s σ H (fun w H' => w = v ∧ H' = H) J ⟨v, e1, rfl, rfl⟩) fun u s' ⟨w, H', J', r, ew, eH⟩ => by
    subst ew
    rw [eH] at J'
    exact h u s' J' r
variable {i : Nat} {x : Str}
theorem je_var (i : Nat) (hN : X.N[i]? = some x := by rfl) (hv : Vis X.env.scope x := by first | exact Or.inl rfl | exact Or.inr (Or.inl rfl) | exact Or.inr (Or.inr rfl)) (hd : (x == ("__debug__" : Str)) = false := by decide)
    (hcd : (x == ("__classdict__" : Str)) = false := by decide) : JE X ar true true (.Name x pos) (sVar i) := by
  refine ⟨fun pins s σ I H F σs Q ES J st tx q => ?_⟩
  unfold sVar at q
  cases e : gets σs i with
  | none => rw [e] at q; exact q.elim
  | some r =>
    obtain ⟨v, e1, sr⟩ := st.rep i r e
    rw [e] at q
    cases r with
    | val d => exact eval_name J hN hv e1 hd hcd fun u s' J' rv => RP.val J' st sr.val_inv.2 rv q
    | _ => exact q.elim
theorem je_view (i : Nat) (hN : X.N[i]? = some x := by rfl) (hv : Vis X.env.scope x := by first | exact Or.inl rfl | exact Or.inr (Or.inl rfl) | exact Or.inr (Or.inr rfl)) (hd : (x == ("__debug__" : Str)) = false := by decide)
    (hcd : (x == ("__classdict__" : Str)) = false := by decide) : JE X ar true false (.Name x pos) (sView i) := by
  refine ⟨fun pins s σ I H F σs Q ES J st tx q => ?_⟩
  obtain ⟨r, e, q⟩ := nd_some q
  obtain ⟨v, e1, sr⟩ := st.rep i r e
  refine eval_name J hN hv e1 hd hcd fun u s' J' rv => ?_
  refine ⟨v, r, F i, I, H, F, σs, ⟨J', ⟨.refl I, fun _ _ h _ => h, fun a m => ?_, fun _ _ h => .inl h⟩, st, sr, (fun z => Bool.noConfusion z), fun a m => st.notI i a m, fun _ => ⟨rfl, rfl, fun _ _ h => h⟩⟩, rv, q⟩
  rcases m with m | m
  · exact .inl ⟨i, m⟩
  · exact .inl m
theorem je_frz (i : Nat) (hN : X.N[i]? = some x := by rfl) (hv : Vis X.env.scope x := by first | exact Or.inl rfl | exact Or.inr (Or.inl rfl) | exact Or.inr (Or.inr rfl)) (hd : (x == ("__debug__" : Str)) = false := by decide)
    (hcd : (x == ("__classdict__" : Str)) = false := by decide) : JE X ar false true (.Name x pos) (sFrz i) := by
  refine ⟨fun pins s σ I H F σs Q ES J st tx q => ?_⟩
  obtain ⟨r, e, q⟩ := nd_some q
  obtain ⟨d, ed, q⟩ := nd_some q
  obtain ⟨v, e1, p, st', ev⟩ := st.freeze e ed
  refine eval_name J hN hv e1 hd hcd fun u s' J' rv => ?_
  exact ⟨v, .val d, [], _, H, _, _, ⟨J', ⟨ev.up, ev.fr, fun a m => by rcases m with m | m; cases m; exact ev.nw a m, ev.ni⟩, st', .val p, fun _ a m => absurd m (by simp), fun a m => absurd m (by simp), (fun z => Bool.noConfusion z)⟩, rv, q⟩
theorem je_mov (i : Nat) (hN : X.N[i]? = some x := by rfl) (hv : Vis X.env.scope x := by first | exact Or.inl rfl | exact Or.inr (Or.inl rfl) | exact Or.inr (Or.inr rfl)) (hd : (x == ("__debug__" : Str)) = false := by decide)
    (hcd : (x == ("__classdict__" : Str)) = false := by decide) : JE X ar false true (.Name x pos) (sMov i) := by
  refine ⟨fun pins s σ I H F σs Q ES J st tx q => ?_⟩
  obtain ⟨r, e, q⟩ := nd_some q
  obtain ⟨v, e1, sr⟩ := st.rep i r e
  refine eval_name J hN hv e1 hd hcd fun u s' J' rv => ?_
  refine ⟨v, r, F i, I, H, drop1 F i, _, ⟨J', ⟨.refl I, fun _ _ h _ => h, fun a m => ?_, fun _ _ h => .inl h⟩, st.forget i, sr, fun _ a m z => drop1_not st z m, fun a m => st.notI i a m, (fun z => Bool.noConfusion z)⟩, rv, q⟩
  rcases m with m | m
  · exact .inl ⟨i, m⟩
  · exact .inl (own_of_drop1 m)
/-- an expression of the layer below whose value is a constant -/
theorem je_const {v : V} {d : PyData} (h : PE X e (tC v)) (p : ∀ I, PR X.K I v d) : JE X ar true true e (sC d) := by
  refine ⟨fun pins s σ I H F σs Q ES J st tx q => ?_⟩
  refine thn (h.run pins s σ H (fun w H' => w = v ∧ H' = H) J ⟨rfl, rfl⟩) fun u s' ⟨w, H', J', r, ew, eH⟩ => ?_
  subst ew
  rw [eH] at J'
  exact RP.val J' st (p I) r q
theorem je_int {i j pos} : JE X ar true true (.Constant (.int i) j pos) (sC (.int i)) := je_const pe_int fun _ => .int _
theorem je_bl {i j pos} : JE X ar true true (.Constant (.bool i) j pos) (sC (.bool i)) := je_const pe_bl fun _ => .bl _
theorem je_non {j pos} : JE X ar true true (.Constant .none j pos) (sC .none) := je_const pe_non fun _ => .non
theorem je_str {x : Str} {j pos} (h1 : PyData.strOk x = true := by decide +kernel) (h2 : x.length ≤ sizeLine := by decide +kernel) : JE X ar true true (.Constant (.str x) j pos) (sC (.str x)) := je_const pe_str fun _ => .str _ h1 h2
/-- a module's constant of pure data -/
theorem je_glob {v : V} {u : Value} {d : PyData} (hg : Gl X x) (hm : X.mg x = some u) (r : RelV v u) (p : ∀ I, PR X.K I v d) (hd : (x == ("__debug__" : Str)) = false := by decide) : JE X ar true true (.Name x pos) (sC d) :=
  je_const (pe_glob hg hm r hd) p

/-! ### operators -/
def s2 (r : R2s) (ta tb : TEs) : TEs := fun σs Q ES => ta σs (fun x σ1 => nd x.toD fun dx => tb σ1 (fun y σ2 => nd y.toD fun dy => r dx dy fun z => Q z σ2) ES) ES
def s1 (r : R1s) (ta : TEs) : TEs := fun σs Q ES => ta σs (fun x σ1 => nd x.toD fun dx => r dx fun z => Q z σ1) ES
theorem two {f : Value → Value → Sem Value} {r : R2s} (ho : Op2 X f r) (ha : JE X ar b1 m1 a ta) (hb : JE X ar b2 m2 b tb) (hm : m1 = true ∨ b2 = true) {pins : List (Addr × Obj)} {s : Shared} {σ : L2.St} {I H : Hp} {F : Nat → List Addr} {σs : SSt} {Q : KS} {ES : XS}
    (J : Inv X pins σ H s) (st : StR X.K ar I H σ σs F) (tx : TX X ar I H (own F) ES) (q : s2 r ta tb σs Q ES) :
    wpAny (model X.prog X.w) X.A (eval a X.env) (fun v s₁ => wpAny (model X.prog X.w) X.A (eval b X.env) (fun u s₂ => wpAny (model X.prog X.w) X.A (f v u) (RP X ar pins σ (b1 && b2) true I H F σs Q) X.xe s₂) X.xe s₁) X.xe s := by
  refine thn (ha.run pins s σ I H F σs _ ES J st tx q) fun v s1 ⟨x, rx, R1, I1, H1, F1, σ1, h1, r1, q1⟩ => ?_
  obtain ⟨dx, ex, q1⟩ := nd_some q1
  refine thn (hb.run pins s1 σ I1 H1 F1 σ1 _ ES h1.inv h1.st (tx.go h1.base.evo fun _ z => z) q1) fun u s2 ⟨y, ry, R2, I2, H2, F2, σ2, h2, r2, q2⟩ => ?_
  obtain ⟨dy, ey, q2⟩ := nd_some q2
  obtain ⟨sx, _, _, _⟩ := h1.over h2.base hm
  exact thn (ho pins s2 σ H2 I2 x y v u dx dy _ h2.inv h2.st.sub r1 r2 (sx.ar h2.st.sub ex) (h2.sr.ar h2.st.sub ey) q2) fun w s3 h => RP.of_vp (h1.base.then h2.base) h
theorem je_op2 {op : Operator} {r : R2s} (ho : Op2 X (binaryOp op) r) (ha : JE X ar b1 m1 a ta) (hb : JE X ar b2 m2 b tb) (hm : m1 = true ∨ b2 = true := by first | exact Or.inl rfl | exact Or.inr rfl) : JE X ar (b1 && b2) true (.BinOp a op b pos) (s2 r ta tb) :=
  ⟨fun pins s σ I H F σs Q ES J st tx q => wpAny_BinOp (two ho ha hb hm J st tx q)⟩
theorem je_un {op : UnaryOp} {r : R1s} (ho : Op1 X (unaryOp op) r) (ha : JE X ar b1 m1 a ta) : JE X ar b1 true (.UnaryOp op a pos) (s1 r ta) := by
  refine ⟨fun pins s σ I H F σs Q ES J st tx q => ?_⟩
  refine UnaryOp_ (thn (ha.run pins s σ I H F σs _ ES J st tx q) fun v s1 ⟨x, rx, R1, I1, H1, F1, σ1, h1, r1, q1⟩ => ?_)
  obtain ⟨dx, ex, q1⟩ := nd_some q1
  exact thn (ho pins s1 σ H1 I1 x v dx _ h1.inv h1.st.sub r1 (h1.sr.ar h1.st.sub ex) q1) fun w s3 h => RP.of_vp h1.base h
theorem je_cmp {op : CmpOp} {r : R2s} (ho : Op2 X (compareOp op) r) (ha : JE X ar b1 m1 a ta) (hb : JE X ar b2 m2 b tb) (hk : behindInMarks op b = false := by first | exact nobehind _ (by decide) (by decide) | rfl | with_unfolding_all rfl)
    (hm : m1 = true ∨ b2 = true := by first | exact Or.inl rfl | exact Or.inr rfl) : JE X ar (b1 && b2) true (.Compare a [op] [b] pos) (s2 r ta tb) :=
  ⟨fun pins s σ I H F σs Q ES J st tx q => wpAny_Compare1 (two ho ha hb hm J st tx q) hk⟩

/-- a value as a test -/
def tT (t : TEs) : TTs := fun σs Q ES => t σs (fun r σ1 => nd r.toD fun d => Q (tru d) σ1) ES
theorem tru_run {pins : List (Addr × Obj)} {s : Shared} {σ : L2.St} {I H : Hp} {x : V} {v : Value} {d : PyData} {P : Bool → Shared → Prop} (J : Inv X pins σ H s) (sb : Sub I H) (rx : RelV x v) (h : AR X.K I H x d) (q : ∀ s', Inv X pins σ H s' → P (tru d) s') :
    wpAny (model X.prog X.w) X.A (truthy v) P X.xe s :=
  thn (tru_ok pins s σ H x v (fun k H' => k = tru d ∧ H' = H) J rx ⟨_, h.tru sb, rfl, rfl⟩) fun k s' ⟨H', J', ek, eH⟩ => by
    subst ek
    rw [eH] at J'
    exact q s' J'
theorem jt_val {e : Expr} {t : TEs} (h : JE X ar b1 m1 e t) (he : ∀ whole, isTrue e X.env whole = (do let v ← whole; standAt e.pos; holding [v] (truthy v)) := by intro _; rfl) : JT X ar b1 e (tT t) := by
  refine ⟨fun pins s σ I H F σs Q ES J st tx q => ?_⟩
  refine isTrue_plain (thn (h.run pins s σ I H F σs _ ES J st tx q) fun v s1 ⟨x, rx, R1, I1, H1, F1, σ1, h1, r1, q1⟩ => ?_) (he _)
  obtain ⟨d, ex, q1⟩ := nd_some q1
  refine tru_run h1.inv h1.st.sub r1 (h1.sr.ar h1.st.sub ex) fun s' J' => ⟨I1, H1, F1, σ1, ⟨J', h1.base.evo, h1.st, h1.pu⟩, q1⟩
theorem RP.tru {pins : List (Addr × Obj)} {s : Shared} {σ : L2.St} {I H : Hp} {F : Nat → List Addr} {σs : SSt} {Q : Bool → SSt → Prop} {c : Value} (h : RP X ar pins σ b1 m1 I H F σs (fun r σ1 => nd r.toD fun d => Q (tru d) σ1) c s) :
    wpAny (model X.prog X.w) X.A (truthy c) (BP X ar pins σ b1 I H F σs Q) X.xe s := by
  obtain ⟨x, rx, R1, I1, H1, F1, σ1, h1, r1, q1⟩ := h
  obtain ⟨d, ex, q1⟩ := nd_some q1
  exact tru_run h1.inv h1.st.sub r1 (h1.sr.ar h1.st.sub ex) fun s' J' => ⟨I1, H1, F1, σ1, ⟨J', h1.base.evo, h1.st, h1.pu⟩, q1⟩
theorem jt_cmp {op : CmpOp} {r : R2s} (ho : Op2 X (compareOp op) r) (ha : JE X ar b1 m1 a ta) (hb : JE X ar b2 m2 b tb) (hk : behindInMarks op b = false := by first | exact nobehind _ (by decide) (by decide) | rfl | with_unfolding_all rfl)
    (hm : m1 = true ∨ b2 = true := by first | exact Or.inl rfl | exact Or.inr rfl) : JT X ar (b1 && b2) (.Compare a [op] [b] pos) (tT (s2 r ta tb)) := by
  refine ⟨fun pins s σ I H F σs Q ES J st tx q => ?_⟩
  exact wpAny_isTrue_Compare1 (thn (two ho ha hb hm J st tx q) fun v s1 h1 => thn h1 fun u s2 h2 => thn h2 fun c s3 h3 => RP.tru h3) hk

/-! ### a chain of two comparisons -/
def sChain (r r' : R2s) (ta tb tc : TEs) : TEs := fun σs Q ES => ta σs (fun x σ1 => nd x.toD fun dx => tb σ1 (fun y σ2 => nd y.toD fun dy => r dx dy fun z => match z with
  | .val (.bool k) => ifb k (tc σ2 (fun w σ3 => nd w.toD fun dw => r' dy dw fun z' => Q z' σ3) ES) (Q (.val (.bool false)) σ2)
  | _ => False) ES) ES
theorem chain3 {f f' : Value → Value → Sem Value} {r r' : R2s} (ho : Op2 X f r) (ho' : Op2 X f' r') (ha : JE X ar b1 m1 a ta) (hb : JE X ar b2 m2 b tb) (hc : JE X ar b3 m3 c tc) (hm : m1 = true ∨ b2 = true) (hm2 : m2 = true ∨ b3 = true)
    {pins : List (Addr × Obj)} {s : Shared} {σ : L2.St} {I H : Hp} {F : Nat → List Addr} {σs : SSt} {Q : KS} {ES : XS} {P : Value → Value → Value → Shared → Prop}
    (J : Inv X pins σ H s) (st : StR X.K ar I H σ σs F) (tx : TX X ar I H (own F) ES) (q : sChain r r' ta tb tc σs Q ES)
    (no : ∀ v u s', RP X ar pins σ (b1 && b2 && b3) true I H F σs Q (.bool false) s' → P v u (.bool false) s')
    (yes : ∀ v u s', wpAny (model X.prog X.w) X.A (eval c X.env) (fun w s3 => wpAny (model X.prog X.w) X.A (f' u w) (RP X ar pins σ (b1 && b2 && b3) true I H F σs Q) X.xe s3) X.xe s' → P v u (.bool true) s') :
    wpAny (model X.prog X.w) X.A (eval a X.env) (fun v s₁ => wpAny (model X.prog X.w) X.A (eval b X.env) (fun u s₂ => wpAny (model X.prog X.w) X.A (f v u) (fun z s3 => P v u z s3) X.xe s₂) X.xe s₁) X.xe s := by
  refine thn (ha.run pins s σ I H F σs _ ES J st tx q) fun v s1 ⟨x, rx, R1, I1, H1, F1, σ1, h1, r1, q1⟩ => ?_
  obtain ⟨dx, ex, q1⟩ := nd_some q1
  refine thn (hb.run pins s1 σ I1 H1 F1 σ1 _ ES h1.inv h1.st (tx.go h1.base.evo fun _ z => z) q1) fun u s2 ⟨y, ry, R2, I2, H2, F2, σ2, h2, r2, q2⟩ => ?_
  obtain ⟨dy, ey, q2⟩ := nd_some q2
  obtain ⟨sx, _, _, _⟩ := h1.over h2.base hm
  have base := h1.base.then h2.base
  refine thn (ho pins s2 σ H2 I2 x y v u dx dy _ h2.inv h2.st.sub r1 r2 (sx.ar h2.st.sub ex) (h2.sr.ar h2.st.sub ey) q2) fun z s3 h3 => ?_
  obtain ⟨vz, H3, J3, rz, r3, R3, I3, d3, q3⟩ := h3
  have h3 : RP X ar pins σ (b1 && b2) true I H F σs (fun z' σ' => z' = r3 ∧ σ' = σ2) z s3 := RP.of_vp base ⟨vz, H3, J3, rz, r3, R3, I3, d3, rfl, rfl⟩
  have h4 : RP X ar pins σ b2 true I1 H1 F1 σ1 (fun z' σ' => z' = r3 ∧ σ' = σ2) z s3 := RP.of_vp h2.base ⟨vz, H3, J3, rz, r3, R3, I3, d3, rfl, rfl⟩
  have h5 : RP X ar pins σ true true I2 H2 F2 σ2 (fun z' σ' => z' = r3 ∧ σ' = σ2) z s3 := RP.of_vp (BPd.refl h2.inv h2.st) ⟨vz, H3, J3, rz, r3, R3, I3, d3, rfl, rfl⟩
  cases r3 with
  | val dz =>
    cases dz with
    | bool k =>
      have rb : z = .bool k := by
        cases d3.sr with
        | val p => cases p; exact rz
      subst rb
      obtain ⟨_, _, R5, I5, H5, F5, σ5, d5, _, e5, e6⟩ := h5
      subst e5
      subst e6
      have b5 := base.then d5.base
      cases k with
      | false =>
        have q3 := ifb.ff q3
        refine no v u s3 ?_
        obtain ⟨v6, r6, R6, I6, H6, F6, σ6, d6, rv6, q6⟩ := (RP.val (b := b3) (m := true) (Q := Q) d5.inv d5.st (.bl false) (rfl : RelV (.bl false) (.bool false)) q3)
        have d7 := b5.thenR d6
        rw [Bool.and_true] at d7
        exact ⟨v6, r6, R6, I6, H6, F6, σ6, d7, rv6, q6⟩
      | true =>
        have q3 := ifb.tt q3
        refine yes v u s3 ?_
        refine thn (hc.run pins s3 σ I5 H5 F5 _ _ ES d5.inv d5.st (tx.go b5.evo fun _ z => z) q3) fun w s4 ⟨y4, r4, R4, I4, H4, F4, σ4, h4', rw4, q4⟩ => ?_
        obtain ⟨dw, ew, q4⟩ := nd_some q4
        have hy := h2.over (d5.base.then h4'.base) (by rcases hm2 with z | z <;> simp [z])
        refine thn (ho' pins s4 σ H4 I4 y y4 u w dy dw _ h4'.inv h4'.st.sub r2 rw4 (hy.1.ar h4'.st.sub ey) (h4'.sr.ar h4'.st.sub ew) q4) fun w' s5 h6 => ?_
        have := RP.of_vp (b5.then h4'.base) h6
        rw [Bool.and_true] at this
        exact this
    | _ => exact q3.elim
  | _ => exact q3.elim
end
end SV
/-! SvE: rules of expressions, further: chains, and, or, not, if; displays; items, slices; calls of built-ins. -/
namespace SV
open PySem PySem.Spec PyProof.Rows L2

section
variable {X : Cx} {ar : Nat → Option V} {a b c e : Expr} {b1 b2 b3 m1 m2 m3 : Bool} {ta tb tc : TEs} {pos : Pos}
theorem je_chain {op op' : CmpOp} {r r' : R2s} (ho : Op2 X (compareOp op) r) (ho' : Op2 X (compareOp op') r') (ha : JE X ar b1 m1 a ta) (hb : JE X ar b2 m2 b tb) (hc : JE X ar b3 m3 c tc)
    (hm : m1 = true ∨ b2 = true := by first | exact Or.inl rfl | exact Or.inr rfl) (hm2 : m2 = true ∨ b3 = true := by first | exact Or.inl rfl | exact Or.inr rfl) (hk : lastMarks [op, op'] [b, c] = false := by with_unfolding_all rfl) :
    JE X ar (b1 && b2 && b3) true (.Compare a [op, op'] [b, c] pos) (sChain r r' ta tb tc) := by
  refine ⟨fun pins s σ I H F σs Q ES J st tx q => ?_⟩
  refine Compare_chain (thn (chain3 (P := fun v u z s3 => wpAny (model X.prog X.w) X.A (truthy z) (fun t s₃ => if t then wpAny (model X.prog X.w) X.A (compareChain pos u [op'] [eval c X.env]) (RP X ar pins σ (b1 && b2 && b3) true I H F σs Q) X.xe s₃ else RP X ar pins σ (b1 && b2 && b3) true I H F σs Q z s₃) X.xe s3) ho ho' ha hb hc hm hm2 J st tx q (fun v u s' h => ?_) (fun v u s' h => ?_)) fun v s1 h => chain_link h) hk
  · exact wpAny_truthy_bool (ite_ff h)
  · exact wpAny_truthy_bool (ite_tt (chain_last h))
theorem jt_chain {op op' : CmpOp} {r r' : R2s} (ho : Op2 X (compareOp op) r) (ho' : Op2 X (compareOp op') r') (ha : JE X ar b1 m1 a ta) (hb : JE X ar b2 m2 b tb) (hc : JE X ar b3 m3 c tc)
    (hm : m1 = true ∨ b2 = true := by first | exact Or.inl rfl | exact Or.inr rfl) (hm2 : m2 = true ∨ b3 = true := by first | exact Or.inl rfl | exact Or.inr rfl) (hk : lastMarks [op, op'] [b, c] = false := by with_unfolding_all rfl) :
    JT X ar (b1 && b2 && b3) (.Compare a [op, op'] [b, c] pos) (tT (sChain r r' ta tb tc)) := by
  refine ⟨fun pins s σ I H F σs Q ES J st tx q => ?_⟩
  refine isTrue_chain (thn (chain3 (P := fun v u z s3 => wpAny (model X.prog X.w) X.A (truthy z) (fun t s₃ => if t then wpAny (model X.prog X.w) X.A (testChain pos u [op'] [eval c X.env]) (BP X ar pins σ (b1 && b2 && b3) I H F σs Q) X.xe s₃ else BP X ar pins σ (b1 && b2 && b3) I H F σs Q false s₃) X.xe s3) ho ho' ha hb hc hm hm2 J st tx q (fun v u s' h => ?_) (fun v u s' h => ?_)) fun v s1 h => test_link h) hk
  · refine wpAny_truthy_bool (ite_ff ?_)
    obtain ⟨v6, r6, R6, I6, H6, F6, σ6, d6, rv6, q6⟩ := h
    obtain ⟨d, ex, q6⟩ := nd_some q6
    have : tru d = false := by
      cases d6.sr with
      | val p =>
        cases ex
        cases p with
        | bl k => cases rv6; rfl
        | int => obtain ⟨_, z⟩ := rv6; cases z
        | str => obtain ⟨_, z⟩ := rv6; cases z
        | _ => cases rv6
      | lst => cases rv6
      | scr => cases ex
      | adr => cases ex
      | exn => cases ex
      | tpl => cases ex; cases rv6
      | dct => cases ex
      | ins => cases ex
    rw [this] at q6
    exact ⟨I6, H6, F6, σ6, d6.base, q6⟩
  · exact wpAny_truthy_bool (ite_tt (test_last (thn h fun w s2 h2 => thn h2 fun z s3 h3 => RP.tru h3)))

/-! ### and, or, not as tests -/
def tAnd (t u : TTs) : TTs := fun σs Q ES => t σs (fun k σ1 => ifb k (u σ1 Q ES) (Q false σ1)) ES
def tOr (t u : TTs) : TTs := fun σs Q ES => t σs (fun k σ1 => ifb k (Q true σ1) (u σ1 Q ES)) ES
def tNot (t : TTs) : TTs := fun σs Q ES => t σs (fun k σ1 => Q (!k) σ1) ES
variable {t u : TTs} {rest : List Expr}
theorem jw_and1 (ha : JT X ar b1 a t) : JW X ar b1 (.BoolOp .And [a] pos) t := by
  refine ⟨fun wh pins s σ I H F σs Q ES J st tx q => ?_⟩
  refine isTrue_and (thn (ha.run pins s σ I H F σs Q ES J st tx q) fun k s1 h => ?_)
  cases k with
  | true => exact isTrue_and_nil h
  | false => exact h
theorem jw_or1 (ha : JT X ar b1 a t) : JW X ar b1 (.BoolOp .Or [a] pos) t := by
  refine ⟨fun wh pins s σ I H F σs Q ES J st tx q => ?_⟩
  refine isTrue_or (thn (ha.run pins s σ I H F σs Q ES J st tx q) fun k s1 h => ?_)
  cases k with
  | false => exact isTrue_or_nil h
  | true => exact h
theorem BP.after {pins : List (Addr × Obj)} {σ : L2.St} {I H I1 H1 : Hp} {F F1 : Nat → List Addr} {σs σ1 : SSt} {s1 s2 : Shared} {Q : Bool → SSt → Prop} {k : Bool} (a : BPd X ar pins σ b1 I H F σs I1 H1 F1 σ1 s1) (h : BP X ar pins σ b2 I1 H1 F1 σ1 Q k s2) :
    BP X ar pins σ (b1 && b2) I H F σs Q k s2 := by
  obtain ⟨I2, H2, F2, σ2, d, q⟩ := h
  exact ⟨I2, H2, F2, σ2, a.then d, q⟩
theorem BPd.weak {pins : List (Addr × Obj)} {σ : L2.St} {I H I1 H1 : Hp} {F F1 : Nat → List Addr} {σs σ1 : SSt} {s1 : Shared} (a : BPd X ar pins σ b1 I H F σs I1 H1 F1 σ1 s1) (h : b2 = true → b1 = true) : BPd X ar pins σ b2 I H F σs I1 H1 F1 σ1 s1 :=
  ⟨a.inv, a.evo, a.st, fun e => a.pu (h e)⟩
theorem RPd.weak {pins : List (Addr × Obj)} {σ : L2.St} {I H I1 H1 : Hp} {F F1 : Nat → List Addr} {σs σ1 : SSt} {s1 : Shared} {v : V} {r : S} {R : List Addr} (a : RPd X ar pins σ b1 m1 I H F σs v r R I1 H1 F1 σ1 s1) (h : b2 = true → b1 = true) (h' : m2 = true → m1 = true) : RPd X ar pins σ b2 m2 I H F σs v r R I1 H1 F1 σ1 s1 :=
  ⟨a.inv, a.evo, a.st, a.sr, fun e => a.nf (h' e), a.nI, fun e => a.pu (h e)⟩
theorem RP.after {pins : List (Addr × Obj)} {σ : L2.St} {I H I1 H1 : Hp} {F F1 : Nat → List Addr} {σs σ1 : SSt} {s1 s2 : Shared} {Q : KS} {w : Value} (a : BPd X ar pins σ b1 I H F σs I1 H1 F1 σ1 s1) (h : RP X ar pins σ b2 m1 I1 H1 F1 σ1 Q w s2) :
    RP X ar pins σ (b1 && b2) m1 I H F σs Q w s2 := by
  obtain ⟨v, r, R, I2, H2, F2, σ2, d, rv, q⟩ := h
  exact ⟨v, r, R, I2, H2, F2, σ2, a.thenR d, rv, q⟩
theorem RP.weak {pins : List (Addr × Obj)} {σ : L2.St} {I H : Hp} {F : Nat → List Addr} {σs : SSt} {s2 : Shared} {Q : KS} {w : Value} (h : RP X ar pins σ b1 m1 I H F σs Q w s2) (h1 : b2 = true → b1 = true) (h' : m2 = true → m1 = true) : RP X ar pins σ b2 m2 I H F σs Q w s2 := by
  obtain ⟨v, r, R, I2, H2, F2, σ2, d, rv, q⟩ := h
  exact ⟨v, r, R, I2, H2, F2, σ2, d.weak h1 h', rv, q⟩
theorem jw_and (ha : JT X ar b1 a t) (hb : JW X ar b2 (.BoolOp .And (b :: rest) pos) u) : JW X ar (b1 && b2) (.BoolOp .And (a :: b :: rest) pos) (tAnd t u) := by
  refine ⟨fun wh pins s σ I H F σs Q ES J st tx q => ?_⟩
  refine isTrue_and (thn (ha.run pins s σ I H F σs _ ES J st tx q) fun k s1 ⟨I1, H1, F1, σ1, d, q1⟩ => ?_)
  cases k with
  | true => exact thn (hb.run wh pins s1 σ I1 H1 F1 σ1 Q ES d.inv d.st (tx.go d.evo fun _ z => z) (ifb.tt q1)) fun k s2 h => BP.after d h
  | false => exact ⟨I1, H1, F1, σ1, d.weak (fun z => by simp at z; exact z.1), ifb.ff q1⟩
theorem jw_or (ha : JT X ar b1 a t) (hb : JW X ar b2 (.BoolOp .Or (b :: rest) pos) u) : JW X ar (b1 && b2) (.BoolOp .Or (a :: b :: rest) pos) (tOr t u) := by
  refine ⟨fun wh pins s σ I H F σs Q ES J st tx q => ?_⟩
  refine isTrue_or (thn (ha.run pins s σ I H F σs _ ES J st tx q) fun k s1 ⟨I1, H1, F1, σ1, d, q1⟩ => ?_)
  cases k with
  | false => exact thn (hb.run wh pins s1 σ I1 H1 F1 σ1 Q ES d.inv d.st (tx.go d.evo fun _ z => z) (ifb.ff q1)) fun k s2 h => BP.after d h
  | true => exact ⟨I1, H1, F1, σ1, d.weak (fun z => by simp at z; exact z.1), ifb.tt q1⟩
theorem jt_not (ha : JT X ar b1 a t) : JT X ar b1 (.UnaryOp .Not a pos) (tNot t) := by
  refine ⟨fun pins s σ I H F σs Q ES J st tx q => ?_⟩
  exact isTrue_not (thn (ha.run pins s σ I H F σs _ ES J st tx q) fun k s1 h => h)
/-- not, as a value -/
theorem je_not (ha : JE X ar b1 m1 a ta) : JE X ar b1 true (.UnaryOp .Not a pos) (fun σs Q ES => ta σs (fun r σ1 => nd r.toD fun d => Q (.val (.bool (!tru d))) σ1) ES) := by
  refine ⟨fun pins s σ I H F σs Q ES J st tx q => ?_⟩
  refine UnaryOp_ (thn (ha.run pins s σ I H F σs _ ES J st tx q) fun v s1 ⟨x, rx, R1, I1, H1, F1, σ1, h1, r1, q1⟩ => ?_)
  obtain ⟨d, ex, q1⟩ := nd_some q1
  refine not_of (tru_run h1.inv h1.st.sub r1 (h1.sr.ar h1.st.sub ex) fun s' J' => ?_)
  exact RP.of_vp (s' := s') (⟨J', h1.base.evo, h1.st, h1.pu⟩ : BPd X ar pins σ b1 I H F σs I1 H1 F1 σ1 s') ⟨.bl _, H1, J', rfl, .val h1.st.sub (.bl _) q1⟩
/-- .. as values -/
def sAnd (ta tb : TEs) : TEs := fun σs Q ES => ta σs (fun r σ1 => nd r.toD fun d => ifb (tru d) (tb σ1 Q ES) (Q r σ1)) ES
def sOr (ta tb : TEs) : TEs := fun σs Q ES => ta σs (fun r σ1 => nd r.toD fun d => ifb (tru d) (Q r σ1) (tb σ1 Q ES)) ES
theorem je_one {op} (h : JE X ar b1 m1 a ta) : JE X ar b1 m1 (.BoolOp op [a] pos) ta := ⟨fun pins s σ I H F σs Q ES J st tx q => BoolOp_one (h.run pins s σ I H F σs Q ES J st tx q)⟩
theorem je_and (ha : JE X ar b1 m1 a ta) (hb : JE X ar b2 m2 (.BoolOp .And (b :: rest) pos) tb) : JE X ar (b1 && b2) (m1 && m2) (.BoolOp .And (a :: b :: rest) pos) (sAnd ta tb) := by
  refine ⟨fun pins s σ I H F σs Q ES J st tx q => ?_⟩
  refine BoolOp_and (thn (ha.run pins s σ I H F σs _ ES J st tx q) fun v s1 ⟨x, rx, R1, I1, H1, F1, σ1, h1, r1, q1⟩ => ?_)
  obtain ⟨d, ex, q1⟩ := nd_some q1
  refine tru_run h1.inv h1.st.sub r1 (h1.sr.ar h1.st.sub ex) fun s' J' => ?_
  have h2 : RPd X ar pins σ b1 m1 I H F σs x rx R1 I1 H1 F1 σ1 s' := ⟨J', h1.evo, h1.st, h1.sr, h1.nf, h1.nI, h1.pu⟩
  cases hd : tru d with
  | true =>
    rw [hd] at q1
    have q1 := ifb.tt q1
    exact thn (hb.run pins s' σ I1 H1 F1 σ1 Q ES J' h2.st (tx.go h2.base.evo fun _ z => z) q1) fun w s3 h3 => (RP.after h2.base h3).weak (fun z => z) (fun z => by simp at z; exact z.2)
  | false =>
    rw [hd] at q1
    have q1 := ifb.ff q1
    exact ⟨x, rx, R1, I1, H1, F1, σ1, h2.weak (fun z => by simp at z; exact z.1) (fun z => by simp at z; exact z.1), r1, q1⟩
theorem je_or (ha : JE X ar b1 m1 a ta) (hb : JE X ar b2 m2 (.BoolOp .Or (b :: rest) pos) tb) : JE X ar (b1 && b2) (m1 && m2) (.BoolOp .Or (a :: b :: rest) pos) (sOr ta tb) := by
  refine ⟨fun pins s σ I H F σs Q ES J st tx q => ?_⟩
  refine BoolOp_or (thn (ha.run pins s σ I H F σs _ ES J st tx q) fun v s1 ⟨x, rx, R1, I1, H1, F1, σ1, h1, r1, q1⟩ => ?_)
  obtain ⟨d, ex, q1⟩ := nd_some q1
  refine tru_run h1.inv h1.st.sub r1 (h1.sr.ar h1.st.sub ex) fun s' J' => ?_
  have h2 : RPd X ar pins σ b1 m1 I H F σs x rx R1 I1 H1 F1 σ1 s' := ⟨J', h1.evo, h1.st, h1.sr, h1.nf, h1.nI, h1.pu⟩
  cases hd : tru d with
  | false =>
    rw [hd] at q1
    have q1 := ifb.ff q1
    exact thn (hb.run pins s' σ I1 H1 F1 σ1 Q ES J' h2.st (tx.go h2.base.evo fun _ z => z) q1) fun w s3 h3 => (RP.after h2.base h3).weak (fun z => z) (fun z => by simp at z; exact z.2)
  | true =>
    rw [hd] at q1
    have q1 := ifb.tt q1
    exact ⟨x, rx, R1, I1, H1, F1, σ1, h2.weak (fun z => by simp at z; exact z.1) (fun z => by simp at z; exact z.1), r1, q1⟩
/-- a if t else b -/
def sIf (t : TTs) (ta tb : TEs) : TEs := fun σs Q ES => t σs (fun k σ1 => ifb k (ta σ1 Q ES) (tb σ1 Q ES)) ES
theorem je_if (hc : JT X ar b1 c t) (ha : JE X ar b2 m2 a ta) (hb : JE X ar b3 m3 b tb) : JE X ar (b1 && b2 && b3) (m2 && m3) (.IfExp c a b pos) (sIf t ta tb) := by
  refine ⟨fun pins s σ I H F σs Q ES J st tx q => ?_⟩
  refine wpAny_IfExp (thn (hc.run pins s σ I H F σs _ ES J st tx q) fun k s1 ⟨I1, H1, F1, σ1, d, q1⟩ => ?_)
  cases k with
  | true => exact thn (ha.run pins s1 σ I1 H1 F1 σ1 Q ES d.inv d.st (tx.go d.evo fun _ z => z) (ifb.tt q1)) fun w s2 h => (RP.after d h).weak (fun z => by simp at z; simp [z.1]) (fun z => by simp at z; exact z.1)
  | false => exact thn (hb.run pins s1 σ I1 H1 F1 σ1 Q ES d.inv d.st (tx.go d.evo fun _ z => z) (ifb.ff q1)) fun w s2 h => (RP.after d h).weak (fun z => by simp at z; simp [z.1, z.2]) (fun z => by simp at z; exact z.2)

/-! ### written arguments, each pure behind its step -/
abbrev TPs := SSt → (List PyData → SSt → Prop) → XS → Prop
def APs (X : Cx) (ar : Nat → Option V) (pins : List (Addr × Obj)) (σ : L2.St) (b : Bool) (I H : Hp) (F : Nat → List Addr) (σs : SSt) (Q : List PyData → SSt → Prop) (us : List Value) (s' : Shared) : Prop :=
  ∃ vs ds I' H' F' σs', BPd X ar pins σ b I H F σs I' H' F' σs' s' ∧ Vals vs us ∧ PRs X.K I' vs ds ∧ Q ds σs'
structure JA (X : Cx) (ar : Nat → Option V) (b : Bool) (es : List Expr) (t : TPs) : Prop where
  run : ∀ (pos : Pos) (pins : List (Addr × Obj)) (s : Shared) (σ : L2.St) (I H : Hp) (F : Nat → List Addr) (σs : SSt) (Q : List PyData → SSt → Prop) (ES : XS), Inv X pins σ H s → StR X.K ar I H σ σs F → TX X ar I H (own F) ES → t σs Q ES →
    wpAny (model X.prog X.w) X.A (spliced (backTo pos (starEach es X.env))) (APs X ar pins σ b I H F σs Q) X.xe s
def pNil : TPs := fun σs Q _ => Q [] σs
def pCons (te : TEs) (t : TPs) : TPs := fun σs Q ES => te σs (fun r σ1 => nd r.toD fun d => t σ1 (fun ds σ2 => Q (d :: ds) σ2) ES) ES
variable {es : List Expr} {te : TEs} {tp : TPs}
theorem ja_nil : JA X ar true [] pNil := ⟨fun _ pins s σ I H F σs Q ES J st tx q => Calls.spliced_nil ⟨[], [], I, H, F, σs, .refl J st, .nil, .nil, q⟩⟩
theorem ja_cons (ha : JE X ar b1 true e te) (hr : JA X ar b2 es tp) (hs : starEach (e :: es) X.env = (false, eval e X.env) :: starEach es X.env := by rfl) : JA X ar (b1 && b2) (e :: es) (pCons te tp) := by
  refine ⟨fun pos pins s σ I H F σs Q ES J st tx q => ?_⟩
  rw [hs]
  show wpAny _ _ (spliced ((false, eval e X.env) :: backTo pos (starEach es X.env))) _ _ s
  refine Calls.spliced_cons (thn (ha.run pins s σ I H F σs _ ES J st tx q) fun v s1 ⟨x, rx, R1, I1, H1, F1, σ1, h1, r1, q1⟩ => ?_)
  obtain ⟨d, ex, q1⟩ := nd_some q1
  obtain ⟨hb, p⟩ := h1.freeze ex
  refine thn (hr.run pos pins s1 σ _ H1 F1 σ1 _ ES hb.inv hb.st (tx.go hb.evo fun _ z => z) q1) fun us s2 ⟨vs, ds, I2, H2, F2, σ2, h2, rv, pv, q2⟩ => ?_
  exact ⟨x :: vs, d :: ds, I2, H2, F2, σ2, hb.then h2, .cons r1 rv, .cons (p.sub h2.evo.up) pv, q2⟩
def sTup (t : TPs) : TEs := fun σs Q ES => t σs (fun ds σ1 => ds.length ≤ sizeLine ∧ Q (.val (.tuple ds)) σ1) ES
def sLst (t : TPs) : TEs := fun σs Q ES => t σs (fun ds σ1 => ds.length ≤ sizeLine ∧ Q (.lst ds) σ1) ES
theorem je_tup {k} (h : JA X ar b1 es tp) : JE X ar b1 true (.Tuple es k pos) (sTup tp) := by
  refine ⟨fun pins s σ I H F σs Q ES J st tx q => ?_⟩
  refine wpAny_Tuple_spliced (thn (h.run pos pins s σ I H F σs _ ES J st tx q) fun us s1 ⟨vs, ds, I1, H1, F1, σ1, h1, rv, pv, z, q1⟩ => ⟨by rw [← rv.length, pv.length]; exact z, ?_⟩)
  have hf : H1 s1.heap.objs.size = none := h1.inv.hok.fresh (Nat.le_refl _)
  refine RP.of_vp h1 ⟨.ref s1.heap.objs.size, upd H1 s1.heap.objs.size (.tup vs), h1.inv.laid (t' := s1.toks) (fun b u e => Heap.get?_push_of_some _ e) (Nat.le_refl _) ?_, rfl, .newTup h1.st.sub hf pv q1⟩
  exact ⟨by rw [pv.length]; exact z, us, rv, ⟨_, Heap.get?_push_size _ rfl, rfl, _, rfl⟩⟩
theorem je_lst (h : JA X ar b1 es tp) : JE X ar b1 true (.List es pos) (sLst tp) := by
  refine ⟨fun pins s σ I H F σs Q ES J st tx q => ?_⟩
  refine wpAny_List_spliced (thn (h.run pos pins s σ I H F σs _ ES J st tx q) fun us s1 ⟨vs, ds, I1, H1, F1, σ1, h1, rv, pv, z, q1⟩ => ⟨by rw [← rv.length, pv.length]; exact z, ?_⟩)
  have hf : H1 s1.heap.objs.size = none := h1.inv.hok.fresh (Nat.le_refl _)
  refine RP.of_vp h1 ⟨.ref s1.heap.objs.size, upd H1 s1.heap.objs.size (.lst vs), h1.inv.laid (t' := s1.toks) (fun b u e => Heap.get?_push_of_some _ e) (Nat.le_refl _) ?_, rfl, .newLst h1.st.sub hf pv q1⟩
  exact ⟨by rw [pv.length]; exact z, us, 0, rv, Heap.get?_push_size _ rfl⟩

/-! ### items, slices -/
theorem je_ix {r : R2s} (hr : IxOp X r) (ha : JE X ar b1 m1 a ta) (hb : JE X ar b2 m2 b tb) (hs : PlainIx b := by exact fun _ _ => rfl) (hm : m1 = true ∨ b2 = true := by first | exact Or.inl rfl | exact Or.inr rfl) :
    JE X ar (b1 && b2) true (.Subscript a b pos) (s2 r ta tb) := by
  refine ⟨fun pins s σ I H F σs Q ES J st tx q => ?_⟩
  refine Subscript_ (thn (ha.run pins s σ I H F σs _ ES J st tx q) fun v s1 ⟨x, rx, R1, I1, H1, F1, σ1, h1, r1, q1⟩ => ?_)
  obtain ⟨dx, ex, q1⟩ := nd_some q1
  refine thn (hb.run pins s1 σ I1 H1 F1 σ1 _ ES h1.inv h1.st (tx.go h1.base.evo fun _ z => z) q1) fun u s2 ⟨y, ry, R2, I2, H2, F2, σ2, h2, r2, q2⟩ => ?_
  obtain ⟨dy, ey, q2⟩ := nd_some q2
  obtain ⟨sx, _, _, _⟩ := h1.over h2.base hm
  exact thn (hr a b pins s2 σ H2 I2 x y v u dx dy _ h2.inv h2.st.sub r1 r2 (sx.ar h2.st.sub ex) (h2.sr.ar h2.st.sub ey) q2 hs) fun w s3 h => RP.of_vp (h1.base.then h2.base) h
/-- a slice's part -/
abbrev TOs := SSt → (Option Int → SSt → Prop) → XS → Prop
structure JO (X : Cx) (ar : Nat → Option V) (b : Bool) (e : Option Expr) (t : TOs) : Prop where
  run : ∀ (pins : List (Addr × Obj)) (s : Shared) (σ : L2.St) (I H : Hp) (F : Nat → List Addr) (σs : SSt) (Q : Option Int → SSt → Prop) (ES : XS), Inv X pins σ H s → StR X.K ar I H σ σs F → TX X ar I H (own F) ES → t σs Q ES →
    wpAny (model X.prog X.w) X.A (evalPart e X.env) (fun u s' => ∃ o I' H' F' σs', BPd X ar pins σ b I H F σs I' H' F' σs' s' ∧ IsPart u o ∧ Q o σs') X.xe s
def oNone : TOs := fun σs Q _ => Q none σs
def oSome (te : TEs) : TOs := fun σs Q ES => te σs (fun r σ1 => match r with
  | .val (.int i) => Q (some i) σ1
  | _ => False) ES
theorem jo_none : JO X ar true none oNone := by
  refine ⟨fun pins s σ I H F σs Q ES J st tx q => ?_⟩
  rw [evalPart_none]
  exact wpAny_pure ⟨none, I, H, F, σs, .refl J st, .none, q⟩
theorem jo_some (h : JE X ar b1 m1 e te) : JO X ar b1 (some e) (oSome te) := by
  refine ⟨fun pins s σ I H F σs Q ES J st tx q => ?_⟩
  rw [evalPart_some]
  refine thn (h.run pins s σ I H F σs _ ES J st tx q) fun u s1 ⟨x, rx, R1, I1, H1, F1, σ1, h1, r1, q1⟩ => ?_
  cases rx with
  | val d =>
    cases d with
    | int i =>
      obtain ⟨_, p⟩ := h1.sr.val_inv
      cases p
      obtain ⟨t, rfl⟩ := r1
      exact ⟨some i, I1, H1, F1, σ1, h1.base, .int i t, q1⟩
    | _ => exact q1.elim
  | _ => exact q1.elim
def sSl (r : PyData → Option Int → Option Int → (S → Prop) → Prop) (ta : TEs) (tl th : TOs) : TEs := fun σs Q ES => ta σs (fun x σ1 => nd x.toD fun dx => tl σ1 (fun l σ2 => th σ2 (fun u σ3 => r dx l u fun z => Q z σ3) ES) ES) ES
variable {lo hi : Option Expr} {tl th : TOs} {p2 : Pos} 
theorem je_slice {r : PyData → Option Int → Option Int → (S → Prop) → Prop} (hr : SlOp X r) (ha : JE X ar b1 m1 a ta) (hl : JO X ar b2 lo tl) (hh : JO X ar b3 hi th) (hm : m1 = true ∨ (b2 && b3) = true := by first | exact Or.inl rfl | exact Or.inr rfl) :
    JE X ar (b1 && (b2 && b3)) true (.Subscript a (.Slice lo hi none p2) pos) (sSl r ta tl th) := by
  refine ⟨fun pins s σ I H F σs Q ES J st tx q => ?_⟩
  refine Subscript_ (thn (ha.run pins s σ I H F σs _ ES J st tx q) fun v s1 ⟨x, rx, R1, I1, H1, F1, σ1, h1, r1, q1⟩ => ?_)
  obtain ⟨dx, ex, q1⟩ := nd_some q1
  refine wpAny_Slice (thn (hl.run pins s1 σ I1 H1 F1 σ1 _ ES h1.inv h1.st (tx.go h1.base.evo fun _ z => z) q1) fun vl s2 ⟨l, I2, H2, F2, σ2, h2, pl, q2⟩ =>
    thn (hh.run pins s2 σ I2 H2 F2 σ2 _ ES h2.inv h2.st (tx.go (h1.base.then h2).evo fun _ z => z) q2) fun vu s3 ⟨u, I3, H3, F3, σ3, h3, pu, q3⟩ => ?_)
  rw [evalPart_none]
  refine wpAny_pure ?_
  have b23 := h2.then h3
  obtain ⟨sx, _, _, _⟩ := h1.over b23 hm
  have I4 : Inv X pins σ H3 { s3 with heap := s3.heap.push { cls := .type "slice", data := .fields #[vl, vu, .none] } } := h3.inv.kept (t' := s3.toks) fun b ob q => Heap.get?_push_of_some _ q
  obtain ⟨r2, hR, q4⟩ := hr I3 (fun z => Q z σ3) dx l u q3 x H3 h3.st.sub (sx.ar h3.st.sub ex)
  obtain ⟨T, id, hT, ht, hg⟩ := hR pins { s3 with heap := s3.heap.push { cls := .type "slice", data := .fields #[vl, vu, .none] } } σ H3 x v vl vu l u s3.heap.objs.size _ I4 r1 (Heap.IsSliceOf.new ..) pl pu q4
  show wpAny (model X.prog X.w) X.A (subscriptTail a (.Slice lo hi none p2) v (.ref s3.heap.objs.size)) _ X.xe { s3 with heap := s3.heap.push { cls := .type "slice", data := .fields #[vl, vu, .none] } }
  exact thn (tail_any (ops := [.ref s3.heap.objs.size, v]) ht hT hg (by with_unfolding_all rfl)) fun w s5 h5 => RP.of_vp (h1.base.then b23) h5
end
end SV
/-! SvF: calls of built-ins, by values. -/
namespace SV
open PySem PySem.Spec PyProof.Rows L2

section
variable {X : Cx} {ar : Nat → Option V} {a b c e : Expr} {b1 b2 b3 m1 m2 m3 : Bool} {ta tb tc : TEs} {pos : Pos} {es : List Expr} {tp : TPs}
/-- arguments that are read alone -/
def ARP (X : Cx) (ar : Nat → Option V) (pins : List (Addr × Obj)) (σ : L2.St) (b : Bool) (I H : Hp) (F : Nat → List Addr) (σs : SSt) (Q : List PyData → SSt → Prop) (us : List Value) (s' : Shared) : Prop :=
  ∃ vs ds I' H' F' σs', BPd X ar pins σ b I H F σs I' H' F' σs' s' ∧ Vals vs us ∧ ARs X.K I' H' vs ds ∧ Q ds σs'
structure JR (X : Cx) (ar : Nat → Option V) (b : Bool) (es : List Expr) (t : TPs) : Prop where
  run : ∀ (pos : Pos) (pins : List (Addr × Obj)) (s : Shared) (σ : L2.St) (I H : Hp) (F : Nat → List Addr) (σs : SSt) (Q : List PyData → SSt → Prop) (ES : XS), Inv X pins σ H s → StR X.K ar I H σ σs F → TX X ar I H (own F) ES → t σs Q ES →
    wpAny (model X.prog X.w) X.A (spliced (backTo pos (starEach es X.env))) (ARP X ar pins σ b I H F σs Q) X.xe s
theorem PRs.ars {K : PySem.W.Frag} {I H : Hp} (sb : Sub I H) : ∀ {vs : List V} {ds : List PyData}, PRs K I vs ds → ARs K I H vs ds
  | _, _, .nil => .nil
  | _, _, .cons h t => .cons (h.ar sb) (PRs.ars sb t)
theorem JA.jr (h : JA X ar b1 es tp) : JR X ar b1 es tp := ⟨fun pos pins s σ I H F σs Q ES J st tx q => thn (h.run pos pins s σ I H F σs Q ES J st tx q) fun us s1 ⟨vs, ds, I1, H1, F1, σ1, d, rv, p, q1⟩ => ⟨vs, ds, I1, H1, F1, σ1, d, rv, p.ars d.st.sub, q1⟩⟩
def pOne (t : TEs) : TPs := fun σs Q ES => t σs (fun r σ1 => nd r.toD fun d => Q [d] σ1) ES
theorem jr_one (h : JE X ar b1 m1 e ta) (hs : starEach [e] X.env = [(false, eval e X.env)] := by rfl) : JR X ar b1 [e] (pOne ta) := by
  refine ⟨fun pos pins s σ I H F σs Q ES J st tx q => ?_⟩
  rw [hs]
  show wpAny _ _ (spliced ((false, eval e X.env) :: backTo pos (starEach [] X.env))) _ _ s
  refine Calls.spliced_cons (thn (h.run pins s σ I H F σs _ ES J st tx q) fun v s1 ⟨x, rx, R1, I1, H1, F1, σ1, h1, r1, q1⟩ => ?_)
  obtain ⟨d, ex, q1⟩ := nd_some q1
  exact Calls.spliced_nil ⟨[x], [d], I1, H1, F1, σ1, h1.base, .cons r1 .nil, .cons (h1.sr.ar h1.st.sub ex) .nil, q1⟩

def sB (r : RNs) (t : TPs) : TEs := fun σs Q ES => t σs (fun ds σ1 => r ds fun z => Q z σ1) ES
theorem fin_vp {pins : List (Addr × Obj)} {σ : L2.St} {I H I1 H1 : Hp} {F F1 : Nat → List Addr} {σs σ1 : SSt} {s1 s2 : Shared} {Q : KS} {w : Value} (d : BPd X ar pins σ b1 I H F σs I1 H1 F1 σ1 s1)
    (h : EP X pins σ (VP X I1 H1 fun z => Q z σ1) w s2) : RP X ar pins σ b1 true I H F σs Q w s2 := RP.of_vp d h
/-- f(e, ..), f a built-in function -/
theorem je_callB {x : Str} {p : Pos} {id : String} {r : RNs} (hc : OpN X (fun us => call (.builtin id) us) r) (hg : Gl X x) (hm : X.mg x = none) (hv : bootBuiltins x = some (.builtin id)) (ha : JR X ar b1 (e :: es) tp) (hn : x ≠ "__name__" := by decide) (hdb : (x == ("__debug__" : Str)) = false := by decide)
    (he : starEach (e :: es) X.env = (false, eval e X.env) :: starEach es X.env := by rfl) (hpl : (backTo pos (starEach es X.env)).any (·.1) = false := by rfl) : JE X ar b1 true (.Call (.Name x p) (e :: es) [] pos) (sB r tp) := by
  refine ⟨fun pins s σ I H F σs Q ES J st tx q => ?_⟩
  refine wpAny_Call_Name_kw (ld_blt J hg hm hv ?_ hn hdb)
  refine PyProof.Rows.callWith_builtin1 (thn (ha.run pos pins s σ I H F σs _ ES J st tx q) fun us s1 ⟨vs, ds, I1, H1, F1, σ1, d, rv, pv, q1⟩ => ?_) he hpl
  exact thn (hc pins s1 σ H1 I1 vs us ds _ d.inv d.st.sub rv pv q1) fun w s2 h => fin_vp d h
/-- T(e, ..), T a built-in type -/
theorem je_callT {x : Str} {p : Pos} {T : String} {r : RNs} (hc : OpN X (fun us => call (.type T) us) r) (hg : Gl X x) (hm : X.mg x = none) (hv : bootBuiltins x = some (.type T)) (ha : JR X ar b1 (e :: es) tp) (hn : x ≠ "__name__" := by decide) (hdb : (x == ("__debug__" : Str)) = false := by decide)
    (he : starEach (e :: es) X.env = (false, eval e X.env) :: starEach es X.env := by rfl) (hpl : (backTo pos (starEach es X.env)).any (·.1) = false := by rfl) : JE X ar b1 true (.Call (.Name x p) (e :: es) [] pos) (sB r tp) := by
  refine ⟨fun pins s σ I H F σs Q ES J st tx q => ?_⟩
  refine wpAny_Call_Name_kw (ld_blt J hg hm hv ?_ hn hdb)
  refine PyProof.Rows.callWith_type1 (thn (ha.run pos pins s σ I H F σs _ ES J st tx q) fun us s1 ⟨vs, ds, I1, H1, F1, σ1, d, rv, pv, q1⟩ => ?_) he hpl
  exact thn (hc pins s1 σ H1 I1 vs us ds _ d.inv d.st.sub rv pv q1) fun w s2 h => fin_vp d h

/-! ### the built-ins -/
theorem ARs.one {K : PySem.W.Frag} {I H : Hp} {xs : List V} {d : PyData} (h : ARs K I H xs [d]) : ∃ x, xs = [x] ∧ AR K I H x d := by
  cases h with
  | cons a t => cases t; exact ⟨_, rfl, a⟩
theorem ARs.two {K : PySem.W.Frag} {I H : Hp} {xs : List V} {d d' : PyData} (h : ARs K I H xs [d, d']) : ∃ x y, xs = [x, y] ∧ AR K I H x d ∧ AR K I H y d' := by
  cases h with
  | cons a t =>
    obtain ⟨y, e, q⟩ := t.one
    subst e
    exact ⟨_, _, rfl, a, q⟩
theorem PRs.intsV {K : PySem.W.Frag} {I : Hp} : ∀ {ns : List Int} {vs : List V}, PRs K I vs (ns.map PyData.int) → vs = ns.map V.int
  | [], _, h => by cases h; rfl
  | n :: ns, _, h => by
    cases h with
    | cons a t =>
      cases a
      rw [PRs.intsV t]
      rfl
theorem PRs.blsV {K : PySem.W.Frag} {I : Hp} : ∀ {ns : List Bool} {vs : List V}, PRs K I vs (ns.map PyData.bool) → vs = ns.map V.bl
  | [], _, h => by cases h; rfl
  | n :: ns, _, h => by
    cases h with
    | cons a t =>
      cases a
      rw [PRs.blsV t]
      rfl
theorem PRs.strsV {K : PySem.W.Frag} {I : Hp} : ∀ {ns : List Str} {vs : List V}, PRs K I vs (ns.map PyData.str) → vs = ns.map V.str
  | [], _, h => by cases h; rfl
  | n :: ns, _, h => by
    cases h with
    | cons a t =>
      cases a
      rw [PRs.strsV t]
      rfl
def rLen : RNs
  | [.list xs], Q => Q (.val (.int xs.length))
  | [.tuple xs], Q => Q (.val (.int xs.length))
  | [.str x], Q => Q (.val (.int x.length))
  | _, _ => False
theorem c_len : OpN X (fun us => call (.builtin "len") us) rLen := by
  intro pins s σ H I xs us ds Q J sb rv pv q
  rcases ds with _ | ⟨d, _ | ⟨d2, dr⟩⟩
  · exact (show False from q).elim
  · obtain ⟨x, e, p⟩ := pv.one
    subst e
    cases p with
    | lst h p => exact call_len_seq pins s σ H _ us _ J rv ⟨_, _, rfl, .inl (SqL.of h), by rw [p.length]; exact .val sb (.int _) q⟩
    | tup h p => exact call_len_seq pins s σ H _ us _ J rv ⟨_, _, rfl, .inr (SqT.sub sb h), by rw [p.length]; exact .val sb (.int _) q⟩
    | str a h z => exact call_len_str pins s σ H _ us _ J rv ⟨a, rfl, z, .val sb (.int _) q⟩
    | _ => exact (show False from q).elim
  · cases d <;> exact (show False from q).elim
def rTuple : RNs
  | [.list xs], Q => Q (.val (.tuple xs))
  | [.tuple xs], Q => Q (.val (.tuple xs))
  | _, _ => False
theorem c_tuple : OpN X (fun us => call (.type "tuple") us) rTuple := by
  intro pins s σ H I xs us ds Q J sb rv pv q
  rcases ds with _ | ⟨d, _ | ⟨d2, dr⟩⟩
  · exact (show False from q).elim
  · obtain ⟨x, e, p⟩ := pv.one
    subst e
    cases p with
    | lst h p => exact call_tuple_of pins s σ H _ us _ J rv ⟨_, _, rfl, .inl ⟨SqL.of h, fun l hl => .newTup sb hl p q⟩⟩
    | tup h p => exact call_tuple_of pins s σ H _ us _ J rv ⟨_, _, rfl, .inr ⟨SqT.sub sb h, .val sb (.tup h p) q⟩⟩
    | _ => exact (show False from q).elim
  · cases d <;> exact (show False from q).elim
def rList : RNs
  | [.list xs], Q => Q (.lst xs)
  | [.tuple xs], Q => Q (.lst xs)
  | _, _ => False
theorem c_list : OpN X (fun us => call (.type "list") us) rList := by
  intro pins s σ H I xs us ds Q J sb rv pv q
  rcases ds with _ | ⟨d, _ | ⟨d2, dr⟩⟩
  · exact (show False from q).elim
  · obtain ⟨x, e, p⟩ := pv.one
    subst e
    cases p with
    | lst h p => exact call_list_of pins s σ H _ us _ J rv ⟨_, _, rfl, .inl (SqL.of h), fun l hl => .newLst sb hl p q⟩
    | tup h p => exact call_list_of pins s σ H _ us _ J rv ⟨_, _, rfl, .inr (SqT.sub sb h), fun l hl => .newLst sb hl p q⟩
    | _ => exact (show False from q).elim
  · cases d <;> exact (show False from q).elim
def rInt : RNs
  | [.int i], Q => Q (.val (.int i))
  | [.bool k], Q => Q (.val (.int (if k then 1 else 0)))
  | [.str x], Q => x.length ≤ 640 ∧ need (PySem.intText? x) fun n => Q (.val (.int n))
  | _, _ => False
theorem c_int : OpN X (fun us => call (.type "int") us) rInt := by
  intro pins s σ H I xs us ds Q J sb rv pv q
  rcases ds with _ | ⟨d, _ | ⟨d2, dr⟩⟩
  · exact (show False from q).elim
  · obtain ⟨x, e, p⟩ := pv.one
    subst e
    cases p with
    | int i => exact call_int1 pins s σ H _ us _ J rv (.inl ⟨i, rfl, .val sb (.int _) q⟩)
    | bl k => exact call_int1 pins s σ H _ us _ J rv (.inr ⟨k, rfl, .val sb (.int _) q⟩)
    | str x h z =>
      obtain ⟨hz, q⟩ := q
      obtain ⟨n, e, q⟩ := need_some q
      exact call_int_str pins s σ H _ us _ J rv ⟨x, n, rfl, e, hz, .val sb (.int _) q⟩
    | _ => exact (show False from q).elim
  · cases d <;> exact (show False from q).elim
/-- signs that a text may have -/
def okL (l : List Nat) : Prop := ∀ c ∈ l, c < 0x110000
theorem strOk_iff {x : Str} : PyData.strOk x = true ↔ okL x.cps.toList := by
  refine ⟨fun h c hc => ?_, fun h => Array.all_eq_true_iff_forall_mem.mpr fun c hc => ?_⟩
  · have := (Array.all_eq_true_iff_forall_mem.mp h) c (by simpa using hc)
    simpa using this
  · have := h c (by simpa using hc)
    simpa using this
theorem okL_chars (l : List Char) : okL (l.map Char.toNat) := fun c hc => by
  obtain ⟨ch, _, rfl⟩ := List.mem_map.mp hc
  have h := ch.valid
  have h2 : ch.toNat = ch.val.toNat := rfl
  rw [h2]
  rcases h with h | ⟨_, h⟩ <;> omega
theorem strOk_ofString (x : String) : PyData.strOk (Str.ofString x) = true := by
  rw [strOk_iff, Str.ofString_eq_toList]
  exact okL_chars x.toList
theorem okL_append {l l' : List Nat} (a : okL l) (b : okL l') : okL (l ++ l') := fun c hc => (List.mem_append.mp hc).elim (a c) (b c)
theorem okL_reprChar {q c : Nat} (hq : q < 0x110000) (hc : c < 0x110000) : okL (Builtin.Str.reprChar q c) := by
  have hx : ∀ n : Nat, okL (List.replicate n 48 ++ (Nat.toDigits 16 c).map Char.toNat) := fun n => okL_append (fun d hd => by
    rw [List.eq_of_mem_replicate hd]
    decide) (okL_chars _)
  have h2 : ∀ (a b : Nat), a < 0x110000 → b < 0x110000 → okL [a, b] := fun a b ha hb d hd => by
    rcases List.mem_cons.mp hd with rfl | hd
    · exact ha
    · rw [List.mem_singleton] at hd
      subst hd
      exact hb
  unfold Builtin.Str.reprChar
  dsimp only
  split
  · exact h2 _ _ (by decide) hc
  · split
    · exact h2 _ _ (by decide) (by decide)
    · split
      · exact h2 _ _ (by decide) (by decide)
      · split
        · exact h2 _ _ (by decide) (by decide)
        · split
          · intro d hd
            rw [List.mem_singleton] at hd
            subst hd
            exact hc
          · split
            · exact okL_append (h2 _ _ (by decide) (by decide)) (hx _)
            · split
              · exact okL_append (h2 _ _ (by decide) (by decide)) (hx _)
              · exact okL_append (h2 _ _ (by decide) (by decide)) (hx _)
theorem okL_fold {q : Nat} (hq : q < 0x110000) : ∀ (l : List Nat) (acc : Array Nat), okL l → okL acc.toList → okL (l.foldl (fun out c => out ++ (Builtin.Str.reprChar q c).toArray) acc).toList
  | [], _, _, h => h
  | c :: r, acc, hl, h => by
    refine okL_fold hq r _ (fun d hd => hl d (List.mem_cons_of_mem _ hd)) ?_
    rw [Array.toList_append]
    exact okL_append h (okL_reprChar hq (hl c List.mem_cons_self))
theorem strOk_reprText {x : Str} (h : PyData.strOk x = true) : PyData.strOk (reprText x) = true := by
  rw [strOk_iff] at h ⊢
  have hq : reprQuote x < 0x110000 := by
    unfold reprQuote
    split <;> decide
  unfold reprText
  rw [Array.toList_push]
  refine okL_append ?_ (fun d hd => ?_)
  · rw [← Array.foldl_toList]
    exact okL_fold hq _ _ h fun d hd => by
      rw [List.mem_singleton] at hd
      subst hd
      exact hq
  · rw [List.mem_singleton] at hd
    subst hd
    exact hq
theorem strOk_textFrom : ∀ (ts : List Str) (k : Nat) (acc : Str), (∀ t ∈ ts, PyData.strOk t = true) → PyData.strOk acc = true → PyData.strOk (textFrom k acc ts) = true
  | [], _, _, _, h => h
  | t :: ts, k, acc, hts, h => by
    unfold textFrom
    refine strOk_textFrom ts (k + 1) _ (fun u hu => hts u (List.mem_cons_of_mem _ hu)) (strOk_append (strOk_append h ?_) (hts t List.mem_cons_self))
    exact strOk_ofString _
theorem strOk_join {y : Str} (hy : PyData.strOk y = true) : ∀ ts : List Str, (∀ t ∈ ts, PyData.strOk t = true) → PyData.strOk (Str.join y ts) = true
  | [], _ => strOk_ofString ""
  | [x], h => h x (by simp)
  | x :: z :: r, h => by
    show PyData.strOk (x ++ y ++ Str.join y (z :: r)) = true
    exact strOk_append (strOk_append (h x (by simp)) hy) (strOk_join hy (z :: r) fun t ht => h t (List.mem_cons_of_mem _ ht))
mutual
theorem strOk_shown : ∀ {d : PyData}, d.canLay0 = true → PyData.strOk d.shown = true
  | .none, _ => by
    rw [PyData.shown]
    exact strOk_ofString _
  | .bool b, _ => by
    rw [PyData.shown]
    split <;> exact strOk_ofString _
  | .int i, _ => by
    rw [PyData.shown]
    exact strOk_ofString _
  | .str x, h => by
    rw [PyData.shown]
    exact strOk_reprText h
  | .list xs, h => by
    rw [PyData.shown]
    exact strOk_append (strOk_textFrom _ _ _ (strOk_shownAll (ds := xs) h) (strOk_ofString _)) (strOk_ofString _)
  | .tuple xs, h => by
    rw [PyData.shown]
    exact strOk_append (strOk_append (strOk_ofString _) (strOk_join (strOk_ofString _) _ (strOk_shownAll (ds := xs) h))) (strOk_ofString _)
  | .dict _, h => by cases h
theorem strOk_shownAll : ∀ {ds : List PyData}, PyData.canLayAll0 ds = true → ∀ t ∈ PyData.shownAll ds, PyData.strOk t = true
  | [], _, t, ht => by
    rw [PyData.shownAll] at ht
    cases ht
  | x :: xs, h, t, ht => by
    rw [PyData.canLayAll0, Bool.and_eq_true] at h
    rw [PyData.shownAll] at ht
    rcases List.mem_cons.mp ht with rfl | ht
    · exact strOk_shown h.1
    · exact strOk_shownAll h.2 t ht
end
def rStr : RNs
  | [.int i], Q => i.natAbs.log2 < 1920 ∧ Q (.val (.str (toString i)))
  | [.str x], Q => Q (.val (.str x))
  | _, _ => False
theorem c_str : OpN X (fun us => call (.type "str") us) rStr := by
  intro pins s σ H I xs us ds Q J sb rv pv q
  rcases ds with _ | ⟨d, _ | ⟨d2, dr⟩⟩
  · exact (show False from q).elim
  · obtain ⟨x, e, p⟩ := pv.one
    subst e
    cases p with
    | int i => exact call_str_int pins s σ H _ us _ J rv ⟨i, rfl, q.1, .val sb (.str _ (strOk_ofString _) (int_text_fits q.1)) q.2⟩
    | str x h z => exact SkE.call_str_str pins s σ H _ us _ J rv ⟨x, rfl, .val sb (.str x h z) q⟩
    | _ => exact (show False from q).elim
  · cases d <;> exact (show False from q).elim
/-- repr(x) can be asked -/
structure ReprOk (d : PyData) : Prop where
  sh : d.showable = true
  len : d.shown.length ≤ sizeLine
  dep : d.depth ≤ 60
mutual
/-- small ints, no dicts -/
def smI : PyData → Bool
  | .none | .bool _ | .str _ => true
  | .int i => decide (i.natAbs < 10 ^ 22)
  | .list xs | .tuple xs => smAll xs
  | .dict _ => false
def smAll : List PyData → Bool
  | [] => true
  | x :: xs => smI x && smAll xs
end
theorem log_small {i : Int} (h : i.natAbs < 10 ^ 22) : i.natAbs.log2 < 80 := by
  by_cases z : i.natAbs = 0
  · rw [z]
    decide
  · exact (Nat.log2_lt z).mpr (Nat.lt_trans h (by decide))
mutual
theorem smI_show : ∀ {d : PyData}, smI d = true → d.showable = true
  | .none, _ => by rw [PyData.showable]
  | .bool _, _ => by rw [PyData.showable]
  | .str _, _ => by rw [PyData.showable]
  | .int i, h => by
    rw [smI, decide_eq_true_eq] at h
    rw [PyData.showable, decide_eq_true_eq]
    have := log_small h
    omega
  | .list xs, h => by
    rw [smI] at h
    rw [PyData.showable]
    exact smAll_show h
  | .tuple xs, h => by
    rw [smI] at h
    rw [PyData.showable]
    exact smAll_show h
  | .dict _, h => by
    rw [smI] at h
    cases h
theorem smAll_show : ∀ {ds : List PyData}, smAll ds = true → PyData.showableAll ds = true
  | [], _ => by rw [PyData.showableAll]
  | x :: xs, h => by
    rw [smAll, Bool.and_eq_true] at h
    rw [PyData.showableAll, Bool.and_eq_true]
    exact ⟨smI_show h.1, smAll_show h.2⟩
end
mutual
theorem smI_short : ∀ {d : PyData}, d.canLay0 = true → smI d = true → d.leavesShort 24 = true
  | .none, _, _ => by rw [PyData.leavesShort]
  | .bool _, _, _ => by rw [PyData.leavesShort]
  | .str x, h, _ => by
    rw [PyData.leavesShort, List.all_eq_true]
    intro c hc
    have := strOk_iff.mp (show PyData.strOk x = true from h) c hc
    rw [decide_eq_true_eq]
    exact Nat.lt_trans this (by decide)
  | .int i, _, h => by
    rw [smI, decide_eq_true_eq] at h
    rw [PyData.leavesShort, decide_eq_true_eq, PyData.shown]
    have := PySem.int_text_length_le10 (a := i) (k := 22) (by decide) h
    show (Str.ofString (toString i)).length ≤ 24
    rw [PySem.ofString_length]
    omega
  | .list xs, h, h2 => by
    rw [smI] at h2
    rw [PyData.leavesShort]
    exact smAll_short (show PyData.canLayAll0 xs = true from h) h2
  | .tuple xs, h, h2 => by
    rw [smI] at h2
    rw [PyData.leavesShort]
    exact smAll_short (show PyData.canLayAll0 xs = true from h) h2
  | .dict _, _, h2 => by
    rw [smI] at h2
    cases h2
theorem smAll_short : ∀ {ds : List PyData}, PyData.canLayAll0 ds = true → smAll ds = true → PyData.leavesShortAll 24 ds = true
  | [], _, _ => by rw [PyData.leavesShortAll]
  | x :: xs, h, h2 => by
    rw [PyData.canLayAll0, Bool.and_eq_true] at h
    rw [smAll, Bool.and_eq_true] at h2
    rw [PyData.leavesShortAll, Bool.and_eq_true]
    exact ⟨smI_short h.1 h2.1, smAll_short h.2 h2.2⟩
end
/-- small enough to be shown -/
structure ReprS (d : PyData) : Prop where
  sm : smI d = true
  bk : d.bulk ≤ 600000
  dep : d.depth ≤ 60
theorem ReprS.ok {d : PyData} (h : ReprS d) (l : d.canLay0 = true) : ReprOk d :=
  ⟨smI_show h.sm, by
    have := PyData.shown_le_bulk 24 (by decide) d (smI_short l h.sm)
    have := h.bk
    have : (16000000 : Nat) ≤ sizeLine := by decide
    omega, h.dep⟩
def rRepr : RNs
  | [d], Q => ReprS d ∧ Q (.val (.str d.shown))
  | _, _ => False
theorem c_repr (hg : X.A.guards = some []) (hu : X.A.units + 64 < cLine) : OpN X (fun us => call (.builtin "repr") us) rRepr := by
  intro pins s σ H I xs us ds Q J sb rv pv q
  rcases ds with _ | ⟨d, _ | ⟨d2, dr⟩⟩
  · exact (show False from q).elim
  · obtain ⟨x, e, p⟩ := pv.one
    subst e
    obtain ⟨u, rfl, ru⟩ := vals1 rv
    obtain ⟨hr0, q⟩ := q
    have hr := hr0.ok p.canLay
    have hok := strOk_shown p.canLay
    have fin : ∀ (s' : Shared) (t : Tok), Inv X pins σ H s' → EP X pins σ (VP X I H Q) (.str d.shown t) s' := fun s' t J' => ⟨.str d.shown, H, J', ⟨t, rfl⟩, .val sb (.str _ hok hr.len) q⟩
    obtain ⟨as, rd⟩ := p.reads J sb ru
    have hl := hr.len
    cases p with
    | non =>
      cases ru
      simp only [PyData.shown] at fin
      exact PySem.P.repr_of_none (fin _ _ (J.tok _))
    | bl b =>
      cases ru
      simp only [PyData.shown] at fin
      exact PySem.P.repr_of_bool (fin _ _ (J.tok _))
    | int i =>
      obtain ⟨t, rfl⟩ := ru
      simp only [PyData.shown] at fin
      have hs := hr.sh
      rw [PyData.showable, decide_eq_true_eq] at hs
      exact PySem.P.repr_of_int hs (fin _ _ (J.tok _))
    | str x h z =>
      obtain ⟨t, rfl⟩ := ru
      simp only [PyData.shown] at fin hl
      exact PySem.P.repr_of_str (fin _ _ (J.tok _)) hl
    | tup h p =>
      cases ru
      exact repr_of_reads' rd hr.sh (PyData.noDict_hsm (PyData.hasDict_of_canLay _ (AR.tup (H := H) h p).canLay)) hg (by have := hr.dep; omega) (fun _ _ z => z) (fun h' u tk k => fin _ _ (J.kept k)) hl
    | lst h p =>
      cases ru
      exact repr_of_reads' rd hr.sh (PyData.noDict_hsm (PyData.hasDict_of_canLay _ (AR.lst (I := I) (H := H) h p).canLay)) hg (by have := hr.dep; omega) (fun _ _ z => z) (fun h' u tk k => fin _ _ (J.kept k)) hl
  · exact (show False from q).elim
end
end SV
/-! SvG: built-ins over lists; methods of built-in types; methods that change an own list. -/
namespace SV
open PySem PySem.Spec PyProof.Rows L2

/-! ### lists of one kind -/
def intsOf : List PyData → Option (List Int)
  | [] => some []
  | .int i :: r => (intsOf r).map (i :: ·)
  | _ :: _ => none
def boolsOf : List PyData → Option (List Bool)
  | [] => some []
  | .bool i :: r => (boolsOf r).map (i :: ·)
  | _ :: _ => none
def strsOf : List PyData → Option (List Str)
  | [] => some []
  | .str i :: r => (strsOf r).map (i :: ·)
  | _ :: _ => none
theorem intsOf_map : ∀ ns : List Int, intsOf (ns.map .int) = some ns
  | [] => rfl
  | n :: r => by
    show (intsOf (r.map .int)).map (n :: ·) = _
    rw [intsOf_map r]
    rfl
theorem boolsOf_map : ∀ ns : List Bool, boolsOf (ns.map .bool) = some ns
  | [] => rfl
  | n :: r => by
    show (boolsOf (r.map .bool)).map (n :: ·) = _
    rw [boolsOf_map r]
    rfl
theorem strsOf_map : ∀ ns : List Str, strsOf (ns.map .str) = some ns
  | [] => rfl
  | n :: r => by
    show (strsOf (r.map .str)).map (n :: ·) = _
    rw [strsOf_map r]
    rfl
theorem intsOf_inv : ∀ {ds : List PyData} {ns : List Int}, intsOf ds = some ns → ds = ns.map .int
  | [], ns, h => by cases h; rfl
  | d :: r, ns, h => by
    cases d with
    | int i =>
      obtain ⟨ms, e, rfl⟩ := Option.map_eq_some_iff.mp (show (intsOf r).map (i :: ·) = some ns from h)
      rw [intsOf_inv e]
      rfl
    | _ => cases h
theorem boolsOf_inv : ∀ {ds : List PyData} {ns : List Bool}, boolsOf ds = some ns → ds = ns.map .bool
  | [], ns, h => by cases h; rfl
  | d :: r, ns, h => by
    cases d with
    | bool i =>
      obtain ⟨ms, e, rfl⟩ := Option.map_eq_some_iff.mp (show (boolsOf r).map (i :: ·) = some ns from h)
      rw [boolsOf_inv e]
      rfl
    | _ => cases h
theorem strsOf_inv : ∀ {ds : List PyData} {ns : List Str}, strsOf ds = some ns → ds = ns.map .str
  | [], ns, h => by cases h; rfl
  | d :: r, ns, h => by
    cases d with
    | str i =>
      obtain ⟨ms, e, rfl⟩ := Option.map_eq_some_iff.mp (show (strsOf r).map (i :: ·) = some ns from h)
      rw [strsOf_inv e]
      rfl
    | _ => cases h

section
variable {X : Cx}
def rSum : RNs
  | [.list xs], Q => need (intsOf xs) fun ns => Q (.val (.int ns.sum))
  | _, _ => False
theorem c_sum (hc : X.calm = true) : OpN X (fun us => call (.builtin "sum") us) rSum := by
  intro pins s σ H I xs us ds Q J sb rv pv q
  rcases ds with _ | ⟨d, _ | ⟨d2, dr⟩⟩
  · exact (show False from q).elim
  · obtain ⟨x, e, p⟩ := pv.one
    subst e
    cases p with
    | lst h p =>
      obtain ⟨ns, e, q2⟩ := need_some q
      have e := intsOf_inv e
      subst e
      rw [p.intsV] at h
      exact cr_sum hc pins s σ H _ us _ J rv ⟨_, ns, rfl, SqL.of h, .val sb (.int _) q2⟩
    | _ => exact (show False from q).elim
  · cases d <;> exact (show False from q).elim
def rAny : RNs
  | [.list xs], Q => need (boolsOf xs) fun ns => Q (.val (.bool (ns.any id)))
  | _, _ => False
def rAll : RNs
  | [.list xs], Q => need (boolsOf xs) fun ns => Q (.val (.bool (ns.all id)))
  | _, _ => False
theorem c_any (hc : X.calm = true) : OpN X (fun us => call (.builtin "any") us) rAny := by
  intro pins s σ H I xs us ds Q J sb rv pv q
  rcases ds with _ | ⟨d, _ | ⟨d2, dr⟩⟩
  · exact (show False from q).elim
  · obtain ⟨x, e, p⟩ := pv.one
    subst e
    cases p with
    | lst h p =>
      obtain ⟨ns, e, q2⟩ := need_some q
      have e := boolsOf_inv e
      subst e
      rw [p.blsV] at h
      exact cr_any hc pins s σ H _ us _ J rv ⟨_, ns, rfl, SqL.of h, .val sb (.bl _) q2⟩
    | _ => exact (show False from q).elim
  · cases d <;> exact (show False from q).elim
theorem c_all (hc : X.calm = true) : OpN X (fun us => call (.builtin "all") us) rAll := by
  intro pins s σ H I xs us ds Q J sb rv pv q
  rcases ds with _ | ⟨d, _ | ⟨d2, dr⟩⟩
  · exact (show False from q).elim
  · obtain ⟨x, e, p⟩ := pv.one
    subst e
    cases p with
    | lst h p =>
      obtain ⟨ns, e, q2⟩ := need_some q
      have e := boolsOf_inv e
      subst e
      rw [p.blsV] at h
      exact cr_all hc pins s σ H _ us _ J rv ⟨_, ns, rfl, SqL.of h, .val sb (.bl _) q2⟩
    | _ => exact (show False from q).elim
  · cases d <;> exact (show False from q).elim
def rMax2 : RNs
  | [.int i, .int j], Q => Q (.val (.int (if j > i then j else i)))
  | _, _ => False
def rMin2 : RNs
  | [.int i, .int j], Q => Q (.val (.int (if j < i then j else i)))
  | _, _ => False
theorem c_max2 (hc : X.calm = true) : OpN X (fun us => call (.builtin "max") us) rMax2 := by
  intro pins s σ H I xs us ds Q J sb rv pv q
  rcases ds with _ | ⟨d, _ | ⟨d2, _ | ⟨d3, dr⟩⟩⟩
  · exact (show False from q).elim
  · cases d <;> exact (show False from q).elim
  · obtain ⟨x, y, e, p, p'⟩ := pv.two
    subst e
    cases p with
    | int i =>
      cases p' with
      | int j => exact call_max2 hc pins s σ H _ us _ J rv ⟨i, j, rfl, .val sb (.int _) q⟩
      | _ => exact (show False from q).elim
    | _ => exact (show False from q).elim
  · cases d <;> cases d2 <;> exact (show False from q).elim
theorem c_min2 (hc : X.calm = true) : OpN X (fun us => call (.builtin "min") us) rMin2 := by
  intro pins s σ H I xs us ds Q J sb rv pv q
  rcases ds with _ | ⟨d, _ | ⟨d2, _ | ⟨d3, dr⟩⟩⟩
  · exact (show False from q).elim
  · cases d <;> exact (show False from q).elim
  · obtain ⟨x, y, e, p, p'⟩ := pv.two
    subst e
    cases p with
    | int i =>
      cases p' with
      | int j => exact call_min2 hc pins s σ H _ us _ J rv ⟨i, j, rfl, .val sb (.int _) q⟩
      | _ => exact (show False from q).elim
    | _ => exact (show False from q).elim
  · cases d <;> cases d2 <;> exact (show False from q).elim
/-- sorted(xs) -/
noncomputable def sortD (ds : List PyData) : List PyData := ds.mergeSort (PySem.W.dataLe false fun d => d)
structure SortOk (ds : List PyData) : Prop where
  al : PySem.W.AllAlike ds
  so : PySem.W.Sortable ds
  dep : ∀ d ∈ ds, d.depth ≤ 60
def rSorted : RNs
  | [.list xs], Q => SortOk xs ∧ Q (.lst (sortD xs))
  | _, _ => False
theorem each_of {K : PySem.W.Frag} {I : Hp} : ∀ {vs : List V} {us : List Value} {ds : List PyData}, Vals vs us → PRs K I vs ds → PySem.W.EachIs (fun u d => ∃ v, RelV v u ∧ PR K I v d) us ds
  | _, _, _, .nil, .nil => .nil
  | _, _, _, .cons r t, .cons p q => .cons ⟨_, r, p⟩ (each_of t q)
theorem of_each {K : PySem.W.Frag} {I : Hp} : ∀ {us : List Value} {ds : List PyData}, PySem.W.EachIs (fun u d => ∃ v, RelV v u ∧ PR K I v d) us ds → ∃ vs, Vals vs us ∧ PRs K I vs ds
  | _, _, .nil => ⟨[], .nil, .nil⟩
  | _, _, .cons ⟨v, r, p⟩ t => let ⟨vs, a, b⟩ := of_each t; ⟨v :: vs, .cons r a, .cons p b⟩
theorem sortD_length (ds : List PyData) : (sortD ds).length = ds.length := by
  unfold sortD
  exact List.length_mergeSort ds
theorem c_sorted (hu : X.A.units + 64 < cLine) : OpN X (fun us => call (.builtin "sorted") us) rSorted := by
  intro pins s σ H I xs us ds Q J sb rv pv q
  rcases ds with _ | ⟨d, _ | ⟨d2, dr⟩⟩
  · exact (show False from q).elim
  · obtain ⟨x, e, p⟩ := pv.one
    subst e
    obtain ⟨u, rfl, ru⟩ := vals1 rv
    cases p with
    | @lst a vs ds h p =>
      cases ru
      obtain ⟨ok, q⟩ := q
      obtain ⟨its, rvs, pl, hz⟩ := J.list (SqL.of (K := X.K) h)
      have eb := each_of rvs p
      refine PySem.W.sorted_data (vs := its) (enc := fun d => d) pl.isList eb (eb.mono fun u d ⟨v, r, pr⟩ => pr.reads J sb r) (by rw [List.map_id']; exact ok.al) (by rw [List.map_id']; exact ok.so) (by rw [← p.length]; exact hz) (fun b hb => by have := ok.dep b hb; omega) fun out hl eo => ?_
      obtain ⟨ws, rws, pws⟩ := of_each eo
      obtain ⟨ep, he⟩ := sortedAll_at s.heap its out.toArray
      have hlen : ws.length ≤ sizeLine := by rw [rws.length, hl, ← p.length]; exact hz
      exact ⟨.ref _, upd H (s.heap.objs.size + 1) (.lst ws), J.laid (t' := s.toks) (fun _ _ => sortedAll_old) (Nat.le_succ _) ⟨hlen, out, ep, rws, he⟩, rfl, .newLst sb (J.hok.fresh (Nat.le_succ _)) pws q⟩
    | _ => exact (show False from q).elim
  · cases d <;> exact (show False from q).elim
end

/-! ### methods of a value of a built-in type -/
abbrev RMs := PyData → RNs
def MOp (X : Cx) (id : String) (r : RMs) : Prop :=
  ∀ (pins : List (Addr × Obj)) (s : Shared) (σ : L2.St) (H I : Hp) (x : V) (xs : List V) (v : Value) (us : List Value) (d : PyData) (ds : List PyData) (Q : S → Prop), Inv X pins σ H s → Sub I H → RelV x v → Vals xs us → AR X.K I H x d → ARs X.K I H xs ds → r d ds Q →
    wpAny (model X.prog X.w) X.A (call (.builtin id) (v :: us)) (EP X pins σ (VP X I H Q)) X.xe s
/-- the built-in type of data -/
def tyD (T : String) : PyData → Prop
  | .str _ => T = "str"
  | .list _ => T = "list"
  | .int _ => T = "int"
  | _ => False
theorem AR.ty {K : PySem.W.Frag} {I H : Hp} {T : String} {x : V} {d : PyData} (h : AR K I H x d) (t : tyD T d) : tyV K T x H := by
  cases h with
  | str => exact t
  | int => exact t
  | lst h _ => exact .inl ⟨t, _, SqL.of h⟩
  | _ => exact t.elim
def sM (T : String) (r : RMs) (to : TEs) (tp : TPs) : TEs := fun σs Q ES => to σs (fun x σ1 => nd x.toD fun d => tyD T d ∧ tp σ1 (fun ds σ2 => r d ds fun z => Q z σ2) ES) ES
section
variable {X : Cx} {ar : Nat → Option V} {o e : Expr} {es : List Expr} {b1 b2 b3 m1 m2 : Bool} {to : TEs} {tp : TPs} {name : Str} {apos cpos : Pos} {T id : String} {r : RMs}
theorem je_meth (pa : PlainAttrs T) (slot : Slot T name id) (hty : typeOf (.builtin id) = pure (.type "method_descriptor")) (hm : MOp X id r) (ho : JE X ar b1 m1 o to) (ha : JA X ar b2 (e :: es) tp) (hv : m1 = true ∨ b2 = true := by first | exact Or.inl rfl | exact Or.inr rfl)
    (hbase : attributeBase o name X.env (eval o X.env) = eval o X.env := by rfl)
    (hfew : ((backTo cpos (starEach (e :: es) X.env)).all (fun x => !x.1) && (backToKw cpos (keywordEach [] X.env)).all (fun x => x.1.isSome)
      && decide ((e :: es).length + ([] : List Keyword).length + (if ([] : List Keyword).isEmpty then 0 else 1) < 30)) = true := by rfl)
    (hline : (apos.endLine == cpos.line) = true := by rfl) (hs : starEach (e :: es) X.env = (false, eval e X.env) :: starEach es X.env := by rfl) (hplain : (backTo cpos (starEach es X.env)).any (·.1) = false := by rfl) :
    JE X ar (b1 && b2) true (.Call (.Attribute o name apos) (e :: es) [] cpos) (sM T r to tp) := by
  refine ⟨fun pins s σ I H F σs Q ES J st tx q => ?_⟩
  refine wpAny_Call_method_late hbase hfew hline rfl (thn (ho.run pins s σ I H F σs _ ES J st tx q) fun v s1 ⟨x, rx, R1, I1, H1, F1, σ1, h1, r1, q1⟩ => ?_)
  obtain ⟨d, ex, ty, q1⟩ := nd_some q1
  obtain ⟨t1, t2⟩ := tyV_is h1.inv r1 ((h1.sr.ar h1.st.sub ex).ty ty)
  refine ⟨T, id, pa, slot, hty, t1, t2, ?_⟩
  have hA := ha.run cpos pins s1 σ I1 H1 F1 σ1 _ ES h1.inv h1.st (tx.go h1.base.evo fun _ z => z) q1
  rw [hs] at hA ⊢
  refine Calls.callWith_builtin (by show (false || (backTo cpos (starEach es X.env)).any (·.1)) = false; rw [hplain] <;> rfl) (Calls.evalArgs_plain ?_)
  refine thn hA fun us s2 ⟨vs, ds, I2, H2, F2, σ2, d2, rv, pv, q2⟩ => ?_
  obtain ⟨sx, _, _, _⟩ := h1.over d2 hv
  exact thn (hm pins s2 σ H2 I2 x vs v us d ds _ d2.inv d2.st.sub r1 rv (sx.ar d2.st.sub ex) (pv.ars d2.st.sub) q2) fun w s3 h => RP.of_vp (h1.base.then d2) h
theorem je_meth0 (pa : PlainAttrs T) (slot : Slot T name id) (hty : typeOf (.builtin id) = pure (.type "method_descriptor")) (hm : MOp X id r) (ho : JE X ar b1 m1 o to)
    (hbase : attributeBase o name X.env (eval o X.env) = eval o X.env := by rfl) (hline : (apos.endLine == cpos.line) = true := by rfl) : JE X ar b1 true (.Call (.Attribute o name apos) [] [] cpos) (sM T r to pNil) := by
  refine ⟨fun pins s σ I H F σs Q ES J st tx q => ?_⟩
  refine wpAny_Call_method0_late hbase hline (thn (ho.run pins s σ I H F σs _ ES J st tx q) fun v s1 ⟨x, rx, R1, I1, H1, F1, σ1, h1, r1, q1⟩ => ?_)
  obtain ⟨d, ex, ty, q1⟩ := nd_some q1
  obtain ⟨t1, t2⟩ := tyV_is h1.inv r1 ((h1.sr.ar h1.st.sub ex).ty ty)
  exact ⟨T, id, pa, slot, hty, t1, t2, Calls.callWith_builtin rfl (PySem.evalArgs_none (thn (hm pins s1 σ H1 I1 x [] v [] d [] _ h1.inv h1.st.sub r1 .nil (h1.sr.ar h1.st.sub ex) .nil q1) fun w s3 h => RP.of_vp h1.base h))⟩
end

section
variable {X : Cx}
def rJoin : RMs
  | .str a, [.list xs], Q => need (strsOf xs) fun ys => (ys.map (·.length)).sum + ys.length * a.length ≤ 16777216 ∧ Q (.val (.str (Txt.join a ys)))
  | _, _, _ => False
theorem join_len (a : Str) : ∀ ys : List Str, (Str.join a ys).length ≤ (ys.map (·.length)).sum + ys.length * a.length
  | [] => Nat.zero_le _
  | [x] => by
    show x.length ≤ _
    simp
  | x :: z :: r => by
    have ih := join_len a (z :: r)
    show (x ++ a ++ Str.join a (z :: r)).length ≤ _
    rw [str_append_length, str_append_length]
    simp only [List.map_cons, List.sum_cons, List.length_cons, Nat.succ_mul, Nat.add_mul] at ih ⊢
    omega
theorem join_eq (a : Str) (ys : List Str) : Txt.join a ys = Str.join a ys := StrLaws.glued_eq_join a ys
theorem PRs.strsOk {K : PySem.W.Frag} {I : Hp} : ∀ {vs : List V} {ys : List Str}, PRs K I vs (ys.map .str) → ∀ t ∈ ys, PyData.strOk t = true ∧ t.length ≤ sizeLine
  | _, [], _, t, ht => by cases ht
  | _, y :: r, h, t, ht => by
    cases h with
    | cons a b =>
      rcases List.mem_cons.mp ht with rfl | ht
      · cases a with
        | str _ h1 h2 => exact ⟨h1, h2⟩
      · exact PRs.strsOk b t ht
theorem m_join : MOp X "str.join" rJoin := by
  intro pins s σ H I x xs v us d ds Q J sb rx rv p pv q
  cases p with
  | str a ha za =>
    rcases ds with _ | ⟨d, _ | ⟨d2, dr⟩⟩
    · exact (show False from q).elim
    · obtain ⟨y, e, p⟩ := pv.one
      subst e
      cases p with
      | lst h p =>
        obtain ⟨ys, e, hz, q2⟩ := need_some q
        have e := strsOf_inv e
        subst e
        have hok := p.strsOk
        rw [p.strsV] at h
        exact mt_join pins s σ H _ _ v us _ J rx rv ⟨a, _, ys, rfl, rfl, .inl (SqL.of h), hz, .val sb (.str _ (by rw [join_eq]; exact strOk_join ha ys fun t ht => (hok t ht).1) (by rw [join_eq, sizeLine_eq]; exact Nat.le_trans (join_len a ys) hz)) q2⟩
      | _ => exact (show False from q).elim
    · cases d <;> exact (show False from q).elim
  | _ => exact (show False from q).elim
end
end SV
/-! SvH: methods that change an own list; what a def promises; its call. -/
namespace SV
open PySem PySem.Spec PyProof.Rows L2

/-! ### an own list is changed -/
section
variable {K : PySem.W.Frag} {ar : Nat → Option V} {I H : Hp} {σ : L2.St} {σs : SSt} {F : Nat → List Addr}
theorem SR.lst_inv {v : V} {ds : List PyData} {R : List Addr} (h : SR K I H v (.lst ds) R) : ∃ a vs, v = .ref a ∧ R = [a] ∧ H a = some (.lst vs) ∧ PRs K I vs ds := by
  generalize e : S.lst ds = r at h
  cases h with
  | val => cases e
  | lst h p => cases e; exact ⟨_, _, rfl, rfl, h, p⟩
  | scr => cases e
  | adr => cases e
  | exn => cases e
  | tpl => cases e
  | dct => cases e
  | ins => cases e
theorem StR.mutate (h : StR K ar I H σ σs F) {i : Nat} {a : Addr} {ds ds' : List PyData} {ws : List V} (q : gets σs i = some (.lst ds)) (ev : σ[i]? = some (some (.ref a))) (eF : F i = [a]) (p : PRs K I ws ds') :
    StR K ar I (upd H a (.lst ws)) σ (sets σs i (some (.lst ds'))) F ∧ Evo I H (own F) I (upd H a (.lst ws)) (own F) := by
  have ia : I a = none := h.notI i a (by rw [eF]; simp)
  have ha : ∃ x, H a = some x := h.there ⟨i, by rw [eF]; simp⟩
  have out : ∀ b, (¬ b = a) → upd H a (.lst ws) b = H b := fun b n => upd_ne n
  refine ⟨⟨fun b x e => ?_, fun j r' q' => ?_, fun j q' => ?_, h.dis, h.notI, fun j w r' hj q' => ?_, by rw [sets_length]; exact h.len⟩, ⟨.refl I, fun b x e n => ?_, fun b m => .inl m, fun b x e => .inl e⟩⟩
  · have n : ¬ b = a := fun z => by rw [z, ia] at e; cases e
    rw [out b n]
    exact h.sub b x e
  · by_cases hj : j = i
    · subst hj
      rw [gets_sets_same (gets_some_lt q)] at q'
      cases q'
      refine ⟨_, ev, ?_⟩
      rw [eF]
      exact .lst upd_same p
    · rw [gets_sets_ne hj] at q'
      obtain ⟨w, e2, r2⟩ := h.rep j r' q'
      refine ⟨w, e2, r2.keep (.refl I) fun b m x e => ?_⟩
      have n : ¬ b = a := fun z => by
        subst z
        exact hj (h.dis j i b m (by rw [eF]; simp))
      rw [out b n]
      exact e
  · have hj : j ≠ i := fun e => by
      rw [e, gets_sets_same (gets_some_lt q)] at q'
      cases q'
    rw [gets_sets_ne hj] at q'
    exact h.non j q'
  · by_cases hji : j = i
    · subst hji
      rcases h.par j w _ hj q with ⟨d, e⟩ | e
      · cases e
      · exact .inr e
    · rw [gets_sets_ne hji] at q'
      exact h.par j w r' hj q'
  · have nb : ¬ b = a := fun z => n ⟨i, by rw [eF, z]; simp⟩
    rw [out b nb]
    exact e
end

abbrev RMut := List PyData → List PyData → (PyData → List PyData → Prop) → Prop
def MutOp (X : Cx) (id : String) (r : RMut) : Prop :=
  ∀ (pins : List (Addr × Obj)) (s : Shared) (σ : L2.St) (H I : Hp) (a : Addr) (vs xs : List V) (us : List Value) (ds es : List PyData) (Q : PyData → List PyData → Prop), Inv X pins σ H s → Sub I H → H a = some (.lst vs) → PRs X.K I vs ds → Vals xs us → PRs X.K I xs es → r ds es Q →
    wpAny (model X.prog X.w) X.A (call (.builtin id) (.ref a :: us)) (EP X pins σ fun v H' => ∃ ws ds' d, H' = upd H a (.lst ws) ∧ PRs X.K I ws ds' ∧ PR X.K I v d ∧ Q d ds') X.xe s
def sMut (i : Nat) (r : RMut) (tp : TPs) : TEs := fun σs Q ES => match gets σs i with
  | some (.lst _) => tp σs (fun es σ1 => match gets σ1 i with
    | some (.lst ds) => r ds es fun d ds' => Q (.val d) (sets σ1 i (some (.lst ds')))
    | _ => False) ES
  | _ => False
section
variable {X : Cx} {ar : Nat → Option V} {o e : Expr} {es : List Expr} {b1 b2 b3 m1 m2 : Bool} {to : TEs} {tp : TPs} {name x : Str} {npos apos cpos : Pos} {id : String} {r : RMut}
theorem mut_end {i : Nat} {Q : KS} {pins : List (Addr × Obj)} {σ : L2.St} {I H I1 H1 : Hp} {F F1 : Nat → List Addr} {σs σ1 : SSt} {s1 s2 : Shared} {w : Value} {a : Addr} {ds : List PyData} (d : BPd X ar pins σ b1 I H F σs I1 H1 F1 σ1 s1)
    (g : gets σ1 i = some (.lst ds)) (ev : σ[i]? = some (some (.ref a))) (eF : F1 i = [a])
    (h : EP X pins σ (fun v H' => ∃ ws ds' d, H' = upd H1 a (.lst ws) ∧ PRs X.K I1 ws ds' ∧ PR X.K I1 v d ∧ Q (.val d) (sets σ1 i (some (.lst ds')))) w s2) : RP X ar pins σ false true I H F σs Q w s2 := by
  obtain ⟨v, H2, J2, rv, ws, ds', dd, eH, pw, pd, q⟩ := h
  subst eH
  obtain ⟨st2, ev2⟩ := d.st.mutate g ev eF pw
  exact ⟨v, .val dd, [], I1, _, F1, _, ⟨J2, (d.evo.trans ev2 (fun _ z => z) fun c z => by
    rcases z with z | z
    · cases z
    · exact .inr z), st2, .val pd, fun _ b m => absurd m (by simp), fun b m => absurd m (by simp), (fun z => Bool.noConfusion z)⟩, rv, q⟩
theorem je_mut (i : Nat) (slot : Slot "list" name id) (hty : typeOf (.builtin id) = pure (.type "method_descriptor")) (hm : MutOp X id r) (ha : JA X ar b2 (e :: es) tp)
    (hN : X.N[i]? = some x := by rfl) (hv : Vis X.env.scope x := by first | exact Or.inl rfl | exact Or.inr (Or.inl rfl) | exact Or.inr (Or.inr rfl)) (hd : (x == ("__debug__" : Str)) = false := by decide) (hcd : (x == ("__classdict__" : Str)) = false := by decide)
    (hbase : attributeBase (.Name x npos) name X.env (eval (.Name x npos) X.env) = eval (.Name x npos) X.env := by rfl)
    (hfew : ((backTo cpos (starEach (e :: es) X.env)).all (fun x => !x.1) && (backToKw cpos (keywordEach [] X.env)).all (fun x => x.1.isSome)
      && decide ((e :: es).length + ([] : List Keyword).length + (if ([] : List Keyword).isEmpty then 0 else 1) < 30)) = true := by rfl)
    (hline : (apos.endLine == cpos.line) = true := by rfl) (hs : starEach (e :: es) X.env = (false, eval e X.env) :: starEach es X.env := by rfl) (hplain : (backTo cpos (starEach es X.env)).any (·.1) = false := by rfl) :
    JE X ar false true (.Call (.Attribute (.Name x npos) name apos) (e :: es) [] cpos) (sMut i r tp) := by
  refine ⟨fun pins s σ I H F σs Q ES J st tx q => ?_⟩
  unfold sMut at q
  cases g0 : gets σs i with
  | none => rw [g0] at q; exact q.elim
  | some r0 =>
    rw [g0] at q
    cases r0 with
    | lst ds0 =>
      obtain ⟨v, e1, sr⟩ := st.rep i _ g0
      obtain ⟨a, vs0, rfl, eF0, hH0, p0⟩ := sr.lst_inv
      refine wpAny_Call_method_late hbase hfew hline rfl (eval_name J hN hv e1 hd hcd fun u s1 J1 ru => ?_)
      obtain ⟨t1, t2⟩ := tyV_is (T := "list") J1 ru (.inl ⟨rfl, _, SqL.of hH0⟩)
      refine ⟨"list", id, PySem.F.plainAttrs_list, slot, hty, t1, t2, ?_⟩
      have hA := ha.run cpos pins s1 σ I H F σs _ ES J1 st tx q
      rw [hs] at hA ⊢
      refine Calls.callWith_builtin (by show (false || (backTo cpos (starEach es X.env)).any (·.1)) = false; rw [hplain] <;> rfl) (Calls.evalArgs_plain ?_)
      refine thn hA fun us s2 ⟨vs, ds, I2, H2, F2, σ2, d2, rv, pv, q2⟩ => ?_
      dsimp only at q2
      cases g2 : gets σ2 i with
      | none => rw [g2] at q2; exact q2.elim
      | some r2 =>
        rw [g2] at q2
        cases r2 with
        | lst ds2 =>
          obtain ⟨v2, e2, sr2⟩ := d2.st.rep i _ g2
          obtain ⟨a2, vs2, rfl, eF2, hH2, p2⟩ := sr2.lst_inv
          rw [e1] at e2
          cases e2
          cases ru
          exact thn (hm pins s2 σ H2 I2 a vs2 vs us ds2 ds _ d2.inv d2.st.sub hH2 p2 rv pv q2) fun w s3 h => mut_end d2 g2 e1 eF2 h
        | _ => exact q2.elim
    | _ => exact q.elim
theorem je_mut0 (i : Nat) (slot : Slot "list" name id) (hty : typeOf (.builtin id) = pure (.type "method_descriptor")) (hm : MutOp X id r)
    (hN : X.N[i]? = some x := by rfl) (hv : Vis X.env.scope x := by first | exact Or.inl rfl | exact Or.inr (Or.inl rfl) | exact Or.inr (Or.inr rfl)) (hd : (x == ("__debug__" : Str)) = false := by decide) (hcd : (x == ("__classdict__" : Str)) = false := by decide)
    (hbase : attributeBase (.Name x npos) name X.env (eval (.Name x npos) X.env) = eval (.Name x npos) X.env := by rfl) (hline : (apos.endLine == cpos.line) = true := by rfl) :
    JE X ar false true (.Call (.Attribute (.Name x npos) name apos) [] [] cpos) (sMut i r pNil) := by
  refine ⟨fun pins s σ I H F σs Q ES J st tx q => ?_⟩
  unfold sMut at q
  cases g0 : gets σs i with
  | none => rw [g0] at q; exact q.elim
  | some r0 =>
    rw [g0] at q
    cases r0 with
    | lst ds0 =>
      obtain ⟨v, e1, sr⟩ := st.rep i _ g0
      obtain ⟨a, vs0, rfl, eF0, hH0, p0⟩ := sr.lst_inv
      refine wpAny_Call_method0_late hbase hline (eval_name J hN hv e1 hd hcd fun u s1 J1 ru => ?_)
      obtain ⟨t1, t2⟩ := tyV_is (T := "list") J1 ru (.inl ⟨rfl, _, SqL.of hH0⟩)
      refine ⟨"list", id, PySem.F.plainAttrs_list, slot, hty, t1, t2, Calls.callWith_builtin rfl (PySem.evalArgs_none ?_)⟩
      unfold pNil at q
      dsimp only at q
      rw [g0] at q
      cases ru
      exact thn (hm pins s1 σ H I a vs0 [] [] ds0 [] _ J1 st.sub hH0 p0 .nil .nil q) fun w s3 h => mut_end (b1 := true) (BPd.refl J1 st) g0 e1 eF0 h
    | _ => exact q.elim
end

section
variable {X : Cx}
def uAppend : RMut
  | ds, [d], Q => ds.length < sizeLine ∧ Q .none (ds ++ [d])
  | _, _, _ => False
theorem PRs.oneV {K : PySem.W.Frag} {I : Hp} {xs : List V} {d : PyData} (h : PRs K I xs [d]) : ∃ x, xs = [x] ∧ PR K I x d := by
  cases h with
  | cons a t => cases t; exact ⟨_, rfl, a⟩
theorem u_append : MutOp X "list.append" uAppend := by
  intro pins s σ H I a vs xs us ds es Q J sb hH p rv pe q
  rcases es with _ | ⟨d, _ | ⟨d2, dr⟩⟩
  · exact (show False from q).elim
  · obtain ⟨x, e, pd⟩ := pe.oneV
    subst e
    exact mt_append pins s σ H (.ref a) _ (.ref a) us _ J rfl rv ⟨a, vs, x, rfl, rfl, hH, by rw [p.length]; exact q.1, _, _, _, rfl, p.append (.cons pd .nil), .non, q.2⟩
  · exact (show False from q).elim
def uExtend : RMut
  | ds, [.list es], Q => ds.length + es.length ≤ sizeLine ∧ Q .none (ds ++ es)
  | _, _, _ => False
theorem u_extend : MutOp X "list.extend" uExtend := by
  intro pins s σ H I a vs xs us ds es Q J sb hH p rv pe q
  rcases es with _ | ⟨d, _ | ⟨d2, dr⟩⟩
  · exact (show False from q).elim
  · obtain ⟨x, e, pd⟩ := pe.oneV
    subst e
    cases pd with
    | lst h p2 => exact mt_extend pins s σ H (.ref a) _ (.ref a) us _ J rfl rv ⟨a, _, vs, _, rfl, rfl, hH, sb _ _ h, by rw [p.length, p2.length]; exact q.1, _, _, _, rfl, p.append p2, .non, q.2⟩
    | _ => exact (show False from q).elim
  · cases d <;> exact (show False from q).elim
def uPop : RMut
  | ds, [], Q => need ds.getLast? fun d => Q d ds.dropLast
  | ds, [.int i], Q => (-(2 ^ 63) ≤ i ∧ i < 2 ^ 63) ∧ need (ixN ds.length i) fun k => need ds[k]? fun d => Q d (ds.eraseIdx k)
  | _, _, _ => False
theorem PRs.dropLast {K : PySem.W.Frag} {I : Hp} : ∀ {vs : List V} {ds : List PyData}, PRs K I vs ds → PRs K I vs.dropLast ds.dropLast
  | _, _, .nil => .nil
  | _, _, .cons h .nil => .nil
  | _, _, .cons h (.cons h' t) => .cons h (PRs.dropLast (.cons h' t))
theorem PRs.eraseIdx {K : PySem.W.Frag} {I : Hp} : ∀ {vs : List V} {ds : List PyData} (k : Nat), PRs K I vs ds → PRs K I (vs.eraseIdx k) (ds.eraseIdx k)
  | _, _, _, .nil => .nil
  | _, _, 0, .cons _ t => t
  | _, _, k + 1, .cons h t => .cons h (PRs.eraseIdx k t)
theorem u_pop : MutOp X "list.pop" uPop := by
  intro pins s σ H I a vs xs us ds es Q J sb hH p rv pe q
  rcases es with _ | ⟨d, _ | ⟨d2, dr⟩⟩
  · cases pe
    obtain ⟨d, e, q2⟩ := need_some q
    rw [List.getLast?_eq_getElem?] at e
    obtain ⟨v, e1, pd⟩ := p.get e
    rw [← p.length] at e1
    exact mt_pop pins s σ H (.ref a) _ (.ref a) us _ J rfl rv ⟨a, vs, v, rfl, rfl, hH, e1, _, _, _, rfl, p.dropLast, pd, q2⟩
  · obtain ⟨x, e, pd⟩ := pe.oneV
    subst e
    cases pd with
    | int i =>
      obtain ⟨⟨h1, h2⟩, q⟩ := q
      obtain ⟨k, ek, q⟩ := need_some q
      obtain ⟨d, ed, q2⟩ := need_some q
      obtain ⟨v, e1, pd⟩ := p.get ed
      exact mt_popAt pins s σ H (.ref a) _ (.ref a) us _ J rfl rv ⟨a, vs, i, k, v, rfl, rfl, hH, h1, h2, by rw [p.length]; exact (ixN_seq ek).1, e1, _, _, _, rfl, p.eraseIdx k, pd, q2⟩
    | _ => exact (show False from q).elim
  · cases d <;> exact (show False from q).elim
def uReverse : RMut
  | ds, [], Q => Q .none ds.reverse
  | _, _, _ => False
theorem u_reverse : MutOp X "list.reverse" uReverse := by
  intro pins s σ H I a vs xs us ds es Q J sb hH p rv pe q
  rcases es with _ | ⟨d, dr⟩
  · cases pe
    exact mt_reverse pins s σ H (.ref a) _ (.ref a) us _ J rfl rv ⟨a, vs, rfl, rfl, hH, _, _, _, rfl, p.reverse, .non, q⟩
  · exact (show False from q).elim
def uInsert : RMut
  | ds, [.int i, d], Q => (ds.length < sizeLine ∧ 0 ≤ i ∧ i < 2 ^ 63) ∧ Q .none (ds.take i.toNat ++ [d] ++ ds.drop i.toNat)
  | _, _, _ => False
theorem u_insert : MutOp X "list.insert" uInsert := by
  intro pins s σ H I a vs xs us ds es Q J sb hH p rv pe q
  rcases es with _ | ⟨d, _ | ⟨d2, _ | ⟨d3, dr⟩⟩⟩
  · exact (show False from q).elim
  · cases d <;> exact (show False from q).elim
  · cases pe with
    | cons p1 t =>
      obtain ⟨y, e, p2⟩ := t.oneV
      subst e
      cases p1 with
      | int i =>
        obtain ⟨⟨h1, h2, h3⟩, q⟩ := q
        exact mt_insert pins s σ H (.ref a) _ (.ref a) us _ J rfl rv ⟨a, vs, i, y, rfl, rfl, hH, by rw [p.length]; exact h1, h2, h3, _, _, _, rfl, ((p.take _).append (.cons p2 .nil)).append (p.drop _), .non, q⟩
      | _ => exact (show False from q).elim
  · cases d <;> exact (show False from q).elim
end

/-! ### what a def promises -/
abbrev QS := S → SSt → Prop
abbrev XQ := Value → Option (List (Str × PyData)) → Prop
/-- by the arguments; wanted of the result and of what the arguments hold behind; wanted of an exception -/
abbrev Sps := List S → QS → XQ → Prop
def RQ (K : PySem.W.Frag) (vs : List V) (I H : Hp) (F : Nat → List Addr) (Q : QS) : VK := fun v H' =>
  ∃ r R I' F' ss', Evo I H (own F) I' H' (fun a => a ∈ R ∨ own F' a) ∧ StR K (arV vs) I' H' (vs.map some) ss' F' ∧ SR K I' H' v r R ∧ (∀ a ∈ R, ¬ own F' a) ∧ (∀ a ∈ R, I' a = none) ∧ Q r ss'
def EQ (K : PySem.W.Frag) (I H : Hp) (F : Nat → List Addr) (E : XQ) : XK := fun cls d H' =>
  ∃ I' ed, Evo I H (own F) I' H' (fun _ => False) ∧ Sub I' H' ∧ ED K I' H' d ed ∧ E cls ed
structure FnR (P : Program) (w : World) (K : PySem.W.Frag) (mg : Str → Option Value) (base : Heap) (Rm : Around → Prop) (f : Addr) (fd : FuncData) (ps : List Str) (sp : Sps) : Prop where
  len : ∀ ss Q E, sp ss Q E → ss.length = ps.length
  run : ∀ (A : Around) (outer : List Env) (s : Shared) (H I : Hp) (F : Nat → List Addr) (args : Args) (us : List Value) (vs : List V) (ss : List S) (Q : QS) (E : XQ), Rm A → A.guards = some [] → Env0 P w K mg base A outer s H →
    BindsTo s fd args (ps.zip us) → Vals vs us → StR K (arV vs) I H (vs.map some) (ss.map some) F → sp ss Q E →
    codeAny (model P w) A (.call (.ref f) args) (CR (L2.CX P w) outer P w H s (RQ K vs I H F Q) (EQ K I H F E)) s
abbrev FnG (P : Program) (w : World) (K : PySem.W.Frag) (mg : Str → Option Value) (base : Heap) (k : Nat) (f : Addr) (fd : FuncData) (ps : List Str) (sp : Sps) : Prop := FnR P w K mg base (Room k) f fd ps sp
theorem FnG.imp {P : Program} {w : World} {K : PySem.W.Frag} {mg : Str → Option Value} {base : Heap} {k : Nat} {f : Addr} {fd : FuncData} {ps : List Str} {sp sp' : Sps} (h : FnG P w K mg base k f fd ps sp) (i : ∀ ss Q E, sp' ss Q E → sp ss Q E) : FnG P w K mg base k f fd ps sp' :=
  ⟨fun ss Q E q => h.len ss Q E (i _ _ _ q), fun A outer s H I F args us vs ss Q E a b c d e g q => h.run A outer s H I F args us vs ss Q E a b c d e g (i _ _ _ q)⟩
theorem FnG.mono {P : Program} {w : World} {K : PySem.W.Frag} {mg : Str → Option Value} {base : Heap} {j k : Nat} {f : Addr} {fd : FuncData} {ps : List Str} {sp : Sps} (h : FnG P w K mg base j f fd ps sp) (i : j ≤ k) : FnG P w K mg base k f fd ps sp :=
  ⟨h.len, fun A outer s H I F args us vs ss Q E a => h.run A outer s H I F args us vs ss Q E (a.mono i)⟩

/-! ### a call's arguments: pure data, or a name lent -/
inductive Arg where
  | d (x : PyData)
  | s (i : Nat)
def argS (σs : SSt) : List Arg → Option (List S)
  | [] => some []
  | .d x :: r => (argS σs r).map (.val x :: ·)
  | .s i :: r => match gets σs i with
    | some (.val _) => none
    | some y => (argS σs r).map (y :: ·)
    | none => none
/-- the names that are lent, each once -/
def lentOk : List Arg → List Nat → Bool
  | [], _ => true
  | .d _ :: r, l => lentOk r l
  | .s i :: r, l => !(l.contains i) && lentOk r (i :: l)
/-- the lent names behind the call -/
def back : List Arg → SSt → SSt → SSt
  | .s i :: r, x :: ss, σs => back r ss (sets σs i x)
  | .d _ :: r, _ :: ss, σs => back r ss σs
  | _, _, σs => σs
/-- the lent names where the call has raised -/
def lose : List Arg → SSt → SSt
  | .s i :: r, σs => lose r (match gets σs i with
    | some (.val _) => σs
    | _ => sets σs i none)
  | .d _ :: r, σs => lose r σs
  | [], σs => σs
end SV
/-! SvI: the call of a def. -/
namespace SV
open PySem PySem.Spec PyProof.Rows L2

/-- where among the arguments the i-th slot is lent -/
def lentIx : List Arg → Nat → Option Nat
  | [], _ => none
  | .d _ :: r, i => (lentIx r i).map (· + 1)
  | .s j :: r, i => if j = i then some 0 else (lentIx r i).map (· + 1)
theorem lentIx_not : ∀ {as : List Arg} {l : List Nat} {i : Nat}, lentOk as l = true → i ∈ l → lentIx as i = none
  | [], _, _, _, _ => rfl
  | .d _ :: r, l, i, h, m => by
    show (lentIx r i).map (· + 1) = none
    rw [lentIx_not (as := r) (l := l) h m]
    rfl
  | .s j :: r, l, i, h, m => by
    have h' : (!(l.contains j) && lentOk r (j :: l)) = true := h
    rw [Bool.and_eq_true] at h'
    have ne : j ≠ i := fun e => by
      subst e
      have : l.contains j = true := by simpa using m
      rw [this] at h'
      exact absurd h'.1 (by decide)
    show (if j = i then some 0 else (lentIx r i).map (· + 1)) = none
    rw [if_neg ne, lentIx_not (as := r) h'.2 (List.mem_cons_of_mem _ m)]
    rfl
theorem lentIx_get : ∀ {as : List Arg} {l : List Nat} {i k : Nat}, lentOk as l = true → (lentIx as i = some k ↔ as[k]? = some (.s i))
  | [], _, _, _, _ => by simp [lentIx]
  | .d _ :: r, l, i, 0, h => by
    show (lentIx r i).map (· + 1) = some 0 ↔ _
    cases lentIx r i <;> simp
  | .d _ :: r, l, i, k + 1, h => by
    show (lentIx r i).map (· + 1) = some (k + 1) ↔ _
    rw [List.getElem?_cons_succ, ← lentIx_get (as := r) (l := l) (i := i) (k := k) h]
    cases lentIx r i <;> simp
  | .s j :: r, l, i, 0, h => by
    show (if j = i then some 0 else (lentIx r i).map (· + 1)) = some 0 ↔ _
    by_cases e : j = i
    · rw [if_pos e, e]
      simp
    · rw [if_neg e]
      cases lentIx r i <;> simp [e]
  | .s j :: r, l, i, k + 1, h => by
    have h' : (!(l.contains j) && lentOk r (j :: l)) = true := h
    rw [Bool.and_eq_true] at h'
    show (if j = i then some 0 else (lentIx r i).map (· + 1)) = some (k + 1) ↔ _
    rw [List.getElem?_cons_succ, ← lentIx_get (as := r) (i := i) (k := k) h'.2]
    by_cases e : j = i
    · rw [if_pos e, lentIx_not h'.2 (by rw [e]; simp)]
      simp
    · rw [if_neg e]
      cases lentIx r i <;> simp
theorem argS_s {i : Nat} {as : List Arg} {σs : SSt} {ss : List S} (h : argS σs (.s i :: as) = some ss) : ∃ y ss', gets σs i = some y ∧ (∀ d, y ≠ .val d) ∧ argS σs as = some ss' ∧ ss = y :: ss' := by
  have h' : (match gets σs i with
    | some (.val _) => none
    | some y => (argS σs as).map (y :: ·)
    | none => none) = some ss := h
  cases e0 : gets σs i with
  | none => rw [e0] at h'; cases h'
  | some y =>
    rw [e0] at h'
    cases y with
    | val d => cases h'
    | _ =>
      obtain ⟨ss', e, rfl⟩ := Option.map_eq_some_iff.mp h'
      exact ⟨_, ss', rfl, (fun d => by simp), e, rfl⟩
theorem argS_get : ∀ {as : List Arg} {ss : List S} {σs : SSt} {k : Nat} {r : S}, argS σs as = some ss → ss[k]? = some r → (∃ d, as[k]? = some (.d d) ∧ r = .val d) ∨ ∃ i, as[k]? = some (.s i) ∧ gets σs i = some r ∧ ∀ d, r ≠ .val d
  | [], ss, _, k, r, h, g => by
    cases h
    simp at g
  | .d x :: as, ss, σs, k, r, h, g => by
    obtain ⟨ss', e, rfl⟩ := Option.map_eq_some_iff.mp (show (argS σs as).map (S.val x :: ·) = some ss from h)
    cases k with
    | zero =>
      simp at g
      exact .inl ⟨x, rfl, g.symm⟩
    | succ k => exact argS_get (as := as) (k := k) e (by simpa using g)
  | .s i :: as, ss, σs, k, r, h, g => by
    obtain ⟨y, ss', e0, ny, e, rfl⟩ := argS_s h
    cases k with
    | zero =>
      simp at g
      subst g
      exact .inr ⟨i, rfl, e0, ny⟩
    | succ k => exact argS_get (as := as) (k := k) e (by simpa using g)
theorem argS_length : ∀ {as : List Arg} {ss : List S} {σs : SSt}, argS σs as = some ss → ss.length = as.length
  | [], ss, _, h => by cases h; rfl
  | .d x :: as, ss, σs, h => by
    obtain ⟨ss', e, rfl⟩ := Option.map_eq_some_iff.mp (show (argS σs as).map (S.val x :: ·) = some ss from h)
    simp [argS_length e]
  | .s i :: as, ss, σs, h => by
    obtain ⟨y, ss', e0, ny, e, rfl⟩ := argS_s h
    simp [argS_length e]
theorem gets_map {ss : List S} {j : Nat} : gets (ss.map some) j = ss[j]? := by
  induction ss generalizing j with
  | nil => rfl
  | cons x r ih =>
    cases j with
    | zero => rfl
    | succ j => exact (ih (j := j)).trans (by simp)
theorem back_length : ∀ {as : List Arg} {ss σs : SSt}, (back as ss σs).length = σs.length
  | [], _, _ => by rfl
  | .d _ :: r, [], _ => rfl
  | .s _ :: r, [], _ => rfl
  | .d _ :: r, _ :: ss, σs => back_length (as := r)
  | .s i :: r, x :: ss, σs => (back_length (as := r)).trans sets_length
theorem back_get : ∀ {as : List Arg} {l : List Nat} {ss σs : SSt} {i : Nat}, lentOk as l = true → as.length = ss.length → i < σs.length → gets (back as ss σs) i = (match lentIx as i with
    | some k => gets ss k
    | none => gets σs i)
  | [], _, [], _, _, _, _, _ => rfl
  | [], _, _ :: _, _, _, _, h, _ => by simp at h
  | _ :: _, _, [], _, _, _, h, _ => by simp at h
  | .d _ :: r, l, x :: ss, σs, i, h, hl, hi => by
    have ih := back_get (as := r) (l := l) (ss := ss) (σs := σs) (i := i) h (by simpa using hl) hi
    show gets (back r ss σs) i = (match (lentIx r i).map (· + 1) with
      | some k => gets (x :: ss) k
      | none => gets σs i)
    rw [ih]
    cases lentIx r i <;> rfl
  | .s j :: r, l, x :: ss, σs, i, h, hl, hi => by
    have h' : (!(l.contains j) && lentOk r (j :: l)) = true := h
    rw [Bool.and_eq_true] at h'
    have ih := back_get (as := r) (l := j :: l) (ss := ss) (σs := sets σs j x) (i := i) h'.2 (by simpa using hl) (by rw [sets_length]; exact hi)
    show gets (back r ss (sets σs j x)) i = (match (if j = i then some 0 else (lentIx r i).map (· + 1)) with
      | some k => gets (x :: ss) k
      | none => gets σs i)
    rw [ih]
    by_cases e : j = i
    · rw [if_pos e, lentIx_not h'.2 (by rw [e]; simp)]
      subst e
      show gets (sets σs j x) j = x
      cases x with
      | none => exact gets_sets_none
      | some y => exact gets_sets_same hi
    · rw [if_neg e, gets_sets_ne (fun z => e z.symm)]
      cases lentIx r i <;> rfl
theorem lose_length : ∀ {as : List Arg} {σs : SSt}, (lose as σs).length = σs.length
  | [], _ => rfl
  | .d _ :: r, σs => lose_length (as := r)
  | .s i :: r, σs => by
    show (lose r _).length = _
    rw [lose_length]
    split
    · rfl
    · exact sets_length
/-- what is still known -/
theorem lose_some : ∀ {as : List Arg} {σs : SSt} {i : Nat} {r : S}, gets (lose as σs) i = some r → gets σs i = some r ∧ ((∃ d, r = .val d) ∨ ∀ k : Nat, as[k]? ≠ some (Arg.s i))
  | [], σs, i, r, h => ⟨h, .inr fun k => by simp⟩
  | .d _ :: as, σs, i, r, h => by
    obtain ⟨a, b⟩ := lose_some (as := as) h
    refine ⟨a, b.imp id fun q k => ?_⟩
    cases k with
    | zero => simp
    | succ k => simpa using q k
  | .s j :: as, σs, i, r, h => by
    have h' : gets (lose as (match gets σs j with
      | some (.val _) => σs
      | _ => sets σs j none)) i = some r := h
    obtain ⟨a, b⟩ := lose_some (as := as) h'
    by_cases e : j = i
    · subst e
      split at a
      · rename_i d hd
        rw [hd] at a
        cases a
        exact ⟨hd, .inl ⟨_, rfl⟩⟩
      · rw [gets_sets_none] at a
        cases a
    · have a' : gets σs i = some r := by
        split at a
        · exact a
        · rw [gets_sets_ne (fun z => e z.symm)] at a
          exact a
      refine ⟨a', b.imp id fun q k => ?_⟩
      cases k with
      | zero =>
        simp
        exact e
      | succ k => simpa using q k

/-! ### arguments -/
abbrev TCs := SSt → (List Arg → SSt → Prop) → XS → Prop
/-- what the arguments are, by values -/
def CAs (K : PySem.W.Frag) (I : Hp) (σ : L2.St) : List V → List Arg → Prop
  | [], [] => True
  | v :: vs, .d x :: as => PR K I v x ∧ CAs K I σ vs as
  | v :: vs, .s i :: as => σ[i]? = some (some v) ∧ CAs K I σ vs as
  | _, _ => False
theorem CAs.sub {K : PySem.W.Frag} {I I' : Hp} {σ : L2.St} (e : Sub I I') : ∀ {vs : List V} {as : List Arg}, CAs K I σ vs as → CAs K I' σ vs as
  | [], [], h => trivial
  | _ :: _, .d x :: _, h => ⟨h.1.sub e, CAs.sub e h.2⟩
  | _ :: _, .s i :: _, h => ⟨h.1, CAs.sub e h.2⟩
  | [], _ :: _, h => h.elim
  | _ :: _, [], h => h.elim
theorem CAs.length {K : PySem.W.Frag} {I : Hp} {σ : L2.St} : ∀ {vs : List V} {as : List Arg}, CAs K I σ vs as → vs.length = as.length
  | [], [], h => rfl
  | _ :: _, .d x :: _, h => by simp [CAs.length h.2]
  | _ :: _, .s i :: _, h => by simp [CAs.length h.2]
  | [], _ :: _, h => h.elim
  | _ :: _, [], h => h.elim
theorem CAs.getD {K : PySem.W.Frag} {I : Hp} {σ : L2.St} : ∀ {vs : List V} {as : List Arg} {k : Nat} {x : PyData}, CAs K I σ vs as → as[k]? = some (.d x) → ∃ v, vs[k]? = some v ∧ PR K I v x
  | [], [], k, _, h, g => by simp at g
  | v :: _, .d y :: _, 0, x, h, g => by
    simp at g
    subst g
    exact ⟨v, rfl, h.1⟩
  | v :: _, .s i :: _, 0, x, h, g => by simp at g
  | _ :: _, .d y :: _, k + 1, x, h, g => by simpa using CAs.getD (k := k) h.2 (by simpa using g)
  | _ :: _, .s i :: _, k + 1, x, h, g => by simpa using CAs.getD (k := k) h.2 (by simpa using g)
  | [], _ :: _, _, _, h, _ => h.elim
  | _ :: _, [], _, _, h, _ => h.elim
theorem CAs.getS {K : PySem.W.Frag} {I : Hp} {σ : L2.St} : ∀ {vs : List V} {as : List Arg} {k i : Nat}, CAs K I σ vs as → as[k]? = some (.s i) → ∃ v, vs[k]? = some v ∧ σ[i]? = some (some v)
  | [], [], k, _, h, g => by simp at g
  | v :: _, .d y :: _, 0, x, h, g => by simp at g
  | v :: _, .s i :: _, 0, x, h, g => by
    simp at g
    subst g
    exact ⟨v, rfl, h.1⟩
  | _ :: _, .d y :: _, k + 1, x, h, g => by simpa using CAs.getS (k := k) h.2 (by simpa using g)
  | _ :: _, .s i :: _, k + 1, x, h, g => by simpa using CAs.getS (k := k) h.2 (by simpa using g)
  | [], _ :: _, _, _, h, _ => h.elim
  | _ :: _, [], _, _, h, _ => h.elim
def CPs (X : Cx) (ar : Nat → Option V) (pins : List (Addr × Obj)) (σ : L2.St) (I H : Hp) (F : Nat → List Addr) (σs : SSt) (Q : List Arg → SSt → Prop) (us : List Value) (s' : Shared) : Prop :=
  ∃ vs as I' H' F' σs', BPd X ar pins σ false I H F σs I' H' F' σs' s' ∧ Vals vs us ∧ CAs X.K I' σ vs as ∧ Q as σs'
structure JC (X : Cx) (ar : Nat → Option V) (es : List Expr) (t : TCs) : Prop where
  run : ∀ (pos : Pos) (pins : List (Addr × Obj)) (s : Shared) (σ : L2.St) (I H : Hp) (F : Nat → List Addr) (σs : SSt) (Q : List Arg → SSt → Prop) (ES : XS), Inv X pins σ H s → StR X.K ar I H σ σs F → TX X ar I H (own F) ES → t σs Q ES →
    wpAny (model X.prog X.w) X.A (spliced (backTo pos (starEach es X.env))) (CPs X ar pins σ I H F σs Q) X.xe s
def cNil : TCs := fun σs Q _ => Q [] σs
def cVal (te : TEs) (t : TCs) : TCs := fun σs Q ES => te σs (fun r σ1 => nd r.toD fun d => t σ1 (fun as σ2 => Q (.d d :: as) σ2) ES) ES
def cLent (i : Nat) (t : TCs) : TCs := fun σs Q ES => nd (gets σs i) fun r => match r with
  | .val d => t σs (fun as σ2 => Q (.d d :: as) σ2) ES
  | _ => t σs (fun as σ2 => Q (.s i :: as) σ2) ES
section
variable {X : Cx} {ar : Nat → Option V} {e : Expr} {es : List Expr} {b1 : Bool} {te : TEs} {t : TCs}
theorem jc_nil : JC X ar [] cNil := ⟨fun _ pins s σ I H F σs Q ES J st tx q => Calls.spliced_nil ⟨[], [], I, H, F, σs, BPd.refl J st, .nil, trivial, q⟩⟩
theorem jc_val (ha : JE X ar b1 true e te) (hr : JC X ar es t) (hs : starEach (e :: es) X.env = (false, eval e X.env) :: starEach es X.env := by rfl) : JC X ar (e :: es) (cVal te t) := by
  refine ⟨fun pos pins s σ I H F σs Q ES J st tx q => ?_⟩
  rw [hs]
  show wpAny _ _ (spliced ((false, eval e X.env) :: backTo pos (starEach es X.env))) _ _ s
  refine Calls.spliced_cons (thn (ha.run pins s σ I H F σs _ ES J st tx q) fun v s1 ⟨x, rx, R1, I1, H1, F1, σ1, h1, r1, q1⟩ => ?_)
  obtain ⟨d, ex, q1⟩ := nd_some q1
  obtain ⟨hb, p⟩ := h1.freeze ex
  refine thn (hr.run pos pins s1 σ _ H1 F1 σ1 _ ES hb.inv hb.st (tx.go hb.evo fun _ z => z) q1) fun us s2 ⟨vs, as, I2, H2, F2, σ2, h2, rv, pv, q2⟩ => ?_
  exact ⟨x :: vs, .d d :: as, I2, H2, F2, σ2, (hb.then h2).weak (fun z => by simp at z), .cons r1 rv, ⟨p.sub h2.evo.up, pv⟩, q2⟩
theorem jc_lent (i : Nat) {x : Str} {pos : Pos} (hr : JC X ar es t) (hN : X.N[i]? = some x := by rfl) (hv : Vis X.env.scope x := by first | exact Or.inl rfl | exact Or.inr (Or.inl rfl) | exact Or.inr (Or.inr rfl)) (hd : (x == ("__debug__" : Str)) = false := by decide)
    (hcd : (x == ("__classdict__" : Str)) = false := by decide) (hs : starEach (.Name x pos :: es) X.env = (false, eval (.Name x pos) X.env) :: starEach es X.env := by rfl) : JC X ar (.Name x pos :: es) (cLent i t) := by
  refine ⟨fun pos' pins s σ I H F σs Q ES J st tx q => ?_⟩
  rw [hs]
  show wpAny _ _ (spliced ((false, eval (.Name x pos) X.env) :: backTo pos' (starEach es X.env))) _ _ s
  obtain ⟨r, er, q⟩ := nd_some q
  obtain ⟨v, e1, sr⟩ := st.rep i r er
  refine Calls.spliced_cons (eval_name J hN hv e1 hd hcd fun u s1 J1 ru => ?_)
  cases r with
  | val d =>
    refine thn (hr.run pos' pins s1 σ I H F σs _ ES J1 st tx q) fun us s2 ⟨vs, as, I2, H2, F2, σ2, h2, rv, pv, q2⟩ => ?_
    exact ⟨v :: vs, .d d :: as, I2, H2, F2, σ2, h2, .cons ru rv, ⟨sr.val_inv.2.sub h2.evo.up, pv⟩, q2⟩
  | _ =>
    refine thn (hr.run pos' pins s1 σ I H F σs _ ES J1 st tx q) fun us s2 ⟨vs, as, I2, H2, F2, σ2, h2, rv, pv, q2⟩ => ?_
    exact ⟨v :: vs, .s i :: as, I2, H2, F2, σ2, h2, .cons ru rv, ⟨e1, pv⟩, q2⟩
end

/-! ### the callee runs -/
def sCall (sp : Sps) (t : TCs) : TEs := fun σs Q ES => t σs (fun as σ1 => lentOk as [] = true ∧ nd (argS σ1 as) fun ss => sp ss (fun r ss' => Q r (back as ss' σ1)) (fun cls ed => ES cls ed (lose as σ1))) ES
section
variable {X : Cx} {ar : Nat → Option V} {pins : List (Addr × Obj)} {σ : L2.St} {I H : Hp} {F : Nat → List Addr} {σs : SSt} {s : Shared} {k : Nat} {f : Addr} {fd : FuncData} {ps : List Str} {sp : Sps}
/-- the objects of the arguments -/
def lentF (as : List Arg) (F : Nat → List Addr) : Nat → List Addr := fun k => match as[k]? with
  | some (.s i) => F i
  | _ => []
theorem own_lent {as : List Arg} {a : Addr} (m : own (lentF as F) a) : own F a := by
  obtain ⟨k, m⟩ := m
  unfold lentF at m
  split at m
  · exact ⟨_, m⟩
  · cases m
theorem run_fnS {Rm : Around → Prop} (G : FnR X.prog X.w X.K X.mg X.base Rm f fd ps sp) (hr : Rm X.A) (hg : X.A.guards = some []) (hb : Binds X.K fd ps []) {us : List Value} {vs : List V} {as : List Arg} {ss : List S} {Q : KS} {ES : XS}
    (J : Inv X pins σ H s) (st : StR X.K ar I H σ σs F) (tx : TX X ar I H (own F) ES) (rv : Vals vs us) (ca : CAs X.K I σ vs as) (hl : lentOk as [] = true) (ea : argS σs as = some ss)
    (q : sp ss (fun r ss' => Q r (back as ss' σs)) (fun cls ed => ES cls ed (lose as σs))) : wpAny (model X.prog X.w) X.A (call (.ref f) us) (RP X ar pins σ false true I H F σs Q) X.xe s := by
  have lss := argS_length ea
  have lvs := ca.length
  have lps : us.length = ps.length := by rw [← rv.length, lvs, ← lss]; exact G.len _ _ _ q
  -- the callee's own state
  have st0 : StR X.K (arV vs) I H (vs.map some) (ss.map some) (lentF as F) := by
    refine ⟨st.sub, fun j r h => ?_, fun j h => ?_, fun i j a m m' => ?_, fun j a m => st.ownI (own_lent ⟨j, m⟩), fun j v r h1 h2 => ?_, by simp [lss, lvs]⟩
    · rw [gets_map] at h
      rcases argS_get ea h with ⟨d, e1, e2⟩ | ⟨i, e1, e2, _⟩
      · obtain ⟨v, e3, p⟩ := ca.getD e1
        subst e2
        refine ⟨v, by rw [List.getElem?_map, e3]; rfl, ?_⟩
        have : lentF as F j = [] := by unfold lentF; rw [e1]
        rw [this]
        exact .val p
      · obtain ⟨v, e3, e4⟩ := ca.getS e1
        obtain ⟨v', e5, sr⟩ := st.rep i r e2
        rw [e4] at e5
        cases e5
        refine ⟨v, by rw [List.getElem?_map, e3]; rfl, ?_⟩
        have : lentF as F j = F i := by unfold lentF; rw [e1]
        rw [this]
        exact sr
    · rw [gets_map] at h
      have e1 := h
      have : as[j]? = none := by
        rw [List.getElem?_eq_none_iff] at e1 ⊢
        omega
      unfold lentF
      rw [this]
    · unfold lentF at m m'
      split at m
      · rename_i i1 e1
        split at m'
        · rename_i i2 e2
          have := st.dis _ _ a m m'
          subst this
          have k1 := (lentIx_get hl).mpr e1
          have k2 := (lentIx_get hl).mpr e2
          rw [k1] at k2
          exact Option.some.inj k2
        · cases m'
      · cases m
    · exact .inr (by rw [List.getElem?_map, show vs[j]? = some v from h1]; rfl)
  have bt := hb s us J.kIn (by rw [List.append_nil]; exact lps)
  rw [List.append_nil] at bt
  refine wpAny_call (codeAny_mono (G.run X.A X.stack s H I (lentF as F) ⟨us, []⟩ us vs ss _ _ hr hg J.env0 bt rv st0 q) fun r s' hq => ?_)
  cases r with
  | error e =>
    obtain ⟨W, tk, hW⟩ := tx
    refine tk e s' (XE.of_call J (E := EQ X.K I H (lentF as F) _) (fun cls d H' hE => ?_) hq)
    obtain ⟨I', ed, ev, sb', hed, he⟩ := hE
    -- what the slots are still known to hold
    refine hW cls d σ I' H' (fun j => if (gets (lose as σs) j).isSome = true then F j else []) (lose as σs) ed ⟨ev.up, fun a x e n => ev.fr a x e fun z => n (own_lent z), fun a m => ?_, fun a x e => ?_⟩ ⟨sb', fun j r g => ?_, fun j g => ?_, fun i j a m m' => ?_, fun j a m => ?_, fun j v r g1 g2 => st.par j v r g1 (lose_some g2).1, by rw [lose_length]; exact st.len⟩ hed he
    · obtain ⟨j, m⟩ := m
      try dsimp only at m
      split at m
      · exact .inl ⟨j, m⟩
      · cases m
    · rcases ev.ni a x e with e | e | e
      · exact .inl e
      · exact .inr (.inl (own_lent e))
      · exact .inr (.inr e)
    · obtain ⟨g1, g2⟩ := lose_some g
      obtain ⟨v, e1, sr⟩ := st.rep j r g1
      refine ⟨v, e1, ?_⟩
      rw [if_pos (by rw [g]; rfl)]
      rcases g2 with ⟨d, rfl⟩ | g2
      · obtain ⟨e2, p⟩ := sr.val_inv
        rw [e2]
        exact .val (p.sub ev.up)
      · refine sr.keep ev.up fun a m x e => ev.fr a x e fun z => ?_
        obtain ⟨k, z⟩ := z
        unfold lentF at z
        split at z
        · rename_i i e3
          have := st.dis _ _ a m z
          subst this
          exact g2 k e3
        · cases z
    · try dsimp only
      rw [if_neg (by rw [g]; exact Bool.false_ne_true)]
    · try dsimp only at m m'
      split at m
      · split at m'
        · exact st.dis i j a m m'
        · cases m'
      · cases m
    · try dsimp only at m
      split at m
      · rename_i hs
        obtain ⟨r, g⟩ := Option.isSome_iff_exists.mp hs
        obtain ⟨g1, g2⟩ := lose_some g
        have nl : ¬ own (lentF as F) a := fun z => by
          obtain ⟨k, z⟩ := z
          unfold lentF at z
          split at z
          · rename_i i e3
            have := st.dis _ _ a m z
            subst this
            rcases g2 with ⟨d, rfl⟩ | g2
            · obtain ⟨v, _, sr⟩ := st.rep _ _ g1
              rw [sr.val_inv.1] at m
              cases m
            · exact g2 k e3
          · cases z
        cases e : I' a with
        | none => rfl
        | some x =>
          rcases ev.ni a x e with e | e | e
          · rw [st.notI j a m] at e
            cases e
          · exact absurd e nl
          · obtain ⟨y, e2⟩ := st.there ⟨j, m⟩
            rw [e] at e2
            cases e2
      · cases m
  | ok fl =>
    cases fl with
    | ret u =>
      obtain ⟨v, H', J', rr, r, R, I', F', ss', ev, st', sr, nf, nI, q'⟩ := J.after (show CE X.stack X.prog X.w H s _ u s' from hq)
      have lss' : as.length = ss'.length := by
        have := st'.len
        rw [List.length_map] at this
        omega
      -- the slots' own objects behind the call
      have nlent : ∀ {j : Nat} {a : Addr}, lentIx as j = none → a ∈ F j → ¬ own (lentF as F) a := fun {j a} e m z => by
        obtain ⟨k, z⟩ := z
        unfold lentF at z
        split at z
        · rename_i i e3
          have := st.dis _ _ a m z
          subst this
          rw [(lentIx_get hl).mpr e3] at e
          cases e
        · cases z
      have keepJ : ∀ {j : Nat} {a : Addr}, lentIx as j = none → a ∈ F j → ∀ x, H a = some x → H' a = some x := fun {j a} e m x h => ev.fr a x h (nlent e m)
      have notI : ∀ {j : Nat} {a : Addr}, lentIx as j = none → a ∈ F j → I' a = none := fun {j a} e m => by
        cases q0 : I' a with
        | none => rfl
        | some x =>
          rcases ev.ni a x q0 with z | z | z
          · rw [st.notI j a m] at z
            cases z
          · exact absurd z (nlent e m)
          · obtain ⟨y, e2⟩ := st.there ⟨j, m⟩
            rw [z] at e2
            cases e2
      have notN : ∀ {j : Nat} {a : Addr}, lentIx as j = none → a ∈ F j → ¬ (a ∈ R ∨ own F' a) := fun {j a} e m z => by
        rcases ev.nw a z with z | z
        · exact nlent e m z
        · obtain ⟨y, e2⟩ := st.there ⟨j, m⟩
          rw [z] at e2
          cases e2
      refine ⟨v, r, R, I', H', (fun j => match lentIx as j with
        | some k => F' k
        | none => F j), back as ss' σs, ⟨J', ⟨ev.up, fun a x e n => ev.fr a x e fun z => n (own_lent z), fun a m => ?_, fun a x e => ?_⟩, ⟨st'.sub, fun j r' g => ?_, fun j g => ?_, fun i j a m m' => ?_, fun j a m => ?_, fun j w r' g1 g2 => ?_, by rw [back_length]; exact st.len⟩, sr, fun _ a m z => ?_, nI, (fun z => Bool.noConfusion z)⟩, rr, q'⟩
      · have fromN : ∀ {c : Addr}, (c ∈ R ∨ own F' c) → own F c ∨ H c = none := fun z => by
          rcases ev.nw _ z with z | z
          · exact .inl (own_lent z)
          · exact .inr z
        rcases m with m | ⟨j, m⟩
        · exact fromN (.inl m)
        · try dsimp only at m
          split at m
          · exact fromN (.inr ⟨_, m⟩)
          · exact .inl ⟨j, m⟩
      · rcases ev.ni a x e with e | e | e
        · exact .inl e
        · exact .inr (.inl (own_lent e))
        · exact .inr (.inr e)
      · have hj : j < σs.length := by
          have := gets_some_lt g
          rw [back_length] at this
          exact this
        rw [back_get hl lss' hj] at g
        cases e : lentIx as j with
        | none =>
          rw [e] at g
          obtain ⟨w, e1, s1⟩ := st.rep j r' g
          exact ⟨w, e1, s1.keep ev.up fun a m x h => keepJ e m x h⟩
        | some k =>
          rw [e] at g
          obtain ⟨w, e1, s1⟩ := st'.rep k r' g
          obtain ⟨w2, e3, e4⟩ := ca.getS ((lentIx_get hl).mp e)
          rw [List.getElem?_map, e3] at e1
          cases e1
          exact ⟨w, e4, s1⟩
      · by_cases hj : j < σs.length
        · rw [back_get hl lss' hj] at g
          cases e : lentIx as j with
          | none =>
            rw [e] at g
            exact st.non j g
          | some k =>
            rw [e] at g
            exact st'.non k g
        · cases e : lentIx as j with
          | none =>
            refine st.non j ?_
            cases g3 : gets σs j with
            | none => rfl
            | some y => exact absurd (gets_some_lt g3) hj
          | some k =>
            obtain ⟨w2, e3, e4⟩ := ca.getS ((lentIx_get hl).mp e)
            have := (List.getElem?_eq_some_iff.mp e4).1
            rw [← st.len] at this
            exact absurd this hj
      · try dsimp only at m m'
        split at m
        · rename_i k1 e1
          split at m'
          · rename_i k2 e2
            have := st'.dis _ _ a m m'
            subst this
            have z1 := (lentIx_get hl).mp e1
            have z2 := (lentIx_get hl).mp e2
            rw [z1] at z2
            exact Arg.s.inj (Option.some.inj z2)
          · rename_i e2
            exact absurd (.inr ⟨_, m⟩) (notN e2 m')
        · rename_i e1
          split at m'
          · exact absurd (.inr ⟨_, m'⟩) (notN e1 m)
          · exact st.dis i j a m m'
      · try dsimp only at m
        split at m
        · exact st'.notI _ a m
        · rename_i e1
          exact notI e1 m
      · have hj : j < σs.length := by
          have := gets_some_lt g2
          rw [back_length] at this
          exact this
        rw [back_get hl lss' hj] at g2
        cases e : lentIx as j with
        | none =>
          rw [e] at g2
          exact st.par j w r' g1 g2
        | some k =>
          rw [e] at g2
          obtain ⟨w2, e3, e4⟩ := ca.getS ((lentIx_get hl).mp e)
          -- lent at the call: a name with own objects
          rcases argS_get ea (show ss[k]? = some _ from (List.getElem?_eq_getElem (by
            have := (List.getElem?_eq_some_iff.mp ((lentIx_get hl).mp e)).1
            omega))) with ⟨d, z1, _⟩ | ⟨i, z1, z2, z3⟩
          · rw [(lentIx_get hl).mp e] at z1
            cases z1
          · rw [(lentIx_get hl).mp e] at z1
            cases z1
            rcases st.par j w _ g1 z2 with ⟨d, ed⟩ | z
            · exact absurd ed (z3 d)
            · exact .inr z
      · obtain ⟨j, z⟩ := z
        dsimp only at z
        split at z
        · exact nf a m ⟨_, z⟩
        · rename_i e1
          exact notN e1 z (.inl m)
    | next => exact False.elim hq
    | brk => exact False.elim hq
    | cont => exact False.elim hq
end
end SV
/-! SvJ: the call of a def by its name; statements. -/
namespace SV
open PySem PySem.Spec PyProof.Rows L2

section
variable {X : Cx} {ar : Nat → Option V} {k : Nat} {f : Addr} {fd : FuncData} {ps : List Str} {sp : Sps} {x : Str} {p pos : Pos} {e : Expr} {es : List Expr} {t : TCs}
theorem je_call {Rm : Around → Prop} (G : FnR X.prog X.w X.K X.mg X.base Rm f fd ps sp) (hr : Rm X.A) (hgd : X.A.guards = some []) (hg : Gl X x) (hm : X.mg x = some (.ref f)) (hk : PySem.W.keepIn X.K (.ref f) = true) (hb : Binds X.K fd ps [])
    (ha : JC X ar (e :: es) t) (hdb : (x == ("__debug__" : Str)) = false := by decide) (he : starEach (e :: es) X.env = (false, eval e X.env) :: starEach es X.env := by rfl) (hpl : (backTo pos (starEach es X.env)).any (·.1) = false := by rfl) :
    JE X ar false true (.Call (.Name x p) (e :: es) [] pos) (sCall sp t) := by
  refine ⟨fun pins s σ I H F σs Q ES J st tx q => ?_⟩
  refine wpAny_Call_Name_kw (ld_glob J hg hm ?_ hdb)
  refine PySem.W.callWith_K (h₀ := X.base) J.ok.mod.kin hk (thn (ha.run pos pins s σ I H F σs _ ES J st tx q) fun us s1 ⟨vs, as, I1, H1, F1, σ1, d, rv, ca, hl, q2⟩ => ⟨d.inv.kIn, ?_⟩) he hpl
  obtain ⟨ss, ea, q3⟩ := nd_some q2
  refine thn (run_fnS G hr hgd hb d.inv d.st (tx.then d) rv ca hl ea q3) fun u s2 ⟨v, r, R, I2, H2, F2, σ2, d2, rr, q4⟩ => ?_
  exact ⟨v, r, R, I2, H2, F2, σ2, d.thenR d2, rr, q4⟩
theorem je_call0 {Rm : Around → Prop} (G : FnR X.prog X.w X.K X.mg X.base Rm f fd ps sp) (hr : Rm X.A) (hgd : X.A.guards = some []) (hg : Gl X x) (hm : X.mg x = some (.ref f)) (hk : PySem.W.keepIn X.K (.ref f) = true) (hb : Binds X.K fd ps [])
    (hdb : (x == ("__debug__" : Str)) = false := by decide) : JE X ar false true (.Call (.Name x p) [] [] pos) (sCall sp cNil) := by
  refine ⟨fun pins s σ I H F σs Q ES J st tx q => ?_⟩
  refine wpAny_Call_Name_kw (ld_glob J hg hm ?_ hdb)
  obtain ⟨hl, q2⟩ := (show lentOk [] [] = true ∧ nd (argS σs []) _ from q)
  obtain ⟨ss, ea, q3⟩ := nd_some q2
  exact PySem.W.callWith_K0 J.kIn hk (run_fnS (us := []) (vs := []) (as := []) G hr hgd hb J st tx .nil trivial hl ea q3)
end

/-! ### statements -/
structure Es where
  nx : SSt → Prop
  rt : QS
  bk : SSt → Prop := fun _ => False
  ct : SSt → Prop := fun _ => False
abbrev TSs := SSt → Es → XS → Prop
/-- what stands behind a statement -/
def Bh (X : Cx) (ar : Nat → Option V) (I H : Hp) (F : Nat → List Addr) (N : SSt → Prop) : L2.St → Hp → Prop := fun σ' H' =>
  ∃ I' F' σs', Evo I H (own F) I' H' (own F') ∧ StR X.K ar I' H' σ' σs' F' ∧ N σs'
def Rt (X : Cx) (ar : Nat → Option V) (I H : Hp) (F : Nat → List Addr) (Q : QS) : VK := fun v H' =>
  ∃ r R I' σ' F' σs', σ'.length = X.N.length ∧ Evo I H (own F) I' H' (fun a => a ∈ R ∨ own F' a) ∧ StR X.K ar I' H' σ' σs' F' ∧ SR X.K I' H' v r R ∧ (∀ a ∈ R, ¬ own F' a) ∧ (∀ a ∈ R, I' a = none) ∧ Q r σs'
/-- D is reached where Ds is -/
structure Rch (X : Cx) (ar : Nat → Option V) (I H : Hp) (F : Nat → List Addr) (Ds : Es) (D : Ends) : Prop where
  nx : ∀ σ' H', Bh X ar I H F Ds.nx σ' H' → D.nx σ' H'
  bk : ∀ σ' H', Bh X ar I H F Ds.bk σ' H' → D.bk σ' H'
  ct : ∀ σ' H', Bh X ar I H F Ds.ct σ' H' → D.ct σ' H'
  rt : ∀ v H', Rt X ar I H F Ds.rt v H' → D.rt v H'
def liS (X : Cx) (ar : Nat → Option V) (t : TSs) : TS := fun D σ H => ∃ I F σs Ds ES, StR X.K ar I H σ σs F ∧ TX X ar I H (own F) ES ∧ t σs Ds ES ∧ Rch X ar I H F Ds D
def JS (X : Cx) (ar : Nat → Option V) (st : Stmt) (t : TSs) : Prop := PS X st (liS X ar t)
def JSs (X : Cx) (ar : Nat → Option V) (st : List Stmt) (t : TSs) : Prop := PSs X st (liS X ar t)
theorem PS.mono {X : Cx} {st : Stmt} {t t' : TS} (h : PS X st t) (i : ∀ D σ H, t' D σ H → t D σ H) : PS X st t' := ⟨fun pins s σ H D J q => h.run pins s σ H D J (i D σ H q)⟩
theorem PSs.mono {X : Cx} {st : List Stmt} {t t' : TS} (h : PSs X st t) (i : ∀ D σ H, t' D σ H → t D σ H) : PSs X st t' := ⟨fun pins s σ H D J q => h.run pins s σ H D J (i D σ H q)⟩
def liE (X : Cx) (ar : Nat → Option V) (m : Bool) (t : TEs) : TE := fun σ H Q => ∃ I F σs Qk ES, StR X.K ar I H σ σs F ∧ TX X ar I H (own F) ES ∧ t σs Qk ES ∧
  ∀ v r R I' H' F' σs', Evo I H (own F) I' H' (fun a => a ∈ R ∨ own F' a) → StR X.K ar I' H' σ σs' F' → SR X.K I' H' v r R → (m = true → ∀ a ∈ R, ¬ own F' a) → (∀ a ∈ R, I' a = none) → Qk r σs' → Q v H'
theorem JE.pe {X : Cx} {ar : Nat → Option V} {b m : Bool} {e : Expr} {t : TEs} (h : JE X ar b m e t) : PE X e (liE X ar m t) :=
  ⟨fun pins s σ H Q J ⟨I, F, σs, Qk, ES, st, tx, q, f⟩ => thn (h.run pins s σ I H F σs Qk ES J st tx q) fun u s' ⟨v, r, R, I', H', F', σs', d, rv, q'⟩ =>
    ⟨v, H', d.inv, rv, f v r R I' H' F' σs' d.evo d.st d.sr d.nf d.nI q'⟩⟩
def liT (X : Cx) (ar : Nat → Option V) (t : TTs) : TT := fun σ H Q => ∃ I F σs Qk ES, StR X.K ar I H σ σs F ∧ TX X ar I H (own F) ES ∧ t σs Qk ES ∧
  ∀ c I' H' F' σs', Evo I H (own F) I' H' (own F') → StR X.K ar I' H' σ σs' F' → Qk c σs' → Q c H'
theorem JT.pt {X : Cx} {ar : Nat → Option V} {b : Bool} {e : Expr} {t : TTs} (h : JT X ar b e t) : PT X e (liT X ar t) :=
  ⟨fun pins s σ H Q J ⟨I, F, σs, Qk, ES, st, tx, q, f⟩ => thn (h.run pins s σ I H F σs Qk ES J st tx q) fun c s' ⟨I', H', F', σs', d, q'⟩ =>
    ⟨H', d.inv, f c I' H' F' σs' d.evo d.st q'⟩⟩

section
variable {X : Cx} {ar : Nat → Option V} {I H I1 H1 : Hp} {F F1 : Nat → List Addr} {Ds : Es} {D : Ends}
theorem Bh.go {N : SSt → Prop} (ev : Evo I H (own F) I1 H1 (own F1)) {σ' : L2.St} {H' : Hp} (h : Bh X ar I1 H1 F1 N σ' H') : Bh X ar I H F N σ' H' := by
  obtain ⟨I', F', σs', e2, st, q⟩ := h
  exact ⟨I', F', σs', ev.trans e2 (fun _ z => z) (fun _ z => .inr z), st, q⟩
theorem Rt.go {Q : QS} (ev : Evo I H (own F) I1 H1 (own F1)) {v : V} {H' : Hp} (h : Rt X ar I1 H1 F1 Q v H') : Rt X ar I H F Q v H' := by
  obtain ⟨r, R, I', σ', F', σs', hn, e2, st, q⟩ := h
  exact ⟨r, R, I', σ', F', σs', hn, ev.trans e2 (fun _ z => z) (fun _ z => .inr z), st, q⟩
theorem Rch.go (h : Rch X ar I H F Ds D) (ev : Evo I H (own F) I1 H1 (own F1)) : Rch X ar I1 H1 F1 Ds D :=
  ⟨fun σ' H' q => h.nx σ' H' (q.go ev), fun σ' H' q => h.bk σ' H' (q.go ev), fun σ' H' q => h.ct σ' H' (q.go ev), fun v H' q => h.rt v H' (q.go ev)⟩
theorem Rch.self (Ds : Es) : Rch X ar I H F Ds { nx := Bh X ar I H F Ds.nx, rt := Rt X ar I H F Ds.rt, bk := Bh X ar I H F Ds.bk, ct := Bh X ar I H F Ds.ct } :=
  ⟨fun _ _ q => q, fun _ _ q => q, fun _ _ q => q, fun _ _ q => q⟩
end

section
variable {X : Cx} {ar : Nat → Option V} {st : Stmt} {rest : List Stmt} {t u : TSs} {e : Expr} {te : TEs} {b1 : Bool} {pos : Pos}
def sNext : TSs := fun σs D _ => D.nx σs
def sSeq (t u : TSs) : TSs := fun σs D ES => t σs { D with nx := fun σ1 => u σ1 D ES } ES
theorem jss_nil : JSs X ar [] sNext := PSs.mono pss_nil fun D σ H ⟨I, F, σs, Ds, ES, st, tx, q, r⟩ => r.nx σ H ⟨I, F, σs, .refl _ _ _, st, q⟩
theorem jss_cons (h1 : JS X ar st t) (h2 : JSs X ar rest u) : JSs X ar (st :: rest) (sSeq t u) :=
  PSs.mono (pss_cons h1 h2) fun D σ H ⟨I, F, σs, Ds, ES, st, tx, q, r⟩ =>
    ⟨I, F, σs, { Ds with nx := fun σ1 => u σ1 Ds ES }, ES, st, tx, q, ⟨fun σ' H' ⟨I', F', σs', ev, st', q'⟩ => ⟨I', F', σs', Ds, ES, st', tx.go ev (fun _ z => z), q', r.go ev⟩, r.bk, r.ct, r.rt⟩⟩
theorem jss_one (h1 : JS X ar st t) : JSs X ar [st] t := pss_one h1
theorem js_pass : JS X ar (.Pass pos) sNext := PS.mono ps_pass fun D σ H ⟨I, F, σs, Ds, ES, st, tx, q, r⟩ => r.nx σ H ⟨I, F, σs, .refl _ _ _, st, q⟩
def sBreak : TSs := fun σs D _ => D.bk σs
def sCont : TSs := fun σs D _ => D.ct σs
theorem js_break : JS X ar (.Break pos) sBreak := PS.mono ps_break fun D σ H ⟨I, F, σs, Ds, ES, st, tx, q, r⟩ => r.bk σ H ⟨I, F, σs, .refl _ _ _, st, q⟩
theorem js_cont : JS X ar (.Continue pos) sCont := PS.mono ps_continue fun D σ H ⟨I, F, σs, Ds, ES, st, tx, q, r⟩ => r.ct σ H ⟨I, F, σs, .refl _ _ _, st, q⟩
/-- what is left of an expression's own objects is dropped -/
theorem Evo.drop {I H I' H' : Hp} {o o' : Addr → Prop} {R : List Addr} (h : Evo I H o I' H' (fun a => a ∈ R ∨ o' a)) : Evo I H o I' H' o' := ⟨h.up, h.fr, fun a z => h.nw a (.inr z), h.ni⟩
def sDrop (te : TEs) : TSs := fun σs D ES => te σs (fun _ σ1 => D.nx σ1) ES
theorem js_expr {m : Bool} (he : JE X ar b1 m e te) (hs : swapsWith e none pos.line X.env = pure false := by rfl) : JS X ar (.Expr e pos) (sDrop te) :=
  PS.mono (ps_expr he.pe hs) fun D σ H ⟨I, F, σs, Ds, ES, st, tx, q, r⟩ =>
    ⟨I, F, σs, _, ES, st, tx, q, fun v r' R I' H' F' σs' ev st' sr nf nI q' => r.nx σ H' ⟨I', F', σs', ev.drop, st', q'⟩⟩
def sRet (te : TEs) : TSs := fun σs D ES => te σs D.rt ES
theorem js_ret (he : JE X ar b1 true e te) : JS X ar (.Return (some e) pos) (sRet te) :=
  ⟨fun pins s σ H D J ⟨I, F, σs, Ds, ES, st, tx, q, r⟩ => (ps_ret he.pe).run pins s σ H D J
    ⟨I, F, σs, _, ES, st, tx, q, fun v r' R I' H' F' σs' ev st' sr nf nI q' => r.rt v H' ⟨r', R, I', σ, F', σs', J.len, ev, st', sr, nf rfl, nI, q'⟩⟩⟩
def sRetN : TSs := fun σs D _ => D.rt (.val .none) σs
theorem js_retN : JS X ar (.Return none pos) sRetN :=
  ⟨fun pins s σ H D J ⟨I, F, σs, Ds, ES, st, tx, q, r⟩ => ps_retN.run pins s σ H D J <| r.rt .non H ⟨.val .none, [], I, σ, F, σs, J.len, ⟨.refl I, fun _ _ h _ => h, fun a z => by
    rcases z with z | z
    · cases z
    · exact .inl z, fun _ _ h => .inl h⟩, st, .val .non, fun a m => absurd m (by simp), fun a m => absurd m (by simp), q⟩⟩
def sIfS (c : TTs) (t u : TSs) : TSs := fun σs D ES => c σs (fun b σ1 => ifb b (t σ1 D ES) (u σ1 D ES)) ES
theorem js_if {c : Expr} {a b : List Stmt} {tc : TTs} (hc : JT X ar b1 c tc) (ha : JSs X ar a t) (hb : JSs X ar b u) : JS X ar (.If c a b pos) (sIfS tc t u) :=
  PS.mono (ps_if hc.pt ha hb) fun D σ H ⟨I, F, σs, Ds, ES, st, tx, q, r⟩ =>
    ⟨I, F, σs, _, ES, st, tx, q, fun c I' H' F' σs' ev st' q' => by
      cases c with
      | true => exact ⟨I', F', σs', Ds, ES, st', tx.go ev (fun _ z => z), ifb.tt q', r.go ev⟩
      | false => exact ⟨I', F', σs', Ds, ES, st', tx.go ev (fun _ z => z), ifb.ff q', r.go ev⟩⟩
def sNever : TSs := fun _ _ _ => False
theorem js_never : JS X ar st sNever := PS.mono ps_never fun D σ H ⟨I, F, σs, Ds, ES, st, tx, q, r⟩ => q
theorem jss_never {sts : List Stmt} : JSs X ar sts sNever := PSs.mono pss_never fun D σ H ⟨I, F, σs, Ds, ES, st, tx, q, r⟩ => q
/-- name = value; the value may be its own -/
def sSet (i : Nat) (te : TEs) : TSs := fun σs D ES => te σs (fun r σ1 => D.nx (sets σ1 i (some r))) ES
/-- name = value, made pure -/
def sSetV (i : Nat) (te : TEs) : TSs := fun σs D ES => te σs (fun r σ1 => nd r.toD fun d => D.nx (sets σ1 i (some (.val d)))) ES
theorem Evo.stored {I H I1 H1 : Hp} {F F1 : Nat → List Addr} {R : List Addr} {i : Nat} (ev : Evo I H (own F) I1 H1 (fun a => a ∈ R ∨ own F1 a)) : Evo I H (own F) I1 H1 (own (put1 F1 i R)) :=
  ⟨ev.up, ev.fr, fun a z => ev.nw a (own_put1 z), ev.ni⟩
theorem StR.lenN {K : PySem.W.Frag} {I H : Hp} {σ : L2.St} {σs : SSt} {F : Nat → List Addr} (st : StR K ar I H σ σs F) : σs.length = σ.length := st.len
theorem js_set {i : Nat} {x : Str} {pos' : Pos} (he : JE X ar b1 true e te) (hp : ar i = none) (hN : X.N.Nodup) (hi : X.N[i]? = some x) (hx : Loc X.env.scope x) (hs : swapsWith e (some (.Name x pos')) pos.line X.env = pure false := by rfl)
    (hf : X.fn x = true ∨ X.env.scope.names.lookup x = some .local := by first | exact .inl rfl | exact .inr rfl | assumption) : JS X ar (.Assign [.Name x pos'] e pos) (sSet i te) := by
  refine ⟨fun pins s σ H D J ⟨I, F, σs, Ds, ES, st, tx, q, r⟩ => ?_⟩
  have hl : i < σs.length := by rw [st.len, J.len]; exact (List.getElem?_eq_some_iff.mp hi).1
  refine (PS.mono (ps_set hN hi hx he.pe hs hf) fun D σ H z => z).run pins s σ H D J ⟨I, F, σs, _, ES, st, tx, q, fun v r' R I' H' F' σs' ev st' sr nf nI q' => ?_⟩
  exact r.nx _ _ ⟨I', put1 F' i R, _, ev.stored, st'.store (by rw [st'.len, ← st.len]; exact hl) sr (nf rfl) nI (.inr hp), q'⟩
theorem js_setv {i : Nat} {x : Str} {pos' : Pos} (he : JE X ar b1 true e te) (hN : X.N.Nodup) (hi : X.N[i]? = some x) (hx : Loc X.env.scope x) (hs : swapsWith e (some (.Name x pos')) pos.line X.env = pure false := by rfl)
    (hf : X.fn x = true ∨ X.env.scope.names.lookup x = some .local := by first | exact .inl rfl | exact .inr rfl | assumption) : JS X ar (.Assign [.Name x pos'] e pos) (sSetV i te) := by
  refine ⟨fun pins s σ H D J ⟨I, F, σs, Ds, ES, st, tx, q, r⟩ => ?_⟩
  have hl : i < σs.length := by rw [st.len, J.len]; exact (List.getElem?_eq_some_iff.mp hi).1
  refine (PS.mono (ps_set hN hi hx he.pe hs hf) fun D σ H z => z).run pins s σ H D J ⟨I, F, σs, _, ES, st, tx, q, fun v r' R I' H' F' σs' ev st' sr nf nI q' => ?_⟩
  obtain ⟨d, ed, q'⟩ := nd_some q'
  have n := nI
  have st2 : StR X.K ar (fz I' H' R) H' σ σs' F' := st'.keep (fz_sub st'.sub) (sub_fz n) (fun _ _ _ z => z) fun a m => by
    rw [fz_out fun z => nf rfl a z m]
    exact st'.ownI m
  have ev2 : Evo I H (own F) (fz I' H' R) H' (own F') := ⟨ev.up.trans (sub_fz n), ev.fr, fun a m => ev.nw a (.inr m), fun a x q => by
    unfold fz at q
    split at q
    · rename_i m
      exact .inr (ev.nw a (.inl m))
    · exact ev.ni a x q⟩
  exact r.nx _ _ ⟨_, put1 F' i [], _, ⟨ev2.up, ev2.fr, fun a z => by
    rcases own_put1 z with z | z
    · cases z
    · exact ev2.nw a z, ev2.ni⟩, st2.store (by rw [st'.len, ← st.len]; exact hl) (.val (sr.freeze ed n)) (fun a m => absurd m (by simp)) (fun a m => absurd m (by simp)) (.inl ⟨d, rfl⟩), q'⟩
end
end SV
/-! SvK: targets; what a loop walks; for, while; comprehensions. -/
namespace SV
open PySem PySem.Spec PyProof.Rows L2

/-! ### targets: pure data is stored -/
abbrev TGt := PyData → SSt → Option SSt
abbrev TGts := List PyData → SSt → Option SSt
def liG (X : Cx) (ar : Nat → Option V) (g : TGt) (ts : List Nat) : TG := fun v σ H Q => ∃ I F σs d σ1, StR X.K ar I H σ σs F ∧ PR X.K I v d ∧ g d σs = some σ1 ∧
  ∀ σ' F', σ'.length = σ.length → (∀ j, j ∉ ts → σ'[j]? = σ[j]?) → (∀ a, own F' a → own F a) → StR X.K ar I H σ' σ1 F' → Q σ' H
def liGs (X : Cx) (ar : Nat → Option V) (g : TGts) (ts : List Nat) : TGs := fun vs σ H Q => ∃ I F σs ds σ1, StR X.K ar I H σ σs F ∧ PRs X.K I vs ds ∧ g ds σs = some σ1 ∧
  ∀ σ' F', σ'.length = σ.length → (∀ j, j ∉ ts → σ'[j]? = σ[j]?) → (∀ a, own F' a → own F a) → StR X.K ar I H σ' σ1 F' → Q σ' H
def JG (X : Cx) (ar : Nat → Option V) (tg : Expr) (g : TGt) (ts : List Nat) : Prop := PG X tg (liG X ar g ts)
def JGs (X : Cx) (ar : Nat → Option V) (tgs : List Expr) (g : TGts) (ts : List Nat) : Prop := PGs X tgs (liGs X ar g ts)
theorem PG.mono {X : Cx} {tg : Expr} {t t' : TG} (h : PG X tg t) (i : ∀ v σ H Q, t' v σ H Q → t v σ H Q) : PG X tg t' := ⟨fun pins s σ H v u Q J rv q => h.run pins s σ H v u Q J rv (i v σ H Q q)⟩
theorem PGs.mono {X : Cx} {tg : List Expr} {t t' : TGs} (h : PGs X tg t) (i : ∀ v σ H Q, t' v σ H Q → t v σ H Q) : PGs X tg t' := ⟨fun pins s σ H v u Q J rv q => h.run pins s σ H v u Q J rv (i v σ H Q q)⟩
def gVar (i : Nat) : TGt := fun d σs => if i < σs.length then some (sets σs i (some (.val d))) else none
def gSeq (g : TGts) : TGt := fun d σs => match d with
  | .tuple ds => g ds σs
  | _ => none
def gsNil : TGts := fun ds σs => match ds with
  | [] => some σs
  | _ => none
def gsCons (g : TGt) (r : TGts) : TGts := fun ds σs => match ds with
  | d :: ds => (g d σs).bind fun σ1 => r ds σ1
  | [] => none
section
variable {X : Cx} {ar : Nat → Option V} {pos : Pos}
theorem jg_name {i : Nat} {x : Str} (hN : X.N.Nodup) (hi : X.N[i]? = some x) (hx : Loc X.env.scope x) (hf : X.fn x = true ∨ X.env.scope.names.lookup x = some .local := by first | exact .inl rfl | exact .inr rfl | assumption) : JG X ar (.Name x pos) (gVar i) [i] := by
  refine PG.mono (pg_name hN hi hx hf) fun v σ H Q ⟨I, F, σs, d, σ1, st, pr, e, f⟩ => ?_
  unfold gVar at e
  split at e
  · rename_i hl
    cases e
    refine f (σ.set i (some v)) (put1 F i []) (by simp) (fun j hj => ?_) (fun a m => ?_) (st.store hl (.val pr) (fun a m => absurd m (by simp)) (fun a m => absurd m (by simp)) (.inl ⟨d, rfl⟩))
    · rw [List.getElem?_set_ne (by simpa using fun e => hj (by simp [e]))]
    · rcases own_put1 m with m | m
      · cases m
      · exact m
  · cases e
theorem jgs_nil : JGs X ar [] gsNil [] := by
  refine PGs.mono pgs_nil fun vs σ H Q ⟨I, F, σs, ds, σ1, st, pr, e, f⟩ => ?_
  cases pr with
  | nil =>
    cases e
    exact ⟨rfl, f σ F rfl (fun _ _ => rfl) (fun _ m => m) st⟩
  | cons _ _ => cases e
theorem jgs_cons {e : Expr} {es : List Expr} {g : TGt} {r : TGts} {ts ts' : List Nat} (h1 : JG X ar e g ts) (h2 : JGs X ar es r ts') (hs : (assignEach (e :: es) X.env).map (·.2) = assign e X.env :: (assignEach es X.env).map (·.2) := by rfl) : JGs X ar (e :: es) (gsCons g r) (ts ++ ts') := by
  refine PGs.mono (pgs_cons h1 h2 hs) fun vs σ H Q ⟨I, F, σs, ds, σ1, st, pr, e, f⟩ => ?_
  cases pr with
  | nil => cases e
  | cons p1 p2 =>
    obtain ⟨σ2, e1, e2⟩ := Option.bind_eq_some_iff.mp (show (g _ σs).bind (fun σ1 => r _ σ1) = some σ1 from e)
    refine ⟨_, _, rfl, I, F, σs, _, σ2, st, p1, e1, fun σ' F' l k o st' => ?_⟩
    refine ⟨I, F', σ2, _, σ1, st', p2, e2, fun σ'' F'' l' k' o' st'' => ?_⟩
    refine f σ'' F'' (l'.trans l) (fun j hj => ?_) (fun a m => o a (o' a m)) st''
    rw [List.mem_append, not_or] at hj
    rw [k' j hj.2, k j hj.1]
theorem jg_tup {es : List Expr} {k : Nat} {g : TGts} {ts : List Nat} {n : Nat} (hc : X.calm = true) (h : JGs X ar es g ts) (hl : ∀ ds σs σ1, g ds σs = some σ1 → ds.length = n) (hn : (assignEach es X.env).length = n := by rfl) (hst : (assignEach es X.env).findIdx? (·.1) = none := by rfl) :
    JG X ar (.Tuple es k pos) (gSeq g) ts := by
  refine PG.mono (pg_tup hc h hn hst) fun v σ H Q ⟨I, F, σs, d, σ1, st, pr, e, f⟩ => ?_
  cases pr with
  | tup hq p => exact ⟨_, _, rfl, SqT.sub st.sub hq, by rw [p.length]; exact hl _ _ _ e, I, F, σs, _, σ1, st, p, e, f⟩
  | _ => cases e
theorem len_nil : ∀ (ds : List PyData) (σs σ1 : SSt), gsNil ds σs = some σ1 → ds.length = 0
  | [], _, _, _ => rfl
  | _ :: _, _, _, h => by cases h
theorem len_cons {g : TGt} {r : TGts} {n : Nat} (h : ∀ ds σs σ1, r ds σs = some σ1 → ds.length = n) : ∀ ds σs σ1, gsCons g r ds σs = some σ1 → ds.length = n + 1
  | [], _, _, h => by cases h
  | d :: ds, σs, σ1, e => by
    obtain ⟨σ2, e1, e2⟩ := Option.bind_eq_some_iff.mp (show (g d σs).bind (fun σ1 => r ds σ1) = some σ1 from e)
    simp [h ds σ2 σ1 e2]
end

/-! ### what is walked -/
structure Walk (K : PySem.W.Frag) (I : Hp) (J : It) (ds : List PyData) : Prop where
  go : ∀ I1 H1, Sub I I1 → Sub I1 H1 → ∀ i d, ds[i]? = some d → J.go i H1 ∧ ∀ x H3, J.yld i H1 x H3 → ∃ I3, Sub I1 I3 ∧ Sub I3 H3 ∧ Sub H1 H3 ∧ (∀ a y, I3 a = some y → I1 a = some y ∨ H1 a = none) ∧ PR K I3 x d
  stop : ∀ I1 H1, Sub I I1 → Sub I1 H1 → ∀ i, ds.length ≤ i → J.stop i H1
theorem Walk.list {K : PySem.W.Frag} {I : Hp} {a : Addr} {vs : List V} {ds : List PyData} (h : SqL K I a vs) (p : PRs K I vs ds) : Walk K I (Itl K a) ds := by
  refine ⟨fun I1 H1 s1 s2 i d e => ?_, fun I1 H1 s1 s2 i hi => ⟨vs, SqL.sub s2 (SqL.sub s1 h), by rw [p.length]; exact hi⟩⟩
  obtain ⟨v, ev, pv⟩ := p.get e
  have hq := SqL.sub s2 (SqL.sub s1 h)
  refine ⟨⟨vs, v, hq, ev⟩, fun x H3 ⟨eH, hx⟩ => ?_⟩
  subst eH
  have := hx vs hq
  rw [ev] at this
  cases this
  exact ⟨I1, .refl _, s2, .refl _, fun _ _ z => .inl z, pv.sub s1⟩
theorem Walk.tup {K : PySem.W.Frag} {I : Hp} {a : Addr} {vs : List V} {ds : List PyData} (h : SqT K I a vs) (p : PRs K I vs ds) : Walk K I (Itt K a) ds := by
  refine ⟨fun I1 H1 s1 s2 i d e => ?_, fun I1 H1 s1 s2 i hi => ⟨vs, SqT.sub s2 (SqT.sub s1 h), by rw [p.length]; exact hi⟩⟩
  obtain ⟨v, ev, pv⟩ := p.get e
  have hq := SqT.sub s2 (SqT.sub s1 h)
  refine ⟨⟨vs, v, hq, ev⟩, fun x H3 ⟨eH, hx⟩ => ?_⟩
  subst eH
  have := hx vs hq
  rw [ev] at this
  cases this
  exact ⟨I1, .refl _, s2, .refl _, fun _ _ z => .inl z, pv.sub s1⟩
def chrD (x : Str) : List PyData := x.cps.toList.map fun c => .str ⟨#[c]⟩
theorem Walk.str {K : PySem.W.Frag} {I : Hp} {x : Str} (ok : PyData.strOk x = true) : Walk K I (Its x) (chrD x) := by
  refine ⟨fun I1 H1 s1 s2 i d e => ?_, fun I1 H1 s1 s2 i hi => by
    show x.cps.size ≤ i
    simpa [chrD] using hi⟩
  have hi : i < x.cps.size := by
    have := (List.getElem?_eq_some_iff.mp e).1
    simpa [chrD] using this
  refine ⟨hi, fun v H3 ⟨eH, c, ec, ev⟩ => ?_⟩
  subst eH ev
  have ed : d = .str ⟨#[c]⟩ := by
    unfold chrD at e
    rw [List.getElem?_map, Array.getElem?_toList, ec] at e
    exact (Option.some.inj e).symm
  subst ed
  refine ⟨I1, .refl _, s2, .refl _, fun _ _ z => .inl z, .str _ ?_ (by show 1 ≤ sizeLine; decide)⟩
  rw [strOk_iff] at ok ⊢
  intro c' hc'
  have : c' = c := by simpa using hc'
  subst this
  exact ok _ (by
    have := Array.mem_of_getElem? ec
    simpa using this)
def rangeD (lo hi : Int) : List PyData := (List.range (hi - lo).toNat).map fun i => .int (lo + (i : Nat))
theorem Walk.range {K : PySem.W.Frag} {I : Hp} {lo hi : Int} : Walk K I (Itr lo (hi - lo).toNat) (rangeD lo hi) := by
  refine ⟨fun I1 H1 s1 s2 i d e => ?_, fun I1 H1 s1 s2 i hk => by
    show (hi - lo).toNat ≤ i
    unfold rangeD at hk
    rw [List.length_map, List.length_range] at hk
    exact hk⟩
  have hi : i < (hi - lo).toNat := by
    have := (List.getElem?_eq_some_iff.mp e).1
    simpa [rangeD] using this
  refine ⟨hi, fun v H3 ⟨eH, ev⟩ => ?_⟩
  subst eH ev
  have ed : d = .int (lo + (i : Nat)) := by
    unfold rangeD at e
    rw [List.getElem?_map, List.getElem?_range hi] at e
    exact (Option.some.inj e).symm
  subst ed
  exact ⟨I1, .refl _, s2, .refl _, fun _ _ z => .inl z, .int _⟩

abbrev TIs := SSt → (List PyData → SSt → Prop) → XS → Prop
def liI (X : Cx) (ar : Nat → Option V) (ti : TIs) : TI := fun σ H R => ∃ I F σs Qk ES, StR X.K ar I H σ σs F ∧ TX X ar I H (own F) ES ∧ ti σs Qk ES ∧
  ∀ I' H' F' σs' ds J, Evo I H (own F) I' H' (own F') → StR X.K ar I' H' σ σs' F' → Walk X.K I' J ds → Qk ds σs' → R J H'
def JI (X : Cx) (ar : Nat → Option V) (tg iter : Expr) (ti : TIs) : Prop := PI X tg iter (liI X ar ti)
theorem PI.mono {X : Cx} {tg e : Expr} {t t' : TI} (h : PI X tg e t) (i : ∀ σ H R, t' σ H R → t σ H R) : PI X tg e t' := ⟨fun pins s σ H R J q => h.run pins s σ H R J (i σ H R q)⟩
def sItems (m : Bool) : S → Option (List PyData)
  | .val (.list ds) => some ds
  | .val (.tuple ds) => some ds
  | .val (.str x) => some (chrD x)
  | .lst ds => if m = true then some ds else none
  | .scr ns => some (ns.map .int)
  | _ => none
def iSeq (m : Bool) (te : TEs) : TIs := fun σs Q ES => te σs (fun r σ1 => nd (sItems m r) fun ds => Q ds σ1) ES
def iRg1 (te : TEs) : TIs := fun σs Q ES => te σs (fun r σ1 => match r with
  | .val (.int j) => (-(2 ^ 62) ≤ j ∧ j < 2 ^ 62) ∧ Q (rangeD 0 j) σ1
  | _ => False) ES
section
variable {X : Cx} {ar : Nat → Option V} {tg e : Expr} {te : TEs} {b m : Bool} {p pos : Pos}
theorem it_list {pins : List (Addr × Obj)} {σ : L2.St} {H : Hp} {s : Shared} {a : Addr} {xs : List V} {R : It → Hp → Prop} {E : Value → Shared → Prop} (J : Inv X pins σ H s) (hq : SqL X.K H a xs) (q : R (Itl X.K a) H) :
    wpAny (model X.prog X.w) X.A (pyIter (.ref a)) (PIE X pins σ tg R) E s := by
  obtain ⟨its, rv, p, hz⟩ := J.list hq
  refine wpAny_pyIter_list p.isList (pi_one (tk := s.toks) J _ (turn_list a _) ⟨_, Heap.get?_push_size _ rfl, rfl, rfl⟩ q)
theorem it_tup {pins : List (Addr × Obj)} {σ : L2.St} {H : Hp} {s : Shared} {a : Addr} {xs : List V} {R : It → Hp → Prop} {E : Value → Shared → Prop} (J : Inv X pins σ H s) (hq : SqT X.K H a xs) (q : R (Itt X.K a) H) :
    wpAny (model X.prog X.w) X.A (pyIter (.ref a)) (PIE X pins σ tg R) E s := by
  obtain ⟨its, rv, p, hz⟩ := J.tuple hq
  refine wpAny_pyIter_tuple (show s.heap.IsTuple a its.toArray from p) (pi_one (tk := s.toks) J _ (turn_tuple a _) ⟨_, Heap.get?_push_size _ rfl, rfl, rfl⟩ q)
theorem it_str {pins : List (Addr × Obj)} {σ : L2.St} {H : Hp} {s : Shared} {x : Str} {t : Tok} {R : It → Hp → Prop} {E : Value → Shared → Prop} (J : Inv X pins σ H s) (q : R (Its x) H) :
    wpAny (model X.prog X.w) X.A (pyIter (.str x t)) (PIE X pins σ tg R) E s := by
  cases ha : x.cps.all (· < 128)
  · exact wpAny_pyIter_wide ha (pi_one (tk := s.toks) J _ (turn_str _ x t "str_iterator" (.inr rfl)) ⟨_, Heap.get?_push_size _ rfl, rfl, rfl⟩ q)
  · exact wpAny_pyIter_ascii ha (pi_one (tk := s.toks) J _ (turn_str _ x t "str_ascii_iterator" (.inl rfl)) ⟨_, Heap.get?_push_size _ rfl, rfl, rfl⟩ q)
theorem ji_seq (he : JE X ar b m e te) : JI X ar tg e (iSeq m te) := by
  refine ⟨fun pins s σ H R J ⟨I, F, σs, Qk, ES, st, tx, q, f⟩ => ?_⟩
  refine thn (he.run pins s σ I H F σs _ ES J st tx q) fun u s1 ⟨v, r, Rr, I1, H1, F1, σ1, d, rv, q1⟩ => ?_
  obtain ⟨ds, ed, q1⟩ := nd_some q1
  have sr := d.sr
  cases r with
  | val y =>
    obtain ⟨eR, pr⟩ := sr.val_inv
    subst eR
    have ev : Evo I H (own F) I1 H1 (own F1) := d.evo.drop
    cases pr with
    | lst h p2 =>
      cases ed
      cases rv
      exact it_list d.inv (SqL.of (d.st.sub _ _ h)) (f I1 H1 F1 σ1 _ _ ev d.st (.list (SqL.of h) p2) q1)
    | tup h p2 =>
      cases ed
      cases rv
      exact it_tup d.inv (SqT.sub d.st.sub h) (f I1 H1 F1 σ1 _ _ ev d.st (.tup h p2) q1)
    | str x ok hz =>
      cases ed
      obtain ⟨t, rfl⟩ := rv
      exact it_str d.inv (f I1 H1 F1 σ1 _ _ ev d.st (.str ok) q1)
    | _ => cases ed
  | lst ds0 =>
    have hm : m = true := by
      have ed' : (if m = true then some ds0 else none) = some ds := ed
      by_cases h : m = true
      · exact h
      · rw [if_neg h] at ed'
        cases ed'
    subst hm
    obtain ⟨hb, pr⟩ := d.freeze (d := .list ds0) rfl
    cases ed
    cases pr with
    | lst h p2 =>
      cases rv
      exact it_list hb.inv (SqL.of (hb.st.sub _ _ h)) (f _ H1 F1 σ1 _ _ hb.evo hb.st (.list (SqL.of h) p2) q1)
  | scr ns =>
    cases ed
    generalize e0 : S.scr ns = r0 at sr
    cases sr with
    | scr hq =>
      cases e0
      cases rv
      exact it_list d.inv (SqL.sub d.st.sub hq) (f I1 H1 F1 σ1 _ _ d.evo.drop d.st (.list hq (PRs.ints _)) q1)
    | _ => cases e0
  | _ => cases ed
theorem ji_range1 (hg : Gl X "range") (hm : X.mg "range" = none) (he : JE X ar b m e te) (hs : starEach [e] X.env = [(false, eval e X.env)] := by rfl) : JI X ar tg (.Call (.Name "range" p) [e] [] pos) (iRg1 te) := by
  refine PI.mono (pi_range1 hg hm (pa_cons he.pe pa_nil hs) hs) fun σ H R ⟨I, F, σs, Qk, ES, st, tx, q, f⟩ => ?_
  refine ⟨I, F, σs, _, ES, st, tx, q, fun v r R' I' H' F' σs' ev st' sr nf nI q' => ?_⟩
  cases r with
  | val y =>
    obtain ⟨eR, pr⟩ := sr.val_inv
    subst eR
    cases y with
    | int j =>
      cases pr
      exact ⟨j, rfl, q'.1.1, q'.1.2, f I' H' F' σs' _ _ ev.drop st' (by simpa using Walk.range (lo := 0) (hi := j)) q'.2⟩
    | _ => exact q'.elim
  | _ => exact q'.elim
end

/-! ### for, while -/
def forT (g : TGt) (tb : TSs) : List PyData → TSs
  | [], σs, D, _ => D.nx σs
  | d :: ds, σs, D, ES => nd (g d σs) fun σ1 => tb σ1 { D with nx := fun σ2 => forT g tb ds σ2 D ES, ct := fun σ2 => forT g tb ds σ2 D ES, bk := D.nx } ES
def sFor (ti : TIs) (g : TGt) (tb : TSs) : TSs := fun σs D ES => ti σs (fun ds σ1 => forT g tb ds σ1 D ES) ES
def whileT (c : TTs) (tb : TSs) : Nat → TSs
  | 0, _, _, _ => False
  | n + 1, σs, D, ES => c σs (fun b σ1 => ifb b (tb σ1 { D with nx := fun σ2 => whileT c tb n σ2 D ES, ct := fun σ2 => whileT c tb n σ2 D ES, bk := D.nx } ES) (D.nx σ1)) ES
def sWhile (c : TTs) (tb : TSs) : TSs := fun σs D ES => ∃ n, whileT c tb n σs D ES
section
variable {X : Cx} {ar : Nat → Option V} {tg iter c : Expr} {body : List Stmt} {ti : TIs} {g : TGt} {ts : List Nat} {tc : TTs} {tb : TSs} {b1 : Bool} {pos : Pos}
theorem Evo.sameo {I H I1 H1 : Hp} {o o1 o2 : Addr → Prop} (h : Evo I H o I1 H1 o1) (k : ∀ a, o2 a → o1 a) : Evo I H o I1 H1 o2 := ⟨h.up, h.fr, fun a z => h.nw a (k a z), h.ni⟩
theorem js_for (hp : PassesOwn (model X.prog X.w) X.A X.env X.xe) (hc : X.calm = true) (hi : JI X ar tg iter ti) (hg : JG X ar tg g ts) (hb : JSs X ar body tb) (hs : ∀ x, foldedSetIterable iter X.env x = pure x := by intro _; rfl) :
    JS X ar (.For tg iter body [] pos) (sFor ti g tb) := by
  refine PS.mono (ps_for hp hc hi hg hb hs) fun D σ H ⟨I, F, σs, Ds, ES, st, tx, q, r⟩ => ?_
  refine ⟨I, F, σs, _, ES, st, tx, q, fun I1 H1 F1 σ1 ds J ev st1 W q1 => ?_⟩
  refine ⟨fun i n σ' H' => n = ds.length - i ∧ i ≤ ds.length ∧ ∃ I' F' σs', Evo I H (own F) I' H' (own F') ∧ Sub I1 I' ∧ StR X.K ar I' H' σ' σs' F' ∧ forT g tb (ds.drop i) σs' Ds ES, ⟨ds.length, by simp, Nat.zero_le _, I1, F1, σ1, ev, .refl _, st1, by simpa using q1⟩, ?_⟩
  rintro i n σ' H' ⟨rfl, hi, I', F', σs', ev', sb', st', q'⟩
  by_cases hlt : i < ds.length
  · have eg : ds[i]? = some ds[i] := List.getElem?_eq_getElem hlt
    rw [List.drop_eq_getElem_cons hlt] at q'
    obtain ⟨σ2, e2, q2⟩ := nd_some q'
    obtain ⟨go, yl⟩ := W.go I' H' sb' st'.sub i _ eg
    refine .inr ⟨go, fun σ'' H'' => i + 1 ≤ ds.length ∧ ∃ I'' F'' σs'', Evo I H (own F) I'' H'' (own F'') ∧ Sub I1 I'' ∧ StR X.K ar I'' H'' σ'' σs'' F'' ∧ forT g tb (ds.drop (i + 1)) σs'' Ds ES, fun σ'' H'' z => ⟨ds.length - (i + 1), by omega, rfl, z.1, z.2⟩, fun x H3 y3 => ?_⟩
    obtain ⟨I3, u1, u2, u3, u4, px⟩ := yl x H3 y3
    have ev3 : Evo I' H' (own F') I3 H3 (own F') := ⟨u1, fun a x e _ => u3 a x e, fun a z => .inl z, fun a y e => (u4 a y e).imp id .inr⟩
    have st3 : StR X.K ar I3 H3 σ' σs' F' := st'.keep u2 u1 (fun a _ x e => u3 a x e) fun a m => by
      cases e : I3 a with
      | none => rfl
      | some y =>
        rcases u4 a y e with e | e
        · rw [st'.ownI m] at e
          cases e
        · obtain ⟨z, e2⟩ := st'.there m
          rw [e] at e2
          cases e2
    refine ⟨I3, F', σs', _, σ2, st3, px, e2, fun σ4 F4 l4 k4 o4 st4 => ?_⟩
    have ev4 : Evo I H (own F) I3 H3 (own F4) := (ev'.trans ev3 (fun _ z => z) (fun _ z => .inr z)).sameo o4
    refine ⟨I3, F4, σ2, _, ES, st4, tx.go ev4 (fun _ z => z), q2, ⟨fun σ'' H'' ⟨I'', F'', σs'', e, s, q⟩ => ?_, fun σ'' H'' z => r.nx _ _ (z.go ev4), fun σ'' H'' ⟨I'', F'', σs'', e, s, q⟩ => ?_, fun v H'' z => r.rt _ _ (z.go ev4)⟩⟩
    · exact ⟨hlt, I'', F'', σs'', ev4.trans e (fun _ z => z) (fun _ z => .inr z), (sb'.trans u1).trans e.up, s, q⟩
    · exact ⟨hlt, I'', F'', σs'', ev4.trans e (fun _ z => z) (fun _ z => .inr z), (sb'.trans u1).trans e.up, s, q⟩
  · have ei : i = ds.length := by omega
    subst ei
    rw [List.drop_length] at q'
    exact .inl ⟨W.stop I' H' sb' st'.sub _ (Nat.le_refl _), r.nx _ _ ⟨I', F', σs', ev', st', q'⟩⟩
theorem js_while (hp : PassesOwn (model X.prog X.w) X.A X.env X.xe) (hc : JT X ar b1 c tc) (hb : JSs X ar body tb) : JS X ar (.While c body [] pos) (sWhile tc tb) := by
  refine PS.mono (ps_while hp hc.pt hb) fun D σ H ⟨I, F, σs, Ds, ES, st, tx, ⟨n, q⟩, r⟩ => ?_
  refine ⟨fun n σ' H' => ∃ I' F' σs', Evo I H (own F) I' H' (own F') ∧ StR X.K ar I' H' σ' σs' F' ∧ whileT tc tb n σs' Ds ES, ⟨n, I, F, σs, .refl _ _ _, st, q⟩, ?_⟩
  rintro n σ' H' ⟨I', F', σs', ev', st', q'⟩
  cases n with
  | zero => exact (show False from q').elim
  | succ n =>
    refine ⟨I', F', σs', _, ES, st', tx.go ev' (fun _ z => z), q', fun b I2 H2 F2 σ2 ev2 st2 q2 => ?_⟩
    have ev3 := ev'.trans ev2 (fun _ z => z) (fun _ z => .inr z)
    cases b with
    | false =>
      dsimp only
      rw [if_neg (by decide)]
      exact r.nx _ _ ⟨I2, F2, σ2, ev3, st2, ifb.ff q2⟩
    | true =>
      dsimp only
      rw [if_pos rfl]
      refine ⟨fun σ'' H'' => ∃ I'' F'' σs'', Evo I H (own F) I'' H'' (own F'') ∧ StR X.K ar I'' H'' σ'' σs'' F'' ∧ whileT tc tb n σs'' Ds ES, fun σ'' H'' z => ⟨n, Nat.lt_succ_self n, z⟩, ?_⟩
      refine ⟨I2, F2, σ2, _, ES, st2, tx.go ev3 (fun _ z => z), ifb.tt q2, ⟨fun σ'' H'' ⟨I'', F'', σs'', e, s, q⟩ => ⟨I'', F'', σs'', ev3.trans e (fun _ z => z) (fun _ z => .inr z), s, q⟩, fun σ'' H'' z => r.nx _ _ (z.go ev3), fun σ'' H'' ⟨I'', F'', σs'', e, s, q⟩ => ⟨I'', F'', σs'', ev3.trans e (fun _ z => z) (fun _ z => .inr z), s, q⟩, fun v H'' z => r.rt _ _ (z.go ev3)⟩⟩
end

/-! ### for over an own list that the body leaves as it is -/
def forVT (i : Nat) (ds0 : List PyData) (g : TGt) (tb : TSs) : List PyData → TSs
  | [], σs, D, _ => gets σs i = some (.lst ds0) ∧ D.nx σs
  | d :: ds, σs, D, ES => gets σs i = some (.lst ds0) ∧ nd (g d σs) fun σ1 => tb σ1 { D with nx := fun σ2 => forVT i ds0 g tb ds σ2 D ES, ct := fun σ2 => forVT i ds0 g tb ds σ2 D ES, bk := D.nx } ES
def sForV (i : Nat) (g : TGt) (tb : TSs) : TSs := fun σs D ES => match gets σs i with
  | some (.lst ds0) => forVT i ds0 g tb ds0 σs D ES
  | _ => False
section
variable {X : Cx} {ar : Nat → Option V} {tg : Expr} {body : List Stmt} {g : TGt} {ts : List Nat} {tb : TSs} {pos npos : Pos}
theorem StR.prot {K : PySem.W.Frag} {I H : Hp} {σ : L2.St} {σs : SSt} {F : Nat → List Addr} (h : StR K ar I H σ σs F) {i : Nat} {v : V} (e : σ[i]? = some (some v)) : StR K (prot ar i v) I H σ σs F :=
  ⟨h.sub, h.rep, h.non, h.dis, h.notI, fun j w r a q => by
    unfold SV.prot at a
    split at a
    · rename_i ej
      cases a
      subst ej
      exact .inr e
    · exact h.par j w r a q, h.len⟩
theorem StR.unprot {K : PySem.W.Frag} {I H : Hp} {σ : L2.St} {σs : SSt} {F : Nat → List Addr} {i : Nat} {v : V} (h : StR K (SV.prot ar i v) I H σ σs F) (hv : ∀ w, ar i = some w → v = w) : StR K ar I H σ σs F :=
  ⟨h.sub, h.rep, h.non, h.dis, h.notI, fun j w r a q => by
    by_cases ej : j = i
    · subst ej
      have := h.par j v r (by unfold SV.prot; rw [if_pos rfl]) q
      rw [hv w a] at this
      exact this
    · exact h.par j w r (by unfold SV.prot; rw [if_neg ej]; exact a) q, h.len⟩
theorem js_forV (i : Nat) {x : Str} (hp : PassesOwn (model X.prog X.w) X.A X.env X.xe) (hc : X.calm = true) (hg : ∀ v, JG X (prot ar i v) tg g ts) (hb : ∀ v, JSs X (prot ar i v) body tb)
    (hN : X.N[i]? = some x := by rfl) (hv : Vis X.env.scope x := by first | exact Or.inl rfl | exact Or.inr (Or.inl rfl) | exact Or.inr (Or.inr rfl)) (hd : (x == ("__debug__" : Str)) = false := by decide) (hcd : (x == ("__classdict__" : Str)) = false := by decide)
    (hs : ∀ y, foldedSetIterable (.Name x npos) X.env y = pure y := by intro _; rfl) : JS X ar (.For tg (.Name x npos) body [] pos) (sForV i g tb) := by
  refine ⟨fun pins s σ H D J ⟨I, F, σs, Ds, ES, st, tx, q, r⟩ => ?_⟩
  unfold sForV at q
  cases g0 : gets σs i with
  | none => rw [g0] at q; exact q.elim
  | some r0 =>
    rw [g0] at q
    cases r0 with
    | lst ds =>
      obtain ⟨v, e1, sr⟩ := st.rep i _ g0
      obtain ⟨a, vs0, rfl, eF0, hH0, p0⟩ := sr.lst_inv
      have st0 := st.prot e1
      have back : ∀ {N : SSt → Prop} {σ' : L2.St} {H' : Hp}, Bh X (prot ar i (.ref a)) I H F N σ' H' → Bh X ar I H F N σ' H' := fun {N σ' H'} ⟨I', F', σs', e, s', q'⟩ => ⟨I', F', σs', e, s'.unprot fun w hw => by
        rcases st.par i w _ hw g0 with ⟨d, z⟩ | z
        · cases z
        · rw [e1] at z
          exact Option.some.inj (Option.some.inj z), q'⟩
      have backR : ∀ {Q : QS} {v : V} {H' : Hp}, Rt X (prot ar i (.ref a)) I H F Q v H' → Rt X ar I H F Q v H' := fun {Q v H'} ⟨r1, R, I', σ', F', σs', hn, e, s', q'⟩ => ⟨r1, R, I', σ', F', σs', hn, e, s'.unprot fun w hw => by
        rcases st.par i w _ hw g0 with ⟨d, z⟩ | z
        · cases z
        · rw [e1] at z
          exact Option.some.inj (Option.some.inj z), q'⟩
      have tx0 : TX X (prot ar i (.ref a)) I H (own F) ES := by
        obtain ⟨W, tk, f⟩ := tx
        refine ⟨W, tk, fun cls d σ' I' H' F' σs' ed ev s' hed q' => f cls d σ' I' H' F' σs' ed ev (s'.unprot fun w hw => ?_) hed q'⟩
        rcases st.par i w _ hw g0 with ⟨d, z⟩ | z
        · cases z
        · rw [e1] at z
          exact Option.some.inj (Option.some.inj z)
      refine (ps_for hp hc (pi_list (pe_var hN hv hd hcd)) (hg (.ref a)) (hb (.ref a)) hs).run pins s σ H D J ⟨.ref a, e1, a, rfl, ⟨vs0, SqL.of hH0⟩, ?_⟩
      refine ⟨fun k n σ' H' => n = ds.length - k ∧ k ≤ ds.length ∧ ∃ I' F' σs', Evo I H (own F) I' H' (own F') ∧ StR X.K (prot ar i (.ref a)) I' H' σ' σs' F' ∧ forVT i ds g tb (ds.drop k) σs' Ds ES, ⟨ds.length, by simp, Nat.zero_le _, I, F, σs, .refl _ _ _, st0, by simpa using q⟩, ?_⟩
      rintro k n σ' H' ⟨rfl, hk, I', F', σs', ev', st', q'⟩
      -- the list as it stands
      have at_a : gets σs' i = some (.lst ds) → ∃ vs', H' a = some (.lst vs') ∧ PRs X.K I' vs' ds := fun e => by
        obtain ⟨v', e2, sr'⟩ := st'.rep i _ e
        obtain ⟨a', vs', rfl, _, hH', p'⟩ := sr'.lst_inv
        rcases st'.par i (.ref a) _ (by unfold SV.prot; rw [if_pos rfl]) e with ⟨d, z⟩ | z
        · cases z
        · rw [e2] at z
          cases z
          exact ⟨vs', hH', p'⟩
      by_cases hlt : k < ds.length
      · rw [List.drop_eq_getElem_cons hlt] at q'
        obtain ⟨e3, q2⟩ := (show gets σs' i = some (.lst ds) ∧ _ from q')
        obtain ⟨vs', hH', p'⟩ := at_a e3
        obtain ⟨σ2, e2, q2⟩ := nd_some q2
        obtain ⟨w', ew, pw⟩ := p'.get (List.getElem?_eq_getElem hlt)
        refine .inr ⟨⟨vs', w', SqL.of hH', ew⟩, fun σ'' H'' => k + 1 ≤ ds.length ∧ ∃ I'' F'' σs'', Evo I H (own F) I'' H'' (own F'') ∧ StR X.K (prot ar i (.ref a)) I'' H'' σ'' σs'' F'' ∧ forVT i ds g tb (ds.drop (k + 1)) σs'' Ds ES, fun σ'' H'' z => ⟨ds.length - (k + 1), by omega, rfl, z.1, z.2⟩, fun y H3 ⟨eH, hy⟩ => ?_⟩
        subst eH
        have := hy vs' (SqL.of hH')
        rw [ew] at this
        cases this
        refine ⟨I', F', σs', _, σ2, st', pw, e2, fun σ4 F4 l4 k4 o4 st4 => ?_⟩
        have ev4 : Evo I H (own F) I' H3 (own F4) := ev'.sameo o4
        refine ⟨I', F4, σ2, _, ES, st4, tx0.go ev4 (fun _ z => z), q2, ⟨fun σ'' H'' ⟨I'', F'', σs'', e, s, q⟩ => ?_, fun σ'' H'' z => r.nx _ _ (back (z.go ev4)), fun σ'' H'' ⟨I'', F'', σs'', e, s, q⟩ => ?_, fun v H'' z => r.rt _ _ (backR (z.go ev4))⟩⟩
        · exact ⟨hlt, I'', F'', σs'', ev4.trans e (fun _ z => z) (fun _ z => .inr z), s, q⟩
        · exact ⟨hlt, I'', F'', σs'', ev4.trans e (fun _ z => z) (fun _ z => .inr z), s, q⟩
      · have ei : k = ds.length := by omega
        subst ei
        rw [List.drop_length] at q'
        obtain ⟨e3, q2⟩ := (show gets σs' i = some (.lst ds) ∧ _ from q')
        obtain ⟨vs', hH', p'⟩ := at_a e3
        exact .inl ⟨⟨vs', SqL.of hH', by rw [p'.length]; exact Nat.le_refl _⟩, r.nx _ _ (back ⟨I', F', σs', ev', st', q2⟩)⟩
    | _ => exact q.elim
end
end SV
/-! SvL: list comprehensions. -/
namespace SV
open PySem PySem.Spec PyProof.Rows L2

def noX : XS := fun _ _ _ => False
/-- what stands behind an expression -/
def OutE (K : PySem.W.Frag) (ar : Nat → Option V) (I H : Hp) (F : Nat → List Addr) (σ : L2.St) (Qk : KS) : VK := fun v H' =>
  ∃ r R I' F' σs', Evo I H (own F) I' H' (fun a => a ∈ R ∨ own F' a) ∧ StR K ar I' H' σ σs' F' ∧ SR K I' H' v r R ∧ (∀ a ∈ R, ¬ own F' a) ∧ (∀ a ∈ R, I' a = none) ∧ Qk r σs'
def liEn (K : PySem.W.Frag) (ar : Nat → Option V) (t : TEs) : TE := fun σ H Q => ∃ I F σs Qk, StR K ar I H σ σs F ∧ t σs Qk noX ∧ ∀ v H', OutE K ar I H F σ Qk v H' → Q v H'
theorem JE.pen {X : Cx} {ar : Nat → Option V} {b : Bool} {e : Expr} {t : TEs} (h : JE X ar b true e t) : PE X e (liEn X.K ar t) :=
  ⟨fun pins s σ H Q J ⟨I, F, σs, Qk, st, q, f⟩ => thn (h.run pins s σ I H F σs Qk noX J st .none q) fun u s' ⟨v, r, R, I', H', F', σs', d, rv, q'⟩ =>
    ⟨v, H', d.inv, rv, f v H' ⟨r, R, I', F', σs', d.evo, d.st, d.sr, d.nf rfl, d.nI, q'⟩⟩⟩
def liTn (K : PySem.W.Frag) (ar : Nat → Option V) (t : TTs) : TT := fun σ H Q => ∃ I F σs Qk, StR K ar I H σ σs F ∧ t σs Qk noX ∧ ∀ c I' H' F' σs', Evo I H (own F) I' H' (own F') → StR K ar I' H' σ σs' F' → Qk c σs' → Q c H'
theorem JT.ptn {X : Cx} {ar : Nat → Option V} {b : Bool} {e : Expr} {t : TTs} (h : JT X ar b e t) : PT X e (liTn X.K ar t) :=
  ⟨fun pins s σ H Q J ⟨I, F, σs, Qk, st, q, f⟩ => thn (h.run pins s σ I H F σs Qk noX J st .none q) fun c s' ⟨I', H', F', σs', d, q'⟩ => ⟨H', d.inv, f c I' H' F' σs' d.evo d.st q'⟩⟩
theorem JE.of_pe {X : Cx} {ar : Nat → Option V} {e : Expr} {t : TEs} {t' : TE} (h : PE X e t') (i : ∀ σ I H F σs Qk ES Q, StR X.K ar I H σ σs F → TX X ar I H (own F) ES → t σs Qk ES → (∀ v H', OutE X.K ar I H F σ Qk v H' → Q v H') → t' σ H Q) : JE X ar false true e t := by
  refine ⟨fun pins s σ I H F σs Qk ES J st tx q => ?_⟩
  refine thn (h.run pins s σ H (OutE X.K ar I H F σ Qk) J (i σ I H F σs Qk ES _ st tx q fun _ _ z => z)) fun u s' ⟨v, H', J', rv, r, R, I', F', σs', ev, st', sr, nf, nI, q'⟩ => ?_
  exact ⟨v, r, R, I', H', F', σs', ⟨J', ev, st', sr, fun _ => nf, nI, fun z => Bool.noConfusion z⟩, rv, q'⟩
/-- a clause's tests -/
def JQ (X : Cx) (ar : Nat → Option V) (ifs : List Expr) (t : TTs) : Prop := PTs X ifs (liTn X.K ar t)
theorem PTs.mono {X : Cx} {es : List Expr} {t t' : TT} (h : PTs X es t) (i : ∀ σ H Q, t' σ H Q → t σ H Q) : PTs X es t' := ⟨fun pins s σ H Q J q => h.run pins s σ H Q J (i σ H Q q)⟩
def tYesS : TTs := fun σs Q _ => Q true σs
theorem jq_nil {X : Cx} {ar : Nat → Option V} : JQ X ar [] tYesS := PTs.mono pts_nil fun σ H Q ⟨I, F, σs, Qk, st, q, f⟩ => f true I H F σs (.refl _ _ _) st q
theorem jq_one {X : Cx} {ar : Nat → Option V} {b : Bool} {c : Expr} {t : TTs} (h : JT X ar b c t) : JQ X ar [c] t := pts_one h.ptn

/-! ### the block's own names -/
def wipeS (σs : SSt) : List Nat → SSt
  | [] => σs
  | v :: vs => sets (wipeS σs vs) v none
section
variable {K : PySem.W.Frag} {ar : Nat → Option V} {I H : Hp} {σ σ' : L2.St} {σs : SSt} {F : Nat → List Addr}
theorem wipeS_length : ∀ vs : List Nat, (wipeS σs vs).length = σs.length
  | [] => rfl
  | v :: vs => by
    unfold wipeS
    rw [sets_length, wipeS_length vs]
/-- a slot is forgotten, also below -/
theorem StR.forget2 (h : StR K ar I H σ σs F) (i : Nat) : StR K ar I H (σ.set i none) (sets σs i none) (drop1 F i) := by
  have g := h.forget i
  refine ⟨g.sub, fun j r q => ?_, g.non, g.dis, g.notI, fun j w r ha q => ?_, by rw [List.length_set]; exact g.len⟩
  · have hj : j ≠ i := fun e => by
      rw [e, gets_sets_none] at q
      cases q
    obtain ⟨v, e, s⟩ := g.rep j r q
    exact ⟨v, by rw [List.getElem?_set_ne (Ne.symm hj)]; exact e, s⟩
  · have hj : j ≠ i := fun e => by
      rw [e, gets_sets_none] at q
      cases q
    rw [List.getElem?_set_ne (Ne.symm hj)]
    exact g.par j w r ha q
theorem StR.wipe (h : StR K ar I H σ σs F) : ∀ vs : List Nat, ∃ F', StR K ar I H (L2.wipe σ vs) (wipeS σs vs) F' ∧ ∀ a, own F' a → own F a
  | [] => ⟨F, h, fun _ z => z⟩
  | v :: vs => by
    obtain ⟨F', st, k⟩ := StR.wipe h vs
    exact ⟨drop1 F' v, st.forget2 v, fun a z => k a (own_of_drop1 z)⟩
theorem wipeS_none : ∀ {vs : List Nat} {i : Nat}, i ∈ vs → gets (wipeS σs vs) i = none
  | v :: vs, i, h => by
    unfold wipeS
    by_cases e : i = v
    · rw [e, gets_sets_none]
    · rw [gets_sets_ne e]
      rcases List.mem_cons.mp h with z | z
      · exact absurd z e
      · exact wipeS_none z
/-- behind the block -/
theorem StR.unwipe {vs : List Nat} (h : StR K ar I H (L2.wipe σ vs) σs F) : StR K ar I H σ σs F :=
  ⟨h.sub, fun i r q => let ⟨v, e, s⟩ := h.rep i r q; ⟨v, (wipe_some e).1, s⟩, h.non, h.dis, h.notI, fun i v r a q => (h.par i v r a q).imp id fun e => (wipe_some e).1, by rw [h.len, wipe_length]⟩
theorem wipe_eq {σ σ' : L2.St} (hl : σ'.length = σ.length) : ∀ {vs : List Nat}, (∀ j, j ∉ vs → σ'[j]? = σ[j]?) → L2.wipe σ' vs = L2.wipe σ vs := by
  intro vs h
  refine List.ext_getElem? fun j => ?_
  by_cases hj : j ∈ vs
  · have nn : ∀ {τ : L2.St} {ws : List Nat}, j ∈ ws → (L2.wipe τ ws)[j]? = if j < τ.length then some none else none := by
      intro τ ws hw
      induction ws with
      | nil => cases hw
      | cons v ws ih =>
        unfold L2.wipe
        by_cases e : v = j
        · subst e
          by_cases hv : v < τ.length
          · rw [List.getElem?_set_self (by rw [wipe_length]; exact hv), if_pos hv]
          · rw [if_neg hv, List.getElem?_eq_none (by rw [List.length_set, wipe_length]; omega)]
        · rw [List.getElem?_set_ne e]
          rcases List.mem_cons.mp hw with z | z
          · exact absurd z.symm e
          · exact ih z
    rw [nn hj, nn hj, hl]
  · rw [wipe_out hj, wipe_out hj]
    exact h j hj
theorem wipe_wipe {vs : List Nat} : L2.wipe (L2.wipe σ vs) vs = L2.wipe σ vs := wipe_eq (wipe_length σ vs) fun j hj => wipe_out hj
end

def lcT (g : TGt) (tt : TTs) (te : TEs) (vs : List Nat) : List PyData → List PyData → SSt → (List PyData → SSt → Prop) → Prop
  | [], acc, σs, K => K acc σs
  | d :: ds, acc, σs, K => nd (g d σs) fun σ1 => tt σ1 (fun b σ2 => ifb b (te σ2 (fun r σ3 => nd r.toD fun e => acc.length < sizeLine ∧ lcT g tt te vs ds (acc ++ [e]) (wipeS σ3 vs) K) noX) (lcT g tt te vs ds acc (wipeS σ2 vs) K)) noX
def sLc (ti : TIs) (g : TGt) (tt : TTs) (te : TEs) (vs : List Nat) : TEs := fun σs Q ES => ti σs (fun ds σ1 => lcT g tt te vs ds [] (wipeS σ1 vs) (fun acc σ2 => Q (.lst acc) σ2)) ES
section
variable {X : Cx} {ar : Nat → Option V} {ti : TIs} {g : TGt} {ts : List Nat} {tt : TTs} {te : TEs} {vs : List Nat}
/-- the state within the block: the new list at D -/
structure InL (K : PySem.W.Frag) (ar : Nat → Option V) (I0 H0 : Hp) (o0 : Addr → Prop) (Iw : Hp) (D : Addr) (σw : L2.St) (acc : List PyData) (σs : SSt) (H : Hp) : Prop where
  ex : ∃ I F ws, Evo I0 H0 o0 I H (fun a => a ∈ [D] ∨ own F a) ∧ Sub Iw I ∧ StR K ar I H σw σs F ∧ H D = some (.lst ws) ∧ PRs K I ws acc ∧ I D = none ∧ ¬ own F D
theorem lc_imp {σ : L2.St} {I H : Hp} {F : Nat → List Addr} {σs : SSt} {Qk : KS} {ES : XS} {Q : VK} (hts : ∀ t ∈ ts, t ∈ vs) (st : StR X.K ar I H σ σs F) (tx : TX X ar I H (own F) ES) (q : sLc ti g tt te vs σs Qk ES)
    (hQ : ∀ v H', OutE X.K ar I H F σ Qk v H' → Q v H') : tLc (liI X ar ti) (liG X ar g ts) (liTn X.K ar tt) (liEn X.K ar te) vs σ H Q := by
  refine ⟨I, F, σs, _, ES, st, tx, q, fun I1 H1 F1 σ1 ds J ev st1 W q1 D hD => ?_⟩
  obtain ⟨F2, st2, k2⟩ := st1.wipe vs
  have hID : I1 D = none := by
    cases e : I1 D with
    | none => rfl
    | some x => rw [st1.sub _ _ e] at hD; cases hD
  have hFD : ¬ own F2 D := fun z => by
    obtain ⟨x, e⟩ := st2.there z
    rw [hD] at e
    cases e
  have up : ∀ a x, H1 a = some x → upd H1 D (.lst []) a = some x := fun a x e => by
    rw [upd_ne fun z => by subst z; rw [hD] at e; cases e]
    exact e
  refine ⟨fun i n H' => n = ds.length - i ∧ i ≤ ds.length ∧ ∃ acc σs', InL X.K ar I H (own F) I1 D (L2.wipe σ vs) acc σs' H' ∧ lcT g tt te vs (ds.drop i) acc σs' (fun acc σ2 => Qk (.lst acc) σ2), ⟨ds.length, by simp, Nat.zero_le _, [], wipeS σ1 vs, ⟨I1, F2, [], ⟨ev.up, fun a x e n => up a x (ev.fr a x e n), fun a z => ?_, ev.ni⟩, .refl _, ?_, upd_same, .nil, hID, hFD⟩, by simpa using q1⟩, ?_⟩
  · rcases z with z | z
    · have : a = D := by simpa using z
      subst this
      exact ev.back hD
    · exact ev.nw a (k2 a z)
  · exact st2.keep (fun a x e => up a x (st2.sub a x e)) (.refl _) (fun a _ x e => up a x e) fun a m => st2.ownI m
  rintro i n H' ⟨rfl, hi, acc, σs', ⟨I', F', ws, ev', sb', st', hD', pw, nI', nF'⟩, q'⟩
  by_cases hlt : i < ds.length
  · have eg : ds[i]? = some ds[i] := List.getElem?_eq_getElem hlt
    rw [List.drop_eq_getElem_cons hlt] at q'
    obtain ⟨σ2, e2, q2⟩ := nd_some q'
    obtain ⟨go, yl⟩ := W.go I' H' sb' st'.sub i _ eg
    refine .inr ⟨go, fun H'' => i + 1 ≤ ds.length ∧ ∃ acc σs', InL X.K ar I H (own F) I1 D (L2.wipe σ vs) acc σs' H'' ∧ lcT g tt te vs (ds.drop (i + 1)) acc σs' (fun acc σ2 => Qk (.lst acc) σ2), fun H'' z => ⟨ds.length - (i + 1), by omega, rfl, z.1, z.2⟩, fun x H3 y3 => ?_⟩
    obtain ⟨I3, u1, u2, u3, u4, px⟩ := yl x H3 y3
    have nI3 : I3 D = none := by
      cases e : I3 D with
      | none => rfl
      | some y =>
        rcases u4 D y e with e | e
        · rw [nI'] at e; cases e
        · rw [hD'] at e; cases e
    have ev3 : Evo I H (own F) I3 H3 (fun a => a ∈ [D] ∨ own F' a) := ⟨ev'.up.trans u1, fun a x e n => u3 a x (ev'.fr a x e n), fun a z => ev'.nw a z, fun a y e => by
      rcases u4 a y e with e | e
      · exact ev'.ni a y e
      · exact .inr (ev'.back e)⟩
    have st3 : StR X.K ar I3 H3 (L2.wipe σ vs) σs' F' := st'.keep u2 u1 (fun a _ x e => u3 a x e) fun a m => by
      cases e : I3 a with
      | none => rfl
      | some y =>
        rcases u4 a y e with e | e
        · rw [st'.ownI m] at e
          cases e
        · obtain ⟨z, e2⟩ := st'.there m
          rw [e] at e2
          cases e2
    have hD3 := u3 _ _ hD'
    refine ⟨I3, F', σs', _, σ2, st3, px, e2, fun σ4 F4 l4 k4 o4 st4 => ?_⟩
    have ew : L2.wipe σ4 vs = L2.wipe σ vs := by
      rw [wipe_eq l4 fun j hj => k4 j fun z => hj (hts j z), wipe_wipe]
    refine ⟨ew, ?_⟩
    -- a turn's end
    have fin : ∀ {I5 H5 : Hp} {F5 : Nat → List Addr} {σ5 : SSt} {ws5 : List V} {acc5 : List PyData}, Evo I H (own F) I5 H5 (fun a => a ∈ [D] ∨ own F5 a) → Sub I1 I5 → StR X.K ar I5 H5 σ4 σ5 F5 → H5 D = some (.lst ws5) → PRs X.K I5 ws5 acc5 → I5 D = none → ¬ own F5 D →
        InL X.K ar I H (own F) I1 D (L2.wipe σ vs) acc5 (wipeS σ5 vs) H5 := fun {I5 H5 F5 σ5 ws5 acc5} e s st h p n1 n2 => by
      obtain ⟨F6, st6, k6⟩ := st.wipe vs
      rw [ew] at st6
      exact ⟨I5, F6, ws5, ⟨e.up, e.fr, fun a z => e.nw a (z.imp id (k6 a)), e.ni⟩, s, st6, h, p, n1, fun z => n2 (k6 _ z)⟩
    have ev4 : Evo I H (own F) I3 H3 (fun a => a ∈ [D] ∨ own F4 a) := ev3.sameo fun a z => z.imp id (o4 a)
    have nF4 : ¬ own F4 D := fun z => nF' (o4 _ z)
    refine ⟨I3, F4, σ2, _, st4, q2, fun b I5 H5 F5 σ5 ev5 st5 q5 => ?_⟩
    have hD5 : H5 D = some (.lst ws) := ev5.fr _ _ hD3 nF4
    have nI5 : I5 D = none := by
      cases e : I5 D with
      | none => rfl
      | some y =>
        rcases ev5.ni D y e with e | e | e
        · rw [nI3] at e; cases e
        · exact absurd e nF4
        · rw [hD3] at e; cases e
    have nF5 : ¬ own F5 D := fun z => by
      rcases ev5.nw D z with e | e
      · exact nF4 e
      · rw [hD3] at e; cases e
    have ev6 : Evo I H (own F) I5 H5 (fun a => a ∈ [D] ∨ own F5 a) := ev4.trans ev5 (fun _ z => .inr z) fun c z => z.imp .inl id
    cases b with
    | false =>
      dsimp only
      rw [if_neg (by decide)]
      exact ⟨hlt, acc, wipeS σ5 vs, fin ev6 ((sb'.trans u1).trans ev5.up) st5 hD5 (pw.sub (u1.trans ev5.up)) nI5 nF5, ifb.ff q5⟩
    | true =>
      dsimp only
      rw [if_pos rfl]
      refine ⟨I5, F5, σ5, _, st5, ifb.tt q5, fun y H7 ⟨r, R, I7, F7, σ7, ev7, st7, sr7, nf7, nI7, q7⟩ => ?_⟩
      obtain ⟨e, er, hz, q8⟩ := nd_some q7
      have hD7 : H7 D = some (.lst ws) := ev7.fr _ _ hD5 nF5
      have nI7' : I7 D = none := by
        cases e : I7 D with
        | none => rfl
        | some y =>
          rcases ev7.ni D y e with e | e | e
          · rw [nI5] at e; cases e
          · exact absurd e nF5
          · rw [hD5] at e; cases e
      have nFR : ¬ (D ∈ R ∨ own F7 D) := fun z => by
        rcases ev7.nw D z with e | e
        · exact nF5 e
        · rw [hD5] at e; cases e
      have pr := sr7.freeze er nI7
      -- the list grows
      have up7 : ∀ a x, a ≠ D → H7 a = some x → upd H7 D (.lst (ws ++ [y])) a = some x := fun a x n e => by
        rw [upd_ne n]
        exact e
      have nfz : fz I7 H7 R D = none := by
        rw [fz_out fun z => nFR (.inl z)]
        exact nI7'
      have sub8 : Sub (fz I7 H7 R) (upd H7 D (.lst (ws ++ [y]))) := fun a x e => up7 a x (fun z => by rw [z, nfz] at e; cases e) (fz_sub st7.sub a x e)
      have st8 : StR X.K ar (fz I7 H7 R) (upd H7 D (.lst (ws ++ [y]))) σ4 σ7 F7 := st7.keep sub8 (sub_fz nI7) (fun a m x e => up7 a x (fun z => nFR (.inr (z ▸ m))) e) fun a m => by
        rw [fz_out fun z => nf7 a z m]
        exact st7.ownI m
      have ev8 : Evo I H (own F) (fz I7 H7 R) (upd H7 D (.lst (ws ++ [y]))) (fun a => a ∈ [D] ∨ own F7 a) := by
        have evA := ev6.trans ev7 (p1 := own F5) (fun _ z => .inr z) (o3 := fun a => a ∈ [D] ∨ (a ∈ R ∨ own F7 a)) fun c z => by
          rcases z with z | z
          · exact .inl (.inl z)
          · exact .inr z
        refine ⟨evA.up.trans (sub_fz nI7), fun a x e n => ?_, fun a z => evA.nw a (z.imp id .inr), fun a x e => ?_⟩
        · have hx := evA.fr a x e n
          refine up7 a x (fun z => ?_) hx
          subst z
          rcases ev'.nw a (.inl (by simp)) with z | z
          · exact n z
          · rw [e] at z; cases z
        · unfold fz at e
          split at e
          · rename_i m
            exact .inr (evA.nw a (.inr (.inl m)))
          · exact evA.ni a x e
      refine ⟨ws, hD7, by rw [pw.length]; exact hz, hlt, acc ++ [e], wipeS σ7 vs, fin ev8 ((((sb'.trans u1).trans ev5.up).trans ev7.up).trans (sub_fz nI7)) st8 upd_same ?_ nfz (fun z => nFR (.inr z)), q8⟩
      exact (pw.sub ((u1.trans ev5.up).trans (ev7.up.trans (sub_fz nI7)))).append (.cons pr .nil)
  · have ei : i = ds.length := by omega
    subst ei
    rw [List.drop_length] at q'
    have one : ∀ a ∈ [D], a = D := fun a m => by simpa using m
    exact .inl ⟨W.stop I' H' sb' st'.sub _ (Nat.le_refl _), hQ _ _ ⟨.lst acc, [D], I', F', σs', ev', st'.unwipe, .lst hD' pw, fun a m z => nF' (by rw [← one a m]; exact z), fun a m => by rw [one a m]; exact nI', q'⟩⟩
variable {elt tg iter : Expr} {ifs : List Expr} {scope : Scope} {ow : List (Str × Nat)} {b : Bool} {pos : Pos}
abbrev BlkCx (X : Cx) (s : Shared) (H : Hp) (scope : Scope) (C : Addr) (cl : List (Str × Addr)) (fp : List Addr) : Cx := X.blk s H scope (compEnvC scope cl C X.env) fp
theorem je_lc (hc : X.calm = true) (hN : X.N.Nodup) (hi : JI X ar tg iter ti) (ok : BlkOk X.N X.env.scope scope ow) (hts : ∀ t ∈ ts, t ∈ ow.map (·.2))
    (hg : ∀ (s : Shared) (H : Hp) (C : Addr) (cl : List (Str × Addr)) (fp : List Addr), JG (BlkCx X s H scope C cl fp) ar tg g ts) (ht : ∀ (s : Shared) (H : Hp) (C : Addr) (cl : List (Str × Addr)) (fp : List Addr), JQ (BlkCx X s H scope C cl fp) ar ifs tt)
    (he : ∀ (s : Shared) (H : Hp) (C : Addr) (cl : List (Str × Addr)) (fp : List Addr), JE (BlkCx X s H scope C cl fp) ar b true elt te) (hs : ∀ x, foldedSetIterable iter X.env x = pure x := by intro _; rfl) :
    JE X ar false true (.ListComp elt [⟨tg, iter, ifs, 0⟩] scope pos) (sLc ti g tt te (ow.map (·.2))) :=
  JE.of_pe (pe_lc (g := liG X ar g ts) (tt := liTn X.K ar tt) hc hN hi ok (fun s H C cl fp => hg s H C cl fp) (fun s H C cl fp => ht s H C cl fp) (fun s H C cl fp => (he s H C cl fp).pen) hs) fun σ I H F σs Qk ES Q st tx q hQ => lc_imp hts st tx q hQ
theorem js_setLc {i : Nat} {y : Str} {py : Pos} {spos : Pos} (hc : X.calm = true) (hp : ar i = none) (hN : X.N.Nodup) (hy : X.N[i]? = some y) (hyl : X.env.scope.names.lookup y = some .local)
    (hsw : swapsWith (.ListComp elt [⟨tg, iter, ifs, 0⟩] scope pos) (some (.Name y py)) spos.line X.env = pure true) (hi : JI X ar tg iter ti) (ok : BlkOk X.N X.env.scope scope ow) (hts : ∀ t ∈ ts, t ∈ ow.map (·.2))
    (hg : ∀ (s : Shared) (H : Hp) (C : Addr) (cl : List (Str × Addr)) (fp : List Addr), JG (BlkCx X s H scope C cl fp) ar tg g ts) (ht : ∀ (s : Shared) (H : Hp) (C : Addr) (cl : List (Str × Addr)) (fp : List Addr), JQ (BlkCx X s H scope C cl fp) ar ifs tt)
    (he : ∀ (s : Shared) (H : Hp) (C : Addr) (cl : List (Str × Addr)) (fp : List Addr), JE (BlkCx X s H scope C cl fp) ar b true elt te) (hs : ∀ x, foldedSetIterable iter X.env x = pure x := by intro _; rfl) :
    JS X ar (.Assign [.Name y py] (.ListComp elt [⟨tg, iter, ifs, 0⟩] scope pos) spos) (sSet i (sLc ti g tt te (ow.map (·.2)))) := by
  refine ⟨fun pins s σ H D J ⟨I, F, σs, Ds, ES, st, tx, q, r⟩ => ?_⟩
  have hl : i < σs.length := by rw [st.len, J.len]; exact (List.getElem?_eq_some_iff.mp hy).1
  refine (ps_setLc (g := liG X ar g ts) (tt := liTn X.K ar tt) hc hN hy hyl hsw hi ok (fun s H C cl fp => hg s H C cl fp) (fun s H C cl fp => ht s H C cl fp) (fun s H C cl fp => (he s H C cl fp).pen) hs).run pins s σ H D J (lc_imp hts st tx q fun v H' ⟨r', R, I', F', σs', ev, st', sr, nf, nI, q'⟩ => ?_)
  exact r.nx _ _ ⟨I', put1 F' i R, _, ev.stored, st'.store (by rw [st'.len, ← st.len]; exact hl) sr nf nI (.inr hp), q'⟩
end
end SV
/-! SvM: a def by its body; the law's own head. -/
namespace SV
open PySem PySem.Spec PyProof.Rows L2

/-- the slots at a def's entry -/
def startS (n : Nat) (ss : List S) : SSt := ss.map some ++ List.replicate (n - ss.length) none
theorem startS_length {n : Nat} {ss : List S} (h : ss.length ≤ n) : (startS n ss).length = n := by
  unfold startS
  rw [List.length_append, List.length_map, List.length_replicate]
  omega
/-- what is still known of the arguments: those with own objects -/
def keepA : Option S → Option S
  | some (.val _) => none
  | x => x
def endS (n : Nat) (σs : SSt) : SSt := (σs.take n).map keepA
theorem gets_ix : ∀ {σs : SSt} {j : Nat}, gets σs j = (σs[j]?).bind id
  | [], _ => rfl
  | x :: r, 0 => by cases x <;> rfl
  | x :: r, j + 1 => by
    rw [List.getElem?_cons_succ]
    exact gets_ix (σs := r)
theorem gets_startS {n : Nat} {ss : List S} {j : Nat} : gets (startS n ss) j = ss[j]? := by
  rw [gets_ix]
  unfold startS
  by_cases h : j < ss.length
  · rw [List.getElem?_append_left (by simpa using h), List.getElem?_map]
    cases e : ss[j]? with
    | none => rfl
    | some y => rfl
  · rw [List.getElem?_append_right (by simpa using h), List.getElem?_replicate, List.getElem?_eq_none (by omega)]
    split <;> rfl
theorem gets_endS {n : Nat} {σs : SSt} {j : Nat} : gets (endS n σs) j = if j < n then keepA (gets σs j) else none := by
  rw [gets_ix, gets_ix]
  unfold endS
  rw [List.getElem?_map, List.getElem?_take]
  split
  · cases e : σs[j]? with
    | none => rfl
    | some y => cases y <;> rfl
  · rfl
theorem start_get {N : List Str} {vs : List V} {j : Nat} {v : V} (h : vs[j]? = some v) : (L2.start N vs)[j]? = some (some v) := by
  unfold L2.start
  have hj : j < vs.length := (List.getElem?_eq_some_iff.mp h).1
  rw [List.getElem?_append_left (by simpa using hj), List.getElem?_map, h]
  rfl
section
variable {K : PySem.W.Frag} {I H : Hp} {F : Nat → List Addr} {vs : List V} {ss : List S}
theorem StR.enter {N : List Str} (h : StR K (arV vs) I H (vs.map some) (ss.map some) F) (hl : ss.length ≤ N.length) : StR K (arV vs) I H (L2.start N vs) (startS N.length ss) F := by
  have e : ss.length = vs.length := by
    have := h.len
    simpa using this
  refine ⟨h.sub, fun j r q => ?_, fun j q => h.non j (by rw [gets_map, ← gets_startS (n := N.length)]; exact q), h.dis, h.notI, fun j v r a q => .inr (start_get a), ?_⟩
  · rw [gets_startS, ← gets_map] at q
    obtain ⟨v, e1, s⟩ := h.rep j r q
    refine ⟨v, start_get ?_, s⟩
    rw [List.getElem?_map] at e1
    cases e2 : vs[j]? with
    | none => rw [e2] at e1; cases e1
    | some w =>
      rw [e2] at e1
      cases e1
      rfl
  · rw [startS_length hl]
    unfold L2.start
    rw [List.length_append, List.length_map, List.length_replicate]
    omega
theorem StR.leave {σ : L2.St} {σs : SSt} (h : StR K (arV vs) I H σ σs F) (hl : vs.length ≤ σs.length) : ∃ F', StR K (arV vs) I H (vs.map some) (endS vs.length σs) F' ∧ ∀ a, own F' a → own F a := by
  refine ⟨fun j => if (gets (endS vs.length σs) j).isSome = true then F j else [], ⟨h.sub, fun j r q => ?_, fun j q => ?_, fun i j a m m' => ?_, fun j a m => ?_, fun j v r a q => .inr ?_, ?_⟩, fun a m => ?_⟩
  · try dsimp only
    rw [q, if_pos (show (some r).isSome = true from rfl)]
    rw [gets_endS] at q
    split at q
    · rename_i hj
      cases g : gets σs j with
      | none => rw [g] at q; cases q
      | some y =>
        rw [g] at q
        have nv : (∀ d, y ≠ .val d) ∧ y = r := by
          cases y with
          | val d => cases q
          | _ =>
            cases q
            exact ⟨fun d => by simp, rfl⟩
        obtain ⟨nv, rfl⟩ := nv
        obtain ⟨v, e, s⟩ := h.rep j y g
        have ev := List.getElem?_eq_getElem hj
        rcases h.par j _ y ev g with ⟨d, z⟩ | z
        · exact absurd z (nv d)
        · rw [z] at e
          cases e
          exact ⟨_, by rw [List.getElem?_map, ev]; rfl, s⟩
    · cases q
  · try dsimp only
    rw [q]
    rfl
  · try dsimp only at m m'
    split at m
    · split at m'
      · exact h.dis i j a m m'
      · cases m'
    · cases m
  · try dsimp only at m
    split at m
    · exact h.notI j a m
    · cases m
  · rw [List.getElem?_map, show vs[j]? = some v from a]
    rfl
  · unfold endS
    rw [List.length_map, List.length_take, List.length_map]
    omega
  · obtain ⟨j, m⟩ := m
    try dsimp only at m
    split at m
    · exact ⟨j, m⟩
    · cases m
end

section
variable {P : Program} {w : World} {K : PySem.W.Frag} {mg : Str → Option Value} {base : Heap} {k : Nat} {f : Addr} {fd : FuncData} {N ps : List Str} {sp : Sps}
/-- the context of a def's body -/
abbrev cxG (P : Program) (w : World) (K : PySem.W.Frag) (mg : Str → Option Value) (base : Heap) (N : List Str) (qual : Str) (sc : Scope) (f : Addr) (cdv : Value) (A : Around) (outer : List Env) (s : Shared) (H : Hp) (E : XK) : Cx :=
  cxOf (L2.CX P w) P w K mg base N qual sc f cdv A outer s H E
/-- a def by its body -/
theorem fun_okG {x qual : Str} {st : Stmt} (Fn : Fun K x qual st f fd) (Sc : FnScope N ps (defScope st)) (len : ∀ ss Q E, sp ss Q E → ss.length = ps.length)
    (hbody : ∀ (cdv : Value) (A : Around) (outer : List Env) (s : Shared) (H : Hp) (Ex : XK) (vs : List V) (ss : List SV.S) (Q : QS) (E : XQ), Room k (A.deeper (envOfC qual (defScope st) s.heap.objs.size f cdv)) → (A.deeper (envOfC qual (defScope st) s.heap.objs.size f cdv)).guards = some [] → vs.length = ps.length → sp ss Q E →
      ∃ t, JSs (cxG P w K mg base N qual (defScope st) f cdv A outer s H Ex) (arV vs) (defBody st) t ∧ t (startS N.length ss) { nx := fun σ => Q (.val .none) (endS ps.length σ), rt := fun r σ => Q r (endS ps.length σ) } (fun cls ed _ => E cls ed)) : FnG P w K mg base (k + 1) f fd ps sp := by
  obtain ⟨oc, od, kV, doc, pm, an, cdv, ct, osl, rfl, lk, hcd⟩ := Fn.ex
  refine ⟨len, fun A outer s H I F args us vs ss Q E hr hgd e0 hbt rv st0 hsp => ?_⟩
  have lss := len _ _ _ hsp
  have lvs : vs.length = ps.length := by
    have := st0.len
    simp only [List.length_map] at this
    omega
  have KH : K.In s.heap := e0.mod.kin.keeps fun b o e => (e0.bs b o e).1
  have nl : s.heap.NoLimit := e0.mod.nolimit.keeps fun b o e => (e0.bs b o e).1
  have lN : ps.length ≤ N.length := by
    have := congrArg List.length Sc.pre
    rw [List.length_take] at this
    omega
  have kinds : ∀ y ∈ ps.zip us, (defScope st).names.lookup y.1 = some .local ∨ ((defScope st).names.lookup y.1 = some .cell ∧ ((cellsFrom (s.heap.objs.size + 1) (defScope st).names []).lookup y.1).isSome = true) := by
    rintro ⟨n, v⟩ hy
    exact (Sc.par n (List.of_mem_zip hy).1).imp id fun q => ⟨q, PySem.W.cellsFrom_some _ _ _ (.inl q)⟩
  refine codeAny_call_function hr.depth (KH _ _ lk) rfl Sc.co Sc.gen rfl (PySem.W.codeRec_of KH hcd) (hbt _ _ _ _ (wpAny_newFunctionEnv_cells Sc.kind kinds fun env he s1 x => ?_))
  subst he
  refine ⟨nl.keeps x.toInCall.keep, codeAny_func ?_⟩
  obtain ⟨t, ht, hq⟩ := hbody cdv A outer s H (EQ K I H F E) vs ss Q E (hr.deeper _) hgd lvs hsp
  have J := inv_start (CX := L2.CX P w) (E := EQ K I H F E) Sc hr.hd e0 lvs rv x
  have tx : TX (cxG P w K mg base N qual (defScope st) f cdv A outer s H (EQ K I H F E)) (arV vs) I H (own F) (fun cls ed _ => E cls ed) :=
    ⟨_, takes_of rfl rfl rfl rfl, fun cls d σ' I' H' F' σs' ed ev st' hed q => ⟨I', ed, ev.sameo fun _ z => z.elim, st'.sub, hed, q⟩⟩
  have st1 := st0.enter (N := N) (by omega)
  refine wpAny_mono (ht.run [] s1 (L2.start N vs) H _ J ⟨I, F, startS N.length ss, _, _, st1, tx, hq, Rch.self _⟩) (fun fl s' hs => ?_) fun e s' hs => hs
  have out : ∀ {σ' : L2.St} {H' : Hp} {v : V} {u : Value} {r : S} {R : List Addr} {I' : Hp} {F' : Nat → List Addr} {σ'' : L2.St} {σs' : SSt}, Inv (cxG P w K mg base N qual (defScope st) f cdv A outer s H (EQ K I H F E)) [] σ' H' s' → RelV v u → Evo I H (own F) I' H' (fun a => a ∈ R ∨ own F' a) → StR K (arV vs) I' H' σ'' σs' F' → σs'.length = N.length → SR K I' H' v r R →
      (∀ a ∈ R, ¬ own F' a) → (∀ a ∈ R, I' a = none) → Q r (endS ps.length σs') → CE outer P w H s (RQ K vs I H F Q) u s' := by
    intro σ' H' v u r R I' F' σ'' σs' J' rv' ev stt hlen sr nf nI q
    obtain ⟨F2, st2, k2⟩ := stt.leave (by rw [hlen]; omega)
    exact ⟨v, H', J'.os, J'.bare, J'.base, J'.hok, rv', r, R, I', F2, _, ev.sameo fun a z => z.imp id (k2 a), st2, sr, fun a m z => nf a m (k2 a z), nI, by rw [lvs]; exact q⟩
  cases fl with
  | ret u =>
    obtain ⟨v, σ', H', J', rv', r, R, I', σ'', F', σs', hn, ev, stt, sr, nf, nI, q⟩ := hs
    exact out J' rv' ev stt (by rw [stt.len]; exact hn) sr nf nI q
  | next =>
    obtain ⟨σ', H', J', I', F', σs', ev, stt, q⟩ := hs
    exact out (v := .non) (R := []) J' rfl (ev.sameo fun a z => z.elim (fun m => absurd m (by simp)) id) stt (by rw [stt.len]; exact J'.len) (.val .non) (fun a m => absurd m (by simp)) (fun a m => absurd m (by simp)) q
  | brk =>
    obtain ⟨σ', H', J', I', F', σs', ev, stt, q⟩ := hs
    exact q.elim
  | cont =>
    obtain ⟨σ', H', J', I', F', σs', ev, stt, q⟩ := hs
    exact q.elim
end

/-! ### the law's own head -/
def lawQ : QS := fun r _ => r = .val (.bool true)
def lawE : XQ := fun _ _ => False
section
variable {P : Program} {w : World} {K : PySem.W.Frag} {mg mb : Str → Option Value} {k : Nat} {fa a : Addr} {fd : FuncData} {x : Str} {sp : Sps} {s1 : Shared} {us : List Value} {ns : List Int}
/-- the script's own object, as it lies there -/
abbrev scrObj (us : List Value) : Obj := { cls := .type "list", data := .seq us.toArray }
/-- from a heap in which the script alone may be tracked -/
theorem law_from {H : Hp} (G : ∀ base : Heap, K.In base → base.Ns mainGlobals mg → FnG P w K mg base k fa fd [x] sp) (hx : ∀ (s : Shared) (u : Value), BindsTo s fd ⟨[u], []⟩ [(x, u)]) (hr : Room k callerA)
    (kin : K.In s1.heap) (nsg : s1.heap.Ns mainGlobals mg) (nsb : s1.heap.Ns builtinsNs mb) (bb : ∀ y : Str, y ≠ "__name__" → mb y = bootBuiltins y) (nol : s1.heap.NoLimit) (nog : s1.gens = #[])
    (at_a : s1.heap.get? a = some (scrObj us)) (hq : SqL K H a (ns.map V.int)) (ok : HOk P w H s1.heap) (only : ∀ b y, H b = some y → b = a ∧ ∃ xs, y = .frz (scrObj us) (.lst xs)) (noK : ∀ y, H a = some y → K.lookup a = none)
    (hsp : sp [.scr ns] lawQ lawE) : codeAny (model P w) callerA (.call (.ref fa) ⟨[.ref a], []⟩) (fun r s' => r = .ok (.ret (.bool true)) ∧ OldK s1.heap s'.heap ∧ s'.os = s1.os ∧ AllBare s'.gens) s1 := by
  -- what is no list stays in the hidden heap
  have free : ∀ b o, s1.heap.get? b = some o → o ≠ scrObj us → H b = none := by
    intro b o e ne
    cases e2 : H b with
    | none => rfl
    | some y =>
      obtain ⟨rfl, _⟩ := only b y e2
      rw [at_a] at e
      exact absurd (Option.some.inj e).symm ne
  have ns' : ∀ b (m : Str → Option Value), s1.heap.Ns b m → (hidT s1.heap H).Ns b m := by
    rintro b m ⟨o, es, ep, e, d, rest⟩
    refine ⟨o, es, ep, hidT_get e (free b o e fun z => ?_), d, rest⟩
    rw [z] at d
    cases d
  have kin' : K.In (hidT s1.heap H) := by
    intro b o e
    refine hidT_get (kin b o e) ?_
    cases e2 : H b with
    | none => rfl
    | some y =>
      have := noK y (by rw [← (only b y e2).1]; exact e2)
      rw [← (only b y e2).1, e] at this
      cases this
  have md : Mod K mg (hidT s1.heap H) := ⟨kin', ns' _ _ nsg, ⟨mb, ns' _ _ nsb, bb⟩, by
    obtain ⟨mc, h1, h2⟩ := nol
    exact ⟨mc, ns' _ _ h1, h2⟩⟩
  have env : Env0 P w K mg (hidT s1.heap H) callerA [] s1 H :=
    { frames := rfl, mod := md, bs := fun b o e => of_hidT e, bsz := Nat.le_of_eq (hidT_size _ _), funs := trivial, frf := fun b m => absurd m (by simp [frs]), hok := ok, bare := .of_eq nog }
  have st : StR K (arV [.ref a]) H H [some (.ref a)] [some (.scr ns)] (fun _ => []) :=
    { sub := .refl H
      rep := fun i r e => by
        cases i with
        | zero =>
          cases (show some (S.scr ns) = some r from e)
          exact ⟨.ref a, rfl, .scr hq⟩
        | succ i => cases i <;> cases e
      non := fun _ _ => rfl
      dis := fun i j b m => absurd m (by simp)
      notI := fun i b m => absurd m (by simp)
      par := fun i v r e _ => .inr (by
        cases i with
        | zero =>
          cases (show some (V.ref a) = some v from e)
          rfl
        | succ i => cases i <;> cases e)
      len := rfl }
  refine codeAny_mono ((G _ kin' (ns' _ _ nsg)).run callerA [] s1 H H (fun _ => []) ⟨[.ref a], []⟩ [.ref a] [.ref a] [.scr ns] lawQ lawE hr rfl env (hx s1 (.ref a)) (.cons rfl .nil) st hsp) fun r s' h => ?_
  match r, h with
  | .error e, h =>
    obtain ⟨_, _, _, _, _, _, _, _, _, _, _, _, _, _, _, _, _, z⟩ := (show L2.CX P w [] H s1 (EQ K H H (fun _ => []) lawE) e s' from h)
    exact z.elim
  | .ok .next, h => exact h.elim
  | .ok .brk, h => exact h.elim
  | .ok .cont, h => exact h.elim
  | .ok (.ret u), h =>
    obtain ⟨v, H', os, bare, un, ok', rv, r, R, I', F', ss', _, _, sr, _, _, q⟩ := h
    have q' : r = .val (.bool true) := q
    subst q'
    obtain ⟨_, pr⟩ := sr.val_inv
    cases pr
    cases rv
    refine ⟨rfl, OldK.of_keep fun b o e => ?_, os, bare⟩
    cases e2 : H b with
    | none => exact un.keep b o e e2 (by simp [frs]) (by simp)
    | some y =>
      obtain ⟨rfl, xs, rfl⟩ := only b y e2
      have := (ok' b _ (un.frzs b _ _ e2)).1
      rw [at_a] at e
      rw [← Option.some.inj e]
      exact this
theorem law_goG (G : ∀ base : Heap, K.In base → base.Ns mainGlobals mg → FnG P w K mg base k fa fd [x] sp) (hx : ∀ (s : Shared) (u : Value), BindsTo s fd ⟨[u], []⟩ [(x, u)]) (hr : Room k callerA)
    (kin : K.In s1.heap) (nsg : s1.heap.Ns mainGlobals mg) (nsb : s1.heap.Ns builtinsNs mb) (bb : ∀ y : Str, y ≠ "__name__" → mb y = bootBuiltins y) (nol : s1.heap.NoLimit) (nog : s1.gens = #[])
    (at_a : s1.heap.get? a = some (scrObj us)) (inTs : IntsAre us ns) (few : ns.length ≤ sizeLine) (hsp : sp [.scr ns] lawQ lawE) :
    codeAny (model P w) callerA (.call (.ref fa) ⟨[.ref a], []⟩) (fun r s' => r = .ok (.ret (.bool true)) ∧ OldK s1.heap s'.heap ∧ s'.os = s1.os ∧ AllBare s'.gens) s1 := by
  have rv := vals_ints inTs
  have ln := inTs.length
  cases e : K.lookup a with
  | none =>
    have hH : ∀ b y, (if b = a then some (HO.frz (scrObj us) (.lst (ns.map V.int))) else none) = some y → b = a ∧ y = .frz (scrObj us) (.lst (ns.map V.int)) := fun b y z => by
      split at z
      · rename_i h
        exact ⟨h, (Option.some.inj z).symm⟩
      · cases z
    refine law_from (H := fun b => if b = a then some (.frz (scrObj us) (.lst (ns.map V.int))) else none) G hx hr kin nsg nsb bb nol nog at_a (.inl (.inr ⟨scrObj us, if_pos rfl⟩)) (fun b y z => ?_) (fun b y z => ?_) (fun _ _ => e) hsp
    · obtain ⟨rfl, rfl⟩ := hH b y z
      exact ⟨at_a, by rw [List.length_map]; exact few, us, 0, rv, at_a⟩
    · obtain ⟨h1, h2⟩ := hH b y z
      exact ⟨h1, _, h2⟩
  | some o =>
    have eo := kin a o e
    rw [at_a] at eo
    cases eo
    exact law_from (H := fun _ => none) G hx hr kin nsg nsb bb nol nog at_a (.inr ⟨_, us.toArray, _, e, rfl, rfl, rfl, by rw [List.size_toArray, ln]; exact few, by simpa using rv⟩) (fun b y z => by cases z) (fun b y z => by cases z) (fun y z => by cases z) hsp
end
/-- what k_head leaves, from the law's promise -/
theorem walkG {l : PySem.W.OpenLaw} {n k : Nat} {pq : Program} {loose : List Str} {XP : (Str → Option Value) → Heap → Prop} {YP : World → Heap → Prop} {d : DefRec} {K : Params → PySem.W.Frag} {sp : Sps} {x : Str}
    (hn : l.most = some n) (hn2 : n ≤ sizeLine) (hdf : d.params.defaults = []) (hr : Room k callerA) (hY : ∀ (w : World) (h : Heap), YP w h → (K w.params).In h)
    (F : ∀ (w : World) (mg : Str → Option Value) (fa : Addr) (h : Heap), (K w.params).In h → h.Ns mainGlobals mg → mg d.name = some (.ref fa) →
      ∃ fd : FuncData, (∀ (s : Shared) (u : Value), BindsTo s fd ⟨[u], []⟩ [(x, u)]) ∧ ∀ base : Heap, (K w.params).In base → base.Ns mainGlobals mg → FnG l.prog w (K w.params) mg base k fa fd [x] sp)
    (hsp : ∀ ns : List Int, ns.length ≤ n → sp [.scr ns] lawQ lawE) : PySem.W.WalkO pq loose XP YP l.row.toRowW d [] (fun f vs => PySem.call f vs) := by
  refine Att.attach_call hn hdf fun w s0 s1 mg mb fa o pm cd doc a us ns G Y ho hd hcd hmg at_a inTs few nog => ?_
  have kin := hY w _ Y
  obtain ⟨fd, hx, hF⟩ := F w mg fa _ kin G.T.g hmg
  exact law_goG hF hx hr kin G.T.g G.T.b G.T.builtins G.T.nolimit nog at_a inTs (Nat.le_trans few hn2) (hsp ns few)
end SV
/-! SvN: loops by a word on what is left. -/
namespace SV
open PySem PySem.Spec PyProof.Rows L2

/-- a loop over data that stand for the items of xs -/
theorem for_map {α : Type} (f : α → PyData) {g : TGt} {tb : TSs} {D : Es} {ES : XS} (Iv : List α → SSt → Prop)
    (step : ∀ x xs σs (N : SSt → Prop), (∀ σ', Iv xs σ' → N σ') → Iv (x :: xs) σs → nd (g (f x) σs) fun σ1 => tb σ1 { D with nx := N, ct := N, bk := D.nx } ES) (fin : ∀ σs, Iv [] σs → D.nx σs) :
    ∀ (xs : List α) (σs : SSt), Iv xs σs → forT g tb (xs.map f) σs D ES
  | [], σs, h => fin σs h
  | x :: xs, σs, h => step x xs σs (fun σ' => forT g tb (xs.map f) σ' D ES) (fun σ' h' => for_map f Iv step fin xs σ' h') h
theorem for_data {g : TGt} {tb : TSs} {D : Es} {ES : XS} (Iv : List PyData → SSt → Prop)
    (step : ∀ x xs σs (N : SSt → Prop), (∀ σ', Iv xs σ' → N σ') → Iv (x :: xs) σs → nd (g x σs) fun σ1 => tb σ1 { D with nx := N, ct := N, bk := D.nx } ES) (fin : ∀ σs, Iv [] σs → D.nx σs) :
    ∀ (xs : List PyData) (σs : SSt), Iv xs σs → forT g tb xs σs D ES
  | [], σs, h => fin σs h
  | x :: xs, σs, h => step x xs σs (fun σ' => forT g tb xs σ' D ES) (fun σ' h' => for_data Iv step fin xs σ' h') h
/-- a comprehension -/
theorem lc_map {α : Type} (f : α → PyData) {g : TGt} {tt : TTs} {te : TEs} {vs : List Nat} {K : List PyData → SSt → Prop} (Iv : List α → List PyData → SSt → Prop)
    (step : ∀ x xs acc σs (N : List PyData → SSt → Prop), (∀ a σ', Iv xs a σ' → N a σ') → Iv (x :: xs) acc σs → nd (g (f x) σs) fun σ1 => tt σ1 (fun b σ2 => ifb b (te σ2 (fun r σ3 => nd r.toD fun e => acc.length < sizeLine ∧ N (acc ++ [e]) (wipeS σ3 vs)) noX) (N acc (wipeS σ2 vs))) noX)
    (fin : ∀ acc σs, Iv [] acc σs → K acc σs) : ∀ (xs : List α) (acc : List PyData) (σs : SSt), Iv xs acc σs → lcT g tt te vs (xs.map f) acc σs K
  | [], acc, σs, h => fin acc σs h
  | x :: xs, acc, σs, h => step x xs acc σs (fun a σ' => lcT g tt te vs (xs.map f) a σ' K) (fun a σ' h' => lc_map f Iv step fin xs a σ' h') h
theorem lc_data {g : TGt} {tt : TTs} {te : TEs} {vs : List Nat} {K : List PyData → SSt → Prop} (Iv : List PyData → List PyData → SSt → Prop)
    (step : ∀ x xs acc σs (N : List PyData → SSt → Prop), (∀ a σ', Iv xs a σ' → N a σ') → Iv (x :: xs) acc σs → nd (g x σs) fun σ1 => tt σ1 (fun b σ2 => ifb b (te σ2 (fun r σ3 => nd r.toD fun e => acc.length < sizeLine ∧ N (acc ++ [e]) (wipeS σ3 vs)) noX) (N acc (wipeS σ2 vs))) noX)
    (fin : ∀ acc σs, Iv [] acc σs → K acc σs) : ∀ (xs : List PyData) (acc : List PyData) (σs : SSt), Iv xs acc σs → lcT g tt te vs xs acc σs K
  | [], acc, σs, h => fin acc σs h
  | x :: xs, acc, σs, h => step x xs acc σs (fun a σ' => lcT g tt te vs xs a σ' K) (fun a σ' h' => lc_data Iv step fin xs a σ' h') h
theorem while_by2 {c : TTs} {tb : TSs} {D : Es} {ES : XS} (Iv : Nat → SSt → Prop)
    (step : ∀ n σs (N : SSt → Prop), (∀ m σ', m < n → Iv m σ' → N σ') → Iv n σs → c σs (fun b σ1 => ifb b (tb σ1 { D with nx := N, ct := N, bk := D.nx } ES) (D.nx σ1)) ES) : ∀ (k n : Nat) (σs : SSt), n < k → Iv n σs → whileT c tb k σs D ES
  | 0, n, σs, h, _ => absurd h (Nat.not_lt_zero n)
  | k + 1, n, σs, h, i => step n σs (fun σ' => whileT c tb k σ' D ES) (fun m σ' hm i' => while_by2 Iv step k m σ' (by omega) i') i
/-- how long a line may be -/
theorem size_big : (16000000 : Nat) ≤ sizeLine := by decide
theorem room1 {n : Nat} (h : n ≤ 16000000) : n ≤ sizeLine := Nat.le_trans h size_big
theorem room2 {n : Nat} (h : n < 16000000) : n < sizeLine := Nat.lt_of_lt_of_le h size_big

/-! ### data that stand for ints, strs -/
theorem eqv_int {i j : Int} : PyData.eqv (.int i) (.int j) = decide (i = j) := by
  rw [PyData.eqv]
  exact (Bool.beq_eq_decide_eq i j)
theorem eqv_str {x y : Str} : PyData.eqv (.str x) (.str y) = decide (x = y) := by
  rw [PyData.eqv]
  exact (Bool.beq_eq_decide_eq x y)
theorem dep_int {i : Int} : (PyData.int i).depth ≤ 64 := by
  rw [PyData.depth]
  decide
theorem dep_str {x : Str} : (PyData.str x).depth ≤ 64 := by
  rw [PyData.depth]
  decide
theorem dep_bool {b : Bool} : (PyData.bool b).depth ≤ 64 := by
  rw [PyData.depth]
  decide
theorem dep_none : (PyData.none).depth ≤ 64 := by
  rw [PyData.depth]
  decide
/-- two ints compared -/
theorem ifb_eqi {i j : Int} {A B : Prop} (h1 : i = j → A) (h2 : i ≠ j → B) : ifb (tru (.bool (PyData.eqv (.int i) (.int j)))) A B := by
  show ifb (PyData.eqv (.int i) (.int j)) A B
  rw [eqv_int]
  exact ifb_dec h1 h2
theorem ifb_eqs {i j : Str} {A B : Prop} (h1 : i = j → A) (h2 : i ≠ j → B) : ifb (tru (.bool (PyData.eqv (.str i) (.str j)))) A B := by
  show ifb (PyData.eqv (.str i) (.str j)) A B
  rw [eqv_str]
  exact ifb_dec h1 h2

/-! ### items by a rest -/
theorem atI_mod {α : Type} (l : List α) (h : 0 < l.length) (n : Int) : ∃ c, atI l (n % (l.length : Int)) = some c ∧ c ∈ l := by
  have h1 : 0 ≤ n % (l.length : Int) := Int.emod_nonneg n (by omega)
  have h2 : n % (l.length : Int) < l.length := Int.emod_lt_of_pos n (by omega)
  have e : n % (l.length : Int) = ((n % (l.length : Int)).toNat : Int) := by omega
  have hk : (n % (l.length : Int)).toNat < l.length := by omega
  generalize (n % (l.length : Int)).toNat = j at e hk
  exact ⟨l[j], by rw [e]; exact atI_nat (List.getElem?_eq_getElem hk), List.getElem_mem hk⟩
/-! ### shown data -/
theorem bulk_strs : ∀ ys : List Str, PyData.bulkAll (ys.map .str) = (ys.map (·.length)).sum + ys.length
  | [] => by simp [PyData.bulkAll]
  | y :: ys => by
    have ih := bulk_strs ys
    simp only [List.map_cons, PyData.bulkAll, PyData.bulk, List.sum_cons, List.length_cons, ih, Str.length]
    omega
theorem sm_strs : ∀ ys : List Str, smAll (ys.map .str) = true
  | [] => by simp [smAll]
  | y :: ys => by
    have ih := sm_strs ys
    simp [smAll, smI, ih]
theorem dep_strs : ∀ ys : List Str, PyData.depthAll (ys.map .str) ≤ 1
  | [] => by simp [PyData.depthAll]
  | y :: ys => by
    have ih := dep_strs ys
    simp only [List.map_cons, PyData.depthAll, PyData.depth]
    omega
theorem show_strs {ys : List Str} (h : (ys.map (·.length)).sum + ys.length ≤ 600000) : ReprS (.list (ys.map .str)) :=
  ⟨by rw [smI]; exact sm_strs ys, by rw [PyData.bulk, bulk_strs]; exact h, by
    have := dep_strs ys
    rw [PyData.depth]
    omega⟩
theorem show_none : ReprS .none := ⟨by rw [smI], by rw [PyData.bulk]; decide, by rw [PyData.depth]; decide⟩
theorem show_bool {b : Bool} : ReprS (.bool b) := ⟨by rw [smI], by rw [PyData.bulk]; decide, by rw [PyData.depth]; decide⟩
theorem show_int {i : Int} (h : i.natAbs < 10 ^ 22) : ReprS (.int i) := ⟨by rw [smI, decide_eq_true_eq]; exact h, by rw [PyData.bulk]; decide, by rw [PyData.depth]; decide⟩
theorem boolsOf_mapF {α : Type} (f : α → Bool) (xs : List α) : boolsOf (xs.map fun x => .bool (f x)) = some (xs.map f) := by
  have := boolsOf_map (xs.map f)
  rw [List.map_map] at this
  exact this

/-! ### comprehensions that change nothing -/
theorem sets_sets : ∀ {σ : SSt} {i : Nat} {a b : Option S}, sets (sets σ i a) i b = sets σ i b
  | [], _, _, _ => rfl
  | _ :: _, 0, _, _ => rfl
  | x :: r, n + 1, a, b => by
    show x :: sets (sets r n a) n b = x :: sets r n b
    rw [sets_sets]
theorem lc_pure {α : Type} (f e : α → PyData) {te : TEs} {v : Nat} {σ0 : SSt} {K : List PyData → SSt → Prop} (hv : v < σ0.length) (hn : sets σ0 v none = σ0) (xs : List α) (hx : xs.length ≤ 16000000)
    (step : ∀ x ∈ xs, ∀ Q : KS, Q (.val (e x)) (sets σ0 v (some (.val (f x)))) → te (sets σ0 v (some (.val (f x)))) Q noX) (fin : K (xs.map e) σ0) : lcT (gVar v) tYesS te [v] (xs.map f) [] σ0 K := by
  refine lc_map f (fun rem acc σ => ∃ done, xs = done ++ rem ∧ acc = done.map e ∧ σ = σ0) (fun x r acc σ N hN h => ?_) (fun acc σ h => ?_) xs [] σ0 ⟨[], rfl, rfl, rfl⟩
  · obtain ⟨done, e1, rfl, rfl⟩ := h
    have eg : gVar v (f x) σ = some (sets σ v (some (.val (f x)))) := by
      unfold gVar
      rw [if_pos hv]
    rw [eg]
    refine ifb_t rfl ?_
    show te _ _ noX
    refine step x (by rw [e1]; simp) _ ?_
    have hl := congrArg List.length e1
    rw [List.length_append, List.length_cons] at hl
    refine ⟨room2 (by rw [List.length_map]; omega), hN _ _ ⟨done ++ [x], by rw [e1]; simp, by simp, ?_⟩⟩
    show sets (sets σ v (some (.val (f x)))) v none = σ
    rw [sets_sets, hn]
  · obtain ⟨done, e1, rfl, rfl⟩ := h
    rw [List.append_nil] at e1
    rw [← e1]
    exact fin
theorem forV_map {α : Type} (f : α → PyData) {i : Nat} {ds0 : List PyData} {g : TGt} {tb : TSs} {D : Es} {ES : XS} (Iv : List α → SSt → Prop) (keep : ∀ xs σs, Iv xs σs → gets σs i = some (.lst ds0))
    (step : ∀ x xs σs (N : SSt → Prop), (∀ σ', Iv xs σ' → N σ') → Iv (x :: xs) σs → nd (g (f x) σs) fun σ1 => tb σ1 { D with nx := N, ct := N, bk := D.nx } ES) (fin : ∀ σs, Iv [] σs → D.nx σs) :
    ∀ (xs : List α) (σs : SSt), Iv xs σs → forVT i ds0 g tb (xs.map f) σs D ES
  | [], σs, h => ⟨keep _ _ h, fin σs h⟩
  | x :: xs, σs, h => ⟨keep _ _ h, step x xs σs (fun σ' => forVT i ds0 g tb (xs.map f) σ' D ES) (fun σ' h' => forV_map f Iv keep step fin xs σ' h') h⟩
/-- repr(x) != repr(x) -/
theorem ifb_nes {a : Str} {A B : Prop} (h : B) : ifb (tru (.bool (!PyData.eqv (.str a) (.str a)))) A B := by
  show ifb (!PyData.eqv (.str a) (.str a)) A B
  rw [eqv_str, decide_eq_true rfl]
  exact ifb_f rfl h
theorem ifb_nei {i j : Int} {A B : Prop} (h1 : i ≠ j → A) (h2 : i = j → B) : ifb (tru (.bool (!PyData.eqv (.int i) (.int j)))) A B := by
  show ifb (!PyData.eqv (.int i) (.int j)) A B
  rw [eqv_int, ← decide_not]
  exact ifb_dec h1 fun h => h2 (Decidable.not_not.mp h)
theorem ifb_ne2 {i j : Str} {A B : Prop} (h1 : i ≠ j → A) (h2 : i = j → B) : ifb (tru (.bool (!PyData.eqv (.str i) (.str j)))) A B := by
  show ifb (!PyData.eqv (.str i) (.str j)) A B
  rw [eqv_str, ← decide_not]
  exact ifb_dec h1 fun h => h2 (Decidable.not_not.mp h)
end SV
/-! SvO: more operations on strs: split, times, replace. -/
namespace SV
open PySem PySem.Spec PyProof.Rows L2

/-! ### split -/
theorem spl_mem (S : List Nat) : ∀ (l : List Nat) (k : Nat) (acc : List Nat), ∀ p ∈ TL.spl S k acc l, (∀ c ∈ p, c ∈ acc ∨ c ∈ l) ∧ p.length ≤ acc.length + l.length
  | [], k, acc, p, hp => by
    rw [TL.spl_nil] at hp
    have : p = acc := by simpa using hp
    subst this
    exact ⟨fun c h => .inl h, by simp⟩
  | d :: r, 0, acc, p, hp => by
    by_cases h : TL.pre S (d :: r) = true
    · rw [TL.spl_hit h] at hp
      rcases List.mem_cons.mp hp with rfl | hp
      · exact ⟨fun c h => .inl h, by omega⟩
      · obtain ⟨h1, h2⟩ := spl_mem S r (S.length - 1) [] p hp
        refine ⟨fun c hc => .inr ?_, by simp at h2 ⊢; omega⟩
        rcases h1 c hc with z | z
        · cases z
        · exact List.mem_cons_of_mem _ z
    · rw [TL.spl_miss (by simpa using h)] at hp
      obtain ⟨h1, h2⟩ := spl_mem S r 0 (acc ++ [d]) p hp
      refine ⟨fun c hc => ?_, by simp at h2 ⊢; omega⟩
      rcases h1 c hc with z | z
      · rcases List.mem_append.mp z with z | z
        · exact .inl z
        · exact .inr (by simp at z; simp [z])
      · exact .inr (List.mem_cons_of_mem _ z)
  | d :: r, k + 1, acc, p, hp => by
    obtain ⟨h1, h2⟩ := spl_mem S r k acc p (show p ∈ TL.spl S k acc r from hp)
    exact ⟨fun c hc => (h1 c hc).imp id (List.mem_cons_of_mem _), by simp at h2 ⊢; omega⟩
theorem spl_len (S : List Nat) : ∀ (l : List Nat) (k : Nat) (acc : List Nat), (TL.spl S k acc l).length ≤ l.length + 1
  | [], k, acc => by rw [TL.spl_nil]; simp
  | d :: r, 0, acc => by
    by_cases h : TL.pre S (d :: r) = true
    · rw [TL.spl_hit h]
      have := spl_len S r (S.length - 1) []
      simp
      omega
    · rw [TL.spl_miss (by simpa using h)]
      have := spl_len S r 0 (acc ++ [d])
      simp
      omega
  | d :: r, k + 1, acc => by
    have := spl_len S r k acc
    show (TL.spl S k acc r).length ≤ _
    simp
    omega
theorem spl_sum (S : List Nat) : ∀ (l : List Nat) (k : Nat) (acc : List Nat), ((TL.spl S k acc l).map List.length).sum ≤ acc.length + l.length
  | [], k, acc => by rw [TL.spl_nil]; simp
  | d :: r, 0, acc => by
    by_cases h : TL.pre S (d :: r) = true
    · rw [TL.spl_hit h]
      have := spl_sum S r (S.length - 1) []
      simp at this ⊢
      omega
    · rw [TL.spl_miss (by simpa using h)]
      have := spl_sum S r 0 (acc ++ [d])
      simp at this ⊢
      omega
  | d :: r, k + 1, acc => by
    have := spl_sum S r k acc
    show ((TL.spl S k acc r).map List.length).sum ≤ _
    simp at this ⊢
    omega
/-- the parts together are no longer than the whole -/
theorem split_total {x y : Str} (hy : y.cps.toList ≠ []) (hk : y.cps.all (· < 256) = true) : ((Txt.split x y).map (·.length)).sum ≤ x.length ∧ (Txt.split x y).length ≤ x.length + 1 := by
  have e := TL.split_spl x y hy (TL.kind_ok hk)
  have h1 := spl_sum (TL.tl y) (TL.tl x) 0 []
  have h2 := spl_len (TL.tl y) (TL.tl x) 0 []
  rw [← e] at h1 h2
  have hx : (TL.tl x).length = x.length := (TL.len_tl x).symm
  rw [List.map_map] at h1
  have e2 : (List.length ∘ TL.tl) = fun z : Str => z.length := by
    funext z
    exact (TL.len_tl z).symm
  rw [e2] at h1
  rw [List.length_map] at h2
  have h1' : ((Txt.split x y).map (·.length)).sum ≤ 0 + (TL.tl x).length := h1
  omega
theorem split_facts {x y : Str} (hy : y.cps.toList ≠ []) (hk : y.cps.all (· < 256) = true) : ∀ p ∈ Txt.split x y, (PyData.strOk x = true → PyData.strOk p = true) ∧ p.length ≤ x.length := by
  intro p hp
  have e := TL.split_spl x y hy (TL.kind_ok hk)
  have hm : p.cps.toList ∈ TL.spl y.cps.toList 0 [] x.cps.toList := by
    show TL.tl p ∈ TL.spl (TL.tl y) 0 [] (TL.tl x)
    rw [← e]
    exact List.mem_map_of_mem hp
  obtain ⟨h1, h2⟩ := spl_mem _ _ _ _ _ hm
  refine ⟨fun ok => ?_, ?_⟩
  · rw [strOk_iff] at ok ⊢
    intro c hc
    rcases h1 c hc with z | z
    · cases z
    · exact ok c z
  · simpa [Str.length] using h2
def rSplit : RMs
  | .str x, [.str y], Q => ((y.length == 0) = false ∧ y.cps.all (· < 256) = true ∧ x.length + 2 ≤ sizeLine) ∧ Q (.lst ((Txt.split x y).map .str))
  | _, _, _ => False
theorem PRs.ofStrs {K : PySem.W.Frag} {I : Hp} : ∀ {ys : List Str}, (∀ y ∈ ys, PyData.strOk y = true ∧ y.length ≤ sizeLine) → PRs K I (ys.map V.str) (ys.map .str)
  | [], _ => .nil
  | y :: ys, h => .cons (.str y (h y (by simp)).1 (h y (by simp)).2) (PRs.ofStrs fun z m => h z (List.mem_cons_of_mem _ m))
section
variable {X : Cx}
theorem m_split : MOp X "str.split" rSplit := by
  intro pins s σ H I x xs v us d ds Q J sb rx rv p pv q
  cases p with
  | str a ha za =>
    rcases ds with _ | ⟨d, _ | ⟨d2, dr⟩⟩
    · exact (show False from q).elim
    · obtain ⟨y, e, p2⟩ := pv.one
      subst e
      cases p2 with
      | str b hb zb =>
        obtain ⟨⟨h1, h2, h3⟩, q⟩ := q
        have hne : b.cps.toList ≠ [] := fun z => by
          have : b.length = 0 := by simp [Str.length, ← Array.length_toList, z]
          rw [this] at h1
          cases h1
        refine mt_split pins s σ H _ _ v us _ J rx rv ⟨a, b, rfl, rfl, h1, h3, fun l hl => .newLst sb hl (PRs.ofStrs fun t ht => ?_) q⟩
        have := split_facts hne h2 t ht
        exact ⟨this.1 ha, by omega⟩
      | _ => exact (show False from q).elim
    · cases d <;> exact (show False from q).elim
  | _ => exact (show False from q).elim

/-! ### str * int -/
theorem okL_flat : ∀ (n : Nat) (x : Array Nat) (acc : Array Nat), okL x.toList → okL acc.toList → okL ((List.replicate n x).foldl (· ++ ·) acc).toList
  | 0, x, acc, _, h => h
  | n + 1, x, acc, h, h2 => by
    rw [List.replicate_succ, List.foldl_cons]
    exact okL_flat n x _ h (by rw [Array.toList_append]; exact okL_append h2 h)
theorem len_flat : ∀ (n : Nat) (x : Array Nat) (acc : Array Nat), ((List.replicate n x).foldl (· ++ ·) acc).size = acc.size + n * x.size
  | 0, x, acc => by simp
  | n + 1, x, acc => by
    rw [List.replicate_succ, List.foldl_cons, len_flat n x, Array.size_append, Nat.succ_mul]
    omega
theorem mul_facts {x : Str} {k : Int} (ok : PyData.strOk x = true) (h0 : 0 ≤ k) : PyData.strOk (Txt.mul x k) = true ∧ (Txt.mul x k).length ≤ x.length + k.toNat * x.length := by
  unfold Txt.mul
  split
  · exact ⟨by decide +kernel, Nat.zero_le _⟩
  · split
    · exact ⟨ok, by omega⟩
    · refine ⟨?_, ?_⟩
      · rw [strOk_iff] at ok ⊢
        exact okL_flat _ _ _ ok (fun c m => absurd m (by simp))
      · show ((List.replicate k.toNat x.cps).foldl (· ++ ·) #[]).size ≤ _
        rw [len_flat]
        simp only [Str.length]
        simp
def rMulS : R2s
  | .str x, .int k, Q => (0 ≤ k ∧ k ≤ 1000 ∧ x.length ≤ 1000) ∧ Q (.val (.str (Txt.mul x k)))
  | _, _, _ => False
theorem o_mulS : Op2 X (binaryOp .Mult) rMulS := by
  intro pins s σ H I x y v u d e Q J sb rx ry px py q
  cases px with
  | str a ha za =>
    cases py with
    | int k =>
      obtain ⟨⟨h1, h2, h3⟩, q⟩ := q
      obtain ⟨t, rfl⟩ := rx
      obtain ⟨t', rfl⟩ := ry
      obtain ⟨f1, f2⟩ := mul_facts (k := k) ha h1
      have hk : k.toNat ≤ 1000 := by omega
      have hm : k.toNat * a.length ≤ 1000 * 1000 := Nat.mul_le_mul hk h3
      refine PySem.SB.mul ⟨?_, fun _ _ => ?_, fun _ _ => ?_⟩ fun t'' k' => ⟨.str _, H, J.tok k', ⟨t'', rfl⟩, .val sb (.str _ f1 (room1 (by omega))) q⟩
      · have a1 : ¬ k < -(2 ^ 63 : Int) := by omega
        have a2 : ¬ k ≥ 2 ^ 63 := by omega
        simp only [decide_eq_false a1, decide_eq_false a2]
        rfl
      · rename_i h5 h6
        have h7 : (1000 : Int) ≤ (2 ^ 63 - 1) / k := by
          have : 1000 * k ≤ 2 ^ 63 - 1 := by omega
          exact (Int.le_ediv_iff_mul_le (by omega)).mpr this
        omega
      · have hm2 : a.length * k.toNat ≤ 1000000 := by rw [Nat.mul_comm]; exact hm
        unfold PySem.Builtin.Str.tooLong sizeLine
        exact decide_eq_false (by
          have : (2 : Nat) ^ 24 = 16777216 := by decide
          omega)
    | _ => exact q.elim
  | _ => exact q.elim
end

/-! ### replace: its written arguments want a token that is not the first -/
structure JAT (X : Cx) (ar : Nat → Option V) (b : Bool) (es : List Expr) (t : TPs) : Prop where
  run : ∀ (pos : Pos) (pins : List (Addr × Obj)) (s : Shared) (σ : L2.St) (I H : Hp) (F : Nat → List Addr) (σs : SSt) (Q : List PyData → SSt → Prop) (ES : XS), 1 ≤ s.toks → Inv X pins σ H s → StR X.K ar I H σ σs F → TX X ar I H (own F) ES → t σs Q ES →
    wpAny (model X.prog X.w) X.A (spliced (backTo pos (starEach es X.env))) (APs X ar pins σ b I H F σs Q) X.xe s
structure JET (X : Cx) (ar : Nat → Option V) (b m : Bool) (e : Expr) (t : TEs) : Prop where
  run : ∀ (pins : List (Addr × Obj)) (s : Shared) (σ : L2.St) (I H : Hp) (F : Nat → List Addr) (σs : SSt) (Q : KS) (ES : XS), 1 ≤ s.toks → Inv X pins σ H s → StR X.K ar I H σ σs F → TX X ar I H (own F) ES → t σs Q ES →
    wpAny (model X.prog X.w) X.A (eval e X.env) (RP X ar pins σ b m I H F σs Q) X.xe s
section
variable {X : Cx} {ar : Nat → Option V} {a e : Expr} {es : List Expr} {b1 b2 m1 : Bool} {ta te : TEs} {tp : TPs} {j : Nat} {cp bp pos : Pos}
theorem JA.t (h : JA X ar b1 es tp) : JAT X ar b1 es tp := ⟨fun pos pins s σ I H F σs Q ES _ J st tx q => h.run pos pins s σ I H F σs Q ES J st tx q⟩
theorem jat_next {pins : List (Addr × Obj)} {s1 : Shared} {σ : L2.St} {I H : Hp} {F : Nat → List Addr} {σs : SSt} {Q : List PyData → SSt → Prop} {ES : XS} {v : Value} {pos : Pos} (hr : JAT X ar b2 es tp) (h0 : 1 ≤ s1.toks) (tx : TX X ar I H (own F) ES)
    (h : RP X ar pins σ b1 true I H F σs (fun r σ1 => nd r.toD fun d => tp σ1 (fun ds σ2 => Q (d :: ds) σ2) ES) v s1) :
    wpAny (model X.prog X.w) X.A (spliced (backTo pos (starEach es X.env))) (fun us s2 => APs X ar pins σ (b1 && b2) I H F σs Q (v :: us) s2) X.xe s1 := by
  obtain ⟨x, rx, R1, I1, H1, F1, σ1, h1, r1, q1⟩ := h
  obtain ⟨d, ex, q1⟩ := nd_some q1
  obtain ⟨hb, p⟩ := h1.freeze ex
  refine thn (hr.run pos pins s1 σ _ H1 F1 σ1 _ ES h0 hb.inv hb.st (tx.go hb.evo fun _ z => z) q1) fun us s2 ⟨vs, ds, I2, H2, F2, σ2, h2, rv, pv, q2⟩ => ?_
  exact ⟨x :: vs, d :: ds, I2, H2, F2, σ2, hb.then h2, .cons r1 rv, .cons (p.sub h2.evo.up) pv, q2⟩
theorem jat_cons (ha : JE X ar b1 true e te) (hr : JAT X ar b2 es tp) (hs : starEach (e :: es) X.env = (false, eval e X.env) :: starEach es X.env := by rfl) : JAT X ar (b1 && b2) (e :: es) (pCons te tp) := by
  refine ⟨fun pos pins s σ I H F σs Q ES h0 J st tx q => ?_⟩
  rw [hs]
  show wpAny _ _ (spliced ((false, eval e X.env) :: backTo pos (starEach es X.env))) _ _ s
  exact Calls.spliced_cons (wpAny_mono (PySem.wpAny_toks_of h0 (ha.run pins s σ I H F σs _ ES J st tx q)) (fun v s1 ⟨h1, z⟩ => jat_next hr h1 tx z) fun _ _ z => z.2)
theorem jat_spec (ha : JET X ar b1 true e te) (hr : JAT X ar b2 es tp) (hs : starEach (e :: es) X.env = (false, eval e X.env) :: starEach es X.env := by rfl) : JAT X ar (b1 && b2) (e :: es) (pCons te tp) := by
  refine ⟨fun pos pins s σ I H F σs Q ES h0 J st tx q => ?_⟩
  rw [hs]
  show wpAny _ _ (spliced ((false, eval e X.env) :: backTo pos (starEach es X.env))) _ _ s
  exact Calls.spliced_cons (wpAny_mono (PySem.wpAny_toks_of h0 (ha.run pins s σ I H F σs _ ES h0 J st tx q)) (fun v s1 ⟨h1, z⟩ => jat_next hr h1 tx z) fun _ _ z => z.2)
/-- behind a + 'text' a token is out -/
theorem ja_addK {y : Str} (ha : JE X ar b1 m1 a ta) (hr : JAT X ar b2 es tp) (o1 : PyData.strOk y = true := by decide +kernel) (o2 : y.length ≤ sizeLine := by decide +kernel)
    (hs : starEach (.BinOp a .Add (.Constant (.str y) j cp) bp :: es) X.env = (false, eval (.BinOp a .Add (.Constant (.str y) j cp) bp) X.env) :: starEach es X.env := by rfl) :
    JA X ar (b1 && b2) (.BinOp a .Add (.Constant (.str y) j cp) bp :: es) (pCons (s2 rAdd ta (sC (.str y))) tp) := by
  refine ⟨fun pos pins s σ I H F σs Q ES J st tx q => ?_⟩
  rw [hs]
  show wpAny _ _ (spliced ((false, eval (.BinOp a .Add (.Constant (.str y) j cp) bp) X.env) :: backTo pos (starEach es X.env))) _ _ s
  refine Calls.spliced_cons (wpAny_BinOp (thn (ha.run pins s σ I H F σs _ ES J st tx q) fun v s1 ⟨x, rx, R1, I1, H1, F1, σ1, h1, r1, q1⟩ => ?_))
  obtain ⟨dx, ex, q1⟩ := nd_some q1
  refine Calls.Constant_str ?_
  have ho := o_add (X := X) pins { s1 with toks := s1.toks + 1 } σ H1 I1 x (.str y) v (.str y s1.toks) dx (.str y) _ (h1.inv.tok _) h1.st.sub r1 ⟨_, rfl⟩ (h1.sr.ar h1.st.sub ex) (.str y o1 o2) q1
  exact wpAny_mono (PySem.wpAny_toks_of (n := 1) (by show 1 ≤ s1.toks + 1; omega) ho) (fun v s1 ⟨h2, z⟩ => jat_next hr h2 tx (RP.of_vp h1.base z)) fun _ _ z => z.2
def sRepl (y z : Str) (to : TEs) : TEs := fun σs Q ES => to σs (fun r σ1 => match r with
  | .val (.str x) => x.length + (x.length + 1) * z.length ≤ 16777216 ∧ Q (.val (.str (Txt.replace x y z))) σ1
  | _ => False) ES
theorem je_repl {y z : Str} {i k : Nat} {p q' apos : Pos} (ho : JE X ar b1 m1 a ta) (c : Nat) (hy : y = ⟨#[c]⟩) (hc : c < 256) (hz : PyData.strOk z = true) (hne : (y == z) = false)
    (hst : starEach [.Constant (.str y) i p, .Constant (.str z) k q'] X.env = [(false, eval (.Constant (.str y) i p) X.env), (false, eval (.Constant (.str z) k q') X.env)] := by rfl)
    (hbase : attributeBase a "replace" X.env (eval a X.env) = eval a X.env := by rfl) (hline : (apos.endLine == pos.line) = true := by rfl) :
    JET X ar b1 true (.Call (.Attribute a "replace" apos) [.Constant (.str y) i p, .Constant (.str z) k q'] [] pos) (sRepl y z ta) := by
  refine ⟨fun pins s σ I H F σs Q ES h0 J st tx q => ?_⟩
  refine PySem.Call_method2 hbase hst hline (wpAny_mono (PySem.wpAny_toks_of h0 (ho.run pins s σ I H F σs _ ES J st tx q)) (fun v s1 ⟨h1, x, rx, R1, I1, H1, F1, σ1, d, r1, q1⟩ => ?_) fun _ _ z => z.2)
  cases rx with
  | val dx =>
    obtain ⟨eR, pr⟩ := d.sr.val_inv
    cases pr with
    | str w hw zw =>
      obtain ⟨q2, q4⟩ := q1
      have q3 : PyData.strOk (Txt.replace w y z) = true := by
        rw [hy, StrLaws.replace_one, ← hy]
        refine strOk_join hz _ fun t ht => (split_facts (by rw [hy]; simp) ?_ t ht).1 hw
        rw [hy]
        simp [hc]
      obtain ⟨t, rfl⟩ := r1
      refine ⟨"str", _, PySem.F.plainAttrs_str, PySem.F.slot_str_replace, PySem.F.type_str_replace, typeIs_str _ _ _, (fun _ e => nomatch e), Calls.callWith_builtin rfl (Calls.evalArgs_plain (Calls.spliced_cons (Calls.Constant_str (Calls.spliced_cons (Calls.Constant_str (Calls.spliced_nil ?_))))))⟩
      refine PySem.SC.replace (by show s1.toks ≠ 0; omega) (by show s1.toks + 1 ≠ 0; omega) (by show s1.toks ≠ s1.toks + 1; omega) hne q2 fun t' kk => ?_
      refine RP.of_vp d.base ⟨.str _, H1, d.inv.tok kk, ⟨t', rfl⟩, .val d.st.sub (.str _ q3 ?_) q4⟩
      have := TK.replace_len w y z
      exact Nat.le_trans this (Nat.le_trans q2 (by decide))
    | _ => exact (show False from q1).elim
  | _ => exact (show False from q1).elim
end
end SV
/-! SvP: raise, try, isinstance of a caught exception. -/
namespace SV
open PySem PySem.Spec PyProof.Rows L2

/-- an own exception class without an own __init__, below ValueError -/
structure ExK (K : PySem.W.Frag) (mg : Str → Option Value) (x : Str) (C : Addr) : Prop where
  g : mg x = some (.ref C)
  q : PySem.W.excIn K C [.type "ValueError", .type "Exception", .type "BaseException", .type "object"] "ValueError.__new__" = true
  k : PySem.W.keepIn K (.ref C) = true
  s : PySem.W.subIn K (.ref C) (.type "BaseException") = some true
  t : PySem.W.typeIn K (.ref C) = some (.type "type")
section
variable {X : Cx} {ar : Nat → Option V} {x m : Str} {C : Addr} {j : Nat} {p p2 pos rpos : Pos}
theorem js_raise (hc : X.calm = true) (c : ExK X.K X.mg x C) (hg : Gl X x) (hdb : (x == ("__debug__" : Str)) = false := by decide) :
    JS X ar (.Raise (some (.Call (.Name x p) [.Constant (.str m) j p2] [] pos)) none rpos) (fun σs D ES => ES (.ref C) none σs) := by
  refine ⟨fun pins s σ H D J ⟨I, F, σs, Ds, ES, st, tx, q, r⟩ => ?_⟩
  obtain ⟨W, tk, f⟩ := tx
  exact (ps_raise hc tk (pmk_own PySem.F.excBase_ValueError c.q c.g c.k (raises_own c.s c.t) hg hdb)).run pins s σ H D J (f (.ref C) none σ I H F σs none (.refl _ _ _) st trivial q)
end

/-! ### try -/
def liSn (X : Cx) (ar : Nat → Option V) (t : TSs) : TS := fun D σ H => ∃ I F σs Ds, StR X.K ar I H σ σs F ∧ t σs Ds noX ∧ Rch X ar I H F Ds D
theorem JSs.sn {X : Cx} {ar : Nat → Option V} {st : List Stmt} {t : TSs} (h : JSs X ar st t) : PSs X st (liSn X ar t) := PSs.mono h fun D σ H ⟨I, F, σs, Ds, a, b, c⟩ => ⟨I, F, σs, Ds, noX, a, .none, b, c⟩
def liSw (X : Cx) (ar : Nat → Option V) (t : TSs) (W : WX) : TS := fun D σ H => ∃ I F σs Ds ES, StR X.K ar I H σ σs F ∧
  (∀ cls d σ' I' H' F' σs' ed, Evo I H (own F) I' H' (own F') → StR X.K ar I' H' σ' σs' F' → ED X.K I' H' d ed → ES cls ed σs' → W cls d σ' H') ∧ t σs Ds ES ∧ Rch X ar I H F Ds D
/-- try: .. except x: .. -/
def sTry (K : PySem.W.Frag) (c : Value) (t ts : TSs) : TSs := fun σs D ES => t σs D (fun cls ed σ1 => need (PySem.W.exmOne K cls c) fun b => ifb b (ts σ1 D noX) (ES cls ed σ1))
/-- try: .. except x as n: .. -/
def sTryAs (K : PySem.W.Frag) (c : Value) (Pc : Addr → Prop) (i : Nat) (t : TSs) (ts : Addr → Addr → TSs) : TSs := fun σs D ES => t σs D (fun cls ed σ1 => need (PySem.W.exmOne K cls c) fun b =>
  ifb b (∃ C, cls = .ref C ∧ ed = none ∧ Pc C ∧ ∀ a, ts C a (sets σ1 i (some (.adr a))) { D with nx := fun σ => D.nx (sets σ i none), bk := fun σ => D.bk (sets σ i none), ct := fun σ => D.ct (sets σ i none) } noX) (ES cls ed σ1))
section
variable {X : Cx} {ar : Nat → Option V} {x n : Str} {c : Value} {i : Nat} {body suite : List Stmt} {b0 : Stmt} {np pos pos' : Pos} {t ts : TSs}
theorem SR.adr_inv {K : PySem.W.Frag} {I H : Hp} {v : V} {a : Addr} {R : List Addr} (h : SR K I H v (.adr a) R) : v = .ref a := by
  generalize e0 : S.adr a = r0 at h
  cases h with
  | adr => cases e0; rfl
  | _ => cases e0
theorem sets_out : ∀ {σs : SSt} {i : Nat} {y : Option S}, σs.length ≤ i → sets σs i y = σs
  | [], _, _, _ => rfl
  | _ :: _, 0, _, h => absurd h (by simp)
  | x :: r, i + 1, y, h => by
    show x :: sets r i y = x :: r
    rw [sets_out (by simpa using h)]
theorem StR.storeA {K : PySem.W.Frag} {I H : Hp} {σ : L2.St} {σs : SSt} {F : Nat → List Addr} (h : StR K ar I H σ σs F) {i : Nat} (a : Addr) (hp : ar i = none) : ∃ F', StR K ar I H (σ.set i (some (.ref a))) (sets σs i (some (.adr a))) F' ∧ ∀ b, own F' b → own F b := by
  by_cases hl : i < σs.length
  · refine ⟨_, h.store hl (.adr a) (fun b m => absurd m (by simp)) (fun b m => absurd m (by simp)) (.inr hp), fun b m => ?_⟩
    rcases own_put1 m with m | m
    · cases m
    · exact m
  · rw [sets_out (by omega), List.set_eq_of_length_le (by rw [← h.len]; omega)]
    exact ⟨F, h, fun _ z => z⟩
theorem ED.nn {K : PySem.W.Frag} {I H : Hp} {d : Option Addr} (h : ED K I H d none) : d = none := by
  cases d with
  | none => rfl
  | some a => exact h.elim
theorem js_try (hs : X.stack = X.env :: X.outer) (hf : X.env.frame = some X.env.locals) (hc : Names X x c)
    (hb : ∀ (pn : List (Addr × Obj)) (xe : Value → Shared → Prop), PassesOwn (model X.prog X.w) X.A X.env xe → JSs (X.tr pn xe) ar body t)
    (hsu : ∀ (a : Addr) (oe : Obj) (pn : List (Addr × Obj)), JSs (X.suite a ((a, oe) :: pn)) ar (b0 :: suite) ts) :
    JS X ar (.Try body [.ExceptHandler (some (.Name x np)) none (b0 :: suite) pos'] [] [] pos) (sTry X.K c t ts) := by
  refine ⟨fun pins s σ H D J ⟨I, F, σs, Ds, ES, st, tx, q, r⟩ => ?_⟩
  obtain ⟨Wout, tk, f⟩ := tx
  refine (ps_try_only (tb := liSw X ar t) (ts := fun _ _ _ => liSn X ar ts) hs hf hc tk (fun W pn xe tkW hp => PSs.mono (hb pn xe hp) fun D σ H ⟨I, F, σs, Ds, ES, a, b, c, d⟩ => ⟨I, F, σs, Ds, ES, a, ⟨W, tkW, b⟩, c, ⟨d.nx, d.bk, d.ct, d.rt⟩⟩)
    (fun a oe cls d pn _ _ => PSs.mono (hsu a oe pn).sn fun D σ H ⟨I, F, σs, Ds, a, b, c⟩ => ⟨I, F, σs, Ds, a, b, ⟨c.nx, c.bk, c.ct, c.rt⟩⟩)).run pins s σ H D J
    ⟨I, F, σs, Ds, _, st, fun cls d σ' I' H' F' σs' ed ev st' hed q' => ?_, q, r⟩
  obtain ⟨b, eb, q'⟩ := need_some q'
  refine ⟨b, eb, fun e a na => ?_, fun e => ?_⟩
  · subst e
    exact ⟨I', F', σs', Ds, st', ifb.tt q', r.go ev⟩
  · subst e
    exact f cls d σ' I' H' F' σs' ed ev st' hed (ifb.ff q')
theorem js_tryAs {Pc : Addr → Prop} {ts : Addr → Addr → TSs} (hs : X.stack = X.env :: X.outer) (hf : X.env.frame = some X.env.locals) (hN : X.N.Nodup) (hi : X.N[i]? = some n) (hln : X.env.kindOf n = some .local) (hp : ar i = none) (hc : Names X x c)
    (hb : ∀ (pn : List (Addr × Obj)) (xe : Value → Shared → Prop), PassesOwn (model X.prog X.w) X.A X.env xe → JSs (X.tr pn xe) ar body t)
    (hsu : ∀ (C a : Addr) (oe : Obj) (pn : List (Addr × Obj)), Pc C → Zc (.ref C) none oe → (∃ vs, oe.data = .fields vs) → JSs (X.suite a ((a, oe) :: pn)) ar (b0 :: suite) (ts C a)) :
    JS X ar (.Try body [.ExceptHandler (some (.Name x np)) (some n) (b0 :: suite) pos'] [] [] pos) (sTryAs X.K c Pc i t ts) := by
  refine ⟨fun pins s σ H D J ⟨I, F, σs, Ds, ES, st, tx, q, r⟩ => ?_⟩
  obtain ⟨Wout, tk, f⟩ := tx
  refine (ps_try_as (i := i) (tb := liSw X ar t) (ts := fun a cls d D σ H => ∃ C, cls = .ref C ∧ d = none ∧ Pc C ∧ liSn X ar (ts C a) D σ H) hs hf hN hi hln hc tk (fun W pn xe tkW hp => PSs.mono (hb pn xe hp) fun D σ H ⟨I, F, σs, Ds, ES, a, b, c, d⟩ => ⟨I, F, σs, Ds, ES, a, ⟨W, tkW, b⟩, c, ⟨d.nx, d.bk, d.ct, d.rt⟩⟩)
    (fun a oe cls d pn hz hfl => ⟨fun pins s σ H D J ⟨C, e1, e2, hP, I, F, σs, Ds, q1, q2, q3⟩ => ?_⟩)).run pins s σ H D J
    ⟨I, F, σs, Ds, _, st, fun cls d σ' I' H' F' σs' ed ev st' hed q' => ?_, q, r⟩
  · subst e1 e2
    exact (hsu C a oe pn hP hz hfl).sn.run pins s σ H D J ⟨I, F, σs, Ds, q1, q2, ⟨q3.nx, q3.bk, q3.ct, q3.rt⟩⟩
  obtain ⟨b, eb, q'⟩ := need_some q'
  refine ⟨b, eb, fun e a na => ?_, fun e => ?_⟩
  · subst e
    obtain ⟨C, e1, e2, hP, q2⟩ := (show ∃ C, cls = .ref C ∧ ed = none ∧ Pc C ∧ ∀ a, ts C a (sets σs' i (some (.adr a))) { Ds with nx := fun σ => Ds.nx (sets σ i none), bk := fun σ => Ds.bk (sets σ i none), ct := fun σ => Ds.ct (sets σ i none) } noX from ifb.tt q')
    subst e1 e2
    obtain ⟨F3, st2, k3⟩ := st'.storeA (i := i) a hp
    have ev2 : Evo I H (own F) I' H' (own F3) := ev.sameo k3
    refine ⟨C, rfl, hed.nn, hP, I', F3, _, { Ds with nx := fun σ => Ds.nx (sets σ i none), bk := fun σ => Ds.bk (sets σ i none), ct := fun σ => Ds.ct (sets σ i none) }, st2, q2 a, ⟨fun σ'' H'' ⟨I2, F2, σ2, e, s2, q2⟩ => ?_, fun σ'' H'' ⟨I2, F2, σ2, e, s2, q2⟩ => ?_, fun σ'' H'' ⟨I2, F2, σ2, e, s2, q2⟩ => ?_, fun v H'' z => r.rt _ _ (z.go ev2)⟩⟩
    · exact r.nx _ _ ⟨I2, drop1 F2 i, _, (ev2.trans e (fun _ z => z) (fun _ z => .inr z)).sameo fun b m => own_of_drop1 m, s2.forget2 i, q2⟩
    · exact r.bk _ _ ⟨I2, drop1 F2 i, _, (ev2.trans e (fun _ z => z) (fun _ z => .inr z)).sameo fun b m => own_of_drop1 m, s2.forget2 i, q2⟩
    · exact r.ct _ _ ⟨I2, drop1 F2 i, _, (ev2.trans e (fun _ z => z) (fun _ z => .inr z)).sameo fun b m => own_of_drop1 m, s2.forget2 i, q2⟩
  · subst e
    exact f cls d σ' I' H' F' σs' ed ev st' hed (ifb.ff q')
/-- isinstance(e, c), e the exception of the suite -/
theorem je_isE {a C E : Addr} {oe : Obj} {pn : List (Addr × Obj)} {y : Str} {p p1 p2 cp : Pos} (i : Nat) (hC : ExcC X.K C) (hz : Zc (.ref C) none oe) (hfl : ∃ vs, oe.data = .fields vs) (hg : Gl X "isinstance") (hm : X.mg "isinstance" = none) (gy : Gl X y) (my : X.mg y = some (.ref E))
    (hN : X.N[i]? = some x := by rfl) (hv : Vis X.env.scope x := by first | exact Or.inl rfl | exact Or.inr (Or.inl rfl) | exact Or.inr (Or.inr rfl)) (hd : (x == ("__debug__" : Str)) = false := by decide) (hcd : (x == ("__classdict__" : Str)) = false := by decide) (hyd : (y == ("__debug__" : Str)) = false := by decide)
    (hs1 : starEach [.Name x p1, .Name y p2] X.env = (false, eval (.Name x p1) X.env) :: starEach [.Name y p2] X.env := by rfl) (hs2 : starEach [.Name y p2] X.env = [(false, eval (.Name y p2) X.env)] := by rfl) (hpl : (backTo cp (starEach [.Name y p2] X.env)).any (·.1) = false := by rfl) :
    JE (X.suite a ((a, oe) :: pn)) ar false true (.Call (.Name "isinstance" p) [.Name x p1, .Name y p2] [] cp) (fun σs Q ES => gets σs i = some (.adr a) ∧ need (PySem.W.kitOne X.K (.ref C) (.ref E)) fun b => Q (.val (.bool b)) σs) := by
  refine JE.of_pe (pe_callB (call_isE hC hz hfl) hg hm boot_isinstance (pa_cons (pe_var (i := i) hN hv hd hcd) (pa_cons (pe_glob (v := .ref E) gy my rfl hyd) pa_nil hs2) hs1) (by decide) (by decide) hs1 hpl) fun σ I H F σs Qk ES Q st tx ⟨g, q⟩ hQ => ?_
  obtain ⟨b, eb, q⟩ := need_some q
  obtain ⟨v, e1, sr⟩ := st.rep i _ g
  have ev : v = .ref a := sr.adr_inv
  subst ev
  refine ⟨.ref a, e1, .ref E, .ref E, b, rfl, (fun u hu => hu), eb, hQ _ _ ⟨.val (.bool b), [], I, F, σs, ⟨.refl I, fun _ _ h _ => h, fun c z => ?_, fun _ _ h => .inl h⟩, st, .val (.bl b), fun c m => absurd m (by simp), fun c m => absurd m (by simp), q⟩⟩
  rcases z with z | z
  · cases z
  · exact .inl z
end
end SV
/-! SvQ: is True; tuple * int of any size; dicts of the module. -/
namespace SV
open PySem PySem.Spec PyProof.Rows L2

/-! ### is, is not: None or a bool on the right -/
def rIsB : R2s
  | .bool a, .bool b, Q => Q (.val (.bool (a == b)))
  | _, _, _ => False
def rIsNotB : R2s
  | .bool a, .bool b, Q => Q (.val (.bool (a != b)))
  | _, _, _ => False
section
variable {X : Cx}
theorem o_isB : Op2 X (compareOp .Is) rIsB := by
  intro pins s σ H I x y v u d e Q J sb rx ry px py q
  cases px with
  | bl a =>
    cases py with
    | bl b =>
      cases rx
      cases ry
      exact PyProof.Rows.is_bool ⟨.bl _, H, J, rfl, .val sb (.bl _) q⟩
    | _ => exact q.elim
  | _ => exact q.elim
theorem o_isNotB : Op2 X (compareOp .IsNot) rIsNotB := by
  intro pins s σ H I x y v u d e Q J sb rx ry px py q
  cases px with
  | bl a =>
    cases py with
    | bl b =>
      cases rx
      cases ry
      exact PyProof.Rows.isnot_bool ⟨.bl _, H, J, rfl, .val sb (.bl _) q⟩
    | _ => exact q.elim
  | _ => exact q.elim
end
/-! ### tuple * 1, tuple * 0 -/
theorem tuple_mul1 (l : Addr) (items : Array Value) (n : Nat) (dd : Option Addr) (sl : Array (Option Value)) (x : Int) (u : Tok) (c0 : (decide (x < -(2 ^ 63)) || decide (x ≥ 2 ^ 63)) = false) (c1 : (items.isEmpty || x == 1) = true) :
    Meets (Builtin.«tuple.__mul__» ⟨[.ref l, .int x u], []⟩) (fun _ R s => s.heap.get? l = some { cls := .type "tuple", dict := dd, data := .seq items n, slots := sl } ∧ R (.ok (.ret (Value.ref l))) s) :=
  .of_wp fun prog w A R s h => by
    obtain ⟨hp, g, d, tk, os⟩ := s
    obtain ⟨hl, h⟩ := h
    have f1 := AutoSeq1.idx_int
    wp_walk using wpAny_loadPart' hl
    repeat (first
      | (refine wpAny_ite_false (decide_eq_false (by rw [c0]; exact Bool.false_ne_true)) ?_; wp_walk using wpAny_loadPart' hl)
      | (refine wpAny_ite_true (decide_eq_true c1) ?_; wp_walk using wpAny_loadPart' hl))
    exact ⟨_, rfl, h⟩
theorem tuple_mul0 (l : Addr) (items : Array Value) (n : Nat) (dd : Option Addr) (sl : Array (Option Value)) (x : Int) (u : Tok) (c0 : (decide (x < -(2 ^ 63)) || decide (x ≥ 2 ^ 63)) = false) (c1 : (items.isEmpty || x == 1) = false) (c2 : (decide (x ≤ 0) || items.isEmpty) = true) :
    Meets (Builtin.«tuple.__mul__» ⟨[.ref l, .int x u], []⟩) (fun _ R s => s.heap.get? l = some { cls := .type "tuple", dict := dd, data := .seq items n, slots := sl } ∧
      R (.ok (.ret (Value.ref s.heap.objs.size))) { s with heap := s.heap.push { cls := Value.type "tuple", data := Data.seq #[] }, toks := s.toks }) :=
  .of_wp fun prog w A R s h => by
    obtain ⟨hp, g, d, tk, os⟩ := s
    obtain ⟨hl, h⟩ := h
    have f1 := AutoSeq1.idx_int
    wp_walk using wpAny_loadPart' hl
    repeat (first
      | (refine wpAny_ite_false (decide_eq_false (by rw [c0]; exact Bool.false_ne_true)) ?_; wp_walk using wpAny_loadPart' hl)
      | (refine wpAny_ite_false (decide_eq_false (by rw [c1]; exact Bool.false_ne_true)) ?_; wp_walk using wpAny_loadPart' hl)
      | (refine wpAny_ite_true (decide_eq_true c2) ?_; wp_walk using wpAny_loadPart' hl))
    exact ⟨_, rfl, h⟩
def rMulT : R2s
  | .tuple xs, .int k, Q => (0 ≤ k ∧ k ≤ 1000 ∧ xs.length ≤ 1000) ∧ Q (.val (.tuple (List.replicate k.toNat xs).flatten))
  | _, _, _ => False
section
variable {X : Cx}
theorem o_mulT : Op2 X (binaryOp .Mult) rMulT := by
  intro pins s σ H I x y v u d e Q J sb rx ry px py q
  cases px with
  | @tup a0 vs0 xs h p =>
    cases py with
    | int k =>
      obtain ⟨⟨h1, h2, h3⟩, q⟩ := q
      have hT : SqT X.K H a0 vs0 := SqT.sub sb h
      by_cases hb : xs = [] ∨ k < 2
      · -- the same tuple, or the empty one
        cases rx
        obtain ⟨t, rfl⟩ := ry
        obtain ⟨its, r, ⟨⟨cls, dd, data, sl⟩, ho, hc, n, hd⟩, hs⟩ := J.tuple hT
        simp only at hc hd
        subst hc hd
        have le1 : its.length = xs.length := by rw [← r.length, p.length]
        have c0 : (decide (k < -(2 ^ 63)) || decide (k ≥ 2 ^ 63)) = false := by
          rw [decide_eq_false (show ¬ k < -(2 ^ 63) by omega), decide_eq_false (show ¬ k ≥ 2 ^ 63 by omega)]
          rfl
        have ty : s.TypeIs (.ref a0) "tuple" := ⟨_, ho, rfl⟩
        by_cases hb2 : (its.toArray.isEmpty || k == 1) = true
        · have ef : (List.replicate k.toNat xs).flatten = xs := by
            rcases Bool.or_eq_true _ _ ▸ hb2 with z | z
            · have : its = [] := by simpa using z
              rw [this] at le1
              have e0 : xs = [] := List.eq_nil_of_length_eq_zero le1.symm
              rw [e0]
              simp
            · have e1 : k = 1 := by simpa using z
              rw [e1]
              simp
          rw [ef] at q
          refine wpAny_binaryOp_repeat_ref (T := "tuple") (U := "int") (by decide) ty (fun s' => typeIs_int s' k t) noFill_tuple_mul PySem.F.fills_int_mul PySem.F.slot_int_rmul
            repeat_tuple PySem.F.slot_int_index.lookup ?_
          refine call_meets PySem.F.slot_int_rmul (typeIs_int s k t) PySem.F.entry_int_rmul (PySem.F.args_int_rmul_2 _ _) (int_rmul_tuple k t a0 its.toArray n dd sl) ⟨ho, rfl, ty, ?_⟩
          refine call_meets PySem.F.slot_tuple_mul ty PySem.F.entry_tuple_mul (PySem.F.args_tuple_mul_2 _ _) (tuple_mul1 a0 its.toArray n dd sl k t c0 hb2) ⟨ho, ?_⟩
          exact ⟨.ref a0, H, J, rfl, .val sb (.tup h p) q⟩
        · have hb3 : (its.toArray.isEmpty || k == 1) = false := by simpa using hb2
          have hne : its.toArray.isEmpty = false := by
            cases z : its.toArray.isEmpty with
            | false => rfl
            | true => rw [z] at hb3; cases hb3
          have hk1 : (k == 1) = false := by
            rw [hne] at hb3
            simpa using hb3
          have hxs : xs ≠ [] := fun z => by
            rw [z] at le1
            have : its = [] := List.eq_nil_of_length_eq_zero le1
            rw [this] at hne
            cases hne
          have hk0 : k = 0 := by
            have : k ≠ 1 := by simpa using hk1
            rcases hb with z | z
            · exact absurd z hxs
            · omega
          subst hk0
          have c2 : (decide ((0 : Int) ≤ 0) || its.toArray.isEmpty) = true := rfl
          refine wpAny_binaryOp_repeat_ref (T := "tuple") (U := "int") (by decide) ty (fun s' => typeIs_int s' 0 t) noFill_tuple_mul PySem.F.fills_int_mul PySem.F.slot_int_rmul
            repeat_tuple PySem.F.slot_int_index.lookup ?_
          refine call_meets PySem.F.slot_int_rmul (typeIs_int s 0 t) PySem.F.entry_int_rmul (PySem.F.args_int_rmul_2 _ _) (int_rmul_tuple 0 t a0 its.toArray n dd sl) ⟨ho, rfl, ty, ?_⟩
          refine call_meets PySem.F.slot_tuple_mul ty PySem.F.entry_tuple_mul (PySem.F.args_tuple_mul_2 _ _) (tuple_mul0 a0 its.toArray n dd sl 0 t c0 hb3 c2) ⟨ho, ?_⟩
          have hf : H s.heap.objs.size = none := J.hok.fresh (Nat.le_refl _)
          refine ⟨.ref s.heap.objs.size, upd H s.heap.objs.size (.tup []), J.laid (t' := s.toks) (fun b ob z => Heap.get?_push_of_some _ z) (Nat.le_refl _) ?_, rfl, .newTup sb hf .nil q⟩
          exact ⟨Nat.zero_le _, [], .nil, ⟨_, Heap.get?_push_size _ rfl, rfl, _, rfl⟩⟩
      · have hx : xs ≠ [] := fun z => hb (.inl z)
        have hk : 2 ≤ k := by omega
        exact op_repT pins s σ H _ _ v u _ J rx ry ⟨_, k, _, rfl, rfl, hT, p.ne_nil hx, hk, h2, by rw [p.length]; exact h3, fun a ha => .newTup sb ha (p.rep _) q⟩
    | _ => exact q.elim
  | _ => exact q.elim
end
end SV
/-! SvR: dicts of the module with str keys; list(range()), tuple(range()). -/
namespace SV
open PySem PySem.Spec PyProof.Rows L2

/-- a dict of the module: texts to ints -/
def tabI (T : List (Str × Int)) : List (PyData × PyData) := T.map fun p => (.str p.1, .int p.2)
def lookI (T : List (Str × Int)) (x : Str) : PyData := match T.lookup x with
  | some i => .int i
  | none => .none
def sDget (T : List (Str × Int)) (te : TEs) : TEs := fun σs Q ES => te σs (fun r σ1 => match r with
  | .val (.str y) => Q (.val (lookI T y)) σ1
  | _ => False) ES
theorem sameS (a b : Str) : PySem.Spec.same (.str a) (.str b) = (a == b) := by
  first
  | rfl
  | (unfold PySem.Spec.same; rfl)
  | simp [PySem.Spec.same]
theorem look_tab (x : Str) : ∀ T : List (Str × Int), PySem.Spec.lookup (.str x) (tabI T) = (T.lookup x).map PyData.int
  | [] => by
    show PySem.Spec.lookup (.str x) [] = none
    unfold PySem.Spec.lookup
    rfl
  | (k, v) :: T => by
    have ih := look_tab x T
    show PySem.Spec.lookup (.str x) ((.str k, .int v) :: tabI T) = _
    rw [List.lookup_cons]
    by_cases hk : x = k
    · subst hk
      have e1 : PySem.Spec.lookup (.str x) ((.str x, .int v) :: tabI T) = some (.int v) := by
        unfold PySem.Spec.lookup
        rw [sameS, if_pos (by simp)]
      rw [e1]
      simp
    · have e1 : PySem.Spec.lookup (.str x) ((.str k, .int v) :: tabI T) = PySem.Spec.lookup (.str x) (tabI T) := by
        conv => lhs; unfold PySem.Spec.lookup
        rw [sameS, if_neg (by simp; first | exact hk | exact fun e => hk e.symm)]
      have hb : (x == k) = false := by simpa using hk
      rw [e1, ih, hb]
section
variable {X : Cx} {ar : Nat → Option V} {e : Expr} {te : TEs} {b : Bool} {x : Str} {p apos cpos : Pos} {d : Addr} {T : List (Str × Int)}
theorem je_dget (hg : Gl X x) (hm : X.mg x = some (.ref d)) (tab : ∀ h : Heap, X.K.In h → StrTab X.prog X.w h d (tabI T)) (he : JE X ar b true e te) (hd : (x == ("__debug__" : Str)) = false := by decide)
    (hbase : attributeBase (.Name x p) "get" X.env (eval (.Name x p) X.env) = eval (.Name x p) X.env := by rfl)
    (hfew : ((backTo cpos (starEach [e] X.env)).all (fun x => !x.1) && (backToKw cpos (keywordEach [] X.env)).all (fun x => x.1.isSome)
      && decide ([e].length + ([] : List Keyword).length + (if ([] : List Keyword).isEmpty then 0 else 1) < 30)) = true := by rfl)
    (hline : (apos.endLine == cpos.line) = true := by rfl) (hs : starEach [e] X.env = (false, eval e X.env) :: starEach [] X.env := by rfl) : JE X ar b true (.Call (.Attribute (.Name x p) "get" apos) [e] [] cpos) (sDget T te) := by
  refine ⟨fun pins s σ I H F σs Q ES J st tx q => ?_⟩
  refine wpAny_Call_method_late hbase hfew hline rfl (ld_glob J hg hm ?_ hd)
  have tb := tab s.heap J.kIn
  obtain ⟨_, kvs, dd, _⟩ := id tb
  refine ⟨"dict", "dict.get", PySem.F.plainAttrs_dict, PySem.F.slot_dict_get, PySem.F.type_dict_get, dd.typeIs, ?_, ?_⟩
  · intro a ea
    obtain ⟨o, _, _, ho, hc, _⟩ := dd
    cases ea
    exact ⟨o, ho, hc.2.1⟩
  · rw [hs]
    refine Calls.callWith_builtin rfl (Calls.evalArgs_plain (Calls.spliced_cons (thn (he.run pins s σ I H F σs _ ES J st tx q) fun u s1 ⟨v, r, R, I1, H1, F1, σ1, d1, rv, q1⟩ => Calls.spliced_nil ?_)))
    cases r with
    | val y =>
      obtain ⟨eR, pr⟩ := d1.sr.val_inv
      cases pr with
      | str z hz zz =>
        obtain ⟨t, rfl⟩ := rv
        have tb1 := tab s1.heap d1.inv.kIn
        have q2 : Q (.val (lookI T z)) σ1 := q1
        unfold lookI at q2
        cases el : T.lookup z with
        | none =>
          rw [el] at q2
          exact PySem.W.kt_get1_noneS tb1 (by rw [look_tab, el]; rfl) (RP.of_vp d1.base ⟨.non, H1, d1.inv.tok _, rfl, .val d1.st.sub .non q2⟩)
        | some i =>
          rw [el] at q2
          refine PySem.W.kt_get1_thereS tb1 (by rw [look_tab, el]; rfl) fun w hw => ?_
          obtain ⟨t', rfl⟩ := hw.int_inv
          exact RP.of_vp d1.base ⟨.int i, H1, d1.inv.tok _, ⟨_, rfl⟩, .val d1.st.sub (.int i) q2⟩
      | _ => exact (show False from q1).elim
    | _ => exact (show False from q1).elim
end
end SV
/-! SvS: list comprehensions with two clauses. -/
namespace SV
open PySem PySem.Spec PyProof.Rows L2
def liIn (K : PySem.W.Frag) (ar : Nat → Option V) (ti : TIs) : TI := fun σ H R => ∃ I F σs Qk, StR K ar I H σ σs F ∧ ti σs Qk noX ∧
  ∀ I' H' F' σs' ds J, Evo I H (own F) I' H' (own F') → StR K ar I' H' σ σs' F' → Walk K I' J ds → Qk ds σs' → R J H'
theorem JI.pin {X : Cx} {ar : Nat → Option V} {tg iter : Expr} {ti : TIs} (h : JI X ar tg iter ti) : PI X tg iter (liIn X.K ar ti) := PI.mono h fun σ H R ⟨I, F, σs, Qk, st, q, f⟩ => ⟨I, F, σs, Qk, noX, st, .none, q, f⟩
abbrev BL := SSt → List PyData → (List PyData → SSt → Prop) → Prop
def lcTG (g : TGt) (B : BL) (vs : List Nat) : List PyData → List PyData → SSt → (List PyData → SSt → Prop) → Prop
  | [], acc, σs, K => K acc σs
  | d :: ds, acc, σs, K => nd (g d σs) fun σ1 => B σ1 acc fun acc' σ2 => lcTG g B vs ds acc' (wipeS σ2 vs) K
def bLc (tt : TTs) (te : TEs) : BL := fun σ1 acc K => tt σ1 (fun b σ2 => ifb b (te σ2 (fun r σ3 => nd r.toD fun e => acc.length < sizeLine ∧ K (acc ++ [e]) σ3) noX) (K acc σ2)) noX
def bLc2 (tt : TTs) (ti1 : TIs) (g1 : TGt) (tt1 : TTs) (te : TEs) (vs1 : List Nat) : BL := fun σ1 acc K => tt σ1 (fun b σ2 => ifb b (ti1 σ2 (fun ds1 σ3 => lcTG g1 (bLc tt1 te) vs1 ds1 acc (wipeS σ3 vs1) K) noX) (K acc σ2)) noX
def sLc2 (ti : TIs) (g : TGt) (tt : TTs) (ti1 : TIs) (g1 : TGt) (tt1 : TTs) (te : TEs) (vs vs1 : List Nat) : TEs := fun σs Q ES => ti σs (fun ds σ1 => lcTG g (bLc2 tt ti1 g1 tt1 te vs1) vs ds [] (wipeS σ1 vs) (fun acc σ2 => Q (.lst acc) σ2)) ES
section
variable {X : Cx} {ar : Nat → Option V} {I0 H0 : Hp} {o0 : Addr → Prop} {Iw : Hp} {D : Addr}
theorem InL.wipe {σ : L2.St} {acc : List PyData} {σs : SSt} {H : Hp} (h : InL X.K ar I0 H0 o0 Iw D σ acc σs H) (vs : List Nat) : InL X.K ar I0 H0 o0 Iw D (L2.wipe σ vs) acc (wipeS σs vs) H := by
  obtain ⟨I5, F5, ws5, e, s, st, h, p, n1, n2⟩ := h
  obtain ⟨F6, st6, k6⟩ := st.wipe vs
  exact ⟨I5, F6, ws5, ⟨e.up, e.fr, fun a z => e.nw a (z.imp id (k6 a)), e.ni⟩, s, st6, h, p, n1, fun z => n2 (k6 _ z)⟩
theorem InL.unwipe {σ : L2.St} {acc : List PyData} {σs : SSt} {H : Hp} {vs : List Nat} (h : InL X.K ar I0 H0 o0 Iw D (L2.wipe σ vs) acc σs H) : InL X.K ar I0 H0 o0 Iw D σ acc σs H := by
  obtain ⟨I5, F5, ws5, e, s, st, h, p, n1, n2⟩ := h
  exact ⟨I5, F5, ws5, e, s, st.unwipe, h, p, n1, n2⟩
/-- the parts of InL, with the freeze named -/
def InP (X : Cx) (ar : Nat → Option V) (I0 H0 : Hp) (o0 : Addr → Prop) (Iw : Hp) (D : Addr) (σw : L2.St) (acc : List PyData) (σs : SSt) (I H : Hp) (F : Nat → List Addr) (ws : List V) : Prop :=
  Evo I0 H0 o0 I H (fun a => a ∈ [D] ∨ own F a) ∧ Sub Iw I ∧ StR X.K ar I H σw σs F ∧ H D = some (.lst ws) ∧ PRs X.K I ws acc ∧ I D = none ∧ ¬ own F D
/-- a step within the block that leaves the new list alone -/
theorem InL.step {σ' : L2.St} {acc : List PyData} {σs' : SSt} {I H I' H' : Hp} {F F' : Nat → List Addr} {ws : List V} (ev : Evo I0 H0 o0 I H (fun a => a ∈ [D] ∨ own F a)) (sb : Sub Iw I) (hD : H D = some (.lst ws)) (pw : PRs X.K I ws acc) (nI : I D = none) (nF : ¬ own F D)
    (ev5 : Evo I H (own F) I' H' (own F')) (st5 : StR X.K ar I' H' σ' σs' F') : InP X ar I0 H0 o0 Iw D σ' acc σs' I' H' F' ws := by
  refine ⟨ev.trans ev5 (fun _ z => .inr z) fun c z => z.imp .inl id, sb.trans ev5.up, st5, ev5.fr _ _ hD nF, pw.sub ev5.up, ?_, fun z => ?_⟩
  · cases e : I' D with
    | none => rfl
    | some y =>
      rcases ev5.ni D y e with e | e | e
      · rw [nI] at e; cases e
      · exact absurd e nF
      · rw [hD] at e; cases e
  · rcases ev5.nw D z with e | e
    · exact nF e
    · rw [hD] at e; cases e
theorem loop_imp {g : TGt} {ts : List Nat} {B : BL} {vs : List Nat} {σ : L2.St} {I1 : Hp} {J : It} {ds : List PyData} {acc0 : List PyData} {σ0 : SSt} {H1 : Hp} {K : List PyData → SSt → Prop} {Bh : L2.St → Hp → (Hp → Prop) → Prop} {End : Hp → Prop}
    (hts : ∀ t ∈ ts, t ∈ vs) (W : Walk X.K I1 J ds) (h0 : InL X.K ar I0 H0 o0 I1 D (L2.wipe σ vs) acc0 σ0 H1) (q : lcTG g B vs ds acc0 σ0 K)
    (hb : ∀ σ2 H2 acc σs2 Kq Nx, InL X.K ar I0 H0 o0 I1 D σ2 acc σs2 H2 → B σs2 acc Kq → (∀ acc' σs' H', InL X.K ar I0 H0 o0 I1 D σ2 acc' σs' H' → Kq acc' σs' → Nx H') → Bh σ2 H2 Nx)
    (he : ∀ acc σs H, InL X.K ar I0 H0 o0 I1 D (L2.wipe σ vs) acc σs H → K acc σs → End H) :
    ∃ Wn : Nat → Nat → Hp → Prop, (∃ m, Wn 0 m H1) ∧ ∀ i m H, Wn i m H → (J.stop i H ∧ End H) ∨ (J.go i H ∧ ∃ Nx : Hp → Prop, (∀ H', Nx H' → ∃ m', m' < m ∧ Wn (i + 1) m' H') ∧ ∀ x H', J.yld i H x H' → liG X ar g ts x (L2.wipe σ vs) H' fun σ2 H2 => L2.wipe σ2 vs = L2.wipe σ vs ∧ Bh σ2 H2 Nx) := by
  refine ⟨fun i n H' => n = ds.length - i ∧ i ≤ ds.length ∧ ∃ acc σs', InL X.K ar I0 H0 o0 I1 D (L2.wipe σ vs) acc σs' H' ∧ lcTG g B vs (ds.drop i) acc σs' K, ⟨ds.length, by simp, Nat.zero_le _, acc0, σ0, h0, by simpa using q⟩, ?_⟩
  rintro i n H' ⟨rfl, hi, acc, σs', ⟨I', F', ws, ev', sb', st', hD', pw, nI', nF'⟩, q'⟩
  by_cases hlt : i < ds.length
  · have eg : ds[i]? = some ds[i] := List.getElem?_eq_getElem hlt
    rw [List.drop_eq_getElem_cons hlt] at q'
    obtain ⟨σ2, e2, q2⟩ := nd_some q'
    obtain ⟨go, yl⟩ := W.go I' H' sb' st'.sub i _ eg
    refine .inr ⟨go, fun H'' => i + 1 ≤ ds.length ∧ ∃ acc σs', InL X.K ar I0 H0 o0 I1 D (L2.wipe σ vs) acc σs' H'' ∧ lcTG g B vs (ds.drop (i + 1)) acc σs' K, fun H'' z => ⟨ds.length - (i + 1), by omega, rfl, z.1, z.2⟩, fun x H3 y3 => ?_⟩
    obtain ⟨I3, u1, u2, u3, u4, px⟩ := yl x H3 y3
    have nI3 : I3 D = none := by
      cases e : I3 D with
      | none => rfl
      | some y =>
        rcases u4 D y e with e | e
        · rw [nI'] at e; cases e
        · rw [hD'] at e; cases e
    have ev3 : Evo I0 H0 o0 I3 H3 (fun a => a ∈ [D] ∨ own F' a) := ⟨ev'.up.trans u1, fun a x e n => u3 a x (ev'.fr a x e n), fun a z => ev'.nw a z, fun a y e => by
      rcases u4 a y e with e | e
      · exact ev'.ni a y e
      · exact .inr (ev'.back e)⟩
    have st3 : StR X.K ar I3 H3 (L2.wipe σ vs) σs' F' := st'.keep u2 u1 (fun a _ x e => u3 a x e) fun a m => by
      cases e : I3 a with
      | none => rfl
      | some y =>
        rcases u4 a y e with e | e
        · rw [st'.ownI m] at e
          cases e
        · obtain ⟨z, e2⟩ := st'.there m
          rw [e] at e2
          cases e2
    have hD3 := u3 _ _ hD'
    refine ⟨I3, F', σs', _, σ2, st3, px, e2, fun σ4 F4 l4 k4 o4 st4 => ?_⟩
    have ew : L2.wipe σ4 vs = L2.wipe σ vs := by
      rw [wipe_eq l4 fun j hj => k4 j fun z => hj (hts j z), wipe_wipe]
    refine ⟨ew, ?_⟩
    have ev4 : Evo I0 H0 o0 I3 H3 (fun a => a ∈ [D] ∨ own F4 a) := ev3.sameo fun a z => z.imp id (o4 a)
    have nF4 : ¬ own F4 D := fun z => nF' (o4 _ z)
    refine hb σ4 H3 acc σ2 _ _ ⟨I3, F4, ws, ev4, sb'.trans u1, st4, hD3, pw.sub u1, nI3, nF4⟩ q2 fun acc' σs'' H'' ii kq => ⟨hlt, acc', wipeS σs'' vs, ?_, kq⟩
    have := ii.wipe vs
    rw [ew] at this
    exact this
  · have ei : i = ds.length := by omega
    subst ei
    rw [List.drop_length] at q'
    exact .inl ⟨W.stop I' H' sb' st'.sub _ (Nat.le_refl _), he _ _ _ ⟨I', F', ws, ev', sb', st', hD', pw, nI', nF'⟩ q'⟩
/-- the element's turn -/
theorem InL.elt {σ2 : L2.St} {H2 : Hp} {acc : List PyData} {σs2 : SSt} {Kq : List PyData → SSt → Prop} {Nx : Hp → Prop} {I1 : Hp} {tt : TTs} {te : TEs}
    (i : InL X.K ar I0 H0 o0 I1 D σ2 acc σs2 H2) (q : bLc tt te σs2 acc Kq) (hn : ∀ acc' σs' H', InL X.K ar I0 H0 o0 I1 D σ2 acc' σs' H' → Kq acc' σs' → Nx H') :
    liTn X.K ar tt σ2 H2 fun b H6 => if b = true then liEn X.K ar te σ2 H6 fun y H7 => ∃ acc, H7 D = some (.lst acc) ∧ acc.length < sizeLine ∧ Nx (upd H7 D (.lst (acc ++ [y]))) else Nx H6 := by
  obtain ⟨I3, F4, ws, ev4, sb', st4, hD3, pw, nI3, nF4⟩ := i
  refine ⟨I3, F4, σs2, _, st4, q, fun b I5 H5 F5 σ5 ev5 st5 q5 => ?_⟩
  obtain ⟨ev6, sb6, st6, hD5, pw5, nI5, nF5⟩ := InL.step (X := X) ev4 sb' hD3 pw nI3 nF4 ev5 st5
  cases b with
  | false =>
    rw [if_neg (by decide)]
    exact hn _ _ _ ⟨I5, F5, ws, ev6, sb6, st6, hD5, pw5, nI5, nF5⟩ (ifb.ff q5)
  | true =>
    rw [if_pos rfl]
    refine ⟨I5, F5, σ5, _, st6, ifb.tt q5, fun y H7 ⟨r, R, I7, F7, σ7, ev7, st7, sr7, nf7, nI7, q7⟩ => ?_⟩
    obtain ⟨e, er, hz, q8⟩ := nd_some q7
    have hD7 : H7 D = some (.lst ws) := ev7.fr _ _ hD5 nF5
    have nI7' : I7 D = none := by
      cases e : I7 D with
      | none => rfl
      | some y =>
        rcases ev7.ni D y e with e | e | e
        · rw [nI5] at e; cases e
        · exact absurd e nF5
        · rw [hD5] at e; cases e
    have nFR : ¬ (D ∈ R ∨ own F7 D) := fun z => by
      rcases ev7.nw D z with e | e
      · exact nF5 e
      · rw [hD5] at e; cases e
    have pr := sr7.freeze er nI7
    have up7 : ∀ a x, a ≠ D → H7 a = some x → upd H7 D (.lst (ws ++ [y])) a = some x := fun a x n e => by
      rw [upd_ne n]
      exact e
    have nfz : fz I7 H7 R D = none := by
      rw [fz_out fun z => nFR (.inl z)]
      exact nI7'
    have sub8 : Sub (fz I7 H7 R) (upd H7 D (.lst (ws ++ [y]))) := fun a x e => up7 a x (fun z => by rw [z, nfz] at e; cases e) (fz_sub st7.sub a x e)
    have st8 : StR X.K ar (fz I7 H7 R) (upd H7 D (.lst (ws ++ [y]))) σ2 σ7 F7 := st7.keep sub8 (sub_fz nI7) (fun a m x e => up7 a x (fun z => nFR (.inr (z ▸ m))) e) fun a m => by
      rw [fz_out fun z => nf7 a z m]
      exact st7.ownI m
    have ev8 : Evo I0 H0 o0 (fz I7 H7 R) (upd H7 D (.lst (ws ++ [y]))) (fun a => a ∈ [D] ∨ own F7 a) := by
      have evA := ev6.trans ev7 (p1 := own F5) (fun _ z => .inr z) (o3 := fun a => a ∈ [D] ∨ (a ∈ R ∨ own F7 a)) fun c z => by
        rcases z with z | z
        · exact .inl (.inl z)
        · exact .inr z
      refine ⟨evA.up.trans (sub_fz nI7), fun a x e n => ?_, fun a z => evA.nw a (z.imp id .inr), fun a x e => ?_⟩
      · have hx := evA.fr a x e n
        refine up7 a x (fun z => ?_) hx
        subst z
        rcases ev6.nw a (.inl (by simp)) with z | z
        · exact n z
        · rw [e] at z; cases z
      · unfold fz at e
        split at e
        · rename_i m
          exact .inr (evA.nw a (.inr (.inl m)))
        · exact evA.ni a x e
    refine ⟨ws, hD7, by rw [pw5.length]; exact hz, hn _ _ _ ⟨fz I7 H7 R, F7, _, ev8, (sb6.trans ev7.up).trans (sub_fz nI7), st8, upd_same, ?_, nfz, fun z => nFR (.inr z)⟩ q8⟩
    exact (pw5.sub (ev7.up.trans (sub_fz nI7))).append (.cons pr .nil)
theorem lc2_imp {ti ti1 : TIs} {g g1 : TGt} {ts ts1 : List Nat} {tt tt1 : TTs} {te : TEs} {vs vs1 : List Nat} {σ : L2.St} {I H : Hp} {F : Nat → List Addr} {σs : SSt} {Qk : KS} {ES : XS} {Q : VK} (hts : ∀ t ∈ ts, t ∈ vs) (hts1 : ∀ t ∈ ts1, t ∈ vs1) (st : StR X.K ar I H σ σs F) (tx : TX X ar I H (own F) ES) (q : sLc2 ti g tt ti1 g1 tt1 te vs vs1 σs Qk ES)
    (hQ : ∀ v H', OutE X.K ar I H F σ Qk v H' → Q v H') : tLc2 (liI X ar ti) (liG X ar g ts) (liTn X.K ar tt) (liIn X.K ar ti1) (liG X ar g1 ts1) (liTn X.K ar tt1) (liEn X.K ar te) vs vs1 σ H Q := by
  refine ⟨I, F, σs, _, ES, st, tx, q, fun I1 H1 F1 σ1 ds J ev st1 W q1 D hD => ?_⟩
  obtain ⟨F2, st2, k2⟩ := st1.wipe vs
  have hID : I1 D = none := by
    cases e : I1 D with
    | none => rfl
    | some x => rw [st1.sub _ _ e] at hD; cases hD
  have hFD : ¬ own F2 D := fun z => by
    obtain ⟨x, e⟩ := st2.there z
    rw [hD] at e
    cases e
  have up : ∀ a x, H1 a = some x → upd H1 D (.lst []) a = some x := fun a x e => by
    rw [upd_ne fun z => by subst z; rw [hD] at e; cases e]
    exact e
  have i0 : InL X.K ar I H (own F) I1 D (L2.wipe σ vs) [] (wipeS σ1 vs) (upd H1 D (.lst [])) := by
    refine ⟨I1, F2, [], ⟨ev.up, fun a x e n => up a x (ev.fr a x e n), fun a z => ?_, ev.ni⟩, .refl _, ?_, upd_same, .nil, hID, hFD⟩
    · rcases z with z | z
      · have : a = D := by simpa using z
        subst this
        exact ev.back hD
      · exact ev.nw a (k2 a z)
    · exact st2.keep (fun a x e => up a x (st2.sub a x e)) (.refl _) (fun a _ x e => up a x e) fun a m => st2.ownI m
  have one : ∀ a ∈ [D], a = D := fun a m => by simpa using m
  refine loop_imp hts W i0 q1 (fun σ2 H2 acc σs2 Kq Nx ii bq hn => ?_) fun acc σs' H' ⟨I', F', ws, ev', sb', st', hD', pw, nI', nF'⟩ q' =>
    hQ _ _ ⟨.lst acc, [D], I', F', σs', ev', st'.unwipe, .lst hD' pw, fun a m z => nF' (by rw [← one a m]; exact z), fun a m => by rw [one a m]; exact nI', q'⟩
  obtain ⟨I3, F4, ws, ev4, sb', st4, hD3, pw, nI3, nF4⟩ := ii
  refine ⟨I3, F4, σs2, _, st4, bq, fun b I5 H5 F5 σ5 ev5 st5 q5 => ?_⟩
  obtain ⟨ev6, sb6, st6, hD5, pw5, nI5, nF5⟩ := InL.step (X := X) ev4 sb' hD3 pw nI3 nF4 ev5 st5
  cases b with
  | false =>
    rw [if_neg (by decide)]
    exact hn _ _ _ ⟨I5, F5, ws, ev6, sb6, st6, hD5, pw5, nI5, nF5⟩ (ifb.ff q5)
  | true =>
    rw [if_pos rfl]
    refine ⟨I5, F5, σ5, _, st6, ifb.tt q5, fun I7 H7 F7 σ7 ds1 J1 ev7 st7 W1 q7 => ?_⟩
    · obtain ⟨ev8, sb8, st8, hD8, pw8, nI8, nF8⟩ := InL.step (X := X) ev6 sb6 hD5 pw5 nI5 nF5 ev7 st7
      have s18 : Sub I1 I7 := sb6.trans ev7.up
      have i7 : InL X.K ar I H (own F) I7 D (L2.wipe σ2 vs1) acc (wipeS σ7 vs1) H7 := InL.wipe ⟨I7, F7, ws, ev8, .refl _, st8, hD8, pw8, nI8, nF8⟩ vs1
      have wk : ∀ {σ acc σs H'}, InL X.K ar I H (own F) I7 D σ acc σs H' → InL X.K ar I H (own F) I1 D σ acc σs H' := fun {_ _ _ _} ⟨Ia, Fa, wa, ea, sa, ta, ha, pa, na, ma⟩ => ⟨Ia, Fa, wa, ea, s18.trans sa, ta, ha, pa, na, ma⟩
      exact loop_imp hts1 W1 i7 q7 (fun σ3 H3 acc3 σs3 Kq3 Nx3 i3 b3 n3 => i3.elt b3 n3) fun acc' σs' H' i' q' => hn _ _ _ (wk i').unwipe q'
end
section
variable {X : Cx} {ar : Nat → Option V} {ti ti1 : TIs} {g g1 : TGt} {ts ts1 : List Nat} {tt tt1 : TTs} {te : TEs} {vs1 : List Nat}
variable {elt tg iter tg1 iter1 : Expr} {ifs ifs1 : List Expr} {scope : Scope} {ow : List (Str × Nat)} {b : Bool} {pos : Pos}
theorem je_lc2 (hc : X.calm = true) (hN : X.N.Nodup) (hi : JI X ar tg iter ti) (ok : BlkOk X.N X.env.scope scope ow) (hts : ∀ t ∈ ts, t ∈ ow.map (·.2)) (hv : ∀ i ∈ vs1, i ∈ ow.map (·.2)) (hts1 : ∀ t ∈ ts1, t ∈ vs1)
    (hg : ∀ (s : Shared) (H : Hp) (C : Addr) (cl : List (Str × Addr)) (fp : List Addr), JG (BlkCx X s H scope C cl fp) ar tg g ts) (ht : ∀ (s : Shared) (H : Hp) (C : Addr) (cl : List (Str × Addr)) (fp : List Addr), JQ (BlkCx X s H scope C cl fp) ar ifs tt)
    (hi1 : ∀ (s : Shared) (H : Hp) (C : Addr) (cl : List (Str × Addr)) (fp : List Addr), JI (BlkCx X s H scope C cl fp) ar tg1 iter1 ti1)
    (hg1 : ∀ (s : Shared) (H : Hp) (C : Addr) (cl : List (Str × Addr)) (fp : List Addr), JG (BlkCx X s H scope C cl fp) ar tg1 g1 ts1) (ht1 : ∀ (s : Shared) (H : Hp) (C : Addr) (cl : List (Str × Addr)) (fp : List Addr), JQ (BlkCx X s H scope C cl fp) ar ifs1 tt1)
    (he : ∀ (s : Shared) (H : Hp) (C : Addr) (cl : List (Str × Addr)) (fp : List Addr), JE (BlkCx X s H scope C cl fp) ar b true elt te) (hs : ∀ x, foldedSetIterable iter X.env x = pure x := by intro _; rfl)
    (hs1 : ∀ (env : Env) (x : Value), foldedSetIterable iter1 env x = pure x := by intro _ _; rfl) :
    JE X ar false true (.ListComp elt [⟨tg, iter, ifs, 0⟩, ⟨tg1, iter1, ifs1, 0⟩] scope pos) (sLc2 ti g tt ti1 g1 tt1 te (ow.map (·.2)) vs1) :=
  JE.of_pe (pe_lc2 (g := liG X ar g ts) (tt := liTn X.K ar tt) (g1 := liG X ar g1 ts1) (tt1 := liTn X.K ar tt1) hc hN hi ok hv (fun s H C cl fp => hg s H C cl fp) (fun s H C cl fp => ht s H C cl fp) (fun s H C cl fp => (hi1 s H C cl fp).pin) (fun s H C cl fp => hg1 s H C cl fp) (fun s H C cl fp => ht1 s H C cl fp) (fun s H C cl fp => (he s H C cl fp).pen) hs hs1) fun σ I H F σs Qk ES Q st tx q hQ => lc2_imp hts hts1 st tx q hQ
theorem js_setLc2 {i : Nat} {y : Str} {py : Pos} {spos : Pos} (hc : X.calm = true) (hp : ar i = none) (hN : X.N.Nodup) (hy : X.N[i]? = some y) (hyl : X.env.scope.names.lookup y = some .local)
    (hsw : swapsWith (.ListComp elt [⟨tg, iter, ifs, 0⟩, ⟨tg1, iter1, ifs1, 0⟩] scope pos) (some (.Name y py)) spos.line X.env = pure true) (hi : JI X ar tg iter ti) (ok : BlkOk X.N X.env.scope scope ow) (hts : ∀ t ∈ ts, t ∈ ow.map (·.2)) (hv : ∀ i ∈ vs1, i ∈ ow.map (·.2)) (hts1 : ∀ t ∈ ts1, t ∈ vs1)
    (hg : ∀ (s : Shared) (H : Hp) (C : Addr) (cl : List (Str × Addr)) (fp : List Addr), JG (BlkCx X s H scope C cl fp) ar tg g ts) (ht : ∀ (s : Shared) (H : Hp) (C : Addr) (cl : List (Str × Addr)) (fp : List Addr), JQ (BlkCx X s H scope C cl fp) ar ifs tt)
    (hi1 : ∀ (s : Shared) (H : Hp) (C : Addr) (cl : List (Str × Addr)) (fp : List Addr), JI (BlkCx X s H scope C cl fp) ar tg1 iter1 ti1)
    (hg1 : ∀ (s : Shared) (H : Hp) (C : Addr) (cl : List (Str × Addr)) (fp : List Addr), JG (BlkCx X s H scope C cl fp) ar tg1 g1 ts1) (ht1 : ∀ (s : Shared) (H : Hp) (C : Addr) (cl : List (Str × Addr)) (fp : List Addr), JQ (BlkCx X s H scope C cl fp) ar ifs1 tt1)
    (he : ∀ (s : Shared) (H : Hp) (C : Addr) (cl : List (Str × Addr)) (fp : List Addr), JE (BlkCx X s H scope C cl fp) ar b true elt te) (hs : ∀ x, foldedSetIterable iter X.env x = pure x := by intro _; rfl)
    (hs1 : ∀ (env : Env) (x : Value), foldedSetIterable iter1 env x = pure x := by intro _ _; rfl) :
    JS X ar (.Assign [.Name y py] (.ListComp elt [⟨tg, iter, ifs, 0⟩, ⟨tg1, iter1, ifs1, 0⟩] scope pos) spos) (sSet i (sLc2 ti g tt ti1 g1 tt1 te (ow.map (·.2)) vs1)) := by
  refine ⟨fun pins s σ H D J ⟨I, F, σs, Ds, ES, st, tx, q, r⟩ => ?_⟩
  have hl : i < σs.length := by rw [st.len, J.len]; exact (List.getElem?_eq_some_iff.mp hy).1
  refine (ps_setLc2 (g := liG X ar g ts) (tt := liTn X.K ar tt) (g1 := liG X ar g1 ts1) (tt1 := liTn X.K ar tt1) hc hN hy hyl hsw hi ok hv (fun s H C cl fp => hg s H C cl fp) (fun s H C cl fp => ht s H C cl fp) (fun s H C cl fp => (hi1 s H C cl fp).pin) (fun s H C cl fp => hg1 s H C cl fp) (fun s H C cl fp => ht1 s H C cl fp) (fun s H C cl fp => (he s H C cl fp).pen) hs hs1).run pins s σ H D J (lc2_imp hts hts1 st tx q fun v H' ⟨r', R, I', F', σs', ev, st', sr, nf, nI, q'⟩ => ?_)
  exact r.nx _ _ ⟨I', put1 F' i R, _, ev.stored, st'.store (by rw [st'.len, ← st.len]; exact hl) sr nf nI (.inr hp), q'⟩
end
end SV
namespace SV
open PySem PySem.Spec PyProof.Rows L2
/-! ### list(range(a, b)) -/
def rngV (lo hi : Int) : List V := (List.range (hi - lo).toNat).map fun i => V.int (lo + (i : Nat))
theorem rngV_D {K : PySem.W.Frag} {I : Hp} (lo hi : Int) : PRs K I (rngV lo hi) (rangeD lo hi) := by
  unfold rngV rangeD
  induction List.range (hi - lo).toNat with
  | nil => exact .nil
  | cons a l ih => exact .cons (.int _) ih
def RngOk (i j : Int) : Prop := -1000000 ≤ i ∧ j ≤ 1000000
theorem paired_of {α β : Type} {R : α → β → Prop} : ∀ {xs : List α} {ys : List β}, xs.length = ys.length → (∀ (j : Nat) (x : α) (y : β), xs[j]? = some x → ys[j]? = some y → R x y) → Paired R xs ys
  | [], [], _, _ => .nil
  | [], _ :: _, h, _ => by cases h
  | _ :: _, [], h, _ => by cases h
  | x :: xs, y :: ys, h, k => .cons (k 0 x y rfl rfl) (paired_of (by simpa using h) fun j a b e1 e2 => k (j + 1) a b (by simpa using e1) (by simpa using e2))
theorem cr_listrng {X : Cx} (hc : X.calm = true) : CallR X (.type "list") fun vs H Q => ∃ a lo hi, vs = [V.ref a] ∧ H a = some (.rng lo hi) ∧ RngOk lo hi ∧ (-1000000 ≤ hi ∧ lo ≤ 1000000) ∧ ∀ l, H l = none → Q (.ref l) (upd H l (.lst (rngV lo hi))) := by
  intro pins s σ H xs us Q J rv ⟨a, lo, hi, e, ha, hr, hr2, q⟩
  subst e
  obtain ⟨u, rfl, rv1⟩ : ∃ u, us = [u] ∧ L2.RelV (.ref a) u := by
    cases rv with
    | cons r1 r2 => cases r2; exact ⟨_, rfl, r1⟩
  cases rv1
  have oo := J.hok a _ ha
  obtain ⟨t, u, v, h⟩ := oo
  have hn : Builtin.Range.rangeSize lo hi 1 = ((hi - lo).toNat : Int) := by
    unfold Builtin.Range.rangeSize
    rw [if_pos (by decide)]
    split <;> omega
  obtain ⟨h1, h2⟩ := hr
  obtain ⟨h3, h4⟩ := hr2
  refine call_list_range (n := (hi - lo).toNat) (J.ok.hd hc) h ?_ hn (by omega) fun h' tk acc' c' keep got items => ?_
  · unfold Builtin.Range.small
    rw [hn]
    unfold Builtin.Range.rangeFitsLong
    simp
    omega
  · have hf : H s.heap.objs.size = none := J.hok.fresh (Nat.le_refl _)
    refine ⟨.ref s.heap.objs.size, upd H s.heap.objs.size (.lst (rngV lo hi)), J.laid (t' := tk) keep (Nat.le_refl _) ?_, rfl, q _ hf⟩
    refine ⟨?_, acc'.toList, c', ?_, ?_⟩
    · have : (rngV lo hi).length = (hi - lo).toNat := by unfold rngV; simp
      show (rngV lo hi).length ≤ 2 ^ 24
      omega
    · refine paired_of (by unfold rngV; simp [items.1]) fun j x y e1 e2 => ?_
      obtain ⟨t, rfl⟩ := items.2 j y (by simpa using e2)
      have hj : j < (hi - lo).toNat := by
        have := (List.getElem?_eq_some_iff.mp e1).1
        simpa [rngV] using this
      unfold rngV at e1
      rw [List.getElem?_map, List.getElem?_range hj] at e1
      cases Option.some.inj e1
      rw [Int.mul_one]
      exact ⟨t, rfl⟩
    · simpa using got
/-- list(range(a, b)) -/
def sLR (ta tb : TEs) : TEs := fun σs Q ES => ta σs (fun r σ1 => match r with
  | .val (.int i) => tb σ1 (fun r' σ2 => match r' with
    | .val (.int j) => (RngOk i j ∧ RngOk j i) ∧ Q (.lst (rangeD i j)) σ2
    | _ => False) ES
  | _ => False) ES
section
variable {X : Cx} {ar : Nat → Option V} {a b : Expr} {ta tb : TEs} {b1 b2 m1 m2 : Bool} {p p2 pos pos2 : Pos}
theorem je_lrng (hc : X.calm = true) (hgl : Gl X "list") (hml : X.mg "list" = none) (hvl : bootBuiltins "list" = some (.type "list")) (hgr : Gl X "range") (hmr : X.mg "range" = none) (hvr : bootBuiltins "range" = some (.type "range"))
    (ha : JE X ar b1 true a ta) (hb : JE X ar b2 true b tb) (hs : starEach [a, b] X.env = (false, eval a X.env) :: starEach [b] X.env := by rfl) (hs1 : starEach [b] X.env = (false, eval b X.env) :: starEach [] X.env := by rfl) (hs2 : starEach [.Call (.Name "range" p2) [a, b] [] pos2] X.env = (false, eval (.Call (.Name "range" p2) [a, b] [] pos2) X.env) :: starEach [] X.env := by rfl)
    (hk : ((backTo pos2 (starEach [b] X.env)).any fun x => x.1) = false := by rfl) :
    JE X ar false true (.Call (.Name "list" p) [.Call (.Name "range" p2) [a, b] [] pos2] [] pos) (sLR ta tb) := by
  refine JE.of_pe (pe_callTy (cr_listrng hc) hgl hml hvl (pa_cons (pe_callTy cr_range2 hgr hmr hvr (pa_cons ha.pe (pa_cons hb.pe pa_nil hs1) hs) (by decide +kernel) (by decide) hs hk) pa_nil hs2) (by decide +kernel) (by decide) hs2 (by rfl)) fun σ I H F σs Qk ES Q st tx q hQ => ?_
  refine ⟨I, F, σs, _, ES, st, tx, q, fun v r R I1 H1 F1 σ1 ev1 st1 sr1 _ _ q1 => ?_⟩
  cases r with
  | val y =>
    obtain ⟨eR, pr⟩ := sr1.val_inv
    subst eR
    cases y with
    | int i =>
      cases pr
      refine ⟨I1, F1, σ1, _, ES, st1, tx.go ev1.drop fun _ z => z, q1, fun v r R I2 H2 F2 σ2 ev2 st2 sr2 _ _ q2 => ?_⟩
      cases r with
      | val y =>
        obtain ⟨eR, pr⟩ := sr2.val_inv
        subst eR
        cases y with
        | int j =>
          cases pr
          obtain ⟨⟨⟨b1, b2⟩, b3, b4⟩, q3⟩ := q2
          refine ⟨i, j, rfl, fun p hp => ⟨p, i, j, rfl, upd_same, ⟨b1, b2⟩, ⟨b3, b4⟩, fun l hl => hQ _ _ ?_⟩⟩
          have lp : l ≠ p := fun z => by subst z; rw [upd_same] at hl; cases hl
          have hl2 : H2 l = none := by rwa [upd_ne lp] at hl
          have up : ∀ a x, H2 a = some x → upd (upd H2 p (.rng i j)) l (.lst (rngV i j)) a = some x := fun a x e => by
            have n1 : a ≠ l := fun z => by subst z; rw [hl2] at e; cases e
            have n2 : a ≠ p := fun z => by subst z; rw [hp] at e; cases e
            rw [upd_ne n1, upd_ne n2]
            exact e
          have ev3 : Evo I2 H2 (own F2) I2 (upd (upd H2 p (.rng i j)) l (.lst (rngV i j))) (fun a => a ∈ [l] ∨ own F2 a) := by
            refine ⟨.refl _, fun a x e _ => up a x e, fun a z => ?_, fun a x e => .inl e⟩
            rcases z with z | z
            · have : a = l := by simpa using z
              subst this
              exact .inr hl2
            · exact .inl z
          have one : ∀ a ∈ [l], a = l := fun a m => by simpa using m
          refine ⟨.lst (rangeD i j), [l], I2, F2, σ2, ev1.drop.trans ((ev2.drop.trans ev3 (fun _ z => z) fun c z => .inr z : Evo I1 H1 (own F1) I2 _ (fun a => a ∈ [l] ∨ own F2 a))) (fun _ z => z) fun c z => .inr z, st2.keep (fun a x e => up a x (st2.sub a x e)) (.refl _) (fun a _ x e => up a x e) fun a m => st2.ownI m, .lst upd_same (rngV_D _ _), fun a m z => ?_, fun a m => ?_, q3⟩
          · rw [one a m] at z
            obtain ⟨x, e⟩ := st2.there z
            rw [hl2] at e
            cases e
          · rw [one a m]
            cases e : I2 l with
            | none => rfl
            | some x => rw [st2.sub _ _ e] at hl2; cases hl2
        | _ => exact q2.elim
      | _ => exact q2.elim
    | _ => exact q1.elim
  | _ => exact q1.elim
end
end SV
/-! SvT: a def called with a fresh list of its own, and pure data behind it. -/
namespace SV
open PySem PySem.Spec PyProof.Rows L2
def sCallF (sp : Sps) (te : TEs) (tp : TPs) : TEs := fun σs Q ES => te σs (fun r σ1 => match r with
  | .lst ds => tp σ1 (fun es σ2 => sp (.lst ds :: es.map .val) (fun r _ => Q r σ2) (fun cls ed => ES cls ed σ2)) ES
  | _ => False) ES
section
variable {X : Cx} {ar : Nat → Option V} {k : Nat} {f : Addr} {fd : FuncData} {ps : List Str} {sp : Sps} {x : Str} {p pos : Pos} {e : Expr} {es : List Expr} {te : TEs} {tp : TPs} {b1 b2 : Bool}
variable {pins : List (Addr × Obj)} {σ : L2.St} {I0 H0 I H : Hp} {F0 F : Nat → List Addr} {σ0 σs : SSt} {s : Shared}
theorem run_fresh {Rm : Around → Prop} (G : FnR X.prog X.w X.K X.mg X.base Rm f fd ps sp) (hr : Rm X.A) (hg : X.A.guards = some []) (hb : Binds X.K fd ps []) {us : List Value} {v0 : V} {R : List Addr} {ds : List PyData} {vs : List V} {es : List PyData} {Q : KS} {ES : XS}
    (d0 : RPd X ar pins σ b1 true I0 H0 F0 σ0 v0 (.lst ds) R I H F σs s) (tx : TX X ar I0 H0 (own F0) ES) (rv : Vals (v0 :: vs) us) (pv : PRs X.K I vs es)
    (q : sp (.lst ds :: es.map .val) (fun r _ => Q r σs) (fun cls ed => ES cls ed σs)) : wpAny (model X.prog X.w) X.A (call (.ref f) us) (RP X ar pins σ false true I0 H0 F0 σ0 Q) X.xe s := by
  have J := d0.inv
  have st := d0.st
  have lps : us.length = ps.length := by rw [← rv.length, ← G.len _ _ _ q]; simp [pv.length]
  have fc : ∀ {a}, own (fun k => if k = 0 then R else []) a → a ∈ R := fun {a} ⟨k, m⟩ => by
    dsimp only at m
    split at m
    · exact m
    · cases m
  have st0 : StR X.K (arV (v0 :: vs)) I H ((v0 :: vs).map some) ((S.lst ds :: es.map .val).map some) (fun k => if k = 0 then R else []) := by
    refine ⟨st.sub, fun j r h => ?_, fun j h => ?_, fun i j a m m' => ?_, fun j a m => d0.nI a (fc ⟨j, m⟩), fun j v r h1 h2 => ?_, by simp [pv.length]⟩
    · rw [gets_map] at h
      cases j with
      | zero =>
        cases (Option.some.inj h)
        exact ⟨v0, rfl, d0.sr⟩
      | succ j =>
        have h' : (es.map S.val)[j]? = some r := by simpa using h
        rw [List.getElem?_map] at h'
        obtain ⟨d, e1, rfl⟩ := Option.map_eq_some_iff.mp h'
        obtain ⟨v, e2, p2⟩ := pv.get e1
        exact ⟨v, by simpa using e2, .val p2⟩
    · cases j with
      | zero => cases h
      | succ j => rfl
    · try dsimp only at m m'
      split at m
      · split at m'
        · omega
        · cases m'
      · cases m
    · exact .inr (by rw [List.getElem?_map, show (v0 :: vs)[j]? = some v from h1]; rfl)
  have bt := hb s us J.kIn (by rw [List.append_nil]; exact lps)
  rw [List.append_nil] at bt
  -- the caller's own objects stay
  have nR : ∀ {a}, own F a → a ∉ R := fun {a} m z => d0.nf rfl a z m
  refine wpAny_call (codeAny_mono (G.run X.A X.stack s H I _ ⟨us, []⟩ us (v0 :: vs) (.lst ds :: es.map .val) _ _ hr hg J.env0 bt rv st0 q) fun r s' hq => ?_)
  have keepS : ∀ {I' H' : Hp} {o : Addr → Prop}, Evo I H (own fun k => if k = 0 then R else []) I' H' o → Sub I' H' → StR X.K ar I' H' σ σs F := fun {I' H' o} ev sb => by
    refine st.keep sb ev.up (fun a m x h => ev.fr a x h fun z => nR m (fc z)) fun a m => ?_
    cases e : I' a with
    | none => rfl
    | some y =>
      rcases ev.ni a y e with e | e | e
      · rw [st.ownI m] at e; cases e
      · exact absurd (fc e) (nR m)
      · obtain ⟨z, e2⟩ := st.there m
        rw [e] at e2
        cases e2
  cases r with
  | error e =>
    obtain ⟨W, tk, hW⟩ := tx
    refine tk e s' (XE.of_call J (E := EQ X.K I H (fun k => if k = 0 then R else []) _) (fun cls d H' hE => ?_) hq)
    obtain ⟨I', ed, ev, sb', hed, he⟩ := hE
    exact hW cls d σ I' H' F σs ed (d0.evo.trans ev (fun c z => .inl (fc z)) fun c z => .inl (.inr z)) (keepS ev sb') hed he
  | ok fl =>
    cases fl with
    | ret u =>
      obtain ⟨v, H', J', rr, r, R2, I', F', ss', ev, st', sr, nf, nI, q'⟩ := J.after (show CE X.stack X.prog X.w H s _ u s' from hq)
      refine ⟨v, r, R2, I', H', F, σs, ⟨J', d0.evo.trans ev (fun c z => .inl (fc z)) (fun c z => ?_), keepS ev st'.sub, sr, fun _ a m z => ?_, nI, fun z => Bool.noConfusion z⟩, rr, q'⟩
      · rcases z with z | z
        · exact .inr (.inl z)
        · exact .inl (.inr z)
      · rcases ev.nw a (.inl m) with y | y
        · exact nR z (fc y)
        · obtain ⟨w, e2⟩ := st.there z
          rw [y] at e2
          cases e2
    | next => exact False.elim hq
    | brk => exact False.elim hq
    | cont => exact False.elim hq
theorem je_callF {Rm : Around → Prop} (G : FnR X.prog X.w X.K X.mg X.base Rm f fd ps sp) (hr : Rm X.A) (hgd : X.A.guards = some []) (hg : Gl X x) (hm : X.mg x = some (.ref f)) (hk : PySem.W.keepIn X.K (.ref f) = true) (hb : Binds X.K fd ps [])
    (he : JE X ar b1 true e te) (ha : JA X ar b2 es tp) (hdb : (x == ("__debug__" : Str)) = false := by decide) (hs : starEach (e :: es) X.env = (false, eval e X.env) :: starEach es X.env := by rfl) (hpl : (backTo pos (starEach es X.env)).any (·.1) = false := by rfl) :
    JE X ar false true (.Call (.Name x p) (e :: es) [] pos) (sCallF sp te tp) := by
  refine ⟨fun pins s σ I H F σs Q ES J st tx q => ?_⟩
  refine wpAny_Call_Name_kw (ld_glob J hg hm ?_ hdb)
  refine PySem.W.callWith_K (h₀ := X.base) J.ok.mod.kin hk (?_ : wpAny (model X.prog X.w) X.A (spliced (backTo pos (starEach (e :: es) X.env))) _ _ s) hs hpl
  rw [hs]
  show wpAny _ _ (spliced ((false, eval e X.env) :: backTo pos (starEach es X.env))) _ _ s
  refine Calls.spliced_cons (thn (he.run pins s σ I H F σs _ ES J st tx q) fun v s1 ⟨x, r, R1, I1, H1, F1, σ1, h1, r1, q1⟩ => ?_)
  cases r with
  | lst ds =>
    refine thn (ha.run pos pins s1 σ I1 H1 F1 σ1 _ ES h1.inv h1.st (tx.go h1.evo fun _ z => .inr z) q1) fun us s2 ⟨vs, es', I2, H2, F2, σ2, h2, rv, pv, q2⟩ => ?_
    exact ⟨h2.inv.kIn, run_fresh G hr hgd hb (h1.over h2 (.inl rfl)).2.2.2 tx (.cons r1 rv) pv q2⟩
  | _ => exact (show False from q1).elim
end
end SV
/-! SvU: slices by take and drop; two-clause comprehensions that change nothing. -/
namespace SV
open PySem PySem.Spec PyProof.Rows L2
theorem cut_to {α : Type} (xs : List α) {i : Int} (h : 0 ≤ i) : SV.cutD xs none (some i) = xs.take i.toNat := by
  have e : HT.sIx xs.length xs.length (some i) = min i.toNat xs.length := by
    show (if i < 0 then (i + xs.length).toNat else min i.toNat xs.length) = _
    rw [if_neg (by omega)]
  unfold SV.cutD
  rw [e]
  show (xs.drop 0).take (min i.toNat xs.length - 0) = _
  rw [List.drop_zero, Nat.sub_zero, ← List.take_eq_take_min]
theorem cut_from {α : Type} (xs : List α) {i : Int} (h : 0 ≤ i) : SV.cutD xs (some i) none = xs.drop i.toNat := by
  have e : HT.sIx xs.length 0 (some i) = min i.toNat xs.length := by
    show (if i < 0 then (i + xs.length).toNat else min i.toNat xs.length) = _
    rw [if_neg (by omega)]
  unfold SV.cutD
  rw [e]
  show (xs.drop (min i.toNat xs.length)).take (xs.length - min i.toNat xs.length) = _
  rw [List.take_of_length_le (by rw [List.length_drop]; omega)]
  by_cases hk : i.toNat ≤ xs.length
  · rw [Nat.min_eq_left hk]
  · rw [Nat.min_eq_right (by omega), List.drop_eq_nil_of_le (by omega), List.drop_eq_nil_of_le (by omega)]
theorem cut_init {α : Type} (xs : List α) : SV.cutD xs none (some (-1)) = xs.dropLast := by
  have e : HT.sIx xs.length xs.length (some (-1)) = (-1 + (xs.length : Int)).toNat := by
    show (if (-1 : Int) < 0 then (-1 + (xs.length : Int)).toNat else min (-1 : Int).toNat xs.length) = _
    rw [if_pos (by decide)]
  unfold SV.cutD
  rw [e]
  show (xs.drop 0).take ((-1 + (xs.length : Int)).toNat - 0) = _
  rw [List.drop_zero, Nat.sub_zero, List.dropLast_eq_take]
  congr 1
  omega
theorem cut_len {α : Type} (xs : List α) (lo hi : Option Int) : (SV.cutD xs lo hi).length ≤ xs.length := by
  unfold SV.cutD
  rw [List.length_take, List.length_drop]
  omega
theorem cut_map {α β : Type} (f : α → β) (xs : List α) (lo hi : Option Int) : SV.cutD (xs.map f) lo hi = (SV.cutD xs lo hi).map f := by
  unfold SV.cutD
  rw [List.length_map, List.map_take, List.map_drop]
/-! ### two clauses -/
theorem lcg_map {α : Type} (f : α → PyData) {g : TGt} {B : BL} {vs : List Nat} {K : List PyData → SSt → Prop} (Iv : List α → List PyData → SSt → Prop)
    (step : ∀ x xs acc σs (N : List PyData → SSt → Prop), (∀ a σ', Iv xs a σ' → N a σ') → Iv (x :: xs) acc σs → nd (g (f x) σs) fun σ1 => B σ1 acc fun acc' σ2 => N acc' (wipeS σ2 vs))
    (fin : ∀ acc σs, Iv [] acc σs → K acc σs) : ∀ (xs : List α) (acc : List PyData) (σs : SSt), Iv xs acc σs → lcTG g B vs (xs.map f) acc σs K
  | [], acc, σs, h => fin acc σs h
  | x :: xs, acc, σs, h => step x xs acc σs (fun a σ' => lcTG g B vs (xs.map f) a σ' K) (fun a σ' h' => lcg_map f Iv step fin xs a σ' h') h
theorem sets_comm : ∀ {σ : SSt} {i j : Nat} {a b : Option S}, i ≠ j → sets (sets σ i a) j b = sets (sets σ j b) i a
  | [], _, _, _, _, _ => rfl
  | _ :: _, 0, 0, _, _, h => absurd rfl h
  | _ :: _, 0, _ + 1, _, _, _ => rfl
  | _ :: _, _ + 1, 0, _, _, _ => rfl
  | x :: r, i + 1, j + 1, a, b, h => by
    show x :: sets (sets r i a) j b = x :: sets (sets r j b) i a
    rw [sets_comm (fun z => h (by rw [z]))]
theorem lc2_pure {α β : Type} (fa : α → PyData) (inner : α → List β) (fb e : β → PyData) {ti1 : TIs} {te : TEs} {v v1 : Nat} {σ0 : SSt} {K : List PyData → SSt → Prop} (hv : v < σ0.length) (hv1 : v1 < σ0.length) (hne : v ≠ v1) (hn : sets σ0 v none = σ0) (hn1 : sets σ0 v1 none = σ0) (xs : List α)
    (hx : (xs.flatMap inner).length ≤ 16000000)
    (hti : ∀ x ∈ xs, ∀ Q : List PyData → SSt → Prop, Q ((inner x).map fb) (sets σ0 v (some (.val (fa x)))) → ti1 (sets σ0 v (some (.val (fa x)))) Q noX)
    (hte : ∀ x ∈ xs, ∀ y ∈ inner x, ∀ Q : KS, Q (.val (e y)) (sets (sets σ0 v (some (.val (fa x)))) v1 (some (.val (fb y)))) → te (sets (sets σ0 v (some (.val (fa x)))) v1 (some (.val (fb y)))) Q noX)
    (fin : K ((xs.flatMap inner).map e) σ0) : lcTG (gVar v) (bLc2 tYesS ti1 (gVar v1) tYesS te [v1]) [v, v1] (xs.map fa) [] σ0 K := by
  refine lcg_map fa (fun rem acc σ => ∃ done, xs = done ++ rem ∧ acc = (done.flatMap inner).map e ∧ σ = σ0) (fun x r acc σ N hN h => ?_) (fun acc σ h => ?_) xs [] σ0 ⟨[], rfl, rfl, rfl⟩
  · obtain ⟨done, e1, rfl, rfl⟩ := h
    have mx : x ∈ xs := by rw [e1]; simp
    have eg : gVar v (fa x) σ = some (sets σ v (some (.val (fa x)))) := by
      unfold gVar
      rw [if_pos hv]
    rw [eg]
    refine ifb_t rfl ?_
    show ti1 _ _ noX
    refine hti x mx _ ?_
    have hlen : (sets σ v (some (.val (fa x)))).length = σ.length := sets_length
    have w1 : wipeS (sets σ v (some (.val (fa x)))) [v1] = sets σ v (some (.val (fa x))) := by
      show sets (sets σ v (some (.val (fa x)))) v1 none = _
      rw [sets_comm hne, hn1]
    rw [w1]
    have tot := congrArg (fun l : List α => (l.flatMap inner).length) e1
    simp only [List.flatMap_append, List.flatMap_cons, List.length_append] at tot
    refine lcg_map fb (fun rem acc σ' => ∃ d2, inner x = d2 ++ rem ∧ acc = (done.flatMap inner).map e ++ d2.map e ∧ σ' = sets σ v (some (.val (fa x)))) (fun y r2 acc σ' N2 hN2 h => ?_) (fun acc σ' h => ?_) (inner x) _ _ ⟨[], rfl, by simp, rfl⟩
    · obtain ⟨d2, e2, rfl, rfl⟩ := h
      have my : y ∈ inner x := by rw [e2]; simp
      have eg2 : gVar v1 (fb y) (sets σ v (some (.val (fa x)))) = some (sets (sets σ v (some (.val (fa x)))) v1 (some (.val (fb y)))) := by
        unfold gVar
        rw [if_pos (by rw [hlen]; exact hv1)]
      rw [eg2]
      refine ifb_t rfl ?_
      show te _ _ noX
      refine hte x mx y my _ ?_
      have l2 := congrArg List.length e2
      rw [List.length_append, List.length_cons] at l2
      refine ⟨room2 (by rw [List.length_append, List.length_map, List.length_map]; omega), hN2 _ _ ⟨d2 ++ [y], by rw [e2]; simp, by simp, ?_⟩⟩
      show sets (sets (sets σ v (some (.val (fa x)))) v1 (some (.val (fb y)))) v1 none = _
      rw [sets_sets, sets_comm hne, hn1]
    · obtain ⟨d2, e2, rfl, rfl⟩ := h
      rw [List.append_nil] at e2
      refine hN _ _ ⟨done ++ [x], by rw [e1]; simp, by rw [← e2]; simp [List.flatMap_append], ?_⟩
      show sets (sets (sets σ v (some (.val (fa x)))) v1 none) v none = σ
      rw [sets_comm hne, hn1, sets_sets, hn]
  · obtain ⟨done, e1, rfl, rfl⟩ := h
    rw [List.append_nil] at e1
    rw [← e1]
    exact fin
end SV
namespace SV
open PySem PySem.Spec PyProof.Rows L2
/-! ### what kind a class is -/
theorem exm_mk {K : PySem.W.Frag} {R C : Addr} {b : Bool} (h1 : PySem.W.subIn K (.ref C) (.type "BaseException") = some true) (h2 : PySem.W.isClsIn K C = true) (h3 : PySem.W.typeIn K (.ref C) = some (.type "type")) (h4 : PySem.W.subIn K (.ref R) (.ref C) = some b) : PySem.W.exmOne K (.ref R) (.ref C) = some b := by
  have e1 : (PySem.W.subIn K (.ref C) (.type "BaseException") == some true) = true := by rw [h1] <;> rfl
  have e2 : ((PySem.W.clsIn K C).isSome && PySem.W.typeIn K (.ref C) == some (.type "type")) = true := by
    have h2' : (PySem.W.clsIn K C).isSome = true := h2
    rw [h2', h3] <;> rfl
  show (if (PySem.W.subIn K (.ref C) (.type "BaseException") == some true) = true then (if ((PySem.W.clsIn K C).isSome && PySem.W.typeIn K (.ref C) == some (.type "type")) = true then PySem.W.subIn K (.ref R) (.ref C) else none) else none) = some b
  rw [if_pos e1, if_pos e2]
  exact h4
theorem kit_mk {K : PySem.W.Frag} {R C : Addr} {b : Bool} (h2 : PySem.W.isClsIn K C = true) (h3 : PySem.W.typeIn K (.ref C) = some (.type "type")) (h4 : PySem.W.subIn K (.ref R) (.ref C) = some b) (ne : b = true ∨ (Value.ref R == Value.ref C) = false) : PySem.W.kitOne K (.ref R) (.ref C) = some b := by
  have e2 : ((PySem.W.clsIn K C).isSome && PySem.W.typeIn K (.ref C) == some (.type "type")) = true := by
    have h2' : (PySem.W.clsIn K C).isSome = true := h2
    rw [h2', h3] <;> rfl
  show (if (Value.ref R == Value.ref C) = true then some true else (if ((PySem.W.clsIn K C).isSome && PySem.W.typeIn K (.ref C) == some (.type "type")) = true then PySem.W.subIn K (.ref R) (.ref C) else none)) = some b
  rcases ne with rfl | e
  · by_cases e : (Value.ref R == Value.ref C) = true
    · rw [if_pos e]
    · rw [if_neg e, if_pos e2]
      exact h4
  · rw [if_neg (by rw [e]; decide), if_pos e2]
    exact h4
end SV
/-! SvV: enumerate, zip. -/
namespace SV
open PySem PySem.Spec PyProof.Rows L2

/-! ### what can be walked by an iterator that another one holds -/
structure Sq (P : Program) (w : World) (K : PySem.W.Frag) (u : Value) (xs : List V) (G : Hp → Prop) (src : List Addr) (o : Obj) (SI : Addr → Nat → Heap → Prop) : Prop where
  beg : ∃ Ph : Heap → Prop, Begins u o Ph ∧ ∀ (X : Cx) (pins : List (Addr × Obj)) (σ : L2.St) (H : Hp) (s : Shared), X.prog = P → X.w = w → X.K = K → Inv X pins σ H s → G H → Ph s.heap
  lt : ∀ (X : Cx) (pins : List (Addr × Obj)) (σ : L2.St) (H : Hp) (s : Shared), X.prog = P → X.w = w → X.K = K → Inv X pins σ H s → G H → ∀ b ∈ src, b < s.heap.objs.size
  start : ∀ (h : Heap) (it : Addr), h.get? it = some o → SI it 0 h
  obj : ∀ (it : Addr) (i : Nat) (h : Heap), SI it i h → ∃ ob, h.get? it = some ob ∧ ∀ v, ob.data ≠ .cell v
  keep : ∀ (it : Addr) (i : Nat) (h h' : Heap), SI it i h → (∀ ob, h.get? it = some ob → h'.get? it = some ob) → SI it i h'
  draws : ∀ (X : Cx) (pins : List (Addr × Obj)) (σ : L2.St) (H : Hp) (s : Shared), X.prog = P → X.w = w → X.K = K → X.calm = true → Inv X pins σ H s → G H → ∀ it : Addr, it ∉ src →
    ∃ (fp : List Addr) (its : Array Value) (St : Nat → Heap → Prop), Vals xs its.toList ∧ it ∈ fp ∧ (∀ b ∈ fp, b = it ∨ b ∈ src) ∧ Draws P w X.A.in1 it fp its.size (fun i v => its[i]? = some v) St ∧
      (∀ i, SI it i s.heap → St i s.heap) ∧ ∀ i h, St i h → SI it i h
section
variable {P : Program} {w : World} {K : PySem.W.Frag}
theorem sq_list (a : Addr) (xs : List V) : Sq P w K (.ref a) xs (fun H => SqL K H a xs) [a] { cls := .type "list_iterator", data := .fields #[.ref a, .int 0 0] } (fun it i h => h.IsListIter it a i) where
  beg := by
    refine ⟨fun h => ∃ its, h.IsList a its, ⟨fun prog w A E s Q hl h => let ⟨its, hl⟩ := hl; wpAny_pyIter_list hl h, fun h h' ⟨its, x⟩ hk => ⟨its, x.at fun o e => hk a o e⟩, rfl⟩, fun X pins σ H s h1 h2 h3 J g => ?_⟩
    subst h3
    obtain ⟨its, rv, p, _⟩ := J.list g
    exact ⟨_, p.isList⟩
  lt := fun X pins σ H s h1 h2 h3 J g b m => by
    subst h3
    obtain ⟨its, rv, p, _⟩ := J.list g
    have : b = a := by simpa using m
    subst this
    exact p.lt
  start := fun h it e => ⟨_, e, rfl, rfl⟩
  obj := fun it i h ⟨o, e, c, d⟩ => ⟨o, e, fun v q => by rw [d] at q; cases q⟩
  keep := fun it i h h' st k => st.at fun o e => k o e
  draws := fun X pins σ H s h1 h2 h3 hc J g it hn => by
    subst h1 h2 h3
    obtain ⟨its, rv, p, _⟩ := J.list g
    have hne : a ≠ it := fun e => hn (by simp [e])
    refine ⟨[it, a], its.toArray, _, by simpa using rv, by simp, fun b m => ?_, Draws.list (A := X.A.in1) (J.ok.hd hc) it a hne its.toArray, fun i st => ⟨st, p.isList⟩, fun i h st => st.1⟩
    rcases List.mem_cons.mp m with z | z
    · exact .inl z
    · exact .inr z
theorem sq_tup (a : Addr) (xs : List V) : Sq P w K (.ref a) xs (fun H => SqT K H a xs) [a] { cls := .type "tuple_iterator", data := .fields #[.ref a, .int 0 0] } (fun it i h => h.IsTupleIter it a i) where
  beg := by
    refine ⟨fun h => ∃ its, h.IsTuple a its, ⟨fun prog w A E s Q hl h => let ⟨its, hl⟩ := hl; wpAny_pyIter_tuple hl h, fun h h' ⟨its, x⟩ hk => ⟨its, x.at fun o e => hk a o e⟩, rfl⟩, fun X pins σ H s h1 h2 h3 J g => ?_⟩
    subst h3
    obtain ⟨its, rv, p, _⟩ := J.tuple g
    exact ⟨_, p⟩
  lt := fun X pins σ H s h1 h2 h3 J g b m => by
    subst h3
    obtain ⟨its, rv, p, _⟩ := J.tuple g
    have : b = a := by simpa using m
    subst this
    obtain ⟨o, e, _⟩ := p
    exact Heap.lt_size e
  start := fun h it e => ⟨_, e, rfl, rfl⟩
  obj := fun it i h ⟨o, e, c, d⟩ => ⟨o, e, fun v q => by rw [d] at q; cases q⟩
  keep := fun it i h h' st k => st.at fun o e => k o e
  draws := fun X pins σ H s h1 h2 h3 hc J g it hn => by
    subst h1 h2 h3
    obtain ⟨its, rv, p, _⟩ := J.tuple g
    have hne : a ≠ it := fun e => hn (by simp [e])
    refine ⟨[it, a], its.toArray, _, by simpa using rv, by simp, fun b m => ?_, Draws.tuple (A := X.A.in1) (J.ok.hd hc) it a hne its.toArray, fun i st => ⟨st, p⟩, fun i h st => st.1⟩
    rcases List.mem_cons.mp m with z | z
    · exact .inl z
    · exact .inr z
end

/-! ### enumerate -/
def ItE (G : Hp → Prop) (xs : List V) : It :=
  ⟨fun i H => G H ∧ i < xs.length, fun i H v H' => ∃ T x, v = .ref T ∧ H T = none ∧ H' = upd H T (.tup [.int (i : Nat), x]) ∧ xs[i]? = some x, fun i H => G H ∧ xs.length ≤ i⟩
theorem turn_enumS {P : Program} {w : World} {K : PySem.W.Frag} {u0 : Value} {xs : List V} {G : Hp → Prop} {src : List Addr} {o : Obj} {SI : Addr → Nat → Heap → Prop} (S : Sq P w K u0 xs G src o SI) {elts : List Expr} {kk : Nat} {tpos : Pos} (e it : Addr) (hes : e ∉ src) (his : it ∉ src) :
    Turn P w K (.Tuple elts kk tpos) (ItE G xs) [e, it] e (fun i h => (∃ old, IsEnum h e it ((i : Nat) : Int) old) ∧ SI it i h ∧ e ≠ it ∧ i ≤ xs.length) where
  mem := by simp
  obj := fun i h st b hb => by
    obtain ⟨⟨old, he⟩, hi, _⟩ := st
    have e' : b = e ∨ b = it := by simpa using hb
    rcases e' with z | z
    · rw [z]; exact ⟨_, he, fun v q => nomatch q⟩
    · rw [z]; exact S.obj it i h hi
  keep := fun i h h' st k => let ⟨⟨old, he⟩, hi, hne, hle⟩ := st; ⟨⟨old, k e (by simp) _ he⟩, S.keep it i h h' hi fun ob q => k it (by simp) ob q, hne, hle⟩
  item := by
    intro X hP hw hK hc i pins s σ H E I hf st hg
    obtain ⟨⟨old, he⟩, hit, hne, _⟩ := st
    obtain ⟨hG, hlt⟩ := hg
    obtain ⟨fp, its, St, rv, m1, m2, D, d1, d2⟩ := S.draws X pins σ H s hP hw hK hc I hG it his
    have hl : its.size = xs.length := by rw [rv.length]; simp
    have hef : e ∉ fp := fun z => by
      rcases m2 e z with q | q
      · exact hne q
      · exact hes q
    subst hP hw hK
    have hel : e < s.heap.objs.size := Heap.lt_size he
    have hil : it < s.heap.objs.size := by obtain ⟨_, q, _⟩ := S.obj it i _ hit; exact Heap.lt_size q
    refine wpAny_pyNext_enum_itemD D he (d1 i hit) (by omega) hne hef fun u h' tk hu ho hst' hT hsz hk => ?_
    obtain ⟨x, hx, ru⟩ : ∃ x, xs[i]? = some x ∧ RelV x u := by
      obtain ⟨z, hz, rz⟩ := rv.get (List.getElem?_eq_getElem hlt)
      have hz' : its[i]? = some z := by simpa using hz
      have e1 : its[i]? = some u := hu
      rw [hz'] at e1
      cases e1
      exact ⟨_, List.getElem?_eq_getElem hlt, rz⟩
    refine ⟨_, rfl, wpAny_letOwnedTupleGo_enum (s := { s with heap := h', toks := tk + 1 }) ho fun h'' he' sb => ?_⟩
    have hT2 : h''.get? s.heap.objs.size = some { cls := .type "tuple", data := .seq #[.int i tk, u] } := (sb.2 _ (Nat.ne_of_gt hel)).trans hT
    have new : ObjOk X.prog X.w (upd H s.heap.objs.size (.tup [.int (i : Nat), x])) h'' s.heap.objs.size (.tup [.int (i : Nat), x]) :=
      ⟨by show 2 ≤ sizeLine; decide, [.int i tk, u], .cons ⟨_, rfl⟩ (.cons ru .nil), ⟨_, hT2, rfl, _, rfl⟩⟩
    have I1 : Inv X pins σ (upd H s.heap.objs.size (.tup [.int (i : Nat), x])) { s with heap := h'', toks := tk + 1 } :=
      I.turnedNew (ch := [e, it]) (fun b ob hb q => (sb.2 b (fun z => hb (by simp [z]))).trans (hk b ob (fun z => hb (by simp [z])) (fun z => hb (by simp [z])) q)) hf (Nat.le_refl _) new
    refine ⟨.ref s.heap.objs.size, _, I1, rfl, ⟨_, x, rfl, I.hok.fresh (Nat.le_refl _), rfl, hx⟩, ⟨⟨u, ?_⟩, S.keep it (i + 1) h' h'' (d2 _ _ hst') fun ob q => (sb.2 it (Ne.symm hne)).trans q, hne, hlt⟩, fun b hb => ?_⟩
    · have e1 : ((i + 1 : Nat) : Int) = (i : Int) + 1 := by omega
      rw [e1]; exact he'
    · have hb' : b < s.heap.objs.size := by
        have e' : b = e ∨ b = it := by simpa using hb
        rcases e' with z | z
        · rw [z]; exact hel
        · rw [z]; exact hil
      rw [upd_ne (Nat.ne_of_lt hb')]
      exact (hf b hb).1
  done := by
    intro X hP hw hK hc i pins s σ H E I hf st hg
    obtain ⟨⟨old, he⟩, hit, hne, hle2⟩ := st
    obtain ⟨hG, hle⟩ := hg
    obtain ⟨fp, its, St, rv, m1, m2, D, d1, d2⟩ := S.draws X pins σ H s hP hw hK hc I hG it his
    have hl : its.size = xs.length := by rw [rv.length]; simp
    have ei : i = its.size := by omega
    subst ei
    subst hP hw hK
    obtain ⟨f0, f1, f2, f3, f4, f5⟩ := hf it (by simp)
    exact wpAny_pyNext_enum_endD D he (d1 _ hit) fun h' eb => ⟨rfl, I.turned (t' := s.toks) (fun b o hb q => eb b o hb q) f0 f1 f3 f4 f5⟩
  self := fun A i s Q E st h => let ⟨⟨_, he⟩, _⟩ := st; wpAny_pyIter_enum he h

/-- enumerate(v): its two new cells -/
theorem meets_enumerate_new1 {v : Value} {o : Obj} {H : Heap → Prop} (B : Begins v o H) :
    Meets (Builtin.«enumerate.__new__» ⟨[.type "enumerate", v], []⟩) (fun _ R s => H s.heap ∧
      R (.ok (.ret (.ref (s.heap.push o).objs.size))) { s with heap := (s.heap.push o).push { cls := .type "enumerate", data := .fields #[.none, .bool false, .ref s.heap.objs.size, rawInt 0, .none, .none] } }) :=
  .of_wp fun prog w A R s h => by
    obtain ⟨hp, g, d, tk, os⟩ := s; obtain ⟨h1, h⟩ := h
    have hsub := sub_enumerate
    have q1 : ∀ {A' : Around} {E : Value → Shared → Prop} {Q : Value → Shared → Prop}, Q (.ref hp.objs.size) ⟨hp.push o, g, d, tk, os⟩ → wpAny (model prog w) A' (pyIter v) Q E ⟨hp, g, d, tk, os⟩ :=
      fun q => B.iter prog w _ _ ⟨hp, g, d, tk, os⟩ _ h1 q
    wp_walk using q1
    refine wpAny_stack_any fun st => wpAny_pure ?_
    split
    · rename_i c _ _ _ _ _
      cases (c == Value.type "enumerate")
      · wp_walk using q1
        exact ⟨_, rfl, h⟩
      · wp_walk using q1
        exact ⟨_, rfl, h⟩
    · wp_walk using q1
      exact ⟨_, rfl, h⟩
section
variable {prog : Program} {w : World} {A : Around} {E : Value → Shared → Prop} {s : Shared}
theorem enum_begins1 {v : Value} {o : Obj} {H : Heap → Prop} {Q : Value → Shared → Prop} (B : Begins v o H) (h1 : H s.heap)
    (h : ∀ h', IsEnum h' (s.heap.objs.size + 1) s.heap.objs.size 0 .none → h'.get? s.heap.objs.size = some o → h'.objs.size = s.heap.objs.size + 2 →
      (∀ b o, s.heap.get? b = some o → h'.get? b = some o) → Q (.ref (s.heap.objs.size + 1)) { s with heap := h' }) :
    wpAny (model prog w) A (call (.type "enumerate") [v]) Q E s := by
  refine callType_new F.called_enumerate (by decide) (F.typeCall_enumerate_1 _) (F.newCall_enumerate_1 _) (fun obj => F.args_object_init_2 obj _) F.entry_enumerate_new
    (meets_enumerate_new1 B) ⟨h1, ?_⟩
  have hz : (s.heap.push o).objs.size = s.heap.objs.size + 1 := Heap.size_push ..
  show _ ∧ _
  rw [hz]
  have he : IsEnum ((s.heap.push o).push { cls := .type "enumerate", data := .fields #[.none, .bool false, .ref s.heap.objs.size, rawInt 0, .none, .none] }) (s.heap.objs.size + 1) s.heap.objs.size 0 .none := by
    have := Heap.get?_push_size (s.heap.push o) (o := { cls := .type "enumerate", data := .fields #[.none, .bool false, .ref s.heap.objs.size, rawInt 0, .none, .none] }) rfl
    rw [hz] at this; exact this
  refine ⟨⟨_, he, rfl⟩, h _ he (Heap.get?_push_of_some _ (Heap.get?_push_size _ B.free)) (by rw [Heap.size_push, hz]) fun b o x => Heap.get?_push_of_some _ (Heap.get?_push_of_some _ x)⟩
end
theorem it_enum {X : Cx} {pins : List (Addr × Obj)} {σ : L2.St} {H : Hp} {s : Shared} {u0 : Value} {xs : List V} {G : Hp → Prop} {src : List Addr} {o : Obj} {SI : Addr → Nat → Heap → Prop} {elts : List Expr} {kk : Nat} {tpos : Pos} {R : It → Hp → Prop}
    (S : Sq X.prog X.w X.K u0 xs G src o SI) (J : Inv X pins σ H s) (g : G H) (q : R (ItE G xs) H) :
    wpAny (model X.prog X.w) X.A (call (.type "enumerate") [u0]) (fun v s1 => wpAny (model X.prog X.w) X.A (pyIter v) (PIE X pins σ (.Tuple elts kk tpos) R) X.xe s1) X.xe s := by
  obtain ⟨Ph, B, hB⟩ := S.beg
  have hlt := S.lt X pins σ H s rfl rfl rfl J g
  refine enum_begins1 B (hB X pins σ H s rfl rfl rfl J g) fun h' he hit hsz hk => wpAny_pyIter_enum he ?_
  have I2 : Inv X pins σ H { s with heap := h' } := J.kept (t' := s.toks) hk
  refine ⟨s.heap.objs.size + 1, [s.heap.objs.size + 1, s.heap.objs.size], _, _, H, rfl, I2, turn_enumS S (s.heap.objs.size + 1) s.heap.objs.size (fun z => absurd (hlt _ z) (Nat.not_lt.mpr (Nat.le_succ _))) (fun z => absurd (hlt _ z) (Nat.lt_irrefl _)), ⟨⟨.none, he⟩, S.start _ _ hit, Nat.succ_ne_self _, Nat.zero_le _⟩, fun b hb => ?_, q⟩
  have e' : b = s.heap.objs.size + 1 ∨ b = s.heap.objs.size := by simpa using hb
  have hle : s.heap.objs.size ≤ b := by
    rcases e' with z | z
    · rw [z]; exact Nat.le_add_right _ _
    · rw [z]; exact Nat.le_refl _
  exact J.fpOk hle (J.hok.fresh hle)

/-! ### zip of two -/
def ItZ (G1 G2 : Hp → Prop) (xs ys : List V) : It :=
  ⟨fun i H => G1 H ∧ G2 H ∧ i < xs.length ∧ i < ys.length, fun i H v H' => ∃ T x y, v = .ref T ∧ H T = none ∧ H' = upd H T (.tup [x, y]) ∧ xs[i]? = some x ∧ ys[i]? = some y, fun i H => G1 H ∧ G2 H ∧ min xs.length ys.length ≤ i⟩
theorem got {xs : List V} {its : Array Value} {i : Nat} {u : Value} (rv : Vals xs its.toList) (hlt : i < xs.length) (hu : its[i]? = some u) : ∃ x, xs[i]? = some x ∧ RelV x u := by
  obtain ⟨z, hz, rz⟩ := rv.get (List.getElem?_eq_getElem hlt)
  have hz' : its[i]? = some z := by simpa using hz
  rw [hz'] at hu
  cases hu
  exact ⟨_, List.getElem?_eq_getElem hlt, rz⟩
theorem turn_zipS {P : Program} {w : World} {K : PySem.W.Frag} {u1 u2 : Value} {xs ys : List V} {G1 G2 : Hp → Prop} {src1 src2 : List Addr} {o1 o2 : Obj} {SI1 SI2 : Addr → Nat → Heap → Prop} (S1 : Sq P w K u1 xs G1 src1 o1 SI1) (S2 : Sq P w K u2 ys G2 src2 o2 SI2)
    {elts : List Expr} {kk : Nat} {tpos : Pos} (z TI TO i1 i2 : Addr) (nd : [z, TI, TO, i1, i2].Nodup) (hs : ∀ b ∈ [z, TI, TO, i1, i2], b ∉ src1 ∧ b ∉ src2) :
    Turn P w K (.Tuple elts kk tpos) (ItZ G1 G2 xs ys) [z, TI, TO, i1, i2] z (fun i h => IsZip h z TI TO .none ∧ IsTupOf2 h TI (.ref i1) (.ref i2) ∧ (∃ x y, IsTupOf2 h TO x y) ∧ SI1 i1 i h ∧ SI2 i2 i h ∧ i ≤ min xs.length ys.length) where
  mem := by simp
  obj := fun i h st c hc => by
    obtain ⟨hz, hTI, ⟨x, y, hTO⟩, h1, h2, _⟩ := st
    have e' : c = z ∨ c = TI ∨ c = TO ∨ c = i1 ∨ c = i2 := by simpa using hc
    rcases e' with q | q | q | q | q
    · rw [q]; exact ⟨_, hz, fun v q => nomatch q⟩
    · rw [q]; exact ⟨_, hTI, fun v q => nomatch q⟩
    · rw [q]; exact ⟨_, hTO, fun v q => nomatch q⟩
    · rw [q]; exact S1.obj i1 i h h1
    · rw [q]; exact S2.obj i2 i h h2
  keep := fun i h h' st k => by
    obtain ⟨hz, hTI, ⟨x, y, hTO⟩, h1, h2, hl⟩ := st
    exact ⟨k z (by simp) _ hz, k TI (by simp) _ hTI, ⟨x, y, k TO (by simp) _ hTO⟩, S1.keep i1 i h h' h1 fun o q => k i1 (by simp) o q, S2.keep i2 i h h' h2 fun o q => k i2 (by simp) o q, hl⟩
  item := by
    intro X hP hw hK hc i pins s σ H E I hf st hg
    obtain ⟨hz, hTI, ⟨x0, y0, hTO⟩, h1, h2, _⟩ := st
    obtain ⟨g1, g2, l1, l2⟩ := hg
    obtain ⟨fp1, its1, St1, rv1, m11, m12, D1, d11, d12⟩ := S1.draws X pins σ H s hP hw hK hc I g1 i1 (hs i1 (by simp)).1
    obtain ⟨fp2, its2, St2, rv2, m21, m22, D2, d21, d22⟩ := S2.draws X pins σ H s hP hw hK hc I g2 i2 (hs i2 (by simp)).2
    have hl1 : its1.size = xs.length := by rw [rv1.length]; simp
    have hl2 : its2.size = ys.length := by rw [rv2.length]; simp
    simp only [List.nodup_cons, List.mem_cons, List.not_mem_nil, or_false, not_or, not_false_eq_true, List.nodup_nil, and_true] at nd
    obtain ⟨⟨n1, n2, n3, n4⟩, ⟨n5, n6, n7⟩, ⟨n8, n9⟩, n10⟩ := nd
    have nf1 : ∀ b, b ∈ [z, TI, TO, i1, i2] → b ≠ i1 → b ∉ fp1 := fun b mb hb q => by
      rcases m12 b q with q | q
      · exact hb q
      · exact (hs b mb).1 q
    have nf2 : ∀ b, b ∈ [z, TI, TO, i1, i2] → b ≠ i2 → b ∉ fp2 := fun b mb hb q => by
      rcases m22 b q with q | q
      · exact hb q
      · exact (hs b mb).2 q
    have Z : ZipSep2 z TI TO i1 i2 fp1 fp2 := ⟨fun q => n1 q.symm, fun q => n2 q.symm, n5, n6, m11, nf1 z (by simp) n3, nf1 TO (by simp) n8, n7, m21, nf2 z (by simp) n4, nf2 TO (by simp) n9, nf2 i1 (by simp) n10, nf1 i2 (by simp) (fun q => n10 q.symm)⟩
    subst hP hw hK
    have hzl : z < s.heap.objs.size := Heap.lt_size hz
    have il1 : i1 < s.heap.objs.size := by obtain ⟨_, q, _⟩ := S1.obj i1 i _ h1; exact Heap.lt_size q
    have il2 : i2 < s.heap.objs.size := by obtain ⟨_, q, _⟩ := S2.obj i2 i _ h2; exact Heap.lt_size q
    refine wpAny_pyNext_zipD2_item Z D1 D2 hz hTI hTO (d11 i h1) (d21 i h2) (by omega) (by omega) fun v1 v2 h' tk y1 y2 b1 b2 e1 e2 b5 hsz hk => ?_
    obtain ⟨x, hx, ru⟩ := got rv1 l1 y1
    obtain ⟨y, hy, ru2⟩ := got rv2 l2 y2
    refine ⟨_, rfl, wpAny_letOwnedTupleGo_zip (s := { s with heap := h', toks := tk }) b1 fun h'' z'' sb => ?_⟩
    have hT2 : h''.get? s.heap.objs.size = some { cls := .type "tuple", data := .seq #[v1, v2] } := (sb.2 _ (Nat.ne_of_gt hzl)).trans b5
    have new : ObjOk X.prog X.w (upd H s.heap.objs.size (.tup [x, y])) h'' s.heap.objs.size (.tup [x, y]) :=
      ⟨by show 2 ≤ sizeLine; decide, [v1, v2], .cons ru (.cons ru2 .nil), ⟨_, hT2, rfl, _, rfl⟩⟩
    have I1 : Inv X pins σ (upd H s.heap.objs.size (.tup [x, y])) { s with heap := h'', toks := tk } :=
      I.turnedNew (ch := [z, TI, TO, i1, i2]) (fun c o hb q => (sb.2 c (fun q' => hb (by simp [q']))).trans (hk c o (fun q' => hb (by simp [q'])) (fun q' => hb (by simp [q'])) (fun q' => hb (by simp [q'])) (fun q' => hb (by simp [q'])) q)) hf (Nat.le_refl _) new
    refine ⟨.ref s.heap.objs.size, _, I1, rfl, ⟨_, x, y, rfl, I.hok.fresh (Nat.le_refl _), rfl, hx, hy⟩, ⟨z'', (sb.2 _ Z.TIz).trans (hk _ _ Z.TIz Z.TITO Z.TIi1 Z.TIi2 hTI), ⟨v1, v2, (sb.2 _ Z.TOz).trans b2⟩, S1.keep i1 (i + 1) h' h'' (d12 _ _ e1) fun o q => (sb.2 _ fun e => n3 e.symm).trans q, S2.keep i2 (i + 1) h' h'' (d22 _ _ e2) fun o q => (sb.2 _ fun e => n4 e.symm).trans q, by omega⟩, fun c hcm => ?_⟩
    have hlt : c < s.heap.objs.size := by
      have e' : c = z ∨ c = TI ∨ c = TO ∨ c = i1 ∨ c = i2 := by simpa using hcm
      rcases e' with q | q | q | q | q
      · rw [q]; exact hzl
      · rw [q]; exact Heap.lt_size hTI
      · rw [q]; exact Heap.lt_size hTO
      · rw [q]; exact il1
      · rw [q]; exact il2
    rw [upd_ne (Nat.ne_of_lt hlt)]
    exact (hf c hcm).1
  done := by
    intro X hP hw hK hc i pins s σ H E I hf st hg
    obtain ⟨hz, hTI, ⟨x0, y0, hTO⟩, h1, h2, hle⟩ := st
    obtain ⟨g1, g2, hge⟩ := hg
    obtain ⟨fp1, its1, St1, rv1, m11, m12, D1, d11, d12⟩ := S1.draws X pins σ H s hP hw hK hc I g1 i1 (hs i1 (by simp)).1
    obtain ⟨fp2, its2, St2, rv2, m21, m22, D2, d21, d22⟩ := S2.draws X pins σ H s hP hw hK hc I g2 i2 (hs i2 (by simp)).2
    have hl1 : its1.size = xs.length := by rw [rv1.length]; simp
    have hl2 : its2.size = ys.length := by rw [rv2.length]; simp
    simp only [List.nodup_cons, List.mem_cons, List.not_mem_nil, or_false, not_or, not_false_eq_true, List.nodup_nil, and_true] at nd
    obtain ⟨⟨n1, n2, n3, n4⟩, ⟨n5, n6, n7⟩, ⟨n8, n9⟩, n10⟩ := nd
    have nf1 : ∀ b, b ∈ [z, TI, TO, i1, i2] → b ≠ i1 → b ∉ fp1 := fun b mb hb q => by
      rcases m12 b q with q | q
      · exact hb q
      · exact (hs b mb).1 q
    have nf2 : ∀ b, b ∈ [z, TI, TO, i1, i2] → b ≠ i2 → b ∉ fp2 := fun b mb hb q => by
      rcases m22 b q with q | q
      · exact hb q
      · exact (hs b mb).2 q
    have Z : ZipSep2 z TI TO i1 i2 fp1 fp2 := ⟨fun q => n1 q.symm, fun q => n2 q.symm, n5, n6, m11, nf1 z (by simp) n3, nf1 TO (by simp) n8, n7, m21, nf2 z (by simp) n4, nf2 TO (by simp) n9, nf2 i1 (by simp) n10, nf1 i2 (by simp) (fun q => n10 q.symm)⟩
    subst hP hw hK
    exact wpAny_pyNext_zipD2_end Z D1 D2 hz hTI hTO (d11 i h1) (d21 i h2) (by omega) (by omega) (by omega) fun h' tk hk => ⟨rfl, I.turnedL (t' := tk) (ch := [z, TI, TO, i1, i2]) (fun c o hb q =>
      hk c o (fun q' => hb (by simp [q'])) (fun q' => hb (by simp [q'])) (fun q' => hb (by simp [q'])) (fun q' => hb (by simp [q'])) q) hf⟩
  self := fun A i s Q E st h => wpAny_pyIter_zip st.1 h
theorem it_zip {X : Cx} {pins : List (Addr × Obj)} {σ : L2.St} {H : Hp} {s : Shared} {u1 u2 : Value} {xs ys : List V} {G1 G2 : Hp → Prop} {src1 src2 : List Addr} {o1 o2 : Obj} {SI1 SI2 : Addr → Nat → Heap → Prop} {elts : List Expr} {kk : Nat} {tpos : Pos} {R : It → Hp → Prop}
    (S1 : Sq X.prog X.w X.K u1 xs G1 src1 o1 SI1) (S2 : Sq X.prog X.w X.K u2 ys G2 src2 o2 SI2) (J : Inv X pins σ H s) (g1 : G1 H) (g2 : G2 H) (q : R (ItZ G1 G2 xs ys) H) :
    wpAny (model X.prog X.w) X.A (call (.type "zip") [u1, u2]) (fun v s1 => wpAny (model X.prog X.w) X.A (pyIter v) (PIE X pins σ (.Tuple elts kk tpos) R) X.xe s1) X.xe s := by
  obtain ⟨Ph1, B1, hB1⟩ := S1.beg
  obtain ⟨Ph2, B2, hB2⟩ := S2.beg
  have hlt1 := S1.lt X pins σ H s rfl rfl rfl J g1
  have hlt2 := S2.lt X pins σ H s rfl rfl rfl J g2
  refine zip_begins2 B1 B2 (hB1 X pins σ H s rfl rfl rfl J g1) (hB2 X pins σ H s rfl rfl rfl J g2) fun h' hz hTI hTO hi1 hi2 hsz hk => wpAny_pyIter_zip hz ?_
  have I2 : Inv X pins σ H { s with heap := h' } := J.kept (t' := s.toks) hk
  have new : ∀ b ∈ [s.heap.objs.size + 4, s.heap.objs.size + 2, s.heap.objs.size + 3, s.heap.objs.size, s.heap.objs.size + 1], s.heap.objs.size ≤ b := fun b hb => by
    have e' : b = s.heap.objs.size + 4 ∨ b = s.heap.objs.size + 2 ∨ b = s.heap.objs.size + 3 ∨ b = s.heap.objs.size ∨ b = s.heap.objs.size + 1 := by simpa using hb
    omega
  refine ⟨s.heap.objs.size + 4, _, _, _, H, rfl, I2, turn_zipS S1 S2 (s.heap.objs.size + 4) (s.heap.objs.size + 2) (s.heap.objs.size + 3) s.heap.objs.size (s.heap.objs.size + 1) (by simp) (fun b hb => ⟨fun z => ?_, fun z => ?_⟩), ⟨hz, hTI, ⟨_, _, hTO⟩, S1.start _ _ hi1, S2.start _ _ hi2, Nat.zero_le _⟩, fun b hb => J.fpOk (new b hb) (J.hok.fresh (new b hb)), q⟩
  · exact absurd (hlt1 b z) (Nat.not_lt.mpr (new b hb))
  · exact absurd (hlt2 b z) (Nat.not_lt.mpr (new b hb))

/-! ### by values -/
def seqD : PyData → Option (List PyData)
  | .list ds => some ds
  | .tuple ds => some ds
  | _ => none
def enumD (xs : List PyData) : List PyData := xs.zipIdx.map fun p => .tuple [.int (p.2 : Nat), p.1]
def zipD (xs ys : List PyData) : List PyData := (xs.zip ys).map fun p => .tuple [p.1, p.2]
def iEnumS (tp : TPs) : TIs := fun σs Q ES => tp σs (fun ds σ1 => match ds with
  | [d] => nd (seqD d) fun xs => Q (enumD xs) σ1
  | _ => False) ES
def iZipS (tp : TPs) : TIs := fun σs Q ES => tp σs (fun ds σ1 => match ds with
  | [d, e] => nd (seqD d) fun xs => nd (seqD e) fun ys => Q (zipD xs ys) σ1
  | _ => False) ES
section
variable {X : Cx} {ar : Nat → Option V} {e e2 : Expr} {tp : TPs} {b : Bool} {p pos tpos : Pos} {elts : List Expr} {kk : Nat}
/-- pure data that can be walked -/
theorem seq_of {I : Hp} {v : V} {d : PyData} {xs : List PyData} {u : Value} (h : PR X.K I v d) (e : seqD d = some xs) (r : RelV v u) :
    ∃ (vs : List V) (G : Hp → Prop) (src : List Addr) (o : Obj) (SI : Addr → Nat → Heap → Prop), Sq X.prog X.w X.K u vs G src o SI ∧ PRs X.K I vs xs ∧ ∀ H, Sub I H → G H := by
  cases h with
  | tup hq p =>
    cases e
    cases r
    exact ⟨_, _, _, _, _, sq_tup _ _, p, fun H sb => SqT.sub sb hq⟩
  | lst hq p =>
    cases e
    cases r
    exact ⟨_, _, _, _, _, sq_list _ _, p, fun H sb => SqL.of (sb _ _ hq)⟩
  | _ => cases e
theorem walk_enumS {K : PySem.W.Frag} {I : Hp} {G : Hp → Prop} {vs : List V} {xs : List PyData} (p : PRs K I vs xs) (g : ∀ H, Sub I H → G H) : Walk K I (ItE G vs) (enumD xs) := by
  have ll := p.length
  have le : (enumD xs).length = xs.length := by unfold enumD; simp
  refine ⟨fun I1 H1 s1 s2 i d e => ?_, fun I1 H1 s1 s2 i hi => ⟨g _ (s1.trans s2), by omega⟩⟩
  have hlt : i < xs.length := by
    have := (List.getElem?_eq_some_iff.mp e).1
    omega
  refine ⟨⟨g _ (s1.trans s2), by omega⟩, fun x H3 ⟨T, y, ev, hT, eH, hy⟩ => ?_⟩
  subst ev eH
  obtain ⟨dy, ed, py⟩ := p.getV hy
  have e1 : d = .tuple [.int (i : Nat), dy] := by
    unfold enumD at e
    rw [List.getElem?_map, List.getElem?_zipIdx, ed] at e
    have := Option.some.inj e
    rw [← this]
    simp
  subst e1
  have hI : I1 T = none := sub_none s2 hT
  refine ⟨upd I1 T (.tup [.int (i : Nat), y]), upd_grow hI, upd_sub s2, upd_grow hT, fun a x e => ?_, .tup (SqT.of upd_same) (.cons (.int _) (.cons (py.sub (s1.trans (upd_grow hI))) .nil))⟩
  by_cases ea : a = T
  · subst ea
    exact .inr hT
  · rw [upd_ne ea] at e
    exact .inl e
theorem walk_zipS {K : PySem.W.Frag} {I : Hp} {G1 G2 : Hp → Prop} {vs ws : List V} {xs ys : List PyData} (p : PRs K I vs xs) (p2 : PRs K I ws ys) (g : ∀ H, Sub I H → G1 H) (g2 : ∀ H, Sub I H → G2 H) : Walk K I (ItZ G1 G2 vs ws) (zipD xs ys) := by
  have ll := p.length
  have ll2 := p2.length
  have le : (zipD xs ys).length = min xs.length ys.length := by unfold zipD; simp
  refine ⟨fun I1 H1 s1 s2 i d e => ?_, fun I1 H1 s1 s2 i hi => ⟨g _ (s1.trans s2), g2 _ (s1.trans s2), by omega⟩⟩
  have hlt : i < min xs.length ys.length := by
    have := (List.getElem?_eq_some_iff.mp e).1
    omega
  refine ⟨⟨g _ (s1.trans s2), g2 _ (s1.trans s2), by omega, by omega⟩, fun x H3 ⟨T, x0, y, ev, hT, eH, hx, hy⟩ => ?_⟩
  subst ev eH
  obtain ⟨dx, edx, px⟩ := p.getV hx
  obtain ⟨dy, ed, py⟩ := p2.getV hy
  have e1 : d = .tuple [dx, dy] := by
    unfold zipD at e
    have ez : (xs.zip ys)[i]? = some (dx, dy) := List.getElem?_zip_eq_some.mpr ⟨edx, ed⟩
    rw [List.getElem?_map, ez] at e
    exact (Option.some.inj e).symm
  subst e1
  have hI : I1 T = none := sub_none s2 hT
  refine ⟨upd I1 T (.tup [x0, y]), upd_grow hI, upd_sub s2, upd_grow hT, fun a x e => ?_, .tup (SqT.of upd_same) (.cons (px.sub (s1.trans (upd_grow hI))) (.cons (py.sub (s1.trans (upd_grow hI))) .nil))⟩
  by_cases ea : a = T
  · subst ea
    exact .inr hT
  · rw [upd_ne ea] at e
    exact .inl e
theorem ji_enum (hg : Gl X "enumerate") (hm : X.mg "enumerate" = none) (ha : JA X ar b [e] tp) (hs : starEach [e] X.env = [(false, eval e X.env)] := by rfl) : JI X ar (.Tuple elts kk tpos) (.Call (.Name "enumerate" p) [e] [] pos) (iEnumS tp) := by
  refine ⟨fun pins s σ H R J ⟨I, F, σs, Qk, ES, st, tx, q, f⟩ => ?_⟩
  refine Call_ (ld_blt J hg hm boot_enumerate (PyProof.Rows.callWith_type1 (thn (ha.run pos pins s σ I H F σs _ ES J st tx q) fun us s1 ⟨vs, ds, I1, H1, F1, σ1, d, rv, pv, q1⟩ => ?_) hs rfl))
  rcases ds with _ | ⟨d1, _ | ⟨d2, dr⟩⟩
  · exact (show False from q1).elim
  · obtain ⟨xs, ex, q1⟩ := nd_some (show nd (seqD d1) fun xs => Qk (enumD xs) σ1 from q1)
    obtain ⟨v, ev, pd⟩ := pv.oneV
    subst ev
    obtain ⟨u, rfl, ru⟩ := vals1 rv
    obtain ⟨ws, G, src, o, SI, S, pw, g⟩ := seq_of pd ex ru
    exact it_enum S d.inv (g _ d.st.sub) (f I1 H1 F1 σ1 _ _ d.evo d.st (walk_enumS pw g) q1)
  · exact (show False from q1).elim
theorem ji_zip (hg : Gl X "zip") (hm : X.mg "zip" = none) (ha : JA X ar b [e, e2] tp) (hs : starEach [e, e2] X.env = (false, eval e X.env) :: starEach [e2] X.env := by rfl) (hpl : (backTo pos (starEach [e2] X.env)).any (·.1) = false := by rfl) :
    JI X ar (.Tuple elts kk tpos) (.Call (.Name "zip" p) [e, e2] [] pos) (iZipS tp) := by
  refine ⟨fun pins s σ H R J ⟨I, F, σs, Qk, ES, st, tx, q, f⟩ => ?_⟩
  refine Call_ (ld_blt J hg hm PyProof.Rows.boot_zip (PyProof.Rows.callWith_type1 (thn (ha.run pos pins s σ I H F σs _ ES J st tx q) fun us s1 ⟨vs, ds, I1, H1, F1, σ1, d, rv, pv, q1⟩ => ?_) hs hpl))
  rcases ds with _ | ⟨d1, _ | ⟨d2, _ | ⟨d3, dr⟩⟩⟩
  · exact (show False from q1).elim
  · exact (show False from q1).elim
  · obtain ⟨xs, ex, q1⟩ := nd_some (show nd (seqD d1) fun xs => nd (seqD d2) fun ys => Qk (zipD xs ys) σ1 from q1)
    obtain ⟨ys, ey, q1⟩ := nd_some q1
    cases pv with
    | cons pd pt =>
      obtain ⟨v2, ev, pd2⟩ := pt.oneV
      subst ev
      obtain ⟨u, u2, rfl, ru, ru2⟩ := vals2 rv
      obtain ⟨ws, G, src, o, SI, S, pw, g⟩ := seq_of pd ex ru
      obtain ⟨ws2, G2, src2, o2, SI2, S2, pw2, g2⟩ := seq_of pd2 ey ru2
      exact it_zip S S2 d.inv (g _ d.st.sub) (g2 _ d.st.sub) (f I1 H1 F1 σ1 _ _ d.evo d.st (walk_zipS pw pw2 g g2) q1)
  · exact (show False from q1).elim
end
end SV
/-! SvW: targets in assignments; items stored; isinstance; index, count; sorted of a tuple; a def picked from a list. -/
namespace PySem.W
open PySem PySem.Calls PyProof.Rows
section
variable {prog : Program} {w : World} {A : Around} {E : Value → Shared → Prop} {s : Shared} {β : Type} {bs : List β} {enc : β → PyData} {R : Value → β → Prop}
theorem collect_tupleS {l : Addr} {vs : List Value} {Q : List Value → Shared → Prop} (hl : s.heap.IsTuple l vs.toArray)
    (h : Q vs { s with heap := (s.heap.push (seqObj "list" #[] 0)).update s.heap.objs.size (Obj.mapSeq (· ++ vs.toArray)) }) (hsz : vs.length ≤ sizeLine) :
    wpAny (model prog w) A (collect (.ref l)) Q E s := by
  obtain ⟨o, ho, hc, n, hd⟩ := id hl
  unfold collect
  refine wpAny_bind (wpAny_runValue (codeAny_builtin entry_proto_collect' ?_))
  show wpAny _ _ (do again (.builtin "list.__iadd__" ⟨[← newList [], .ref l], []⟩)) _ _ s
  refine wpAny_bind (wpAny_newList (wpAny_pure ⟨Code.quiet_builtin _ (by decide +kernel), codeAny_builtin entry_list_iadd' ?_⟩))
  show wpAny _ _ (Builtin.List.listExtendWith (.ref s.heap.objs.size) (.ref l) (.ref s.heap.objs.size)) _ _ { s with heap := s.heap.push (seqObj "list" #[] 0) }
  unfold Builtin.List.listExtendWith
  have ho' : (s.heap.push (seqObj "list" #[] 0)).get? l = some o := Heap.get?_push_of_some _ ho
  refine wpAny_bind (wpAny_typeOf (T := "tuple") ⟨o, ho', hc⟩ ?_)
  have ht : (Value.type "tuple" == Value.type "tuple") = true := by rfl
  rw [if_pos (by rw [ht]; simp)]
  refine wpAny_bind (listItems_at ho' hd ?_)
  refine wpAny_bind (listItems_at (xs := #[]) (n := 0) (Heap.get?_push_size _ rfl) rfl ?_)
  rw [if_neg (by simp)]
  refine wpAny_bind (listUpdate_at (xs := #[]) (n := 0) (Heap.get?_push_size _ rfl) rfl ?_ (Nat.zero_le _) (by show (#[] ++ vs.toArray).size ≤ sizeLine + 1; simp only [Array.size_append, List.size_toArray, List.length_nil]; omega))
  refine wpAny_pure ?_
  show wpAny (model prog w) A (do
      let o ← load s.heap.objs.size
      match o.data with
      | .seq xs _ => pure xs.toList
      | _ => unsupported "internal:collect") Q E { s with heap := (s.heap.push (seqObj "list" #[] 0)).update s.heap.objs.size (Obj.mapSeq (· ++ vs.toArray)) }
  refine wpAny_bind (wpAny_load (get?_update_seq (Heap.get?_push_size _ rfl) _) ?_)
  show wpAny _ _ (pure ((#[] : Array Value) ++ vs.toArray).toList) Q E _
  rw [show ((#[] : Array Value) ++ vs.toArray).toList = vs by simp]
  exact wpAny_pure h
theorem sorted_of_sortT {l : Addr} {vs : List Value} {Q : Value → Shared → Prop} (hl : s.heap.IsTuple l vs.toArray) (hL : vs.length ≤ sizeLine)
    (body : ∀ E' : Value → Shared → Prop, wpAny (model prog w) A.in1.in1 (Builtin.«list.sort» ⟨[.ref (s.heap.objs.size + 1)], []⟩) (fun f s' => f = .done (.ret .none) ∧ Q (.ref (s.heap.objs.size + 1)) s') E' { s with heap := copyHeap s.heap vs }) :
    wpAny (model prog w) A (call (.builtin "sorted") [.ref l] []) Q E s := by
  refine call_function_entry_kw kind_sorted plain_sorted entry_sorted (args_sorted1 _) ?_
  unfold Builtin.«sorted»
  refine wpAny_bind (m := checkCount "sorted" 1 1 _) (wpAny_pure ?_)
  refine wpAny_bind (collect_tupleS hl ?_ hL)
  refine wpAny_bind (wpAny_newList ?_ hL)
  have hsz : ((s.heap.push (seqObj "list" #[] 0)).update s.heap.objs.size (Obj.mapSeq (· ++ vs.toArray))).objs.size = s.heap.objs.size + 1 := by
    rw [Heap.size_update, size_push']
  show wpAny _ _ _ _ _ { s with heap := copyHeap s.heap vs }
  rw [hsz]
  refine wpAny_bind (wpAny_holding (wpAny_call_entry_kw slot_list_sort ⟨_, copyHeap_at s.heap vs, rfl⟩ entry_list_sort ?body (args_list_sort _)))
  case body =>
    show wpAny (model prog w) A.in1.in1 (Builtin.«list.sort» ⟨[.ref (s.heap.objs.size + 1)], []⟩) _ _ _
    refine wpAny_mono (body _) (fun f s' hf => ?_) fun _ _ e => e
    obtain ⟨rfl, hq⟩ := hf
    exact ⟨_, rfl, wpAny_pure ⟨_, rfl, hq⟩⟩
theorem sorted_dataT {l : Addr} {vs : List Value} {Q : Value → Shared → Prop} (hl : s.heap.IsTuple l vs.toArray) (e : EachIs R vs bs) (er : EachIs (fun v b => ∃ as, Reads s.heap v (enc b) as) vs bs) (hal : AllAlike (bs.map enc)) (hk : Sortable (bs.map enc)) (hL : bs.length ≤ sizeLine)
    (hu : ∀ b, b ∈ bs → A.units + 2 + (enc b).depth < cLine) (h : ∀ out, out.length = bs.length → EachIs R out (bs.mergeSort (dataLe false enc)) → Q (.ref (s.heap.objs.size + 1)) { s with heap := sortedAll s.heap vs (List.toArray out) }) :
    wpAny (model prog w) A (call (.builtin "sorted") [.ref l]) Q E s := by
  have er' : EachIs (fun v b => ∃ as, Reads (sortingHeap (copyHeap s.heap vs) (s.heap.objs.size + 1) vs) v (enc b) as) vs bs := er.mono fun _ _ ⟨as, r⟩ => ⟨as, PyProof.Rows.Reads.keeps (fun _ _ => sorting_copy_old) r⟩
  have hL' : vs.length ≤ sizeLine := by rw [e.length]; exact hL
  exact sorted_of_sortT hl hL' fun _ => list_sort_vals (s := { s with heap := copyHeap s.heap vs }) (copyHeap_at s.heap vs) (SortsAt.data (s := { s with heap := sortingHeap (copyHeap s.heap vs) (s.heap.objs.size + 1) vs }) (each_map (R := fun v d => ∃ as, Reads (sortingHeap (copyHeap s.heap vs) (s.heap.objs.size + 1) vs) v d as) enc er') hal hk (bound_map hu)) hL'
    ⟨rfl, h _ (by rw [sortVals_length false rfl]; exact e.length) (sortVals_data false e er' hal)⟩
end
end PySem.W
namespace SV
open PySem PySem.Spec PyProof.Rows L2
/-! ### sorted -/
def rSortedA : RNs
  | [.list xs], Q => SortOk xs ∧ Q (.lst (sortD xs))
  | [.tuple xs], Q => SortOk xs ∧ Q (.lst (sortD xs))
  | _, _ => False
theorem c_sortedA {X : Cx} (hu : X.A.units + 64 < cLine) : OpN X (fun us => call (.builtin "sorted") us) rSortedA := by
  intro pins s σ H I xs us ds Q J sb rv pv q
  rcases ds with _ | ⟨d, _ | ⟨d2, dr⟩⟩
  · exact (show False from q).elim
  · cases d with
    | list ds => exact c_sorted hu pins s σ H I xs us [.list ds] Q J sb rv pv q
    | tuple ds =>
      obtain ⟨x, e, p⟩ := pv.one
      subst e
      obtain ⟨u, rfl, ru⟩ := vals1 rv
      cases p with
      | @tup a vs ds h p =>
        cases ru
        obtain ⟨ok, q⟩ := q
        obtain ⟨its, rvs, pl, hz⟩ := J.tuple (SqT.sub sb h)
        have eb := each_of rvs p
        refine PySem.W.sorted_dataT (vs := its) (enc := fun d => d) pl eb (eb.mono fun u d ⟨v, r, pr⟩ => pr.reads J sb r) (by rw [List.map_id']; exact ok.al) (by rw [List.map_id']; exact ok.so) (by rw [← p.length]; exact hz) (fun b hb => by have := ok.dep b hb; omega) fun out hl eo => ?_
        obtain ⟨ws, rws, pws⟩ := of_each eo
        obtain ⟨ep, he⟩ := sortedAll_at s.heap its out.toArray
        have hlen : ws.length ≤ sizeLine := by rw [rws.length, hl, ← p.length]; exact hz
        exact ⟨.ref _, upd H (s.heap.objs.size + 1) (.lst ws), J.laid (t' := s.toks) (fun _ _ => sortedAll_old) (Nat.le_succ _) ⟨hlen, out, ep, rws, he⟩, rfl, .newLst sb (J.hok.fresh (Nat.le_succ _)) pws q⟩
    | _ => exact (show False from q).elim
  · cases d <;> exact (show False from q).elim

/-! ### target = value -/
section
variable {X : Cx} {ar : Nat → Option V} {e : Expr} {te : TEs} {b1 b2 : Bool} {pos : Pos}
theorem Evo.frz {K : PySem.W.Frag} {I H I' H' : Hp} {F F' : Nat → List Addr} {R : List Addr} {σ : L2.St} {σs' : SSt} {v : V} {r : S} {d : PyData} (ev : Evo I H (own F) I' H' (fun a => a ∈ R ∨ own F' a)) (st' : StR K ar I' H' σ σs' F') (sr : SR K I' H' v r R)
    (nf : ∀ a ∈ R, ¬ own F' a) (n : ∀ a ∈ R, I' a = none) (ed : r.toD = some d) : PR K (fz I' H' R) v d ∧ StR K ar (fz I' H' R) H' σ σs' F' ∧ Evo I H (own F) (fz I' H' R) H' (own F') := by
  refine ⟨sr.freeze ed n, st'.keep (fz_sub st'.sub) (sub_fz n) (fun _ _ _ z => z) fun a m => ?_, ev.up.trans (sub_fz n), ev.fr, fun a m => ev.nw a (.inr m), fun a x q => ?_⟩
  · rw [fz_out fun z => nf a z m]
    exact st'.ownI m
  · unfold fz at q
    split at q
    · rename_i m
      exact .inr (ev.nw a (.inl m))
    · exact ev.ni a x q
def sAsg (te : TEs) (g : TGt) : TSs := fun σs D ES => te σs (fun r σ1 => nd r.toD fun d => nd (g d σ1) fun σ2 => D.nx σ2) ES
theorem js_asg {tg : Expr} {g : TGt} {ts : List Nat} (he : JE X ar b1 true e te) (hg : JG X ar tg g ts) (hs : swapsWithSole [tg] e pos.line X.env = pure false := by rfl) (hw : swappedStores [tg] e X.env = pure none := by rfl)
    (h1 : (assignEach [tg] X.env).map (·.2) = [assign tg X.env] := by rfl) : JS X ar (.Assign [tg] e pos) (sAsg te g) := by
  refine ⟨fun pins s σ H D J ⟨I, F, σs, Ds, ES, st, tx, q, r⟩ => ?_⟩
  refine (ps_asg he.pe hg hs hw h1).run pins s σ H D J ⟨I, F, σs, _, ES, st, tx, q, fun v r' R I' H' F' σs' ev st' sr nf nI q' => ?_⟩
  obtain ⟨d, ed, q'⟩ := nd_some q'
  obtain ⟨σ2, e2, q'⟩ := nd_some q'
  obtain ⟨p, st2, ev2⟩ := ev.frz st' sr (nf rfl) nI ed
  refine ⟨_, F', σs', d, σ2, st2, p, e2, fun σ'' F'' l k o st'' => ?_⟩
  exact r.nx _ _ ⟨_, F'', σ2, ev2.sameo o, st'', q'⟩
/-- xs[k] = v, xs an own list -/
def sSetI (i : Nat) (te tx : TEs) : TSs := fun σs D ES => te σs (fun r σ1 => nd r.toD fun d => match gets σ1 i with
  | some (.lst _) => tx σ1 (fun r2 σ2 => match r2, gets σ2 i with
    | .val (.int k), some (.lst ds) => need (ixN ds.length k) fun j => D.nx (sets σ2 i (some (.lst (ds.set j d))))
    | _, _ => False) ES
  | _ => False) ES
theorem js_seti (i : Nat) {x : Str} {ix : Expr} {tx : TEs} {np sp : Pos} {m2 : Bool} (he : JE X ar b1 true e te) (hx : JE X ar b2 m2 ix tx) (hN : X.N[i]? = some x := by rfl) (hv : Vis X.env.scope x := by first | exact Or.inl rfl | exact Or.inr (Or.inl rfl) | exact Or.inr (Or.inr rfl)) (hd : (x == ("__debug__" : Str)) = false := by decide)
    (hcd : (x == ("__classdict__" : Str)) = false := by decide)
    (ha : ∀ v, assign (.Subscript (.Name x np) ix sp) X.env v = (do
      let ov ← holding [v] (eval (.Name x np) X.env)
      let iv ← holding [v, ov] (eval ix X.env)
      standAt sp
      holding [v, ov, iv] (setItem ov iv v)
      release [v, ov, iv] []) := by intro _; rfl)
    (hs : swapsWithSole [.Subscript (.Name x np) ix sp] e pos.line X.env = pure false := by rfl) (hw : swappedStores [.Subscript (.Name x np) ix sp] e X.env = pure none := by rfl)
    (h1 : (assignEach [.Subscript (.Name x np) ix sp] X.env).map (·.2) = [assign (.Subscript (.Name x np) ix sp) X.env] := by rfl) : JS X ar (.Assign [.Subscript (.Name x np) ix sp] e pos) (sSetI i te tx) := by
  refine ⟨fun pins s σ H D J ⟨I, F, σs, Ds, ES, st, tx0, q, r⟩ => ?_⟩
  refine (ps_asg he.pe (pg_sub (pe_var (i := i) hN hv hd hcd) hx.pe set_list ha) hs hw h1).run pins s σ H D J ⟨I, F, σs, _, ES, st, tx0, q, fun v r' R I' H' F' σs' ev st' sr nf nI q' => ?_⟩
  obtain ⟨d, ed, q'⟩ := nd_some q'
  obtain ⟨p, st2, ev2⟩ := ev.frz st' sr (nf rfl) nI ed
  cases g0 : gets σs' i with
  | none => rw [g0] at q'; exact q'.elim
  | some r0 =>
    rw [g0] at q'
    cases r0 with
    | lst ds0 =>
      obtain ⟨w, e1, sr1⟩ := st2.rep i _ g0
      obtain ⟨a, vs0, rfl, eF0, hH0, p0⟩ := sr1.lst_inv
      refine ⟨.ref a, e1, _, F', σs', _, ES, st2, tx0.go ev2 fun _ z => z, q', fun v2 r2 R2 I2 H2 F2 σ2 ev3 st3 sr3 nf3 nI3 q3 => ?_⟩
      cases r2 with
      | val d2 =>
        obtain ⟨eR, p2⟩ := sr3.val_inv
        subst eR
        cases d2 with
        | int k =>
          cases p2
          cases g2 : gets σ2 i with
          | none => rw [g2] at q3; exact q3.elim
          | some r3 =>
            rw [g2] at q3
            cases r3 with
            | lst ds =>
              obtain ⟨w2, e2, sr2⟩ := st3.rep i _ g2
              obtain ⟨a2, vs2, rfl, eF2, hH2, pp2⟩ := sr2.lst_inv
              rw [e1] at e2
              cases e2
              obtain ⟨j, ej, q4⟩ := need_some q3
              obtain ⟨st4, ev4⟩ := st3.mutate g2 e1 eF2 (pp2.set j (p.sub ev3.up))
              refine ⟨a, vs2, k, j, rfl, rfl, hH2, by rw [pp2.length]; exact ej, ?_⟩
              exact r.nx _ _ ⟨_, F2, _, (ev2.trans ev3.drop (fun _ z => z) (fun _ z => .inr z)).trans ev4 (fun _ z => z) (fun _ z => .inr z), st4, q4⟩
            | _ => exact q3.elim
        | _ => exact q3.elim
      | _ => exact q3.elim
    | _ => exact q'.elim
end
/-! ### isinstance of a built-in type -/
def tyN : PyData → String
  | .none => "NoneType"
  | .bool _ => "bool"
  | .int _ => "int"
  | .str _ => "str"
  | .list _ => "list"
  | .tuple _ => "tuple"
  | .dict _ => "dict"
def isLst : PyData → Bool
  | .list _ => true
  | _ => false
def isTup : PyData → Bool
  | .tuple _ => true
  | _ => false
def isStr : PyData → Bool
  | .str _ => true
  | _ => false
theorem kit_lst (d : PyData) : kitB (tyN d) "list" = some (isLst d) := by
  cases d with
  | none => exact (by decide +kernel : kitB "NoneType" "list" = some false)
  | bool b => exact (by decide +kernel : kitB "bool" "list" = some false)
  | int i => exact (by decide +kernel : kitB "int" "list" = some false)
  | str x => exact (by decide +kernel : kitB "str" "list" = some false)
  | list xs => exact (by decide +kernel : kitB "list" "list" = some true)
  | tuple xs => exact (by decide +kernel : kitB "tuple" "list" = some false)
  | dict xs => exact (by decide +kernel : kitB "dict" "list" = some false)
theorem kit_tup (d : PyData) : kitB (tyN d) "tuple" = some (isTup d) := by
  cases d with
  | none => exact (by decide +kernel : kitB "NoneType" "tuple" = some false)
  | bool b => exact (by decide +kernel : kitB "bool" "tuple" = some false)
  | int i => exact (by decide +kernel : kitB "int" "tuple" = some false)
  | str x => exact (by decide +kernel : kitB "str" "tuple" = some false)
  | list xs => exact (by decide +kernel : kitB "list" "tuple" = some false)
  | tuple xs => exact (by decide +kernel : kitB "tuple" "tuple" = some true)
  | dict xs => exact (by decide +kernel : kitB "dict" "tuple" = some false)
theorem kit_str (d : PyData) : kitB (tyN d) "str" = some (isStr d) := by
  cases d with
  | none => exact (by decide +kernel : kitB "NoneType" "str" = some false)
  | bool b => exact (by decide +kernel : kitB "bool" "str" = some false)
  | int i => exact (by decide +kernel : kitB "int" "str" = some false)
  | str x => exact (by decide +kernel : kitB "str" "str" = some true)
  | list xs => exact (by decide +kernel : kitB "list" "str" = some false)
  | tuple xs => exact (by decide +kernel : kitB "tuple" "str" = some false)
  | dict xs => exact (by decide +kernel : kitB "dict" "str" = some false)
theorem AR.tyx {K : PySem.W.Frag} {I H : Hp} {v : V} {d : PyData} (sb : Sub I H) (h : AR K I H v d) : TyX K H v (.type (tyN d)) := by
  cases h with
  | non => exact .base .non
  | bl b => exact .base (.bl b)
  | int i => exact .base (.int i)
  | str x _ _ => exact .base (.str x)
  | tup h p =>
    rcases SqT.sub sb h with (h | ⟨o, h⟩) | h
    · exact .base (.tup h)
    · exact .fTuple h
    · obtain ⟨o, its, n, e, c, _⟩ := h
      exact .kTuple e c
  | lst h p => exact .base (.lst h)
section
variable {X : Cx} {ar : Nat → Option V} {e : Expr} {te : TEs} {b1 m1 : Bool} {y : Str} {p p2 cp : Pos} {T : String} {f : PyData → Bool}
theorem je_isT (hg : Gl X "isinstance") (hm : X.mg "isinstance" = none) (hgy : Gl X y) (hmy : X.mg y = none) (hvy : bootBuiltins y = some (.type T)) (hk : ∀ d, kitB (tyN d) T = some (f d)) (he : JE X ar b1 m1 e te) (hny : y ≠ "__name__" := by decide) (hyd : (y == ("__debug__" : Str)) = false := by decide)
    (hs1 : starEach [e, .Name y p2] X.env = (false, eval e X.env) :: starEach [.Name y p2] X.env := by rfl) (hs2 : starEach [.Name y p2] X.env = [(false, eval (.Name y p2) X.env)] := by rfl) (hpl : (backTo cp (starEach [.Name y p2] X.env)).any (·.1) = false := by rfl) :
    JE X ar b1 true (.Call (.Name "isinstance" p) [e, .Name y p2] [] cp) (fun σs Q ES => te σs (fun r σ1 => nd r.toD fun d => Q (.val (.bool (f d))) σ1) ES) := by
  refine ⟨fun pins s σ I H F σs Q ES J st tx q => ?_⟩
  refine wpAny_Call_Name_kw (ld_blt J hg hm boot_isinstance ?_)
  refine PyProof.Rows.callWith_builtin1 (?_ : wpAny (model X.prog X.w) X.A (spliced (backTo cp (starEach (e :: [.Name y p2]) X.env))) _ X.xe s) hs1 hpl
  rw [hs1]
  show wpAny _ _ (spliced ((false, eval e X.env) :: backTo cp (starEach [.Name y p2] X.env))) _ _ s
  refine Calls.spliced_cons (thn (he.run pins s σ I H F σs _ ES J st tx q) fun v s1 ⟨x, rx, R1, I1, H1, F1, σ1, h1, r1, q1⟩ => ?_)
  obtain ⟨d, ed, q1⟩ := nd_some q1
  rw [hs2]
  show wpAny _ _ (spliced ((false, eval (.Name y p2) X.env) :: backTo cp (starEach [] X.env))) _ _ s1
  refine Calls.spliced_cons (ld_blt h1.inv hgy hmy hvy ?_ hny hyd)
  refine Calls.spliced_nil ?_
  refine thn (call_isi pins s1 σ H1 [x, .ty T] [v, .type T] (fun w H' => w = .bl (f d) ∧ H' = H1) h1.inv (.cons r1 (.cons rfl .nil)) ⟨x, .ty T, _, _, f d, rfl, .ty T, (h1.sr.ar h1.st.sub ed).tyx h1.st.sub, kit_ty (hk d), rfl, rfl⟩) fun w s2 ⟨z, H2, J2, rz, ez, eH⟩ => ?_
  subst ez eH
  exact RP.of_vp (s' := s2) h1.base ⟨.bl _, H2, J2, rz, .val h1.st.sub (.bl _) q1⟩
end

/-! ### index, count -/
theorem canAll {K : PySem.W.Frag} {I H : Hp} {v : V} {ds : List PyData} (h : AR K I H v (.list ds)) : PyData.canLayAll0 ds = true := h.canLay
theorem plainAll_of : ∀ {ds : List PyData}, PyData.canLayAll0 ds = true → PyData.plainAll ds = true
  | [], _ => rfl
  | d :: ds, h => by
    have h' : (d.canLay0 && PyData.canLayAll0 ds) = true := h
    rw [Bool.and_eq_true] at h'
    show (d.plain && PyData.plainAll ds) = true
    rw [PyData.plain_of_canLay0 d h'.1, plainAll_of h'.2]
    rfl
def rCountL : RMs
  | .list xs, [d], Q => d.depth ≤ 60 ∧ Q (.val (.int ((xs.countP fun y => PyData.eqv y d : Nat) : Int)))
  | _, _, _ => False
def rIndexL : RMs
  | .list xs, [d], Q => d.depth ≤ 60 ∧ need (SeqAt.dataPlace xs d) fun j => Q (.val (.int (j : Nat)))
  | _, _, _ => False
section
variable {X : Cx}
theorem room_min {A : Around} (hu : A.units + 64 < cLine) {xs : List PyData} {d : PyData} (h : d.depth ≤ 60) : A.units + 1 + min (PyData.depthAll xs) d.depth < cLine := by
  have : min (PyData.depthAll xs) d.depth ≤ 60 := Nat.le_trans (Nat.min_le_right _ _) h
  omega
theorem m_count (hu : X.A.units + 64 < cLine) : MOp X "list.count" rCountL := by
  intro pins s σ H I x xs v us d ds Q J sb rx rv p pv q
  rcases ds with _ | ⟨e, _ | ⟨d2, dr⟩⟩
  · cases d <;> exact (show False from q).elim
  · obtain ⟨y, ev, pe⟩ := pv.one
    subst ev
    obtain ⟨u, rfl, ru⟩ := vals1 rv
    cases p with
    | lst h pp =>
      obtain ⟨hd, q⟩ := q
      cases rx
      obtain ⟨its, rvs, pl, hz⟩ := J.list (SqL.of (K := X.K) h)
      obtain ⟨as, ra⟩ := PRs.reads J sb pp rvs
      obtain ⟨bs, rb⟩ := pe.reads J sb ru
      exact SeqAt.count_list_data (vs := its.toArray) pl.isList (by simpa using ra) rb (plainAll_of pp.canLay) (PyData.plain_of_canLay0 _ pe.canLay) (room_min hu hd) ⟨.int _, H, J.tok _, ⟨_, rfl⟩, .val sb (.int _) q⟩
    | _ => exact (show False from q).elim
  · cases d <;> exact (show False from q).elim
theorem m_index (hu : X.A.units + 64 < cLine) : MOp X "list.index" rIndexL := by
  intro pins s σ H I x xs v us d ds Q J sb rx rv p pv q
  rcases ds with _ | ⟨e, _ | ⟨d2, dr⟩⟩
  · cases d <;> exact (show False from q).elim
  · obtain ⟨y, ev, pe⟩ := pv.one
    subst ev
    obtain ⟨u, rfl, ru⟩ := vals1 rv
    cases p with
    | @lst a0 vs0 ds0 h pp =>
      obtain ⟨hd, q⟩ := q
      obtain ⟨j, hj, q⟩ := need_some q
      cases rx
      obtain ⟨its, rvs, ⟨⟨cls, dd, data, sls⟩, n, ho, hc, hdn, hdt⟩, hz⟩ := J.list (SqL.of (K := X.K) h)
      simp only at hc hdt
      subst hc hdt
      obtain ⟨as, ra⟩ := PRs.reads J sb pp rvs
      obtain ⟨bs, rb⟩ := pe.reads J sb ru
      have rs : ReadsAll s.heap its.toArray.toList ds0 as := by simpa using ra
      obtain ⟨hj1, hit, hno⟩ := SeqAt.hit_at rs (plainAll_of pp.canLay) hj
      have hsz : its.toArray.size ≤ 16777216 := by
        have := rvs.length
        have z := sizeLine_eq
        simp
        omega
      exact call_meets PySem.F.slot_list_index ⟨_, ho, rfl⟩ PySem.F.entry_list_index (PySem.F.args_list_index_2 _ _) (SeqAt.list_indexAt _ its.toArray n dd sls u _ j hj1 (by omega) hit hno)
        ⟨ho, SeqAt.items_plain rs rb (plainAll_of pp.canLay) (PyData.plain_of_canLay0 _ pe.canLay) (room_min hu hd), ⟨.int _, H, J.tok _, ⟨_, rfl⟩, .val sb (.int _) q⟩⟩
    | _ => exact (show False from q).elim
  · cases d <;> exact (show False from q).elim
end

/-! ### tuples whose own object is known -/
section
variable {X : Cx}
theorem VP.newTpl {I H : Hp} {Q : S → Prop} {p : Addr} {vs : List V} {ds : List PyData} {o : Obj} (s : Sub I H) (hp : H p = none) (hc : o.cls = .type "tuple") (hd : o.dict = none) (h : PRs X.K I vs ds) (q : Q (.tpl ds)) : VP X I H Q (.ref p) (upd H p (.frz o (.tup vs))) :=
  ⟨_, [], upd I p (.frz o (.tup vs)), ⟨upd_grow (sub_none s hp), upd_sub s, upd_grow hp, fun _ m => absurd m (by simp), fun a x q => by
    by_cases e : a = p
    · subst e; exact .inr hp
    · rw [upd_ne e] at q; exact .inl q, .tpl upd_same hc hd (h.sub (upd_grow (sub_none s hp))), fun _ m => absurd m (by simp)⟩, q⟩
def rTupleN : RNs
  | [.list xs], Q => Q (.tpl xs)
  | _, _ => False
theorem c_tupleN : OpN X (fun us => call (.type "tuple") us) rTupleN := by
  intro pins s σ H I xs us ds Q J sb rv pv q
  rcases ds with _ | ⟨d, _ | ⟨d2, dr⟩⟩
  · exact (show False from q).elim
  · obtain ⟨x, e, p⟩ := pv.one
    subst e
    obtain ⟨u, rfl, ru⟩ := vals1 rv
    cases p with
    | lst h p =>
      cases ru
      obtain ⟨its, r', pl, hz⟩ := J.list (SqL.of (K := X.K) h)
      have hlen := r'.length
      refine call_tuple_list pl.isList (fun h' kp => ?_) (by simp only [List.size_toArray]; omega)
      have J1 : Inv X pins σ H { s with heap := h' } := J.kept (t' := s.toks) kp
      have hn : H h'.objs.size = none := J1.hok.fresh (Nat.le_refl _)
      have J2 : Inv X pins σ (upd H h'.objs.size (.frz { cls := .type "tuple", data := .seq its.toArray } (.tup _))) { s with heap := h'.push { cls := .type "tuple", data := .seq its.toArray } } :=
        J1.laid (t' := s.toks) (fun b o e => Heap.get?_push_of_some _ e) (Nat.le_refl _) (show ObjOk X.prog X.w _ _ _ (.frz _ (.tup _)) from ⟨Heap.get?_push_size _ rfl, hz, its, r', IsTup.new _ _⟩)
      exact ⟨.ref h'.objs.size, _, J2, rfl, .newTpl sb hn rfl rfl p q⟩
    | _ => exact (show False from q).elim
  · cases d <;> exact (show False from q).elim
end
section
variable {X : Cx} {ar : Nat → Option V} {x : Str} {pos npos apos cpos : Pos} {e : Expr} {te : TEs} {b1 : Bool}
/-- such a tuple, read as data -/
def sTpl (i : Nat) : TEs := fun σs Q _ => match gets σs i with
  | some (.tpl ds) => Q (.val (.tuple ds)) σs
  | some (.val d) => Q (.val d) σs
  | _ => False
theorem SR.tpl_inv {K : PySem.W.Frag} {I H : Hp} {v : V} {ds : List PyData} {R : List Addr} (h : SR K I H v (.tpl ds) R) : R = [] ∧ ∃ a o vs, v = .ref a ∧ I a = some (.frz o (.tup vs)) ∧ o.cls = .type "tuple" ∧ o.dict = none ∧ PRs K I vs ds := by
  generalize e : S.tpl ds = r at h
  cases h with
  | tpl h c d p => cases e; exact ⟨rfl, _, _, _, rfl, h, c, d, p⟩
  | _ => cases e
theorem je_tpl (i : Nat) (hN : X.N[i]? = some x := by rfl) (hv : Vis X.env.scope x := by first | exact Or.inl rfl | exact Or.inr (Or.inl rfl) | exact Or.inr (Or.inr rfl)) (hd : (x == ("__debug__" : Str)) = false := by decide)
    (hcd : (x == ("__classdict__" : Str)) = false := by decide) : JE X ar true true (.Name x pos) (sTpl i) := by
  refine ⟨fun pins s σ I H F σs Q ES J st tx q => ?_⟩
  unfold sTpl at q
  cases e : gets σs i with
  | none => rw [e] at q; exact q.elim
  | some r =>
    obtain ⟨v, e1, sr⟩ := st.rep i r e
    rw [e] at q
    cases r with
    | val d => exact eval_name J hN hv e1 hd hcd fun u s' J' rv => RP.val J' st sr.val_inv.2 rv q
    | tpl ds =>
      obtain ⟨_, a, o, vs, rfl, h, c, d, p⟩ := sr.tpl_inv
      exact eval_name J hN hv e1 hd hcd fun u s' J' rv => RP.val J' st (.tup (.inl (.inr ⟨_, h⟩)) p) rv q
    | _ => exact q.elim
/-- .. as it is -/
def sTplM (i : Nat) : TEs := fun σs Q _ => match gets σs i with
  | some (.tpl ds) => Q (.tpl ds) σs
  | _ => False
theorem je_tplm (i : Nat) (hN : X.N[i]? = some x := by rfl) (hv : Vis X.env.scope x := by first | exact Or.inl rfl | exact Or.inr (Or.inl rfl) | exact Or.inr (Or.inr rfl)) (hd : (x == ("__debug__" : Str)) = false := by decide)
    (hcd : (x == ("__classdict__" : Str)) = false := by decide) : JE X ar true true (.Name x pos) (sTplM i) := by
  refine ⟨fun pins s σ I H F σs Q ES J st tx q => ?_⟩
  unfold sTplM at q
  cases e : gets σs i with
  | none => rw [e] at q; exact q.elim
  | some r =>
    obtain ⟨v, e1, sr⟩ := st.rep i r e
    rw [e] at q
    cases r with
    | tpl ds =>
      obtain ⟨_, a, o, vs, rfl, h, c, d, p⟩ := sr.tpl_inv
      refine eval_name J hN hv e1 hd hcd fun u s' J' rv => ?_
      exact ⟨.ref a, .tpl ds, [], I, H, F, σs, ⟨J', ⟨.refl I, fun _ _ h _ => h, fun a h => by rcases h with h | h; cases h; exact .inl h, fun _ _ h => .inl h⟩, st, .tpl h c d p, fun _ a m => absurd m (by simp), fun a m => absurd m (by simp), fun _ => ⟨rfl, rfl, fun _ _ h => h⟩⟩, rv, q⟩
    | _ => exact q.elim
/-- t.index(e) -/
def sTix (i : Nat) (te : TEs) : TEs := fun σs Q ES => match gets σs i with
  | some (.tpl ds) => te σs (fun r σ1 => nd r.toD fun d => d.depth ≤ 60 ∧ need (SeqAt.dataPlace ds d) fun j => Q (.val (.int (j : Nat))) σ1) ES
  | _ => False
theorem je_tix (i : Nat) (hu : X.A.units + 64 < cLine) (he : JE X ar b1 true e te) (hN : X.N[i]? = some x := by rfl) (hv : Vis X.env.scope x := by first | exact Or.inl rfl | exact Or.inr (Or.inl rfl) | exact Or.inr (Or.inr rfl)) (hd : (x == ("__debug__" : Str)) = false := by decide) (hcd : (x == ("__classdict__" : Str)) = false := by decide)
    (hbase : attributeBase (.Name x npos) "index" X.env (eval (.Name x npos) X.env) = eval (.Name x npos) X.env := by rfl)
    (hfew : ((backTo cpos (starEach [e] X.env)).all (fun x => !x.1) && (backToKw cpos (keywordEach [] X.env)).all (fun x => x.1.isSome)
      && decide ([e].length + ([] : List Keyword).length + (if ([] : List Keyword).isEmpty then 0 else 1) < 30)) = true := by rfl)
    (hline : (apos.endLine == cpos.line) = true := by rfl) (hs : starEach [e] X.env = (false, eval e X.env) :: starEach [] X.env := by rfl) : JE X ar b1 true (.Call (.Attribute (.Name x npos) "index" apos) [e] [] cpos) (sTix i te) := by
  refine ⟨fun pins s σ I H F σs Q ES J st tx q => ?_⟩
  unfold sTix at q
  cases e0 : gets σs i with
  | none => rw [e0] at q; exact q.elim
  | some r =>
    obtain ⟨v, e1, sr⟩ := st.rep i r e0
    rw [e0] at q
    cases r with
    | tpl ds =>
      obtain ⟨_, a, o, vs, rfl, h, c, d, p⟩ := sr.tpl_inv
      refine wpAny_Call_method_late hbase hfew hline rfl (eval_name J hN hv e1 hd hcd fun u s1 J1 ru => ?_)
      cases ru
      have go := (J1.hok a _ (st.sub _ _ h)).1
      refine ⟨"tuple", "tuple.index", PySem.F.plainAttrs_tuple, PySem.F.slot_tuple_index, PySem.F.type_tuple_index, ⟨o, go, c⟩, fun b eb => ?_, ?_⟩
      · cases eb
        exact ⟨o, go, d⟩
      rw [hs]
      refine Calls.callWith_builtin rfl (Calls.evalArgs_plain (Calls.spliced_cons (thn (he.run pins s1 σ I H F σs _ ES J1 st tx q) fun u s2 ⟨y, r, R, I1, H1, F1, σ1, d1, rv, q1⟩ => Calls.spliced_nil ?_)))
      obtain ⟨dd, ed, hdp, q1⟩ := nd_some q1
      obtain ⟨j, hj, q1⟩ := need_some q1
      have h1 := d1.st.sub _ _ (d1.evo.up _ _ h)
      obtain ⟨go1, hz, its, rvs, pl⟩ := d1.inv.hok a _ h1
      obtain ⟨⟨cls, od, data, sls⟩, ho, hc, n, hdt⟩ := pl
      simp only at hc hdt
      subst hc hdt
      have pp := p.sub d1.evo.up
      have sb1 := d1.st.sub
      obtain ⟨as, ra⟩ := PRs.reads d1.inv sb1 pp rvs
      have pe := d1.sr.ar sb1 ed
      obtain ⟨bs, rb⟩ := pe.reads d1.inv sb1 rv
      have rs : ReadsAll s2.heap its.toArray.toList ds as := by simpa using ra
      obtain ⟨hj1, hit, hno⟩ := SeqAt.hit_at rs (plainAll_of pp.canLay) hj
      refine call_meets PySem.F.slot_tuple_index ⟨_, ho, rfl⟩ PySem.F.entry_tuple_index (PySem.F.args_tuple_index_2 _ _) (TI.tuple_indexAt a its.toArray n od sls u _ j hj1 hit hno)
        ⟨ho, SeqAt.items_plain rs rb (plainAll_of pp.canLay) (PyData.plain_of_canLay0 _ pe.canLay) (room_min hu hdp), ?_⟩
      exact RP.of_vp d1.base ⟨.int (j : Nat), H1, d1.inv.tok _, ⟨_, rfl⟩, .val sb1 (.int _) q1⟩
    | _ => exact q.elim
end

/-! ### a def picked from a written list, and called -/
structure Cal (X : Cx) (f : Addr) (sp : Sps) : Prop where
  ex : ∃ k fd ps, FnG X.prog X.w X.K X.mg X.base k f fd ps sp ∧ Room k X.A ∧ PySem.W.keepIn X.K (.ref f) = true ∧ Binds X.K fd ps []
section
variable {X : Cx} {ar : Nat → Option V}
/-- the names of the defs -/
structure NmF (X : Cx) (es : List Expr) (fs : List (Addr × Sps)) : Prop where
  pa : PA X es (fun σ H Q => Q (fs.map fun p => V.ref p.1) H)
  ok : ∀ p ∈ fs, Cal X p.1 p.2
theorem nm_nil : NmF X [] [] := ⟨pa_nil, fun p m => absurd m (by simp)⟩
theorem nm_cons {x : Str} {f : Addr} {sp : Sps} {p : Pos} {es : List Expr} {fs : List (Addr × Sps)} (c : Cal X f sp) (hg : Gl X x) (hm : X.mg x = some (.ref f)) (h : NmF X es fs) (hd : (x == ("__debug__" : Str)) = false := by decide)
    (hs : starEach (.Name x p :: es) X.env = (false, eval (.Name x p) X.env) :: starEach es X.env := by rfl) : NmF X (.Name x p :: es) ((f, sp) :: fs) := by
  refine ⟨⟨fun pos pins s σ H Q J q => (pa_cons (pe_glob (v := .ref f) hg hm rfl hd) h.pa hs).run pos pins s σ H Q J q⟩, fun p m => ?_⟩
  rcases List.mem_cons.mp m with rfl | m
  · exact c
  · exact h.ok p m
def sPick (fs : List (Addr × Sps)) (tx : TEs) (t : TCs) : TEs := fun σs Q ES => tx σs (fun r σ1 => match r with
  | .val (.int i) => nd (atI fs i) fun p => t σ1 (fun as σ2 => lentOk as [] = true ∧ nd (argS σ2 as) fun ss => p.2 ss (fun r ss' => Q r (back as ss' σ2)) (fun cls ed => ES cls ed (lose as σ2))) ES
  | _ => False) ES
variable {names : List Expr} {fs : List (Addr × Sps)} {ix e : Expr} {tx : TEs} {t : TCs} {es : List Expr} {b1 m1 : Bool} {lp sp pos : Pos}
theorem pick_fn (nm : NmF X names fs) (hx : JE X ar b1 m1 ix tx) (hl : fs.length ≤ sizeLine) (hs : PlainIx ix) {pins : List (Addr × Obj)} {s : Shared} {σ : L2.St} {I H : Hp} {F : Nat → List Addr} {σs : SSt} {Q : Addr × Sps → SSt → Prop} {ES : XS} (J : Inv X pins σ H s) (st : StR X.K ar I H σ σs F) (txx : TX X ar I H (own F) ES)
    (q : tx σs (fun r σ1 => match r with
      | .val (.int i) => nd (atI fs i) fun p => Q p σ1
      | _ => False) ES) :
    wpAny (model X.prog X.w) X.A (eval (.Subscript (.List names lp) ix sp) X.env) (fun u s1 => ∃ p I1 H1 F1 σ1, BPd X ar pins σ false I H F σs I1 H1 F1 σ1 s1 ∧ u = .ref p.1 ∧ Cal X p.1 p.2 ∧ Q p σ1) X.xe s := by
  refine thn ((pe_ix ix_list (pe_lst nm.pa) hx.pe hs).run pins s σ H (fun v H' => ∃ p I1 F1 σ1, Evo I H (own F) I1 H' (own F1) ∧ StR X.K ar I1 H' σ σ1 F1 ∧ v = .ref p.1 ∧ Cal X p.1 p.2 ∧ Q p σ1) J ⟨by rw [List.length_map]; exact hl, fun p hp => ?_⟩) fun u s1 ⟨v, H', J', rv, p, I1, F1, σ1, ev, st1, e1, c, q1⟩ => ?_
  · have up : ∀ a x, H a = some x → upd H p (.lst (fs.map fun p => V.ref p.1)) a = some x := fun a x e => upd_grow hp a x e
    have ev0 : Evo I H (own F) I (upd H p (.lst (fs.map fun p => V.ref p.1))) (own F) := ⟨.refl _, fun a x e _ => up a x e, fun a z => .inl z, fun a x e => .inl e⟩
    have st0 : StR X.K ar I (upd H p (.lst (fs.map fun p => V.ref p.1))) σ σs F := st.keep (fun a x e => up a x (st.sub a x e)) (.refl _) (fun a _ x e => up a x e) fun a m => st.ownI m
    refine ⟨I, F, σs, _, ES, st0, txx.go ev0 fun _ z => z, q, fun v r R I' H' F' σs' ev st' sr nf nI q' => ?_⟩
    cases r with
    | val d =>
      obtain ⟨eR, pr⟩ := sr.val_inv
      subst eR
      cases d with
      | int i =>
        cases pr
        obtain ⟨f, ef, q2⟩ := nd_some (show nd (atI fs i) fun p => Q p σs' from q')
        have nl : ¬ own F p := fun z => by
          obtain ⟨x, e⟩ := st.there z
          rw [hp] at e
          cases e
        have hL : H' p = some (.lst (fs.map fun p => V.ref p.1)) := ev.fr _ _ upd_same nl
        have ea : atI (fs.map fun p => V.ref p.1) i = some (.ref f.1) := by
          unfold atI at ef ⊢
          rw [List.length_map]
          cases ei : ixN fs.length i with
          | none => rw [ei] at ef; cases ef
          | some j =>
            rw [ei] at ef
            have ef' : fs[j]? = some f := ef
            show (fs.map fun p => V.ref p.1)[j]? = _
            rw [List.getElem?_map, ef']
            rfl
        have mf : f ∈ fs := by
          unfold atI at ef
          cases ei : ixN fs.length i with
          | none => rw [ei] at ef; cases ef
          | some j =>
            rw [ei] at ef
            exact List.mem_of_getElem? ef
        exact ⟨p, _, i, _, rfl, rfl, SqL.of hL, ea, f, I', F', σs', ev0.trans ev.drop (fun _ z => z) (fun _ z => .inr z), st', rfl, nm.ok f mf, q2⟩
      | _ => exact q'.elim
    | _ => exact q'.elim
  · subst e1
    cases rv
    exact ⟨p, I1, H', F1, σ1, ⟨J', ev, st1, fun z => Bool.noConfusion z⟩, rfl, c, q1⟩
theorem je_pick (nm : NmF X names fs) (hx : JE X ar b1 m1 ix tx) (hgd : X.A.guards = some []) (ha : JC X ar (e :: es) t) (hl : fs.length ≤ sizeLine := by exact Nat.le_of_ble_eq_true rfl) (hs : PlainIx ix := by exact fun _ _ => rfl)
    (ht : eval (.Call (.Subscript (.List names lp) ix sp) (e :: es) [] pos) X.env = (do callWith pos (← eval (.Subscript (.List names lp) ix sp) X.env) [] (backTo pos (starEach (e :: es) X.env)) (backToKw pos (keywordEach [] X.env))) := by rfl)
    (he : starEach (e :: es) X.env = (false, eval e X.env) :: starEach es X.env := by rfl) (hpl : (backTo pos (starEach es X.env)).any (·.1) = false := by rfl) :
    JE X ar false true (.Call (.Subscript (.List names lp) ix sp) (e :: es) [] pos) (sPick fs tx t) := by
  refine ⟨fun pins s σ I H F σs Q ES J st txx q => ?_⟩
  refine Call_ (thn (pick_fn nm hx hl hs J st txx q) fun u s1 ⟨p, I1, H1, F1, σ1, d1, eu, c, q1⟩ => ?_) ht
  subst eu
  obtain ⟨k, fd, ps, G, hr, hk, hb⟩ := c.ex
  refine PySem.W.callWith_K (h₀ := X.base) d1.inv.ok.mod.kin hk (thn (ha.run pos pins s1 σ I1 H1 F1 σ1 _ ES d1.inv d1.st (txx.then d1) q1) fun us s2 ⟨vs, as, I2, H2, F2, σ2, d, rv, ca, hlk, q2⟩ => ⟨d.inv.kIn, ?_⟩) he hpl
  obtain ⟨ss, ea, q3⟩ := nd_some q2
  refine thn (run_fnS G hr hgd hb d.inv d.st ((txx.then d1).then d) rv ca hlk ea q3) fun u s3 ⟨v, r, R, I3, H3, F3, σ3, d3, rr, q4⟩ => ?_
  exact ⟨v, r, R, I3, H3, F3, σ3, (d1.then d).thenR d3, rr, q4⟩
theorem je_pick0 (nm : NmF X names fs) (hx : JE X ar b1 m1 ix tx) (hgd : X.A.guards = some []) (hl : fs.length ≤ sizeLine := by exact Nat.le_of_ble_eq_true rfl) (hs : PlainIx ix := by exact fun _ _ => rfl)
    (ht : eval (.Call (.Subscript (.List names lp) ix sp) [] [] pos) X.env = (do callWith pos (← eval (.Subscript (.List names lp) ix sp) X.env) [] (backTo pos (starEach [] X.env)) (backToKw pos (keywordEach [] X.env))) := by rfl) :
    JE X ar false true (.Call (.Subscript (.List names lp) ix sp) [] [] pos) (sPick fs tx cNil) := by
  refine ⟨fun pins s σ I H F σs Q ES J st txx q => ?_⟩
  refine Call_ (thn (pick_fn nm hx hl hs J st txx q) fun u s1 ⟨p, I1, H1, F1, σ1, d1, eu, c, q1⟩ => ?_) ht
  subst eu
  obtain ⟨k, fd, ps, G, hr, hk, hb⟩ := c.ex
  obtain ⟨hl2, q2⟩ := (show lentOk [] [] = true ∧ nd (argS σ1 []) _ from q1)
  obtain ⟨ss, ea, q3⟩ := nd_some q2
  refine PySem.W.callWith_K0 d1.inv.kIn hk (thn (run_fnS (us := []) (vs := []) (as := []) G hr hgd hb d1.inv d1.st (txx.then d1) .nil trivial hl2 ea q3) fun u s3 ⟨v, r, R, I3, H3, F3, σ3, d3, rr, q4⟩ => ?_)
  exact ⟨v, r, R, I3, H3, F3, σ3, d1.thenR d3, rr, q4⟩
end
end SV
/-! SvX: times of all kinds; tuples that the module has written; helpers of proofs. -/
namespace SV
open PySem PySem.Spec PyProof.Rows L2
section
variable {X : Cx}
def rMulA : R2s
  | .int i, .int j, Q => CMul i j ∧ Q (.val (.int (i * j)))
  | .list xs, .int k, Q => (-(2 ^ 63) ≤ k ∧ k < 2 ^ 63 ∧ xs.length * k.toNat ≤ sizeLine) ∧ Q (.lst (List.replicate k.toNat xs).flatten)
  | .tuple xs, .int k, Q => (0 ≤ k ∧ k ≤ 1000 ∧ xs.length ≤ 1000) ∧ Q (.val (.tuple (List.replicate k.toNat xs).flatten))
  | .str x, .int k, Q => (0 ≤ k ∧ k ≤ 1000 ∧ x.length ≤ 1000) ∧ Q (.val (.str (Txt.mul x k)))
  | _, _, _ => False
theorem o_mulA : Op2 X (binaryOp .Mult) rMulA := by
  intro pins s σ H I x y v u d e Q J sb rx ry px py q
  cases d with
  | int i => exact o_mul pins s σ H I x y v u (.int i) e Q J sb rx ry px py (by cases e <;> exact q)
  | list xs => exact o_mul pins s σ H I x y v u (.list xs) e Q J sb rx ry px py (by cases e <;> exact q)
  | tuple xs => exact o_mulT pins s σ H I x y v u (.tuple xs) e Q J sb rx ry px py (by cases e <;> exact q)
  | str z => exact o_mulS pins s σ H I x y v u (.str z) e Q J sb rx ry px py (by cases e <;> exact q)
  | _ => cases e <;> exact (show False from q).elim
end
theorem pr_ktup {K : PySem.W.Frag} {a : Addr} {od : Option Addr} {its : Array Value} {n : Nat} {sl : Array (Option Value)} {vs : List V} {ds : List PyData} (l : K.lookup a = some ⟨.type "tuple", od, .seq its n, sl⟩) (hz : its.size ≤ sizeLine) (hv : Vals vs its.toList) (hp : ∀ I : Hp, PRs K I vs ds) (I : Hp) : PR K I (.ref a) (.tuple ds) :=
  .tup (.inr ⟨_, its, n, l, rfl, rfl, hz, hv⟩) (hp I)

/-! ### sizes, depths, shown data: found by themselves -/
theorem rm {α : Type} {xs : List α} {P : Prop} (h : P) (hl : xs.length ≤ sizeLine := by first | exact Nat.le_of_ble_eq_true rfl | (refine room1 ?_; simp; omega)) : xs.length ≤ sizeLine ∧ P := ⟨hl, h⟩
theorem rm2 {α : Type} {xs ys : List α} {P : Prop} (h : P) (hl : xs.length + ys.length ≤ sizeLine := by first | exact Nat.le_of_ble_eq_true rfl | (refine room1 ?_; simp; omega)) : xs.length + ys.length ≤ sizeLine ∧ P := ⟨hl, h⟩
theorem dq {d e : PyData} {P : Prop} (h : P) (h1 : d.depth ≤ 64 := by first | exact dep_int | exact dep_str | exact dep_bool | exact dep_none | decide +kernel | (simp [PyData.depth, PyData.depthAll]; done) | (simp [PyData.depth, PyData.depthAll]; omega) | assumption)
    (h2 : e.depth ≤ 64 := by first | exact dep_int | exact dep_str | exact dep_bool | exact dep_none | decide +kernel | (simp [PyData.depth, PyData.depthAll]; done) | (simp [PyData.depth, PyData.depthAll]; omega) | assumption) : (d.depth ≤ 64 ∧ e.depth ≤ 64) ∧ P := ⟨⟨h1, h2⟩, h⟩
theorem dq1 {d : PyData} {P : Prop} (h : P) (h1 : d.depth ≤ 64 := by first | exact dep_int | exact dep_str | exact dep_bool | exact dep_none | decide +kernel | (simp [PyData.depth, PyData.depthAll]; done) | (simp [PyData.depth, PyData.depthAll]; omega) | assumption) : d.depth ≤ 64 ∧ P := ⟨h1, h⟩
theorem dq0 {d : PyData} {P : Prop} (h : P) (h1 : d.depth ≤ 60 := by first | decide +kernel | (simp [PyData.depth, PyData.depthAll]; done) | (simp [PyData.depth, PyData.depthAll]; omega) | assumption) : d.depth ≤ 60 ∧ P := ⟨h1, h⟩
/-! ### tests put together again -/
theorem ifb_and {a b : Bool} {P : Bool → Prop} (h : P (a && b)) : ifb a (P b) (P false) := by
  cases a
  · first | exact ifb_f rfl h
  · first | exact ifb_t rfl h
theorem ifb_or {a b : Bool} {P : Bool → Prop} (h : P (a || b)) : ifb a (P true) (P b) := by
  cases a
  · first | exact ifb_f rfl h
  · first | exact ifb_t rfl h
theorem ifb_bool {b : Bool} {A B : Prop} (h1 : b = true → A) (h2 : b = false → B) : ifb (tru (.bool b)) A B := ifb_of h1 h2
theorem ifb_nbool {b : Bool} {A B : Prop} (h1 : b = false → A) (h2 : b = true → B) : ifb (tru (.bool (!b))) A B := by
  exact ifb_of (fun e => h1 (by simpa [tru] using e)) fun e => h2 (by simpa [tru] using e)
/-! ### a comprehension that changes nothing -/
theorem lcp {α : Type} (f e : α → PyData) (t : α → Bool) {g : TGt} {tt : TTs} {te : TEs} {vs : List Nat} {σ0 : SSt} {K : List PyData → SSt → Prop} (σ1 : α → SSt) (xs : List α) (hx : xs.length ≤ 16000000)
    (hg : ∀ x ∈ xs, g (f x) σ0 = some (σ1 x)) (hw : ∀ x ∈ xs, wipeS (σ1 x) vs = σ0) (ht : ∀ x ∈ xs, ∀ Q : Bool → SSt → Prop, Q (t x) (σ1 x) → tt (σ1 x) Q noX)
    (he : ∀ x ∈ xs, t x = true → ∀ Q : KS, Q (.val (e x)) (σ1 x) → te (σ1 x) Q noX) (fin : K ((xs.filter t).map e) σ0) : lcT g tt te vs (xs.map f) [] σ0 K := by
  refine lc_map f (fun rem acc σ => ∃ done, xs = done ++ rem ∧ acc = (done.filter t).map e ∧ σ = σ0) (fun x r acc σ N hN h => ?_) (fun acc σ h => ?_) xs [] σ0 ⟨[], rfl, rfl, rfl⟩
  · obtain ⟨done, e1, rfl, rfl⟩ := h
    have mx : x ∈ xs := by rw [e1]; simp
    rw [hg x mx]
    refine ht x mx _ ?_
    have hl := congrArg List.length e1
    rw [List.length_append, List.length_cons] at hl
    have hf := List.length_filter_le t done
    cases htx : t x with
    | false =>
      refine ifb_f rfl ?_
      rw [hw x mx]
      exact hN _ _ ⟨done ++ [x], by rw [e1]; simp, by simp [List.filter_append, htx], rfl⟩
    | true =>
      refine ifb_t rfl ?_
      refine he x mx htx _ ⟨room2 (by rw [List.length_map]; omega), ?_⟩
      rw [hw x mx]
      exact hN _ _ ⟨done ++ [x], by rw [e1]; simp, by simp [List.filter_append, htx], rfl⟩
  · obtain ⟨done, e1, rfl, rfl⟩ := h
    rw [List.append_nil] at e1
    rw [← e1]
    exact fin
/-- .. without a test -/
theorem lcq {α : Type} (f e : α → PyData) {g : TGt} {te : TEs} {vs : List Nat} {σ0 : SSt} {K : List PyData → SSt → Prop} (σ1 : α → SSt) (xs : List α) (hx : xs.length ≤ 16000000)
    (hg : ∀ x ∈ xs, g (f x) σ0 = some (σ1 x)) (hw : ∀ x ∈ xs, wipeS (σ1 x) vs = σ0) (he : ∀ x ∈ xs, ∀ Q : KS, Q (.val (e x)) (σ1 x) → te (σ1 x) Q noX) (fin : K (xs.map e) σ0) : lcT g tYesS te vs (xs.map f) [] σ0 K :=
  lcp f e (fun _ => true) σ1 xs hx hg hw (fun x m Q q => q) (fun x m _ Q q => he x m Q q) (by rw [List.filter_eq_self.mpr (fun _ _ => rfl)]; exact fin)

/-! ### sorted ints -/
theorem sortD_map {α : Type} (f : α → PyData) (r : α → α → Bool) (hr : PySem.W.dataLe false f = r) (xs : List α) : sortD (xs.map f) = (xs.mergeSort r).map f := by
  unfold sortD
  refine (List.map_mergeSort fun a _ b _ => ?_).symm
  rw [← hr]
  rfl
abbrev sortI (ns : List Int) : List Int := ns.mergeSort fun a b => decide (a ≤ b)
theorem sortD_ints (ns : List Int) : sortD (ns.map .int) = (sortI ns).map .int := sortD_map _ _ (PySem.W.dataLe_int fun b => b) ns
theorem alike_int (i j : Int) : PySem.W.alike (.int i) (.int j) = true := by
  first
  | rfl
  | simp [PySem.W.alike]
theorem sortOk_ints (ns : List Int) : SortOk (ns.map .int) := by
  refine ⟨fun d hd d' hd' => ?_, .inr fun d hd => ?_, fun d hd => ?_⟩
  · obtain ⟨i, _, rfl⟩ := List.mem_map.mp hd
    obtain ⟨j, _, rfl⟩ := List.mem_map.mp hd'
    exact alike_int i j
  · obtain ⟨i, _, rfl⟩ := List.mem_map.mp hd
    exact ⟨(fun z => by cases z), fun xs z => by cases z⟩
  · obtain ⟨i, _, rfl⟩ := List.mem_map.mp hd
    rw [PyData.depth]
    decide
theorem sortI_perm (ns : List Int) : (sortI ns).Perm ns := List.mergeSort_perm _ _
theorem sortI_pw (ns : List Int) : (sortI ns).Pairwise (· ≤ ·) := by
  have := List.pairwise_mergeSort (le := fun a b : Int => decide (a ≤ b)) (fun a b c h1 h2 => by simp at *; omega) (fun a b => by simp; omega) ns
  exact this.imp fun h => by simpa using h
theorem sortI_eq {ns ms : List Int} (h : ns.Perm ms) (hs : ms.Pairwise (· ≤ ·)) : sortI ns = ms :=
  List.Perm.eq_of_pairwise (fun a b _ _ h1 h2 => Int.le_antisymm h1 h2) (sortI_pw ns) hs ((sortI_perm ns).trans h)

/-! ### list(range(n)), tuple(range(n)) -/
theorem rngV_rg (a b : Int) : rgV a b = rngV a b := rfl
section
variable {X : Cx} {ar : Nat → Option V} {a b : Expr} {ta tb : TEs} {b1 b2 m1 m2 : Bool} {p p2 pos pos2 : Pos}
theorem out_lst {I2 H2 : Hp} {F2 : Nat → List Addr} {σ : L2.St} {σ2 : SSt} {l : Addr} {vs : List V} {ds : List PyData} {I H : Hp} {F : Nat → List Addr} {Qk : KS} (ev : Evo I H (own F) I2 H2 (own F2)) (st2 : StR X.K ar I2 H2 σ σ2 F2) (hl : H2 l = none) (pr : PRs X.K I2 vs ds) (q : Qk (.lst ds) σ2) :
    OutE X.K ar I H F σ Qk (.ref l) (upd H2 l (.lst vs)) := by
  have up : ∀ a x, H2 a = some x → upd H2 l (.lst vs) a = some x := fun a x e => upd_grow hl a x e
  have one : ∀ a ∈ [l], a = l := fun a m => by simpa using m
  refine ⟨.lst ds, [l], I2, F2, σ2, ev.trans (o3 := fun a => a ∈ [l] ∨ own F2 a) (⟨.refl _, fun a x e _ => up a x e, fun a z => ?_, fun a x e => .inl e⟩ : Evo I2 H2 (own F2) I2 (upd H2 l (.lst vs)) (fun a => a ∈ [l] ∨ own F2 a)) (fun _ z => z) (fun c z => .inr z), st2.keep (fun a x e => up a x (st2.sub a x e)) (.refl _) (fun a _ x e => up a x e) fun a m => st2.ownI m, .lst upd_same pr, fun a m z => ?_, fun a m => ?_, q⟩
  · rcases z with z | z
    · rw [one a z]
      exact .inr hl
    · exact .inl z
  · rw [one a m] at z
    obtain ⟨x, e⟩ := st2.there z
    rw [hl] at e
    cases e
  · rw [one a m]
    cases e : I2 l with
    | none => rfl
    | some x => rw [st2.sub _ _ e] at hl; cases hl
theorem out_tup {I2 H2 : Hp} {F2 : Nat → List Addr} {σ : L2.St} {σ2 : SSt} {l : Addr} {vs : List V} {ds : List PyData} {I H : Hp} {F : Nat → List Addr} {Qk : KS} (ev : Evo I H (own F) I2 H2 (own F2)) (st2 : StR X.K ar I2 H2 σ σ2 F2) (hl : H2 l = none) (pr : PRs X.K I2 vs ds) (q : Qk (.val (.tuple ds)) σ2) :
    OutE X.K ar I H F σ Qk (.ref l) (upd H2 l (.tup vs)) := by
  have hI := sub_none st2.sub hl
  refine ⟨.val (.tuple ds), [], upd I2 l (.tup vs), F2, σ2, ev.trans (o3 := fun a => a ∈ [] ∨ own F2 a) (⟨upd_grow hI, fun a x e _ => upd_grow hl a x e, fun a z => ?_, fun a x e => ?_⟩ : Evo I2 H2 (own F2) (upd I2 l (.tup vs)) (upd H2 l (.tup vs)) (fun a => a ∈ [] ∨ own F2 a)) (fun _ z => z) (fun c z => .inr z), st2.keep (upd_sub st2.sub) (upd_grow hI) (fun a _ x e => upd_grow hl a x e) fun a m => ?_, .val (.tup (SqT.of upd_same) (pr.sub (upd_grow hI))), fun a m => absurd m (by simp), fun a m => absurd m (by simp), q⟩
  · rcases z with z | z
    · cases z
    · exact .inl z
  · by_cases ea : a = l
    · subst ea
      exact .inr (.inr hl)
    · rw [upd_ne ea] at e
      exact .inl e
  · by_cases ea : a = l
    · subst ea
      obtain ⟨x, e⟩ := st2.there m
      rw [hl] at e
      cases e
    · rw [upd_ne ea]
      exact st2.ownI m
def sLR1 (ta : TEs) : TEs := fun σs Q ES => ta σs (fun r σ1 => match r with
  | .val (.int j) => (-1000000 ≤ j ∧ j ≤ 1000000) ∧ Q (.lst (rangeD 0 j)) σ1
  | _ => False) ES
def sTR1 (ta : TEs) : TEs := fun σs Q ES => ta σs (fun r σ1 => match r with
  | .val (.int j) => (-1000000 ≤ j ∧ j ≤ 1000000) ∧ Q (.val (.tuple (rangeD 0 j))) σ1
  | _ => False) ES
theorem rgOk1 {j : Int} (h : -1000000 ≤ j ∧ j ≤ 1000000) : RgOk 0 j := ⟨by omega, by omega, by omega, by omega, by omega⟩
theorem je_lrng1 (hc : X.calm = true) (hgl : Gl X "list") (hml : X.mg "list" = none) (hgr : Gl X "range") (hmr : X.mg "range" = none) (ha : JE X ar b1 true a ta) (na : starEach [a] X.env = (false, eval a X.env) :: starEach [] X.env := by rfl)
    (na2 : starEach [.Call (.Name "range" p2) [a] [] pos2] X.env = (false, eval (.Call (.Name "range" p2) [a] [] pos2) X.env) :: starEach [] X.env := by rfl) : JE X ar false true (.Call (.Name "list" p) [.Call (.Name "range" p2) [a] [] pos2] [] pos) (sLR1 ta) := by
  refine JE.of_pe (pe_listRg hc hgl hml (prg_1 hgr hmr ha.pe na) na2) fun σ I H F σs Qk ES Q st tx q hQ => ?_
  refine ⟨I, F, σs, _, ES, st, tx, q, fun v r R I1 H1 F1 σ1 ev1 st1 sr1 _ _ q1 => ?_⟩
  cases r with
  | val y =>
    obtain ⟨eR, pr⟩ := sr1.val_inv
    subst eR
    cases y with
    | int j =>
      cases pr
      obtain ⟨h, q2⟩ := (show (-1000000 ≤ j ∧ j ≤ 1000000) ∧ Qk (.lst (rangeD 0 j)) σ1 from q1)
      exact ⟨j, rfl, rgOk1 h, fun l hl => hQ _ _ (out_lst ev1.drop st1 hl (rngV_D 0 j) q2)⟩
    | _ => exact q1.elim
  | _ => exact q1.elim
theorem je_trng1 (hc : X.calm = true) (hgl : Gl X "tuple") (hml : X.mg "tuple" = none) (hgr : Gl X "range") (hmr : X.mg "range" = none) (ha : JE X ar b1 true a ta) (na : starEach [a] X.env = (false, eval a X.env) :: starEach [] X.env := by rfl)
    (na2 : starEach [.Call (.Name "range" p2) [a] [] pos2] X.env = (false, eval (.Call (.Name "range" p2) [a] [] pos2) X.env) :: starEach [] X.env := by rfl) : JE X ar false true (.Call (.Name "tuple" p) [.Call (.Name "range" p2) [a] [] pos2] [] pos) (sTR1 ta) := by
  refine JE.of_pe (pe_tupRg hc hgl hml (prg_1 hgr hmr ha.pe na) na2) fun σ I H F σs Qk ES Q st tx q hQ => ?_
  refine ⟨I, F, σs, _, ES, st, tx, q, fun v r R I1 H1 F1 σ1 ev1 st1 sr1 _ _ q1 => ?_⟩
  cases r with
  | val y =>
    obtain ⟨eR, pr⟩ := sr1.val_inv
    subst eR
    cases y with
    | int j =>
      cases pr
      obtain ⟨h, q2⟩ := (show (-1000000 ≤ j ∧ j ≤ 1000000) ∧ Qk (.val (.tuple (rangeD 0 j))) σ1 from q1)
      exact ⟨j, rfl, rgOk1 h, fun l hl => hQ _ _ (out_tup ev1.drop st1 hl (rngV_D 0 j) q2)⟩
    | _ => exact q1.elim
  | _ => exact q1.elim
end
/-! ### data without dicts are equal to themselves -/
mutual
def noD : PyData → Bool
  | .list xs => noDs xs
  | .tuple xs => noDs xs
  | .dict _ => false
  | _ => true
def noDs : List PyData → Bool
  | [] => true
  | x :: xs => noD x && noDs xs
end
mutual
theorem eqv_self : ∀ {d : PyData}, noD d = true → PyData.eqv d d = true
  | .none, _ => by simp [PyData.eqv]
  | .bool _, _ => by simp [PyData.eqv]
  | .int _, _ => by simp [PyData.eqv]
  | .str _, _ => by simp [PyData.eqv]
  | .list xs, h => by rw [PyData.eqv]; exact eqvs_self (by simpa [noD] using h)
  | .tuple xs, h => by rw [PyData.eqv]; exact eqvs_self (by simpa [noD] using h)
  | .dict _, h => by simp [noD] at h
theorem eqvs_self : ∀ {ds : List PyData}, noDs ds = true → PyData.eqvAll ds ds = true
  | [], _ => by simp [PyData.eqvAll]
  | x :: xs, h => by
    rw [noDs, Bool.and_eq_true] at h
    rw [PyData.eqvAll, eqv_self h.1, eqvs_self h.2]
    rfl
end
theorem noDs_map {α : Type} (f : α → PyData) (h : ∀ x, noD (f x) = true) : ∀ xs : List α, noDs (xs.map f) = true
  | [] => by simp [noDs]
  | x :: xs => by simp [noDs, h x, noDs_map f h xs]
theorem eqvs_map {α : Type} [DecidableEq α] (f : α → PyData) (h : ∀ x y, PyData.eqv (f x) (f y) = decide (x = y)) : ∀ xs ys : List α, PyData.eqvAll (xs.map f) (ys.map f) = decide (xs = ys)
  | [], [] => by simp [PyData.eqvAll]
  | [], _ :: _ => by simp [PyData.eqvAll]
  | _ :: _, [] => by simp [PyData.eqvAll]
  | x :: xs, y :: ys => by simp [PyData.eqvAll, h x y, eqvs_map f h xs ys]
theorem deps_map {α : Type} (f : α → PyData) (n : Nat) (h : ∀ x, (f x).depth ≤ n) : ∀ xs : List α, PyData.depthAll (xs.map f) ≤ n
  | [] => by simp [PyData.depthAll]
  | x :: xs => by
    have h1 := h x
    have h2 := deps_map f n h xs
    simp only [List.map_cons, PyData.depthAll]
    omega
/-- d == d, d != d in a test -/
theorem ifb_eqself {d : PyData} {A B : Prop} (hd : noD d = true) (h : A) : ifb (tru (.bool (PyData.eqv d d))) A B := by
  exact ifb_t (eqv_self hd) h
theorem ifb_neself {d : PyData} {A B : Prop} (hd : noD d = true) (h : B) : ifb (tru (.bool (!PyData.eqv d d))) A B := by
  exact ifb_f (show (!PyData.eqv d d) = false by rw [eqv_self hd]; rfl) h
/-! ### places, walked or asked -/
theorem snoc_ind {α : Type} {P : List α → Prop} (h0 : P []) (hs : ∀ xs x, P xs → P (xs ++ [x])) (xs : List α) : P xs := by
  have h : ∀ ys : List α, P ys.reverse := fun ys => by
    induction ys with
    | nil => exact h0
    | cons y ys ih =>
      rw [List.reverse_cons]
      exact hs _ _ ih
  have := h xs.reverse
  rwa [List.reverse_reverse] at this
theorem zip_filter {α : Type} (p : α → Bool) (xs : List α) : ((xs.zipIdx.filter fun q => p q.1).map (·.2)) = (List.range xs.length).filter fun i => (xs[i]?).any p := by
  refine snoc_ind (P := fun xs : List α => ((xs.zipIdx.filter fun q => p q.1).map (·.2)) = (List.range xs.length).filter fun i => (xs[i]?).any p) rfl (fun xs x ih => ?_) xs
  have e : ((List.range xs.length).filter fun i => ((xs ++ [x])[i]?).any p) = (List.range xs.length).filter fun i => (xs[i]?).any p :=
    List.filter_congr fun i mi => by rw [List.getElem?_append_left (List.mem_range.mp mi)]
  rw [List.zipIdx_append, List.filter_append, List.map_append, ih, List.length_append, List.length_singleton, List.range_succ, List.filter_append, e]
  congr 1
  by_cases hp : p x = true
  · simp [hp]
  · simp [hp]
theorem zip_filter2 {α : Type} (s : Nat → Bool) (d : α) (xs : List α) : ((xs.zipIdx.filter fun q => s q.2).map (·.1)) = ((List.range xs.length).filter s).map fun i => xs.getD i d := by
  refine snoc_ind (P := fun xs : List α => ((xs.zipIdx.filter fun q => s q.2).map (·.1)) = ((List.range xs.length).filter s).map fun i => xs.getD i d) rfl (fun xs x ih => ?_) xs
  have e : (((List.range xs.length).filter s).map fun i => (xs ++ [x]).getD i d) = ((List.range xs.length).filter s).map fun i => xs.getD i d :=
    List.map_congr_left fun i mi => by
      have := List.mem_range.mp (List.mem_filter.mp mi).1
      rw [List.getD_eq_getElem?_getD, List.getD_eq_getElem?_getD, List.getElem?_append_left this]
  rw [List.zipIdx_append, List.filter_append, List.map_append, ih, List.length_append, List.length_singleton, List.range_succ, List.filter_append, List.map_append, e]
  congr 1
  by_cases hp : s xs.length = true
  · simp [hp]
  · simp [hp]
end SV
namespace SV
open PySem PySem.Spec PyProof.Rows L2
theorem qb {Q : QS} {b c : Bool} {x : SSt} (q : Q (.val (.bool b)) x) (e : b = c) : Q (.val (.bool c)) x := e ▸ q
theorem qv {Q : QS} {b c : PyData} {x : SSt} (q : Q (.val b) x) (e : b = c) : Q (.val c) x := e ▸ q
theorem ifb_both {k : Bool} {A B P : Prop} (hp : P) (h1 : k = true → P → A) (h2 : k = false → P → B) : ifb k A B := ifb_of (fun e => h1 e hp) fun e => h2 e hp
theorem mem_cut {α : Type} {xs : List α} {lo hi : Option Int} {x : α} (h : x ∈ SV.cutD xs lo hi) : x ∈ xs := by
  unfold SV.cutD at h
  exact List.mem_of_mem_drop (List.mem_of_mem_take h)
theorem inD_range (n lo hi : Int) : inD (.int n) (rangeD lo hi) = decide (lo ≤ n ∧ n < hi) := by
  unfold inD rangeD
  rw [Bool.eq_iff_iff, List.any_eq_true, decide_eq_true_eq]
  constructor
  · rintro ⟨x, mx, hx⟩
    obtain ⟨i, mi, rfl⟩ := List.mem_map.mp mx
    rw [eqv_int, decide_eq_true_eq] at hx
    have := List.mem_range.mp mi
    omega
  · rintro ⟨h1, h2⟩
    refine ⟨.int n, List.mem_map.mpr ⟨(n - lo).toNat, List.mem_range.mpr (by omega), ?_⟩, by rw [eqv_int]; exact decide_eq_true rfl⟩
    congr 1
    omega
theorem eqv_tup2 {a b c d : Int} : PyData.eqv (.tuple [.int a, .int b]) (.tuple [.int c, .int d]) = (decide (a = c) && decide (b = d)) := by
  rw [PyData.eqv, PyData.eqvAll, PyData.eqvAll, PyData.eqvAll, eqv_int, eqv_int, Bool.and_true]
end SV
/-! SvY: statements one by one, the state told. -/
namespace SV
open PySem PySem.Spec PyProof.Rows L2
section
variable {te : TEs} {g : TGt} {t u : TSs} {tc : TTs} {σ σ2 : SSt} {D : Es} {ES : XS} {d : PyData} {r : S} {i : Nat}
theorem sq_asg (he : ∀ Q : KS, Q (.val d) σ → te σ Q ES) (hg : g d σ = some σ2) (h : u σ2 D ES) : sSeq (sAsg te g) u σ D ES := he _ (show nd (g d σ) fun σ2 => u σ2 D ES by rw [hg]; exact h)
theorem sq_if (b : Bool) (ht : ∀ Q : Bool → SSt → Prop, Q b σ → tc σ Q ES) (h1 : b = true → t σ { D with nx := fun σ1 => u σ1 D ES } ES) (h2 : b = false → u σ D ES) : sSeq (sIfS tc t sNext) u σ D ES := ht _ (ifb_of h1 h2)
theorem s_if {t2 : TSs} (b : Bool) (ht : ∀ Q : Bool → SSt → Prop, Q b σ → tc σ Q ES) (h1 : b = true → t σ D ES) (h2 : b = false → t2 σ D ES) : sIfS tc t t2 σ D ES := ht _ (ifb_of h1 h2)
/-- x = e, e pure -/
theorem sq_setv (d : PyData) (σ2 : SSt) (he : ∀ Q : KS, Q (.val d) σ → te σ Q ES) (hg : sets σ i (some (.val d)) = σ2) (h : u σ2 D ES) : sSeq (sSetV i te) u σ D ES := he _ (show u (sets σ i (some (.val d))) D ES by rw [hg]; exact h)
theorem s_ret (d : PyData) (he : ∀ Q : KS, Q (.val d) σ → te σ Q ES) (h : D.rt (.val d) σ) : sRet te σ D ES := he _ h
end
theorem tq {Q : Bool → SSt → Prop} {b c : Bool} {x : SSt} (q : Q b x) (e : b = c) : Q c x := e ▸ q
theorem ifb_tdec {p : Prop} [Decidable p] {A B : Prop} (h1 : p → A) (h2 : ¬ p → B) : ifb (tru (.bool (decide p))) A B := ifb_dec h1 h2
theorem ifb_ndec {p : Prop} [Decidable p] {A B : Prop} (h1 : ¬ p → A) (h2 : p → B) : ifb (!tru (.bool (decide p))) A B := by
  refine ifb_of (fun e => h1 fun hp => ?_) fun e => h2 ?_
  · simp [tru, hp] at e
  · simpa [tru] using e
theorem ifb_nb {b : Bool} {A B : Prop} (h1 : b = false → A) (h2 : b = true → B) : ifb (!tru (.bool b)) A B := by
  refine ifb_of (fun e => h1 ?_) fun e => h2 ?_
  · simpa [tru] using e
  · simpa [tru] using e
theorem ifb_tb {b : Bool} {A B : Prop} (h1 : b = true → A) (h2 : b = false → B) : ifb (tru (.bool b)) A B := ifb_of h1 h2
theorem ifb_teqi {i j : Int} {A B : Prop} (h1 : i = j → A) (h2 : i ≠ j → B) : ifb (tru (.bool (PyData.eqv (.int i) (.int j)))) A B := ifb_eqi h1 h2
theorem ifb_net2 {a b c d : Int} {A B : Prop} (h1 : ¬ (a = c ∧ b = d) → A) (h2 : (a = c ∧ b = d) → B) : ifb (tru (.bool (!PyData.eqv (.tuple [.int a, .int b]) (.tuple [.int c, .int d])))) A B := by
  show ifb (!PyData.eqv (.tuple [.int a, .int b]) (.tuple [.int c, .int d])) A B
  rw [eqv_tup2, ← Bool.decide_and, ← decide_not]
  exact ifb_dec h1 fun h => h2 (Decidable.not_not.mp h)
theorem ifb_eqt2 {a b c d : Int} {A B : Prop} (h1 : (a = c ∧ b = d) → A) (h2 : ¬ (a = c ∧ b = d) → B) : ifb (tru (.bool (PyData.eqv (.tuple [.int a, .int b]) (.tuple [.int c, .int d])))) A B := by
  show ifb (PyData.eqv (.tuple [.int a, .int b]) (.tuple [.int c, .int d])) A B
  rw [eqv_tup2, ← Bool.decide_and]
  exact ifb_dec h1 h2
end SV
namespace SV
open PySem PySem.Spec PyProof.Rows L2
section
variable {te : TEs} {g : TGt} {t t2 u : TSs} {tc : TTs} {σ σ2 : SSt} {D : Es} {ES : XS} {d : PyData} {r : S} {i : Nat}
/-- an if that goes on behind: what stands there is told once -/
theorem sq_ifP (Post : SSt → Prop) (h3 : ∀ σ', Post σ' → u σ' D ES) (h1 : ∀ N : SSt → Prop, (∀ σ', Post σ' → N σ') → tc σ (fun b σ1 => ifb b (t σ1 { D with nx := N } ES) (t2 σ1 { D with nx := N } ES)) ES) : sSeq (sIfS tc t t2) u σ D ES :=
  h1 (fun σ1 => u σ1 D ES) h3
/-- any statement -/
theorem sq_cut (Post : SSt → Prop) (h3 : ∀ σ', Post σ' → u σ' D ES) (h1 : ∀ N : SSt → Prop, (∀ σ', Post σ' → N σ') → t σ { D with nx := N } ES) : sSeq t u σ D ES := h1 (fun σ1 => u σ1 D ES) h3
end
theorem emod_bd (n : Int) {m : Int} (h : 0 < m) : 0 ≤ n % m ∧ n % m < m := ⟨Int.emod_nonneg n (by omega), Int.emod_lt_of_pos n h⟩
end SV
namespace SV
open PySem PySem.Spec PyProof.Rows L2
/-- try: .. except x as n: .. : what may be raised is told once -/
theorem s_tryAs {K : PySem.W.Frag} {c : Value} {Pc : Addr → Prop} {i : Nat} {t : TSs} {ts : Addr → Addr → TSs} {σ : SSt} {D : Es} {ES : XS} (Ex : XS)
    (hx : ∀ cls ed σ1, Ex cls ed σ1 → need (PySem.W.exmOne K cls c) fun b =>
      ifb b (∃ C, cls = .ref C ∧ ed = none ∧ Pc C ∧ ∀ a, ts C a (sets σ1 i (some (.adr a))) { D with nx := fun σ => D.nx (sets σ i none), bk := fun σ => D.bk (sets σ i none), ct := fun σ => D.ct (sets σ i none) } noX) (ES cls ed σ1))
    (h : ∀ ES' : XS, (∀ cls ed σ1, Ex cls ed σ1 → ES' cls ed σ1) → t σ D ES') : sTryAs K c Pc i t ts σ D ES := h _ hx
theorem ifb_andv {a b : Bool} {Q : QS} {x : SSt} (q : Q (.val (.bool (a && b))) x) : ifb (tru (.bool a)) (Q (.val (.bool b)) x) (Q (.val (.bool a)) x) := by
  cases a
  · exact ifb_f rfl q
  · exact ifb_t rfl q
theorem enum_map {α : Type} (f : α → PyData) (xs : List α) : enumD (xs.map f) = xs.zipIdx.map fun p => .tuple [.int (p.2 : Nat), f p.1] := by
  unfold enumD
  rw [List.zipIdx_map, List.map_map]
  rfl
end SV
/-! SvZ: a def that is called within an except suite. -/
namespace SV
open PySem PySem.Spec PyProof.Rows L2
/-- room, whatever is being handled -/
structure RoomU (k : Nat) (A : Around) : Prop where
  dp : A.depth + 3 * k + 5 < recursionLimit
  un : A.units + 16 * k + 200 < cLine
theorem RoomU.mono {j k : Nat} {A : Around} (r : RoomU k A) (h : j ≤ k) : RoomU j A := ⟨by have := r.dp; omega, by have := r.un; omega⟩
theorem RoomU.of {j k : Nat} {A : Around} (r : Room k A) (h : j ≤ k) : RoomU j A := ⟨by have := r.dp; omega, by have := r.un; omega⟩
theorem RoomU.ofM {j k : Nat} {A : Around} {x : Option Value} (r : Room k A) (h : j ≤ k) : RoomU j (A.mark x) := ⟨by have := r.dp; show A.depth + 3 * j + 5 < _; omega, by have := r.un; show A.units + 16 * j + 200 < _; omega⟩
theorem RoomU.deeper {k : Nat} {A : Around} (r : RoomU (k + 1) A) (env : Env) : RoomU k (A.deeper env) :=
  ⟨by have := r.dp; show A.depth + 1 + 3 * k + 5 < _; omega, by have := r.un; show A.units + 3 + 16 * k + 200 < _; omega⟩
theorem RoomU.units {k : Nat} {A : Around} (r : RoomU k A) : A.units + 64 < cLine := by have := r.un; omega
section
variable {P : Program} {w : World} {K : PySem.W.Frag} {mg : Str → Option Value} {base : Heap} {k : Nat} {f : Addr} {fd : FuncData} {N ps : List Str} {sp : Sps}
abbrev cxU (P : Program) (w : World) (K : PySem.W.Frag) (mg : Str → Option Value) (base : Heap) (N : List Str) (qual : Str) (sc : Scope) (f : Addr) (cdv : Value) (A : Around) (outer : List Env) (s : Shared) (H : Hp) (E : XK) : Cx :=
  { cxG P w K mg base N qual sc f cdv A outer s H E with calm := false }
/-- a def by its body, whatever is being handled -/
theorem fun_okU {x qual : Str} {st : Stmt} (Fn : Fun K x qual st f fd) (Sc : FnScope N ps (defScope st)) (len : ∀ ss Q E, sp ss Q E → ss.length = ps.length)
    (hbody : ∀ (cdv : Value) (A : Around) (outer : List Env) (s : Shared) (H : Hp) (Ex : XK) (vs : List V) (ss : List SV.S) (Q : QS) (E : XQ), RoomU k (A.deeper (envOfC qual (defScope st) s.heap.objs.size f cdv)) → (A.deeper (envOfC qual (defScope st) s.heap.objs.size f cdv)).guards = some [] → vs.length = ps.length → sp ss Q E →
      ∃ t, JSs (cxU P w K mg base N qual (defScope st) f cdv A outer s H Ex) (arV vs) (defBody st) t ∧ t (startS N.length ss) { nx := fun σ => Q (.val .none) (endS ps.length σ), rt := fun r σ => Q r (endS ps.length σ) } (fun cls ed _ => E cls ed)) : FnR P w K mg base (RoomU (k + 1)) f fd ps sp := by
  obtain ⟨oc, od, kV, doc, pm, an, cdv, ct, osl, rfl, lk, hcd⟩ := Fn.ex
  refine ⟨len, fun A outer s H I F args us vs ss Q E hr hgd e0 hbt rv st0 hsp => ?_⟩
  have lss := len _ _ _ hsp
  have lvs : vs.length = ps.length := by
    have := st0.len
    simp only [List.length_map] at this
    omega
  have KH : K.In s.heap := e0.mod.kin.keeps fun b o e => (e0.bs b o e).1
  have nl : s.heap.NoLimit := e0.mod.nolimit.keeps fun b o e => (e0.bs b o e).1
  have lN : ps.length ≤ N.length := by
    have := congrArg List.length Sc.pre
    rw [List.length_take] at this
    omega
  have kinds : ∀ y ∈ ps.zip us, (defScope st).names.lookup y.1 = some .local ∨ ((defScope st).names.lookup y.1 = some .cell ∧ ((cellsFrom (s.heap.objs.size + 1) (defScope st).names []).lookup y.1).isSome = true) := by
    rintro ⟨n, v⟩ hy
    exact (Sc.par n (List.of_mem_zip hy).1).imp id fun q => ⟨q, PySem.W.cellsFrom_some _ _ _ (.inl q)⟩
  refine codeAny_call_function (by have := hr.dp; omega) (KH _ _ lk) rfl Sc.co Sc.gen rfl (PySem.W.codeRec_of KH hcd) (hbt _ _ _ _ (wpAny_newFunctionEnv_cells Sc.kind kinds fun env he s1 x => ?_))
  subst he
  refine ⟨nl.keeps x.toInCall.keep, codeAny_func ?_⟩
  obtain ⟨t, ht, hq⟩ := hbody cdv A outer s H (EQ K I H F E) vs ss Q E (hr.deeper _) hgd lvs hsp
  have e0' : Env0 P w K mg base { A with handled := none } outer s H := ⟨e0.frames, e0.mod, e0.bs, e0.bsz, e0.funs, e0.frf, e0.hok, e0.bare⟩
  have J0 := inv_start (CX := L2.CX P w) (E := EQ K I H F E) (A := { A with handled := none }) Sc rfl e0' lvs rv x
  have J : Inv (cxU P w K mg base N qual (defScope st) f cdv A outer s H (EQ K I H F E)) [] (L2.start N vs) H s1 :=
    ⟨⟨J0.ok.mod, J0.ok.kind, J0.ok.glob, J0.ok.blt, J0.ok.above, J0.ok.inj, J0.ok.has, J0.ok.cab, fun h => absurd (show false = true from h) (by decide), J0.ok.frames, J0.ok.stk, J0.ok.exf, J0.ok.bs, J0.ok.bsz, J0.ok.noex, J0.ok.exfs, J0.ok.funs, J0.ok.frf⟩,
      J0.os, J0.bare, J0.base, J0.loc, J0.cell, J0.free, J0.freeC, J0.pin, J0.hok, J0.len⟩
  have tx : TX (cxU P w K mg base N qual (defScope st) f cdv A outer s H (EQ K I H F E)) (arV vs) I H (own F) (fun cls ed _ => E cls ed) :=
    ⟨_, takes_of rfl rfl rfl rfl, fun cls d σ' I' H' F' σs' ed ev st' hed q => ⟨I', ed, ev.sameo fun _ z => z.elim, st'.sub, hed, q⟩⟩
  have st1 := st0.enter (N := N) (by omega)
  refine wpAny_mono (ht.run [] s1 (L2.start N vs) H _ J ⟨I, F, startS N.length ss, _, _, st1, tx, hq, Rch.self _⟩) (fun fl s' hs => ?_) fun e s' hs => hs
  have out : ∀ {σ' : L2.St} {H' : Hp} {v : V} {u : Value} {r : S} {R : List Addr} {I' : Hp} {F' : Nat → List Addr} {σ'' : L2.St} {σs' : SSt}, Inv (cxU P w K mg base N qual (defScope st) f cdv A outer s H (EQ K I H F E)) [] σ' H' s' → RelV v u → Evo I H (own F) I' H' (fun a => a ∈ R ∨ own F' a) → StR K (arV vs) I' H' σ'' σs' F' → σs'.length = N.length → SR K I' H' v r R →
      (∀ a ∈ R, ¬ own F' a) → (∀ a ∈ R, I' a = none) → Q r (endS ps.length σs') → CE outer P w H s (RQ K vs I H F Q) u s' := by
    intro σ' H' v u r R I' F' σ'' σs' J' rv' ev stt hlen sr nf nI q
    obtain ⟨F2, st2, k2⟩ := stt.leave (by rw [hlen]; omega)
    exact ⟨v, H', J'.os, J'.bare, J'.base, J'.hok, rv', r, R, I', F2, _, ev.sameo fun a z => z.imp id (k2 a), st2, sr, fun a m z => nf a m (k2 a z), nI, by rw [lvs]; exact q⟩
  cases fl with
  | ret u =>
    obtain ⟨v, σ', H', J', rv', r, R, I', σ'', F', σs', hn, ev, stt, sr, nf, nI, q⟩ := hs
    exact out J' rv' ev stt (by rw [stt.len]; exact hn) sr nf nI q
  | next =>
    obtain ⟨σ', H', J', I', F', σs', ev, stt, q⟩ := hs
    exact out (v := .non) (R := []) J' rfl (ev.sameo fun a z => z.elim (fun m => absurd m (by simp)) id) stt (by rw [stt.len]; exact J'.len) (.val .non) (fun a m => absurd m (by simp)) (fun a m => absurd m (by simp)) q
  | brk =>
    obtain ⟨σ', H', J', I', F', σs', ev, stt, q⟩ := hs
    exact q.elim
  | cont =>
    obtain ⟨σ', H', J', I', F', σs', ev, stt, q⟩ := hs
    exact q.elim
end
end SV
namespace SV
open PySem PySem.Spec PyProof.Rows L2
/-! ### range with two arguments -/
def iRg2 (tp : TPs) : TIs := fun σs Q ES => tp σs (fun ds σ1 => match ds with
  | [.int i, .int j] => (-(2 ^ 62) ≤ i ∧ i < 2 ^ 62 ∧ -(2 ^ 62) ≤ j ∧ j < 2 ^ 62) ∧ Q (rangeD i j) σ1
  | _ => False) ES
section
variable {X : Cx} {ar : Nat → Option V} {tg e e2 : Expr} {tp : TPs} {b : Bool} {p pos : Pos}
theorem ji_range2 (hg : Gl X "range") (hm : X.mg "range" = none) (ha : JA X ar b [e, e2] tp) (hs : starEach [e, e2] X.env = (false, eval e X.env) :: starEach [e2] X.env := by rfl) (hpl : (backTo pos (starEach [e2] X.env)).any (·.1) = false := by rfl) : JI X ar tg (.Call (.Name "range" p) [e, e2] [] pos) (iRg2 tp) := by
  refine ⟨fun pins s σ H R J ⟨I, F, σs, Qk, ES, st, tx, q, f⟩ => ?_⟩
  refine Call_ (ld_blt J hg hm boot_range (PyProof.Rows.callWith_type1 (thn (ha.run pos pins s σ I H F σs _ ES J st tx q) fun us s1 ⟨vs, ds, I1, H1, F1, σ1, d, rv, pv, q1⟩ => ?_) hs hpl))
  have hd : ∃ i j : Int, ds = [.int i, .int j] := by
    revert q1
    match ds with
    | [] => exact fun q1 => (show False from q1).elim
    | [d1] => exact fun q1 => by cases d1 <;> exact (show False from q1).elim
    | [d1, d2] => exact fun q1 => by cases d1 <;> first | exact (show False from q1).elim | (cases d2 <;> first | exact (show False from q1).elim | exact ⟨_, _, rfl⟩)
    | d1 :: d2 :: d3 :: dr => exact fun q1 => by cases d1 <;> first | exact (show False from q1).elim | (cases d2 <;> exact (show False from q1).elim)
  obtain ⟨i, j, rfl⟩ := hd
  obtain ⟨⟨h1, h2, h3, h4⟩, q1⟩ := (show (-(2 ^ 62) ≤ i ∧ i < 2 ^ 62 ∧ -(2 ^ 62) ≤ j ∧ j < 2 ^ 62) ∧ Qk (rangeD i j) σ1 from q1)
  cases pv with
  | cons pd pt =>
    cases pd
    obtain ⟨v2, ev, pd2⟩ := pt.oneV
    subst ev
    cases pd2
    obtain ⟨u, u2, rfl, ru, ru2⟩ := vals2 rv
    obtain ⟨t, rfl⟩ := ru
    obtain ⟨t', rfl⟩ := ru2
    exact call_range_2 (range_it d.inv h1 h2 h3 h4 (f I1 H1 F1 σ1 _ _ d.evo d.st (by simpa using Walk.range (lo := i) (hi := j)) q1))
end
end SV
namespace SV
open PySem PySem.Spec PyProof.Rows L2
theorem sm_ints : ∀ ns : List Int, (∀ n ∈ ns, n.natAbs < 10 ^ 22) → smAll (ns.map .int) = true
  | [], _ => by simp [smAll]
  | n :: ns, h => by
    have h1 := h n (by simp)
    have ih := sm_ints ns fun m mm => h m (by simp [mm])
    simp only [List.map_cons, smAll, smI, ih, Bool.and_true, decide_eq_true_eq]
    exact h1
theorem bulk_ints : ∀ ns : List Int, PyData.bulkAll (ns.map .int) ≤ 30 * ns.length
  | [] => by simp [PyData.bulkAll]
  | n :: ns => by
    have ih := bulk_ints ns
    simp only [List.map_cons, PyData.bulkAll, PyData.bulk, List.length_cons]
    omega
theorem dep_ints : ∀ ns : List Int, PyData.depthAll (ns.map .int) ≤ 1
  | [] => by simp [PyData.depthAll]
  | n :: ns => by
    have ih := dep_ints ns
    simp only [List.map_cons, PyData.depthAll, PyData.depth]
    omega
/-- repr of a list of small ints -/
theorem show_ints {ns : List Int} (h : ∀ n ∈ ns, n.natAbs < 10 ^ 22) (hl : ns.length ≤ 20000) : ReprS (.list (ns.map .int)) :=
  ⟨by rw [smI]; exact sm_ints ns h, by rw [PyData.bulk]; have := bulk_ints ns; omega, by
    have := dep_ints ns
    rw [PyData.depth]
    omega⟩
theorem noDs_ints (ns : List Int) : noDs (ns.map .int) = true := noDs_map .int (fun _ => rfl) ns
end SV
namespace SV
open PySem PySem.Spec PyProof.Rows L2
section
variable {te : TEs} {t t2 u : TSs} {tc : TTs} {σ σ2 : SSt} {D : Es} {ES : XS} {i : Nat}
theorem sq_set (r : S) (σ2 : SSt) (he : ∀ Q : KS, Q r σ → te σ Q ES) (hg : sets σ i (some r) = σ2) (h : u σ2 D ES) : sSeq (sSet i te) u σ D ES := he _ (show u (sets σ i (some r)) D ES by rw [hg]; exact h)
theorem sq_ifPb (b : Bool) (Post : SSt → Prop) (ht : ∀ Q : Bool → SSt → Prop, Q b σ → tc σ Q ES) (h1 : b = true → ∀ N : SSt → Prop, (∀ σ', Post σ' → N σ') → t σ { D with nx := N } ES)
    (h2 : b = false → ∀ N : SSt → Prop, (∀ σ', Post σ' → N σ') → t2 σ { D with nx := N } ES) (h3 : ∀ σ', Post σ' → u σ' D ES) : sSeq (sIfS tc t t2) u σ D ES :=
  sq_ifP Post h3 fun N hN => ht _ (ifb_of (fun e => h1 e N hN) fun e => h2 e N hN)
end
end SV
/-! Sva: own dicts whose keys are ints and texts: displays, d[k]. -/
namespace SV
open PySem PySem.Spec PyProof.Rows L2
theorem eqv_kD (a b : Key) : PyData.eqv (kD a) (kD b) = decide (a = b) := by
  cases a with
  | inl i => cases b with
    | inl j =>
      show PyData.eqv (.int i) (.int j) = _
      rw [eqv_int]
      simp
    | inr y => rfl
  | inr x => cases b with
    | inl j => rfl
    | inr y =>
      show PyData.eqv (.str x) (.str y) = _
      rw [eqv_str]
      simp
def lookD (kvs : List (PyData × PyData)) (k : PyData) : Option PyData := (kvs.find? fun p => PyData.eqv p.1 k).map (·.2)
theorem look_rel {K : PySem.W.Frag} {I : Hp} {k : Key} {d : PyData} : ∀ {vk : List (Key × V)} {kvs : List (PyData × PyData)}, kvs.map (·.1) = vk.map (fun p => kD p.1) → PRs K I (vk.map (·.2)) (kvs.map (·.2)) → lookD kvs (kD k) = some d → ∃ v, valV vk k = some v ∧ PR K I v d
  | [], [], _, _, h => by cases h
  | [], _ :: _, e, _, _ => by cases e
  | _ :: _, [], e, _, _ => by cases e
  | p :: vk, q :: kvs, e, pv, h => by
    simp only [List.map_cons, List.cons.injEq] at e
    obtain ⟨e1, e2⟩ := e
    cases pv with
    | cons p1 p2 =>
      unfold lookD at h
      rw [List.find?_cons, e1, eqv_kD] at h
      by_cases z : p.1 = k
      · rw [decide_eq_true z] at h
        cases h
        exact ⟨p.2, valV_pos z, p1⟩
      · rw [decide_eq_false z] at h
        obtain ⟨v, ev, pd⟩ := look_rel (k := k) (d := d) e2 p2 h
        exact ⟨v, by rw [valV_neg z]; exact ev, pd⟩
theorem SR.dct_inv {K : PySem.W.Frag} {I H : Hp} {v : V} {kvs : List (PyData × PyData)} {R : List Addr} (h : SR K I H v (.dct kvs) R) : ∃ a vk, v = .ref a ∧ R = [a] ∧ H a = some (.dK vk) ∧ kvs.map (·.1) = vk.map (fun p => kD p.1) ∧ PRs K I (vk.map (·.2)) (kvs.map (·.2)) := by
  generalize e : S.dct kvs = r at h
  cases h with
  | dct h h2 p => cases e; exact ⟨_, _, rfl, rfl, h, h2, p⟩
  | val => cases e
  | lst => cases e
  | scr => cases e
  | adr => cases e
  | exn => cases e
  | tpl => cases e
  | ins => cases e

/-! ### d[k] -/
def dixK (kvs : List (PyData × PyData)) (Q : KS) : KS := fun r σ => match r with
  | .val (.int i) => need (lookD kvs (.int i)) fun d => Q (.val d) σ
  | .val (.str x) => need (lookD kvs (.str x)) fun d => Q (.val d) σ
  | _ => False
def sDix (ta tb : TEs) : TEs := fun σs Q ES => ta σs (fun r σ1 => match r with
  | .dct kvs => tb σ1 (dixK kvs Q) ES
  | _ => False) ES
section
variable {X : Cx} {ar : Nat → Option V} {a b : Expr} {ta tb : TEs} {b1 b2 m1 m2 : Bool} {pos : Pos}
theorem dixK_inv {kvs : List (PyData × PyData)} {Q : KS} {r : S} {σ : SSt} (h : dixK kvs Q r σ) : ∃ (k : Key) (d : PyData), r = .val (kD k) ∧ lookD kvs (kD k) = some d ∧ Q (.val d) σ := by
  cases r with
  | val y =>
    cases y with
    | int i =>
      obtain ⟨d, e, q⟩ := need_some (show need (lookD kvs (.int i)) fun d => Q (.val d) σ from h)
      exact ⟨.inl i, d, rfl, e, q⟩
    | str x =>
      obtain ⟨d, e, q⟩ := need_some (show need (lookD kvs (.str x)) fun d => Q (.val d) σ from h)
      exact ⟨.inr x, d, rfl, e, q⟩
    | _ => exact (show False from h).elim
  | _ => exact (show False from h).elim
theorem PR.key {K : PySem.W.Frag} {I : Hp} {v : V} {k : Key} (h : PR K I v (kD k)) : v = kV k := by
  cases k with
  | inl i =>
    have h : PR K I v (.int i) := h
    cases h
    rfl
  | inr x =>
    have h : PR K I v (.str x) := h
    cases h
    rfl
theorem je_dix (hu : X.A.units + 1 < cLine) (ha : JE X ar b1 m1 a ta) (hb : JE X ar b2 m2 b tb) (hs : NoSl b := by exact fun _ _ => rfl) (hm : m1 = true ∨ b2 = true := by first | exact Or.inl rfl | exact Or.inr rfl) : JE X ar (b1 && b2) true (.Subscript a b pos) (sDix ta tb) := by
  refine ⟨fun pins s σ I H F σs Q ES J st tx q => ?_⟩
  refine subD_of PySem.F.slot_dict_getitem.lookup hs (thn (ha.run pins s σ I H F σs _ ES J st tx q) fun u s1 ⟨x, rx, R1, I1, H1, F1, σ1, h1, r1, q1⟩ => ?_)
  cases rx with
  | dct kvs =>
    have q1' : tb σ1 (dixK kvs Q) ES := q1
    refine thn (hb.run pins s1 σ I1 H1 F1 σ1 _ ES h1.inv h1.st (tx.go h1.base.evo fun _ z => z) q1') fun iv s2 ⟨y, ry, R2, I2, H2, F2, σ2, h2, r2, q2⟩ => ?_
    obtain ⟨sx, _, _, _⟩ := h1.over h2.base hm
    obtain ⟨c, vk, rfl, _, eh, ek, pv⟩ := sx.dct_inv
    obtain ⟨k, d, rfl, el, q3⟩ := dixK_inv q2
    obtain ⟨_, pk⟩ := h2.sr.val_inv
    obtain rfl := pk.key
    obtain ⟨v, ev, pd⟩ := look_rel ek pv el
    obtain rfl : u = Value.ref c := r1
    have g := DGet.k (k := k) eh
    rw [ev] at g
    exact ⟨dict_typeIs h2.inv g, d_getItem hu h2.inv g r2 fun w' s3 J3 rw' => RP.of_vp (h1.base.then h2.base) ⟨v, H2, J3, rw', .val h2.st.sub pd q3⟩⟩
  | _ => exact (show False from q1).elim
end

/-! ### displays -/
abbrev TDs := SSt → (List (Key × PyData) → SSt → Prop) → XS → Prop
def dNil : TDs := fun σs Q _ => Q [] σs
def dCons (tk tv : TEs) (t : TDs) : TDs := fun σs Q ES => tk σs (fun r σ1 => match r with
  | .val (.int i) => tv σ1 (fun r σ2 => nd r.toD fun d => t σ2 (fun ds σ3 => Q ((.inl i, d) :: ds) σ3) ES) ES
  | .val (.str x) => tv σ1 (fun r σ2 => nd r.toD fun d => t σ2 (fun ds σ3 => Q ((.inr x, d) :: ds) σ3) ES) ES
  | _ => False) ES
def DPq (X : Cx) (ar : Nat → Option V) (pins : List (Addr × Obj)) (σ : L2.St) (b : Bool) (I H : Hp) (F : Nat → List Addr) (σs : SSt) (Q : List (Key × PyData) → SSt → Prop) (ws : List (Value × Value)) (s' : Shared) : Prop :=
  ∃ (kvs : List (Key × V)) (ds : List (Key × PyData)) (I' H' : Hp) (F' : Nat → List Addr) (σs' : SSt), BPd X ar pins σ b I H F σs I' H' F' σs' s' ∧ VV (kvs.map fun kv => (kV kv.1, kv.2)) ws ∧ ds.map (·.1) = kvs.map (·.1) ∧ PRs X.K I' (kvs.map (·.2)) (ds.map (·.2)) ∧ Q ds σs'
structure JD (X : Cx) (ar : Nat → Option V) (b : Bool) (pos : Pos) (keys : List (Option Expr)) (vals : List Expr) (t : TDs) : Prop where
  run : ∀ (pins : List (Addr × Obj)) (s : Shared) (σ : L2.St) (I H : Hp) (F : Nat → List Addr) (σs : SSt) (Q : List (Key × PyData) → SSt → Prop) (ES : XS), Inv X pins σ H s → StR X.K ar I H σ σs F → TX X ar I H (own F) ES → t σs Q ES →
    wpAny (model X.prog X.w) X.A (evalPairs (pairTrees keys vals X.env pos)) (DPq X ar pins σ b I H F σs Q) X.xe s
section
variable {X : Cx} {ar : Nat → Option V} {k v : Expr} {ks : List (Option Expr)} {vs : List Expr} {tk tv : TEs} {t : TDs} {b1 b2 b3 m1 : Bool} {pos : Pos}
theorem jd_nil : JD X ar true pos [] [] dNil := ⟨fun pins s σ I H F σs Q ES J st tx q => pairTrees_nil_walk ⟨[], [], I, H, F, σs, .refl J st, .nil, rfl, .nil, q⟩⟩
theorem jd_cons (hk : JE X ar b1 m1 k tk) (hv : JE X ar b2 true v tv) (hr : JD X ar b3 pos ks vs t) : JD X ar (b1 && b2 && b3) pos (some k :: ks) (v :: vs) (dCons tk tv t) := by
  refine ⟨fun pins s σ I H F σs Q ES J st tx q => ?_⟩
  refine pairTrees_cons_walk (thn (hk.run pins s σ I H F σs _ ES J st tx q) fun u s1 ⟨x, rx, R1, I1, H1, F1, σ1, h1, r1, q1⟩ => ?_)
  have hx : ∃ kk : Key, rx = .val (kD kk) ∧ tv σ1 (fun r σ2 => nd r.toD fun d => t σ2 (fun ds σ3 => Q ((kk, d) :: ds) σ3) ES) ES := by
    cases rx with
    | val y =>
      cases y with
      | int i => exact ⟨.inl i, rfl, q1⟩
      | str z => exact ⟨.inr z, rfl, q1⟩
      | _ => exact (show False from q1).elim
    | _ => exact (show False from q1).elim
  clear q1
  obtain ⟨kk, rfl, q1⟩ := hx
  obtain ⟨_, pk⟩ := h1.sr.val_inv
  obtain rfl := pk.key
  refine thn (hv.run pins s1 σ I1 H1 F1 σ1 _ ES h1.inv h1.st (tx.go h1.base.evo fun _ z => z) q1) fun u2 s2 ⟨y, ry, R2, I2, H2, F2, σ2, h2, r2, q2⟩ => ?_
  obtain ⟨d, ed, q2⟩ := nd_some q2
  obtain ⟨hb, pd⟩ := h2.freeze ed
  refine thn (hr.run pins s2 σ _ H2 F2 σ2 _ ES hb.inv hb.st ((tx.go h1.base.evo fun _ z => z).go hb.evo fun _ z => z) q2) fun ws s3 ⟨kvs, ds, I3, H3, F3, σ3, h3, vv, ek, pv, q3⟩ => ?_
  exact ⟨(kk, y) :: kvs, (kk, d) :: ds, I3, H3, F3, σ3, (h1.base.then hb).then h3, .cons ⟨r1, r2⟩ vv, by simp only [List.map_cons, ek], .cons (pd.sub h3.evo.up) pv, q3⟩
theorem merge_nodup : ∀ (more kvs : List (Key × V)), ((kvs ++ more).map (·.1)).Nodup → mergeK kvs more = kvs ++ more
  | [], kvs, _ => by simp [mergeK]
  | p :: more, kvs, h => by
    have hn : valV kvs p.1 = none := by
      cases e : valV kvs p.1 with
      | none => rfl
      | some z =>
        have e2 : (kvs.any fun kv => decide (kv.1 = p.1)) = true := by rw [valV_any, e]; rfl
        obtain ⟨kv, mk, ek⟩ := List.any_eq_true.mp e2
        have ek := of_decide_eq_true ek
        rw [List.map_append, List.nodup_append] at h
        exact absurd ek (h.2.2 _ (List.mem_map.mpr ⟨kv, mk, rfl⟩) _ (by simp))
    show mergeK (putK kvs p.1 p.2) more = _
    rw [putK_new p.2 hn, merge_nodup more (kvs ++ [(p.1, p.2)]) (by simpa using h)]
    simp
def sDct (t : TDs) : TEs := fun σs Q ES => t σs (fun ds σ1 => (ds.length ≤ 15 ∧ (ds.map (·.1)).Nodup) ∧ Q (.dct (ds.map fun p => (kD p.1, p.2))) σ1) ES
theorem je_disp {keys : List (Option Expr)} {vals : List Expr} (h : JD X ar b1 pos keys vals t) (hall : keys.all (·.isSome) = true := by rfl) (hl : keys.length = vals.length := by rfl) (h0 : keys ≠ [] := by exact fun z => by cases z) (h15 : keys.length ≤ 15 := by decide) : JE X ar false true (.Dict keys vals pos) (sDct t) := by
  refine ⟨fun pins s σ I H F σs Q ES J st tx q => ?_⟩
  have hn := J.hok.fresh (Nat.le_refl s.heap.objs.size)
  have J1 := J.laid (a := s.heap.objs.size) (o := .dK []) (h' := s.heap.push { cls := .type "dict", data := .dict #[] }) (t' := s.toks) (fun _ _ q => Heap.get?_push_of_some _ q) (Nat.le_refl _) (dk_empty s.heap J.big)
  generalize ep : s.heap.objs.size = p at hn J1
  have np : ¬ own F p := fun z => by
    obtain ⟨x, e⟩ := st.there z
    rw [hn] at e
    cases e
  have st1 : StR X.K ar I (upd H p (.dK [])) σ σs F := st.keep (st.sub.trans (upd_grow hn)) (.refl I) (fun a _ x q => upd_grow hn a x q) (fun a m => st.ownI m)
  have ev1 : Evo I H (own F) I (upd H p (.dK [])) (own F) := ⟨.refl I, fun a x e _ => upd_grow hn a x e, fun a m => .inl m, fun a x e => .inl e⟩
  refine wpAny_Dict_walk (knd := mixKind X.prog X.w) hall hl h0 h15 (thn (h.run pins _ σ I _ F σs _ ES J1 st1 (tx.go ev1 fun _ z => z) q) fun ws s2 ⟨kvs, ds, I2, H2, F2, σ2, bd, vv, ek, pv, ⟨l15, ndp⟩, q2⟩ => ?_)
  have upn : ∀ a, upd H p (.dK []) a = none → H a = none := fun a e => by
    by_cases z : a = p
    · rw [z]; exact hn
    · rwa [upd_ne z] at e
  have ne2 : ∀ {a x}, H a = some x → ¬ a = p := fun e z => by rw [z, hn] at e; cases e
  have e2 : H2 p = some (.dK []) := bd.evo.fr p _ upd_same np
  have i2 : I2 p = none := by
    cases e : I2 p with
    | none => rfl
    | some x =>
      rcases bd.evo.ni p x e with z | z | z
      · exact absurd rfl (ne2 (st.sub _ _ z))
      · exact absurd z np
      · rw [upd_same] at z; cases z
  have nf2 : ¬ own F2 p := fun z => by
    rcases bd.evo.nw p z with z | z
    · exact np z
    · rw [upd_same] at z; cases z
  obtain ⟨rs, c, rk⟩ := carries_of (P := X.prog) (w := X.w) vv
  obtain ⟨z, hd, vs0, r0, dd⟩ := dk_of bd.inv.hok e2
  cases r0
  have hnd : ((([] : List (Key × V)) ++ kvs).map (·.1)).Nodup := by
    rw [List.nil_append, ← ek]
    exact ndp
  have hmg := merge_nodup kvs [] hnd
  rw [ep]
  refine ⟨rs, c, dd, fun h' dd' hs => ?_⟩
  have lk : kvs.length ≤ 15 := by
    have := congrArg List.length ek
    simp only [List.length_map] at this
    omega
  have hz : (mergeK [] kvs).length ≤ sizeLine := by
    have h1 := length_mergeK kvs []
    rw [List.length_nil] at h1
    rw [sizeLine_eq]
    omega
  have he : ∃ q, h'.get? p = some q := let ⟨q, _, _, hq, _⟩ := dd'; ⟨q, hq⟩
  have J3 := d_write (t' := s2.toks + ws.length) bd.inv (by rw [e2]; exact True.intro) hs he (dk_new (H' := upd H2 p (.dK (mergeK [] kvs))) hz hd (rk.merge .nil) dd')
  rw [hmg, List.nil_append] at J3
  refine ⟨.ref p, _, [p], I2, upd H2 p (.dK kvs), F2, σ2, ⟨J3, ⟨bd.evo.up, fun a x e n => ?_, fun a m => ?_, fun a x e => ?_⟩, bd.st.keep (fun a x e => ?_) (.refl I2) (fun a m x q => ?_) (fun a m => bd.st.ownI m), .dct upd_same ?_ ?_, fun _ a m => ?_, fun a m => ?_, fun h => Bool.noConfusion h⟩, rfl, q2⟩
  · rw [upd_ne (ne2 e)]
    exact bd.evo.fr a x (upd_grow hn a x e) n
  · rcases m with m | m
    · rw [List.mem_singleton.mp m]
      exact .inr hn
    · exact (bd.evo.nw a m).imp id (upn a)
  · exact (bd.evo.ni a x e).imp id (Or.imp id (upn a))
  · have n : ¬ a = p := fun z => by rw [z, i2] at e; cases e
    rw [upd_ne n]
    exact bd.st.sub a x e
  · have n : ¬ a = p := fun z => nf2 (z ▸ m)
    rw [upd_ne n]
    exact q
  · rw [List.map_map]
    have := congrArg (List.map kD) ek
    rw [List.map_map, List.map_map] at this
    exact this
  · have e9 : (ds.map fun p : Key × PyData => (kD p.1, p.2)).map (·.2) = ds.map (·.2) := by
      rw [List.map_map]
      rfl
    rw [e9]
    exact pv
  · rw [List.mem_singleton.mp m]
    exact nf2
  · rw [List.mem_singleton.mp m]
    exact i2
end
end SV
namespace SV
theorem hu1 {n : Nat} (h : n + 64 < PySem.cLine) : n + 1 < PySem.cLine := by omega
end SV
namespace SV
open PySem PySem.Spec PyProof.Rows L2
theorem ixN_nat {n k : Nat} (h : k < n) : ixN n (k : Nat) = some k := by
  unfold ixN
  rw [if_pos (by omega), if_pos (by omega)]
  congr 1
section
variable {te tx : TEs} {u : TSs} {σ σ2 : SSt} {D : Es} {ES : XS} {i : Nat}
theorem s_seti {ds : List PyData} (d : PyData) (k : Nat) (he : ∀ Q : KS, Q (.val d) σ → te σ Q ES) (hx : ∀ Q : KS, Q (.val (.int (k : Nat))) σ → tx σ Q ES) (hg : gets σ i = some (.lst ds)) (hk : k < ds.length) (hs : sets σ i (some (.lst (ds.set k d))) = σ2) (h : D.nx σ2) : sSetI i te tx σ D ES := by
  refine he _ ?_
  show (match gets σ i with
    | some (.lst _) => tx σ (fun r2 σ2 => match r2, gets σ2 i with
      | .val (.int k), some (.lst ds) => need (ixN ds.length k) fun j => D.nx (sets σ2 i (some (.lst (ds.set j d))))
      | _, _ => False) ES
    | _ => False)
  rw [hg]
  refine hx _ ?_
  show (match S.val (.int (k : Nat)), gets σ i with
      | .val (.int k), some (.lst ds) => need (ixN ds.length k) fun j => D.nx (sets σ i (some (.lst (ds.set j d))))
      | _, _ => False)
  rw [hg]
  refine need_of (ixN_nat hk) ?_
  show D.nx (sets σ i (some (.lst (ds.set k d))))
  rw [hs]
  exact h
theorem sq_seti {ds : List PyData} (d : PyData) (k : Nat) (σ2 : SSt) (he : ∀ Q : KS, Q (.val d) σ → te σ Q ES) (hx : ∀ Q : KS, Q (.val (.int (k : Nat))) σ → tx σ Q ES) (hg : gets σ i = some (.lst ds)) (hk : k < ds.length) (hs : sets σ i (some (.lst (ds.set k d))) = σ2) (h : u σ2 D ES) : sSeq (sSetI i te tx) u σ D ES :=
  s_seti (D := { D with nx := fun σ1 => u σ1 D ES }) d k he hx hg hk hs h
end
end SV
/-! Svb: comprehensions with two clauses, nothing changed by them. -/
namespace SV
open PySem PySem.Spec PyProof.Rows L2
section
variable {α β : Type} {g g1 : TGt} {ti1 : TIs} {te : TEs} {vs vs1 : List Nat}
theorem lc2_in (f1 e : β → PyData) {σ1 : SSt} (σ2 : β → SSt) {K : List PyData → SSt → Prop} : ∀ (ys : List β) (acc : List PyData), acc.length + ys.length ≤ 16000000 →
    (∀ y ∈ ys, g1 (f1 y) σ1 = some (σ2 y)) → (∀ y ∈ ys, wipeS (σ2 y) vs1 = σ1) → (∀ y ∈ ys, ∀ Q : KS, Q (.val (e y)) (σ2 y) → te (σ2 y) Q noX) → K (acc ++ ys.map e) σ1 → lcTG g1 (bLc tYesS te) vs1 (ys.map f1) acc σ1 K
  | [], acc, _, _, _, _, h => by
    rw [List.map_nil, List.append_nil] at h
    exact h
  | y :: ys, acc, hl, hg, hw, he, h => by
    rw [List.length_cons] at hl
    show nd (g1 (f1 y) σ1) fun σ2 => bLc tYesS te σ2 acc fun acc' σ3 => lcTG g1 (bLc tYesS te) vs1 (ys.map f1) acc' (wipeS σ3 vs1) K
    rw [hg y (by simp)]
    refine ifb_t rfl (he y (by simp) _ (And.intro (room2 (by omega)) ?_))
    show lcTG g1 (bLc tYesS te) vs1 (ys.map f1) (acc ++ [e y]) (wipeS (σ2 y) vs1) K
    rw [hw y (by simp)]
    refine lc2_in f1 e σ2 ys (acc ++ [e y]) (by rw [List.length_append]; simp; omega) (fun z m => hg z (by simp [m])) (fun z m => hw z (by simp [m])) (fun z m => he z (by simp [m])) ?_
    rw [List.map_cons] at h
    rw [List.append_assoc]
    exact h
theorem lc2_out (f : α → PyData) (f1 : β → PyData) (ys : α → List β) (e : α → β → PyData) {σ0 : SSt} (σ1 : α → SSt) (σ2 : α → β → SSt) {K : List PyData → SSt → Prop} : ∀ (xs : List α) (acc : List PyData), acc.length + (xs.flatMap ys).length ≤ 16000000 →
    (∀ x ∈ xs, g (f x) σ0 = some (σ1 x)) → (∀ x ∈ xs, wipeS (σ1 x) vs1 = σ1 x) → (∀ x ∈ xs, wipeS (σ1 x) vs = σ0) → (∀ x ∈ xs, ∀ Q : List PyData → SSt → Prop, Q ((ys x).map f1) (σ1 x) → ti1 (σ1 x) Q noX) →
    (∀ x ∈ xs, ∀ y ∈ ys x, g1 (f1 y) (σ1 x) = some (σ2 x y)) → (∀ x ∈ xs, ∀ y ∈ ys x, wipeS (σ2 x y) vs1 = σ1 x) → (∀ x ∈ xs, ∀ y ∈ ys x, ∀ Q : KS, Q (.val (e x y)) (σ2 x y) → te (σ2 x y) Q noX) →
    K (acc ++ xs.flatMap fun x => (ys x).map (e x)) σ0 → lcTG g (bLc2 tYesS ti1 g1 tYesS te vs1) vs (xs.map f) acc σ0 K
  | [], acc, _, _, _, _, _, _, _, _, h => by
    rw [List.flatMap_nil, List.append_nil] at h
    exact h
  | x :: xs, acc, hl, hg, hw1, hw, ht, hg1, hw2, he, h => by
    rw [List.flatMap_cons, List.length_append] at hl
    show nd (g (f x) σ0) fun σ1 => bLc2 tYesS ti1 g1 tYesS te vs1 σ1 acc fun acc' σ3 => lcTG g (bLc2 tYesS ti1 g1 tYesS te vs1) vs (xs.map f) acc' (wipeS σ3 vs) K
    rw [hg x (by simp)]
    refine ifb_t rfl (ht x (by simp) _ ?_)
    show lcTG g1 (bLc tYesS te) vs1 ((ys x).map f1) acc (wipeS (σ1 x) vs1) _
    rw [hw1 x (by simp)]
    refine lc2_in f1 (e x) (σ2 x) (ys x) acc (by omega) (hg1 x (by simp)) (hw2 x (by simp)) (he x (by simp)) ?_
    show lcTG g (bLc2 tYesS ti1 g1 tYesS te vs1) vs (xs.map f) (acc ++ (ys x).map (e x)) (wipeS (σ1 x) vs) K
    rw [hw x (by simp)]
    refine lc2_out f f1 ys e σ1 σ2 xs _ (by rw [List.length_append, List.length_map]; omega) (fun z m => hg z (by simp [m])) (fun z m => hw1 z (by simp [m])) (fun z m => hw z (by simp [m])) (fun z m => ht z (by simp [m])) (fun z m => hg1 z (by simp [m])) (fun z m => hw2 z (by simp [m])) (fun z m => he z (by simp [m])) ?_
    rw [List.flatMap_cons] at h
    rw [List.append_assoc]
    exact h
end
end SV
namespace SV
open PySem PySem.Spec PyProof.Rows L2
section
variable {te : TEs} {u : TSs} {σ σ2 : SSt} {D : Es} {ES : XS} {i : Nat}
/-- x = e, where e makes a list -/
theorem sq_setvL (ds : List PyData) (σ2 : SSt) (he : ∀ Q : KS, Q (.lst ds) σ → te σ Q ES) (hg : sets σ i (some (.val (.list ds))) = σ2) (h : u σ2 D ES) : sSeq (sSetV i te) u σ D ES := he _ (show u (sets σ i (some (.val (.list ds)))) D ES by rw [hg]; exact h)
end
end SV
/-! Svc: own exceptions with an own __init__ that stores one field; except clauses one after the other; the field read in a suite. -/
namespace SV
open PySem PySem.Spec PyProof.Rows L2

/-! ### Z.__init__(self, ..): Z an own class that has ValueError's -/
structure ExZ (K : PySem.W.Frag) (mg : Str → Option Value) (z : Str) (Z : Addr) : Prop where
  g : mg z = some (.ref Z)
  rd : PySem.W.readsIn K Z (.type "type") = true
  ga : PySem.W.specialIn K (.ref Z) "__getattribute__" = some (some (.builtin "type.__getattribute__"))
  vV : PySem.W.findCls K (.ref Z) (.type "type") "__init__" = some (.val (.builtin "ValueError.__init__"))
section
variable {X : Cx} {e : Expr} {es : List Expr} {ta : TA} {p1 p2 pos : Pos} {z : Str} {Z : Addr}
theorem pe_zinit {pl : Sem Bool} (hg : Gl X z) (c : ExZ X.K X.mg z Z) (ha : PA X (e :: es) ta) (hdb : (z == ("__debug__" : Str)) = false := by decide)
    (hc : eval (.Call (.Attribute (.Name z p1) "__init__" p2) (e :: es) [] pos) X.env = (do
      let ov ← eval (.Name z p1) X.env
      standAt p2.atName
      let (f, first) ← holding [ov] (getMethod ov "__init__" pl)
      callWith pos f first (backTo pos (starEach (e :: es) X.env)) (backToKw pos (keywordEach [] X.env))) := by rfl)
    (he : starEach (e :: es) X.env = (false, eval e X.env) :: starEach es X.env := by rfl) (hpl : (backTo pos (starEach es X.env)).any (·.1) = false := by rfl) :
    PE X (.Call (.Attribute (.Name z p1) "__init__" p2) (e :: es) [] pos) (tVeI X.K ta) := by
  refine ⟨fun pins s σ H Q I h => ?_⟩
  refine PySem.W.methodCall_KW (ld_glob I hg c.g ?_ hdb) hc
  refine PySem.W.method_cls I.kIn c.ga (PySem.W.cls_value I.kIn c.rd c.vV (by decide +kernel) ?_)
  show wpAny _ _ (callWith pos (Value.builtin "ValueError.__init__") [] (backTo pos (starEach (e :: es) X.env)) []) _ _ _
  refine PyProof.Rows.callWith_method1 (thn (ha.run pos pins _ σ H _ (I.tok _) h) fun us s1 ⟨vs, H1, I1, r1, a, C, ws, ev, hl, T, ea, q⟩ => ?_) he hpl
  subst ev
  cases r1 with
  | @cons _ u0 _ ur ra rw' =>
    obtain rfl : u0 = Value.ref a := ra
    have hlen : ur.length ≤ sizeLine := by
      rw [← Paired.length rw', sizeLine_eq]
      omega
    exact oinit_ok T I1 ea hlen fun s' J => ⟨.non, H1, J, rfl, q⟩
end
/-- what an own __init__ with one field promises -/
def spInit (K : PySem.W.Frag) (f : Str) : Sp := fun vs H Q _ => ∃ (a C : Addr) (y : V), vs = [.ref a, y] ∧ OexC K C ∧ PySem.W.findIn K (.ref C) f = some none ∧ H a = some (exo a C none) ∧ ∀ d, H d = none → d ≠ a → Q .non (upd (upd H d (exd d [(f, y)])) a (exo a C (some d)))
theorem len_spInit {K : PySem.W.Frag} {f : Str} : ∀ vs H Q E, spInit K f vs H Q E → vs.length = 2 := by rintro _ _ _ _ ⟨_, _, _, rfl, _⟩; rfl
/-- the body of such an __init__ : Z.__init__(self, '..'), self.f = y -/
theorem init_read {K : PySem.W.Frag} {f m : Str} {N : List Str} {vs : List V} {H : Hp} {Q : VK} {E : XK} (hN : N.length = 2) (h : spInit K f vs H Q E) :
    tSeq (tDrop (tVeI K (tCons (tVar 0) (tCons (tC (.str m)) tNil)))) (tOst K f (tVar 0) (tVar 1)) { nx := fun _ H' => Q .non H', rt := Q } (L2.start N vs) H := by
  obtain ⟨a, C, y, rfl, T, hn, ea, q⟩ := h
  have g0 : (L2.start N [V.ref a, y])[0]? = some (some (.ref a)) := start_get rfl
  have g1 : (L2.start N [V.ref a, y])[1]? = some (some y) := start_get rfl
  refine ⟨.ref a, g0, a, C, [.str m], rfl, by show 1 ≤ 1000; decide, T, ea, ?_⟩
  exact ⟨y, g1, .ref a, g0, a, C, rfl, T, hn, .inl ⟨ea, fun d h1 h2 => q d h1 h2⟩⟩
/-- what the text says of an own exception class with such an __init__ -/
structure ExI (P : Program) (w : World) (K : PySem.W.Frag) (mg : Str → Option Value) (base : Heap) (k : Nat) (x f : Str) (C fI : Addr) (fd : FuncData) (ps : List Str) : Prop where
  T : OexC K C
  iC : PySem.W.findIn K (.ref C) "__init__" = some (some (.ref fI))
  tI : PySem.W.typeIn K (.ref fI) = some (.type "function")
  no : PySem.W.findIn K (.ref C) f = some none
  g : mg x = some (.ref C)
  F : FnOk P w K mg base (L2.CX P w) k fI fd ps (spInit K f)
  b : Binds K fd ps []
theorem upd_xd {H : Hp} {a C d : Addr} {y : V} {f : Str} (hn : H a = none) (hd : d ≠ a) : upd (del (upd (upd (upd H a (exo a C none)) d (exd d [(f, y)])) a (exo a C (some d))) a) d (.xd [(f, y)]) = upd H d (.xd [(f, y)]) := by
  funext b
  by_cases h1 : b = d
  · subst h1
    rw [upd_same, upd_same]
  · rw [upd_ne h1, upd_ne h1]
    by_cases h2 : b = a
    · subst h2
      rw [del_same, hn]
    · rw [del_ne h2, upd_ne h2, upd_ne h1, upd_ne h2]
section
variable {P : Program} {X : Cx} {ar : Nat → Option V} {x f : Str} {C fI : Addr} {fd : FuncData} {ps : List Str} {k : Nat} {e : Expr} {te : TEs} {b1 : Bool} {p pos rpos : Pos}
/-- the reading of raise C(e) -/
def sRaiseI (f : Str) (C : Addr) (te : TEs) : TSs := fun σs D ES => te σs (fun r σ1 => nd r.toD fun d => ES (.ref C) (some [(f, d)]) σ1) ES
theorem js_raiseI (hc : X.calm = true) (c : ExI X.prog X.w X.K X.mg X.base k x f C fI fd ps) (hr : Room (k + 1) X.A) (hg : Gl X x) (he : JE X ar b1 true e te) (hdb : (x == ("__debug__" : Str)) = false := by decide)
    (hs : starEach [e] X.env = (false, eval e X.env) :: starEach [] X.env := by rfl) (hpl : (backTo pos (starEach [] X.env)).any (·.1) = false := by rfl) :
    JS X ar (.Raise (some (.Call (.Name x p) [e] [] pos)) none rpos) (sRaiseI f C te) := by
  refine ⟨fun pins s σ H D J ⟨I, F, σs, Ds, ES, st, tx, q, r⟩ => ?_⟩
  obtain ⟨W, tk, g⟩ := id tx
  refine (ps_raise hc tk (pmk_oex c.T c.iC c.tI c.F hr c.b .nil passL hg c.g (pa_cons he.pe pa_nil hs) hdb hs hpl)).run pins s σ H D J ?_
  refine ⟨I, F, σs, _, ES, st, tx, q, fun v r R I' H' F' σs' ev st' sr nf nI q' => ?_⟩
  obtain ⟨d, ed, q'⟩ := nd_some q'
  have pv := sr.freeze ed nI
  refine ⟨by show 1 ≤ 1000; decide, fun a na => ⟨a, C, v, rfl, c.T, c.no, upd_same, fun dd hd1 hd2 => ?_⟩⟩
  rw [upd_ne hd2] at hd1
  refine ⟨rfl, dd, [(f, v)], upd_same, by rw [upd_ne hd2, upd_same], hd1, ?_⟩
  rw [upd_xd na hd2]
  have nR : dd ∉ R := fun m => by
    obtain ⟨y, ey⟩ := sr.there dd m
    rw [hd1] at ey
    cases ey
  have hI : fz I' H' R dd = none := by
    rw [fz_out nR]
    cases e0 : I' dd with
    | none => rfl
    | some y =>
      rw [st'.sub _ _ e0] at hd1
      cases hd1
  have up1 : Sub (fz I' H' R) (upd (fz I' H' R) dd (.xd [(f, v)])) := upd_grow hI
  have gH : ∀ b y, H' b = some y → upd H' dd (.xd [(f, v)]) b = some y := fun b y e => upd_grow hd1 b y e
  have st2 : StR X.K ar (fz I' H' R) H' σ σs' F' := st'.keep (fz_sub st'.sub) (sub_fz nI) (fun _ _ _ z => z) (fun b m => by rw [fz_out (fun z => nf rfl b z m)]; exact st'.ownI m)
  have nown : ∀ b, own F' b → b ≠ dd := fun b m z => by
    obtain ⟨y, ey⟩ := st'.there m
    rw [z, hd1] at ey
    cases ey
  refine g (.ref C) (some dd) σ (upd (fz I' H' R) dd (.xd [(f, v)])) (upd H' dd (.xd [(f, v)])) F' σs' (some [(f, d)]) ⟨?_, ?_, ?_, ?_⟩ ?_ ⟨[(f, v)], upd_same, rfl, .cons (pv.sub up1) .nil⟩ q'
  · exact ev.up.trans ((sub_fz nI).trans up1)
  · exact fun b y e n => gH b y (ev.fr b y e n)
  · exact fun b z => ev.nw b (.inr z)
  · intro b y e
    by_cases hb : b = dd
    · subst hb
      exact ev.back hd1 |>.elim (fun z => .inr (.inl z)) fun z => .inr (.inr z)
    · rw [upd_ne hb] at e
      unfold fz at e
      split at e
      · rename_i m
        rcases ev.nw b (.inl m) with z | z
        · exact .inr (.inl z)
        · exact .inr (.inr z)
      · exact ev.ni b y e
  · exact st2.keep (upd_sub st2.sub) up1 (fun b _ y e => gH b y e) fun b m => by
      rw [upd_ne (nown b m)]
      exact st2.ownI m
end
end SV

/-! ### except clauses one after the other, with names or without -/
namespace SV
open PySem PySem.Spec PyProof.Rows L2
structure Cl where
  c : Value
  i : Option Nat
  ts : Addr → Value → Option Addr → TS
def nmS (i : Option Nat) (σ : L2.St) (v : Option V) : L2.St := match i with
  | none => σ
  | some i => σ.set i v
def nmD (i : Option Nat) (D : Ends) : Ends := match i with
  | none => D
  | some i => { nx := fun σ' H' => D.nx (σ'.set i none) H', rt := D.rt, bk := fun σ' H' => D.bk (σ'.set i none) H', ct := fun σ' H' => D.ct (σ'.set i none) H' }
def wCl (K : PySem.W.Frag) (Wout : WX) (D : Ends) : List Cl → WX
  | [] => Wout
  | q :: r => fun cls d σ H => ∃ b, PySem.W.exmOne K cls q.c = some b ∧ (b = true → ∀ a, H a = none → q.ts a cls d (nmD q.i D) (nmS q.i σ (some (.ref a))) H) ∧ (b = false → wCl K Wout D r cls d σ H)
inductive HdsA (X : Cx) : List ExceptHandler → List Cl → Prop
  | nil : HdsA X [] []
  | cons {x : Str} {c : Value} {ts : Addr → Value → Option Addr → TS} {b₀ : Stmt} {suite : List Stmt} {np pos' : Pos} {hds : List ExceptHandler} {l : List Cl} (hc : Names X x c)
      (hsu : ∀ (a : Addr) (oe : Obj) (cls : Value) (d : Option Addr) (pn : List (Addr × Obj)), Zc cls d oe → (∃ vs, oe.data = .fields vs) → PSs (X.suite a ((a, oe) :: pn)) (b₀ :: suite) (ts a cls d)) (r : HdsA X hds l) :
      HdsA X (.ExceptHandler (some (.Name x np)) none (b₀ :: suite) pos' :: hds) (⟨c, none, ts⟩ :: l)
  | as {x n : Str} {c : Value} {i : Nat} {ts : Addr → Value → Option Addr → TS} {b₀ : Stmt} {suite : List Stmt} {np pos' : Pos} {hds : List ExceptHandler} {l : List Cl} (hN : X.N.Nodup) (hi : X.N[i]? = some n) (hln : X.env.kindOf n = some .local) (hc : Names X x c)
      (hsu : ∀ (a : Addr) (oe : Obj) (cls : Value) (d : Option Addr) (pn : List (Addr × Obj)), Zc cls d oe → (∃ vs, oe.data = .fields vs) → PSs (X.suite a ((a, oe) :: pn)) (b₀ :: suite) (ts a cls d)) (r : HdsA X hds l) :
      HdsA X (.ExceptHandler (some (.Name x np)) (some n) (b₀ :: suite) pos' :: hds) (⟨c, some i, ts⟩ :: l)
section
variable {X : Cx} {body : List Stmt} {h₀ : ExceptHandler} {hds : List ExceptHandler} {l : List Cl} {pos : Pos} {tb : WX → TS} {Wout : WX}
theorem ps_try_cl (hs : X.stack = X.env :: X.outer) (hf : X.env.frame = some X.env.locals) (tk : Takes X Wout)
    (hb : ∀ (W : WX) (pn : List (Addr × Obj)) (xe : Value → Shared → Prop), Takes (X.tr pn xe) W → PassesOwn (model X.prog X.w) X.A X.env xe → PSs (X.tr pn xe) body (tb W))
    (hh : HdsA X (h₀ :: hds) l) : PS X (.Try body (h₀ :: hds) [] [] pos) (fun D σ H => tb (wCl X.K Wout D l) D σ H) := by
  refine ⟨fun pins s σ H D I h => ?_⟩
  have ok := I.ok
  have hfr : X.A.frames = some (X.env :: X.outer) := by rw [ok.frames, hs]
  refine wpAny_Try_except ?_
  refine wpAny_mono ((hb (wCl X.K Wout D l) (X.pn ++ pins) (fun e s₁ => wpAny (model X.prog X.w) X.A (noteFrame e X.env) (fun _ s₂ => wpAny (model X.prog X.w) X.A (setFlight e none) (fun _ s₃ =>
    wpAny (model X.prog X.w) X.A (handleBy e X.env (h₀ :: hds)) (SP X pins D) X.xe s₃) X.xe s₂) X.xe s₁) (fun u s' xx => ?_) PassesOwn.looking).run [] s σ H D (I.toTry _) h) (fun f s1 hsp => ?_) (fun e s1 he => he)
  · obtain ⟨a, B, sI, pins', σ', H', cls, d, rfl, J', nb, up, sky, na, os, ag, w⟩ := xx
    have J : Inv X pins σ' H' sI := J'.ofTry ok
    have sky' : Sky B (X.env :: X.outer) a (Zc cls d) X.env.locals s'.heap := by rw [← hs]; exact sky
    show wpAny (model X.prog X.w) X.A (noteFrame (.ref a) X.env) _ _ _
    refine Sky.land Zc.steady hfr hf sky' fun h3 fl3 up3 => ?_
    have J3 : Inv X pins σ' H' { s' with heap := h3 } := J.landed nb fl3.1 (up.trans up3) os ag
    obtain ⟨oe3, vs3, he3, hz3, hd3⟩ := fl3.there
    have notFr : ∀ {h : Heap} {o : Obj} {vs : Array Value}, h.FunFrames B (X.env :: X.outer) → h.get? a = some o → o.data = .fields vs → a ∉ frs (X.env :: X.outer) := fun {h o vs} ff e dd hm => by
      obtain ⟨_, o', e', hnf⟩ := ff.mem hm
      rw [e] at e'; cases e'
      exact hnf _ dd
    have nfr := notFr fl3.2.2.1 he3 hd3
    have nL : a ≠ X.env.locals := fun z => nfr (List.mem_filterMap.mpr ⟨X.env, List.mem_cons_self, by rw [hf, z]⟩)
    have nF : a ∉ X.fs := fun hm => by
      obtain ⟨e, he, q⟩ := List.mem_filterMap.mp hm
      exact nfr (List.mem_filterMap.mpr ⟨e, List.mem_cons_of_mem _ he, q⟩)
    have S3 := J3.suite he3 hd3 na nL nF
    have LT : PySem.W.Looks (model X.prog X.w) h3 (typeOf (.ref a)) cls := fun A Q E s k q => wpAny_typeOf_ref (k _ _ he3) (by rw [hz3.1]; exact q)
    have test : ∀ {x : Str} {c : Value} {np : Pos}, Names X x c → ∀ {Q : Value → Shared → Prop} {E : Value → Shared → Prop}, Q c { s' with heap := h3 } → wpAny (model X.prog X.w) (X.A.mark (some (.ref a))) (eval (.Name x np) X.env) Q E { s' with heap := h3 } := fun {x c np} hc {Q E} q => by
      obtain ⟨hg, hdbg, hm | ⟨hm, hv, hnn⟩⟩ := hc
      · exact ld_glob (X := X.suite a ((a, oe3) :: (X.pn ++ pins))) S3 hg hm q hdbg
      · exact ld_blt (X := X.suite a ((a, oe3) :: (X.pn ++ pins))) S3 hg hm hv q hnn hdbg
    have go : ∀ {hds' : List ExceptHandler} {l' : List Cl}, HdsA X hds' l' → wCl X.K Wout D l' cls d σ' H' →
        wpAny (model X.prog X.w) X.A (handleBy (.ref a) X.env hds') (SP X pins D) X.xe { s' with heap := h3 } := by
      intro hds' l' hk
      induction hk with
      | nil =>
        intro w
        refine wpAny_handleBy_nil ?_
        obtain ⟨k1, k2, k3, oe, vs, T, oT, ts', he, hz, hd, h1, hr⟩ := id fl3
        unfold PySem.passOn
        refine wpAny_bind (wpAny_field he hd h1 ?_)
        rw [if_neg (show ¬ ((Value.ref T == Value.none) = true) from by simp)]
        have fin : wpAny (model X.prog X.w) X.A (setFlight (.ref a) X.env.frame) (fun _ s4 => wpAny (model X.prog X.w) X.A (throw (.ref a) : Sem Flow) (SP X pins D) X.xe s4) X.xe { s' with heap := h3 } := by
          rw [hf]
          refine HandSPX.setFlight_upZ fl3 fun h4 hh4 up4 => wpAny_throw (tk _ _ ?_)
          exact ⟨a, B, sI, pins, σ', H', cls, d, rfl, J, nb, (up.trans up3).trans up4, .inr (.inr (by rw [hs]; exact hh4)), na, os, ag, w⟩
        first
          | exact wpAny_bind (wpAny_pure (wpAny_bind fin))
          | exact wpAny_bind fin
      | @cons x c ts b₀ suite np pos' hds2 l2 hc hsu r ih =>
        intro w
        obtain ⟨b, hb1, hyes, hno⟩ := w
        have LM := PySem.W.exm_one (M := model X.prog X.w) (J3.kIn) LT hb1
        refine wpAny_handleBy_cons (codeAny_handlers_test ?_) (by intro q; cases q)
        refine test hc (LM.here ?_)
        cases b with
        | true =>
          refine codeAny_handlers_suite ?_
          refine HandSPX.lands_againZ fl3 fun h4 fl4 up4 => ?_
          have J4 : Inv X pins σ' H' { s' with heap := h4 } := J.landed nb fl4.1 ((up.trans up3).trans up4) os ag
          obtain ⟨oe4, vs4, he4, hz4, hd4⟩ := fl4.there
          have S4 := J4.suite he4 hd4 na nL nF
          refine wpAny_mono ((hsu a oe4 cls d (X.pn ++ pins) hz4 ⟨_, hd4⟩).run [] _ _ H' _ S4 (hyes rfl a na)) (fun f s6 hsp => ?_) (fun _ _ z => False.elim z)
          cases f with
          | next =>
            obtain ⟨σ6, H6, S6, q6⟩ := hsp
            exact ⟨_, _, S6.unsuite ok, q6⟩
          | brk =>
            obtain ⟨σ6, H6, S6, q6⟩ := hsp
            exact ⟨_, _, S6.unsuite ok, q6⟩
          | cont =>
            obtain ⟨σ6, H6, S6, q6⟩ := hsp
            exact ⟨_, _, S6.unsuite ok, q6⟩
          | ret u =>
            obtain ⟨v6, σ6, H6, S6, r6, q6⟩ := hsp
            exact ⟨_, _, _, S6.unsuite ok, r6, q6⟩
        | false =>
          show wpAny _ X.A (handleBy (.ref a) X.env hds2) _ _ _
          exact ih (hno rfl)
      | @as x n c i ts b₀ suite np pos' hds2 l2 hN hi hln hc hsu r ih =>
        intro w
        obtain ⟨b, hb1, hyes, hno⟩ := w
        have LM := PySem.W.exm_one (M := model X.prog X.w) (J3.kIn) LT hb1
        refine wpAny_handleBy_cons (codeAny_handlers_test ?_) (by intro q; cases q)
        refine test hc (LM.here ?_)
        have hloc : Loc X.env.scope n := .inl hln
        cases b with
        | true =>
          refine codeAny_handlers_suite_as ?_
          refine HandSPX.lands_againZ fl3 fun h4 fl4 up4 => ?_
          have J4 : Inv X pins σ' H' { s' with heap := h4 } := J.landed nb fl4.1 ((up.trans up3).trans up4) os ag
          obtain ⟨oe4, vs4, he4, hz4, hd4⟩ := fl4.there
          have S4 := J4.suite he4 hd4 na nL nF
          refine store_ok (X := X.suite a ((a, oe4) :: (X.pn ++ pins))) (v := .ref a) S4 hN hi hloc rfl (fun s5 S5 => ?_) (.inr hln)
          refine wpAny_mono ((hsu a oe4 cls d (X.pn ++ pins) hz4 ⟨_, hd4⟩).run [] s5 _ H' _ S5 (hyes rfl a na)) (fun f s6 hsp => ?_) (fun _ _ z => False.elim z)
          have end_ : ∀ {σ6 : L2.St} {H6 : Hp} {Q : Shared → Prop}, Inv (X.suite a ((a, oe4) :: (X.pn ++ pins))) [] σ6 H6 s6 → (∀ s7, Inv X pins (σ6.set i none) H6 s7 → Q s7) →
              wpAny (model X.prog X.w) X.A (do bindName X.env n .none; unbindBehindTheSuite X.env n pos') (fun _ s7 => Q s7) X.xe s6 := fun {σ6 H6 Q} S6 hq => gone_ok (S6.unsuite ok) hN hi hln hq
          cases f with
          | next =>
            obtain ⟨σ6, H6, S6, q6⟩ := hsp
            exact end_ S6 fun s7 J7 => ⟨_, _, J7, q6⟩
          | brk =>
            obtain ⟨σ6, H6, S6, q6⟩ := hsp
            exact end_ S6 fun s7 J7 => ⟨_, _, J7, q6⟩
          | cont =>
            obtain ⟨σ6, H6, S6, q6⟩ := hsp
            exact end_ S6 fun s7 J7 => ⟨_, _, J7, q6⟩
          | ret u =>
            obtain ⟨v6, σ6, H6, S6, r6, q6⟩ := hsp
            exact end_ S6 fun s7 J7 => ⟨_, _, _, J7, r6, q6⟩
        | false =>
          show wpAny _ X.A (handleBy (.ref a) X.env hds2) _ _ _
          exact ih (hno rfl)
    exact go hh w
  · cases f with
    | next =>
      obtain ⟨σ', H', J', q⟩ := hsp
      exact wpAny_execs_nil ⟨σ', H', J'.ofTry ok, q⟩
    | brk =>
      obtain ⟨σ', H', J', q⟩ := hsp
      exact ⟨σ', H', J'.ofTry ok, q⟩
    | cont =>
      obtain ⟨σ', H', J', q⟩ := hsp
      exact ⟨σ', H', J'.ofTry ok, q⟩
    | ret u =>
      obtain ⟨v, σ', H', J', r, q⟩ := hsp
      exact ⟨v, σ', H', J'.ofTry ok, r, q⟩
end
end SV
namespace SV
open PySem PySem.Spec PyProof.Rows L2
/-- the slot of a caught exception -/
def slotE (a : Addr) : Option Addr → Option (List (Str × PyData)) → Option S
  | none, none => some (.adr a)
  | some dd, some fs => some (.exn a dd fs)
  | _, _ => none
theorem slotE_sr {K : PySem.W.Frag} {I H : Hp} {a : Addr} : ∀ {d : Option Addr} {ed : Option (List (Str × PyData))}, ED K I H d ed → ∃ r, slotE a d ed = some r ∧ SR K I H (.ref a) r []
  | none, none, _ => ⟨_, rfl, .adr a⟩
  | some _, some _, ⟨_, h1, h2, h3⟩ => ⟨_, rfl, .exn h1 h2 h3⟩
  | none, some _, h => h.elim
  | some _, none, h => h.elim
structure SCl where
  c : Value
  i : Option Nat
  Pc : Addr → Prop
  ts : Addr → Addr → Option Addr → TSs
def stS (i : Option Nat) (σs : SSt) (r : Option S) : SSt := match i with
  | none => σs
  | some i => sets σs i r
def stD (i : Option Nat) (D : Es) : Es := match i with
  | none => D
  | some i => { D with nx := fun σ => D.nx (sets σ i none), bk := fun σ => D.bk (sets σ i none), ct := fun σ => D.ct (sets σ i none) }
def xCl (K : PySem.W.Frag) (D : Es) : List SCl → XS → XS
  | [], ES => ES
  | q :: r, ES => fun cls ed σ1 => need (PySem.W.exmOne K cls q.c) fun b =>
    ifb b (∃ C, cls = .ref C ∧ q.Pc C ∧ ∀ a dx, (slotE a dx ed).isSome = true → q.ts C a dx (stS q.i σ1 (slotE a dx ed)) (stD q.i D) noX) (xCl K D r ES cls ed σ1)
/-- try with except clauses one after the other -/
def sTryC (K : PySem.W.Frag) (t : TSs) (l : List SCl) : TSs := fun σs D ES => t σs D (xCl K D l ES)
def SCl.cl (X : Cx) (ar : Nat → Option V) (q : SCl) : Cl := ⟨q.c, q.i, fun a cls d D σ H => ∃ C, cls = .ref C ∧ q.Pc C ∧ liSn X ar (q.ts C a d) D σ H⟩
inductive HdsS (X : Cx) (ar : Nat → Option V) : List ExceptHandler → List SCl → Prop
  | nil : HdsS X ar [] []
  | cons {x : Str} {c : Value} {Pc : Addr → Prop} {ts : Addr → Addr → Option Addr → TSs} {b₀ : Stmt} {suite : List Stmt} {np pos' : Pos} {hds : List ExceptHandler} {l : List SCl} (hc : Names X x c)
      (hsu : ∀ (C a : Addr) (dx : Option Addr) (oe : Obj) (pn : List (Addr × Obj)), Pc C → Zc (.ref C) dx oe → (∃ vs, oe.data = .fields vs) → JSs (X.suite a ((a, oe) :: pn)) ar (b₀ :: suite) (ts C a dx)) (r : HdsS X ar hds l) :
      HdsS X ar (.ExceptHandler (some (.Name x np)) none (b₀ :: suite) pos' :: hds) (⟨c, none, Pc, ts⟩ :: l)
  | as {x n : Str} {c : Value} {i : Nat} {Pc : Addr → Prop} {ts : Addr → Addr → Option Addr → TSs} {b₀ : Stmt} {suite : List Stmt} {np pos' : Pos} {hds : List ExceptHandler} {l : List SCl} (hN : X.N.Nodup) (hi : X.N[i]? = some n) (hln : X.env.kindOf n = some .local) (hp : ar i = none) (hc : Names X x c)
      (hsu : ∀ (C a : Addr) (dx : Option Addr) (oe : Obj) (pn : List (Addr × Obj)), Pc C → Zc (.ref C) dx oe → (∃ vs, oe.data = .fields vs) → JSs (X.suite a ((a, oe) :: pn)) ar (b₀ :: suite) (ts C a dx)) (r : HdsS X ar hds l) :
      HdsS X ar (.ExceptHandler (some (.Name x np)) (some n) (b₀ :: suite) pos' :: hds) (⟨c, some i, Pc, ts⟩ :: l)
section
variable {X : Cx} {ar : Nat → Option V}
theorem HdsS.cl {hds : List ExceptHandler} {l : List SCl} (h : HdsS X ar hds l) : HdsA X hds (l.map (SCl.cl X ar)) := by
  induction h with
  | nil => exact .nil
  | @cons x c Pc ts b₀ suite np pos' hds l hc hsu r ih =>
    refine .cons hc (fun a oe cls d pn hz hf => ⟨fun pins s σ H D J ⟨C, e1, hP, I, F, σs, Ds, q1, q2, q3⟩ => ?_⟩) ih
    subst e1
    exact (hsu C a d oe pn hP hz hf).sn.run pins s σ H D J ⟨I, F, σs, Ds, q1, q2, ⟨q3.nx, q3.bk, q3.ct, q3.rt⟩⟩
  | @as x n c i Pc ts b₀ suite np pos' hds l hN hi hln hp hc hsu r ih =>
    refine .as hN hi hln hc (fun a oe cls d pn hz hf => ⟨fun pins s σ H D J ⟨C, e1, hP, I, F, σs, Ds, q1, q2, q3⟩ => ?_⟩) ih
    subst e1
    exact (hsu C a d oe pn hP hz hf).sn.run pins s σ H D J ⟨I, F, σs, Ds, q1, q2, ⟨q3.nx, q3.bk, q3.ct, q3.rt⟩⟩
theorem StR.storeE {K : PySem.W.Frag} {I H : Hp} {σ : L2.St} {σs : SSt} {F : Nat → List Addr} (h : StR K ar I H σ σs F) {i : Nat} {v : V} {r : S} (sr : SR K I H v r []) (hp : ar i = none) : ∃ F', StR K ar I H (σ.set i (some v)) (sets σs i (some r)) F' ∧ ∀ b, own F' b → own F b := by
  by_cases hl : i < σs.length
  · refine ⟨_, h.store hl sr (fun b m => absurd m (by simp)) (fun b m => absurd m (by simp)) (.inr hp), fun b m => ?_⟩
    rcases own_put1 m with m | m
    · cases m
    · exact m
  · rw [sets_out (by omega), List.set_eq_of_length_le (by rw [← h.len]; omega)]
    exact ⟨F, h, fun _ z => z⟩
theorem wCl_of {Wout : WX} {D : Ends} {Ds : Es} {ES : XS} {I H I' H' : Hp} {F F' : Nat → List Addr} {σ' : L2.St} {σs' : SSt} {cls : Value} {d : Option Addr} {ed : Option (List (Str × PyData))} (r : Rch X ar I H F Ds D) (ev : Evo I H (own F) I' H' (own F')) (st' : StR X.K ar I' H' σ' σs' F') (hed : ED X.K I' H' d ed)
    (out : ES cls ed σs' → Wout cls d σ' H') : ∀ {hds : List ExceptHandler} {l : List SCl}, HdsS X ar hds l → xCl X.K Ds l ES cls ed σs' → wCl X.K Wout D (l.map (SCl.cl X ar)) cls d σ' H' := by
  intro hds l hk
  induction hk with
  | nil => exact out
  | @cons x c Pc ts b₀ suite np pos' hds l hc hsu hr ih =>
    intro q
    obtain ⟨b, eb, q⟩ := need_some (show need (PySem.W.exmOne X.K cls c) _ from q)
    refine ⟨b, eb, fun e a na => ?_, fun e => ?_⟩
    · subst e
      obtain ⟨C, e1, hP, q2⟩ := ifb.tt q
      obtain ⟨r0, e0, sr⟩ := slotE_sr (a := a) hed
      exact ⟨C, e1, hP, I', F', σs', Ds, st', q2 a d (by rw [e0]; rfl), r.go ev⟩
    · subst e
      exact ih (ifb.ff q)
  | @as x n c i Pc ts b₀ suite np pos' hds l hN hi hln hp hc hsu hr ih =>
    intro q
    obtain ⟨b, eb, q⟩ := need_some (show need (PySem.W.exmOne X.K cls c) _ from q)
    refine ⟨b, eb, fun e a na => ?_, fun e => ?_⟩
    · subst e
      obtain ⟨C, e1, hP, q2⟩ := ifb.tt q
      obtain ⟨r0, e0, sr⟩ := slotE_sr (a := a) hed
      have q3 := q2 a d (by rw [e0]; rfl)
      rw [e0] at q3
      obtain ⟨F3, st2, k3⟩ := st'.storeE (i := i) sr hp
      have ev2 : Evo I H (own F) I' H' (own F3) := ev.sameo k3
      refine ⟨C, e1, hP, I', F3, _, stD (some i) Ds, st2, q3, ⟨fun σ'' H'' ⟨I2, F2, σ2, e, s2, q2⟩ => ?_, fun σ'' H'' ⟨I2, F2, σ2, e, s2, q2⟩ => ?_, fun σ'' H'' ⟨I2, F2, σ2, e, s2, q2⟩ => ?_, fun v H'' z => ?_⟩⟩
      · exact r.nx _ _ ⟨I2, drop1 F2 i, _, (ev2.trans e (fun _ z => z) (fun _ z => .inr z)).sameo fun b m => own_of_drop1 m, s2.forget2 i, q2⟩
      · exact r.bk _ _ ⟨I2, drop1 F2 i, _, (ev2.trans e (fun _ z => z) (fun _ z => .inr z)).sameo fun b m => own_of_drop1 m, s2.forget2 i, q2⟩
      · exact r.ct _ _ ⟨I2, drop1 F2 i, _, (ev2.trans e (fun _ z => z) (fun _ z => .inr z)).sameo fun b m => own_of_drop1 m, s2.forget2 i, q2⟩
      · exact (r.go ev2).rt v H'' z
    · subst e
      exact ih (ifb.ff q)
theorem js_tryC {body : List Stmt} {h₀ : ExceptHandler} {hds : List ExceptHandler} {l : List SCl} {pos : Pos} {t : TSs} (hs : X.stack = X.env :: X.outer) (hf : X.env.frame = some X.env.locals)
    (hb : ∀ (pn : List (Addr × Obj)) (xe : Value → Shared → Prop), PassesOwn (model X.prog X.w) X.A X.env xe → JSs (X.tr pn xe) ar body t) (hh : HdsS X ar (h₀ :: hds) l) :
    JS X ar (.Try body (h₀ :: hds) [] [] pos) (sTryC X.K t l) := by
  refine ⟨fun pins s σ H D J ⟨I, F, σs, Ds, ES, st, tx, q, r⟩ => ?_⟩
  obtain ⟨Wout, tk, f⟩ := tx
  refine (ps_try_cl (tb := liSw X ar t) hs hf tk (fun W pn xe tkW hp => PSs.mono (hb pn xe hp) fun D σ H ⟨I, F, σs, Ds, ES, a, b, c, d⟩ => ⟨I, F, σs, Ds, ES, a, ⟨W, tkW, b⟩, c, ⟨d.nx, d.bk, d.ct, d.rt⟩⟩) hh.cl).run pins s σ H D J
    ⟨I, F, σs, Ds, _, st, fun cls d σ' I' H' F' σs' ed ev st' hed q' => wCl_of r ev st' hed (fun q'' => f cls d σ' I' H' F' σs' ed ev st' hed q'') hh q', q, r⟩
end
end SV
namespace SV
open PySem PySem.Spec PyProof.Rows L2
/-- .. whose field f is read -/
structure ExcF (K : PySem.W.Frag) (f : Str) (C : Addr) : Prop where
  c : ExcC K C
  no : PySem.W.findIn K (.ref C) f = some none
/-- the caught exception stands in the slot r -/
def heldE (a : Addr) (dx : Option Addr) (r : Option S) : Prop := ∃ ed, r = slotE a dx ed ∧ (slotE a dx ed).isSome = true
theorem heldE_of {a : Addr} {dx : Option Addr} {ed : Option (List (Str × PyData))} (h : (slotE a dx ed).isSome = true) : heldE a dx (slotE a dx ed) := ⟨ed, rfl, h⟩
/-- isinstance of the exception that the suite holds, with a dict or without -/
theorem call_isE2 {X : Cx} {a D : Addr} {dx : Option Addr} {oe : Obj} {pn : List (Addr × Obj)} (C : ExcC X.K D) (hz : Zc (.ref D) dx oe) (hf : ∃ vs, oe.data = .fields vs) : CallR (X.suite a ((a, oe) :: pn)) (.builtin "isinstance") (fun xs H Q => (∀ dd, dx = some dd → ∃ vf, H dd = some (.xd vf)) ∧ rIsE X.K D a xs H Q) := by
  intro pins s σ H xs us Q I r ⟨hd, h⟩
  obtain ⟨c, cv, b, rfl, hcv, e, q⟩ := h
  cases r with
  | cons rx rr =>
    cases rr with
    | cons rt rr =>
      cases rr
      cases rx
      have ec := hcv _ rt
      subst ec
      obtain ⟨hget, _⟩ := I.pin (a, oe) (List.mem_append.mpr (.inl List.mem_cons_self))
      obtain ⟨vs, hv⟩ := hf
      have J : ∃ od, PySem.W.InstAt s.heap a oe D od := by
        cases dx with
        | none => exact ⟨none, hget, hz.1, by unfold PySem.W.notCls; rw [hv] <;> rfl, by rw [hz.2]; exact trivial⟩
        | some dd =>
          obtain ⟨vf, ea⟩ := hd dd rfl
          have hx : ObjOk X.prog X.w H s.heap dd (.xd vf) := I.hok dd _ ea
          obtain ⟨mA, hns, hr⟩ := hx
          obtain ⟨od, ho, hl⟩ := lookIn_ns hns
          exact ⟨some od, hget, hz.1, by unfold PySem.W.notCls; rw [hv] <;> rfl, by rw [hz.2]; exact ho⟩
      obtain ⟨od, J⟩ := J
      have hcl : (PySem.W.clsIn X.K D).isSome = true := by
        have h1 := C.hd
        unfold PySem.W.hasDictIn at h1
        cases e0 : PySem.W.clsIn X.K D with
        | none => rw [e0] at h1; cases h1
        | some _ => rfl
      exact PySem.W.kia_one (PySem.W.kitx_exc hcl C.hg C.hk C.hs C.ha C.hn C.ht C.hm) I.kIn J e (fun z => nomatch z) fun tk => ⟨.bl b, H, I.kept (t' := tk) fun _ _ z => z, rfl, q⟩
section
variable {X : Cx} {ar : Nat → Option V} {x f : Str}
theorem SR.exn_inv {K : PySem.W.Frag} {I H : Hp} {v : V} {a dd : Addr} {fs : List (Str × PyData)} {R : List Addr} (h : SR K I H v (.exn a dd fs) R) : v = .ref a ∧ ∃ vf : List (Str × V), I dd = some (.xd vf) ∧ vf.map (·.1) = fs.map (·.1) ∧ PRs K I (vf.map (·.2)) (fs.map (·.2)) := by
  generalize e0 : S.exn a dd fs = r0 at h
  cases h with
  | exn h1 h2 h3 => cases e0; exact ⟨rfl, _, h1, h2, h3⟩
  | _ => cases e0
theorem held_xd {K : PySem.W.Frag} {I H : Hp} {σ : L2.St} {σs : SSt} {F : Nat → List Addr} {i : Nat} {a : Addr} {dx : Option Addr} (st : StR K ar I H σ σs F) (g : heldE a dx (gets σs i)) :
    σ[i]? = some (some (.ref a)) ∧ (∀ dd, dx = some dd → ∃ vf, H dd = some (.xd vf)) := by
  obtain ⟨ed, g, hs⟩ := g
  cases dx with
  | none =>
    cases ed with
    | none =>
      obtain ⟨v, e1, sr⟩ := st.rep i _ g
      have ev : v = .ref a := sr.adr_inv
      subst ev
      exact ⟨e1, fun dd e => by cases e⟩
    | some fs => cases hs
  | some dd =>
    cases ed with
    | none => cases hs
    | some fs =>
      obtain ⟨v, e1, sr⟩ := st.rep i _ g
      obtain ⟨rfl, vf, h1, _, _⟩ := sr.exn_inv
      refine ⟨e1, fun d2 e => ?_⟩
      cases e
      exact ⟨_, st.sub _ _ h1⟩
/-- isinstance(e, c), e the exception of the suite -/
theorem je_isE2 {a C E : Addr} {dx : Option Addr} {oe : Obj} {pn : List (Addr × Obj)} {y : Str} {p p1 p2 cp : Pos} (i : Nat) (hC : ExcC X.K C) (hz : Zc (.ref C) dx oe) (hfl : ∃ vs, oe.data = .fields vs) (hg : Gl X "isinstance") (hm : X.mg "isinstance" = none) (gy : Gl X y) (my : X.mg y = some (.ref E))
    (hN : X.N[i]? = some x := by rfl) (hv : Vis X.env.scope x := by first | exact Or.inl rfl | exact Or.inr (Or.inl rfl) | exact Or.inr (Or.inr rfl)) (hd : (x == ("__debug__" : Str)) = false := by decide) (hcd : (x == ("__classdict__" : Str)) = false := by decide) (hyd : (y == ("__debug__" : Str)) = false := by decide)
    (hs1 : starEach [.Name x p1, .Name y p2] X.env = (false, eval (.Name x p1) X.env) :: starEach [.Name y p2] X.env := by rfl) (hs2 : starEach [.Name y p2] X.env = [(false, eval (.Name y p2) X.env)] := by rfl) (hpl : (backTo cp (starEach [.Name y p2] X.env)).any (·.1) = false := by rfl) :
    JE (X.suite a ((a, oe) :: pn)) ar false true (.Call (.Name "isinstance" p) [.Name x p1, .Name y p2] [] cp) (fun σs Q ES => heldE a dx (gets σs i) ∧ need (PySem.W.kitOne X.K (.ref C) (.ref E)) fun b => Q (.val (.bool b)) σs) := by
  refine JE.of_pe (pe_callB (call_isE2 hC hz hfl) hg hm boot_isinstance (pa_cons (pe_var (i := i) hN hv hd hcd) (pa_cons (pe_glob (v := .ref E) gy my rfl hyd) pa_nil hs2) hs1) (by decide) (by decide) hs1 hpl) fun σ I H F σs Qk ES Q st tx ⟨g, q⟩ hQ => ?_
  obtain ⟨b, eb, q⟩ := need_some q
  obtain ⟨e1, hxd⟩ := held_xd st g
  refine ⟨.ref a, e1, hxd, .ref E, .ref E, b, rfl, (fun u hu => hu), eb, hQ _ _ ⟨.val (.bool b), [], I, F, σs, ⟨.refl I, fun _ _ h _ => h, fun c z => ?_, fun _ _ h => .inl h⟩, st, .val (.bl b), fun c m => absurd m (by simp), fun c m => absurd m (by simp), q⟩⟩
  rcases z with z | z
  · cases z
  · exact .inl z
/-- e.f, e the exception of the suite -/
theorem je_xf {a C : Addr} {dx : Option Addr} {oe : Obj} {pn : List (Addr × Obj)} {p pos : Pos} (i : Nat) (hC : ExcF X.K f C) (hz : Zc (.ref C) dx oe) (hfl : ∃ vs, oe.data = .fields vs)
    (hN : X.N[i]? = some x := by rfl) (hv : Vis X.env.scope x := by first | exact Or.inl rfl | exact Or.inr (Or.inl rfl) | exact Or.inr (Or.inr rfl)) (hd : (x == ("__debug__" : Str)) = false := by decide) (hcd : (x == ("__classdict__" : Str)) = false := by decide)
    (hb : attributeBase (.Name x p) f X.env (eval (.Name x p) X.env) = eval (.Name x p) X.env := by rfl) :
    JE (X.suite a ((a, oe) :: pn)) ar false true (.Attribute (.Name x p) f pos) (fun σs Q ES => ∃ (fs : List (Str × PyData)), gets σs i = slotE a dx (some fs) ∧ dx.isSome = true ∧ need (fs.lookup f) fun d => Q (.val d) σs) := by
  refine JE.of_pe (pe_xf (d := dx) (cls := .ref C) ⟨hC.c.hg, hC.c.hk, hC.c.hs, hC.c.hd⟩ hC.no hz hfl (pe_var (i := i) hN hv hd hcd) hb) fun σ I H F σs Qk ES Q st tx ⟨fs, g, hs, q⟩ hQ => ?_
  obtain ⟨d, el, q⟩ := need_some q
  cases dx with
  | none => cases hs
  | some dd =>
    obtain ⟨v, e1, sr⟩ := st.rep i _ g
    obtain ⟨rfl, vf0, h1, h2, h3⟩ := sr.exn_inv
    have key : ∀ {vf : List (Str × V)} {fs : List (Str × PyData)}, vf.map (·.1) = fs.map (·.1) → PRs X.K I (vf.map (·.2)) (fs.map (·.2)) → fs.lookup f = some d → ∃ v, vf.lookup f = some v ∧ PR X.K I v d := by
      intro vf
      induction vf with
      | nil =>
        intro fs h2 h3 el
        cases fs with
        | nil => cases el
        | cons _ _ => cases h2
      | cons p vf ih =>
        intro fs h2 h3 el
        cases fs with
        | nil => cases h2
        | cons q fs =>
          simp only [List.map_cons, List.cons.injEq] at h2
          obtain ⟨h2, h4⟩ := h2
          cases h3 with
          | cons p1 p2 =>
            obtain ⟨n1, v1⟩ := p
            obtain ⟨n2, d2⟩ := q
            have h2 : n1 = n2 := h2
            subst h2
            rw [lookup_put]
            have el' : (if f = n1 then some d2 else fs.lookup f) = some d := by
              rw [← el]
              by_cases hn : f = n1
              · subst hn
                simp [List.lookup]
              · have e : (f == n1) = false := by simpa using hn
                rw [if_neg hn]
                simp [List.lookup, e]
            by_cases hn : f = n1
            · rw [if_pos hn] at el' ⊢
              cases el'
              exact ⟨v1, rfl, p1⟩
            · rw [if_neg hn] at el' ⊢
              exact ih h4 p2 el'
    obtain ⟨v2, ev, pv⟩ := key h2 h3 el
    refine ⟨.ref a, e1, rfl, rfl, dd, _, v2, rfl, st.sub _ _ h1, ev, hQ _ _ ⟨.val d, [], I, F, σs, ⟨.refl I, fun _ _ h _ => h, fun c z => ?_, fun _ _ h => .inl h⟩, st, .val pv, fun c m => absurd m (by simp), fun c m => absurd m (by simp), q⟩⟩
    rcases z with z | z
    · cases z
    · exact .inl z
end
end SV
namespace SV
open PySem
/-- a class's own statements -/
def clsBody : Stmt → List Stmt
  | .ClassDef _ _ _ b _ _ _ _ _ _ _ => b
  | _ => []
end SV
/-! Svd: loops by what is done. -/
namespace SV
open PySem PySem.Spec PyProof.Rows L2
section
variable {α : Type} {g : TGt} {tb : TSs} {tt : TTs} {te : TEs} {vs : List Nat} {D : Es} {ES : XS} {K : List PyData → SSt → Prop}
theorem for_pre (f : α → PyData) (Iv : List α → SSt → Prop) (xs : List α) (step : ∀ done x r σs (N : SSt → Prop), xs = done ++ x :: r → (∀ σ', Iv (done ++ [x]) σ' → N σ') → Iv done σs → nd (g (f x) σs) fun σ1 => tb σ1 { D with nx := N, ct := N, bk := D.nx } ES)
    (fin : ∀ σs, Iv xs σs → D.nx σs) (σs : SSt) (h : Iv [] σs) : forT g tb (xs.map f) σs D ES := by
  refine for_map f (fun rem σ => ∃ done, xs = done ++ rem ∧ Iv done σ) (fun x r σs N hN h => ?_) (fun σs h => ?_) xs σs ⟨[], rfl, h⟩
  · obtain ⟨done, e, hi⟩ := h
    exact step done x r σs N e (fun σ' h' => hN σ' ⟨done ++ [x], by rw [e, List.append_assoc]; rfl, h'⟩) hi
  · obtain ⟨done, e, hi⟩ := h
    rw [List.append_nil] at e
    rw [← e] at hi
    exact fin σs hi
theorem for_range (f : Nat → PyData) (Iv : Nat → SSt → Prop) (n : Nat) (step : ∀ i σs (N : SSt → Prop), i < n → (∀ σ', Iv (i + 1) σ' → N σ') → Iv i σs → nd (g (f i) σs) fun σ1 => tb σ1 { D with nx := N, ct := N, bk := D.nx } ES)
    (fin : ∀ σs, Iv n σs → D.nx σs) (σs : SSt) (h : Iv 0 σs) : forT g tb ((List.range n).map f) σs D ES := by
  refine for_pre f (fun done σ => Iv done.length σ) (List.range n) (fun done x r σs N e hN hi => ?_) (fun σs h => fin σs (by rwa [List.length_range] at h)) σs h
  have hl := congrArg List.length e
  rw [List.length_range, List.length_append, List.length_cons] at hl
  have hx : x = done.length := by
    have h1 : (List.range n)[done.length]? = some x := by rw [e]; simp
    rw [List.getElem?_range (by omega)] at h1
    exact (Option.some.inj h1).symm
  subst hx
  exact step _ σs N (by omega) (fun σ' h' => hN σ' (by rw [List.length_append]; exact h')) hi
theorem lc_pre (f : α → PyData) (Iv : List α → List PyData → SSt → Prop) (xs : List α) (step : ∀ done x r acc σs (N : List PyData → SSt → Prop), xs = done ++ x :: r → (∀ acc' σ', Iv (done ++ [x]) acc' σ' → N acc' σ') → Iv done acc σs →
      nd (g (f x) σs) fun σ1 => tt σ1 (fun b σ2 => ifb b (te σ2 (fun r σ3 => nd r.toD fun d => acc.length < sizeLine ∧ N (acc ++ [d]) (wipeS σ3 vs)) noX) (N acc (wipeS σ2 vs))) noX)
    (fin : ∀ acc σs, Iv xs acc σs → K acc σs) (σs : SSt) (h : Iv [] [] σs) : lcT g tt te vs (xs.map f) [] σs K := by
  refine lc_map f (fun rem acc σ => ∃ done, xs = done ++ rem ∧ Iv done acc σ) (fun x r acc σs N hN h => ?_) (fun acc σs h => ?_) xs [] σs ⟨[], rfl, h⟩
  · obtain ⟨done, e, hi⟩ := h
    exact step done x r acc σs N e (fun acc' σ' h' => hN acc' σ' ⟨done ++ [x], by rw [e, List.append_assoc]; rfl, h'⟩) hi
  · obtain ⟨done, e, hi⟩ := h
    rw [List.append_nil] at e
    rw [← e] at hi
    exact fin acc σs hi
theorem lc_range (f : Nat → PyData) (Iv : Nat → List PyData → SSt → Prop) (n : Nat) (step : ∀ i acc σs (N : List PyData → SSt → Prop), i < n → (∀ acc' σ', Iv (i + 1) acc' σ' → N acc' σ') → Iv i acc σs →
      nd (g (f i) σs) fun σ1 => tt σ1 (fun b σ2 => ifb b (te σ2 (fun r σ3 => nd r.toD fun d => acc.length < sizeLine ∧ N (acc ++ [d]) (wipeS σ3 vs)) noX) (N acc (wipeS σ2 vs))) noX)
    (fin : ∀ acc σs, Iv n acc σs → K acc σs) (σs : SSt) (h : Iv 0 [] σs) : lcT g tt te vs ((List.range n).map f) [] σs K := by
  refine lc_pre f (fun done acc σ => Iv done.length acc σ) (List.range n) (fun done x r acc σs N e hN hi => ?_) (fun acc σs h => fin acc σs (by rwa [List.length_range] at h)) σs h
  have hl := congrArg List.length e
  rw [List.length_range, List.length_append, List.length_cons] at hl
  have hx : x = done.length := by
    have h1 : (List.range n)[done.length]? = some x := by rw [e]; simp
    rw [List.getElem?_range (by omega)] at h1
    exact (Option.some.inj h1).symm
  subst hx
  exact step _ acc σs N (by omega) (fun acc' σ' h' => hN acc' σ' (by rw [List.length_append]; exact h')) hi
end
end SV
namespace SV
open PySem PySem.Spec PyProof.Rows L2
/-- try with except clauses one after the other: what may be raised is told once -/
theorem s_tryC {K : PySem.W.Frag} {t : TSs} {l : List SCl} {σ : SSt} {D : Es} {ES : XS} (Ex : XS) (hx : ∀ cls ed σ1, Ex cls ed σ1 → xCl K D l ES cls ed σ1) (h : ∀ ES' : XS, (∀ cls ed σ1, Ex cls ed σ1 → ES' cls ed σ1) → t σ D ES') : sTryC K t l σ D ES := h _ hx
end SV
namespace SV
open PySem PySem.Spec PyProof.Rows L2
/-- a comprehension that changes nothing, its elements lists of its own too -/
theorem lcqD {α : Type} (f e : α → PyData) {g : TGt} {te : TEs} {vs : List Nat} {σ0 : SSt} {K : List PyData → SSt → Prop} (σ1 : α → SSt) (xs : List α) (hx : xs.length ≤ 16000000)
    (hg : ∀ x ∈ xs, g (f x) σ0 = some (σ1 x)) (hw : ∀ x ∈ xs, wipeS (σ1 x) vs = σ0) (he : ∀ x ∈ xs, ∀ Q : KS, (∀ r : S, r.toD = some (e x) → Q r (σ1 x)) → te (σ1 x) Q noX) (fin : K (xs.map e) σ0) : lcT g tYesS te vs (xs.map f) [] σ0 K := by
  refine lc_pre f (fun done acc σ => acc = done.map e ∧ σ = σ0) xs (fun done x r acc σ N e1 hN h => ?_) (fun acc σ h => ?_) σ0 ⟨rfl, rfl⟩
  · obtain ⟨rfl, rfl⟩ := h
    have mx : x ∈ xs := by rw [e1]; simp
    have hl := congrArg List.length e1
    rw [List.length_append, List.length_cons] at hl
    rw [hg x mx]
    refine ifb_t rfl (he x mx _ fun r hr => ?_)
    show nd r.toD fun d => (done.map e).length < sizeLine ∧ N (done.map e ++ [d]) (wipeS (σ1 x) vs)
    rw [hr]
    refine ⟨room2 (by rw [List.length_map]; omega), ?_⟩
    rw [hw x mx]
    exact hN _ _ ⟨by simp, rfl⟩
  · obtain ⟨rfl, rfl⟩ := h
    exact fin
end SV
/-! Sve: dicts made of pairs, d[k] = v. -/
namespace SV
open PySem PySem.Spec PyProof.Rows L2
section
variable {X : Cx} {ar : Nat → Option V}
theorem out_dct {I2 H2 : Hp} {F2 : Nat → List Addr} {σ : L2.St} {σ2 : SSt} {l : Addr} {vk : List (Key × V)} {kvs : List (PyData × PyData)} {I H : Hp} {F : Nat → List Addr} {Qk : KS} (ev : Evo I H (own F) I2 H2 (own F2)) (st2 : StR X.K ar I2 H2 σ σ2 F2) (hl : H2 l = none)
    (ek : kvs.map (·.1) = vk.map (fun p => kD p.1)) (pr : PRs X.K I2 (vk.map (·.2)) (kvs.map (·.2))) (q : Qk (.dct kvs) σ2) : OutE X.K ar I H F σ Qk (.ref l) (upd H2 l (.dK vk)) := by
  have up : ∀ a x, H2 a = some x → upd H2 l (.dK vk) a = some x := fun a x e => upd_grow hl a x e
  have one : ∀ a ∈ [l], a = l := fun a m => by simpa using m
  refine ⟨.dct kvs, [l], I2, F2, σ2, ev.trans (o3 := fun a => a ∈ [l] ∨ own F2 a) (⟨.refl _, fun a x e _ => up a x e, fun a z => ?_, fun a x e => .inl e⟩ : Evo I2 H2 (own F2) I2 (upd H2 l (.dK vk)) (fun a => a ∈ [l] ∨ own F2 a)) (fun _ z => z) (fun c z => .inr z), st2.keep (fun a x e => up a x (st2.sub a x e)) (.refl _) (fun a _ x e => up a x e) fun a m => st2.ownI m, .dct upd_same ek pr, fun a m z => ?_, fun a m => ?_, q⟩
  · rcases z with z | z
    · rw [one a z]
      exact .inr hl
    · exact .inl z
  · rw [one a m] at z
    obtain ⟨x, e⟩ := st2.there z
    rw [hl] at e
    cases e
  · rw [one a m]
    cases e : I2 l with
    | none => rfl
    | some x => rw [st2.sub _ _ e] at hl; cases hl
def pairD (kvs : List (Key × PyData)) : List PyData := kvs.map fun p => .tuple [kD p.1, p.2]
theorem pairs_rel {K : PySem.W.Frag} {I H : Hp} (sb : Sub I H) : ∀ {kvs : List (Key × PyData)} {vs : List V}, PRs K I vs (pairD kvs) → ∃ (ps : List Addr) (vk : List (Key × V)), vs = ps.map V.ref ∧ Paired (fun p kv => SqT K H p [kV kv.1, kv.2]) ps vk ∧ vk.map (·.1) = kvs.map (·.1) ∧ PRs K I (vk.map (·.2)) (kvs.map (·.2))
  | [], _, .nil => ⟨[], [], rfl, .nil, rfl, .nil⟩
  | q :: kvs, _, .cons h t => by
    obtain ⟨ps, vk, rfl, hp, e, pr⟩ := pairs_rel sb t
    have h : PR K I _ (.tuple [kD q.1, q.2]) := h
    cases h with
    | @tup a vs _ hs p =>
      cases p with
      | @cons v1 _ _ _ p1 p2 =>
        obtain ⟨v2, ev, pd⟩ := p2.oneV
        subst ev
        obtain rfl := PR.key p1
        exact ⟨a :: ps, (q.1, v2) :: vk, rfl, .cons (SqT.sub sb hs) hp, by simp only [List.map_cons, e], .cons pd pr⟩
/-- dict(e), e a list of pairs with different keys -/
def sDictL (te : TEs) : TEs := fun σs Q ES => te σs (fun r σ1 => ∃ kvs : List (Key × PyData), r.toD = some (.list (pairD kvs)) ∧ (kvs.map (·.1)).Nodup ∧ Q (.dct (kvs.map fun p => (kD p.1, p.2))) σ1) ES
theorem je_dictL {e : Expr} {te : TEs} {b1 : Bool} {p pos : Pos} (hc : X.calm = true) (hg : Gl X "dict") (hm : X.mg "dict" = none) (he : JE X ar b1 true e te) (hs : starEach [e] X.env = (false, eval e X.env) :: starEach [] X.env := by rfl) (hpl : (backTo pos (starEach [] X.env)).any (·.1) = false := by rfl) :
    JE X ar false true (.Call (.Name "dict" p) [e] [] pos) (sDictL te) := by
  refine JE.of_pe (pe_callTy (call_dictP hc) hg hm boot_dict (pa_cons he.pe pa_nil hs) (by decide) (by decide) hs hpl) fun σ I H F σs Qk ES Q st tx q hQ => ?_
  refine ⟨I, F, σs, _, ES, st, tx, q, fun v r R I1 H1 F1 σ1 ev1 st1 sr1 nf nI q1 => ?_⟩
  obtain ⟨kvs, er, hnd, q2⟩ := q1
  have pv := sr1.freeze er nI
  have st2 : StR X.K ar (fz I1 H1 R) H1 σ σ1 F1 := st1.keep (fz_sub st1.sub) (sub_fz nI) (fun _ _ _ z => z) (fun b m => by rw [fz_out (fun z => nf rfl b z m)]; exact st1.ownI m)
  have ev2 : Evo I H (own F) (fz I1 H1 R) H1 (own F1) := ⟨ev1.up.trans (sub_fz nI), ev1.fr, fun b z => ev1.nw b (.inr z), fun b y e0 => by
    unfold fz at e0
    split at e0
    · rename_i m
      exact .inr (ev1.nw b (.inl m))
    · exact ev1.ni b y e0⟩
  cases pv with
  | @lst a vs _ h pr =>
    obtain ⟨ps, vk, rfl, hp, ek, pv2⟩ := pairs_rel st2.sub pr
    have hnd2 : ((([] : List (Key × V)) ++ vk).map (·.1)).Nodup := by
      rw [List.nil_append, ek]
      exact hnd
    have hmg := merge_nodup vk [] hnd2
    rw [List.nil_append] at hmg
    refine ⟨a, ps, vk, rfl, SqL.sub st2.sub (SqL.of h), hp, fun l hl => hQ _ _ ?_⟩
    rw [hmg]
    exact out_dct ev2 st2 hl (by have := congrArg (List.map kD) ek; rw [List.map_map, List.map_map] at this; rw [List.map_map]; exact this.symm) (by rw [List.map_map]; exact pv2) q2
end
end SV
namespace SV
open PySem PySem.Spec PyProof.Rows L2
def dctS (dk : List (Key × PyData)) : S := .dct (dk.map fun p => (kD p.1, p.2))
def putP (dk : List (Key × PyData)) (k : Key) (d : PyData) : List (Key × PyData) := if (dk.any fun p => decide (p.1 = k)) = true then dk.map fun p => if p.1 = k then (p.1, d) else p else dk ++ [(k, d)]
theorem kD_inj {a b : Key} (h : kD a = kD b) : a = b := by
  cases a <;> cases b <;> first | (cases h; rfl) | cases h
theorem keys_rel : ∀ {dk : List (Key × PyData)} {vk : List (Key × V)}, (dk.map fun p => (kD p.1, p.2)).map (·.1) = vk.map (fun p => kD p.1) → dk.map (·.1) = vk.map (·.1)
  | [], [], _ => rfl
  | [], _ :: _, h => by cases h
  | _ :: _, [], h => by cases h
  | p :: dk, q :: vk, h => by
    simp only [List.map_cons, List.cons.injEq] at h ⊢
    exact ⟨kD_inj h.1, keys_rel h.2⟩
theorem put_rel {K : PySem.W.Frag} {I : Hp} {k : Key} {v : V} {d : PyData} (pd : PR K I v d) {dk : List (Key × PyData)} {vk : List (Key × V)} (e : dk.map (·.1) = vk.map (·.1)) (pr : PRs K I (vk.map (·.2)) (dk.map (·.2))) :
    ((putP dk k d).map fun p => (kD p.1, p.2)).map (·.1) = (putK vk k v).map (fun p => kD p.1) ∧ PRs K I ((putK vk k v).map (·.2)) (((putP dk k d).map fun p => (kD p.1, p.2)).map (·.2)) := by
  have any_eq : ∀ {dk : List (Key × PyData)} {vk : List (Key × V)}, dk.map (·.1) = vk.map (·.1) → (dk.any fun p => decide (p.1 = k)) = vk.any fun kv => decide (kv.1 = k) := by
    intro dk
    induction dk with
    | nil => intro vk h; cases vk with
      | nil => rfl
      | cons _ _ => cases h
    | cons p dk ih => intro vk h; cases vk with
      | nil => cases h
      | cons q vk =>
        simp only [List.map_cons, List.cons.injEq] at h
        simp only [List.any_cons, h.1, ih h.2]
  have mp : ∀ {dk : List (Key × PyData)} {vk : List (Key × V)}, dk.map (·.1) = vk.map (·.1) → PRs K I (vk.map (·.2)) (dk.map (·.2)) →
      ((dk.map fun p => if p.1 = k then (p.1, d) else p).map fun p => (kD p.1, p.2)).map (·.1) = (vk.map fun kv => if kv.1 = k then (kv.1, v) else kv).map (fun p => kD p.1) ∧
      PRs K I ((vk.map fun kv => if kv.1 = k then (kv.1, v) else kv).map (·.2)) (((dk.map fun p => if p.1 = k then (p.1, d) else p).map fun p => (kD p.1, p.2)).map (·.2)) := by
    intro dk
    induction dk with
    | nil => intro vk h pr; cases vk with
      | nil => exact ⟨rfl, .nil⟩
      | cons _ _ => cases h
    | cons p dk ih => intro vk h pr; cases vk with
      | nil => cases h
      | cons q vk =>
        simp only [List.map_cons, List.cons.injEq] at h
        cases pr with
        | cons p1 p2 =>
          obtain ⟨i1, i2⟩ := ih h.2 p2
          obtain ⟨k1, d1⟩ := p
          obtain ⟨k2, v2⟩ := q
          have hk : k1 = k2 := h.1
          subst hk
          simp only [List.map_cons]
          by_cases z : k1 = k
          · rw [if_pos z, if_pos z]
            exact ⟨by rw [i1], .cons pd i2⟩
          · rw [if_neg z, if_neg z]
            exact ⟨by rw [i1], .cons p1 i2⟩
  unfold putP putK
  rw [any_eq e]
  split
  · exact mp e pr
  · refine ⟨?_, ?_⟩
    · simp only [List.map_append, List.map_cons, List.map_nil, List.map_map]
      have := congrArg (List.map kD) e
      rw [List.map_map, List.map_map] at this
      exact congrArg (· ++ [kD k]) this
    · simp only [List.map_append, List.map_cons, List.map_nil, List.map_map]
      exact PRs.append (by simpa [Function.comp_def] using pr) (.cons pd .nil)
section
variable {K : PySem.W.Frag} {ar : Nat → Option V} {I H : Hp} {σ : L2.St} {σs : SSt} {F : Nat → List Addr}
/-- one cell of an owned slot is written -/
theorem StR.mutate1 (h : StR K ar I H σ σs F) {i : Nat} {a : Addr} {r r' : S} {o : HO} (q : gets σs i = some r) (nv : ∀ d, r ≠ .val d) (ev : σ[i]? = some (some (.ref a))) (eF : F i = [a]) (sr : SR K I (upd H a o) (.ref a) r' [a]) :
    StR K ar I (upd H a o) σ (sets σs i (some r')) F ∧ Evo I H (own F) I (upd H a o) (own F) := by
  have ia : I a = none := h.notI i a (by rw [eF]; simp)
  have ha : ∃ x, H a = some x := h.there ⟨i, by rw [eF]; simp⟩
  have out : ∀ b, (¬ b = a) → upd H a o b = H b := fun b n => upd_ne n
  refine ⟨⟨fun b x e => ?_, fun j r' q' => ?_, fun j q' => ?_, h.dis, h.notI, fun j w r' hj q' => ?_, by rw [sets_length]; exact h.len⟩, ⟨.refl I, fun b x e n => ?_, fun b m => .inl m, fun b x e => .inl e⟩⟩
  · have n : ¬ b = a := fun z => by rw [z, ia] at e; cases e
    rw [out b n]
    exact h.sub b x e
  · by_cases hj : j = i
    · subst hj
      rw [gets_sets_same (gets_some_lt q)] at q'
      cases q'
      refine ⟨_, ev, ?_⟩
      rw [eF]
      exact sr
    · rw [gets_sets_ne hj] at q'
      obtain ⟨w, e2, r2⟩ := h.rep j r' q'
      refine ⟨w, e2, r2.keep (.refl I) fun b m x e => ?_⟩
      have n : ¬ b = a := fun z => by
        subst z
        exact hj (h.dis j i b m (by rw [eF]; simp))
      rw [out b n]
      exact e
  · have hj : j ≠ i := fun e => by
      rw [e, gets_sets_same (gets_some_lt q)] at q'
      cases q'
    rw [gets_sets_ne hj] at q'
    exact h.non j q'
  · by_cases hji : j = i
    · subst hji
      rcases h.par j w _ hj q with ⟨d, e⟩ | e
      · exact absurd e (nv d)
      · exact .inr e
    · rw [gets_sets_ne hji] at q'
      exact h.par j w r' hj q'
  · have nb : ¬ b = a := fun z => n ⟨i, by rw [eF, z]; simp⟩
    rw [out b nb]
    exact e
end
section
variable {X : Cx} {ar : Nat → Option V} {e : Expr} {te : TEs} {b1 b2 m1 m2 : Bool} {pos : Pos}
/-- d[k] = v, d an own dict -/
def sDPut (i : Nat) (te tx : TEs) : TSs := fun σs D ES => te σs (fun r σ1 => nd r.toD fun d => (∃ dk0, gets σ1 i = some (dctS dk0)) ∧ tx σ1 (fun r2 σ2 => ∃ (dk : List (Key × PyData)) (k : Key), gets σ2 i = some (dctS dk) ∧ r2 = .val (kD k) ∧ dk.length ≤ 1000000 ∧ D.nx (sets σ2 i (some (dctS (putP dk k d))))) ES) ES
theorem js_dput (i : Nat) {x : Str} {ix : Expr} {tx : TEs} {np sp : Pos} (hu : X.A.units + 1 < cLine) (he : JE X ar b1 true e te) (hx : JE X ar b2 m2 ix tx) (hN : X.N[i]? = some x := by rfl) (hv : Vis X.env.scope x := by first | exact Or.inl rfl | exact Or.inr (Or.inl rfl) | exact Or.inr (Or.inr rfl)) (hd : (x == ("__debug__" : Str)) = false := by decide)
    (hcd : (x == ("__classdict__" : Str)) = false := by decide)
    (ha : ∀ v, assign (.Subscript (.Name x np) ix sp) X.env v = (do
      let ov ← holding [v] (eval (.Name x np) X.env)
      let iv ← holding [v, ov] (eval ix X.env)
      standAt sp
      holding [v, ov, iv] (setItem ov iv v)
      release [v, ov, iv] []) := by intro _; rfl)
    (hs : swapsWithSole [.Subscript (.Name x np) ix sp] e pos.line X.env = pure false := by rfl) (hw : swappedStores [.Subscript (.Name x np) ix sp] e X.env = pure none := by rfl)
    (h1 : (assignEach [.Subscript (.Name x np) ix sp] X.env).map (·.2) = [assign (.Subscript (.Name x np) ix sp) X.env] := by rfl) : JS X ar (.Assign [.Subscript (.Name x np) ix sp] e pos) (sDPut i te tx) := by
  refine ⟨fun pins s σ H D J ⟨I, F, σs, Ds, ES, st, tx0, q, r⟩ => ?_⟩
  refine (ps_asg he.pe (pg_sub (pe_var (i := i) hN hv hd hcd) hx.pe (set_dict hu) ha) hs hw h1).run pins s σ H D J ⟨I, F, σs, _, ES, st, tx0, q, fun v r' R I' H' F' σs' ev st' sr nf nI q' => ?_⟩
  obtain ⟨d, ed, q'⟩ := nd_some q'
  obtain ⟨⟨dk0, g0⟩, q'⟩ := q'
  obtain ⟨p, st2, ev2⟩ := ev.frz st' sr (nf rfl) nI ed
  obtain ⟨w, e1, sr1⟩ := st2.rep i _ g0
  obtain ⟨a, vk0, rfl, eF0, hH0, _, _⟩ := sr1.dct_inv
  refine ⟨.ref a, e1, _, F', σs', _, ES, st2, tx0.go ev2 fun _ z => z, q', fun v2 r2 R2 I2 H2 F2 σ2 ev3 st3 sr3 nf3 nI3 q3 => ?_⟩
  obtain ⟨dk, k, g2, er2, hl, q4⟩ := q3
  subst er2
  obtain ⟨eR, p2⟩ := sr3.val_inv
  subst eR
  obtain rfl := PR.key p2
  obtain ⟨w2, e2, sr2⟩ := st3.rep i _ g2
  obtain ⟨a2, vk, rfl, eF2, hH2, ek, pv⟩ := sr2.dct_inv
  rw [e1] at e2
  cases e2
  have ek' := keys_rel ek
  have pv' : PRs X.K I2 (vk.map (·.2)) (dk.map (·.2)) := by simpa [Function.comp_def] using pv
  obtain ⟨n1, n2⟩ := put_rel (k := k) (p.sub ev3.up) ek' pv'
  have lk : vk.length < sizeLine := by
    have := congrArg List.length ek'
    simp only [List.length_map] at this
    exact room2 (by omega)
  obtain ⟨st4, ev4⟩ := st3.mutate1 (o := .dK (putK vk k v)) (r' := dctS (putP dk k d)) g2 (fun d e => by cases e) e1 eF2 (.dct upd_same n1 n2)
  refine ⟨a, _, rfl, DPut.k hH2 lk, ?_⟩
  exact r.nx _ _ ⟨_, F2, _, (ev2.trans ev3.drop (fun _ z => z) (fun _ z => .inr z)).trans ev4 (fun _ z => z) (fun _ z => .inr z), st4, q4⟩
end
end SV
/-! Svf: dicts looked up; tests put together step by step. -/
namespace SV
open PySem PySem.Spec PyProof.Rows L2
theorem find_nd {k : Key} {d : PyData} : ∀ {dk : List (Key × PyData)}, (dk.map (·.1)).Nodup → (k, d) ∈ dk → dk.find? (fun p => decide (p.1 = k)) = some (k, d)
  | [], _, h => by cases h
  | p :: dk, hn, h => by
    rw [List.map_cons, List.nodup_cons] at hn
    rcases List.mem_cons.mp h with rfl | h
    · rw [List.find?_cons, decide_eq_true rfl]
    · have : p.1 ≠ k := fun e => hn.1 (by rw [e]; exact List.mem_map.mpr ⟨_, h, rfl⟩)
      rw [List.find?_cons, decide_eq_false this]
      exact find_nd hn.2 h
theorem look_nd {k : Key} {d : PyData} {dk : List (Key × PyData)} (hn : (dk.map (·.1)).Nodup) (h : (k, d) ∈ dk) : lookD (dk.map fun p => (kD p.1, p.2)) (kD k) = some d := by
  unfold lookD
  rw [List.find?_map]
  have e : ((fun p : PyData × PyData => PyData.eqv p.1 (kD k)) ∘ fun p : Key × PyData => (kD p.1, p.2)) = fun p : Key × PyData => decide (p.1 = k) := by
    funext p
    exact eqv_kD p.1 k
  rw [e, find_nd hn h]
  rfl
theorem put_new {k : Key} {d : PyData} {dk : List (Key × PyData)} (h : k ∉ dk.map (·.1)) : putP dk k d = dk ++ [(k, d)] := by
  unfold putP
  rw [if_neg]
  rw [List.any_eq_true]
  rintro ⟨p, mp, e⟩
  exact h (List.mem_map.mpr ⟨p, mp, of_decide_eq_true e⟩)
theorem or_step {Q : Bool → SSt → Prop} {a a' rest : Bool} {x : SSt} {R : Prop} (q : Q (a || rest) x) (e : a' = a) (h : a = false → Q rest x → R) : ifb a' (Q true x) R := by
  subst e
  cases a'
  · exact ifb_f rfl (h rfl q)
  · exact ifb_t rfl q
theorem and_step {Q : Bool → SSt → Prop} {a a' rest : Bool} {x : SSt} {R : Prop} (q : Q (a && rest) x) (e : a' = a) (h : a = true → Q rest x → R) : ifb a' R (Q false x) := by
  subst e
  cases a'
  · exact ifb_f rfl q
  · exact ifb_t rfl (h rfl q)
end SV
/-! Svg: a comprehension given to a name as data. -/
namespace SV
open PySem PySem.Spec PyProof.Rows L2
section
variable {X : Cx} {ar : Nat → Option V} {ti : TIs} {g : TGt} {ts : List Nat} {tt : TTs} {te : TEs}
variable {elt tg iter : Expr} {ifs : List Expr} {scope : Scope} {ow : List (Str × Nat)} {b : Bool} {pos : Pos}
theorem js_setLcv {i : Nat} {y : Str} {py : Pos} {spos : Pos} (hc : X.calm = true) (hN : X.N.Nodup) (hy : X.N[i]? = some y) (hyl : X.env.scope.names.lookup y = some .local)
    (hsw : swapsWith (.ListComp elt [⟨tg, iter, ifs, 0⟩] scope pos) (some (.Name y py)) spos.line X.env = pure true) (hi : JI X ar tg iter ti) (ok : BlkOk X.N X.env.scope scope ow) (hts : ∀ t ∈ ts, t ∈ ow.map (·.2))
    (hg : ∀ (s : Shared) (H : Hp) (C : Addr) (cl : List (Str × Addr)) (fp : List Addr), JG (BlkCx X s H scope C cl fp) ar tg g ts) (ht : ∀ (s : Shared) (H : Hp) (C : Addr) (cl : List (Str × Addr)) (fp : List Addr), JQ (BlkCx X s H scope C cl fp) ar ifs tt)
    (he : ∀ (s : Shared) (H : Hp) (C : Addr) (cl : List (Str × Addr)) (fp : List Addr), JE (BlkCx X s H scope C cl fp) ar b true elt te) (hs : ∀ x, foldedSetIterable iter X.env x = pure x := by intro _; rfl) :
    JS X ar (.Assign [.Name y py] (.ListComp elt [⟨tg, iter, ifs, 0⟩] scope pos) spos) (sSetV i (sLc ti g tt te (ow.map (·.2)))) := by
  refine ⟨fun pins s σ H D J ⟨I, F, σs, Ds, ES, st, tx, q, r⟩ => ?_⟩
  have hl : i < σs.length := by rw [st.len, J.len]; exact (List.getElem?_eq_some_iff.mp hy).1
  refine (ps_setLc (g := liG X ar g ts) (tt := liTn X.K ar tt) hc hN hy hyl hsw hi ok (fun s H C cl fp => hg s H C cl fp) (fun s H C cl fp => ht s H C cl fp) (fun s H C cl fp => (he s H C cl fp).pen) hs).run pins s σ H D J (lc_imp hts st tx q fun v H' ⟨r', R, I', F', σs', ev, st', sr, nf, nI, q'⟩ => ?_)
  obtain ⟨d, ed, q'⟩ := nd_some q'
  have n := nI
  have st2 : StR X.K ar (fz I' H' R) H' _ σs' F' := st'.keep (fz_sub st'.sub) (sub_fz n) (fun _ _ _ z => z) fun a m => by
    rw [fz_out fun z => nf a z m]
    exact st'.ownI m
  have ev2 : Evo I H (own F) (fz I' H' R) H' (own F') := ⟨ev.up.trans (sub_fz n), ev.fr, fun a m => ev.nw a (.inr m), fun a x q => by
    unfold fz at q
    split at q
    · rename_i m
      exact .inr (ev.nw a (.inl m))
    · exact ev.ni a x q⟩
  exact r.nx _ _ ⟨_, put1 F' i [], _, ⟨ev2.up, ev2.fr, fun a z => by
    rcases own_put1 z with z | z
    · cases z
    · exact ev2.nw a z, ev2.ni⟩, st2.store (by rw [st'.len, ← st.len]; exact hl) (.val (sr.freeze ed n)) (fun a m => absurd m (by simp)) (fun a m => absurd m (by simp)) (.inl ⟨d, rfl⟩), q'⟩
end
/-! ### a, b = a list of that length -/
def gSeqL (g : TGts) : TGt := fun d σs => match d with
  | .list ds => g ds σs
  | _ => none
section
variable {X : Cx} {ar : Nat → Option V} {pos : Pos}
theorem jg_lst {es : List Expr} {k : Nat} {g : TGts} {ts : List Nat} {n : Nat} (hc : X.calm = true) (h : JGs X ar es g ts) (hl : ∀ ds σs σ1, g ds σs = some σ1 → ds.length = n) (hn : (assignEach es X.env).length = n := by rfl) (hst : (assignEach es X.env).findIdx? (·.1) = none := by rfl) :
    JG X ar (.Tuple es k pos) (gSeqL g) ts := by
  refine PG.mono (pg_lst hc h hn hst) fun v σ H Q ⟨I, F, σs, d, σ1, st, pr, e, f⟩ => ?_
  cases pr with
  | lst hq p => exact ⟨_, _, rfl, .inl (.inl (st.sub _ _ hq)), by rw [p.length]; exact hl _ _ _ e, I, F, σs, _, σ1, st, p, e, f⟩
  | _ => cases e
end
end SV
/-! Svh: a tuple from its end to its beginning (x[::-1]). -/
namespace HT
open PySem PyProof.Rows
open PySem.SeqAt
open PySem.AutoSeq1 (wpAny_loadPart')
open PySem.MeetsSeq PySem.MeetsSeq2 PySem.MeetsSeq3
section
variable {prog : Program} {w : World} {A : Around} {E : Value → Shared → Prop} {s : Shared}
theorem rev_adjust (n : Nat) : Builtin.Slice.sliceAdjust none none (-1) (n : Int) = ((n : Int) - 1, -1) := by
  unfold Builtin.Slice.sliceAdjust
  rfl
theorem rev_places (n : Nat) : Builtin.Slice.slicePlaces ((n : Int) - 1) (-1) (-1) = n := by
  unfold Builtin.Slice.slicePlaces
  rw [if_neg (by decide)]
  split <;> simp <;> omega
theorem rev_applied {sl : Addr} {u : Tok} {n : Nat} {Q : Int × Int × Nat → Shared → Prop} (hs : s.heap.IsSliceOf sl .none .none (.int (-1) u))
    (h : Q ((n : Int) - 1, -1, n) s) : wpAny (model prog w) A (Builtin.Slice.sliceApplied (.ref sl) (pure (n : Int))) Q E s := by
  obtain ⟨os, hos, hcs, hds⟩ := id hs
  unfold Builtin.Slice.sliceApplied Builtin.Slice.sliceFields
  refine wpAny_bind (wpAny_bind (wpAny_field hos hds (x := .none) rfl (wpAny_bind (wpAny_field hos hds (x := .none) rfl (wpAny_bind (wpAny_field hos hds (x := .int (-1) u) rfl (wpAny_pure ?_)))))))
  refine wpAny_bind (slicePart_int ?_)
  show wpAny _ _ (if ((-1 : Int) == 0) = true then _ else _) _ _ s
  rw [if_neg (by decide)]
  refine wpAny_bind (slicePart_none (wpAny_bind (slicePart_none (wpAny_bind (wpAny_pure ?_)))))
  show wpAny _ _ (match Builtin.Slice.sliceAdjust none none (-1) (n : Int) with | (lo, hi) => pure (lo, (-1 : Int), Builtin.Slice.slicePlaces lo hi (-1))) _ _ s
  rw [rev_adjust n]
  show wpAny _ _ (pure ((n : Int) - 1, (-1 : Int), Builtin.Slice.slicePlaces ((n : Int) - 1) (-1) (-1))) _ _ s
  rw [rev_places]
  exact wpAny_pure h
theorem fm_map {α β : Type} {f : α → Option β} {g : α → β} : ∀ (l : List α), (∀ m ∈ l, f m = some (g m)) → l.filterMap f = l.map g
  | [], _ => rfl
  | x :: l, h => by rw [List.filterMap_cons_some (h x (by simp)), List.map_cons, fm_map l fun m mm => h m (by simp [mm])]
theorem rev_pick (xs : Array Value) : ((List.range xs.size).filterMap fun (m : Nat) => xs[(((xs.size : Int) - 1) + (m : Int) * (-1)).toNat]?).toArray = xs.toList.reverse.toArray := by
  congr 1
  rw [fm_map (g := fun m => (xs.toList.reverse[m]?).getD Value.none) _ fun m hm => ?_]
  · apply List.ext_getElem?
    intro i
    by_cases hi : i < xs.size
    · rw [List.getElem?_map, List.getElem?_range hi]
      show some ((xs.toList.reverse[i]?).getD Value.none) = xs.toList.reverse[i]?
      rw [List.getElem?_eq_getElem (by simpa using hi)]
      rfl
    · rw [List.getElem?_eq_none (by simpa using hi), List.getElem?_eq_none (by simpa using hi)]
  · have hm := List.mem_range.mp hm
    rw [show (((xs.size : Int) - 1) + (m : Int) * (-1)).toNat = xs.size - 1 - m by omega]
    rw [List.getElem?_reverse (by simpa using hm), Array.length_toList, ← Array.getElem?_toList, List.getElem?_eq_getElem (by rw [Array.length_toList]; omega)]
    rfl
theorem getItem_tuple_rev {t sl : Addr} {u : Tok} {items : Array Value} {Q : Value → Shared → Prop} (ht : IsTup s.heap t items) (hs : s.heap.IsSliceOf sl .none .none (.int (-1) u))
    (h : Q (.ref s.heap.objs.size) { s with heap := s.heap.push { cls := .type "tuple", data := .seq items.toList.reverse.toArray } })
    (hsz : items.size ≤ sizeLine) : wpAny (model prog w) A (getItem (.ref t) (.ref sl)) Q E s := by
  have htake : sizeOk (.seq items.toList.reverse.toArray) := by
    show items.toList.reverse.toArray.size ≤ sizeLine
    simpa using hsz
  obtain ⟨os, hos, hcs, hds⟩ := id hs
  have hTs : s.TypeIs (.ref sl) "slice" := ⟨os, hos, hcs⟩
  unfold getItem
  try with_reducible refine wpAny_holding ?_
  first | refine wpAny_bind (wpAny_pure ?_) | skip
  refine wpAny_bind (wpAny_sequenceKey ht.typeIs (by decide) ?_)
  refine wpAny_bind (wpAny_callSpecial?_slot (name := Str.ofString "__getitem__") ht.typeIs PyProof.Rows.slot_tuple_getitem
    (wpAny_call_entry PyProof.Rows.slot_tuple_getitem ht.typeIs entry_tuple_getitem ?_ (args_tuple_getitem _ _)))
  show wpAny _ _ (Builtin.Tuple.tupleItemsOf (.ref t) >>= _) _ _ s
  refine wpAny_bind (tupleItemsOf_ ht ?_)
  refine wpAny_bind (wpAny_typeOf hTs ?_)
  rw [if_pos (by decide)]
  refine wpAny_bind (rev_applied hs ?_)
  have hno : ¬ ((((items.size : Int) - 1) == 0 && (-1 : Int) == 1 && items.size == items.size) = true) := by
    intro q
    rw [Bool.and_eq_true, Bool.and_eq_true] at q
    exact absurd (eq_of_beq q.1.2) (by decide)
  show wpAny _ _ (if (((items.size : Int) - 1) == 0 && (-1 : Int) == 1 && items.size == items.size) = true then _ else _) _ _ s
  rw [if_neg hno, rev_pick]
  first
    | exact wpAny_bind (m := Builtin.Tuple.tupleExact _) (wpAny_newObj_type (wpAny_pure ⟨_, rfl, wpAny_pure h⟩) htake)
    | exact wpAny_bind (m := Builtin.Tuple.tupleExact _) (wpAny_newObj_type (wpAny_bind (wpAny_pure (wpAny_pure ⟨_, rfl, wpAny_pure h⟩))) htake)
    | exact wpAny_bind (wpAny_bind (m := Builtin.Tuple.tupleExact _) (wpAny_newObj_type (wpAny_pure (wpAny_pure ⟨_, rfl, wpAny_pure h⟩)) htake))
    | exact wpAny_bind (wpAny_bind (m := Builtin.Tuple.tupleExact _) (wpAny_newObj_type (wpAny_pure ⟨_, rfl, wpAny_pure h⟩) htake))
end
end HT

namespace SV
open PySem PySem.Spec PyProof.Rows L2
section
variable {X : Cx} {ar : Nat → Option V} {b1 b2 m1 : Bool} {ta te : TEs} {a st : Expr} {p2 pos : Pos}
/-- x[::-1], x a tuple -/
def sRev (ta te : TEs) : TEs := fun σs Q ES => ta σs (fun x σ1 => nd x.toD fun dx => te σ1 (fun y σ2 => match dx, y with
  | .tuple ds, .val (.int k) => k = -1 ∧ Q (.val (.tuple ds.reverse)) σ2
  | _, _ => False) ES) ES
theorem je_rev (ha : JE X ar b1 m1 a ta) (hs : JE X ar b2 true st te) (hm : m1 = true ∨ b2 = true := by first | exact Or.inl rfl | exact Or.inr rfl) :
    JE X ar (b1 && b2) true (.Subscript a (.Slice none none (some st) p2) pos) (sRev ta te) := by
  refine ⟨fun pins s σ I H F σs Q ES J sr tx q => ?_⟩
  refine Subscript_ (thn (ha.run pins s σ I H F σs _ ES J sr tx q) fun v s1 ⟨x, rx, R1, I1, H1, F1, σ1, h1, r1, q1⟩ => ?_)
  obtain ⟨dx, ex, q1⟩ := nd_some q1
  refine wpAny_Slice ?_
  rw [evalPart_none, evalPart_some]
  refine wpAny_pure (wpAny_pure (thn (hs.run pins s1 σ I1 H1 F1 σ1 _ ES h1.inv h1.st (tx.go h1.base.evo fun _ z => z) q1) fun vs s2 ⟨y, ry, R2, I2, H2, F2, σ2, h2, r2, q2⟩ => ?_))
  have b := h1.base.then h2.base
  obtain ⟨sx, _, _, _⟩ := h1.over h2.base hm
  have ax := sx.ar h2.st.sub ex
  have sy := h2.sr
  cases dx with
  | tuple ds =>
    cases ry with
    | val d2 =>
      cases d2 with
      | int k =>
        obtain ⟨rfl, q3⟩ := q2
        cases sy with
        | val py =>
          cases py
          obtain ⟨u, rfl⟩ : ∃ u, vs = Value.int (-1) u := by
            exact r2
          cases ax with
          | tup hq p =>
            cases r1
            have I4 : Inv X pins σ H2 { s2 with heap := s2.heap.push { cls := .type "slice", data := .fields #[.none, .none, .int (-1) u] } } := h2.inv.kept (t' := s2.toks) fun b ob q => Heap.get?_push_of_some _ q
            obtain ⟨its, r, ht, hz⟩ := I4.tuple (SqT.sub h2.st.sub hq)
            refine thn (tail_any (ops := [_, .ref s2.heap.objs.size]) ht.typeIs PyProof.Rows.slot_tuple_getitem.lookup (HT.getItem_tuple_rev ht (Heap.IsSliceOf.new ..) ?_ (by rw [List.size_toArray, ← r.length]; exact hz)) (by with_unfolding_all rfl)) fun w s5 h5 => RP.of_vp b h5
            refine ⟨.ref _, _, I4.laid (t' := s2.toks) (o := .tup _) (fun b ob q => Heap.get?_push_of_some _ q) (Nat.le_refl _) ?_, rfl, .newTup h2.st.sub (I4.hok.fresh (Nat.le_refl _)) p.reverse q3⟩
            exact ⟨by simpa using hz, _, r.reverse, IsTup.new _ _⟩
      | _ => exact (show False from q2).elim
    | _ => exact (show False from q2).elim
  | _ => exact (show False from q2).elim
end
end SV
/-! Svi: an own list is frozen while an expression runs, and is the own list again behind it. -/
namespace SV
open PySem PySem.Spec PyProof.Rows L2
mutual
/-- no list in it -/
def nol : PyData → Bool
  | .list _ => false
  | .tuple ds => nols ds
  | .none => true
  | .bool _ => true
  | .int _ => true
  | .str _ => true
  | _ => false
def nols : List PyData → Bool
  | [] => true
  | d :: ds => nol d && nols ds
end
theorem nols_map {α : Type} (f : α → PyData) : ∀ xs : List α, (∀ x ∈ xs, nol (f x) = true) → nols (xs.map f) = true
  | [], _ => by simp [nols]
  | x :: xs, h => by
    rw [List.map_cons, nols, h x List.mem_cons_self, nols_map f xs fun y m => h y (List.mem_cons_of_mem _ m)]
    rfl
theorem nols_ints (ns : List Int) : nols (ns.map .int) = true := nols_map _ _ fun _ _ => by simp [nol]
def flatS : S → Bool
  | .val d => nol d
  | .lst ds => nols ds
  | _ => false
/-- I without what stands at Z -/
def cutH (I : Hp) (Z : List Addr) : Hp := fun a => if a ∈ Z then none else I a
theorem cutH_sub {I : Hp} {Z : List Addr} : Sub (cutH I Z) I := fun a x e => by
  unfold cutH at e
  split at e
  · cases e
  · exact e
theorem cutH_out {I : Hp} {Z : List Addr} {a : Addr} (h : a ∉ Z) : cutH I Z a = I a := if_neg h
theorem cutH_in {I : Hp} {Z : List Addr} {a : Addr} (h : a ∈ Z) : cutH I Z a = none := if_pos h
section
variable {K : PySem.W.Frag} {I : Hp} {Z : List Addr}
theorem SqT.cut {a : Addr} {vs : List V} (hZ : ∀ a ∈ Z, ∃ xs, I a = some (.lst xs)) (h : SqT K I a vs) : SqT K (cutH I Z) a vs := by
  have nz : ∀ o, I a = some o → (∀ xs, o ≠ .lst xs) → a ∉ Z := fun o e n m => by
    obtain ⟨xs, e2⟩ := hZ a m
    rw [e] at e2
    exact n xs (Option.some.inj e2)
  rcases h with (h | ⟨o, h⟩) | h
  · exact .inl (.inl (by rw [cutH_out (nz _ h fun xs e => by cases e)]; exact h))
  · exact .inl (.inr ⟨o, by rw [cutH_out (nz _ h fun xs e => by cases e)]; exact h⟩)
  · exact .inr h
mutual
theorem PR.cut (hZ : ∀ a ∈ Z, ∃ xs, I a = some (.lst xs)) : ∀ {v : V} {d : PyData}, PR K I v d → nol d = true → PR K (cutH I Z) v d
  | _, _, .non, _ => .non
  | _, _, .bl b, _ => .bl b
  | _, _, .int i, _ => .int i
  | _, _, .str x h z, _ => .str x h z
  | _, _, .tup h r, n => .tup (SqT.cut hZ h) (PRs.cut hZ r (by rw [nol] at n; exact n))
  | _, _, .lst h r, n => by rw [nol] at n; cases n
theorem PRs.cut (hZ : ∀ a ∈ Z, ∃ xs, I a = some (.lst xs)) : ∀ {vs : List V} {ds : List PyData}, PRs K I vs ds → nols ds = true → PRs K (cutH I Z) vs ds
  | _, _, .nil, _ => .nil
  | _, _, .cons h t, n => by
    rw [nols, Bool.and_eq_true] at n
    exact .cons (PR.cut hZ h n.1) (PRs.cut hZ t n.2)
end
theorem SR.cut {H : Hp} {v : V} {r : S} {R : List Addr} (hZ : ∀ a ∈ Z, ∃ xs, I a = some (.lst xs)) (h : SR K I H v r R) (n : flatS r = true) : SR K (cutH I Z) H v r R := by
  cases h with
  | val p => exact .val (p.cut hZ n)
  | lst h p => exact .lst h (p.cut hZ n)
  | _ => cases n
end
/-- what the other slots hold behind it: as ahead, or without a list in it -/
def asWas (σ σ' : SSt) (i : Nat) : Prop := ∀ j, j ≠ i → ∀ r, gets σ' j = some r → flatS r = true ∨ (gets σ j = some r ∧ ((∃ d, r = .val d) ∨ ∃ ns, r = .scr ns))
/-- a slot that may stand beside a borrowed list -/
def okR : S → Prop
  | .val _ => True
  | .scr _ => True
  | .lst ds => nols ds = true
  | _ => False
def okSlots : SSt → Prop
  | [] => True
  | none :: r => okSlots r
  | some x :: r => okR x ∧ okSlots r
theorem okSlots_get : ∀ {σ : SSt} {j : Nat} {r : S}, okSlots σ → gets σ j = some r → okR r
  | [], _, _, _, g => by cases g
  | none :: _, 0, _, _, g => by cases g
  | some x :: _, 0, _, h, g => by cases g; exact h.1
  | none :: r, n + 1, _, h, g => okSlots_get (σ := r) (j := n) h g
  | some x :: r, n + 1, _, h, g => okSlots_get (σ := r) (j := n) h.2 g
theorem asWas_sets {σ : SSt} {i : Nat} {y : Option S} (h : okSlots σ) : asWas σ (sets σ i y) i := fun j hj r g => by
  rw [gets_sets_ne hj] at g
  have := okSlots_get h g
  cases r with
  | val d => exact .inr ⟨g, .inl ⟨d, rfl⟩⟩
  | scr ns => exact .inr ⟨g, .inr ⟨ns, rfl⟩⟩
  | lst ds => exact .inl this
  | _ => exact this.elim
def sUnf (i : Nat) (t : TEs) : TEs := fun σs Q ES => match gets σs i with
  | some (.lst ds) => t σs (fun r σ' => nols ds = true ∧ gets σ' i = some (.val (.list ds)) ∧ flatS r = true ∧ asWas σs σ' i ∧ Q r (sets σ' i (some (.lst ds)))) noX
  | _ => t σs Q ES
theorem je_unfrz (i : Nat) {X : Cx} {ar : Nat → Option V} {b : Bool} {e : Expr} {t : TEs} (h : JE X ar b true e t) : JE X ar false true e (sUnf i t) := by
  refine ⟨fun pins s σ I H F σs Q ES J st tx q => ?_⟩
  have plain : t σs Q ES → wpAny (model X.prog X.w) X.A (eval e X.env) (RP X ar pins σ false true I H F σs Q) X.xe s := fun q =>
    thn (h.run pins s σ I H F σs Q ES J st tx q) fun u s' ⟨v, r, R, I', H', F', σs', d, rv, q⟩ => ⟨v, r, R, I', H', F', σs', ⟨d.inv, d.evo, d.st, d.sr, d.nf, d.nI, fun z => by cases z⟩, rv, q⟩
  unfold sUnf at q
  cases g : gets σs i with
  | none => rw [g] at q; exact plain q
  | some r0 =>
    rw [g] at q
    cases r0 with
    | lst ds =>
      obtain ⟨v0, e0, s0⟩ := st.rep i _ g
      refine thn (h.run pins s σ I H F σs _ noX J st .none q) fun u s' ⟨v, r, R, I', H', F', σs', d, rv, nds, gi, fr, was, q⟩ => ?_
      obtain ⟨L, eL, eF⟩ : ∃ L, v0 = .ref L ∧ F i = [L] := by
        generalize F i = Z at s0
        cases s0 with
        | lst _ _ => exact ⟨_, rfl, rfl⟩
      obtain ⟨v1, e1, s1⟩ := d.st.rep i _ gi
      rw [e0] at e1
      cases e1
      obtain ⟨eF', p1⟩ := s1.val_inv
      subst eL
      obtain ⟨vs', hL, pl⟩ : ∃ vs', I' L = some (.lst vs') ∧ PRs X.K I' vs' ds := by
        cases p1 with
        | lst a b => exact ⟨_, a, b⟩
      have hZ : ∀ a ∈ [L], ∃ xs, I' a = some (.lst xs) := fun a m => by
        rw [List.mem_singleton] at m
        subst m
        exact ⟨_, hL⟩
      have nL : ∀ j, L ∉ F' j := fun j m => by
        have := d.st.notI j L m
        rw [hL] at this
        cases this
      have up : Sub I (cutH I' [L]) := fun a x e => by
        have : a ∉ [L] := fun m => by
          rw [List.mem_singleton] at m
          subst m
          rw [st.notI i a (by rw [eF]; exact List.mem_singleton_self a)] at e
          cases e
        rw [cutH_out this]
        exact d.evo.up a x e
      have hi : i < σs'.length := gets_some_lt gi
      refine ⟨v, r, R, cutH I' [L], H', put1 F' i [L], sets σs' i (some (.lst ds)), ⟨d.inv, ⟨up, d.evo.fr, fun a m => ?_, fun a x e => d.evo.ni a x (cutH_sub a x e)⟩, ⟨cutH_sub.trans d.st.sub, fun j r' q' => ?_, fun j q' => ?_, fun j k a m m' => ?_, fun j a m => ?_, fun j w r' ha q' => ?_, by rw [sets_length]; exact d.st.len⟩, d.sr.cut hZ fr, fun _ a m z => ?_, fun a m => ?_, fun z => by cases z⟩, rv, q⟩
      · rcases m with m | m
        · exact d.evo.nw a (.inl m)
        · rcases own_put1 m with m | m
          · rw [List.mem_singleton] at m
            subst m
            exact .inl ⟨i, by rw [eF]; exact List.mem_singleton_self a⟩
          · exact d.evo.nw a (.inr m)
      · by_cases hj : j = i
        · subst hj
          rw [gets_sets_same hi] at q'
          cases q'
          refine ⟨_, e0, ?_⟩
          unfold put1
          rw [if_pos rfl]
          exact .lst (d.st.sub _ _ hL) (pl.cut hZ nds)
        · rw [gets_sets_ne hj] at q'
          obtain ⟨w, e2, r2⟩ := d.st.rep j r' q'
          refine ⟨w, e2, ?_⟩
          unfold put1
          rw [if_neg hj]
          rcases was j hj r' q' with f | ⟨f, k⟩
          · exact r2.cut hZ f
          · obtain ⟨w', e3, r3⟩ := st.rep j r' f
            rw [e2] at e3
            cases e3
            rcases k with ⟨dd, rfl⟩ | ⟨ns, rfl⟩
            · obtain ⟨eR, p⟩ := r3.val_inv
              obtain ⟨eR2, _⟩ := r2.val_inv
              rw [eR2]
              exact .val (p.sub up)
            · generalize F' j = Z at r2
              generalize F j = Z2 at r3
              cases r2 with
              | scr _ => cases r3 with
                | scr h => exact .scr (SqL.sub up h)
      · have hj : j ≠ i := fun e => by
          subst e
          rw [gets_sets_same hi] at q'
          cases q'
        unfold put1
        rw [if_neg hj]
        rw [gets_sets_ne hj] at q'
        exact d.st.non j q'
      · unfold put1 at m m'
        split at m
        · rw [List.mem_singleton] at m
          subst m
          split at m'
          · rename_i a b
            rw [a, b]
          · exact absurd m' (nL k)
        · split at m'
          · rw [List.mem_singleton] at m'
            subst m'
            exact absurd m (nL j)
          · exact d.st.dis j k a m m'
      · unfold put1 at m
        split at m
        · exact cutH_in m
        · have := d.st.notI j a m
          unfold cutH
          split
          · rfl
          · exact this
      · by_cases hj : j = i
        · subst hj
          rcases st.par j w _ ha g with ⟨dd, z⟩ | z
          · cases z
          · exact .inr z
        · rw [gets_sets_ne hj] at q'
          exact d.st.par j w r' ha q'
      · rcases own_put1 z with z | z
        · rw [List.mem_singleton] at z
          subst z
          have := d.nI a m
          rw [hL] at this
          cases this
        · exact d.nf rfl a m z
      · have := d.nI a m
        unfold cutH
        split
        · rfl
        · exact this
    | _ => exact plain q
end SV
/-! Svj: a, b = e1, e2 with both sides written (no tuple is made). -/
namespace SV
open PySem PySem.Spec PyProof.Rows L2
def liA (X : Cx) (ar : Nat → Option V) (t : TPs) : TA := fun σ H Q => ∃ I F σs Qk ES, StR X.K ar I H σ σs F ∧ TX X ar I H (own F) ES ∧ t σs Qk ES ∧
  ∀ vs ds I' H' F' σs', Evo I H (own F) I' H' (own F') → StR X.K ar I' H' σ σs' F' → PRs X.K I' vs ds → Qk ds σs' → Q vs H'
theorem JA.pa {X : Cx} {ar : Nat → Option V} {b : Bool} {es : List Expr} {t : TPs} (h : JA X ar b es t) : PA X es (liA X ar t) :=
  ⟨fun pos pins s σ H Q J ⟨I, F, σs, Qk, ES, st, tx, q, f⟩ => thn (h.run pos pins s σ I H F σs Qk ES J st tx q) fun us s' ⟨vs, ds, I', H', F', σs', d, rv, pv, q'⟩ =>
    ⟨vs, H', d.inv, rv, f vs ds I' H' F' σs' d.evo d.st pv q'⟩⟩
theorem StR.storeD {K : PySem.W.Frag} {ar : Nat → Option V} {I0 H0 I H : Hp} {F0 F : Nat → List Addr} {σ : L2.St} {σs : SSt} (st : StR K ar I H σ σs F) (ev : Evo I0 H0 (own F0) I H (own F)) {i : Nat} {v : V} {d : PyData} (hi : i < σs.length) (p : PR K I v d) :
    StR K ar I H (σ.set i (some v)) (sets σs i (some (.val d))) (put1 F i []) ∧ Evo I0 H0 (own F0) I H (own (put1 F i [])) :=
  ⟨st.store hi (.val p) (fun a m => absurd m (by simp)) (fun a m => absurd m (by simp)) (.inl ⟨d, rfl⟩), ev.up, ev.fr, fun a z => by
    rcases own_put1 z with z | z
    · cases z
    · exact ev.nw a z, ev.ni⟩
def sPar (i j : Nat) (tp : TPs) : TSs := fun σs D ES => tp σs (fun ds σ1 => match ds with
  | [d, e] => D.nx (sets (sets σ1 i (some (.val d))) j (some (.val e)))
  | _ => False) ES
def sPar3 (i j l : Nat) (tp : TPs) : TSs := fun σs D ES => tp σs (fun ds σ1 => match ds with
  | [d, e, f] => D.nx (sets (sets (sets σ1 i (some (.val d))) j (some (.val e))) l (some (.val f)))
  | _ => False) ES
section
variable {X : Cx} {ar : Nat → Option V} {b1 : Bool} {tp : TPs}
theorem js_par {pos px py pt pt2 : Pos} {i j kt k2 : Nat} {x y : Str} {a b : Expr} (hc : X.calm = true) (hN : X.N.Nodup) (hi : X.N[i]? = some x) (hj : X.N[j]? = some y) (hij : i ≠ j)
    (hx : List.lookup x X.env.scope.names = some NameKind.local) (hy : List.lookup y X.env.scope.names = some NameKind.local) (ha : JA X ar b1 [a, b] tp)
    (hw : swappedStores [Expr.Tuple [Expr.Name x px, Expr.Name y py] kt pt] (Expr.Tuple [a, b] k2 pt2) X.env = pure (some [x, y]) := by rfl)
    (hs : swapsWithSole [Expr.Tuple [Expr.Name x px, Expr.Name y py] kt pt] (Expr.Tuple [a, b] k2 pt2) pos.line X.env = pure false := by rfl) :
    JS X ar (Stmt.Assign [Expr.Tuple [Expr.Name x px, Expr.Name y py] kt pt] (Expr.Tuple [a, b] k2 pt2) pos) (sPar i j tp) := by
  refine ⟨fun pins s σ H D J ⟨I, F, σs, Ds, ES, st, tx, q, r⟩ => ?_⟩
  have li : i < σs.length := by rw [st.len, J.len]; exact (List.getElem?_eq_some_iff.mp hi).1
  have lj : j < σs.length := by rw [st.len, J.len]; exact (List.getElem?_eq_some_iff.mp hj).1
  refine (PS.mono (ps_par hc hN hi hj hij hx hy ha.pa hw hs) fun D σ H z => z).run pins s σ H D J ⟨I, F, σs, _, ES, st, tx, q, fun vs ds I' H' F' σs' ev st' p q' => ?_⟩
  have ll : σs'.length = σs.length := by rw [st'.len, st.len]
  cases p with
  | nil => exact (show False from q').elim
  | cons p1 p =>
    cases p with
    | nil => exact (show False from q').elim
    | cons p2 p =>
      cases p with
      | cons _ _ => exact (show False from q').elim
      | nil =>
        obtain ⟨s1, e1⟩ := st'.storeD ev (by rw [ll]; exact li) p1
        obtain ⟨s2, e2⟩ := s1.storeD e1 (by rw [sets_length, ll]; exact lj) p2
        exact ⟨_, _, rfl, r.nx _ _ ⟨I', _, _, e2, s2, q'⟩⟩
theorem js_par3 {pos px py pz pt pt2 : Pos} {i j l kt k2 : Nat} {x y z : Str} {a b c : Expr} (hc : X.calm = true) (hN : X.N.Nodup) (hi : X.N[i]? = some x) (hj : X.N[j]? = some y) (hl : X.N[l]? = some z) (hij : i ≠ j) (hil : i ≠ l) (hjl : j ≠ l)
    (hx : List.lookup x X.env.scope.names = some NameKind.local) (hy : List.lookup y X.env.scope.names = some NameKind.local) (hz : List.lookup z X.env.scope.names = some NameKind.local) (ha : JA X ar b1 [a, b, c] tp)
    (hw : swappedStores [Expr.Tuple [Expr.Name x px, Expr.Name y py, Expr.Name z pz] kt pt] (Expr.Tuple [a, b, c] k2 pt2) X.env = pure (some [x, y, z]) := by rfl)
    (hs : swapsWithSole [Expr.Tuple [Expr.Name x px, Expr.Name y py, Expr.Name z pz] kt pt] (Expr.Tuple [a, b, c] k2 pt2) pos.line X.env = pure false := by rfl) :
    JS X ar (Stmt.Assign [Expr.Tuple [Expr.Name x px, Expr.Name y py, Expr.Name z pz] kt pt] (Expr.Tuple [a, b, c] k2 pt2) pos) (sPar3 i j l tp) := by
  refine ⟨fun pins s σ H D J ⟨I, F, σs, Ds, ES, st, tx, q, r⟩ => ?_⟩
  have li : i < σs.length := by rw [st.len, J.len]; exact (List.getElem?_eq_some_iff.mp hi).1
  have lj : j < σs.length := by rw [st.len, J.len]; exact (List.getElem?_eq_some_iff.mp hj).1
  have lk : l < σs.length := by rw [st.len, J.len]; exact (List.getElem?_eq_some_iff.mp hl).1
  refine (PS.mono (ps_par3 hc hN hi hj hl hij hil hjl hx hy hz ha.pa hw hs) fun D σ H z => z).run pins s σ H D J ⟨I, F, σs, _, ES, st, tx, q, fun vs ds I' H' F' σs' ev st' p q' => ?_⟩
  have ll : σs'.length = σs.length := by rw [st'.len, st.len]
  cases p with
  | nil => exact (show False from q').elim
  | cons p1 p =>
    cases p with
    | nil => exact (show False from q').elim
    | cons p2 p =>
      cases p with
      | nil => exact (show False from q').elim
      | cons p3 p =>
        cases p with
        | cons _ _ => exact (show False from q').elim
        | nil =>
          obtain ⟨s1, e1⟩ := st'.storeD ev (by rw [ll]; exact li) p1
          obtain ⟨s2, e2⟩ := s1.storeD e1 (by rw [sets_length, ll]; exact lj) p2
          obtain ⟨s3, e3⟩ := s2.storeD e2 (by rw [sets_length, sets_length, ll]; exact lk) p3
          exact ⟨_, _, _, rfl, r.nx _ _ ⟨I', _, _, e3, s3, q'⟩⟩
/-- a, b = e1, e2 -/
theorem sq_par {i j : Nat} {u : TSs} {σ σ2 : SSt} {D : Es} {ES : XS} (d e : PyData) (he : ∀ Q : List PyData → SSt → Prop, Q [d, e] σ → tp σ Q ES) (hg : sets (sets σ i (some (.val d))) j (some (.val e)) = σ2) (h : u σ2 D ES) : sSeq (sPar i j tp) u σ D ES :=
  he _ (show u (sets (sets σ i (some (.val d))) j (some (.val e))) D ES by rw [hg]; exact h)
end
end SV
/-! Svk: instances of own classes whose fields are pure data. -/
namespace SV
open PySem PySem.Spec PyProof.Rows L2
def insF (ds : List (Str × PyData)) : List (Str × S) := ds.map fun p => (p.1, .val p.2)
def insD (C : Addr) (ds : List (Str × PyData)) : S := .ins C (insF ds)
def allVals : List (Str × S) → Option (List (Str × PyData))
  | [] => some []
  | (f, .val d) :: r => (allVals r).map ((f, d) :: ·)
  | _ :: _ => none
theorem allVals_of : ∀ {fs : List (Str × S)} {ds : List (Str × PyData)}, allVals fs = some ds → fs = insF ds
  | [], ds, h => by cases h; rfl
  | (f, .val d) :: r, ds, h => by
    have h : (allVals r).map ((f, d) :: ·) = some ds := h
    obtain ⟨es, e, rfl⟩ := Option.map_eq_some_iff.mp h
    rw [allVals_of e]
    rfl
  | (f, .lst _) :: r, ds, h => by cases h
  | (f, .dct _) :: r, ds, h => by cases h
  | (f, .ins _ _) :: r, ds, h => by cases h
  | (f, .scr _) :: r, ds, h => by cases h
  | (f, .adr _) :: r, ds, h => by cases h
  | (f, .exn _ _ _) :: r, ds, h => by cases h
  | (f, .tpl _) :: r, ds, h => by cases h
theorem allVals_insF : ∀ ds : List (Str × PyData), allVals (insF ds) = some ds
  | [] => rfl
  | (f, d) :: r => by
    show (allVals (insF r)).map ((f, d) :: ·) = _
    rw [allVals_insF r]
    rfl
section
variable {K : PySem.W.Frag} {I H : Hp}
theorem frs_inv : ∀ {ds : List (Str × PyData)} {vf : List (Str × V)} {R : List Addr}, FRs K I H vf (insF ds) R → R = [] ∧ vf.map (·.1) = ds.map (·.1) ∧ PRs K I (vf.map (·.2)) (ds.map (·.2))
  | [], vf, R, h => by
    cases h
    exact ⟨rfl, rfl, .nil⟩
  | (f, d) :: r, vf, R, h => by
    have h : FRs K I H vf ((f, .val d) :: insF r) R := h
    cases h with
    | cons h1 h2 _ =>
      obtain ⟨rfl, p⟩ := h1.val_inv
      obtain ⟨rfl, e, q⟩ := frs_inv h2
      refine ⟨rfl, ?_, .cons p q⟩
      rw [List.map_cons, List.map_cons, e]
theorem frs_of : ∀ {ds : List (Str × PyData)} {vf : List (Str × V)}, vf.map (·.1) = ds.map (·.1) → PRs K I (vf.map (·.2)) (ds.map (·.2)) → FRs K I H vf (insF ds) []
  | [], [], _, _ => .nil
  | [], _ :: _, e, _ => by cases e
  | _ :: _, [], e, _ => by cases e
  | (f, d) :: r, (g, v) :: t, e, p => by
    rw [List.map_cons, List.map_cons] at e
    injection e with e1 e2
    cases e1
    cases p with
    | cons p q => exact .cons (.val p) (frs_of e2 q) (fun _ m => absurd m (by simp))
/-- what stands at an instance -/
theorem SR.insD_inv {v : V} {C : Addr} {ds : List (Str × PyData)} {R : List Addr} (h : SR K I H v (.ins C (insF ds)) R) : ∃ a dx vf, v = .ref a ∧ R = [a, dx] ∧ H a = some (.ins C dx vf) ∧ H dx = some (.own a) ∧ a ≠ dx ∧ vf.map (·.1) = ds.map (·.1) ∧ PRs K I (vf.map (·.2)) (ds.map (·.2)) := by
  generalize e : S.ins C (insF ds) = r at h
  cases h with
  | ins h1 h2 f n1 n2 n3 =>
    cases e
    obtain ⟨rfl, e1, p⟩ := frs_inv f
    exact ⟨_, _, _, rfl, rfl, h1, h2, n3, e1, p⟩
  | _ => cases e
theorem SR.insD_of {a dx C : Addr} {vf : List (Str × V)} {ds : List (Str × PyData)} (h1 : H a = some (.ins C dx vf)) (h2 : H dx = some (.own a)) (n : a ≠ dx) (e : vf.map (·.1) = ds.map (·.1)) (p : PRs K I (vf.map (·.2)) (ds.map (·.2))) : SR K I H (.ref a) (.ins C (insF ds)) [a, dx] :=
  .ins h1 h2 (frs_of e p) (by simp) (by simp) n
theorem fld_rel {f : Str} {d : PyData} : ∀ {ds : List (Str × PyData)} {vf : List (Str × V)} {j : Nat}, vf.map (·.1) = ds.map (·.1) → PRs K I (vf.map (·.2)) (ds.map (·.2)) → (ds.map (·.1)).Nodup → ds[j]? = some (f, d) → ∃ v, vf.lookup f = some v ∧ PR K I v d
  | [], _, _, _, _, _, h => by simp at h
  | _ :: _, [], _, e, _, _, _ => by cases e
  | (g, x) :: r, (g2, v) :: t, j, e, p, nd, h => by
    rw [List.map_cons, List.map_cons] at e
    injection e with e1 e2
    cases e1
    cases p with
    | cons p q =>
      cases j with
      | zero =>
        cases h
        exact ⟨v, by simp [List.lookup], p⟩
      | succ j =>
        have h : r[j]? = some (f, d) := by simpa using h
        obtain ⟨w, e3, p3⟩ := fld_rel e2 q (List.nodup_cons.mp nd).2 h
        have hne : f ≠ g := fun z => (List.nodup_cons.mp nd).1 (z ▸ List.mem_map.mpr ⟨_, List.mem_of_getElem? h, rfl⟩)
        exact ⟨w, by rw [List.lookup_cons, beq_eq_false_iff_ne.mpr hne]; exact e3, p3⟩
theorem lookup_no {f : Str} : ∀ {vf : List (Str × V)}, f ∉ vf.map (·.1) → vf.lookup f = none
  | [], _ => rfl
  | (g, v) :: t, h => by
    rw [List.map_cons, List.mem_cons] at h
    rw [List.lookup_cons, beq_eq_false_iff_ne.mpr (fun z => h (.inl z))]
    exact lookup_no fun m => h (.inr m)
theorem putF_new {f : Str} {v : V} : ∀ {vf : List (Str × V)}, f ∉ vf.map (·.1) → putF f v vf = vf ++ [(f, v)]
  | [], _ => rfl
  | (g, x) :: t, h => by
    rw [List.map_cons, List.mem_cons] at h
    show (if g = f then (g, v) :: t else (g, x) :: putF f v t) = _
    rw [if_neg (fun z => h (.inl z.symm)), putF_new fun m => h (.inr m)]
    rfl
theorem putF_set {f : Str} {v : V} : ∀ {vf : List (Str × V)} {j : Nat}, (vf.map (·.1)).Nodup → (vf.map (·.1))[j]? = some f → putF f v vf = vf.set j (f, v)
  | [], j, _, h => by simp at h
  | (g, x) :: t, 0, _, h => by
    have h : g = f := by simpa using h
    show (if g = f then (g, v) :: t else (g, x) :: putF f v t) = _
    rw [if_pos h, h]
    rfl
  | (g, x) :: t, j + 1, nd, h => by
    have h : (t.map (·.1))[j]? = some f := by simpa using h
    have hne : g ≠ f := fun z => (List.nodup_cons.mp nd).1 (z ▸ List.mem_of_getElem? h)
    show (if g = f then (g, v) :: t else (g, x) :: putF f v t) = _
    rw [if_neg hne, putF_set (List.nodup_cons.mp nd).2 h]
    rfl
end
/-- an instance is written -/
theorem StR.mutIns {K : PySem.W.Frag} {ar : Nat → Option V} {I H : Hp} {σ : L2.St} {σs : SSt} {F : Nat → List Addr} (h : StR K ar I H σ σs F) {i : Nat} {a : Addr} {r r' : S} {o : HO} (q : gets σs i = some r) (nv : ∀ d, r ≠ .val d) (ev : σ[i]? = some (some (.ref a))) (ma : a ∈ F i) (sr : SR K I (upd H a o) (.ref a) r' (F i)) :
    StR K ar I (upd H a o) σ (sets σs i (some r')) F ∧ Evo I H (own F) I (upd H a o) (own F) := by
  have ia : I a = none := h.notI i a ma
  have out : ∀ b, (¬ b = a) → upd H a o b = H b := fun b n => upd_ne n
  refine ⟨⟨fun b x e => ?_, fun j r' q' => ?_, fun j q' => ?_, h.dis, h.notI, fun j w r' hj q' => ?_, by rw [sets_length]; exact h.len⟩, ⟨.refl I, fun b x e n => ?_, fun b m => .inl m, fun b x e => .inl e⟩⟩
  · have n : ¬ b = a := fun z => by rw [z, ia] at e; cases e
    rw [out b n]
    exact h.sub b x e
  · by_cases hj : j = i
    · subst hj
      rw [gets_sets_same (gets_some_lt q)] at q'
      cases q'
      exact ⟨_, ev, sr⟩
    · rw [gets_sets_ne hj] at q'
      obtain ⟨w, e2, r2⟩ := h.rep j r' q'
      refine ⟨w, e2, r2.keep (.refl I) fun b m x e => ?_⟩
      have n : ¬ b = a := fun z => by
        subst z
        exact hj (h.dis j i b m ma)
      rw [out b n]
      exact e
  · have hj : j ≠ i := fun e => by
      rw [e, gets_sets_same (gets_some_lt q)] at q'
      cases q'
    rw [gets_sets_ne hj] at q'
    exact h.non j q'
  · by_cases hji : j = i
    · subst hji
      rcases h.par j w _ hj q with ⟨d, e⟩ | e
      · exact absurd e (nv d)
      · exact .inr e
    · rw [gets_sets_ne hji] at q'
      exact h.par j w r' hj q'
  · have nb : ¬ b = a := fun z => n ⟨i, by rw [z]; exact ma⟩
    rw [out b nb]
    exact e

/-! ### fields -/
def onIns (σs : SSt) (i : Nat) (C : Addr) (keys : List Str) (k : List (Str × PyData) → Prop) : Prop := match gets σs i with
  | some (.ins C' fs) => nd (allVals fs) fun ds => (C' = C ∧ ds.map (·.1) = keys) ∧ k ds
  | _ => False
theorem onIns_inv {σs : SSt} {i : Nat} {C : Addr} {keys : List Str} {k : List (Str × PyData) → Prop} (h : onIns σs i C keys k) : ∃ ds, gets σs i = some (.ins C (insF ds)) ∧ ds.map (·.1) = keys ∧ k ds := by
  unfold onIns at h
  split at h
  · rename_i C' fs e
    obtain ⟨ds, e2, ⟨rfl, e3⟩, q⟩ := nd_some h
    rw [allVals_of e2] at e
    exact ⟨ds, e, e3, q⟩
  · exact h.elim
def sFldV (C : Addr) (i : Nat) (keys : List Str) (j : Nat) : TEs := fun σs Q _ => onIns σs i C keys fun ds => nd ds[j]? fun p => Q (.val p.2) σs
def sFldN (C : Addr) (i : Nat) (keys : List Str) (f : Str) (te : TEs) : TSs := fun σs D ES => te σs (fun r σ1 => nd r.toD fun d => onIns σ1 i C keys fun ds => D.nx (sets σ1 i (some (.ins C (insF (ds ++ [(f, d)])))))) ES
def sFldS (C : Addr) (i : Nat) (keys : List Str) (j : Nat) (f : Str) (te : TEs) : TSs := fun σs D ES => te σs (fun r σ1 => nd r.toD fun d => onIns σ1 i C keys fun ds => D.nx (sets σ1 i (some (.ins C (insF (ds.set j (f, d))))))) ES
section
variable {X : Cx} {ar : Nat → Option V} {C : Addr} {x f : Str} {e : Expr} {te : TEs} {b1 : Bool} {pos npos apos : Pos}
theorem je_fld (i : Nat) {keys : List Str} {j : Nat} (c : Cls X.K C) (n : NoAttr X.K C f) (hk : keys.Nodup ∧ keys[j]? = some f := by decide +kernel) (hN : X.N[i]? = some x := by rfl) (hv : Vis X.env.scope x := by first | exact Or.inl rfl | exact Or.inr (Or.inl rfl) | exact Or.inr (Or.inr rfl))
    (hd : (x == ("__debug__" : Str)) = false := by decide) (hcd : (x == ("__classdict__" : Str)) = false := by decide) (hb : attributeBase (.Name x npos) f X.env (eval (.Name x npos) X.env) = eval (.Name x npos) X.env := by rfl) : JE X ar true true (.Attribute (.Name x npos) f apos) (sFldV C i keys j) := by
  refine ⟨fun pins s σ I H F σs Q ES J st tx q => ?_⟩
  obtain ⟨ds, g, ek, q⟩ := onIns_inv q
  obtain ⟨⟨f', d⟩, ej, q⟩ := nd_some q
  obtain ⟨v, e1, sr⟩ := st.rep i _ g
  obtain ⟨a, dx, vf, rfl, _, ha, _, _, e2, p⟩ := sr.insD_inv
  have hk2 := hk.2
  rw [← ek, List.getElem?_map, ej] at hk2
  cases hk2
  obtain ⟨w, lw, pw⟩ := fld_rel e2 p (by rw [ek]; exact hk.1) ej
  refine attr_of hb (eval_name J hN hv e1 hd hcd fun u s1 J1 ru => ?_)
  obtain rfl : u = Value.ref a := ru
  exact getattr_ok J1 ha c n lw fun u' s2 J2 ru2 => RP.val J2 st pw ru2 q
theorem js_fldN (i : Nat) {keys : List Str} {pos' : Pos} (c : Cls X.K C) (n : NoAttr X.K C f) (he : JE X ar b1 true e te) (hk : f ∉ keys ∧ keys.length < 1000 := by decide +kernel) (hN : X.N[i]? = some x := by rfl) (hv : Vis X.env.scope x := by first | exact Or.inl rfl | exact Or.inr (Or.inl rfl) | exact Or.inr (Or.inr rfl))
    (hd : (x == ("__debug__" : Str)) = false := by decide) (hcd : (x == ("__classdict__" : Str)) = false := by decide) (hs : swapsWith e (some (.Attribute (.Name x npos) f pos')) pos.line X.env = pure false := by rfl) : JS X ar (.Assign [.Attribute (.Name x npos) f pos'] e pos) (sFldN C i keys f te) := by
  refine ⟨fun pins s σ H D J ⟨I, F, σs, Ds, ES, st, tx, q, r⟩ => ?_⟩
  refine plainObj_wpAny_Assign_Attribute (thn (he.run pins s σ I H F σs _ ES J st tx q) fun u s1 ⟨v, rr, R, I1, H1, F1, σ1, h1, rv, q1⟩ => ?_) hs
  obtain ⟨d, ed, q1⟩ := nd_some q1
  obtain ⟨hb, p⟩ := h1.freeze ed
  obtain ⟨ds, g, ek, q1⟩ := onIns_inv q1
  obtain ⟨w, e1, sr⟩ := hb.st.rep i _ g
  obtain ⟨a, dx, vf, rfl, eF, ha, hdx, nad, e2, pf⟩ := sr.insD_inv
  refine eval_name hb.inv hN hv e1 hd hcd fun ov s2 J2 ru => ?_
  obtain rfl : ov = Value.ref a := ru
  have lf : vf.length < 1000 := by
    have := congrArg List.length e2
    rw [ek, List.length_map] at this
    omega
  refine setattr_ok J2 ha c n lf rv fun s3 J3 => ?_
  have nf : f ∉ vf.map (·.1) := by rw [e2, ek]; exact hk.1
  rw [putF_new nf] at J3
  obtain ⟨st4, ev4⟩ := hb.st.mutIns (o := .ins C dx (vf ++ [(f, v)])) (r' := .ins C (insF (ds ++ [(f, d)]))) g (fun d e => by cases e) e1 (by rw [eF]; simp) (by
    rw [eF]
    refine SR.insD_of upd_same (by rw [upd_ne (Ne.symm nad)]; exact hdx) nad (by rw [List.map_append, List.map_append, e2]; rfl) ?_
    rw [List.map_append, List.map_append]
    exact pf.append (.cons p .nil))
  exact ⟨σ, _, J3, r.nx _ _ ⟨_, F1, _, hb.evo.trans ev4 (fun _ z => z) (fun _ z => .inr z), st4, q1⟩⟩
theorem js_fldS (i : Nat) {keys : List Str} {j : Nat} {pos' : Pos} (c : Cls X.K C) (n : NoAttr X.K C f) (he : JE X ar b1 true e te) (hk : keys.Nodup ∧ keys[j]? = some f ∧ keys.length < 1000 := by decide +kernel) (hN : X.N[i]? = some x := by rfl) (hv : Vis X.env.scope x := by first | exact Or.inl rfl | exact Or.inr (Or.inl rfl) | exact Or.inr (Or.inr rfl))
    (hd : (x == ("__debug__" : Str)) = false := by decide) (hcd : (x == ("__classdict__" : Str)) = false := by decide) (hs : swapsWith e (some (.Attribute (.Name x npos) f pos')) pos.line X.env = pure false := by rfl) : JS X ar (.Assign [.Attribute (.Name x npos) f pos'] e pos) (sFldS C i keys j f te) := by
  refine ⟨fun pins s σ H D J ⟨I, F, σs, Ds, ES, st, tx, q, r⟩ => ?_⟩
  refine plainObj_wpAny_Assign_Attribute (thn (he.run pins s σ I H F σs _ ES J st tx q) fun u s1 ⟨v, rr, R, I1, H1, F1, σ1, h1, rv, q1⟩ => ?_) hs
  obtain ⟨d, ed, q1⟩ := nd_some q1
  obtain ⟨hb, p⟩ := h1.freeze ed
  obtain ⟨ds, g, ek, q1⟩ := onIns_inv q1
  obtain ⟨w, e1, sr⟩ := hb.st.rep i _ g
  obtain ⟨a, dx, vf, rfl, eF, ha, hdx, nad, e2, pf⟩ := sr.insD_inv
  refine eval_name hb.inv hN hv e1 hd hcd fun ov s2 J2 ru => ?_
  obtain rfl : ov = Value.ref a := ru
  have lf : vf.length < 1000 := by
    have := congrArg List.length e2
    rw [ek, List.length_map] at this
    omega
  refine setattr_ok J2 ha c n lf rv fun s3 J3 => ?_
  rw [putF_set (j := j) (by rw [e2, ek]; exact hk.1) (by rw [e2, ek]; exact hk.2.1)] at J3
  obtain ⟨st4, ev4⟩ := hb.st.mutIns (o := .ins C dx (vf.set j (f, v))) (r' := .ins C (insF (ds.set j (f, d)))) g (fun d e => by cases e) e1 (by rw [eF]; simp) (by
    rw [eF]
    refine SR.insD_of upd_same (by rw [upd_ne (Ne.symm nad)]; exact hdx) nad (by rw [List.map_set, List.map_set, e2]) ?_
    rw [List.map_set, List.map_set]
    exact pf.set j p)
  exact ⟨σ, _, J3, r.nx _ _ ⟨_, F1, _, hb.evo.trans ev4 (fun _ z => z) (fun _ z => .inr z), st4, q1⟩⟩
end
end SV
/-! Svl: methods of own classes, instances made. -/
namespace SV
open PySem PySem.Spec PyProof.Rows L2
/-- o.m(args), o in slot i: the instance is lent -/
def sMeth (C : Addr) (i : Nat) (keys : List Str) (sp : Sps) (t : TCs) : TEs := fun σs Q ES => onIns σs i C keys fun _ => t σs (fun as σ1 => lentOk (.s i :: as) [] = true ∧ nd (argS σ1 (.s i :: as)) fun ss => sp ss (fun r ss' => Q r (back (.s i :: as) ss' σ1)) (fun cls ed => ES cls ed (lose (.s i :: as) σ1))) ES
section
variable {X : Cx} {ar : Nat → Option V} {f C : Addr} {fd : FuncData} {ps : List Str} {sp : Sps} {x m : Str} {pos npos apos : Pos} {e : Expr} {es : List Expr} {t : TCs} {pl : Sem Bool}
theorem je_imeth {Rm : Around → Prop} (i : Nat) {keys : List Str} (c : Cls X.K C) (hm : Meth X.K C m f) (G : FnR X.prog X.w X.K X.mg X.base Rm f fd ps sp) (hr : Rm X.A) (hgd : X.A.guards = some []) (hb : Binds X.K fd ps []) (ha : JC X ar (e :: es) t)
    (hk : m ∉ keys := by decide +kernel) (hN : X.N[i]? = some x := by rfl) (hv : Vis X.env.scope x := by first | exact Or.inl rfl | exact Or.inr (Or.inl rfl) | exact Or.inr (Or.inr rfl)) (hd : (x == ("__debug__" : Str)) = false := by decide) (hcd : (x == ("__classdict__" : Str)) = false := by decide)
    (hst : starEach (e :: es) X.env = (false, eval e X.env) :: starEach es X.env := by rfl) (hpl : (backTo pos (starEach es X.env)).any (·.1) = false := by rfl)
    (ht : eval (.Call (.Attribute (.Name x npos) m apos) (e :: es) [] pos) X.env = (do
      let ov ← eval (.Name x npos) X.env
      standAt apos.atName
      let (f, first) ← holding [ov] (getMethod ov m pl)
      callWith pos f first (backTo pos (starEach (e :: es) X.env)) (backToKw pos (keywordEach [] X.env))) := by rfl) :
    JE X ar false true (.Call (.Attribute (.Name x npos) m apos) (e :: es) [] pos) (sMeth C i keys sp t) := by
  refine ⟨fun pins s σ I H F σs Q ES J st tx q => ?_⟩
  obtain ⟨ds, g, ek, q⟩ := onIns_inv q
  obtain ⟨v, e1, sr⟩ := st.rep i _ g
  obtain ⟨a, dx, vf, rfl, _, ha', _, _, e2, p⟩ := sr.insD_inv
  refine PySem.W.methodCall_KW (pl := pl) (eval_name J hN hv e1 hd hcd fun u s1 J1 ru => ?_) ht
  obtain rfl : u = Value.ref a := ru
  refine getmeth_ok J1 ha' c hm (lookup_no (by rw [e2, ek]; exact hk)) ?_
  refine PySem.W.callWith_K (first := [.ref a]) (h₀ := X.base) J1.ok.mod.kin hm.kp (thn (ha.run pos pins s1 σ I H F σs _ ES J1 st tx q) fun us s2 ⟨vs, as, I2, H2, F2, σ2, d, rv, ca, hl, q2⟩ => ⟨d.inv.kIn, ?_⟩) hst hpl
  obtain ⟨ss, ea, q3⟩ := nd_some q2
  refine thn (run_fnS (us := .ref a :: us) (vs := .ref a :: vs) (as := .s i :: as) G hr hgd hb d.inv d.st (tx.then d) (.cons rfl rv) ⟨e1, ca⟩ hl ea q3) fun u s3 ⟨v, r, R, I3, H3, F3, σ3, d3, rr, q4⟩ => ?_
  exact ⟨v, r, R, I3, H3, F3, σ3, d.thenR d3, rr, q4⟩
theorem je_imeth0 {Rm : Around → Prop} (i : Nat) {keys : List Str} (c : Cls X.K C) (hm : Meth X.K C m f) (G : FnR X.prog X.w X.K X.mg X.base Rm f fd ps sp) (hr : Rm X.A) (hgd : X.A.guards = some []) (hb : Binds X.K fd ps [])
    (hk : m ∉ keys := by decide +kernel) (hN : X.N[i]? = some x := by rfl) (hv : Vis X.env.scope x := by first | exact Or.inl rfl | exact Or.inr (Or.inl rfl) | exact Or.inr (Or.inr rfl)) (hd : (x == ("__debug__" : Str)) = false := by decide) (hcd : (x == ("__classdict__" : Str)) = false := by decide)
    (ht : eval (.Call (.Attribute (.Name x npos) m apos) [] [] pos) X.env = (do
      let ov ← eval (.Name x npos) X.env
      standAt apos.atName
      let (f, first) ← holding [ov] (getMethod ov m pl)
      callWith pos f first (backTo pos (starEach [] X.env)) (backToKw pos (keywordEach [] X.env))) := by rfl) :
    JE X ar false true (.Call (.Attribute (.Name x npos) m apos) [] [] pos) (sMeth C i keys sp cNil) := by
  refine ⟨fun pins s σ I H F σs Q ES J st tx q => ?_⟩
  obtain ⟨ds, g, ek, q⟩ := onIns_inv q
  obtain ⟨v, e1, sr⟩ := st.rep i _ g
  obtain ⟨a, dx, vf, rfl, _, ha', _, _, e2, p⟩ := sr.insD_inv
  refine PySem.W.methodCall_KW (pl := pl) (eval_name J hN hv e1 hd hcd fun u s1 J1 ru => ?_) ht
  obtain rfl : u = Value.ref a := ru
  refine getmeth_ok J1 ha' c hm (lookup_no (by rw [e2, ek]; exact hk)) ?_
  obtain ⟨hl, q2⟩ := (show lentOk (.s i :: []) [] = true ∧ nd (argS σs (.s i :: [])) _ from q)
  obtain ⟨ss, ea, q3⟩ := nd_some q2
  exact PySem.W.callWith_K0 (first := [.ref a]) J1.kIn hm.kp (run_fnS (us := [.ref a]) (vs := [.ref a]) (as := [.s i]) G hr hgd hb J1 st tx (.cons rfl .nil) ⟨e1, trivial⟩ hl ea q3)
end

/-! ### an instance is made -/
def sMake (C : Addr) (sp : Sps) (tp : TPs) : TEs := fun σs Q ES => tp σs (fun es σ1 => sp (.ins C [] :: es.map .val) (fun r ss => r = .val .none ∧ nd (gets ss 0) fun r0 => Q r0 σ1) (fun cls ed => ES cls ed σ1)) ES
section
variable {X : Cx} {ar : Nat → Option V} {k : Nat} {f C : Addr} {fd : FuncData} {ps : List Str} {sp : Sps} {x : Str} {p pos : Pos} {e : Expr} {es : List Expr} {tp : TPs} {b1 : Bool}
variable {pins : List (Addr × Obj)} {σ : L2.St} {I0 H0 I H : Hp} {F0 F : Nat → List Addr} {σ0 σs : SSt} {s : Shared}
theorem run_mk (M : Mk X.K C f) (G : FnG X.prog X.w X.K X.mg X.base k f fd ps sp) (hr : Room (k + 1) X.A) (hg : X.A.guards = some []) (hb : Binds X.K fd ps []) {us : List Value} {vs : List V} {es : List PyData} {Q : KS} {ES : XS}
    (d0 : BPd X ar pins σ b1 I0 H0 F0 σ0 I H F σs s) (tx : TX X ar I0 H0 (own F0) ES) (rv : Vals vs us) (pv : PRs X.K I vs es)
    (q : sp (.ins C [] :: es.map .val) (fun r ss => r = .val .none ∧ nd (gets ss 0) fun r0 => Q r0 σs) (fun cls ed => ES cls ed σs)) : wpAny (model X.prog X.w) X.A (call (.ref C) us) (RP X ar pins σ false true I0 H0 F0 σ0 Q) X.xe s := by
  have J := d0.inv
  have st := d0.st
  have na : H (s.heap.objs.size + 1) = none := J.hok.fresh (Nat.le_succ _)
  have nx : H s.heap.objs.size = none := J.hok.fresh (Nat.le_refl _)
  have ne : (s.heap.objs.size + 1) ≠ s.heap.objs.size := by omega
  have J2 := Inv.made (C := C) J
  generalize hH2 : upd (upd H s.heap.objs.size (.own (s.heap.objs.size + 1))) (s.heap.objs.size + 1) (.ins C s.heap.objs.size []) = H2 at J2
  have h2a : H2 (s.heap.objs.size + 1) = some (.ins C s.heap.objs.size []) := by rw [← hH2]; exact upd_same
  have h2x : H2 s.heap.objs.size = some (.own (s.heap.objs.size + 1)) := by rw [← hH2, upd_ne (Ne.symm ne)]; exact upd_same
  have h2o : ∀ b y, H b = some y → H2 b = some y := fun b y e => by
    rw [← hH2, upd_ne (fun z => by rw [z, na] at e; cases e), upd_ne (fun z => by rw [z, nx] at e; cases e)]
    exact e
  have h2n : ∀ b, H2 b = none → H b = none := fun b e => by
    cases z : H b with
    | none => rfl
    | some y => rw [h2o b y z] at e; cases e
  have i2a : I (s.heap.objs.size + 1) = none := sub_none st.sub na
  have i2x : I s.heap.objs.size = none := sub_none st.sub nx
  -- the caller, beside the new instance
  have ev0 : Evo I H (own F) I H2 (own F) := ⟨.refl I, fun b y e _ => h2o b y e, fun b m => .inl m, fun b y e => .inl e⟩
  have st2 : StR X.K ar I H2 σ σs F := st.keep (fun b y e => h2o b y (st.sub b y e)) (.refl I) (fun b m y e => h2o b y e) (fun b m => st.ownI m)
  have nR : ∀ {b}, own F b → b ∉ [(s.heap.objs.size + 1), s.heap.objs.size] := fun {b} m z => by
    obtain ⟨y, e⟩ := st.there m
    rcases List.mem_cons.mp z with z | z
    · subst z
      rw [na] at e; cases e
    · rw [List.mem_singleton] at z
      subst z
      rw [nx] at e
      cases e
  have fc : ∀ {b}, own (fun k => if k = 0 then [(s.heap.objs.size + 1), s.heap.objs.size] else []) b → b ∈ [(s.heap.objs.size + 1), s.heap.objs.size] := fun {b} ⟨k, m⟩ => by
    dsimp only at m
    split at m
    · exact m
    · cases m
  have st0 : StR X.K (arV (.ref (s.heap.objs.size + 1) :: vs)) I H2 ((.ref (s.heap.objs.size + 1) :: vs).map some) ((S.ins C [] :: es.map .val).map some) (fun k => if k = 0 then [(s.heap.objs.size + 1), s.heap.objs.size] else []) := by
    refine ⟨st2.sub, fun j r h => ?_, fun j h => ?_, fun i j b m m' => ?_, fun j b m => ?_, fun j v r h1 h2 => ?_, by simp [pv.length]⟩
    · rw [gets_map] at h
      cases j with
      | zero =>
        cases (Option.some.inj h)
        exact ⟨_, rfl, SR.insD_of (ds := []) (vf := []) h2a h2x ne rfl .nil⟩
      | succ j =>
        have h' : (es.map S.val)[j]? = some r := by simpa using h
        rw [List.getElem?_map] at h'
        obtain ⟨d, e1, rfl⟩ := Option.map_eq_some_iff.mp h'
        obtain ⟨v, e2, p2⟩ := pv.get e1
        exact ⟨v, by simpa using e2, .val p2⟩
    · cases j with
      | zero => cases h
      | succ j => rfl
    · try dsimp only at m m'
      split at m
      · split at m'
        · omega
        · cases m'
      · cases m
    · rcases List.mem_cons.mp (fc ⟨j, m⟩) with rfl | z
      · exact i2a
      · rw [List.mem_singleton] at z
        subst z
        exact i2x
    · exact .inr (by rw [List.getElem?_map, show (V.ref (s.heap.objs.size + 1) :: vs)[j]? = some v from h1]; rfl)
  have rv2 : Vals (V.ref (s.heap.objs.size + 1) :: vs) (Value.ref (s.heap.objs.size + 1) :: us) := .cons rfl rv
  have lps : (Value.ref (s.heap.objs.size + 1) :: us).length = ps.length := by rw [← rv2.length, ← G.len _ _ _ q]; simp [pv.length]
  have bt := hb _ (Value.ref (s.heap.objs.size + 1) :: us) J2.kIn (by rw [List.append_nil]; exact lps)
  rw [List.append_nil] at bt
  have keepS : ∀ {I' H' : Hp} {o : Addr → Prop}, Evo I H2 (own fun k => if k = 0 then [(s.heap.objs.size + 1), s.heap.objs.size] else []) I' H' o → Sub I' H' → StR X.K ar I' H' σ σs F := fun {I' H' o} ev sb => by
    refine st2.keep sb ev.up (fun b m x h => ev.fr b x h fun z => nR m (fc z)) fun b m => ?_
    cases e : I' b with
    | none => rfl
    | some y =>
      rcases ev.ni b y e with e | e | e
      · rw [st.ownI m] at e; cases e
      · exact absurd (fc e) (nR m)
      · obtain ⟨z, e2⟩ := st2.there m
        rw [e] at e2
        cases e2
  -- seen from the caller
  have back : ∀ {I' H' : Hp} {o : Addr → Prop}, Evo I H2 (own fun k => if k = 0 then [(s.heap.objs.size + 1), s.heap.objs.size] else []) I' H' o → Evo I0 H0 (own F0) I' H' o := fun {I' H' o} ev => by
    refine ⟨d0.evo.up.trans ev.up, fun b y e n => ?_, fun b m => ?_, fun b y e => ?_⟩
    · have h1 := d0.evo.fr b y e n
      refine ev.fr b y (h2o b y h1) fun z => ?_
      rcases List.mem_cons.mp (fc z) with rfl | z
      · rw [na] at h1; cases h1
      · rw [List.mem_singleton] at z
        subst z
        rw [nx] at h1
        cases h1
    · rcases ev.nw b m with z | z
      · refine d0.evo.back ?_
        rcases List.mem_cons.mp (fc z) with rfl | z
        · exact na
        · rw [List.mem_singleton] at z
          subst z
          exact nx
      · exact d0.evo.back (h2n b z)
    · rcases ev.ni b y e with z | z | z
      · exact d0.evo.ni b y z
      · refine .inr (d0.evo.back ?_)
        rcases List.mem_cons.mp (fc z) with rfl | z
        · exact na
        · rw [List.mem_singleton] at z
          subst z
          exact nx
      · exact .inr (d0.evo.back (h2n b z))
  have hgu : (X.A.under (.builtin "type.__call__" ⟨.ref C :: us, []⟩)).guards = some [] := hg
  refine wpAny_call (make_map (f := f) J.kIn M.makes M.init (beq_iff_eq.mp M.fn) (codeAny_mono (G.run _ X.stack _ H2 I _ ⟨Value.ref (s.heap.objs.size + 1) :: us, []⟩ (Value.ref (s.heap.objs.size + 1) :: us) (.ref (s.heap.objs.size + 1) :: vs) (.ins C [] :: es.map .val) _ _ (hr.make C us []) hgu
    (J2.env0.make C us []) bt rv2 st0 q) fun r s' hq => ?_))
  cases r with
  | error e =>
    obtain ⟨W, tk, hW⟩ := tx
    refine tk e s' (XE.of_call J2 (E := EQ X.K I H2 (fun k => if k = 0 then [(s.heap.objs.size + 1), s.heap.objs.size] else []) _) (fun cls d H' hE => ?_) hq)
    obtain ⟨I', ed, ev, sb', hed, he⟩ := hE
    have ev2 := back ev
    refine hW cls d σ I' H' F σs ed ⟨ev2.up, ev2.fr, fun b m => ?_, ev2.ni⟩ (keepS ev sb') hed he
    exact d0.evo.nw b m
  | ok fl =>
    cases fl with
    | ret u =>
      obtain ⟨v, H', J', rr, r, R2, I', F', ss', ev, st', sr, nf, nI, ev0', q'⟩ := J2.after (show CE X.stack X.prog X.w H2 _ _ u s' from hq)
      subst ev0'
      obtain ⟨r0, g0, q'⟩ := nd_some q'
      obtain ⟨w, e1, sr0⟩ := st'.rep 0 r0 g0
      have e1 : some (some (V.ref (s.heap.objs.size + 1))) = some (some w) := e1
      cases e1
      obtain ⟨_, pn⟩ := sr.val_inv
      have eu : u = .none := by
        cases pn
        exact rr
      have ev2 := back ev
      refine ⟨eu, ⟨V.ref (s.heap.objs.size + 1), r0, F' 0, I', H', F, σs, ⟨J', ⟨ev2.up, ev2.fr, fun b m => ?_, ev2.ni⟩, keepS ev st'.sub, sr0, fun _ b m z => ?_, fun b m => st'.notI 0 b m, fun z => Bool.noConfusion z⟩, rfl, q'⟩⟩
      · rcases m with m | m
        · exact ev2.nw b (.inr ⟨0, m⟩)
        · exact d0.evo.nw b m
      · rcases ev.nw b (.inr ⟨0, m⟩) with y | y
        · exact nR z (fc y)
        · obtain ⟨y', e2⟩ := st.there z
          rw [h2n b y] at e2
          cases e2
    | next => exact False.elim hq
    | brk => exact False.elim hq
    | cont => exact False.elim hq
theorem je_make (M : Mk X.K C f) (G : FnG X.prog X.w X.K X.mg X.base k f fd ps sp) (hr : Room (k + 1) X.A) (hgd : X.A.guards = some []) (hg : Gl X x) (hm : X.mg x = some (.ref C)) (hb : Binds X.K fd ps []) (ha : JA X ar b1 (e :: es) tp)
    (hdb : (x == ("__debug__" : Str)) = false := by decide) (he : starEach (e :: es) X.env = (false, eval e X.env) :: starEach es X.env := by rfl) (hpl : (backTo pos (starEach es X.env)).any (·.1) = false := by rfl) :
    JE X ar false true (.Call (.Name x p) (e :: es) [] pos) (sMake C sp tp) := by
  refine ⟨fun pins s σ I H F σs Q ES J st tx q => ?_⟩
  refine wpAny_Call_Name_kw (ld_glob J hg hm ?_ hdb)
  refine PySem.W.callWith_K (h₀ := X.base) J.ok.mod.kin M.kp (thn (ha.run pos pins s σ I H F σs _ ES J st tx q) fun us s1 ⟨vs, es', I1, H1, F1, σ1, d, rv, pv, q2⟩ => ⟨d.inv.kIn, ?_⟩) he hpl
  exact run_mk M G hr hgd hb d tx rv pv q2
theorem je_make0 (M : Mk X.K C f) (G : FnG X.prog X.w X.K X.mg X.base k f fd ps sp) (hr : Room (k + 1) X.A) (hgd : X.A.guards = some []) (hg : Gl X x) (hm : X.mg x = some (.ref C)) (hb : Binds X.K fd ps [])
    (hdb : (x == ("__debug__" : Str)) = false := by decide) : JE X ar false true (.Call (.Name x p) [] [] pos) (sMake C sp pNil) := by
  refine ⟨fun pins s σ I H F σs Q ES J st tx q => ?_⟩
  refine wpAny_Call_Name_kw (ld_glob J hg hm ?_ hdb)
  exact PySem.W.callWith_K0 J.kIn M.kp (run_mk (us := []) (vs := []) (es := []) M G hr hgd hb (BPd.refl (b := false) J st) tx .nil .nil q)
end
end SV
/-! Svm: x += e, o.f += e. -/
namespace SV
open PySem PySem.Spec PyProof.Rows L2
theorem noI_tuple_add : typeLookup (.type "tuple") (dunderI "add") = pure none := by rw [typeLookup_type, builtinLookup_eq_fast]; kernel_rfl
theorem icat_tup {prog : Program} {w : World} {A : Around} {E : Value → Shared → Prop} {s : Shared} {t b : Addr} {vs ws : List Value} {Q : Value → Shared → Prop} (ht : IsTup s.heap t vs.toArray) (hb : IsTup s.heap b ws.toArray) (hv : vs ≠ []) (hw : ws ≠ [])
    (h2 : Q (.ref s.heap.objs.size) { s with heap := s.heap.push { cls := .type "tuple", data := .seq (vs ++ ws).toArray } })
    (hsz : vs.length + ws.length ≤ sizeLine) : wpAny (model prog w) A (inplaceOp .Add (.ref t) (.ref b)) Q E s := by
  obtain ⟨⟨cls, dd, data, sl⟩, ho, hc, n, hd⟩ := id ht
  obtain ⟨⟨cls2, dd2, data2, sl2⟩, ho2, hc2, n2, hd2⟩ := id hb
  simp only at hc hd hc2 hd2
  subst hc hd hc2 hd2
  have e : vs.toArray ++ ws.toArray = (vs ++ ws).toArray := by simp
  refine wpAny_inplaceOp_concat ⟨_, ho, rfl⟩ ⟨_, ho2, rfl⟩ noI_tuple_add noFill_tuple_add seq_tuple_add (call_meets PySem.F.slot_tuple_add ⟨_, ho, rfl⟩ PySem.F.entry_tuple_add (PySem.F.args_tuple_add_2 _ _)
    (tuple_addW2 t b vs.toArray ws.toArray n n2 dd dd2 sl sl2 (by simpa using hv) (by simpa using hw) (by simpa using hsz)) ?_)
  exact ⟨ho, ho2, by rw [e]; exact h2⟩
def IOp (X : Cx) (op : Operator) (r : R2s) : Prop := Op2 X (inplaceOp op) r
def rIadd : R2s
  | .int i, .int j, Q => Q (.val (.int (i + j)))
  | .str x, .str y, Q => x.length + y.length ≤ sizeLine ∧ Q (.val (.str (x ++ y)))
  | .tuple (x :: xs), .tuple (y :: ys), Q => (x :: xs).length + (y :: ys).length ≤ sizeLine ∧ Q (.val (.tuple (x :: xs ++ y :: ys)))
  | _, _, _ => False
def rIsub : R2s
  | .int i, .int j, Q => Q (.val (.int (i - j)))
  | _, _, _ => False
theorem i_add {X : Cx} : IOp X .Add rIadd := by
  intro pins s σ H I x y v u d e Q J sb rx ry px py q
  cases px with
  | int i =>
    cases py with
    | int j => exact in_add pins s σ H _ _ v u _ J rx ry ⟨i, j, rfl, rfl, .val sb (.int _) q⟩
    | _ => exact q.elim
  | str a ha za =>
    cases py with
    | str b hb zb =>
      obtain ⟨hz, q⟩ := q
      obtain ⟨t, rfl⟩ := (show ∃ t, v = Value.str a t from rx)
      obtain ⟨t', rfl⟩ := (show ∃ t', u = Value.str b t' from ry)
      exact PyProof.Rows.iadd_str (fun t' tk => ⟨.str (a ++ b), H, J.tok _, ⟨_, rfl⟩, .val sb (.str _ (strOk_append ha hb) (by rw [str_append_length]; exact hz)) q⟩) hz
    | _ => exact q.elim
  | tup h p =>
    rename_i ds
    cases py with
    | tup h' p' =>
      rename_i es
      cases ds with
      | nil => exact q.elim
      | cons d ds =>
        cases es with
        | nil => exact q.elim
        | cons e es =>
          obtain ⟨hz, q⟩ := q
          cases rx
          cases ry
          obtain ⟨its, r1, p1, _⟩ := J.tuple (SqT.sub sb h)
          obtain ⟨its2, r2, p2, _⟩ := J.tuple (SqT.sub sb h')
          have l1 := p.length
          have l2 := p'.length
          refine icat_tup p1 p2 (fun z => ?_) (fun z => ?_) ?_ (by rw [← r1.length, ← r2.length, l1, l2]; exact hz)
          · rw [r1.nil_iff.mp z] at l1
            cases l1
          · rw [r2.nil_iff.mp z] at l2
            cases l2
          · refine ⟨.ref s.heap.objs.size, _, J.laid (t' := s.toks) (o := .tup _) (fun b ob q => Heap.get?_push_of_some _ q) (Nat.le_refl _) ?_, rfl, .newTup sb (J.hok.fresh (Nat.le_refl _)) (p.append p') q⟩
            exact ⟨by rw [List.length_append, l1, l2]; exact hz, _, r1.append r2, IsTup.new _ _⟩
    | _ => cases ds <;> exact q.elim
  | _ => exact q.elim
theorem i_sub {X : Cx} : IOp X .Sub rIsub := by
  intro pins s σ H I x y v u d e Q J sb rx ry px py q
  cases px with
  | int i =>
    cases py with
    | int j => exact in_sub pins s σ H _ _ v u _ J rx ry ⟨i, j, rfl, rfl, .val sb (.int _) q⟩
    | _ => exact q.elim
  | _ => exact q.elim
/-- x op= e -/
def sAug (i : Nat) (r : R2s) (te : TEs) : TSs := fun σs D ES => match gets σs i with
  | some (.val d0) => te σs (fun x σ1 => nd x.toD fun d => r d0 d fun z => nd z.toD fun dz => z = .val dz ∧ D.nx (sets σ1 i (some (.val dz)))) ES
  | _ => False
/-- o.f op= e -/
def sFldA (C : Addr) (i : Nat) (keys : List Str) (j : Nat) (f : Str) (r : R2s) (te : TEs) : TSs := fun σs D ES => onIns σs i C keys fun ds0 => nd ds0[j]? fun p0 => te σs (fun x σ1 => nd x.toD fun d => r p0.2 d fun z => nd z.toD fun dz => z = .val dz ∧ onIns σ1 i C keys fun ds => D.nx (sets σ1 i (some (.ins C (insF (ds.set j (f, dz))))))) ES
section
variable {X : Cx} {ar : Nat → Option V} {C : Addr} {x f : Str} {e : Expr} {te : TEs} {b1 : Bool} {pos pos' npos tpos : Pos} {op : Operator} {r : R2s}
theorem js_aug {i : Nat} (ho : IOp X op r) (he : JE X ar b1 true e te) (hN : X.N.Nodup) (hi : X.N[i]? = some x) (hx : Loc X.env.scope x) (hf : X.fn x = true ∨ X.env.scope.names.lookup x = some .local := by first | exact .inl rfl | exact .inr rfl | assumption) : JS X ar (.AugAssign (.Name x pos') op e pos) (sAug i r te) := by
  refine ⟨fun pins s σ H D J ⟨I, F, σs, Ds, ES, st, tx, q, rc⟩ => ?_⟩
  have hl : i < σs.length := by rw [st.len, J.len]; exact (List.getElem?_eq_some_iff.mp hi).1
  unfold sAug at q
  cases g : gets σs i with
  | none => rw [g] at q; exact q.elim
  | some r0 =>
    rw [g] at q
    cases r0 with
    | val d0 =>
      obtain ⟨v, e1, sr⟩ := st.rep i _ g
      obtain ⟨_, pd0⟩ := sr.val_inv
      obtain ⟨m, hn, hl2⟩ := J.loc
      have vis : Vis X.env.scope x := by rcases hx with k | k; exact .inl k; exact .inr (.inl k)
      obtain ⟨u, ru, l⟩ := hl2 i x v hi e1 vis
      refine wpAny_AugAssign_Name ?_
      have go : wpAny (model X.prog X.w) X.A (eval e X.env) (fun w s₂ => wpAny (model X.prog X.w) X.A (inplaceOp op u w) (fun r s₃ => wpAny (model X.prog X.w) X.A (storeName X.env x r) (fun _ => SP X pins D .next) X.xe s₃) X.xe s₂) X.xe s := by
        refine thn (he.run pins s σ I H F σs _ ES J st tx q) fun w s1 ⟨y, ry, R1, I1, H1, F1, σ1, h1, rw1, q1⟩ => ?_
        obtain ⟨d, ed, q1⟩ := nd_some q1
        obtain ⟨hb, p⟩ := h1.freeze ed
        refine thn (ho pins s1 σ H1 _ v y u w d0 d _ hb.inv hb.st.sub ru rw1 ((pd0.sub hb.evo.up).ar hb.st.sub) (p.ar hb.st.sub) q1) fun z s2 h2 => ?_
        obtain ⟨vz, rz, R2, I2, H2, F2, σ2, d2, rv2, q2⟩ := RP.of_vp (Q := fun z σ' => nd z.toD fun dz => z = .val dz ∧ Ds.nx (sets σ1 i (some (.val dz))) ∧ σ' = σ1) (BPd.refl (b := true) hb.inv hb.st) (by
          obtain ⟨vz, H3, J3, rz3, r3, R3, I3, d3, q3⟩ := h2
          obtain ⟨dz, ez, e3, q3⟩ := nd_some q3
          exact ⟨vz, H3, J3, rz3, r3, R3, I3, d3, by show nd r3.toD _; rw [ez]; exact ⟨e3, q3, rfl⟩⟩)
        obtain ⟨dz, ez, e3, q3, e4⟩ := nd_some q2
        subst e3 e4
        obtain ⟨eR, pz⟩ := d2.sr.val_inv
        obtain ⟨st5, ev5⟩ := d2.base.st.storeD (hb.then d2.base).evo (i := i) (by rw [d2.st.len, ← st.len]; exact hl) pz
        exact store_ok d2.inv hN hi hx rv2 (fun s3 J3 => ⟨_, H2, J3, rc.nx _ _ ⟨_, _, _, ev5, st5, q3⟩⟩) hf
      rcases l with ⟨hk, hm⟩ | ⟨hk, c, hc, hcell⟩
      · exact wpAny_loadName_local J.ok.kind hk hn hm go
      · rcases hk with hk | hk
        · exact wpAny_loadName_cell J.ok.kind hk hc hcell go
        · rcases hx with k | k
          · have : X.env.scope.names.lookup x = some .free := hk
            rw [k] at this; cases this
          · have : X.env.scope.names.lookup x = some .free := hk
            rw [k] at this; cases this
    | _ => exact q.elim
theorem js_fldA (i : Nat) {keys : List Str} {j : Nat} (c : Cls X.K C) (n : NoAttr X.K C f) (ho : IOp X op r) (he : JE X ar b1 true e te) (hk : keys.Nodup ∧ keys[j]? = some f ∧ keys.length < 1000 := by decide +kernel) (hN : X.N[i]? = some x := by rfl) (hv : Vis X.env.scope x := by first | exact Or.inl rfl | exact Or.inr (Or.inl rfl) | exact Or.inr (Or.inr rfl))
    (hd : (x == ("__debug__" : Str)) = false := by decide) (hcd : (x == ("__classdict__" : Str)) = false := by decide) : JS X ar (.AugAssign (.Attribute (.Name x npos) f tpos) op e pos) (sFldA C i keys j f r te) := by
  refine ⟨fun pins s σ H D J ⟨I, F, σs, Ds, ES, st, tx, q, rc⟩ => ?_⟩
  obtain ⟨ds0, g0, ek0, q⟩ := onIns_inv q
  obtain ⟨⟨f', d0⟩, ej, q⟩ := nd_some q
  obtain ⟨v0, e1, sr0⟩ := st.rep i _ g0
  obtain ⟨a, dx, vf, rfl, eF0, ha, hdx, nad, e2, pf⟩ := sr0.insD_inv
  have hk2 := hk.2.1
  rw [← ek0, List.getElem?_map, ej] at hk2
  have ef : f' = f := Option.some.inj hk2
  rw [ef] at ej
  obtain ⟨w0, lw, pw⟩ := fld_rel e2 pf (by rw [ek0]; exact hk.1) ej
  refine wpAny_AugAssign_AttributeAny (eval_name J hN hv e1 hd hcd fun ov s1 J1 ru => ?_)
  obtain rfl : ov = Value.ref a := ru
  refine getattr_ok J1 ha c n lw fun u s2 J2 ru2 => ?_
  refine thn (he.run pins s2 σ I H F σs _ ES J2 st tx q) fun w s3 ⟨y, ry, R1, I1, H1, F1, σ1, h1, rw1, q1⟩ => ?_
  obtain ⟨d, ed, q1⟩ := nd_some q1
  obtain ⟨hb, p⟩ := h1.freeze ed
  refine thn (ho pins s3 σ H1 _ w0 y u w d0 d _ hb.inv hb.st.sub ru2 rw1 ((pw.sub hb.evo.up).ar hb.st.sub) (p.ar hb.st.sub) q1) fun z s4 h2 => ?_
  obtain ⟨vz, rz, R2, I2, H2, F2, σ2, d2, rv2, q2⟩ := RP.of_vp (Q := fun z σ' => nd z.toD fun dz => (z = .val dz ∧ onIns σ1 i C keys fun ds => Ds.nx (sets σ1 i (some (.ins C (insF (ds.set j (f, dz))))))) ∧ σ' = σ1) (BPd.refl (b := true) hb.inv hb.st) (by
    obtain ⟨vz, H3, J3, rz3, r3, R3, I3, d3, q3⟩ := h2
    obtain ⟨dz, ez, q3⟩ := nd_some q3
    exact ⟨vz, H3, J3, rz3, r3, R3, I3, d3, by show nd r3.toD _; rw [ez]; exact ⟨q3, rfl⟩⟩)
  obtain ⟨dz, ez, ⟨e3, q3⟩, e4⟩ := nd_some q2
  subst e3 e4
  obtain ⟨eR, pz⟩ := d2.sr.val_inv
  obtain ⟨ds, g, ek, q3⟩ := onIns_inv q3
  obtain ⟨w, e1', sr⟩ := d2.st.rep i _ g
  rw [e1] at e1'
  cases e1'
  obtain ⟨a', dx', vf', ea', eF, ha', hdx', nad', e2', pf'⟩ := sr.insD_inv
  cases ea'
  have lf : vf'.length < 1000 := by
    have := congrArg List.length e2'
    rw [ek, List.length_map] at this
    omega
  refine setattr_ok d2.inv ha' c n lf rv2 fun s5 J5 => ?_
  rw [putF_set (j := j) (by rw [e2', ek]; exact hk.1) (by rw [e2', ek]; exact hk.2.1)] at J5
  obtain ⟨st4, ev4⟩ := d2.st.mutIns (o := .ins C dx' (vf'.set j (f, vz))) (r' := .ins C (insF (ds.set j (f, dz)))) g (fun d e => by cases e) e1 (by rw [eF]; simp) (by
    rw [eF]
    refine SR.insD_of upd_same (by rw [upd_ne (Ne.symm nad')]; exact hdx') nad' (by rw [List.map_set, List.map_set, e2']) ?_
    rw [List.map_set, List.map_set]
    exact pf'.set j pz)
  exact ⟨σ, _, J5, rc.nx _ _ ⟨_, F2, _, (hb.then d2.base).evo.trans ev4 (fun _ z => z) (fun _ z => .inr z), st4, q3⟩⟩
end
/-- the state told anew -/
theorem st_go {t u : TSs} {σ : SSt} (σ2 : SSt) {D : Es} {ES : XS} (e : σ = σ2) (h : sSeq t u σ2 D ES) : sSeq t u σ D ES := e ▸ h
end SV
/-! Svn: list comprehensions that an exception may leave. -/
namespace SV
open PySem PySem.Spec PyProof.Rows L2

/-- what stands behind a block: C its names' dict, fr the def's frame -/
def PostX (M : Model) (A : Around) (E : Value → Shared → Prop) (Q : Value → Shared → Prop) (acc : Value) (C : Addr) (fr : Option Addr) (r : Result) (s' : Shared) : Prop :=
  match r with
  | .ok _ => ∃ m, s'.heap.Ns C m ∧ ∀ h', Heap.SameBut C s'.heap h' → Q acc { s' with heap := h' }
  | .error x => ∃ m, s'.heap.Ns C m ∧ ∀ h', Heap.SameBut C s'.heap h' → ∀ cenv : Env, cenv.locals = C → cenv.frame = fr → wpAny M A (PySem.passOn "comprehension.variables-let-go" x cenv : Sem Value) (fun _ _ => False) E { s' with heap := h' }
theorem wp_compX {M : Model} {A : Around} {E : Value → Shared → Prop} {s : Shared} {env : Env} {e : Expr} {scope : Scope} {pos : Pos} {newAcc first : Sem Value} {g : Comprehension} {gs : List Comprehension} {cl : List (Str × Addr)} {Q : Value → Shared → Prop}
    (hcl : clausesOf e = g :: gs) (hs : ∀ x, foldedSetIterable g.iter env x = pure x) (hclos : closureFor scope env = pure cl) (hkind : scope.kind = .function) (hnames : ∀ x ∈ scope.names, x.2 = .local → scope.names.lookup x.1 = some .local)
    (h : wpAny M A first (fun x s1 => wpAny M A (pyIter x) (fun it s2 => wpAny M A newAcc (fun acc s3 => wpAny M A (newFunctionEnv scope env.globals cl [] env.qual none .none (some env)) (fun cenv s4 =>
      codeAny M A (.compStart e 0 it acc { cenv with scope := relabel scope env }) (PostX M A E Q acc cenv.locals cenv.frame) s4) E s3) E s2) E s1) E s) :
    wpAny M A (comprehension e scope env pos newAcc false first none) Q E s := by
  have up : ∀ {α : Type} {t : Sem α} {Q1 Q2 : α → Shared → Prop} {s : Shared}, wpAny M A t Q1 E s → (∀ a s, Q1 a s → Q2 a s) → wpAny M A t Q2 E s := fun h k => wpAny_mono h k fun _ _ z => z
  unfold comprehension
  rw [hclos, hcl]
  refine wpAny_bind (up h fun x s1 h1 => wpAny_bind (wpAny_standAt (wpAny_bind (wpAny_of_eq (hs x) (wpAny_bind (wpAny_holding (up h1 fun it s2 h2 => wpAny_standIf (wpAny_bind (up h2 fun acc s3 h3 => wpAny_bind (wpAny_pure (wpAny_bind (up h3 fun cenv s4 h4 => ?_))))))))))))
  dsimp only
  have hv : ∀ x ∈ (scope.names.filter fun x => (x.2 == .local || x.2 == .cell) && x.1 != (".0" : Str)).reverse, x.2 = .local → Env.kindOf { cenv with scope := relabel scope env } x.1 = some .local := fun x hx hl =>
    lookup_relabel_local (hnames x (List.mem_filter.mp (List.mem_reverse.mp hx)).1 hl)
  refine wpAny_holding (wpAny_bind (wpAny_attempt (wpAny_holding (wpAny_run (codeAny_mono h4 fun r s' hr => ?_)))))
  cases r with
  | ok f =>
    obtain ⟨m, hn, hr⟩ := hr
    exact wpAny_bind (wpAny_holding (wpAny_comp_letGo (cenv := { cenv with scope := relabel scope env }) hkind _ s' m hv hn fun h' m' _ hs' => wpAny_pure (hr h' hs')))
  | error x =>
    obtain ⟨m, hn, hr⟩ := hr
    exact wpAny_bind (wpAny_holding (wpAny_comp_letGo (cenv := { cenv with scope := relabel scope env }) hkind _ s' m hv hn fun h' m' _ hs' => wpAny_mono (hr h' hs' _ rfl rfl) (fun _ _ f => f.elim) fun _ _ y => y))

/-- noted by a frame, whatever flight is told there -/
theorem look_anyX {M : Model} {A : Around} {E : Value → Shared → Prop} {s : Shared} {Z : Obj → Prop} {base : Heap} {env : Env} {outer : List Env} {L e : Addr} {fl : Value} {Q : Unit → Shared → Prop} (hZ : HandSPX.Steady Z)
    (hfr : A.frames = some (env :: outer)) (hf : env.frame = some L) (hkb : base.StaysIn s.heap) (hen : base.get? e = none) (hl : s.heap.FunFrames base (env :: outer)) (ht : HandSPX.TracedZ s.heap base e Z fl) (hfl : (fl == rawInt L) = false)
    (hQ : ∀ h', HandSPX.HeldZ base (env :: outer) e Z L h' → s.heap.UpToSlots h' → Q () { s with heap := h' }) : wpAny M A (noteFrame (.ref e) env) Q E s := by
  obtain ⟨oe, vs, T, oT, ts, he, hz, hd, h1, hnT, hTe, hT, hdT, h3⟩ := ht
  unfold noteFrame
  simp only [hf]
  refine wpAny_bind (wpAny_field he hd h1 ?_)
  rw [if_pos (show (Value.ref T != Value.none) = true from by simp)]
  refine wpAny_bind (wpAny_field hT hdT h3 ?_)
  rw [if_neg (by rw [hfl]; decide)]
  refine wpAny_bind (wpAny_setField hT hdT (Array.getElem?_eq_some_iff.mp h3).1 ?_)
  have other : ∀ b, b ≠ T → (s.heap.update T (Obj.mapFields (·.setIfInBounds 3 Value.none))).get? b = s.heap.get? b := fun b hb => Heap.get?_update_other _ _ (Ne.symm hb)
  have noRec : ∀ b o, s.heap.get? b = some o → (∀ vs, o.data ≠ .fields vs) → b ≠ T := fun b o hb hnf q => by
    rw [q, hT] at hb
    cases hb
    exact hnf ts hdT
  refine HandSPX.wpAny_entryZ hZ hfr (hl.of_keeps fun b o hb hnf => ⟨o, (other b (noRec b o hb hnf)).trans hb, rfl⟩) hf ((other e (Ne.symm hTe)).trans he)
    (fun b o hbo => (other b fun q => by rw [q, hnT] at hbo; cases hbo).trans (hkb b o hbo)) hen hd (Array.getElem?_eq_some_iff.mp h1).1 hz fun h' hN => ?_
  obtain ⟨x1, x2, x3, x4⟩ := hN
  exact hQ h' ⟨x1, hen, x2, x3⟩ fun b o hb hnf => x4 b o ((other b (noRec b o hb hnf)).trans hb) hnf

theorem frames_same {base h h' : Heap} : ∀ {l : List Env}, h.FunFrames base l → (∀ L ∈ frs l, h'.get? L = h.get? L) → h'.FunFrames base l
  | [], _, _ => trivial
  | env :: l, x, hn => by
    obtain ⟨hk, ⟨L, o, hf, hb, ho, hd⟩, hr⟩ := x
    exact ⟨hk, ⟨L, o, hf, hb, (hn L (List.mem_filterMap.mpr ⟨env, List.mem_cons_self, hf⟩)).trans ho, hd⟩, frames_same hr fun b hb => by
      obtain ⟨e, he, q⟩ := List.mem_filterMap.mp hb
      exact hn b (List.mem_filterMap.mpr ⟨e, List.mem_cons_of_mem _ he, q⟩)⟩
section
variable {X : Cx}
/-- an exception in the air of a block leaves it -/
theorem esc {pins : List (Addr × Obj)} {σ : L2.St} {H3 : Hp} {s3 : Shared} {scope : Scope} {ce : Env} {fp : List Addr} {W WB : WX} {Qf : Value → Shared → Prop} {acc : Value} (I3 : Inv X pins σ H3 s3) (f3 : ∀ b ∈ fp, FpOk X pins H3 b ∧ b < s3.heap.objs.size)
    (hst : X.stack = X.env :: X.outer) (hf : X.env.frame = some X.env.locals) (cL : ce.locals = s3.heap.objs.size) (cF : ce.frame = X.env.frame) (tk : Takes X W) (hW : ∀ cls d σ' H', WB cls d σ' H' → W cls d σ H') {e : Value} {s' : Shared}
    (x : XE (X.blk s3 H3 scope ce fp) WB e s') : notedBy (model X.prog X.w) X.A ce (fun e s' => PostX (model X.prog X.w) X.A X.xe Qf acc s3.heap.objs.size ce.frame (.error e) s') e s' := by
  obtain ⟨a, B, sI, pins', σ', H', cls, d, rfl, I6, nb, up, sky, na, os, ag, w⟩ := x
  have hfr : X.A.frames = some (X.env :: X.outer) := by rw [I3.ok.frames, hst]
  have sky : Sky B X.stack a (Zc cls d) ce.locals s'.heap := sky
  rw [hst] at sky
  have neL : ce.locals ≠ X.env.locals := by rw [cL]; exact Ne.symm (Nat.ne_of_lt I3.lt)
  have note : ∀ (Q : Unit → Shared → Prop) (E : Value → Shared → Prop), (∀ h', HandSPX.HeldZ B (X.env :: X.outer) a (Zc cls d) X.env.locals h' → s'.heap.UpToSlots h' → Q () { s' with heap := h' }) → wpAny (model X.prog X.w) X.A (noteFrame (.ref a) ce) Q E s' := fun Q E k => by
    have e : noteFrame (.ref a) ce = noteFrame (.ref a) X.env := by
      unfold noteFrame PySem.frameOf
      rw [cF]
    rw [e]
    rcases sky with ⟨hB, hn, hl, oe, vs, he, hz, hd, h1⟩ | fl | ⟨k1, k2, k3, k4⟩
    · exact HandSPX.look_newZ Zc.steady hfr hl hf he hB hn hd h1 hz k
    · exact HandSPX.looks_onZ Zc.steady hfr hf fl k
    · exact look_anyX Zc.steady hfr hf k1 k2 k3 k4 (by
        show (rawInt ce.locals == rawInt X.env.locals) = false
        refine beq_eq_false_iff_ne.mpr fun z => neL ?_
        unfold rawInt at z
        injection z with z _
        exact Int.ofNat.inj z) k
  unfold notedBy
  refine note _ _ fun h1 hh up1 => ?_
  obtain ⟨m, hn, _⟩ := I6.loc
  have hn : sI.heap.Ns ce.locals m := hn
  rw [cL] at hn
  have hn1 := (up.trans up1).ns hn
  refine ⟨m, hn1, fun h2 sb cenv eL eF => ?_⟩
  obtain ⟨k1, k2, k3, oe, vs, T, oT, ts, he, hz, hd, hv1, hnT, hTe, hT, hdT, ht3⟩ := hh
  obtain ⟨oC, _, _, hoC, hdC, _⟩ := id hn1
  have noC : ∀ {b o vs}, h1.get? b = some o → o.data = .fields vs → b ≠ s3.heap.objs.size := fun {b o vs} e1 e2 z => by
    rw [z, hoC] at e1
    cases e1
    rw [hdC] at e2
    cases e2
  have he2 : h2.get? a = some oe := (sb.2 a (noC he hd)).trans he
  have hT2 : h2.get? T = some oT := (sb.2 T (noC hT hdT)).trans hT
  have hid : ∀ {h : Heap} {b : Addr} {o : Obj}, (PySem.W.hideAll h [s3.heap.objs.size]).get? b = some o → h.get? b = some o ∧ b ≠ s3.heap.objs.size := fun {h b o} e => ⟨PySem.W.of_hideAll _ e, fun z => by
    rw [PySem.W.hideAll_none _ (by simp [z])] at e
    cases e⟩
  have st2 : (PySem.W.hideAll B [s3.heap.objs.size]).StaysIn h2 := fun b o e => (sb.2 b (hid e).2).trans (k1 b o (hid e).1)
  have fresh2 : ∀ {b}, B.get? b = none → (PySem.W.hideAll B [s3.heap.objs.size]).get? b = none := fun {b} e => by
    cases q : (PySem.W.hideAll B [s3.heap.objs.size]).get? b with
    | none => rfl
    | some o => rw [(hid q).1] at e; cases e
  have nC : H' s3.heap.objs.size = none := by
    have z : H' ce.locals = none := I6.free
    rw [cL] at z
    exact z
  have I7 : Inv X pins σ H' sI := I3.call' (ch := fp) I6.os I6.base I6.hok I6.bare fun b hb => ⟨(f3 b hb).1.2.2.2.1, (f3 b hb).1.2.1, (f3 b hb).1.2.2.2.2.1, (f3 b hb).1.2.2.2.2.2⟩
  obtain ⟨f0, f1, f2, f3', f4, f5⟩ := I3.fpOk (Nat.le_refl _) nC
  have fr2 : h2.FunFrames (PySem.W.hideAll B [s3.heap.objs.size]) (X.env :: X.outer) := by
    have z : h2.FunFrames B (X.env :: X.outer) := frames_same k3 fun L hL => sb.2 L fun z => ?_
    · exact PySem.W.funFrames_base (fun b o e => (hid e).1) z
    · rw [← hst] at hL
      rcases List.mem_cons.mp (I3.stkSub L hL) with q | q
      · exact f1 (z.symm.trans q)
      · exact f2 (z ▸ q)
  show wpAny (model X.prog X.w) X.A (PySem.passOn "comprehension.variables-let-go" (.ref a) cenv : Sem Value) _ _ _
  unfold PySem.passOn
  refine wpAny_bind (wpAny_field he2 hd hv1 ?_)
  rw [if_neg (show ¬ ((Value.ref T == Value.none) = true) from by simp)]
  rw [eF, cF, hf]
  refine wpAny_bind (HandSPX.setFlight_onZ (l := X.env :: X.outer) (base := PySem.W.hideAll B [s3.heap.objs.size]) ⟨st2, fresh2 k2, fr2, oe, vs, T, oT, ts, he2, hz, hd, hv1, fresh2 hnT, hTe, hT2, hdT, ht3⟩ fun h3 hh3 up3 => wpAny_throw (tk _ _ ?_))
  refine ⟨a, PySem.W.hideAll B [s3.heap.objs.size], { sI with heap := PySem.W.hideAll sI.heap [s3.heap.objs.size] }, pins, σ, H', cls, d, rfl, ?_, fun b o e hb => ?_, fun b o e hnf => ?_, ?_, na, os, ag, hW _ _ _ _ w⟩
  · exact I7.turned (t' := sI.toks) (fun b o hb e => PySem.W.hideAll_get _ e (by simpa using hb)) f0 f1 f3' f4 f5
  · obtain ⟨e1, e2⟩ := hid e
    exact PySem.W.hideAll_get _ (nb b o e1 hb) (by simpa using e2)
  · obtain ⟨e1, e2⟩ := hid e
    obtain ⟨sl, q⟩ := (up.trans up1) b o e1 hnf
    have q2 : h2.get? b = some { o with slots := sl } := (sb.2 b e2).trans q
    obtain ⟨sl2, q3⟩ := up3 b _ q2 hnf
    exact ⟨sl2, q3⟩
  · rw [hst]
    exact .inr (.inr hh3)
/-- a comprehension whose element may raise: WB is what is wished of the exception within the block -/
theorem lcx_core {pins : List (Addr × Obj)} {s : Shared} {σ : L2.St} {H : Hp} {Q : VK} {elt tg iter : Expr} {ifs : List Expr} {scope : Scope} {own : List (Str × Nat)} {pos pos' : Pos} {wi : TI} {g : TG} {tt : TT} {te : TE} {Qf : Value → Shared → Prop} {W WB : WX}
    (hst : X.stack = X.env :: X.outer) (hf : X.env.frame = some X.env.locals) (tk : Takes X W) (hW : ∀ cls d σ' H', WB cls d σ' H' → W cls d σ H')
    (hc : X.calm = true) (hN : X.N.Nodup) (I : Inv X pins σ H s) (hi : PI X tg iter wi) (ok : BlkOk X.N X.env.scope scope own)
    (hg : ∀ (s : Shared) (H : Hp) (C : Addr) (cl : List (Str × Addr)) (fp : List Addr), PG (X.blk s H scope (compEnvC scope cl C X.env) fp) tg g) (ht : ∀ (s : Shared) (H : Hp) (C : Addr) (cl : List (Str × Addr)) (fp : List Addr), PTs (X.blk s H scope (compEnvC scope cl C X.env) fp) ifs tt)
    (he : ∀ (s : Shared) (H : Hp) (C : Addr) (cl : List (Str × Addr)) (fp : List Addr), PE ((X.blk s H scope (compEnvC scope cl C X.env) fp).wish (XE (X.blk s H scope (compEnvC scope cl C X.env) fp) WB)) elt te) (hs : ∀ x, foldedSetIterable iter X.env x = pure x)
    (h : tLc wi g tt te (own.map (·.2)) σ H Q)
    (hRR : ∀ D C s' m H', Inv X pins σ H' s' → Q (.ref D) H' → s'.heap.Ns C m → FpOk X pins H' C → PostX (model X.prog X.w) X.A X.xe Qf (.ref D) C X.env.frame (.ok .next) s') :
    wpAny (model X.prog X.w) X.A (comprehension (.ListComp elt [⟨tg, iter, ifs, 0⟩] scope pos) scope X.env pos' (newList []) false (eval iter X.env) none) Qf X.xe s := by
  have hfree : ∀ y ∈ scope.names, y.2 = .free → ∃ c, X.env.cells.lookup y.1 = some c := fun y hy e => by
    rcases ok.free y hy e with k | k
    · exact I.ok.has _ (.inl k)
    · exact I.ok.has _ (.inr k)
  refine wp_compX rfl hs (closure_ok hfree) ok.kind (fun y hy e => by rw [ok.uniq y hy, e]) (thn (hi.run pins s σ H _ I h) fun xv s1 hx => thn hx fun itv s2 h2 => ?_)
  obtain ⟨it, fp, tn, J, H2, e, I2, T, st2, f2, q⟩ := h2
  subst e
  refine wpAny_newObj_type (newEnv_comp ?_) (by show 0 ≤ sizeLine; decide)
  generalize hD : s2.heap.objs.size = D
  have hDn : H2 D = none := I2.hok.fresh (Nat.le_of_eq hD)
  obtain ⟨Wl, ⟨m0, w0⟩, turn⟩ := q D hDn
  generalize hs3 : ({ s2 with heap := s2.heap.push { cls := .type "list", data := .seq ([] : List Value).toArray } } : Shared) = s3
  have I3 : Inv X pins σ (upd H2 D (.lst [])) s3 := by
    rw [← hs3]
    refine I2.laid (t' := s2.toks) (fun b o e => Heap.get?_push_of_some _ e) (Nat.le_of_eq hD) ⟨Nat.zero_le _, [], 0, .nil, ?_⟩
    rw [← hD]
    exact Heap.get?_push_size _ rfl
  have h3 : s3.heap = s2.heap.push { cls := .type "list", data := .seq ([] : List Value).toArray } := by rw [← hs3]
  have sz : ∀ b ∈ fp, b < s2.heap.objs.size := fun b hb => by
    obtain ⟨o, e, _⟩ := T.obj _ _ st2 b hb
    exact Heap.lt_size e
  have f3 : ∀ b ∈ fp, FpOk X pins (upd H2 D (.lst [])) b ∧ b < s3.heap.objs.size := fun b hb => by
    have hlt := sz b hb
    refine ⟨⟨?_, (f2 b hb).2⟩, by rw [h3, Heap.size_push]; exact Nat.lt_succ_of_lt hlt⟩
    rw [upd_ne (by rw [← hD]; exact Nat.ne_of_lt hlt)]
    exact (f2 b hb).1
  have st3 : tn 0 s3.heap := T.keep _ _ _ st2 fun b _ o e => by rw [h3]; exact Heap.get?_push_of_some _ e
  have I4 := block_start I3 ok hN f3
  have pg := hg s3 (upd H2 D (.lst [])) s3.heap.objs.size (cellsFrom (s3.heap.objs.size + 1) scope.names (cloFrom X.env.cells scope.names [])) fp
  have pt := ht s3 (upd H2 D (.lst [])) s3.heap.objs.size (cellsFrom (s3.heap.objs.size + 1) scope.names (cloFrom X.env.cells scope.names [])) fp
  have pe := he s3 (upd H2 D (.lst [])) s3.heap.objs.size (cellsFrom (s3.heap.objs.size + 1) scope.names (cloFrom X.env.cells scope.names [])) fp
  show codeAny _ _ (.compStart (.ListComp elt [⟨tg, iter, ifs, 0⟩] scope pos) 0 (.ref it) (.ref D) (compEnvC scope (cellsFrom (s3.heap.objs.size + 1) scope.names (cloFrom X.env.cells scope.names [])) s3.heap.objs.size X.env)) (PostX (model X.prog X.w) X.A X.xe Qf (.ref D) s3.heap.objs.size X.env.frame) { s3 with heap := pushCells (s3.heap.push { cls := .type "dict", data := .dict #[] }) scope.names }
  have nfp : ∀ b ∈ fp, (upd H2 D (.lst [])) b = none := fun b hb => (f3 b hb).1.1
  generalize hce : compEnvC scope (cellsFrom (s3.heap.objs.size + 1) scope.names (cloFrom X.env.cells scope.names [])) s3.heap.objs.size X.env = ce at I4 pg pt pe ⊢
  have cL : ce.locals = s3.heap.objs.size := by subst hce; rfl
  have cF : ce.frame = X.env.frame := by subst hce; rfl
  generalize hH3 : upd H2 D (.lst []) = H3 at I3 I4 pg pt pe w0 nfp f3
  generalize hs4 : ({ s3 with heap := pushCells (s3.heap.push { cls := .type "dict", data := .dict #[] }) scope.names } : Shared) = s4 at I4 ⊢
  have st4 : tn 0 s4.heap := T.keep _ _ _ st3 fun b _ o e => by rw [← hs4]; exact pushCells_keeps _ _ _ _ (Heap.get?_push_of_some _ e)
  have stat : ∀ {σ' : L2.St} {H' : Hp} {s' : Shared}, Inv (X.blk s3 H3 scope ce fp) [] σ' H' s' → (∀ b ∈ fp, H' b = none) → ∀ b ∈ fp, FpOk (X.blk s3 H3 scope ce fp) [] H' b := fun {σ' H' s'} I' hn b hb =>
    ⟨hn b hb, (I'.ok.exf b hb).1, I'.ok.exfs b hb, .inl hb, fun x c e => (I'.ok.exf b hb).2 x c e, fun p hp => absurd (show p ∈ ([] : List (Addr × Obj)) ++ [] from hp) (by simp)⟩
  have loop : codeAny (model X.prog X.w) X.A (.compLoop (.ListComp elt [⟨tg, iter, ifs, 0⟩] scope pos) 0 (.ref it) (.ref D) ce) (PostX (model X.prog X.w) X.A X.xe Qf (.ref D) s3.heap.objs.size X.env.frame) s4 := by
    refine compLoop_any (fun n s' => ∃ i H', Inv (X.blk s3 H3 scope ce fp) [] (wipe σ (own.map (·.2))) H' s' ∧ tn i s'.heap ∧ (∀ b ∈ fp, H' b = none) ∧ Wl i n H') ?_ m0 ⟨0, H3, I4, st4, nfp, w0⟩
    rintro n s5 ⟨i, H5, I5, st5, n5, w5⟩
    rcases turn i n H5 w5 with ⟨stop, qq⟩ | ⟨go, Nx, hNx, step⟩
    · have td := T.done (X.blk s3 H3 scope ce fp) rfl rfl rfl hc i [] s5 _ H5 (fun _ _ => False) I5 (stat I5 n5) st5 stop
      refine thnF td fun r s6 ⟨hr, I6⟩ => ?_
      subst hr
      have I7 : Inv X pins σ H5 s6 := I3.call' (ch := fp) I6.os I6.base I6.hok I6.bare fun b hb => ⟨(f3 b hb).1.2.2.2.1, (f3 b hb).1.2.1, (f3 b hb).1.2.2.2.2.1, (f3 b hb).1.2.2.2.2.2⟩
      have nC : H5 s3.heap.objs.size = none := by
        have z : H5 ce.locals = none := I6.free
        rw [cL] at z
        exact z
      obtain ⟨m, hn, _⟩ := I6.loc
      have hn : s6.heap.Ns ce.locals m := hn
      rw [cL] at hn
      exact hRR D s3.heap.objs.size s6 m H5 I7 qq hn (I3.fpOk (Nat.le_refl _) nC)
    · have ti := T.item (X.blk s3 H3 scope ce fp) rfl rfl rfl hc i [] s5 _ H5 (fun _ _ => False) I5 (stat I5 n5) st5 go
      refine thnF ti fun r s6 ⟨u, hr, h6⟩ => ?_
      subst hr
      refine thnF h6 fun _ s7 ⟨x, H7, I7, r7, y7, st7, n7⟩ => ?_
      have I7' := I7.pinned (stat I7 n7) (T.obj _ _ st7)
      refine thnF (pg.run _ s7 _ H7 x u _ I7' r7 (step x H7 y7)) fun _ s8 ⟨σ8, H8, I8, hw8, q8⟩ => ?_
      refine thnF (pt.run _ s8 σ8 H8 _ I8 q8) fun b s9 ⟨H9, I9, q9⟩ => ?_
      have fin : ∀ {s' : Shared} {H' : Hp}, Inv (X.blk s3 H3 scope ce fp) ([] ++ pinsAt fp s7.heap) σ8 H' s' → Nx H' → ∃ m, m < n ∧ ∃ i H', Inv (X.blk s3 H3 scope ce fp) [] (wipe σ (own.map (·.2))) H' s' ∧ tn i s'.heap ∧ (∀ b ∈ fp, H' b = none) ∧ Wl i m H' := fun {s' H'} I' nx => by
        obtain ⟨m', hm, w'⟩ := hNx H' nx
        have pin' : ∀ b ∈ fp, ∀ o, s7.heap.get? b = some o → s'.heap.get? b = some o ∧ H' b = none := fun b hb o e =>
          let z := I'.pin (b, o) (List.mem_append_right _ (List.mem_append_right _ (mem_pinsAt hb e)))
          ⟨z.1, z.2.1⟩
        have hl : (wipe σ (own.map (·.2))).length = σ8.length := by rw [← hw8, wipe_length]
        refine ⟨m', hm, i + 1, H', (I'.unpinned (pins := [])).weak hl (fun j v e => ?_), T.keep _ _ _ st7 fun b hb o e => (pin' b hb o e).1, fun b hb => ?_, w'⟩
        · rw [← hw8] at e
          exact (wipe_some e).1
        · obtain ⟨o, e, _⟩ := T.obj _ _ st7 b hb
          exact (pin' b hb o e).2
      cases b with
      | false =>
        simp only [Bool.false_eq_true, if_false] at q9 ⊢
        exact fin I9 q9
      | true =>
        simp only [if_true] at q9 ⊢
        refine wpAny_mono (pe.run _ s9 σ8 H9 _ (I9.wish _) q9) (fun z s10 ⟨yv, H10, I10, r10, acc, hD10, hz10, nx⟩ => ?_) fun e s' x => ?_
        · exact app_ok (X := X.blk s3 H3 scope ce fp) I10.unwish hD10 hz10 r10 fun s11 I11 => fin I11 nx
        · rw [← cF]
          exact esc I3 f3 hst hf cL cF tk hW x
  exact codeAny_compStart_list loop (T.self X.A 0 _ _ _ st4 loop)

/-- an element, what is wished of its exceptions told -/
def liEx (K : PySem.W.Frag) (ar : Nat → Option V) (W : WX) (t : TEs) (ES : XS) : TE := fun σ H Q => ∃ I F σs Qk, StR K ar I H σ σs F ∧ t σs Qk ES ∧
  (∀ cls d σ' I' H' F' σs' ed, Evo I H (own F) I' H' (own F') → StR K ar I' H' σ' σs' F' → ED K I' H' d ed → ES cls ed σs' → W cls d σ' H') ∧ ∀ v H', OutE K ar I H F σ Qk v H' → Q v H'
theorem XE.unwish {W : WX} {E : Value → Shared → Prop} {u : Value} {s' : Shared} (x : XE (X.wish E) W u s') : XE X W u s' := by
  obtain ⟨a, B, sI, pins, σ, H, cls, d, e, I, r⟩ := x
  exact ⟨a, B, sI, pins, σ, H, cls, d, e, I.unwish, r⟩
theorem JE.pex {ar : Nat → Option V} {b : Bool} {e : Expr} {t : TEs} {W : WX} {ES : XS} (h : JE (X.wish (XE X W)) ar b true e t) : PE (X.wish (XE X W)) e (liEx X.K ar W t ES) :=
  ⟨fun pins s σ H Q J ⟨I, F, σs, Qk, st, q, x, f⟩ => thn (h.run pins s σ I H F σs Qk ES J st ⟨W, fun u s' z => XE.unwish z, x⟩ q) fun u s' ⟨v, r, R, I', H', F', σs', d, rv, q'⟩ =>
    ⟨v, H', d.inv, rv, f v H' ⟨r, R, I', F', σs', d.evo, d.st, d.sr, d.nf rfl, d.nI, q'⟩⟩⟩

def blankS (σs : SSt) : SSt := σs.map fun _ => none
theorem gets_blank : ∀ (σs : SSt) (i : Nat), gets (blankS σs) i = none
  | [], _ => rfl
  | _ :: _, 0 => rfl
  | _ :: r, n + 1 => gets_blank r n
def lcTX (g : TGt) (tt : TTs) (te : TEs) (vs : List Nat) (ES : XS) : List PyData → List PyData → SSt → (List PyData → SSt → Prop) → Prop
  | [], acc, σs, K => K acc σs
  | d :: ds, acc, σs, K => nd (g d σs) fun σ1 => tt σ1 (fun b σ2 => ifb b (te σ2 (fun r σ3 => nd r.toD fun e => acc.length < sizeLine ∧ lcTX g tt te vs ES ds (acc ++ [e]) (wipeS σ3 vs) K) ES) (lcTX g tt te vs ES ds acc (wipeS σ2 vs) K)) noX
/-- a comprehension that an exception may leave: the slots are forgotten then -/
def sLcX (ti : TIs) (g : TGt) (tt : TTs) (te : TEs) (vs : List Nat) : TEs := fun σs Q ES => ti σs (fun ds σ1 => lcTX g tt te vs (fun cls ed _ => ES cls ed (blankS σs)) ds [] (wipeS σ1 vs) (fun acc σ2 => Q (.lst acc) σ2)) ES
theorem lcx_imp {ar : Nat → Option V} {ti : TIs} {g : TGt} {ts : List Nat} {tt : TTs} {te : TEs} {vs : List Nat} {Wx : WX} {σ : L2.St} {I H : Hp} {F : Nat → List Addr} {σs : SSt} {Qk : KS} {ES : XS} {Q : VK}
    (fW : ∀ cls d σ' I' H' F' σs' ed, Evo I H (own F) I' H' (own F') → StR X.K ar I' H' σ' σs' F' → ED X.K I' H' d ed → ES cls ed σs' → Wx cls d σ' H') (hts : ∀ t ∈ ts, t ∈ vs) (st : StR X.K ar I H σ σs F) (tx : TX X ar I H (own F) ES) (q : sLcX ti g tt te vs σs Qk ES)
    (hQ : ∀ v H', OutE X.K ar I H F σ Qk v H' → Q v H') : tLc (liI X ar ti) (liG X ar g ts) (liTn X.K ar tt) (liEx X.K ar (fun cls d _ H' => Wx cls d σ H') te (fun cls ed _ => ES cls ed (blankS σs))) vs σ H Q := by
  refine ⟨I, F, σs, _, ES, st, tx, q, fun I1 H1 F1 σ1 ds J ev st1 W q1 D hD => ?_⟩
  obtain ⟨F2, st2, k2⟩ := st1.wipe vs
  have hID : I1 D = none := by
    cases e : I1 D with
    | none => rfl
    | some x => rw [st1.sub _ _ e] at hD; cases hD
  have hFD : ¬ own F2 D := fun z => by
    obtain ⟨x, e⟩ := st2.there z
    rw [hD] at e
    cases e
  have up : ∀ a x, H1 a = some x → upd H1 D (.lst []) a = some x := fun a x e => by
    rw [upd_ne fun z => by subst z; rw [hD] at e; cases e]
    exact e
  refine ⟨fun i n H' => n = ds.length - i ∧ i ≤ ds.length ∧ ∃ acc σs', InL X.K ar I H (own F) I1 D (L2.wipe σ vs) acc σs' H' ∧ lcTX g tt te vs (fun cls ed _ => ES cls ed (blankS σs)) (ds.drop i) acc σs' (fun acc σ2 => Qk (.lst acc) σ2), ⟨ds.length, by simp, Nat.zero_le _, [], wipeS σ1 vs, ⟨I1, F2, [], ⟨ev.up, fun a x e n => up a x (ev.fr a x e n), fun a z => ?_, ev.ni⟩, .refl _, ?_, upd_same, .nil, hID, hFD⟩, by simpa using q1⟩, ?_⟩
  · rcases z with z | z
    · have : a = D := by simpa using z
      subst this
      exact ev.back hD
    · exact ev.nw a (k2 a z)
  · exact st2.keep (fun a x e => up a x (st2.sub a x e)) (.refl _) (fun a _ x e => up a x e) fun a m => st2.ownI m
  rintro i n H' ⟨rfl, hi, acc, σs', ⟨I', F', ws, ev', sb', st', hD', pw, nI', nF'⟩, q'⟩
  by_cases hlt : i < ds.length
  · have eg : ds[i]? = some ds[i] := List.getElem?_eq_getElem hlt
    rw [List.drop_eq_getElem_cons hlt] at q'
    obtain ⟨σ2, e2, q2⟩ := nd_some q'
    obtain ⟨go, yl⟩ := W.go I' H' sb' st'.sub i _ eg
    refine .inr ⟨go, fun H'' => i + 1 ≤ ds.length ∧ ∃ acc σs', InL X.K ar I H (own F) I1 D (L2.wipe σ vs) acc σs' H'' ∧ lcTX g tt te vs (fun cls ed _ => ES cls ed (blankS σs)) (ds.drop (i + 1)) acc σs' (fun acc σ2 => Qk (.lst acc) σ2), fun H'' z => ⟨ds.length - (i + 1), by omega, rfl, z.1, z.2⟩, fun x H3 y3 => ?_⟩
    obtain ⟨I3, u1, u2, u3, u4, px⟩ := yl x H3 y3
    have nI3 : I3 D = none := by
      cases e : I3 D with
      | none => rfl
      | some y =>
        rcases u4 D y e with e | e
        · rw [nI'] at e; cases e
        · rw [hD'] at e; cases e
    have ev3 : Evo I H (own F) I3 H3 (fun a => a ∈ [D] ∨ own F' a) := ⟨ev'.up.trans u1, fun a x e n => u3 a x (ev'.fr a x e n), fun a z => ev'.nw a z, fun a y e => by
      rcases u4 a y e with e | e
      · exact ev'.ni a y e
      · exact .inr (ev'.back e)⟩
    have st3 : StR X.K ar I3 H3 (L2.wipe σ vs) σs' F' := st'.keep u2 u1 (fun a _ x e => u3 a x e) fun a m => by
      cases e : I3 a with
      | none => rfl
      | some y =>
        rcases u4 a y e with e | e
        · rw [st'.ownI m] at e
          cases e
        · obtain ⟨z, e2⟩ := st'.there m
          rw [e] at e2
          cases e2
    have hD3 := u3 _ _ hD'
    refine ⟨I3, F', σs', _, σ2, st3, px, e2, fun σ4 F4 l4 k4 o4 st4 => ?_⟩
    have ew : L2.wipe σ4 vs = L2.wipe σ vs := by
      rw [wipe_eq l4 fun j hj => k4 j fun z => hj (hts j z), wipe_wipe]
    refine ⟨ew, ?_⟩
    -- a turn's end
    have fin : ∀ {I5 H5 : Hp} {F5 : Nat → List Addr} {σ5 : SSt} {ws5 : List V} {acc5 : List PyData}, Evo I H (own F) I5 H5 (fun a => a ∈ [D] ∨ own F5 a) → Sub I1 I5 → StR X.K ar I5 H5 σ4 σ5 F5 → H5 D = some (.lst ws5) → PRs X.K I5 ws5 acc5 → I5 D = none → ¬ own F5 D →
        InL X.K ar I H (own F) I1 D (L2.wipe σ vs) acc5 (wipeS σ5 vs) H5 := fun {I5 H5 F5 σ5 ws5 acc5} e s st h p n1 n2 => by
      obtain ⟨F6, st6, k6⟩ := st.wipe vs
      rw [ew] at st6
      exact ⟨I5, F6, ws5, ⟨e.up, e.fr, fun a z => e.nw a (z.imp id (k6 a)), e.ni⟩, s, st6, h, p, n1, fun z => n2 (k6 _ z)⟩
    have ev4 : Evo I H (own F) I3 H3 (fun a => a ∈ [D] ∨ own F4 a) := ev3.sameo fun a z => z.imp id (o4 a)
    have nF4 : ¬ own F4 D := fun z => nF' (o4 _ z)
    refine ⟨I3, F4, σ2, _, st4, q2, fun b I5 H5 F5 σ5 ev5 st5 q5 => ?_⟩
    have hD5 : H5 D = some (.lst ws) := ev5.fr _ _ hD3 nF4
    have nI5 : I5 D = none := by
      cases e : I5 D with
      | none => rfl
      | some y =>
        rcases ev5.ni D y e with e | e | e
        · rw [nI3] at e; cases e
        · exact absurd e nF4
        · rw [hD3] at e; cases e
    have nF5 : ¬ own F5 D := fun z => by
      rcases ev5.nw D z with e | e
      · exact nF4 e
      · rw [hD3] at e; cases e
    have ev6 : Evo I H (own F) I5 H5 (fun a => a ∈ [D] ∨ own F5 a) := ev4.trans ev5 (fun _ z => .inr z) fun c z => z.imp .inl id
    cases b with
    | false =>
      dsimp only
      rw [if_neg (by decide)]
      exact ⟨hlt, acc, wipeS σ5 vs, fin ev6 ((sb'.trans u1).trans ev5.up) st5 hD5 (pw.sub (u1.trans ev5.up)) nI5 nF5, ifb.ff q5⟩
    | true =>
      dsimp only
      rw [if_pos rfl]
      refine ⟨I5, F5, σ5, _, st5, ifb.tt q5, fun cls d σ' I9 H9 F9 σ9 ed ev9 st9 ed9 q9 => ?_, ?_⟩
      · exact fW cls d σ I9 H9 (fun _ => []) (blankS σs) ed ((ev6.trans ev9 (p1 := own F5) (fun _ z => .inr z) (o3 := own F9) fun c z => .inr z).sameo fun a z => by
          obtain ⟨i, z⟩ := z
          cases z) ⟨st9.sub, (fun i r z => by rw [gets_blank] at z; cases z), fun _ _ => rfl, (fun _ _ _ z => by cases z), (fun _ _ z => by cases z), (fun i v r _ z => by rw [gets_blank] at z; cases z), (by rw [← st.len]; unfold blankS; simp)⟩ ed9 q9
      rintro y H7 ⟨r, R, I7, F7, σ7, ev7, st7, sr7, nf7, nI7, q7⟩
      obtain ⟨e, er, hz, q8⟩ := nd_some q7
      have hD7 : H7 D = some (.lst ws) := ev7.fr _ _ hD5 nF5
      have nI7' : I7 D = none := by
        cases e : I7 D with
        | none => rfl
        | some y =>
          rcases ev7.ni D y e with e | e | e
          · rw [nI5] at e; cases e
          · exact absurd e nF5
          · rw [hD5] at e; cases e
      have nFR : ¬ (D ∈ R ∨ own F7 D) := fun z => by
        rcases ev7.nw D z with e | e
        · exact nF5 e
        · rw [hD5] at e; cases e
      have pr := sr7.freeze er nI7
      -- the list grows
      have up7 : ∀ a x, a ≠ D → H7 a = some x → upd H7 D (.lst (ws ++ [y])) a = some x := fun a x n e => by
        rw [upd_ne n]
        exact e
      have nfz : fz I7 H7 R D = none := by
        rw [fz_out fun z => nFR (.inl z)]
        exact nI7'
      have sub8 : Sub (fz I7 H7 R) (upd H7 D (.lst (ws ++ [y]))) := fun a x e => up7 a x (fun z => by rw [z, nfz] at e; cases e) (fz_sub st7.sub a x e)
      have st8 : StR X.K ar (fz I7 H7 R) (upd H7 D (.lst (ws ++ [y]))) σ4 σ7 F7 := st7.keep sub8 (sub_fz nI7) (fun a m x e => up7 a x (fun z => nFR (.inr (z ▸ m))) e) fun a m => by
        rw [fz_out fun z => nf7 a z m]
        exact st7.ownI m
      have ev8 : Evo I H (own F) (fz I7 H7 R) (upd H7 D (.lst (ws ++ [y]))) (fun a => a ∈ [D] ∨ own F7 a) := by
        have evA := ev6.trans ev7 (p1 := own F5) (fun _ z => .inr z) (o3 := fun a => a ∈ [D] ∨ (a ∈ R ∨ own F7 a)) fun c z => by
          rcases z with z | z
          · exact .inl (.inl z)
          · exact .inr z
        refine ⟨evA.up.trans (sub_fz nI7), fun a x e n => ?_, fun a z => evA.nw a (z.imp id .inr), fun a x e => ?_⟩
        · have hx := evA.fr a x e n
          refine up7 a x (fun z => ?_) hx
          subst z
          rcases ev'.nw a (.inl (by simp)) with z | z
          · exact n z
          · rw [e] at z; cases z
        · unfold fz at e
          split at e
          · rename_i m
            exact .inr (evA.nw a (.inr (.inl m)))
          · exact evA.ni a x e
      refine ⟨ws, hD7, by rw [pw.length]; exact hz, hlt, acc ++ [e], wipeS σ7 vs, fin ev8 ((((sb'.trans u1).trans ev5.up).trans ev7.up).trans (sub_fz nI7)) st8 upd_same ?_ nfz (fun z => nFR (.inr z)), q8⟩
      exact (pw.sub ((u1.trans ev5.up).trans (ev7.up.trans (sub_fz nI7)))).append (.cons pr .nil)
  · have ei : i = ds.length := by omega
    subst ei
    rw [List.drop_length] at q'
    have one : ∀ a ∈ [D], a = D := fun a m => by simpa using m
    exact .inl ⟨W.stop I' H' sb' st'.sub _ (Nat.le_refl _), hQ _ _ ⟨.lst acc, [D], I', F', σs', ev', st'.unwipe, .lst hD' pw, fun a m z => nF' (by rw [← one a m]; exact z), fun a m => by rw [one a m]; exact nI', q'⟩⟩

variable {ar : Nat → Option V} {ti : TIs} {g : TGt} {ts : List Nat} {tt : TTs} {te : TEs} {elt tg iter : Expr} {ifs : List Expr} {scope : Scope} {ow : List (Str × Nat)} {b : Bool} {pos : Pos}
theorem je_lcX (hst : X.stack = X.env :: X.outer) (hf : X.env.frame = some X.env.locals) (hc : X.calm = true) (hN : X.N.Nodup) (hi : JI X ar tg iter ti) (ok : BlkOk X.N X.env.scope scope ow) (hts : ∀ t ∈ ts, t ∈ ow.map (·.2))
    (hg : ∀ (s : Shared) (H : Hp) (C : Addr) (cl : List (Str × Addr)) (fp : List Addr), JG (BlkCx X s H scope C cl fp) ar tg g ts) (ht : ∀ (s : Shared) (H : Hp) (C : Addr) (cl : List (Str × Addr)) (fp : List Addr), JQ (BlkCx X s H scope C cl fp) ar ifs tt)
    (he : ∀ (s : Shared) (H : Hp) (C : Addr) (cl : List (Str × Addr)) (fp : List Addr) (E : Value → Shared → Prop), JE ((BlkCx X s H scope C cl fp).wish E) ar b true elt te) (hs : ∀ x, foldedSetIterable iter X.env x = pure x := by intro _; rfl) :
    JE X ar false true (.ListComp elt [⟨tg, iter, ifs, 0⟩] scope pos) (sLcX ti g tt te (ow.map (·.2))) := by
  refine ⟨fun pins s σ I H F σs Qk ES J st tx q => ?_⟩
  obtain ⟨W, tk, fW⟩ := id tx
  rw [eval_ListComp]
  refine wpAny_mono (lcx_core (g := liG X ar g ts) (tt := liTn X.K ar tt) (te := liEx X.K ar (fun cls d _ H' => W cls d σ H') te (fun cls ed _ => ES cls ed (blankS σs))) (Q := OutE X.K ar I H F σ Qk) (Qf := RP X ar pins σ false true I H F σs Qk) (W := W) (WB := fun cls d _ H' => W cls d σ H') hst hf tk (fun _ _ _ _ z => z) hc hN J hi ok (fun s H C cl fp => hg s H C cl fp) (fun s H C cl fp => ht s H C cl fp)
    (fun s H C cl fp => (he s H C cl fp _).pex) hs (lcx_imp fW hts st tx q fun _ _ z => z) fun D C s' m H' I' q hn f => ⟨m, hn, fun h'' sb => ?_⟩) (fun _ _ z => z) fun _ _ z => z
  obtain ⟨f0, f1, f2, f3, f4, f5⟩ := f
  obtain ⟨r, R, I2, F2, σ2, ev, st2, sr, nf, nI, q2⟩ := q
  exact ⟨.ref D, r, R, I2, H', F2, σ2, ⟨I'.turned (t' := s'.toks) (fun b o hb e => (sb.2 b hb).trans e) f0 f1 f3 f4 f5, ev, st2, sr, fun _ => nf, nI, fun z => Bool.noConfusion z⟩, rfl, q2⟩
end
end SV
namespace SV
open PySem PySem.Spec PyProof.Rows L2
section
variable {α : Type} {g : TGt} {tt : TTs} {te : TEs} {vs : List Nat} {ES : XS} {K : List PyData → SSt → Prop}
theorem lcx_map (f : α → PyData) (Iv : List α → List PyData → SSt → Prop) (step : ∀ x r acc σs (N : List PyData → SSt → Prop), (∀ acc' σ', Iv r acc' σ' → N acc' σ') → Iv (x :: r) acc σs →
      nd (g (f x) σs) fun σ1 => tt σ1 (fun b σ2 => ifb b (te σ2 (fun r σ3 => nd r.toD fun d => acc.length < sizeLine ∧ N (acc ++ [d]) (wipeS σ3 vs)) ES) (N acc (wipeS σ2 vs))) noX)
    (fin : ∀ acc σs, Iv [] acc σs → K acc σs) : ∀ (xs : List α) (acc : List PyData) (σs : SSt), Iv xs acc σs → lcTX g tt te vs ES (xs.map f) acc σs K
  | [], acc, σs, h => fin acc σs h
  | x :: r, acc, σs, h => step x r acc σs (fun acc' σ' => lcTX g tt te vs ES (r.map f) acc' σ' K) (fun acc' σ' h' => lcx_map f Iv step fin r acc' σ' h') h
theorem lcx_pre (f : α → PyData) (Iv : List α → List PyData → SSt → Prop) (xs : List α) (step : ∀ done x r acc σs (N : List PyData → SSt → Prop), xs = done ++ x :: r → (∀ acc' σ', Iv (done ++ [x]) acc' σ' → N acc' σ') → Iv done acc σs →
      nd (g (f x) σs) fun σ1 => tt σ1 (fun b σ2 => ifb b (te σ2 (fun r σ3 => nd r.toD fun d => acc.length < sizeLine ∧ N (acc ++ [d]) (wipeS σ3 vs)) ES) (N acc (wipeS σ2 vs))) noX)
    (fin : ∀ acc σs, Iv xs acc σs → K acc σs) (σs : SSt) (h : Iv [] [] σs) : lcTX g tt te vs ES (xs.map f) [] σs K := by
  refine lcx_map f (fun rem acc σ => ∃ done, xs = done ++ rem ∧ Iv done acc σ) (fun x r acc σs N hN h => ?_) (fun acc σs h => ?_) xs [] σs ⟨[], rfl, h⟩
  · obtain ⟨done, e, hi⟩ := h
    exact step done x r acc σs N e (fun acc' σ' h' => hN acc' σ' ⟨done ++ [x], by rw [e, List.append_assoc]; rfl, h'⟩) hi
  · obtain ⟨done, e, hi⟩ := h
    rw [List.append_nil] at e
    rw [← e] at hi
    exact fin acc σs hi
theorem lcx_range (f : Nat → PyData) (Iv : Nat → List PyData → SSt → Prop) (n : Nat) (step : ∀ i acc σs (N : List PyData → SSt → Prop), i < n → (∀ acc' σ', Iv (i + 1) acc' σ' → N acc' σ') → Iv i acc σs →
      nd (g (f i) σs) fun σ1 => tt σ1 (fun b σ2 => ifb b (te σ2 (fun r σ3 => nd r.toD fun d => acc.length < sizeLine ∧ N (acc ++ [d]) (wipeS σ3 vs)) ES) (N acc (wipeS σ2 vs))) noX)
    (fin : ∀ acc σs, Iv n acc σs → K acc σs) (σs : SSt) (h : Iv 0 [] σs) : lcTX g tt te vs ES ((List.range n).map f) [] σs K := by
  refine lcx_pre f (fun done acc σ => Iv done.length acc σ) (List.range n) (fun done x r acc σs N e hN hi => ?_) (fun acc σs h => fin acc σs (by rwa [List.length_range] at h)) σs h
  have hl := congrArg List.length e
  rw [List.length_range, List.length_append, List.length_cons] at hl
  have hx : x = done.length := by
    have h1 : (List.range n)[done.length]? = some x := by rw [e]; simp
    rw [List.getElem?_range (by omega)] at h1
    exact (Option.some.inj h1).symm
  subst hx
  exact step _ acc σs N (by omega) (fun acc' σ' h' => hN acc' σ' (by rw [List.length_append]; exact h')) hi
end
end SV
/-! Svo: NAME[e] of a dict of the module whose keys are texts. -/
namespace SV
open PySem PySem.Spec PyProof.Rows L2
def sGix (T : List (Str × Int)) (te : TEs) : TEs := fun σs Q ES => te σs (fun r σ1 => match r with
  | .val (.str y) => need (T.lookup y) fun i => Q (.val (.int i)) σ1
  | _ => False) ES
section
variable {X : Cx} {ar : Nat → Option V} {e : Expr} {te : TEs} {b : Bool} {x : Str} {p pos : Pos} {d : Addr} {T : List (Str × Int)}
theorem je_gix (hg : Gl X x) (hm : X.mg x = some (.ref d)) (tab : ∀ h : Heap, X.K.In h → StrTab X.prog X.w h d (tabI T)) (he : JE X ar b true e te) (hs : NoSl e := by exact fun _ _ => rfl) (hd : (x == ("__debug__" : Str)) = false := by decide) : JE X ar b true (.Subscript (.Name x p) e pos) (sGix T te) := by
  refine ⟨fun pins s σ I H F σs Q ES J st tx q => ?_⟩
  refine subD_of PySem.F.slot_dict_getitem.lookup hs (ld_glob J hg hm ?_ hd)
  refine thn (he.run pins s σ I H F σs _ ES J st tx q) fun u s1 ⟨v, r, R, I1, H1, F1, σ1, d1, rv, q1⟩ => ?_
  cases r with
  | val y =>
    obtain ⟨eR, pr⟩ := d1.sr.val_inv
    cases pr with
    | str z hz zz =>
      obtain ⟨t, rfl⟩ := rv
      have tb1 := tab s1.heap d1.inv.kIn
      obtain ⟨i, ei, q2⟩ := need_some (show need (T.lookup z) fun i => Q (.val (.int i)) σ1 from q1)
      obtain ⟨lo, kvs, hdd, hf⟩ := tb1
      obtain ⟨w', hv, hfl⟩ := hf.of_lookup PyProof.V.same_str (show PySem.Spec.lookup (.str z) (tabI T) = some (.int i) by rw [look_tab, ei]; rfl)
      obtain ⟨t', rfl⟩ := PyProof.V.Flat.int_inv hfl
      exact ⟨hdd.typeIs, wpAny_getItem_of (strKind_is _ _ _ _) hdd.mapOf hv (RP.of_vp d1.base ⟨.int i, H1, d1.inv.tok _, ⟨_, rfl⟩, .val d1.st.sub (.int i) q2⟩)⟩
    | _ => exact (show False from q1).elim
  | _ => exact (show False from q1).elim
end
end SV
/-! Svp: list(NAME) of a dict of the module whose keys are texts. -/
namespace SV
open PySem PySem.Spec PyProof.Rows L2
section
variable {X : Cx} {ar : Nat → Option V} {x : Str} {p p2 pos : Pos} {d : Addr} {T : List (Str × Int)}
theorem pe_glist (hc : X.calm = true) (hgl : Gl X "list") (hml : X.mg "list" = none) (hg : Gl X x) (hm : X.mg x = some (.ref d)) (tab : ∀ h : Heap, X.K.In h → StrTab X.prog X.w h d (tabI T)) (hT : T.length ≤ 1000) (hd : (x == ("__debug__" : Str)) = false)
    (na : starEach [.Name x p2] X.env = (false, eval (.Name x p2) X.env) :: starEach [] X.env) : PE X (.Call (.Name "list" p) [.Name x p2] [] pos) (fun σ H Q => ∀ q, H q = none → Q (.ref q) (upd H q (.lst (T.map fun p => V.str p.1)))) := by
  refine ⟨fun pins s σ H Q I h => ?_⟩
  refine Call_ (ld_blt I hgl hml boot_list (PyProof.Rows.callWith_type1 (args_cons (ld_glob I hg hm (args_nil ?_) hd) na)))
  obtain ⟨lo, kvs, hD, hf⟩ := tab s.heap I.kIn
  obtain ⟨ep, hat⟩ := hD.dictAt
  have hlen : kvs.length = T.length := by
    rw [← hf.length]
    unfold tabI
    rw [List.length_map]
  have hz : T.length ≤ sizeLine := Nat.le_trans hT (by decide)
  refine PySem.W.kdl_call (PySem.W.kdl_dict (knd := PySem.strKind X.prog X.w) (kvs := kvs) (ep := ep) lo) (I.ok.hd hc) hat (by rw [hlen]; exact hz) fun h' tk acc c' hk hS hacc => ?_
  have hv : Vals (T.map fun p => V.str p.1) acc.toList := by
    refine vals_of_at (by rw [List.length_map, ← hlen, ← hacc.1]; simp) fun j y v h1 h2 => ?_
    obtain ⟨k, w, hx, hi⟩ := hacc.2 j v (by rw [← Array.getElem?_toList]; exact h2)
    obtain ⟨dv, hd, _⟩ := hf.at hx
    unfold tabI at hd
    rw [List.getElem?_map] at h1 hd
    cases hcj : T[j]? with
    | none => rw [hcj] at hd; cases hd
    | some pr =>
      rw [hcj] at hd h1
      have e1 : PyData.str pr.1 = PyData.str k := congrArg Prod.fst (Option.some.inj hd)
      injection e1 with e1
      obtain ⟨t, rfl⟩ := Value.isStrOf_shape hi
      have e3 : V.str pr.1 = y := Option.some.inj h1
      subst e3
      exact ⟨t, by rw [e1]⟩
  refine ⟨.ref s.heap.objs.size, upd H s.heap.objs.size (.lst (T.map fun p => V.str p.1)), I.laid (t' := tk) hk (Nat.le_refl _) (show ObjOk X.prog X.w _ _ _ (.lst (T.map fun p => V.str p.1)) from ⟨by rw [List.length_map]; exact hz, acc.toList, c', hv, by rw [Array.toArray_toList]; exact hS⟩), rfl, h _ (I.hok.fresh (Nat.le_refl _))⟩
def sGlist (T : List (Str × Int)) : TEs := fun σs Q _ => Q (.lst (T.map fun p => .str p.1)) σs
theorem keysT {K : PySem.W.Frag} {I : Hp} : ∀ {T : List (Str × Int)}, (T.all fun p => PyData.strOk p.1 && decide (p.1.length ≤ 1000)) = true → PRs K I (T.map fun p => V.str p.1) (T.map fun p => PyData.str p.1)
  | [], _ => .nil
  | p :: T, h => by
    rw [List.all_cons, Bool.and_eq_true, Bool.and_eq_true, decide_eq_true_eq] at h
    exact .cons (.str _ h.1.1 (Nat.le_trans h.1.2 (by decide))) (keysT h.2)
theorem je_glist (hc : X.calm = true) (hgl : Gl X "list") (hml : X.mg "list" = none) (hg : Gl X x) (hm : X.mg x = some (.ref d)) (tab : ∀ h : Heap, X.K.In h → StrTab X.prog X.w h d (tabI T)) (hT : T.length ≤ 1000 := by decide) (hS : (T.all fun p => PyData.strOk p.1 && decide (p.1.length ≤ 1000)) = true := by decide +kernel)
    (hd : (x == ("__debug__" : Str)) = false := by decide) (na : starEach [.Name x p2] X.env = (false, eval (.Name x p2) X.env) :: starEach [] X.env := by rfl) : JE X ar false true (.Call (.Name "list" p) [.Name x p2] [] pos) (sGlist T) :=
  JE.of_pe (pe_glist hc hgl hml hg hm tab hT hd na) fun σ I H F σs Qk ES Q st tx q hQ => fun l hl => hQ _ _ (out_lst (.refl _ _ _) st hl (keysT hS) q)
end
end SV
/-! Svq: e in d, e not in d of an own dict. -/
namespace SV
open PySem PySem.Spec PyProof.Rows L2
theorem look_some {k : Key} : ∀ {vk : List (Key × V)} {kvs : List (PyData × PyData)}, kvs.map (·.1) = vk.map (fun p => kD p.1) → (valV vk k).isSome = (lookD kvs (kD k)).isSome
  | [], [], _ => rfl
  | [], _ :: _, e => by cases e
  | _ :: _, [], e => by cases e
  | p :: vk, q :: kvs, e => by
    simp only [List.map_cons, List.cons.injEq] at e
    obtain ⟨e1, e2⟩ := e
    unfold lookD
    rw [List.find?_cons, e1, eqv_kD]
    by_cases z : p.1 = k
    · rw [decide_eq_true z, valV_pos z]
      rfl
    · rw [decide_eq_false z, valV_neg z]
      exact look_some (k := k) e2
def dinK (n : Bool) (kvs : List (PyData × PyData)) (y : PyData) (Q : PyData → Prop) : Prop := match y with
  | .int i => Q (.bool (n != (lookD kvs (.int i)).isSome))
  | .str x => Q (.bool (n != (lookD kvs (.str x)).isSome))
  | _ => False
/-- n: not in -/
def sDin (n : Bool) (ta tb : TEs) : TEs := fun σs Q ES => ta σs (fun x σ1 => match x with
  | .val y => tb σ1 (fun r σ2 => match r with
    | .dct kvs => dinK n kvs y fun z => Q (.val z) σ2
    | _ => False) ES
  | _ => False) ES
theorem dinK_inv {n : Bool} {kvs : List (PyData × PyData)} {y : PyData} {Q : PyData → Prop} (h : dinK n kvs y Q) : ∃ k : Key, y = kD k ∧ Q (.bool (n != (lookD kvs (kD k)).isSome)) := by
  cases y with
  | int i => exact ⟨.inl i, rfl, h⟩
  | str x => exact ⟨.inr x, rfl, h⟩
  | _ => exact (show False from h).elim
section
variable {X : Cx} {ar : Nat → Option V} {a b : Expr} {ta tb : TEs} {b1 b2 m1 m2 : Bool} {pos : Pos}
theorem twoDin {op : CmpOp} {n : Bool} (hop : op = (if n then .NotIn else .In)) (hu : X.A.units + 1 < cLine) (ha : JE X ar b1 m1 a ta) (hb : JE X ar b2 m2 b tb) (hm : m1 = true ∨ b2 = true) {pins : List (Addr × Obj)} {s : Shared} {σ : L2.St} {I H : Hp} {F : Nat → List Addr} {σs : SSt} {Q : KS} {ES : XS}
    (J : Inv X pins σ H s) (st : StR X.K ar I H σ σs F) (tx : TX X ar I H (own F) ES) (q : sDin n ta tb σs Q ES) :
    wpAny (model X.prog X.w) X.A (eval a X.env) (fun v s₁ => wpAny (model X.prog X.w) X.A (eval b X.env) (fun u s₂ => wpAny (model X.prog X.w) X.A (compareOp op v u) (RP X ar pins σ (b1 && b2) true I H F σs Q) X.xe s₂) X.xe s₁) X.xe s := by
  refine thn (ha.run pins s σ I H F σs _ ES J st tx q) fun v s1 ⟨x, rx, R1, I1, H1, F1, σ1, h1, r1, q1⟩ => ?_
  cases rx with
  | val y =>
    have q1' : tb σ1 (fun r σ2 => match r with
      | .dct kvs => dinK n kvs y fun z => Q (.val z) σ2
      | _ => False) ES := q1
    refine thn (hb.run pins s1 σ I1 H1 F1 σ1 _ ES h1.inv h1.st (tx.go h1.base.evo fun _ z => z) q1') fun u s2 ⟨w, rw2, R2, I2, H2, F2, σ2, h2, r2, q2⟩ => ?_
    cases rw2 with
    | dct kvs =>
      obtain ⟨sx, _, _, _⟩ := h1.over h2.base hm
      obtain ⟨c, vk, rfl, _, eh, ek, pv⟩ := h2.sr.dct_inv
      obtain ⟨k, rfl, q3⟩ := dinK_inv (show dinK n kvs y fun z => Q (.val z) σ2 from q2)
      obtain ⟨_, pk⟩ := sx.val_inv
      obtain rfl := pk.key
      obtain rfl : u = Value.ref c := r2
      have g := DGet.k (k := k) eh
      rw [← look_some (k := k) ek] at q3
      cases n with
      | false =>
        subst hop
        refine d_in hu h2.inv g r1 fun s3 J3 => RP.of_vp (h1.base.then h2.base) ⟨.bl (valV vk k).isSome, H2, J3, rfl, .val h2.st.sub (.bl _) ?_⟩
        rwa [Bool.false_bne] at q3
      | true =>
        subst hop
        refine d_notIn hu h2.inv g r1 fun s3 J3 => RP.of_vp (h1.base.then h2.base) ⟨.bl (!(valV vk k).isSome), H2, J3, rfl, .val h2.st.sub (.bl _) ?_⟩
        rwa [Bool.true_bne] at q3
    | _ => exact (show False from q2).elim
  | _ => exact (show False from q1).elim
theorem je_din (n : Bool) {op : CmpOp} (hu : X.A.units + 1 < cLine) (ha : JE X ar b1 m1 a ta) (hb : JE X ar b2 m2 b tb) (hop : op = (if n then .NotIn else .In) := by rfl) (hk : behindInMarks op b = false := by first | exact nobehind _ (by decide) (by decide) | rfl | with_unfolding_all rfl)
    (hm : m1 = true ∨ b2 = true := by first | exact Or.inl rfl | exact Or.inr rfl) : JE X ar (b1 && b2) true (.Compare a [op] [b] pos) (sDin n ta tb) :=
  ⟨fun pins s σ I H F σs Q ES J st tx q => wpAny_Compare1 (twoDin hop hu ha hb hm J st tx q) hk⟩
theorem jt_din (n : Bool) {op : CmpOp} (hu : X.A.units + 1 < cLine) (ha : JE X ar b1 m1 a ta) (hb : JE X ar b2 m2 b tb) (hop : op = (if n then .NotIn else .In) := by rfl) (hk : behindInMarks op b = false := by first | exact nobehind _ (by decide) (by decide) | rfl | with_unfolding_all rfl)
    (hm : m1 = true ∨ b2 = true := by first | exact Or.inl rfl | exact Or.inr rfl) : JT X ar (b1 && b2) (.Compare a [op] [b] pos) (tT (sDin n ta tb)) := by
  refine ⟨fun pins s σ I H F σs Q ES J st tx q => ?_⟩
  exact wpAny_isTrue_Compare1 (thn (twoDin hop hu ha hb hm J st tx q) fun v s1 h1 => thn h1 fun u s2 h2 => thn h2 fun c s3 h3 => RP.tru h3) hk
end
end SV
/-! Svr: list comprehensions that an exception may leave from the test, too. -/
namespace SV
open PySem PySem.Spec PyProof.Rows L2
section
variable {X : Cx}
/-- a comprehension whose test or element may raise: WB is what is wished of the exception within the block -/
theorem lcy_core {pins : List (Addr × Obj)} {s : Shared} {σ : L2.St} {H : Hp} {Q : VK} {elt tg iter : Expr} {ifs : List Expr} {scope : Scope} {own : List (Str × Nat)} {pos pos' : Pos} {wi : TI} {g : TG} {tt : TT} {te : TE} {Qf : Value → Shared → Prop} {W WB : WX}
    (hst : X.stack = X.env :: X.outer) (hf : X.env.frame = some X.env.locals) (tk : Takes X W) (hW : ∀ cls d σ' H', WB cls d σ' H' → W cls d σ H')
    (hc : X.calm = true) (hN : X.N.Nodup) (I : Inv X pins σ H s) (hi : PI X tg iter wi) (ok : BlkOk X.N X.env.scope scope own)
    (hg : ∀ (s : Shared) (H : Hp) (C : Addr) (cl : List (Str × Addr)) (fp : List Addr), PG (X.blk s H scope (compEnvC scope cl C X.env) fp) tg g) (ht : ∀ (s : Shared) (H : Hp) (C : Addr) (cl : List (Str × Addr)) (fp : List Addr), PTs ((X.blk s H scope (compEnvC scope cl C X.env) fp).wish (XE (X.blk s H scope (compEnvC scope cl C X.env) fp) WB)) ifs tt)
    (he : ∀ (s : Shared) (H : Hp) (C : Addr) (cl : List (Str × Addr)) (fp : List Addr), PE ((X.blk s H scope (compEnvC scope cl C X.env) fp).wish (XE (X.blk s H scope (compEnvC scope cl C X.env) fp) WB)) elt te) (hs : ∀ x, foldedSetIterable iter X.env x = pure x)
    (h : tLc wi g tt te (own.map (·.2)) σ H Q)
    (hRR : ∀ D C s' m H', Inv X pins σ H' s' → Q (.ref D) H' → s'.heap.Ns C m → FpOk X pins H' C → PostX (model X.prog X.w) X.A X.xe Qf (.ref D) C X.env.frame (.ok .next) s') :
    wpAny (model X.prog X.w) X.A (comprehension (.ListComp elt [⟨tg, iter, ifs, 0⟩] scope pos) scope X.env pos' (newList []) false (eval iter X.env) none) Qf X.xe s := by
  have hfree : ∀ y ∈ scope.names, y.2 = .free → ∃ c, X.env.cells.lookup y.1 = some c := fun y hy e => by
    rcases ok.free y hy e with k | k
    · exact I.ok.has _ (.inl k)
    · exact I.ok.has _ (.inr k)
  refine wp_compX rfl hs (closure_ok hfree) ok.kind (fun y hy e => by rw [ok.uniq y hy, e]) (thn (hi.run pins s σ H _ I h) fun xv s1 hx => thn hx fun itv s2 h2 => ?_)
  obtain ⟨it, fp, tn, J, H2, e, I2, T, st2, f2, q⟩ := h2
  subst e
  refine wpAny_newObj_type (newEnv_comp ?_) (by show 0 ≤ sizeLine; decide)
  generalize hD : s2.heap.objs.size = D
  have hDn : H2 D = none := I2.hok.fresh (Nat.le_of_eq hD)
  obtain ⟨Wl, ⟨m0, w0⟩, turn⟩ := q D hDn
  generalize hs3 : ({ s2 with heap := s2.heap.push { cls := .type "list", data := .seq ([] : List Value).toArray } } : Shared) = s3
  have I3 : Inv X pins σ (upd H2 D (.lst [])) s3 := by
    rw [← hs3]
    refine I2.laid (t' := s2.toks) (fun b o e => Heap.get?_push_of_some _ e) (Nat.le_of_eq hD) ⟨Nat.zero_le _, [], 0, .nil, ?_⟩
    rw [← hD]
    exact Heap.get?_push_size _ rfl
  have h3 : s3.heap = s2.heap.push { cls := .type "list", data := .seq ([] : List Value).toArray } := by rw [← hs3]
  have sz : ∀ b ∈ fp, b < s2.heap.objs.size := fun b hb => by
    obtain ⟨o, e, _⟩ := T.obj _ _ st2 b hb
    exact Heap.lt_size e
  have f3 : ∀ b ∈ fp, FpOk X pins (upd H2 D (.lst [])) b ∧ b < s3.heap.objs.size := fun b hb => by
    have hlt := sz b hb
    refine ⟨⟨?_, (f2 b hb).2⟩, by rw [h3, Heap.size_push]; exact Nat.lt_succ_of_lt hlt⟩
    rw [upd_ne (by rw [← hD]; exact Nat.ne_of_lt hlt)]
    exact (f2 b hb).1
  have st3 : tn 0 s3.heap := T.keep _ _ _ st2 fun b _ o e => by rw [h3]; exact Heap.get?_push_of_some _ e
  have I4 := block_start I3 ok hN f3
  have pg := hg s3 (upd H2 D (.lst [])) s3.heap.objs.size (cellsFrom (s3.heap.objs.size + 1) scope.names (cloFrom X.env.cells scope.names [])) fp
  have pt := ht s3 (upd H2 D (.lst [])) s3.heap.objs.size (cellsFrom (s3.heap.objs.size + 1) scope.names (cloFrom X.env.cells scope.names [])) fp
  have pe := he s3 (upd H2 D (.lst [])) s3.heap.objs.size (cellsFrom (s3.heap.objs.size + 1) scope.names (cloFrom X.env.cells scope.names [])) fp
  show codeAny _ _ (.compStart (.ListComp elt [⟨tg, iter, ifs, 0⟩] scope pos) 0 (.ref it) (.ref D) (compEnvC scope (cellsFrom (s3.heap.objs.size + 1) scope.names (cloFrom X.env.cells scope.names [])) s3.heap.objs.size X.env)) (PostX (model X.prog X.w) X.A X.xe Qf (.ref D) s3.heap.objs.size X.env.frame) { s3 with heap := pushCells (s3.heap.push { cls := .type "dict", data := .dict #[] }) scope.names }
  have nfp : ∀ b ∈ fp, (upd H2 D (.lst [])) b = none := fun b hb => (f3 b hb).1.1
  generalize hce : compEnvC scope (cellsFrom (s3.heap.objs.size + 1) scope.names (cloFrom X.env.cells scope.names [])) s3.heap.objs.size X.env = ce at I4 pg pt pe ⊢
  have cL : ce.locals = s3.heap.objs.size := by subst hce; rfl
  have cF : ce.frame = X.env.frame := by subst hce; rfl
  generalize hH3 : upd H2 D (.lst []) = H3 at I3 I4 pg pt pe w0 nfp f3
  generalize hs4 : ({ s3 with heap := pushCells (s3.heap.push { cls := .type "dict", data := .dict #[] }) scope.names } : Shared) = s4 at I4 ⊢
  have st4 : tn 0 s4.heap := T.keep _ _ _ st3 fun b _ o e => by rw [← hs4]; exact pushCells_keeps _ _ _ _ (Heap.get?_push_of_some _ e)
  have stat : ∀ {σ' : L2.St} {H' : Hp} {s' : Shared}, Inv (X.blk s3 H3 scope ce fp) [] σ' H' s' → (∀ b ∈ fp, H' b = none) → ∀ b ∈ fp, FpOk (X.blk s3 H3 scope ce fp) [] H' b := fun {σ' H' s'} I' hn b hb =>
    ⟨hn b hb, (I'.ok.exf b hb).1, I'.ok.exfs b hb, .inl hb, fun x c e => (I'.ok.exf b hb).2 x c e, fun p hp => absurd (show p ∈ ([] : List (Addr × Obj)) ++ [] from hp) (by simp)⟩
  have loop : codeAny (model X.prog X.w) X.A (.compLoop (.ListComp elt [⟨tg, iter, ifs, 0⟩] scope pos) 0 (.ref it) (.ref D) ce) (PostX (model X.prog X.w) X.A X.xe Qf (.ref D) s3.heap.objs.size X.env.frame) s4 := by
    refine compLoop_any (fun n s' => ∃ i H', Inv (X.blk s3 H3 scope ce fp) [] (wipe σ (own.map (·.2))) H' s' ∧ tn i s'.heap ∧ (∀ b ∈ fp, H' b = none) ∧ Wl i n H') ?_ m0 ⟨0, H3, I4, st4, nfp, w0⟩
    rintro n s5 ⟨i, H5, I5, st5, n5, w5⟩
    rcases turn i n H5 w5 with ⟨stop, qq⟩ | ⟨go, Nx, hNx, step⟩
    · have td := T.done (X.blk s3 H3 scope ce fp) rfl rfl rfl hc i [] s5 _ H5 (fun _ _ => False) I5 (stat I5 n5) st5 stop
      refine thnF td fun r s6 ⟨hr, I6⟩ => ?_
      subst hr
      have I7 : Inv X pins σ H5 s6 := I3.call' (ch := fp) I6.os I6.base I6.hok I6.bare fun b hb => ⟨(f3 b hb).1.2.2.2.1, (f3 b hb).1.2.1, (f3 b hb).1.2.2.2.2.1, (f3 b hb).1.2.2.2.2.2⟩
      have nC : H5 s3.heap.objs.size = none := by
        have z : H5 ce.locals = none := I6.free
        rw [cL] at z
        exact z
      obtain ⟨m, hn, _⟩ := I6.loc
      have hn : s6.heap.Ns ce.locals m := hn
      rw [cL] at hn
      exact hRR D s3.heap.objs.size s6 m H5 I7 qq hn (I3.fpOk (Nat.le_refl _) nC)
    · have ti := T.item (X.blk s3 H3 scope ce fp) rfl rfl rfl hc i [] s5 _ H5 (fun _ _ => False) I5 (stat I5 n5) st5 go
      refine thnF ti fun r s6 ⟨u, hr, h6⟩ => ?_
      subst hr
      refine thnF h6 fun _ s7 ⟨x, H7, I7, r7, y7, st7, n7⟩ => ?_
      have I7' := I7.pinned (stat I7 n7) (T.obj _ _ st7)
      refine thnF (pg.run _ s7 _ H7 x u _ I7' r7 (step x H7 y7)) fun _ s8 ⟨σ8, H8, I8, hw8, q8⟩ => ?_
      refine wpAny_mono (pt.run _ s8 σ8 H8 _ (I8.wish _) q8) (fun b s9 ⟨H9, I9', q9⟩ => ?_) fun e s' x => ?_
      rotate_left
      · rw [← cF]
        exact esc I3 f3 hst hf cL cF tk hW x
      have I9 := I9'.unwish
      have fin : ∀ {s' : Shared} {H' : Hp}, Inv (X.blk s3 H3 scope ce fp) ([] ++ pinsAt fp s7.heap) σ8 H' s' → Nx H' → ∃ m, m < n ∧ ∃ i H', Inv (X.blk s3 H3 scope ce fp) [] (wipe σ (own.map (·.2))) H' s' ∧ tn i s'.heap ∧ (∀ b ∈ fp, H' b = none) ∧ Wl i m H' := fun {s' H'} I' nx => by
        obtain ⟨m', hm, w'⟩ := hNx H' nx
        have pin' : ∀ b ∈ fp, ∀ o, s7.heap.get? b = some o → s'.heap.get? b = some o ∧ H' b = none := fun b hb o e =>
          let z := I'.pin (b, o) (List.mem_append_right _ (List.mem_append_right _ (mem_pinsAt hb e)))
          ⟨z.1, z.2.1⟩
        have hl : (wipe σ (own.map (·.2))).length = σ8.length := by rw [← hw8, wipe_length]
        refine ⟨m', hm, i + 1, H', (I'.unpinned (pins := [])).weak hl (fun j v e => ?_), T.keep _ _ _ st7 fun b hb o e => (pin' b hb o e).1, fun b hb => ?_, w'⟩
        · rw [← hw8] at e
          exact (wipe_some e).1
        · obtain ⟨o, e, _⟩ := T.obj _ _ st7 b hb
          exact (pin' b hb o e).2
      cases b with
      | false =>
        simp only [Bool.false_eq_true, if_false] at q9 ⊢
        exact fin I9 q9
      | true =>
        simp only [if_true] at q9 ⊢
        refine wpAny_mono (pe.run _ s9 σ8 H9 _ (I9.wish _) q9) (fun z s10 ⟨yv, H10, I10, r10, acc, hD10, hz10, nx⟩ => ?_) fun e s' x => ?_
        · exact app_ok (X := X.blk s3 H3 scope ce fp) I10.unwish hD10 hz10 r10 fun s11 I11 => fin I11 nx
        · rw [← cF]
          exact esc I3 f3 hst hf cL cF tk hW x
  exact codeAny_compStart_list loop (T.self X.A 0 _ _ _ st4 loop)


/-- a test, what is wished of its exceptions told -/
def liTx (K : PySem.W.Frag) (ar : Nat → Option V) (W : WX) (t : TTs) (ES : XS) : TT := fun σ H Q => ∃ I F σs Qk, StR K ar I H σ σs F ∧ t σs Qk ES ∧
  (∀ cls d σ' I' H' F' σs' ed, Evo I H (own F) I' H' (own F') → StR K ar I' H' σ' σs' F' → ED K I' H' d ed → ES cls ed σs' → W cls d σ' H') ∧ ∀ c I' H' F' σs', Evo I H (own F) I' H' (own F') → StR K ar I' H' σ σs' F' → Qk c σs' → Q c H'
theorem JT.ptx {ar : Nat → Option V} {b : Bool} {e : Expr} {t : TTs} {W : WX} {ES : XS} (h : JT (X.wish (XE X W)) ar b e t) : PT (X.wish (XE X W)) e (liTx X.K ar W t ES) :=
  ⟨fun pins s σ H Q J ⟨I, F, σs, Qk, st, q, x, f⟩ => thn (h.run pins s σ I H F σs Qk ES J st ⟨W, fun u s' z => XE.unwish z, x⟩ q) fun c s' ⟨I', H', F', σs', d, q'⟩ => ⟨H', d.inv, f c I' H' F' σs' d.evo d.st q'⟩⟩
/-- the tests of a clause, whatever is wished of an exception -/
structure JQx (X : Cx) (E : Value → Shared → Prop) (ar : Nat → Option V) (ifs : List Expr) (t : TTs) : Prop where
  pts : ∀ {W : WX} {ES : XS}, E = XE X W → PTs (X.wish E) ifs (liTx X.K ar W t ES)
theorem jqx_one {E : Value → Shared → Prop} {ar : Nat → Option V} {b : Bool} {c : Expr} {t : TTs} (h : JT (X.wish E) ar b c t) : JQx X E ar [c] t := ⟨fun e => by subst e; exact pts_one h.ptx⟩
def lcTY (g : TGt) (tt : TTs) (te : TEs) (vs : List Nat) (ES : XS) : List PyData → List PyData → SSt → (List PyData → SSt → Prop) → Prop
  | [], acc, σs, K => K acc σs
  | d :: ds, acc, σs, K => nd (g d σs) fun σ1 => tt σ1 (fun b σ2 => ifb b (te σ2 (fun r σ3 => nd r.toD fun e => acc.length < sizeLine ∧ lcTY g tt te vs ES ds (acc ++ [e]) (wipeS σ3 vs) K) ES) (lcTY g tt te vs ES ds acc (wipeS σ2 vs) K)) ES
/-- a comprehension that an exception may leave: the slots are forgotten then -/
def sLcY (ti : TIs) (g : TGt) (tt : TTs) (te : TEs) (vs : List Nat) : TEs := fun σs Q ES => ti σs (fun ds σ1 => lcTY g tt te vs (fun cls ed _ => ES cls ed (blankS σs)) ds [] (wipeS σ1 vs) (fun acc σ2 => Q (.lst acc) σ2)) ES
theorem lcy_imp {ar : Nat → Option V} {ti : TIs} {g : TGt} {ts : List Nat} {tt : TTs} {te : TEs} {vs : List Nat} {Wx : WX} {σ : L2.St} {I H : Hp} {F : Nat → List Addr} {σs : SSt} {Qk : KS} {ES : XS} {Q : VK}
    (fW : ∀ cls d σ' I' H' F' σs' ed, Evo I H (own F) I' H' (own F') → StR X.K ar I' H' σ' σs' F' → ED X.K I' H' d ed → ES cls ed σs' → Wx cls d σ' H') (hts : ∀ t ∈ ts, t ∈ vs) (st : StR X.K ar I H σ σs F) (tx : TX X ar I H (own F) ES) (q : sLcY ti g tt te vs σs Qk ES)
    (hQ : ∀ v H', OutE X.K ar I H F σ Qk v H' → Q v H') : tLc (liI X ar ti) (liG X ar g ts) (liTx X.K ar (fun cls d _ H' => Wx cls d σ H') tt (fun cls ed _ => ES cls ed (blankS σs))) (liEx X.K ar (fun cls d _ H' => Wx cls d σ H') te (fun cls ed _ => ES cls ed (blankS σs))) vs σ H Q := by
  refine ⟨I, F, σs, _, ES, st, tx, q, fun I1 H1 F1 σ1 ds J ev st1 W q1 D hD => ?_⟩
  obtain ⟨F2, st2, k2⟩ := st1.wipe vs
  have hID : I1 D = none := by
    cases e : I1 D with
    | none => rfl
    | some x => rw [st1.sub _ _ e] at hD; cases hD
  have hFD : ¬ own F2 D := fun z => by
    obtain ⟨x, e⟩ := st2.there z
    rw [hD] at e
    cases e
  have up : ∀ a x, H1 a = some x → upd H1 D (.lst []) a = some x := fun a x e => by
    rw [upd_ne fun z => by subst z; rw [hD] at e; cases e]
    exact e
  refine ⟨fun i n H' => n = ds.length - i ∧ i ≤ ds.length ∧ ∃ acc σs', InL X.K ar I H (own F) I1 D (L2.wipe σ vs) acc σs' H' ∧ lcTY g tt te vs (fun cls ed _ => ES cls ed (blankS σs)) (ds.drop i) acc σs' (fun acc σ2 => Qk (.lst acc) σ2), ⟨ds.length, by simp, Nat.zero_le _, [], wipeS σ1 vs, ⟨I1, F2, [], ⟨ev.up, fun a x e n => up a x (ev.fr a x e n), fun a z => ?_, ev.ni⟩, .refl _, ?_, upd_same, .nil, hID, hFD⟩, by simpa using q1⟩, ?_⟩
  · rcases z with z | z
    · have : a = D := by simpa using z
      subst this
      exact ev.back hD
    · exact ev.nw a (k2 a z)
  · exact st2.keep (fun a x e => up a x (st2.sub a x e)) (.refl _) (fun a _ x e => up a x e) fun a m => st2.ownI m
  rintro i n H' ⟨rfl, hi, acc, σs', ⟨I', F', ws, ev', sb', st', hD', pw, nI', nF'⟩, q'⟩
  by_cases hlt : i < ds.length
  · have eg : ds[i]? = some ds[i] := List.getElem?_eq_getElem hlt
    rw [List.drop_eq_getElem_cons hlt] at q'
    obtain ⟨σ2, e2, q2⟩ := nd_some q'
    obtain ⟨go, yl⟩ := W.go I' H' sb' st'.sub i _ eg
    refine .inr ⟨go, fun H'' => i + 1 ≤ ds.length ∧ ∃ acc σs', InL X.K ar I H (own F) I1 D (L2.wipe σ vs) acc σs' H'' ∧ lcTY g tt te vs (fun cls ed _ => ES cls ed (blankS σs)) (ds.drop (i + 1)) acc σs' (fun acc σ2 => Qk (.lst acc) σ2), fun H'' z => ⟨ds.length - (i + 1), by omega, rfl, z.1, z.2⟩, fun x H3 y3 => ?_⟩
    obtain ⟨I3, u1, u2, u3, u4, px⟩ := yl x H3 y3
    have nI3 : I3 D = none := by
      cases e : I3 D with
      | none => rfl
      | some y =>
        rcases u4 D y e with e | e
        · rw [nI'] at e; cases e
        · rw [hD'] at e; cases e
    have ev3 : Evo I H (own F) I3 H3 (fun a => a ∈ [D] ∨ own F' a) := ⟨ev'.up.trans u1, fun a x e n => u3 a x (ev'.fr a x e n), fun a z => ev'.nw a z, fun a y e => by
      rcases u4 a y e with e | e
      · exact ev'.ni a y e
      · exact .inr (ev'.back e)⟩
    have st3 : StR X.K ar I3 H3 (L2.wipe σ vs) σs' F' := st'.keep u2 u1 (fun a _ x e => u3 a x e) fun a m => by
      cases e : I3 a with
      | none => rfl
      | some y =>
        rcases u4 a y e with e | e
        · rw [st'.ownI m] at e
          cases e
        · obtain ⟨z, e2⟩ := st'.there m
          rw [e] at e2
          cases e2
    have hD3 := u3 _ _ hD'
    refine ⟨I3, F', σs', _, σ2, st3, px, e2, fun σ4 F4 l4 k4 o4 st4 => ?_⟩
    have ew : L2.wipe σ4 vs = L2.wipe σ vs := by
      rw [wipe_eq l4 fun j hj => k4 j fun z => hj (hts j z), wipe_wipe]
    refine ⟨ew, ?_⟩
    -- a turn's end
    have fin : ∀ {I5 H5 : Hp} {F5 : Nat → List Addr} {σ5 : SSt} {ws5 : List V} {acc5 : List PyData}, Evo I H (own F) I5 H5 (fun a => a ∈ [D] ∨ own F5 a) → Sub I1 I5 → StR X.K ar I5 H5 σ4 σ5 F5 → H5 D = some (.lst ws5) → PRs X.K I5 ws5 acc5 → I5 D = none → ¬ own F5 D →
        InL X.K ar I H (own F) I1 D (L2.wipe σ vs) acc5 (wipeS σ5 vs) H5 := fun {I5 H5 F5 σ5 ws5 acc5} e s st h p n1 n2 => by
      obtain ⟨F6, st6, k6⟩ := st.wipe vs
      rw [ew] at st6
      exact ⟨I5, F6, ws5, ⟨e.up, e.fr, fun a z => e.nw a (z.imp id (k6 a)), e.ni⟩, s, st6, h, p, n1, fun z => n2 (k6 _ z)⟩
    have ev4 : Evo I H (own F) I3 H3 (fun a => a ∈ [D] ∨ own F4 a) := ev3.sameo fun a z => z.imp id (o4 a)
    have nF4 : ¬ own F4 D := fun z => nF' (o4 _ z)
    refine ⟨I3, F4, σ2, _, st4, q2, fun cls d σ' I9 H9 F9 σ9 ed ev9 st9 ed9 q9 => ?_, fun b I5 H5 F5 σ5 ev5 st5 q5 => ?_⟩
    · exact fW cls d σ I9 H9 (fun _ => []) (blankS σs) ed ((ev4.trans ev9 (p1 := own F4) (fun _ z => .inr z) (o3 := own F9) fun c z => .inr z).sameo fun a z => by
          obtain ⟨i, z⟩ := z
          cases z) ⟨st9.sub, (fun i r z => by rw [gets_blank] at z; cases z), fun _ _ => rfl, (fun _ _ _ z => by cases z), (fun _ _ z => by cases z), (fun i v r _ z => by rw [gets_blank] at z; cases z), (by rw [← st.len]; unfold blankS; simp)⟩ ed9 q9
    have hD5 : H5 D = some (.lst ws) := ev5.fr _ _ hD3 nF4
    have nI5 : I5 D = none := by
      cases e : I5 D with
      | none => rfl
      | some y =>
        rcases ev5.ni D y e with e | e | e
        · rw [nI3] at e; cases e
        · exact absurd e nF4
        · rw [hD3] at e; cases e
    have nF5 : ¬ own F5 D := fun z => by
      rcases ev5.nw D z with e | e
      · exact nF4 e
      · rw [hD3] at e; cases e
    have ev6 : Evo I H (own F) I5 H5 (fun a => a ∈ [D] ∨ own F5 a) := ev4.trans ev5 (fun _ z => .inr z) fun c z => z.imp .inl id
    cases b with
    | false =>
      dsimp only
      rw [if_neg (by decide)]
      exact ⟨hlt, acc, wipeS σ5 vs, fin ev6 ((sb'.trans u1).trans ev5.up) st5 hD5 (pw.sub (u1.trans ev5.up)) nI5 nF5, ifb.ff q5⟩
    | true =>
      dsimp only
      rw [if_pos rfl]
      refine ⟨I5, F5, σ5, _, st5, ifb.tt q5, fun cls d σ' I9 H9 F9 σ9 ed ev9 st9 ed9 q9 => ?_, ?_⟩
      · exact fW cls d σ I9 H9 (fun _ => []) (blankS σs) ed ((ev6.trans ev9 (p1 := own F5) (fun _ z => .inr z) (o3 := own F9) fun c z => .inr z).sameo fun a z => by
          obtain ⟨i, z⟩ := z
          cases z) ⟨st9.sub, (fun i r z => by rw [gets_blank] at z; cases z), fun _ _ => rfl, (fun _ _ _ z => by cases z), (fun _ _ z => by cases z), (fun i v r _ z => by rw [gets_blank] at z; cases z), (by rw [← st.len]; unfold blankS; simp)⟩ ed9 q9
      rintro y H7 ⟨r, R, I7, F7, σ7, ev7, st7, sr7, nf7, nI7, q7⟩
      obtain ⟨e, er, hz, q8⟩ := nd_some q7
      have hD7 : H7 D = some (.lst ws) := ev7.fr _ _ hD5 nF5
      have nI7' : I7 D = none := by
        cases e : I7 D with
        | none => rfl
        | some y =>
          rcases ev7.ni D y e with e | e | e
          · rw [nI5] at e; cases e
          · exact absurd e nF5
          · rw [hD5] at e; cases e
      have nFR : ¬ (D ∈ R ∨ own F7 D) := fun z => by
        rcases ev7.nw D z with e | e
        · exact nF5 e
        · rw [hD5] at e; cases e
      have pr := sr7.freeze er nI7
      -- the list grows
      have up7 : ∀ a x, a ≠ D → H7 a = some x → upd H7 D (.lst (ws ++ [y])) a = some x := fun a x n e => by
        rw [upd_ne n]
        exact e
      have nfz : fz I7 H7 R D = none := by
        rw [fz_out fun z => nFR (.inl z)]
        exact nI7'
      have sub8 : Sub (fz I7 H7 R) (upd H7 D (.lst (ws ++ [y]))) := fun a x e => up7 a x (fun z => by rw [z, nfz] at e; cases e) (fz_sub st7.sub a x e)
      have st8 : StR X.K ar (fz I7 H7 R) (upd H7 D (.lst (ws ++ [y]))) σ4 σ7 F7 := st7.keep sub8 (sub_fz nI7) (fun a m x e => up7 a x (fun z => nFR (.inr (z ▸ m))) e) fun a m => by
        rw [fz_out fun z => nf7 a z m]
        exact st7.ownI m
      have ev8 : Evo I H (own F) (fz I7 H7 R) (upd H7 D (.lst (ws ++ [y]))) (fun a => a ∈ [D] ∨ own F7 a) := by
        have evA := ev6.trans ev7 (p1 := own F5) (fun _ z => .inr z) (o3 := fun a => a ∈ [D] ∨ (a ∈ R ∨ own F7 a)) fun c z => by
          rcases z with z | z
          · exact .inl (.inl z)
          · exact .inr z
        refine ⟨evA.up.trans (sub_fz nI7), fun a x e n => ?_, fun a z => evA.nw a (z.imp id .inr), fun a x e => ?_⟩
        · have hx := evA.fr a x e n
          refine up7 a x (fun z => ?_) hx
          subst z
          rcases ev'.nw a (.inl (by simp)) with z | z
          · exact n z
          · rw [e] at z; cases z
        · unfold fz at e
          split at e
          · rename_i m
            exact .inr (evA.nw a (.inr (.inl m)))
          · exact evA.ni a x e
      refine ⟨ws, hD7, by rw [pw.length]; exact hz, hlt, acc ++ [e], wipeS σ7 vs, fin ev8 ((((sb'.trans u1).trans ev5.up).trans ev7.up).trans (sub_fz nI7)) st8 upd_same ?_ nfz (fun z => nFR (.inr z)), q8⟩
      exact (pw.sub ((u1.trans ev5.up).trans (ev7.up.trans (sub_fz nI7)))).append (.cons pr .nil)
  · have ei : i = ds.length := by omega
    subst ei
    rw [List.drop_length] at q'
    have one : ∀ a ∈ [D], a = D := fun a m => by simpa using m
    exact .inl ⟨W.stop I' H' sb' st'.sub _ (Nat.le_refl _), hQ _ _ ⟨.lst acc, [D], I', F', σs', ev', st'.unwipe, .lst hD' pw, fun a m z => nF' (by rw [← one a m]; exact z), fun a m => by rw [one a m]; exact nI', q'⟩⟩

variable {ar : Nat → Option V} {ti : TIs} {g : TGt} {ts : List Nat} {tt : TTs} {te : TEs} {elt tg iter : Expr} {ifs : List Expr} {scope : Scope} {ow : List (Str × Nat)} {b : Bool} {pos : Pos}
theorem je_lcY (hst : X.stack = X.env :: X.outer) (hf : X.env.frame = some X.env.locals) (hc : X.calm = true) (hN : X.N.Nodup) (hi : JI X ar tg iter ti) (ok : BlkOk X.N X.env.scope scope ow) (hts : ∀ t ∈ ts, t ∈ ow.map (·.2))
    (hg : ∀ (s : Shared) (H : Hp) (C : Addr) (cl : List (Str × Addr)) (fp : List Addr), JG (BlkCx X s H scope C cl fp) ar tg g ts) (ht : ∀ (s : Shared) (H : Hp) (C : Addr) (cl : List (Str × Addr)) (fp : List Addr) (E : Value → Shared → Prop), JQx (BlkCx X s H scope C cl fp) E ar ifs tt)
    (he : ∀ (s : Shared) (H : Hp) (C : Addr) (cl : List (Str × Addr)) (fp : List Addr) (E : Value → Shared → Prop), JE ((BlkCx X s H scope C cl fp).wish E) ar b true elt te) (hs : ∀ x, foldedSetIterable iter X.env x = pure x := by intro _; rfl) :
    JE X ar false true (.ListComp elt [⟨tg, iter, ifs, 0⟩] scope pos) (sLcY ti g tt te (ow.map (·.2))) := by
  refine ⟨fun pins s σ I H F σs Qk ES J st tx q => ?_⟩
  obtain ⟨W, tk, fW⟩ := id tx
  rw [eval_ListComp]
  refine wpAny_mono (lcy_core (g := liG X ar g ts) (tt := liTx X.K ar (fun cls d _ H' => W cls d σ H') tt (fun cls ed _ => ES cls ed (blankS σs))) (te := liEx X.K ar (fun cls d _ H' => W cls d σ H') te (fun cls ed _ => ES cls ed (blankS σs))) (Q := OutE X.K ar I H F σ Qk) (Qf := RP X ar pins σ false true I H F σs Qk) (W := W) (WB := fun cls d _ H' => W cls d σ H') hst hf tk (fun _ _ _ _ z => z) hc hN J hi ok (fun s H C cl fp => hg s H C cl fp) (fun s H C cl fp => (ht s H C cl fp _).pts rfl)
    (fun s H C cl fp => (he s H C cl fp _).pex) hs (lcy_imp fW hts st tx q fun _ _ z => z) fun D C s' m H' I' q hn f => ⟨m, hn, fun h'' sb => ?_⟩) (fun _ _ z => z) fun _ _ z => z
  obtain ⟨f0, f1, f2, f3, f4, f5⟩ := f
  obtain ⟨r, R, I2, F2, σ2, ev, st2, sr, nf, nI, q2⟩ := q
  exact ⟨.ref D, r, R, I2, H', F2, σ2, ⟨I'.turned (t' := s'.toks) (fun b o hb e => (sb.2 b hb).trans e) f0 f1 f3 f4 f5, ev, st2, sr, fun _ => nf, nI, fun z => Bool.noConfusion z⟩, rfl, q2⟩
end
end SV
namespace SV
open PySem PySem.Spec PyProof.Rows L2
section
variable {α : Type} {g : TGt} {tt : TTs} {te : TEs} {vs : List Nat} {ES : XS} {K : List PyData → SSt → Prop}
theorem lcy_map (f : α → PyData) (Iv : List α → List PyData → SSt → Prop) (step : ∀ x r acc σs (N : List PyData → SSt → Prop), (∀ acc' σ', Iv r acc' σ' → N acc' σ') → Iv (x :: r) acc σs →
      nd (g (f x) σs) fun σ1 => tt σ1 (fun b σ2 => ifb b (te σ2 (fun r σ3 => nd r.toD fun d => acc.length < sizeLine ∧ N (acc ++ [d]) (wipeS σ3 vs)) ES) (N acc (wipeS σ2 vs))) ES)
    (fin : ∀ acc σs, Iv [] acc σs → K acc σs) : ∀ (xs : List α) (acc : List PyData) (σs : SSt), Iv xs acc σs → lcTY g tt te vs ES (xs.map f) acc σs K
  | [], acc, σs, h => fin acc σs h
  | x :: r, acc, σs, h => step x r acc σs (fun acc' σ' => lcTY g tt te vs ES (r.map f) acc' σ' K) (fun acc' σ' h' => lcy_map f Iv step fin r acc' σ' h') h
theorem lcy_pre (f : α → PyData) (Iv : List α → List PyData → SSt → Prop) (xs : List α) (step : ∀ done x r acc σs (N : List PyData → SSt → Prop), xs = done ++ x :: r → (∀ acc' σ', Iv (done ++ [x]) acc' σ' → N acc' σ') → Iv done acc σs →
      nd (g (f x) σs) fun σ1 => tt σ1 (fun b σ2 => ifb b (te σ2 (fun r σ3 => nd r.toD fun d => acc.length < sizeLine ∧ N (acc ++ [d]) (wipeS σ3 vs)) ES) (N acc (wipeS σ2 vs))) ES)
    (fin : ∀ acc σs, Iv xs acc σs → K acc σs) (σs : SSt) (h : Iv [] [] σs) : lcTY g tt te vs ES (xs.map f) [] σs K := by
  refine lcy_map f (fun rem acc σ => ∃ done, xs = done ++ rem ∧ Iv done acc σ) (fun x r acc σs N hN h => ?_) (fun acc σs h => ?_) xs [] σs ⟨[], rfl, h⟩
  · obtain ⟨done, e, hi⟩ := h
    exact step done x r acc σs N e (fun acc' σ' h' => hN acc' σ' ⟨done ++ [x], by rw [e, List.append_assoc]; rfl, h'⟩) hi
  · obtain ⟨done, e, hi⟩ := h
    rw [List.append_nil] at e
    rw [← e] at hi
    exact fin acc σs hi
theorem lcy_range (f : Nat → PyData) (Iv : Nat → List PyData → SSt → Prop) (n : Nat) (step : ∀ i acc σs (N : List PyData → SSt → Prop), i < n → (∀ acc' σ', Iv (i + 1) acc' σ' → N acc' σ') → Iv i acc σs →
      nd (g (f i) σs) fun σ1 => tt σ1 (fun b σ2 => ifb b (te σ2 (fun r σ3 => nd r.toD fun d => acc.length < sizeLine ∧ N (acc ++ [d]) (wipeS σ3 vs)) ES) (N acc (wipeS σ2 vs))) ES)
    (fin : ∀ acc σs, Iv n acc σs → K acc σs) (σs : SSt) (h : Iv 0 [] σs) : lcTY g tt te vs ES ((List.range n).map f) [] σs K := by
  refine lcy_pre f (fun done acc σ => Iv done.length acc σ) (List.range n) (fun done x r acc σs N e hN hi => ?_) (fun acc σs h => fin acc σs (by rwa [List.length_range] at h)) σs h
  have hl := congrArg List.length e
  rw [List.length_range, List.length_append, List.length_cons] at hl
  have hx : x = done.length := by
    have h1 : (List.range n)[done.length]? = some x := by rw [e]; simp
    rw [List.getElem?_range (by omega)] at h1
    exact (Option.some.inj h1).symm
  subst hx
  exact step _ acc σs N (by omega) (fun acc' σ' h' => hN acc' σ' (by rw [List.length_append]; exact h')) hi
end
end SV
namespace K13
open PySem PySem.Spec PyProof.Rows L2 SV
def topS (i : Nat) : Stmt := PySem.Challenge.pw_coheir_k13_what_programs_access.main.body.getD i (.Pass ⟨0, 0, 0, 0⟩)
abbrev s_isinstruction : Stmt := topS 11
theorem sc_isinstruction : FnScope ["one"] ["one"] (defScope s_isinstruction) := ⟨rfl, rfl, rfl, by decide +kernel, rfl, by decide +kernel, by decide +kernel⟩
abbrev s_isprogram : Stmt := topS 12
theorem sc_isprogram : FnScope ["program", "core", "one"] ["program"] (defScope s_isprogram) := ⟨rfl, rfl, rfl, by decide +kernel, rfl, by decide +kernel, by decide +kernel⟩
abbrev s_checkprogram : Stmt := topS 13
theorem sc_checkprogram : FnScope ["program"] ["program"] (defScope s_checkprogram) := ⟨rfl, rfl, rfl, by decide +kernel, rfl, by decide +kernel, by decide +kernel⟩
abbrev s_beginning : Stmt := topS 18
theorem sc_beginning : FnScope ["program", "counts", "count", "core"] ["program", "counts"] (defScope s_beginning) := ⟨rfl, rfl, rfl, by decide +kernel, rfl, by decide +kernel, by decide +kernel⟩
abbrev s_withcores : Stmt := topS 17
theorem sc_withcores : FnScope ["program", "order", "c"] ["program", "order"] (defScope s_withcores) := ⟨rfl, rfl, rfl, by decide +kernel, rfl, by decide +kernel, by decide +kernel⟩
abbrev s_withlines : Stmt := topS 16
theorem sc_withlines : FnScope ["program", "lines", "found", "core", "line", "one"] ["program", "lines"] (defScope s_withlines) := ⟨rfl, rfl, rfl, by decide +kernel, rfl, by decide +kernel, by decide +kernel⟩
abbrev s_accesses : Stmt := topS 14
theorem sc_accesses : FnScope ["program", "line", "found", "c", "core", "i", "one"] ["program", "line"] (defScope s_accesses) := ⟨rfl, rfl, rfl, by decide +kernel, rfl, by decide +kernel, by decide +kernel⟩
abbrev s_linesof : Stmt := topS 15
theorem sc_linesof : FnScope ["program", "line"] ["program"] (defScope s_linesof) := ⟨rfl, rfl, rfl, by decide +kernel, rfl, by decide +kernel, by decide +kernel⟩
abbrev s_lawtold : Stmt := topS 28
theorem sc_lawtold : FnScope ["way", "program", "given", "error", "kinds"] ["way", "program", "given"] (defScope s_lawtold) := ⟨rfl, rfl, rfl, by decide +kernel, rfl, by decide +kernel, by decide +kernel⟩
abbrev s_lawput : Stmt := topS 23
theorem sc_lawput : FnScope ["parts", "at", "part"] ["parts", "at", "part"] (defScope s_lawput) := ⟨rfl, rfl, rfl, by decide +kernel, rfl, by decide +kernel, by decide +kernel⟩
abbrev s_lawnext : Stmt := topS 22
theorem sc_lawnext : FnScope ["draws"] ["draws"] (defScope s_lawnext) := ⟨rfl, rfl, rfl, by decide +kernel, rfl, by decide +kernel, by decide +kernel⟩
abbrev s_lawmixed : Stmt := topS 31
theorem sc_lawmixed : FnScope ["draws", "numbers", "found", "number"] ["draws", "numbers"] (defScope s_lawmixed) := ⟨rfl, rfl, rfl, by decide +kernel, rfl, by decide +kernel, by decide +kernel⟩
abbrev s_lawrenamed : Stmt := topS 30
theorem sc_lawrenamed : FnScope ["program", "lines", "found", "core", "row", "one"] ["program", "lines"] (defScope s_lawrenamed) := ⟨rfl, rfl, rfl, by decide +kernel, rfl, by decide +kernel, by decide +kernel⟩
abbrev s_lawaccesses : Stmt := topS 29
theorem sc_lawaccesses : FnScope ["program", "line", "found", "c", "i"] ["program", "line"] (defScope s_lawaccesses) := ⟨rfl, rfl, rfl, by decide +kernel, rfl, by decide +kernel, by decide +kernel⟩
abbrev s_lawone : Stmt := topS 24
theorem sc_lawone : FnScope ["draws", "lines", "kind", "line", "value"] ["draws", "lines"] (defScope s_lawone) := ⟨rfl, rfl, rfl, by decide +kernel, rfl, by decide +kernel, by decide +kernel⟩
abbrev s_lawprogram : Stmt := topS 25
theorem sc_lawprogram : FnScope ["draws", "cores", "most", "lines", "i", "c"] ["draws", "cores", "most", "lines"] (defScope s_lawprogram) := ⟨rfl, rfl, rfl, by decide +kernel, rfl, by decide +kernel, by decide +kernel⟩
abbrev s_lawmore : Stmt := topS 26
theorem sc_lawmore : FnScope ["draws", "many", "seed", "more", "k"] ["draws", "many"] (defScope s_lawmore) := ⟨rfl, rfl, rfl, by decide +kernel, rfl, by decide +kernel, by decide +kernel⟩
abbrev s_lawanyprogram : Stmt := topS 27
theorem sc_lawanyprogram : FnScope ["draws"] ["draws"] (defScope s_lawanyprogram) := ⟨rfl, rfl, rfl, by decide +kernel, rfl, by decide +kernel, by decide +kernel⟩
abbrev s_lawnumber : Stmt := topS 20
theorem sc_lawnumber : FnScope ["cell"] ["cell"] (defScope s_lawnumber) := ⟨rfl, rfl, rfl, by decide +kernel, rfl, by decide +kernel, by decide +kernel⟩
abbrev s_lawdraws : Stmt := topS 21
theorem sc_lawdraws : FnScope ["script", "draws", "cell", "rest", "k", "once", "twice"] ["script"] (defScope s_lawdraws) := ⟨rfl, rfl, rfl, by decide +kernel, rfl, by decide +kernel, by decide +kernel⟩
abbrev s_law : Stmt := topS 32
theorem sc_law : FnScope ["script", "draws", "program", "count", "line", "due", "told", "lines", "order", "c", "counts", "core", "some", "bad", "way"] ["script"] (defScope s_law) := ⟨rfl, rfl, rfl, by decide +kernel, rfl, by decide +kernel, by decide +kernel⟩
def tab_PARTS : List (Str × Int) := [("load", 2), ("store", 3), ("swap", 3), ("fence", 1)]
/-- what the top has written -/
structure Facts (P : Program) (w : World) (K : PySem.W.Frag) (mg : Str → Option Value) where
  a_isinstruction : Addr
  d_isinstruction : FuncData
  F_isinstruction : Fun K "is_instruction" "is_instruction" s_isinstruction a_isinstruction d_isinstruction
  b_isinstruction : Binds K d_isinstruction ["one"] []
  g_isinstruction : mg "is_instruction" = some (.ref a_isinstruction)
  a_isprogram : Addr
  d_isprogram : FuncData
  F_isprogram : Fun K "is_program" "is_program" s_isprogram a_isprogram d_isprogram
  b_isprogram : Binds K d_isprogram ["program"] []
  g_isprogram : mg "is_program" = some (.ref a_isprogram)
  a_checkprogram : Addr
  d_checkprogram : FuncData
  F_checkprogram : Fun K "check_program" "check_program" s_checkprogram a_checkprogram d_checkprogram
  b_checkprogram : Binds K d_checkprogram ["program"] []
  g_checkprogram : mg "check_program" = some (.ref a_checkprogram)
  a_beginning : Addr
  d_beginning : FuncData
  F_beginning : Fun K "beginning" "beginning" s_beginning a_beginning d_beginning
  b_beginning : Binds K d_beginning ["program", "counts"] []
  g_beginning : mg "beginning" = some (.ref a_beginning)
  a_withcores : Addr
  d_withcores : FuncData
  F_withcores : Fun K "with_cores" "with_cores" s_withcores a_withcores d_withcores
  b_withcores : Binds K d_withcores ["program", "order"] []
  g_withcores : mg "with_cores" = some (.ref a_withcores)
  a_withlines : Addr
  d_withlines : FuncData
  F_withlines : Fun K "with_lines" "with_lines" s_withlines a_withlines d_withlines
  b_withlines : Binds K d_withlines ["program", "lines"] []
  g_withlines : mg "with_lines" = some (.ref a_withlines)
  a_accesses : Addr
  d_accesses : FuncData
  F_accesses : Fun K "accesses" "accesses" s_accesses a_accesses d_accesses
  b_accesses : Binds K d_accesses ["program", "line"] []
  g_accesses : mg "accesses" = some (.ref a_accesses)
  a_linesof : Addr
  d_linesof : FuncData
  F_linesof : Fun K "lines_of" "lines_of" s_linesof a_linesof d_linesof
  b_linesof : Binds K d_linesof ["program"] []
  g_linesof : mg "lines_of" = some (.ref a_linesof)
  a_lawtold : Addr
  d_lawtold : FuncData
  F_lawtold : Fun K "_law_told" "_law_told" s_lawtold a_lawtold d_lawtold
  b_lawtold : Binds K d_lawtold ["way", "program", "given"] []
  g_lawtold : mg "_law_told" = some (.ref a_lawtold)
  a_lawput : Addr
  d_lawput : FuncData
  F_lawput : Fun K "_law_put" "_law_put" s_lawput a_lawput d_lawput
  b_lawput : Binds K d_lawput ["parts", "at", "part"] []
  g_lawput : mg "_law_put" = some (.ref a_lawput)
  a_lawnext : Addr
  d_lawnext : FuncData
  F_lawnext : Fun K "_law_next" "_law_next" s_lawnext a_lawnext d_lawnext
  b_lawnext : Binds K d_lawnext ["draws"] []
  g_lawnext : mg "_law_next" = some (.ref a_lawnext)
  a_lawmixed : Addr
  d_lawmixed : FuncData
  F_lawmixed : Fun K "_law_mixed" "_law_mixed" s_lawmixed a_lawmixed d_lawmixed
  b_lawmixed : Binds K d_lawmixed ["draws", "numbers"] []
  g_lawmixed : mg "_law_mixed" = some (.ref a_lawmixed)
  a_lawrenamed : Addr
  d_lawrenamed : FuncData
  F_lawrenamed : Fun K "_law_renamed" "_law_renamed" s_lawrenamed a_lawrenamed d_lawrenamed
  b_lawrenamed : Binds K d_lawrenamed ["program", "lines"] []
  g_lawrenamed : mg "_law_renamed" = some (.ref a_lawrenamed)
  a_lawaccesses : Addr
  d_lawaccesses : FuncData
  F_lawaccesses : Fun K "_law_accesses" "_law_accesses" s_lawaccesses a_lawaccesses d_lawaccesses
  b_lawaccesses : Binds K d_lawaccesses ["program", "line"] []
  g_lawaccesses : mg "_law_accesses" = some (.ref a_lawaccesses)
  a_lawone : Addr
  d_lawone : FuncData
  F_lawone : Fun K "_law_one" "_law_one" s_lawone a_lawone d_lawone
  b_lawone : Binds K d_lawone ["draws", "lines"] []
  g_lawone : mg "_law_one" = some (.ref a_lawone)
  a_lawprogram : Addr
  d_lawprogram : FuncData
  F_lawprogram : Fun K "_law_program" "_law_program" s_lawprogram a_lawprogram d_lawprogram
  b_lawprogram : Binds K d_lawprogram ["draws", "cores", "most", "lines"] []
  g_lawprogram : mg "_law_program" = some (.ref a_lawprogram)
  a_lawmore : Addr
  d_lawmore : FuncData
  F_lawmore : Fun K "_law_more" "_law_more" s_lawmore a_lawmore d_lawmore
  b_lawmore : Binds K d_lawmore ["draws", "many"] []
  g_lawmore : mg "_law_more" = some (.ref a_lawmore)
  a_lawanyprogram : Addr
  d_lawanyprogram : FuncData
  F_lawanyprogram : Fun K "_law_any_program" "_law_any_program" s_lawanyprogram a_lawanyprogram d_lawanyprogram
  b_lawanyprogram : Binds K d_lawanyprogram ["draws"] []
  g_lawanyprogram : mg "_law_any_program" = some (.ref a_lawanyprogram)
  a_lawnumber : Addr
  d_lawnumber : FuncData
  F_lawnumber : Fun K "_law_number" "_law_number" s_lawnumber a_lawnumber d_lawnumber
  b_lawnumber : Binds K d_lawnumber ["cell"] []
  g_lawnumber : mg "_law_number" = some (.ref a_lawnumber)
  a_lawdraws : Addr
  d_lawdraws : FuncData
  F_lawdraws : Fun K "_law_draws" "_law_draws" s_lawdraws a_lawdraws d_lawdraws
  b_lawdraws : Binds K d_lawdraws ["script"] []
  g_lawdraws : mg "_law_draws" = some (.ref a_lawdraws)
  a_law : Addr
  d_law : FuncData
  F_law : Fun K "law" "law" s_law a_law d_law
  b_law : Binds K d_law ["script"] []
  g_law : mg "law" = some (.ref a_law)
  m_all : mg "all" = none
  m_any : mg "any" = none
  m_enumerate : mg "enumerate" = none
  m_int : mg "int" = none
  m_isinstance : mg "isinstance" = none
  m_len : mg "len" = none
  m_list : mg "list" = none
  m_range : mg "range" = none
  m_repr : mg "repr" = none
  m_sorted : mg "sorted" = none
  m_tuple : mg "tuple" = none
  m_zip : mg "zip" = none
  A_ACCESSES : Addr
  g_ACCESSES : mg "ACCESSES" = some (.ref A_ACCESSES)
  p_ACCESSES : ∀ I : Hp, PR K I (.ref A_ACCESSES) (.tuple [.str "load", .str "store", .str "swap"])
  t_MANY_LINES : Tok
  g_MANY_LINES : mg "MANY_LINES" = some (.int (4) t_MANY_LINES)
  t_MOST_CORES : Tok
  g_MOST_CORES : mg "MOST_CORES" = some (.int (12) t_MOST_CORES)
  t_MOST_INSTRUCTIONS : Tok
  g_MOST_INSTRUCTIONS : mg "MOST_INSTRUCTIONS" = some (.int (24) t_MOST_INSTRUCTIONS)
  t_MOST_VALUE : Tok
  g_MOST_VALUE : mg "MOST_VALUE" = some (.int (99) t_MOST_VALUE)
  A_PARTS : Addr
  g_PARTS : mg "PARTS" = some (.ref A_PARTS)
  d_PARTS : ∀ h : Heap, K.In h → StrTab P w h A_PARTS (tabI tab_PARTS)
  A_BadNumber : Addr
  g_BadNumber : mg "BadNumber" = some (.ref A_BadNumber)
  A_CoheirError : Addr
  g_CoheirError : mg "CoheirError" = some (.ref A_CoheirError)
  A_NotProgram : Addr
  g_NotProgram : mg "NotProgram" = some (.ref A_NotProgram)
  x_BadNumber : ExK K mg "BadNumber" A_BadNumber
  e_BadNumber : ExcC K A_BadNumber
  x_NotProgram : ExK K mg "NotProgram" A_NotProgram
  e_NotProgram : ExcC K A_NotProgram
  exm_BadNumber_CoheirError : PySem.W.exmOne K (.ref A_BadNumber) (.ref A_CoheirError) = some true
  exm_NotProgram_CoheirError : PySem.W.exmOne K (.ref A_NotProgram) (.ref A_CoheirError) = some true
  kit_BadNumber_BadNumber : PySem.W.kitOne K (.ref A_BadNumber) (.ref A_BadNumber) = some true
  kit_BadNumber_NotProgram : PySem.W.kitOne K (.ref A_BadNumber) (.ref A_NotProgram) = some false
  kit_NotProgram_BadNumber : PySem.W.kitOne K (.ref A_NotProgram) (.ref A_BadNumber) = some false
  kit_NotProgram_NotProgram : PySem.W.kitOne K (.ref A_NotProgram) (.ref A_NotProgram) = some true
theorem len_of1 {sp : Sps} {n : Nat} (h : ∀ ss Q E, sp ss Q E → ss.length = n) : ∀ ss Q E, sp ss Q E → ss.length = n := h
def I2 (ns : List Int) : List PyData := ns.map PyData.int
def sp_lawnumber : Sps := fun ss Q _ => ∃ i : Int, ss = [.val (.int i)] ∧ ∀ j : Int, Q (.val (.int j)) [none]
theorem len_lawnumber : ∀ ss Q E, sp_lawnumber ss Q E → ss.length = 1 := by rintro _ _ _ ⟨i, rfl, _⟩; rfl
def sp_lawnext : Sps := fun ss Q _ => ∃ ns : List Int, ss = [.lst (I2 ns)] ∧ ∀ (n : Int) (ms : List Int), ms.length ≤ ns.length → Q (.val (.int n)) [some (.lst (I2 ms))]
theorem len_lawnext : ∀ ss Q E, sp_lawnext ss Q E → ss.length = 1 := by rintro _ _ _ ⟨i, rfl, _⟩; rfl
def sp_lawdraws : Sps := fun ss Q _ => ∃ ns : List Int, ss = [.scr ns] ∧ ns.length ≤ 63 ∧ ∀ ms : List Int, ms.length ≤ 3780 → Q (.lst (I2 ms)) [some (.scr ns)]
theorem len_lawdraws : ∀ ss Q E, sp_lawdraws ss Q E → ss.length = 1 := by rintro _ _ _ ⟨i, rfl, _⟩; rfl
def sp_law : Sps := fun ss Q _ => ∃ ns : List Int, ss = [.scr ns] ∧ ns.length ≤ 63 ∧ Q (.val (.bool true)) [some (.scr ns)]
theorem len_law : ∀ ss Q E, sp_law ss Q E → ss.length = 1 := by rintro _ _ _ ⟨i, rfl, _⟩; rfl
theorem sp_start (ns : List Int) (h : ns.length ≤ 63) : sp_law [.scr ns] lawQ lawE := ⟨ns, rfl, h, rfl⟩
def inS (x : Str) (xs : List Str) : Bool := inD (.str x) (xs.map .str)
theorem inS_iff {x : Str} {xs : List Str} : inS x xs = true ↔ x ∈ xs := by
  unfold inS inD
  rw [List.any_map, List.any_eq_true]
  constructor
  · rintro ⟨y, my, hy⟩
    have : PyData.eqv (.str y) (.str x) = true := hy
    rw [eqv_str, decide_eq_true_eq] at this
    rwa [← this]
  · intro m
    refine ⟨x, m, ?_⟩
    show PyData.eqv (.str x) (.str x) = true
    rw [eqv_str]
    exact decide_eq_true rfl
theorem depAll_le {α : Type} {n : Nat} (f : α → PyData) (h : ∀ x, (f x).depth ≤ n) : ∀ xs : List α, PyData.depthAll (xs.map f) ≤ n
  | [] => by simp [PyData.depthAll]
  | x :: xs => by
    have h1 := h x
    have ih := depAll_le f h xs
    simp only [List.map_cons, PyData.depthAll]
    omega
theorem bulkAll_le {α : Type} {b : Nat} (f : α → PyData) : ∀ xs : List α, (∀ x ∈ xs, (f x).bulk ≤ b) → PyData.bulkAll (xs.map f) ≤ xs.length * (b + 1)
  | [], _ => by simp [PyData.bulkAll]
  | x :: xs, h => by
    have h1 := h x (by simp)
    have ih := bulkAll_le f xs fun y my => h y (by simp [my])
    simp only [List.map_cons, PyData.bulkAll, List.length_cons, Nat.succ_mul]
    omega
theorem smAll_of {α : Type} (f : α → PyData) : ∀ xs : List α, (∀ x ∈ xs, smI (f x) = true) → smAll (xs.map f) = true
  | [], _ => by simp [smAll]
  | x :: xs, h => by
    simp only [List.map_cons, smAll, h x (by simp), smAll_of f xs fun y my => h y (by simp [my]), Bool.and_self]
theorem zip_at {α : Type} {c : List α} {dn r : List (α × Nat)} {i : α} {k : Nat} (h : c.zipIdx = dn ++ (i, k) :: r) : k = dn.length ∧ c = dn.map (·.1) ++ i :: r.map (·.1) := by
  constructor
  · have e : c.zipIdx[dn.length]? = some (i, k) := by rw [h, List.getElem?_append_right (Nat.le_refl _), Nat.sub_self]; rfl
    rw [List.getElem?_zipIdx] at e
    cases h2 : c[dn.length]? with
    | none => rw [h2] at e; cases e
    | some y =>
      rw [h2] at e
      have := congrArg Prod.snd (Option.some.inj e)
      simp at this
      exact this.symm
  · have e : c.zipIdx.map (·.1) = c := by simp
    rw [← e, h, List.map_append]
    rfl
theorem flat_le {α β : Type} {b : Nat} (f : α → List β) : ∀ xs : List α, (∀ x ∈ xs, (f x).length ≤ b) → (xs.flatMap f).length ≤ xs.length * b
  | [], _ => by simp
  | x :: xs, h => by
    rw [List.flatMap_cons, List.length_append, List.length_cons, Nat.succ_mul]
    have := h x (by simp)
    have := flat_le f xs fun y m => h y (by simp [m])
    omega
theorem st_any {u : TSs} {σ1 : SSt} {D : Es} {ES : XS} (σ2 : SSt) (e : σ1 = σ2) (h : u σ2 D ES) : u σ1 D ES := e ▸ h
theorem s_tst {tc : TTs} {σ : SSt} {Q : Bool → SSt → Prop} {ES : XS} (k : Bool) (ht : ∀ Q : Bool → SSt → Prop, Q k σ → tc σ Q ES) (h : Q k σ) : tc σ Q ES := ht _ h
/-! ### what is asked -/
abbrev Ins := Str × List Int
def I1 (i : Ins) : PyData := .tuple (.str i.1 :: i.2.map .int)
def CD (c : List Ins) : PyData := .tuple (c.map I1)
def PD (p : List (List Ins)) : PyData := .tuple (p.map CD)
def isI : Ins → Bool
  | (w, []) => decide (w = "fence")
  | (w, [a]) => decide (w = "load") && decide (0 ≤ a ∧ a < 4)
  | (w, [a, b]) => (decide (w = "store") || decide (w = "swap")) && decide (0 ≤ a ∧ a < 4) && decide (1 ≤ b ∧ b ≤ 99)
  | _ => false
def isP (p : List (List Ins)) : Bool := decide (1 ≤ p.length) && decide (p.length ≤ 12) && p.all (fun c => decide (c.length ≤ 24)) && p.all (fun c => c.all isI)
/-- a shape that may be asked -/
def Shape (p : List (List Ins)) : Prop := p.length ≤ 30 ∧ ∀ c ∈ p, c.length ≤ 100
def sp_isinstruction : Sps := fun ss Q _ => ∃ i : Ins, ss = [.val (I1 i)] ∧ Q (.val (.bool (isI i))) [none]
theorem len_isinstruction : ∀ ss Q E, sp_isinstruction ss Q E → ss.length = 1 := by rintro _ _ _ ⟨i, rfl, _⟩; rfl
def sp_isprogram : Sps := fun ss Q _ => ∃ p : List (List Ins), ss = [.val (PD p)] ∧ Shape p ∧ Q (.val (.bool (isP p))) [none]
theorem len_isprogram : ∀ ss Q E, sp_isprogram ss Q E → ss.length = 1 := by rintro _ _ _ ⟨i, rfl, _⟩; rfl
def sp_checkprogram (C : Addr) : Sps := fun ss Q E => ∃ p : List (List Ins), ss = [.val (PD p)] ∧ Shape p ∧ (isP p = true → Q (.val .none) [none]) ∧ (isP p = false → E (.ref C) none)
theorem len_checkprogram {C : Addr} : ∀ ss Q E, sp_checkprogram C ss Q E → ss.length = 1 := by rintro _ _ _ ⟨i, rfl, _⟩; rfl
def sp_lawput : Sps := fun ss Q _ => ∃ (xs : List PyData) (i : Int) (x : PyData), ss = [.val (.tuple xs), .val (.int i), .val x] ∧ xs.length ≤ 1000 ∧ (0 ≤ i ∧ i < 1000) ∧ Q (.val (.tuple (xs.take i.toNat ++ [x] ++ xs.drop (i.toNat + 1)))) [none, none, none]
theorem len_lawput : ∀ ss Q E, sp_lawput ss Q E → ss.length = 3 := by rintro _ _ _ ⟨_, _, _, rfl, _⟩; rfl
def sp_lawone : Sps := fun ss Q _ => ∃ (ns : List Int), ss = [.lst (I2 ns), .val (.int 4)] ∧ ∀ i : Ins, isI i = true → ∀ ms : List Int, Q (.val (I1 i)) [some (.lst (I2 ms)), none]
theorem len_lawone : ∀ ss Q E, sp_lawone ss Q E → ss.length = 2 := by rintro _ _ _ ⟨_, rfl, _⟩; rfl
def sp_lawprogram : Sps := fun ss Q _ => ∃ (ns : List Int) (cores most : Int), ss = [.lst (I2 ns), .val (.int cores), .val (.int most), .val (.int 4)] ∧ (1 ≤ cores ∧ cores ≤ 12) ∧ (0 ≤ most ∧ most ≤ 24) ∧
  ∀ p : List (List Ins), isP p = true → ∀ ms : List Int, Q (.val (PD p)) [some (.lst (I2 ms)), none, none, none]
theorem len_lawprogram : ∀ ss Q E, sp_lawprogram ss Q E → ss.length = 4 := by rintro _ _ _ ⟨_, _, _, rfl, _⟩; rfl
def sp_lawmore : Sps := fun ss Q _ => ∃ (ns : List Int), ss = [.lst (I2 ns), .val (.int 1200)] ∧ ns.length ≤ 10000 ∧ ∀ ms ms2 : List Int, Q (.lst (I2 ms)) [some (.lst (I2 ms2)), none]
theorem len_lawmore : ∀ ss Q E, sp_lawmore ss Q E → ss.length = 2 := by rintro _ _ _ ⟨_, rfl, _⟩; rfl
def sp_lawanyprogram : Sps := fun ss Q _ => ∃ (ns : List Int), ss = [.lst (I2 ns)] ∧ ns.length ≤ 3780 ∧ ∀ p : List (List Ins), isP p = true → ∀ ms : List Int, Q (.val (PD p)) [some (.lst (I2 ms))]
theorem len_lawanyprogram : ∀ ss Q E, sp_lawanyprogram ss Q E → ss.length = 1 := by rintro _ _ _ ⟨_, rfl, _⟩; rfl
/-! ### the table of words -/
def arW (w : Str) : Int := if w = "load" then 2 else if w = "store" then 3 else if w = "swap" then 3 else if w = "fence" then 1 else 0
theorem ne_words : ("store" : Str) ≠ "load" ∧ ("swap" : Str) ≠ "load" ∧ ("swap" : Str) ≠ "store" ∧ ("fence" : Str) ≠ "load" ∧ ("fence" : Str) ≠ "store" ∧ ("fence" : Str) ≠ "swap" := by decide +kernel
theorem eqv_ni (i : Int) : PyData.eqv .none (.int i) = false := by
  first
  | rfl
  | (unfold PyData.eqv; rfl)
  | simp [PyData.eqv]
theorem eqv_look (w : Str) (n : Int) (hn : 1 ≤ n) : PyData.eqv (lookI tab_PARTS w) (.int n) = decide (arW w = n) := by
  unfold lookI tab_PARTS arW
  have hb : ∀ a b : Str, (a == b) = decide (a = b) := fun a b => by
    by_cases h : a = b
    · rw [decide_eq_true h]; simpa using h
    · rw [decide_eq_false h]; simpa using h
  by_cases h1 : w = "load"
  · subst h1
    rw [List.lookup_cons, hb, decide_eq_true rfl, if_pos rfl]
    exact eqv_int
  by_cases h2 : w = "store"
  · rw [List.lookup_cons, hb, decide_eq_false h1, if_neg h1]
    show PyData.eqv (match List.lookup w [("store", 3), ("swap", 3), ("fence", 1)] with
      | some i => .int i
      | none => .none) (.int n) = _
    rw [List.lookup_cons, hb, decide_eq_true h2, if_pos h2]
    exact eqv_int
  by_cases h3 : w = "swap"
  · rw [List.lookup_cons, hb, decide_eq_false h1, if_neg h1, if_neg h2, if_pos h3]
    show PyData.eqv (match List.lookup w [("store", 3), ("swap", 3), ("fence", 1)] with
      | some i => .int i
      | none => .none) (.int n) = _
    rw [List.lookup_cons, hb, decide_eq_false h2]
    show PyData.eqv (match List.lookup w [("swap", 3), ("fence", 1)] with
      | some i => .int i
      | none => .none) (.int n) = _
    rw [List.lookup_cons, hb, decide_eq_true h3]
    exact eqv_int
  rw [List.lookup_cons, hb, decide_eq_false h1, if_neg h1, if_neg h2, if_neg h3]
  show PyData.eqv (match List.lookup w [("store", 3), ("swap", 3), ("fence", 1)] with
    | some i => .int i
    | none => .none) (.int n) = _
  rw [List.lookup_cons, hb, decide_eq_false h2]
  show PyData.eqv (match List.lookup w [("swap", 3), ("fence", 1)] with
    | some i => .int i
    | none => .none) (.int n) = _
  rw [List.lookup_cons, hb, decide_eq_false h3]
  show PyData.eqv (match List.lookup w [("fence", 1)] with
    | some i => .int i
    | none => .none) (.int n) = _
  rw [List.lookup_cons, hb]
  by_cases h4 : w = "fence"
  · rw [decide_eq_true h4, if_pos h4]
    exact eqv_int
  · rw [decide_eq_false h4, if_neg h4]
    show PyData.eqv .none (.int n) = _
    rw [eqv_ni, decide_eq_false (by omega)]
theorem arW1 {w : Str} : arW w = 1 ↔ w = "fence" := by
  unfold arW
  obtain ⟨a, b, c, d, e, f⟩ := ne_words
  constructor
  · intro h
    split at h
    · omega
    · split at h
      · omega
      · split at h
        · omega
        · split at h
          · assumption
          · omega
  · rintro rfl
    rw [if_neg d, if_neg e, if_neg f, if_pos rfl]
theorem arW2 {w : Str} : arW w = 2 ↔ w = "load" := by
  unfold arW
  constructor
  · intro h
    split at h
    · assumption
    · split at h
      · omega
      · split at h
        · omega
        · split at h <;> omega
  · rintro rfl
    rw [if_pos rfl]
theorem arW3 {w : Str} : arW w = 3 ↔ w = "store" ∨ w = "swap" := by
  unfold arW
  obtain ⟨a, b, c, d, e, f⟩ := ne_words
  constructor
  · intro h
    split at h
    · omega
    · split at h
      · exact .inl (by assumption)
      · split at h
        · exact .inr (by assumption)
        · split at h <;> omega
  · rintro (rfl | rfl)
    · rw [if_neg a, if_pos rfl]
    · rw [if_neg b, if_neg c, if_pos rfl]
theorem arW4 (w : Str) : arW w ≤ 3 := by
  unfold arW
  split
  · omega
  · split
    · omega
    · split
      · omega
      · split <;> omega
theorem ifb_look {w : Str} {n : Int} (hn : 1 ≤ n) {A B : Prop} (h1 : arW w ≠ n → A) (h2 : arW w = n → B) : ifb (tru (.bool (!PyData.eqv (lookI tab_PARTS w) (.int n)))) A B := by
  show ifb (!PyData.eqv (lookI tab_PARTS w) (.int n)) A B
  rw [eqv_look w n hn]
  by_cases h : arW w = n
  · rw [decide_eq_true h]
    exact ifb_f rfl (h2 h)
  · rw [decide_eq_false h]
    exact ifb_t rfl (h1 h)
theorem dep_look (w : Str) : (lookI tab_PARTS w).depth ≤ 64 := by
  unfold lookI
  split
  · exact dep_int
  · exact dep_none
theorem isI_len {i : Ins} (h : isI i = true) : i.2.length ≤ 2 := by
  obtain ⟨w, ns⟩ := i
  rcases ns with _ | ⟨a, _ | ⟨b, _ | ⟨c, r⟩⟩⟩
  · exact Nat.zero_le _
  · show 1 ≤ 2
    decide
  · exact Nat.le_refl 2
  · cases h
theorem flat1 (x : PyData) : ∀ n : Nat, (List.replicate n [x]).flatten = List.replicate n x
  | 0 => rfl
  | n + 1 => by rw [List.replicate_succ, List.flatten_cons, flat1 x n]; rfl
theorem isI_load {a : Int} (h : 0 ≤ a ∧ a < 4) : isI ("load", [a]) = true := by
  show (decide (("load" : Str) = "load") && decide (0 ≤ a ∧ a < 4)) = true
  rw [decide_eq_true rfl, decide_eq_true h]
  rfl
theorem isI_store {a b : Int} (h : 0 ≤ a ∧ a < 4) (h2 : 1 ≤ b ∧ b ≤ 99) : isI ("store", [a, b]) = true := by
  show ((decide (("store" : Str) = "store") || decide (("store" : Str) = "swap")) && decide (0 ≤ a ∧ a < 4) && decide (1 ≤ b ∧ b ≤ 99)) = true
  rw [decide_eq_true rfl, decide_eq_true h, decide_eq_true h2]
  rfl
theorem isI_swap {a b : Int} (h : 0 ≤ a ∧ a < 4) (h2 : 1 ≤ b ∧ b ≤ 99) : isI ("swap", [a, b]) = true := by
  show ((decide (("swap" : Str) = "store") || decide (("swap" : Str) = "swap")) && decide (0 ≤ a ∧ a < 4) && decide (1 ≤ b ∧ b ≤ 99)) = true
  rw [decide_eq_true (show ("swap" : Str) = "swap" from rfl), Bool.or_true, decide_eq_true h, decide_eq_true h2]
  rfl
theorem isI_fence : isI ("fence", []) = true := by
  show decide (("fence" : Str) = "fence") = true
  exact decide_eq_true rfl
theorem inD_words (w : Str) : inD (.str w) [.str "store", .str "swap"] = (decide (w = "store") || decide (w = "swap")) := by
  show (PyData.eqv (.str "store") (.str w) || (PyData.eqv (.str "swap") (.str w) || false)) = _
  rw [eqv_str, eqv_str, Bool.or_false, decide_eq_decide.mpr (show ("store" : Str) = w ↔ w = "store" from ⟨Eq.symm, Eq.symm⟩), decide_eq_decide.mpr (show ("swap" : Str) = w ↔ w = "swap" from ⟨Eq.symm, Eq.symm⟩)]
theorem inD_lines (a : Int) : inD (.int a) [.int 0, .int 1, .int 2, .int 3] = decide (0 ≤ a ∧ a < 4) := by
  show (PyData.eqv (.int 0) (.int a) || (PyData.eqv (.int 1) (.int a) || (PyData.eqv (.int 2) (.int a) || (PyData.eqv (.int 3) (.int a) || false)))) = _
  rw [eqv_int, eqv_int, eqv_int, eqv_int]
  rw [Bool.eq_iff_iff]
  simp
  omega
theorem shape_of {p : List (List Ins)} (h : isP p = true) : Shape p := by
  unfold isP at h
  simp only [Bool.and_eq_true, decide_eq_true_eq] at h
  obtain ⟨⟨⟨_, h2⟩, h3⟩, _⟩ := h
  refine ⟨by omega, fun c m => ?_⟩
  have := List.all_eq_true.mp h3 c m
  have : c.length ≤ 24 := by simpa using this
  omega
theorem isI_cases {i : Ins} (h : isI i = true) : i = (("fence" : Str), []) ∨ (∃ a : Nat, a < 4 ∧ i = (("load" : Str), [(a : Int)])) ∨ ∃ (w : Str) (a b : Nat), (w = "store" ∨ w = "swap") ∧ a < 4 ∧ 1 ≤ b ∧ b < 100 ∧ i = (w, [(a : Int), (b : Int)]) := by
  obtain ⟨w, ns⟩ := i
  rcases ns with _ | ⟨a, _ | ⟨b, _ | ⟨c, r⟩⟩⟩
  · left
    have : w = "fence" := of_decide_eq_true h
    rw [this]
  · right; left
    have h : (decide (w = "load") && decide (0 ≤ a ∧ a < 4)) = true := h
    rw [Bool.and_eq_true, decide_eq_true_eq, decide_eq_true_eq] at h
    obtain ⟨rfl, h1, h2⟩ := h
    exact ⟨a.toNat, by omega, by rw [show (a.toNat : Int) = a by omega]⟩
  · right; right
    have h : ((decide (w = "store") || decide (w = "swap")) && decide (0 ≤ a ∧ a < 4) && decide (1 ≤ b ∧ b ≤ 99)) = true := h
    rw [Bool.and_eq_true, Bool.and_eq_true, Bool.or_eq_true, decide_eq_true_eq, decide_eq_true_eq, decide_eq_true_eq, decide_eq_true_eq] at h
    obtain ⟨⟨h1, h2⟩, h3⟩ := h
    exact ⟨w, a.toNat, b.toNat, h1, by omega, by omega, by omega, by rw [show (a.toNat : Int) = a by omega, show (b.toNat : Int) = b by omega]⟩
  · cases h
theorem isP_parts {p : List (List Ins)} (h : isP p = true) : 1 ≤ p.length ∧ p.length ≤ 12 ∧ (∀ c ∈ p, c.length ≤ 24) ∧ ∀ c ∈ p, ∀ i ∈ c, isI i = true := by
  unfold isP at h
  simp only [Bool.and_eq_true, decide_eq_true_eq, List.all_eq_true] at h
  exact ⟨h.1.1.1, h.1.1.2, h.1.2, h.2⟩
/-! ### new numbers -/
abbrev rngI (n : Nat) : List Int := (List.range n).map fun i : Nat => (i : Int)
def Pm (p : List Int) (n : Nat) : Prop := p.Perm (rngI n)
def px (p : List Int) (i : Int) : Int := p.getD i.toNat 0
def scat (p xs : List Int) : List Int := (List.range p.length).map fun j : Nat => xs.getD (p.idxOf (j : Int)) 0
theorem rngI_nd (n : Nat) : (rngI n).Nodup := by
  unfold rngI List.Nodup
  rw [List.pairwise_map]
  exact (List.nodup_range (n := n)).imp fun h e => h (by omega)
theorem Pm.len {p : List Int} {n : Nat} (h : Pm p n) : p.length = n := by
  have := List.Perm.length_eq h
  simpa [rngI] using this
theorem Pm.nd {p : List Int} {n : Nat} (h : Pm p n) : p.Nodup := (List.Perm.nodup_iff h).mpr (rngI_nd n)
theorem Pm.mem {p : List Int} {n : Nat} (h : Pm p n) {x : Int} : x ∈ p ↔ 0 ≤ x ∧ x < n := by
  rw [List.Perm.mem_iff h]
  simp only [rngI, List.mem_map, List.mem_range]
  constructor
  · rintro ⟨i, hi, rfl⟩
    omega
  · rintro ⟨h1, h2⟩
    exact ⟨x.toNat, by omega, by omega⟩
theorem px_at {p : List Int} {i : Nat} (h : i < p.length) : px p (i : Nat) = p[i] := by
  unfold px
  rw [show ((i : Nat) : Int).toNat = i by omega]
  simp [List.getD, List.getElem?_eq_getElem h]
theorem Pm.bd {p : List Int} {n : Nat} (h : Pm p n) {i : Int} (hi : 0 ≤ i ∧ i < n) : 0 ≤ px p i ∧ px p i < n := by
  obtain ⟨k, hk, rfl⟩ : ∃ k : Nat, k < n ∧ i = k := ⟨i.toNat, by omega, by omega⟩
  have hl := h.len
  rw [px_at (by omega)]
  exact h.mem.mp (List.getElem_mem (by omega))
theorem Pm.inj {p : List Int} {n : Nat} (h : Pm p n) {i j : Int} (hi : 0 ≤ i ∧ i < n) (hj : 0 ≤ j ∧ j < n) (e : px p i = px p j) : i = j := by
  obtain ⟨a, ha, rfl⟩ : ∃ k : Nat, k < n ∧ i = k := ⟨i.toNat, by omega, by omega⟩
  obtain ⟨b, hb, rfl⟩ : ∃ k : Nat, k < n ∧ j = k := ⟨j.toNat, by omega, by omega⟩
  have hl := h.len
  rw [px_at (by omega), px_at (by omega)] at e
  have := congrArg p.idxOf e
  rw [List.Nodup.idxOf_getElem h.nd, List.Nodup.idxOf_getElem h.nd] at this
  omega
theorem idx_at {p : List Int} (h : p.Nodup) {i : Nat} (hi : i < p.length) : p.idxOf p[i] = i := List.Nodup.idxOf_getElem h i hi
theorem scat_len (p xs : List Int) : (scat p xs).length = p.length := by simp [scat]
theorem scat_at {p xs : List Int} {n : Nat} (h : Pm p n) {i : Int} (hi : 0 ≤ i ∧ i < n) : (scat p xs).getD (px p i).toNat 0 = xs.getD i.toNat 0 := by
  obtain ⟨k, hk, rfl⟩ : ∃ k : Nat, k < n ∧ i = k := ⟨i.toNat, by omega, by omega⟩
  have hl := h.len
  have hb := h.bd hi
  have e1 : px p (k : Nat) = p[k] := px_at (by omega)
  have hlt : (px p (k : Nat)).toNat < (scat p xs).length := by
    rw [scat_len]
    omega
  rw [show ((k : Nat) : Int).toNat = k by omega]
  simp only [List.getD, List.getElem?_eq_getElem hlt, Option.getD_some]
  simp only [scat, List.getElem_map, List.getElem_range]
  rw [show (((px p (k : Nat)).toNat : Nat) : Int) = p[k] by omega, idx_at h.nd]
  simp [List.getD]
theorem scat_mem {p xs : List Int} {n : Nat} (h : Pm p n) (hx : xs.length = n) {x : Int} (m : x ∈ scat p xs) : x ∈ xs := by
  obtain ⟨j, hj, rfl⟩ := List.mem_map.mp m
  have hl := h.len
  have hm : (j : Int) ∈ p := h.mem.mpr ⟨by omega, by have := List.mem_range.mp hj; omega⟩
  have := List.idxOf_lt_length_of_mem hm
  rw [List.getD, List.getElem?_eq_getElem (by omega)]
  exact List.getElem_mem _
theorem getD_mem {xs : List Int} {i : Int} (hi : 0 ≤ i ∧ i < xs.length) : xs.getD i.toNat 0 ∈ xs := by
  have : i.toNat < xs.length := by omega
  rw [List.getD, List.getElem?_eq_getElem this]
  exact List.getElem_mem _
theorem rngI_pw (n : Nat) : (rngI n).Pairwise (· ≤ ·) := by
  unfold rngI
  rw [List.pairwise_map]
  exact (List.pairwise_lt_range (n := n)).imp fun h => by omega
theorem srt_iff {p : List Int} {n : Nat} : sortI p = rngI n ↔ Pm p n := ⟨fun h => by have := sortI_perm p; rw [h] at this; exact this.symm, fun h => sortI_eq h (rngI_pw n)⟩
theorem rng_data (n : Nat) : rangeD 0 (n : Int) = (rngI n).map .int := by
  unfold rangeD
  rw [show ((n : Int) - 0).toNat = n by omega]
  simp [rngI]
theorem px_get {p : List Int} {n : Nat} (h : Pm p n) {i : Int} (hi : 0 ≤ i ∧ i < n) : atI (p.map PyData.int) i = some (.int (px p i)) := by
  obtain ⟨k, hk, rfl⟩ : ∃ k : Nat, k < n ∧ i = k := ⟨i.toNat, by omega, by omega⟩
  have hl := h.len
  refine atI_nat ?_
  rw [List.getElem?_map, List.getElem?_eq_getElem (by omega), px_at (by omega)]
  rfl
theorem eqv_srt (p : List Int) (n : Nat) : PyData.eqv (.list (sortD (p.map .int))) (.list (rangeD 0 (n : Int))) = decide (sortI p = rngI n) := by
  rw [sortD_ints, rng_data, PyData.eqv]
  exact eqvs_map PyData.int (fun x y => eqv_int) _ _
theorem dep_list_ints (ns : List Int) : (PyData.list (ns.map .int)).depth ≤ 64 := by
  have := dep_ints ns
  rw [PyData.depth]
  omega
theorem noD_I1 (i : Ins) : noD (I1 i) = true := by simp [I1, noD, noDs, noDs_ints]
theorem noD_CD (c : List Ins) : noD (CD c) = true := by
  show noDs (c.map I1) = true
  exact noDs_map I1 noD_I1 c
theorem noD_PD (p : List (List Ins)) : noD (PD p) = true := by
  show noDs (p.map CD) = true
  exact noDs_map CD noD_CD p
theorem dep_I1 (i : Ins) : (I1 i).depth ≤ 2 := by
  have := dep_ints i.2
  unfold I1
  simp only [PyData.depth, PyData.depthAll]
  omega
theorem dep_CD (c : List Ins) : (CD c).depth ≤ 3 := by
  have := depAll_le I1 dep_I1 c
  unfold CD
  simp only [PyData.depth]
  omega
theorem dep_PD (p : List (List Ins)) : (PD p).depth ≤ 4 := by
  have := depAll_le CD dep_CD p
  unfold PD
  simp only [PyData.depth]
  omega
theorem show_I1 {i : Ins} (h : isI i = true) : smI (I1 i) = true ∧ (I1 i).bulk ≤ 20 := by
  have w6 : ∀ x ∈ (["core", "load", "store", "swap", "fence", "|"] : List Str), x.length ≤ 6 := by decide +kernel
  rcases isI_cases h with rfl | ⟨a, ha, rfl⟩ | ⟨w, a, b, hw, ha, hb, hb2, rfl⟩
  · have l := w6 "fence" (by simp)
    refine ⟨by simp [I1, smI, smAll], ?_⟩
    simp only [I1, List.map_nil, PyData.bulk, PyData.bulkAll, Str.length] at l ⊢
    omega
  · have l := w6 "load" (by simp)
    refine ⟨by simp [I1, smI, smAll]; omega, ?_⟩
    simp only [I1, List.map_nil, List.map_cons, PyData.bulk, PyData.bulkAll, Str.length] at l ⊢
    omega
  · have l := w6 w (by rcases hw with rfl | rfl <;> simp)
    refine ⟨by simp [I1, smI, smAll]; omega, ?_⟩
    simp only [I1, List.map_nil, List.map_cons, PyData.bulk, PyData.bulkAll, Str.length] at l ⊢
    omega
theorem show_CD {c : List Ins} (hl : c.length ≤ 24) (h : ∀ i ∈ c, isI i = true) : smI (CD c) = true ∧ (CD c).bulk ≤ 600 := by
  have b1 := bulkAll_le (b := 20) I1 c (fun i m => (show_I1 (h i m)).2)
  refine ⟨?_, ?_⟩
  · simp only [CD, smI]
    exact smAll_of I1 c fun i m => (show_I1 (h i m)).1
  · simp only [CD, PyData.bulk]
    omega
theorem show_PD {p : List (List Ins)} (h : isP p = true) : ReprS (PD p) := by
  obtain ⟨h1, h2, h3, h4⟩ := isP_parts h
  have b1 := bulkAll_le (b := 600) CD p (fun c m => (show_CD (h3 c m) (h4 c m)).2)
  refine ⟨?_, ?_, ?_⟩
  · simp only [PD, smI]
    exact smAll_of CD p fun c m => (show_CD (h3 c m) (h4 c m)).1
  · simp only [PD, PyData.bulk]
    omega
  · have := dep_PD p
    omega
/-- the accesses of a line -/
def accC (line : Int) (q : List Ins × Nat) : List (Int × Int) := ((q.1.zipIdx.filter fun x => decide (x.1.2.head? = some line)).map fun x => ((q.2 : Nat), (x.2 : Nat)))
def accP (p : List (List Ins)) (line : Int) : List (Int × Int) := p.zipIdx.flatMap (accC line)
def pairD2 (x : Int × Int) : PyData := .tuple [.int x.1, .int x.2]
def linesD (p : List (List Ins)) : List Nat := (List.range 4).filter fun l : Nat => decide (accP p (l : Int) ≠ [])
def renI (f : Int → Int) (i : Ins) : Ins := (i.1, match i.2 with
  | [] => []
  | a :: r => f a :: r)
def renP (f : Int → Int) (p : List (List Ins)) : List (List Ins) := p.map fun c => c.map (renI f)
def isPerm (n : Nat) (ns : List Int) : Bool := decide (sortI ns = rngI n)
def pickP (p : List (List Ins)) (ns : List Int) : List (List Ins) := ns.map fun i => p.getD i.toNat []
def okC (p : List (List Ins)) (ns : List Int) : Bool := decide (ns.length = p.length) && (List.zip ns p).all fun x => decide (0 ≤ x.1 ∧ x.1 ≤ x.2.length)
def begP (p : List (List Ins)) (ns : List Int) : List (List Ins) := (List.zip ns p).map fun x => x.2.take x.1.toNat
def W3 : List PyData := [.str "load", .str "store", .str "swap"]
theorem acc_w : inD (.str "load") W3 = true ∧ inD (.str "store") W3 = true ∧ inD (.str "swap") W3 = true ∧ inD (.str "fence") W3 = false := by decide +kernel
theorem acc_eq (a : Int) (r : List Int) (l : Int) : decide ((a :: r).head? = some l) = PyData.eqv (.int a) (.int l) := by
  rw [eqv_int]
  exact decide_eq_decide.mpr ⟨fun z => Option.some.inj z, fun z => by rw [z]; rfl⟩
theorem zip_eq (ns : List Int) (p : List (List Ins)) : zipD (ns.map .int) (p.map CD) = (ns.zip p).map fun x => .tuple [.int x.1, CD x.2] := by
  unfold zipD
  rw [List.zip_map, List.map_map]
  rfl
def sp_accesses (C1 C2 : Addr) : Sps := fun ss Q E => ∃ (p : List (List Ins)) (l : Int), ss = [.val (PD p), .val (.int l)] ∧ Shape p ∧ (isP p = false → E (.ref C1) none) ∧ (isP p = true → ¬ (0 ≤ l ∧ l < 4) → E (.ref C2) none) ∧ (isP p = true → (0 ≤ l ∧ l < 4) → Q (.lst ((accP p l).map pairD2)) [none, none])
theorem len_accesses {C1 C2 : Addr} : ∀ ss Q E, sp_accesses C1 C2 ss Q E → ss.length = 2 := by rintro _ _ _ ⟨_, _, rfl, _⟩; rfl
def sp_linesof (C1 C2 : Addr) : Sps := fun ss Q E => ∃ (p : List (List Ins)), ss = [.val (PD p)] ∧ Shape p ∧ (isP p = false → E (.ref C1) none) ∧ (isP p = true → Q (.lst ((linesD p).map fun l : Nat => .int (l : Int))) [none])
theorem len_linesof {C1 C2 : Addr} : ∀ ss Q E, sp_linesof C1 C2 ss Q E → ss.length = 1 := by rintro _ _ _ ⟨_, rfl, _⟩; rfl
def sp_withlines (C1 C2 : Addr) : Sps := fun ss Q E => ∃ (p : List (List Ins)) (ns : List Int), ss = [.val (PD p), .val (.tuple (ns.map .int))] ∧ Shape p ∧ ns.length ≤ 100 ∧ (isP p = false → E (.ref C1) none) ∧ (isP p = true → isPerm 4 ns = false → E (.ref C2) none) ∧ (isP p = true → isPerm 4 ns = true → Q (.val (PD (renP (px ns) p))) [none, none])
theorem len_withlines {C1 C2 : Addr} : ∀ ss Q E, sp_withlines C1 C2 ss Q E → ss.length = 2 := by rintro _ _ _ ⟨_, _, rfl, _⟩; rfl
def sp_withcores (C1 C2 : Addr) : Sps := fun ss Q E => ∃ (p : List (List Ins)) (ns : List Int), ss = [.val (PD p), .val (.tuple (ns.map .int))] ∧ Shape p ∧ ns.length ≤ 100 ∧ (isP p = false → E (.ref C1) none) ∧ (isP p = true → isPerm p.length ns = false → E (.ref C2) none) ∧ (isP p = true → isPerm p.length ns = true → Q (.val (PD (pickP p ns))) [none, none])
theorem len_withcores {C1 C2 : Addr} : ∀ ss Q E, sp_withcores C1 C2 ss Q E → ss.length = 2 := by rintro _ _ _ ⟨_, _, rfl, _⟩; rfl
def sp_beginning (C1 C2 : Addr) : Sps := fun ss Q E => ∃ (p : List (List Ins)) (ns : List Int), ss = [.val (PD p), .val (.tuple (ns.map .int))] ∧ Shape p ∧ ns.length ≤ 100 ∧ (isP p = false → E (.ref C1) none) ∧ (isP p = true → okC p ns = false → E (.ref C2) none) ∧ (isP p = true → okC p ns = true → Q (.val (PD (begP p ns))) [none, none])
theorem len_beginning {C1 C2 : Addr} : ∀ ss Q E, sp_beginning C1 C2 ss Q E → ss.length = 2 := by rintro _ _ _ ⟨_, _, rfl, _⟩; rfl
def sp_lawtold (C1 C2 : Addr) : Sps := fun ss Q _ => ∃ (w : Int) (p : List (List Ins)) (d : PyData), ss = [.val (.int w), .val (PD p), .val d] ∧ Shape p ∧ (isP p = false → Q (.val (.str "!program")) [none, none, none]) ∧
  ((w = 4 ∧ (isP p = true → Q (.lst ((linesD p).map fun l : Nat => .int (l : Int))) [none, none, none])) ∨
   (w = 0 ∧ ∃ l : Int, d = .int l ∧ (isP p = true → ¬ (0 ≤ l ∧ l < 4) → Q (.val (.str "!number")) [none, none, none]) ∧ (isP p = true → (0 ≤ l ∧ l < 4) → Q (.lst ((accP p l).map pairD2)) [none, none, none])) ∨
   (∃ ns : List Int, d = .tuple (ns.map .int) ∧ ns.length ≤ 100 ∧
    ((w = 1 ∧ (isP p = true → isPerm 4 ns = false → Q (.val (.str "!number")) [none, none, none]) ∧ (isP p = true → isPerm 4 ns = true → Q (.val (PD (renP (px ns) p))) [none, none, none])) ∨
     (w = 2 ∧ (isP p = true → isPerm p.length ns = false → Q (.val (.str "!number")) [none, none, none]) ∧ (isP p = true → isPerm p.length ns = true → Q (.val (PD (pickP p ns))) [none, none, none])) ∨
     (w = 3 ∧ (isP p = true → okC p ns = false → Q (.val (.str "!number")) [none, none, none]) ∧ (isP p = true → okC p ns = true → Q (.val (PD (begP p ns))) [none, none, none])))))
theorem len_lawtold {C1 C2 : Addr} : ∀ ss Q E, sp_lawtold C1 C2 ss Q E → ss.length = 3 := by rintro _ _ _ ⟨_, _, _, rfl, _⟩; rfl
theorem dep_I1' (i : Ins) : (I1 i).depth ≤ 64 := by have := dep_I1 i; omega
theorem eqv_fence (w : Str) (a : Int) (r : List Int) : PyData.eqv (I1 (w, a :: r)) (.tuple [.str "fence"]) = false := by
  unfold I1
  simp [PyData.eqv, PyData.eqvAll]
def sp_lawaccesses : Sps := fun ss Q _ => ∃ (p : List (List Ins)) (l : Int), ss = [.val (PD p), .val (.int l)] ∧ isP p = true ∧ Q (.lst ((accP p l).map pairD2)) [none, none]
theorem len_lawaccesses : ∀ ss Q E, sp_lawaccesses ss Q E → ss.length = 2 := by rintro _ _ _ ⟨_, _, rfl, _⟩; rfl
def sp_lawrenamed : Sps := fun ss Q _ => ∃ (p : List (List Ins)) (ns : List Int), ss = [.val (PD p), .val (.tuple (ns.map .int))] ∧ isP p = true ∧ isPerm 4 ns = true ∧ Q (.val (PD (renP (px ns) p))) [none, none]
theorem len_lawrenamed : ∀ ss Q E, sp_lawrenamed ss Q E → ss.length = 2 := by rintro _ _ _ ⟨_, _, rfl, _⟩; rfl
def sp_lawmixed : Sps := fun ss Q _ => ∃ (ns xs : List Int), ss = [.lst (I2 ns), .val (.list (xs.map .int))] ∧ xs.length ≤ 100 ∧ ∀ ys : List Int, ys.Perm xs → ∀ ms : List Int, Q (.tpl (ys.map .int)) [some (.lst (I2 ms)), none]
theorem len_lawmixed : ∀ ss Q E, sp_lawmixed ss Q E → ss.length = 2 := by rintro _ _ _ ⟨_, _, rfl, _⟩; rfl
/-! ### orders and their inverses -/
def invP (ys : List Int) (n : Nat) : List Int := (List.range n).map fun j : Nat => (ys.idxOf (j : Int) : Nat)
theorem inv_pm {ys : List Int} {n : Nat} (h : Pm ys n) : Pm (invP ys n) n := by
  have hl := h.len
  refine (List.perm_ext_iff_of_nodup ?_ (rngI_nd n)).mpr fun a => ?_
  · unfold invP List.Nodup
    rw [List.pairwise_map]
    refine List.Pairwise.imp_of_mem ?_ (List.nodup_range (n := n))
    intro i j mi mj hne e
    have hi := List.mem_range.mp mi
    have hj := List.mem_range.mp mj
    have m1 : (i : Int) ∈ ys := h.mem.mpr ⟨by omega, by omega⟩
    have m2 : (j : Int) ∈ ys := h.mem.mpr ⟨by omega, by omega⟩
    have e1 := List.getElem_idxOf (List.idxOf_lt_length_of_mem m1)
    have e2 := List.getElem_idxOf (List.idxOf_lt_length_of_mem m2)
    have e : ys.idxOf (i : Int) = ys.idxOf (j : Int) := by omega
    have e3 : (i : Int) = (j : Int) := by
      rw [← e1, ← e2]
      congr 1
    exact hne (by omega)
  · unfold invP
    simp only [rngI, List.mem_map, List.mem_range]
    constructor
    · rintro ⟨j, hj, rfl⟩
      have m1 : (j : Int) ∈ ys := h.mem.mpr ⟨by omega, by omega⟩
      exact ⟨_, by have := List.idxOf_lt_length_of_mem m1; omega, rfl⟩
    · rintro ⟨i, hi, rfl⟩
      have hb := h.mem.mp (List.getElem_mem (show i < ys.length by omega))
      refine ⟨(ys[i]).toNat, by omega, ?_⟩
      rw [show (((ys[i]).toNat : Nat) : Int) = ys[i] by omega, idx_at h.nd]
theorem inv_px {ys : List Int} {n : Nat} (h : Pm ys n) {a : Int} (ha : 0 ≤ a ∧ a < n) : px (invP ys n) (px ys a) = a := by
  obtain ⟨k, hk, rfl⟩ : ∃ k : Nat, k < n ∧ a = k := ⟨a.toNat, by omega, by omega⟩
  have hl := h.len
  have hb := h.bd ha
  rw [px_at (by omega)] at hb ⊢
  obtain ⟨j, hj⟩ : ∃ j : Nat, ys[k] = (j : Int) := ⟨ys[k].toNat, by omega⟩
  have hj2 : j < n := by omega
  rw [hj, px_at (by unfold invP; rw [List.length_map, List.length_range]; exact hj2)]
  unfold invP
  rw [List.getElem_map, List.getElem_range, ← hj, idx_at h.nd]
theorem px_inv {ys : List Int} {n : Nat} (h : Pm ys n) {a : Int} (ha : 0 ≤ a ∧ a < n) : px ys (px (invP ys n) a) = a := by
  obtain ⟨k, hk, rfl⟩ : ∃ k : Nat, k < n ∧ a = k := ⟨a.toNat, by omega, by omega⟩
  have m1 : (k : Int) ∈ ys := h.mem.mpr ha
  have hlt := List.idxOf_lt_length_of_mem m1
  rw [px_at (by unfold invP; rw [List.length_map, List.length_range]; exact hk)]
  unfold invP
  rw [List.getElem_map, List.getElem_range, px_at hlt]
  exact List.getElem_idxOf hlt
theorem place_ints (ys : List Int) {x : Int} (h : x ∈ ys) : SeqAt.dataPlace (ys.map .int) (.int x) = some (ys.idxOf x) := by
  unfold SeqAt.dataPlace
  rw [List.findIdx?_map]
  have e : ((fun y => PyData.eqv y (.int x)) ∘ PyData.int) = fun y => y == x := by
    funext y
    show PyData.eqv (.int y) (.int x) = (y == x)
    rw [eqv_int]
    by_cases z : y = x
    · rw [decide_eq_true z, z]
      simp
    · rw [decide_eq_false z]
      simp [z]
  rw [e]
  have := List.idxOf_lt_length_of_mem h
  unfold List.idxOf at this ⊢
  rw [List.findIdx?_eq_some_iff_findIdx_eq]
  exact ⟨this, rfl⟩
theorem ren_ok {p : List (List Ins)} {ns : List Int} (h : isP p = true) (hp : Pm ns 4) : isP (renP (px ns) p) = true := by
  obtain ⟨h1, h2, h3, h4⟩ := isP_parts h
  unfold isP renP
  rw [List.length_map, decide_eq_true h1, decide_eq_true h2, List.all_eq_true.mpr fun c m => ?_, List.all_eq_true.mpr fun c m => List.all_eq_true.mpr fun i mi => ?_]
  · rfl
  · obtain ⟨c0, mc, rfl⟩ := List.mem_map.mp m
    obtain ⟨i0, mi0, rfl⟩ := List.mem_map.mp mi
    rcases isI_cases (h4 c0 mc i0 mi0) with rfl | ⟨a, ha, rfl⟩ | ⟨w, a, b, hw, ha, hb, hb2, rfl⟩
    · exact isI_fence
    · exact isI_load (hp.bd (i := (a : Int)) ⟨by omega, by omega⟩)
    · rcases hw with rfl | rfl
      · exact isI_store (hp.bd (i := (a : Int)) ⟨by omega, by omega⟩) ⟨by omega, by omega⟩
      · exact isI_swap (hp.bd (i := (a : Int)) ⟨by omega, by omega⟩) ⟨by omega, by omega⟩
  · obtain ⟨c0, mc, rfl⟩ := List.mem_map.mp m
    exact decide_eq_true (by rw [List.length_map]; exact h3 c0 mc)
theorem ren_back {p : List (List Ins)} {ns : List Int} (h : isP p = true) (hp : Pm ns 4) : renP (px (invP ns 4)) (renP (px ns) p) = p := by
  obtain ⟨h1, h2, h3, h4⟩ := isP_parts h
  unfold renP
  rw [List.map_map]
  refine (List.map_congr_left fun c mc => ?_).trans (List.map_id p)
  show (c.map (renI (px ns))).map (renI (px (invP ns 4))) = c
  rw [List.map_map]
  refine (List.map_congr_left fun i mi => ?_).trans (List.map_id c)
  rcases isI_cases (h4 c mc i mi) with rfl | ⟨a, ha, rfl⟩ | ⟨w, a, b, hw, ha, hb, hb2, rfl⟩
  · rfl
  · show (("load" : Str), [px (invP ns 4) (px ns a)]) = _
    rw [inv_px hp ⟨by omega, by omega⟩]
    rfl
  · show (w, [px (invP ns 4) (px ns a), (b : Int)]) = _
    rw [inv_px hp ⟨by omega, by omega⟩]
    rfl
theorem pick_mem {p : List (List Ins)} {ns : List Int} (hp : Pm ns p.length) {c : List Ins} (m : c ∈ pickP p ns) : c ∈ p := by
  obtain ⟨i, mi, rfl⟩ := List.mem_map.mp m
  have hb := hp.mem.mp mi
  rw [List.getD, List.getElem?_eq_getElem (by omega)]
  exact List.getElem_mem _
theorem pick_ok {p : List (List Ins)} {ns : List Int} (h : isP p = true) (hp : Pm ns p.length) : isP (pickP p ns) = true := by
  obtain ⟨h1, h2, h3, h4⟩ := isP_parts h
  have hl : (pickP p ns).length = p.length := by unfold pickP; rw [List.length_map, hp.len]
  unfold isP
  rw [hl, decide_eq_true h1, decide_eq_true h2, List.all_eq_true.mpr fun c m => decide_eq_true (h3 c (pick_mem hp m)), List.all_eq_true.mpr fun c m => List.all_eq_true.mpr (h4 c (pick_mem hp m))]
  rfl
theorem pick_at {p : List (List Ins)} {ns : List Int} (hp : Pm ns p.length) {k : Nat} (hk : k < p.length) : (pickP p ns).getD k [] = p.getD (px ns (k : Nat)).toNat [] := by
  have hl := hp.len
  unfold pickP
  rw [List.getD, List.getElem?_map, List.getElem?_eq_getElem (by omega)]
  rw [px_at (by omega)]
  rfl
theorem pick_back {p : List (List Ins)} {ns : List Int} (hp : Pm ns p.length) : pickP (pickP p ns) (invP ns p.length) = p := by
  have hi := inv_pm hp
  refine List.ext_getElem (by unfold pickP; rw [List.length_map, hi.len]) fun k h1 h2 => ?_
  have hl : (pickP p ns).length = p.length := by unfold pickP; rw [List.length_map, hp.len]
  have hlk : k < (invP ns p.length).length := by rw [hi.len]; exact h2
  have hb := hi.bd (i := (k : Int)) ⟨by omega, by omega⟩
  have e0 : ∀ (q : List (List Ins)) (zs : List Int) (hz : k < zs.length) (hq : k < (pickP q zs).length), (pickP q zs)[k] = q.getD (zs[k]).toNat [] := fun q zs hz hq => by
    unfold pickP
    exact List.getElem_map _
  have e1 : (pickP (pickP p ns) (invP ns p.length))[k] = (pickP p ns).getD (px (invP ns p.length) (k : Nat)).toNat [] := by
    rw [px_at hlk]
    exact e0 _ _ hlk h1
  rw [e1, pick_at hp (by omega), show (((px (invP ns p.length) (k : Nat)).toNat : Nat) : Int) = px (invP ns p.length) (k : Nat) by omega, px_inv hp ⟨by omega, by omega⟩, List.getD, show ((k : Nat) : Int).toNat = k by omega, List.getElem?_eq_getElem h2]
  rfl
theorem beg_ok {p : List (List Ins)} {ns : List Int} (h : isP p = true) (hl : ns.length = p.length) : isP (begP p ns) = true := by
  obtain ⟨h1, h2, h3, h4⟩ := isP_parts h
  have hb : (begP p ns).length = p.length := by unfold begP; rw [List.length_map, List.length_zip]; omega
  have hm : ∀ c ∈ begP p ns, ∃ c0 ∈ p, ∃ n, c = c0.take n := fun c m => by
    obtain ⟨x, mx, rfl⟩ := List.mem_map.mp m
    exact ⟨x.2, (List.of_mem_zip mx).2, _, rfl⟩
  unfold isP
  rw [hb, decide_eq_true h1, decide_eq_true h2, List.all_eq_true.mpr fun c m => ?_, List.all_eq_true.mpr fun c m => List.all_eq_true.mpr fun i mi => ?_]
  · rfl
  · obtain ⟨c0, m0, n, rfl⟩ := hm c m
    exact h4 c0 m0 i (List.mem_of_mem_take mi)
  · obtain ⟨c0, m0, n, rfl⟩ := hm c m
    refine decide_eq_true ?_
    rw [List.length_take]
    have := h3 c0 m0
    omega
theorem acc_bd {p : List (List Ins)} (h : isP p = true) (l : Int) : (accP p l).length ≤ 288 ∧ ∀ x ∈ accP p l, (0 ≤ x.1 ∧ x.1 < 100) ∧ 0 ≤ x.2 ∧ x.2 < 100 := by
  obtain ⟨h1, h2, h3, h4⟩ := isP_parts h
  have hz : ∀ x ∈ p.zipIdx, x.1 ∈ p ∧ x.2 < p.length := fun x m => by
    have e : p.zipIdx.map (·.1) = p := by simp
    refine ⟨by rw [← e]; exact List.mem_map.mpr ⟨x, m, rfl⟩, ?_⟩
    have := (List.mem_zipIdx' m).1
    omega
  constructor
  · have := flat_le (b := 24) (accC l) p.zipIdx fun x m => by
      unfold accC
      rw [List.length_map]
      refine Nat.le_trans (List.length_filter_le _ _) ?_
      rw [List.length_zipIdx]
      exact h3 _ (hz x m).1
    rw [List.length_zipIdx] at this
    unfold accP
    omega
  · intro x m
    obtain ⟨y, my, m⟩ := List.mem_flatMap.mp m
    unfold accC at m
    obtain ⟨z, mz, rfl⟩ := List.mem_map.mp m
    have mz := (List.mem_filter.mp mz).1
    have h5 := hz y my
    have h6 := (List.mem_zipIdx' mz).1
    have := h3 _ h5.1
    exact ⟨⟨by show (0 : Int) ≤ (y.2 : Nat); omega, by show ((y.2 : Nat) : Int) < 100; omega⟩, by show (0 : Int) ≤ (z.2 : Nat); omega, by show ((z.2 : Nat) : Int) < 100; omega⟩
theorem show_acc {p : List (List Ins)} (h : isP p = true) (l : Int) : ReprS (.list ((accP p l).map pairD2)) := by
  obtain ⟨b1, b2⟩ := acc_bd h l
  refine ⟨?_, ?_, ?_⟩
  · simp only [smI]
    refine smAll_of pairD2 _ fun x m => ?_
    have := b2 x m
    simp [pairD2, smI, smAll]
    omega
  · have := bulkAll_le (b := 10) pairD2 (accP p l) (fun x m => by simp [pairD2, PyData.bulk, PyData.bulkAll])
    simp only [PyData.bulk]
    omega
  · have := depAll_le (n := 2) pairD2 (fun x => by simp [pairD2, PyData.depth, PyData.depthAll]) (accP p l)
    simp only [PyData.depth]
    omega
theorem nes (x : Str) : false = tru (.bool (!PyData.eqv (.str x) (.str x))) := by
  rw [eqv_str, decide_eq_true rfl]
  rfl
theorem neT {d e : PyData} (h : d = e) (hn : noD e = true) : false = tru (.bool (!PyData.eqv d e)) := by
  rw [h, eqv_self hn]
  rfl
theorem dep_PD' (p : List (List Ins)) : (PD p).depth ≤ 64 := by have := dep_PD p; omega
def T6 : List (List Int) := [[0, 1, 2], [0, 1, 2, 2], [1, 2, 3, 4], [0, 1, 2, 3, 3], [-1, 0, 1, 2], []]
theorem T6_no : ∀ x ∈ T6, x.length ≤ 100 ∧ isPerm 4 x = false := by
  intro x mx
  have key : (Pm x 4 → False) → isPerm 4 x = false := fun f => decide_eq_false fun z => f (srt_iff.mp z)
  simp only [T6, List.mem_cons, List.not_mem_nil, or_false] at mx
  rcases mx with rfl | rfl | rfl | rfl | rfl | rfl
  · exact ⟨by decide, key fun z => by have := z.len; simp at this⟩
  · exact ⟨by decide, key fun z => by have := z.nd; simp at this⟩
  · exact ⟨by decide, key fun z => by have := (z.mem (x := 4)).mp (by simp); omega⟩
  · exact ⟨by decide, key fun z => by have := z.len; simp at this⟩
  · exact ⟨by decide, key fun z => by have := (z.mem (x := -1)).mp (by simp); omega⟩
  · exact ⟨by decide, key fun z => by have := z.len; simp at this⟩
theorem show_str0 {x : Str} (h : x.length ≤ 1000) : ReprS (.str x) := ⟨by simp [smI], by simp only [PyData.bulk]; unfold Str.length at h; omega, by simp [PyData.depth]⟩
section
variable {P : Program} {w : World} {K : PySem.W.Frag} {mg : Str → Option Value} {base : Heap}
/-! ### is_instruction: slots 0 one -/
theorem ok_isinstruction (T : Facts P w K mg) : FnG P w K mg base 1 T.a_isinstruction T.d_isinstruction ["one"] sp_isinstruction := by
  refine fun_okG T.F_isinstruction sc_isinstruction len_isinstruction fun cdv A outer s H Ex vs ss Q E hr hg lv h => ?_
  have hu := hr.units
  have hu5 : (A.deeper (envOfC "is_instruction" (defScope s_isinstruction) s.heap.objs.size T.a_isinstruction cdv)).units + 65 < cLine := by have := hr.un; omega
  have np : PassesOwn (model P w) (A.deeper (envOfC "is_instruction" (defScope s_isinstruction) s.heap.objs.size T.a_isinstruction cdv)) (envOfC "is_instruction" (defScope s_isinstruction) s.heap.objs.size T.a_isinstruction cdv) (cxG P w K mg base ["one"] "is_instruction" (defScope s_isinstruction) T.a_isinstruction cdv A outer s H Ex).xe := PassesOwn.leaving
  obtain ⟨⟨w, ns⟩, rfl, q⟩ := h
  refine ⟨_, (jss_cons (js_if (jt_cmp (o_ne hu) (je_dget (by rfl) T.g_PARTS T.d_PARTS (je_ix o_ix (je_var 0) je_int)) (je_callB c_len (by rfl) T.m_len boot_len (jr_one (je_var 0)))) (jss_one (js_ret je_bl)) jss_nil)
    (jss_cons (js_if (jw_and (jt_cmp o_gt (je_callB c_len (by rfl) T.m_len boot_len (jr_one (je_var 0))) je_int) (jw_and1 (jt_not (jt_chain o_le o_lt je_int (je_ix o_ix (je_var 0) je_int) (je_glob (v := V.int (4)) (d := .int (4)) (by rfl) T.g_MANY_LINES ⟨_, rfl⟩ fun _ => .int _))))).jt (jss_one (js_ret je_bl)) jss_nil)
    (jss_one (js_ret (je_or (je_cmp o_lt (je_callB c_len (by rfl) T.m_len boot_len (jr_one (je_var 0))) je_int) (je_one (je_chain o_le o_le je_int (je_ix o_ix (je_var 0) je_int) (je_glob (v := V.int (99)) (d := .int (99)) (by rfl) T.g_MOST_VALUE ⟨_, rfl⟩ fun _ => .int _)))))))), ?_⟩
  rcases ns with _ | ⟨a, _ | ⟨b, _ | ⟨c, r⟩⟩⟩
  · refine need_of rfl (And.intro ⟨dep_look w, dep_int⟩ (ifb_look (n := 1) (by decide) (fun h => ?_) fun h => ?_))
    · exact qb q (decide_eq_false fun z => h (arW1.mpr z))
    · refine ifb_f rfl (ifb_f rfl (ifb_t rfl (qb q ?_)))
      exact decide_eq_true (arW1.mp h)
  · refine need_of rfl (And.intro ⟨dep_look w, dep_int⟩ (ifb_look (n := 2) (by decide) (fun h => ?_) fun h => ?_))
    · refine qb q ?_
      show (decide (w = "load") && _) = false
      rw [decide_eq_false fun z => h (arW2.mpr z)]
      rfl
    · have e : isI (w, [a]) = decide (0 ≤ a ∧ a < 4) := by
        show (decide (w = "load") && _) = _
        rw [decide_eq_true (arW2.mp h)]
        rfl
      rw [e] at q
      refine ifb_t rfl (need_of rfl (ifb_dec (fun h1 => ?_) fun h1 => ?_))
      · refine ifb_ndec (fun h2 => qb q ?_) (fun h2 => ifb_t rfl (qb q ?_))
        · exact decide_eq_false fun z => h2 z.2
        · exact decide_eq_true ⟨h1, h2⟩
      · exact ifb_t rfl (qb q (decide_eq_false fun z => h1 z.1))
  · refine need_of rfl (And.intro ⟨dep_look w, dep_int⟩ (ifb_look (n := 3) (by decide) (fun h => ?_) fun h => ?_))
    · refine qb q ?_
      show ((decide (w = "store") || decide (w = "swap")) && _ && _) = false
      rw [decide_eq_false fun z => h (arW3.mpr (.inl z)), decide_eq_false fun z => h (arW3.mpr (.inr z))]
      rfl
    · have e : isI (w, [a, b]) = (decide (0 ≤ a ∧ a < 4) && decide (1 ≤ b ∧ b ≤ 99)) := by
        show ((decide (w = "store") || decide (w = "swap")) && _ && _) = _
        rcases arW3.mp h with z | z
        · rw [decide_eq_true z]
          rfl
        · rw [decide_eq_true z, Bool.or_true]
          rfl
      rw [e] at q
      refine ifb_t rfl (need_of rfl (ifb_dec (fun h1 => ?_) fun h1 => ?_))
      · refine ifb_ndec (fun h2 => qb q ?_) (fun h2 => ?_)
        · rw [decide_eq_false fun z => h2 z.2]
          rfl
        · refine ifb_f rfl (need_of rfl (ifb_dec (fun h3 => qb q ?_) fun h3 => qb q ?_))
          · rw [decide_eq_true ⟨h1, h2⟩]
            exact decide_eq_decide.mpr ⟨fun z => z.2, fun z => ⟨h3, z⟩⟩
          · rw [decide_eq_false (fun z : 1 ≤ b ∧ b ≤ 99 => h3 z.1)]
            simp
      · refine ifb_t rfl (qb q ?_)
        rw [decide_eq_false fun z => h1 z.1]
        rfl
  · have l : ((PyData.str w :: List.map PyData.int (a :: b :: c :: r)).length : Int) ≥ 4 := by simp; omega
    refine need_of (x := .str w) (atI_nat (j := 0) rfl) ?_
    refine And.intro ⟨dep_look w, dep_int⟩ ?_
    refine ifb_look (n := ((PyData.str w :: List.map PyData.int (a :: b :: c :: r)).length : Int)) (by omega) (fun h => q) fun h => ?_
    have := arW4 w
    have h' : arW w = ((PyData.str w :: List.map PyData.int (a :: b :: c :: r)).length : Int) := h
    omega
/-! ### is_program: slots 0 program, 1 core, 2 one -/
theorem ok_isprogram (T : Facts P w K mg) : FnG P w K mg base 2 T.a_isprogram T.d_isprogram ["program"] sp_isprogram := by
  have G_isinstruction := ok_isinstruction (base := base) T
  refine fun_okG T.F_isprogram sc_isprogram len_isprogram fun cdv A outer s H Ex vs ss Q E hr hg lv h => ?_
  have hu := hr.units
  have hu5 : (A.deeper (envOfC "is_program" (defScope s_isprogram) s.heap.objs.size T.a_isprogram cdv)).units + 65 < cLine := by have := hr.un; omega
  have np : PassesOwn (model P w) (A.deeper (envOfC "is_program" (defScope s_isprogram) s.heap.objs.size T.a_isprogram cdv)) (envOfC "is_program" (defScope s_isprogram) s.heap.objs.size T.a_isprogram cdv) (cxG P w K mg base ["program", "core", "one"] "is_program" (defScope s_isprogram) T.a_isprogram cdv A outer s H Ex).xe := PassesOwn.leaving
  obtain ⟨p, rfl, sh, q⟩ := h
  refine ⟨_, (jss_cons (js_if (jw_or (jt_not (jt_chain o_le o_le je_int (je_callB c_len (by rfl) T.m_len boot_len (jr_one (je_var 0))) (je_glob (v := V.int (12)) (d := .int (12)) (by rfl) T.g_MOST_CORES ⟨_, rfl⟩ fun _ => .int _))) (jw_or1 (jt_val (je_callB (c_any rfl) (by rfl) T.m_any boot_any (jr_one (je_lc rfl sc_isprogram.nd (ji_seq (je_var 0)) (blkOk_by (own := [("core", 1)]) (by rfl)) (by decide) (fun _ _ _ _ _ => (jg_name (i := 1) sc_isprogram.nd rfl (by first | exact .inl rfl | exact .inr rfl))) (fun _ _ _ _ _ => jq_nil) (fun _ _ _ _ _ => (je_cmp o_gt (je_callB c_len (by rfl) T.m_len boot_len (jr_one (je_var 1))) (je_glob (v := V.int (24)) (d := .int (24)) (by rfl) T.g_MOST_INSTRUCTIONS ⟨_, rfl⟩ fun _ => .int _))))))))).jt (jss_one (js_ret je_bl)) jss_nil)
    (jss_one (js_ret (je_callB (c_all rfl) (by rfl) T.m_all boot_all (jr_one (je_lc2 (vs1 := [2]) rfl sc_isprogram.nd (ji_seq (je_var 0)) (blkOk_by (own := [("core", 1), ("one", 2)]) (by rfl)) (by decide) (by decide) (by decide) (fun _ _ _ _ _ => (jg_name (i := 1) sc_isprogram.nd rfl (by first | exact .inl rfl | exact .inr rfl))) (fun _ _ _ _ _ => jq_nil) (fun _ _ _ _ _ => (ji_seq (je_var 1))) (fun _ _ _ _ _ => (jg_name (i := 2) sc_isprogram.nd rfl (by first | exact .inl rfl | exact .inr rfl))) (fun _ _ _ _ _ => jq_nil) (fun _ _ _ _ _ => (je_call G_isinstruction (hr.mono (by decide)) hg (by rfl) T.g_isinstruction T.F_isinstruction.kp T.b_isinstruction (jc_val (je_var 2) jc_nil))))))))), ?_⟩
  have e0 : isP p = (decide (1 ≤ p.length) && decide (p.length ≤ 12) && p.all (fun c => decide (c.length ≤ 24)) && p.all (fun c => c.all isI)) := rfl
  have hl : ((p.map CD).length : Int) = p.length := by simp
  refine ifb_dec (fun h1 => ?_) fun h1 => ?_
  · have h1' : (1 : Int) ≤ ((p.map CD).length : Int) := h1
    have z1 : 1 ≤ p.length := by omega
    rw [decide_eq_true z1] at e0
    refine ifb_ndec (fun h2 => ?g2) (fun h2 => ?g1)
    case g1 =>
      have h2' : ((p.map CD).length : Int) ≤ 12 := h2
      have z2 : p.length ≤ 12 := by omega
      rw [decide_eq_true z2] at e0
      show lcT _ _ _ _ (p.map CD) _ _ _
      refine lc_pure CD (fun c : List Ins => .bool (decide ((((c.map I1).length : Nat) : Int) > 24))) (σ0 := [some (.val (PD p)), none, none]) (by simp) rfl p (by omega) (fun c _ Q2 hq => hq) ?_
      refine need_of (boolsOf_mapF _ _) ?_
      refine ifb_of (fun h3 => ?_) fun h3 => ?_
      · have e1 : p.all (fun c => decide (c.length ≤ 24)) = false := by
          have h3' : (p.map fun c : List Ins => decide ((((c.map I1).length : Nat) : Int) > 24)).any id = true := h3
          obtain ⟨b, mb, hb⟩ := List.any_eq_true.mp h3'
          obtain ⟨c, mc, rfl⟩ := List.mem_map.mp mb
          have hb' : (((c.map I1).length : Nat) : Int) > 24 := by simpa using hb
          rw [List.length_map] at hb'
          refine Bool.eq_false_iff.mpr fun z => ?_
          have := List.all_eq_true.mp z c mc
          have : c.length ≤ 24 := by simpa using this
          omega
        rw [e1] at e0
        rw [e0] at q
        exact q
      · have e1 : p.all (fun c => decide (c.length ≤ 24)) = true := by
          have h3' : (p.map fun c : List Ins => decide ((((c.map I1).length : Nat) : Int) > 24)).any id = false := h3
          refine List.all_eq_true.mpr fun c mc => ?_
          have h4 := List.any_eq_false.mp h3' _ (List.mem_map.mpr ⟨c, mc, rfl⟩)
          have h5 : ¬ (((c.map I1).length : Nat) : Int) > 24 := by simpa using h4
          rw [List.length_map] at h5
          exact decide_eq_true (by omega)
        rw [e1] at e0
        have fl : ∀ l : List (List Ins), (l.all fun c => decide (c.length ≤ 24)) = true → (l.flatMap id).length ≤ 24 * l.length := fun l => by
          induction l with
          | nil => intro _; simp
          | cons c r ih =>
            intro h
            rw [List.all_cons, Bool.and_eq_true] at h
            have := ih h.2
            have h1 : c.length ≤ 24 := by simpa using h.1
            rw [List.flatMap_cons, List.length_append, List.length_cons]
            show c.length + _ ≤ _
            omega
        have := fl p e1
        show lcTG _ _ _ (p.map CD) _ _ _
        refine lc2_pure CD id I1 (fun i => .bool (isI i)) (σ0 := [some (.val (PD p)), none, none]) (by simp) (by simp) (by decide) rfl rfl p (by omega) (fun c _ Q2 hq => hq) (fun c _ i _ Q2 hq => And.intro rfl ⟨i, rfl, hq⟩) ?_
        refine need_of (boolsOf_mapF _ _) ?_
        have e2 : ((p.flatMap id).map isI).all id = p.all (fun c => c.all isI) := by
          have ee : ∀ l : List (List Ins), ((l.flatMap id).map isI).all id = l.all (fun c => c.all isI) := fun l => by
            induction l with
            | nil => rfl
            | cons c r ih =>
              rw [List.flatMap_cons, List.map_append, List.all_append, ih, List.all_cons, List.all_map]
              rfl
          exact ee p
        have e3 : isP p = ((p.flatMap id).map isI).all id := by rw [e0, e2]; simp
        rw [e3] at q
        exact q
    case g2 =>
      have h2' : ¬ ((p.map CD).length : Int) ≤ 12 := h2
      have z2 : ¬ p.length ≤ 12 := by omega
      rw [decide_eq_false z2] at e0
      refine ifb_t rfl ?_
      have e1 : isP p = false := by rw [e0]; simp
      rw [e1] at q
      exact q
  · have h1' : ¬ (1 : Int) ≤ ((p.map CD).length : Int) := h1
    have e1 : isP p = false := by
      rw [e0, decide_eq_false (show ¬ 1 ≤ p.length by omega)]
      simp
    rw [e1] at q
    exact ifb_t rfl (ifb_t rfl q)
/-! ### check_program: slots 0 program -/
theorem ok_checkprogram (T : Facts P w K mg) : FnG P w K mg base 3 T.a_checkprogram T.d_checkprogram ["program"] (sp_checkprogram T.A_NotProgram) := by
  have G_isprogram := ok_isprogram (base := base) T
  refine fun_okG T.F_checkprogram sc_checkprogram len_checkprogram fun cdv A outer s H Ex vs ss Q E hr hg lv h => ?_
  have hu := hr.units
  have hu5 : (A.deeper (envOfC "check_program" (defScope s_checkprogram) s.heap.objs.size T.a_checkprogram cdv)).units + 65 < cLine := by have := hr.un; omega
  have np : PassesOwn (model P w) (A.deeper (envOfC "check_program" (defScope s_checkprogram) s.heap.objs.size T.a_checkprogram cdv)) (envOfC "check_program" (defScope s_checkprogram) s.heap.objs.size T.a_checkprogram cdv) (cxG P w K mg base ["program"] "check_program" (defScope s_checkprogram) T.a_checkprogram cdv A outer s H Ex).xe := PassesOwn.leaving
  obtain ⟨p, rfl, sh, q1, q2⟩ := h
  refine ⟨_, (jss_one (js_if (jt_not (jt_val (je_call G_isprogram (hr.mono (by decide)) hg (by rfl) T.g_isprogram T.F_isprogram.kp T.b_isprogram (jc_val (je_var 0) jc_nil)))) (jss_one (js_raise rfl T.x_NotProgram (by rfl))) jss_nil)), ?_⟩
  refine And.intro rfl ⟨p, rfl, sh, ?_⟩
  exact ifb_nb q2 q1
/-! ### beginning: slots 0 program, 1 counts, 2 count, 3 core -/
theorem ok_beginning (T : Facts P w K mg) : FnG P w K mg base 4 T.a_beginning T.d_beginning ["program", "counts"] (sp_beginning T.A_NotProgram T.A_BadNumber) := by
  have G_checkprogram := ok_checkprogram (base := base) T
  refine fun_okG T.F_beginning sc_beginning len_beginning fun cdv A outer s H Ex vs ss Q E hr hg lv h => ?_
  have hu := hr.units
  have hu5 : (A.deeper (envOfC "beginning" (defScope s_beginning) s.heap.objs.size T.a_beginning cdv)).units + 65 < cLine := by have := hr.un; omega
  have np : PassesOwn (model P w) (A.deeper (envOfC "beginning" (defScope s_beginning) s.heap.objs.size T.a_beginning cdv)) (envOfC "beginning" (defScope s_beginning) s.heap.objs.size T.a_beginning cdv) (cxG P w K mg base ["program", "counts", "count", "core"] "beginning" (defScope s_beginning) T.a_beginning cdv A outer s H Ex).xe := PassesOwn.leaving
  obtain ⟨p, ns, rfl, sh, ln, q1, q2, q3⟩ := h
  refine ⟨_, (jss_cons (js_expr (je_call G_checkprogram (hr.mono (by decide)) hg (by rfl) T.g_checkprogram T.F_checkprogram.kp T.b_checkprogram (jc_val (je_var 0) jc_nil)))
    (jss_cons (js_if (jw_or (jt_cmp (o_ne hu) (je_callB c_len (by rfl) T.m_len boot_len (jr_one (je_var 1))) (je_callB c_len (by rfl) T.m_len boot_len (jr_one (je_var 0)))) (jw_or1 (jt_val (je_callB (c_any rfl) (by rfl) T.m_any boot_any (jr_one (je_lc rfl sc_beginning.nd (ji_zip (by rfl) T.m_zip (ja_cons (je_var 1) (ja_cons (je_var 0) ja_nil))) (blkOk_by (own := [("count", 2), ("core", 3)]) (by rfl)) (by decide) (fun _ _ _ _ _ => (jg_tup rfl (jgs_cons (jg_name (i := 2) sc_beginning.nd rfl (by first | exact .inl rfl | exact .inr rfl)) (jgs_cons (jg_name (i := 3) sc_beginning.nd rfl (by first | exact .inl rfl | exact .inr rfl)) jgs_nil)) (len_cons (len_cons len_nil)))) (fun _ _ _ _ _ => jq_nil) (fun _ _ _ _ _ => (je_not (je_chain o_le o_le je_int (je_var 2) (je_callB c_len (by rfl) T.m_len boot_len (jr_one (je_var 3)))))))))))).jt (jss_one (js_raise rfl T.x_BadNumber (by rfl))) jss_nil)
    (jss_one (js_ret (je_callT c_tuple (by rfl) T.m_tuple boot_tuple (jr_one (je_lc rfl sc_beginning.nd (ji_zip (by rfl) T.m_zip (ja_cons (je_var 1) (ja_cons (je_var 0) ja_nil))) (blkOk_by (own := [("count", 2), ("core", 3)]) (by rfl)) (by decide) (fun _ _ _ _ _ => (jg_tup rfl (jgs_cons (jg_name (i := 2) sc_beginning.nd rfl (by first | exact .inl rfl | exact .inr rfl)) (jgs_cons (jg_name (i := 3) sc_beginning.nd rfl (by first | exact .inl rfl | exact .inr rfl)) jgs_nil)) (len_cons (len_cons len_nil)))) (fun _ _ _ _ _ => jq_nil) (fun _ _ _ _ _ => (je_slice o_sl (je_var 3) jo_none (jo_some (je_var 2))))))))))), ?_⟩
  refine And.intro rfl ⟨p, rfl, sh, fun hk => ?_, q1⟩
  have q2 := q2 hk
  have q3 := q3 hk
  obtain ⟨h1, h2, h3, h4⟩ := isP_parts hk
  with_reducible conv => whnf
  show sSeq _ _ [some (.val (PD p)), some (.val (.tuple (ns.map .int))), none, none] _ _
  refine sq_if (!okC p ns) (fun Q q => ?_) (fun h => ?_) (fun h => ?_)
  · have e0 : (((p.map CD).length : Nat) : Int) = p.length := by simp
    have e1 : (((ns.map PyData.int).length : Nat) : Int) = ns.length := by simp
    refine dq (ifb_nei (fun h => tq q ?_) (fun h => ?_))
    · rw [e0, e1] at h
      unfold okC
      rw [decide_eq_false (by omega)]
      rfl
    rw [e0, e1] at h
    show lcT _ _ _ _ (zipD (ns.map .int) (p.map CD)) _ _ _
    rw [zip_eq]
    refine lcq (α := Int × List Ins) (fun x => .tuple [.int x.1, CD x.2]) (fun x => .bool (!decide (0 ≤ x.1 ∧ x.1 ≤ x.2.length))) (fun x => [some (.val (PD p)), some (.val (.tuple (ns.map .int))), some (.val (.int (x.1))), some (.val (CD x.2))]) (ns.zip p) (by rw [List.length_zip]; omega) ?_ ?_ ?_ ?_
    · intro _ _; rfl
    · intro _ _; rfl
    · intro x mx Q q
      have e2 : (((x.2.map I1).length : Nat) : Int) = x.2.length := by simp
      refine ifb_dec (fun h => ?_) (fun h => ?_)
      · refine qv q ?_
        show PyData.bool (!decide _) = .bool (!decide _)
        rw [e2, decide_eq_decide.mpr ⟨fun z => z.2, fun z => ⟨h, z⟩⟩]
      · refine qv q ?_
        show PyData.bool (!decide _) = .bool (!false)
        rw [decide_eq_false fun z => h z.1]
    · refine need_of (boolsOf_mapF _ _) (tq q ?_)
      unfold okC
      rw [decide_eq_true (by omega), Bool.true_and, List.any_map]
      show (!((ns.zip p).all _)) = (ns.zip p).any _
      rw [List.not_all_eq_any_not]
      rfl
  · exact q2 (by simpa using h)
  have hp : okC p ns = true := by simpa using h
  have q := q3 hp
  show lcT _ _ _ _ (zipD (ns.map .int) (p.map CD)) _ _ _
  rw [zip_eq]
  refine lcq (α := Int × List Ins) (fun x => .tuple [.int x.1, CD x.2]) (fun x => CD (x.2.take x.1.toNat)) (fun x => [some (.val (PD p)), some (.val (.tuple (ns.map .int))), some (.val (.int (x.1))), some (.val (CD x.2))]) (ns.zip p) (by rw [List.length_zip]; omega) ?_ ?_ ?_ ?_
  · intro _ _; rfl
  · intro _ _; rfl
  · intro x mx Q q
    have hx : 0 ≤ x.1 := by
      unfold okC at hp
      rw [Bool.and_eq_true, List.all_eq_true] at hp
      exact (of_decide_eq_true (hp.2 x mx)).1
    refine qv q ?_
    show CD (x.2.take x.1.toNat) = .tuple (SV.cutD (x.2.map I1) none (some x.1))
    rw [cut_to _ hx, ← List.map_take]
    rfl
  · have : PD (begP p ns) = .tuple ((ns.zip p).map fun x => CD (x.2.take x.1.toNat)) := by unfold PD begP; rw [List.map_map]; rfl
    rw [this] at q
    exact q
/-! ### with_cores: slots 0 program, 1 order, 2 c -/
theorem ok_withcores (T : Facts P w K mg) : FnG P w K mg base 4 T.a_withcores T.d_withcores ["program", "order"] (sp_withcores T.A_NotProgram T.A_BadNumber) := by
  have G_checkprogram := ok_checkprogram (base := base) T
  refine fun_okG T.F_withcores sc_withcores len_withcores fun cdv A outer s H Ex vs ss Q E hr hg lv h => ?_
  have hu := hr.units
  have hu5 : (A.deeper (envOfC "with_cores" (defScope s_withcores) s.heap.objs.size T.a_withcores cdv)).units + 65 < cLine := by have := hr.un; omega
  have np : PassesOwn (model P w) (A.deeper (envOfC "with_cores" (defScope s_withcores) s.heap.objs.size T.a_withcores cdv)) (envOfC "with_cores" (defScope s_withcores) s.heap.objs.size T.a_withcores cdv) (cxG P w K mg base ["program", "order", "c"] "with_cores" (defScope s_withcores) T.a_withcores cdv A outer s H Ex).xe := PassesOwn.leaving
  obtain ⟨p, ns, rfl, sh, ln, q1, q2, q3⟩ := h
  refine ⟨_, (jss_cons (js_expr (je_call G_checkprogram (hr.mono (by decide)) hg (by rfl) T.g_checkprogram T.F_checkprogram.kp T.b_checkprogram (jc_val (je_var 0) jc_nil)))
    (jss_cons (js_if (jt_cmp (o_ne hu) (je_callB (c_sortedA hu) (by rfl) T.m_sorted boot_sorted (jr_one (je_var 1))) (je_lrng1 rfl (by rfl) T.m_list (by rfl) T.m_range (je_callB c_len (by rfl) T.m_len boot_len (jr_one (je_var 0))))) (jss_one (js_raise rfl T.x_BadNumber (by rfl))) jss_nil)
    (jss_one (js_ret (je_callT c_tuple (by rfl) T.m_tuple boot_tuple (jr_one (je_lc rfl sc_withcores.nd (ji_seq (je_var 1)) (blkOk_by (own := [("c", 2)]) (by rfl)) (by decide) (fun _ _ _ _ _ => (jg_name (i := 2) sc_withcores.nd rfl (by first | exact .inl rfl | exact .inr rfl))) (fun _ _ _ _ _ => jq_nil) (fun _ _ _ _ _ => (je_ix o_ix (je_var 0) (je_var 2)))))))))), ?_⟩
  refine And.intro rfl ⟨p, rfl, sh, fun hk => ?_, q1⟩
  have q2 := q2 hk
  have q3 := q3 hk
  obtain ⟨h1, h2, h3, h4⟩ := isP_parts hk
  with_reducible conv => whnf
  show sSeq _ _ [some (.val (PD p)), some (.val (.tuple (ns.map .int))), none] _ _
  refine sq_if (!isPerm p.length ns) (fun Q q => ?_) (fun h => ?_) (fun h => ?_)
  · have e0 : (((p.map CD).length : Nat) : Int) = p.length := by simp
    refine And.intro (sortOk_ints ns) (And.intro ⟨by rw [e0]; omega, by rw [e0]; omega⟩ ?_)
    rw [e0]
    refine dq ?_ (by rw [sortD_ints]; exact dep_list_ints _) (by rw [rng_data]; exact dep_list_ints _)
    rw [eqv_srt]
    exact tq q rfl
  · exact q2 (by simpa using h)
  have hp : isPerm p.length ns = true := by simpa using h
  have q := q3 hp
  have hpm : Pm ns p.length := srt_iff.mp (of_decide_eq_true hp)
  refine lcq (.int) (fun i => CD (p.getD i.toNat [])) (fun i => [some (.val (PD p)), some (.val (.tuple (ns.map .int))), some (.val (.int (i)))]) ns (by omega) ?_ ?_ ?_ ?_
  · intro _ _; rfl
  · intro _ _; rfl
  · intro i mi Q q
    have hb := hpm.mem.mp mi
    have hl : i.toNat < p.length := by omega
    have eg : atI (p.map CD) i = some (CD (p.getD i.toNat [])) := by
      rw [show i = ((i.toNat : Nat) : Int) by omega]
      refine atI_nat ?_
      rw [List.getElem?_map, show ((i.toNat : Nat) : Int).toNat = i.toNat by omega, List.getD, List.getElem?_eq_getElem hl]
      rfl
    exact need_of eg q
  · have : PD (pickP p ns) = .tuple (ns.map fun i => CD (p.getD i.toNat [])) := by unfold PD pickP; rw [List.map_map]; rfl
    rw [this] at q
    exact q
/-! ### with_lines: slots 0 program, 1 lines, 2 found, 3 core, 4 line, 5 one -/
theorem ok_withlines (T : Facts P w K mg) : FnG P w K mg base 4 T.a_withlines T.d_withlines ["program", "lines"] (sp_withlines T.A_NotProgram T.A_BadNumber) := by
  have G_checkprogram := ok_checkprogram (base := base) T
  refine fun_okG T.F_withlines sc_withlines len_withlines fun cdv A outer s H Ex vs ss Q E hr hg lv h => ?_
  have hu := hr.units
  have hu5 : (A.deeper (envOfC "with_lines" (defScope s_withlines) s.heap.objs.size T.a_withlines cdv)).units + 65 < cLine := by have := hr.un; omega
  have np : PassesOwn (model P w) (A.deeper (envOfC "with_lines" (defScope s_withlines) s.heap.objs.size T.a_withlines cdv)) (envOfC "with_lines" (defScope s_withlines) s.heap.objs.size T.a_withlines cdv) (cxG P w K mg base ["program", "lines", "found", "core", "line", "one"] "with_lines" (defScope s_withlines) T.a_withlines cdv A outer s H Ex).xe := PassesOwn.leaving
  obtain ⟨p, ns, rfl, sh, ln, q1, q2, q3⟩ := h
  refine ⟨_, (jss_cons (js_expr (je_call G_checkprogram (hr.mono (by decide)) hg (by rfl) T.g_checkprogram T.F_checkprogram.kp T.b_checkprogram (jc_val (je_var 0) jc_nil)))
    (jss_cons (js_if (jt_cmp (o_ne hu) (je_callB (c_sortedA hu) (by rfl) T.m_sorted boot_sorted (jr_one (je_var 1))) (je_lrng1 rfl (by rfl) T.m_list (by rfl) T.m_range (je_glob (v := V.int (4)) (d := .int (4)) (by rfl) T.g_MANY_LINES ⟨_, rfl⟩ fun _ => .int _))) (jss_one (js_raise rfl T.x_BadNumber (by rfl))) jss_nil)
    (jss_cons (js_set (i := 2) (je_lst ja_nil) (arV_none (by rw [lv]; decide)) sc_withlines.nd rfl (by first | exact .inl rfl | exact .inr rfl))
    (jss_cons (js_for np rfl (ji_seq (je_var 0)) (jg_name (i := 3) sc_withlines.nd rfl (by first | exact .inl rfl | exact .inr rfl)) (jss_one (js_expr (je_mut 2 PySem.F.slot_list_append PySem.F.type_list_append u_append (ja_cons (je_callT c_tuple (by rfl) T.m_tuple boot_tuple (jr_one (je_lc rfl sc_withlines.nd (ji_seq (je_var 3)) (blkOk_by (own := [("one", 5)]) (by rfl)) (by decide) (fun _ _ _ _ _ => (jg_name (i := 5) sc_withlines.nd rfl (by first | exact .inl rfl | exact .inr rfl))) (fun _ _ _ _ _ => jq_nil) (fun _ _ _ _ _ => (je_op2 o_add (je_op2 o_add (je_slice o_sl (je_var 5) jo_none (jo_some je_int)) (je_callT c_tuple (by rfl) T.m_tuple boot_tuple (jr_one (je_lc rfl sc_withlines.nd (ji_seq (je_slice o_sl (je_var 5) (jo_some je_int) (jo_some je_int))) (blkOk_by (own := [("line", 4)]) (by rfl)) (by decide) (fun _ _ _ _ _ => (jg_name (i := 4) sc_withlines.nd rfl (by first | exact .inl rfl | exact .inr rfl))) (fun _ _ _ _ _ => jq_nil) (fun _ _ _ _ _ => (je_ix o_ix (je_var 1) (je_var 4))))))) (je_slice o_sl (je_var 5) (jo_some je_int) jo_none)))))) ja_nil)))))
    (jss_one (js_ret (je_callT c_tuple (by rfl) T.m_tuple boot_tuple (jr_one (je_view 2))))))))), ?_⟩
  refine And.intro rfl ⟨p, rfl, sh, fun hk => ?_, q1⟩
  have q2 := q2 hk
  have q3 := q3 hk
  obtain ⟨h1, h2, h3, h4⟩ := isP_parts hk
  with_reducible conv => whnf
  show sSeq _ _ [some (.val (PD p)), some (.val (.tuple (ns.map .int))), none, none, none, none] _ _
  refine sq_if (!isPerm 4 ns) (fun Q q => ?_) (fun h => ?_) (fun h => ?_)
  · have e4 : rangeD 0 4 = rangeD 0 ((4 : Nat) : Int) := rfl
    refine And.intro (sortOk_ints ns) (And.intro ⟨by decide, by decide⟩ ?_)
    rw [e4]
    refine dq ?_ (by rw [sortD_ints]; exact dep_list_ints _) (by rw [rng_data]; exact dep_list_ints _)
    rw [eqv_srt]
    exact tq q rfl
  · exact q2 (by simpa using h)
  have hp : isPerm 4 ns = true := by simpa using h
  have q := q3 hp
  refine sq_set (.lst []) [some (.val (PD p)), some (.val (.tuple (ns.map .int))), some (.lst ([])), none, none, none] (fun Q q => rm q) rfl ?_
  refine sq_cut (fun σ => ∃ x3 : Option S, σ = [some (.val (PD p)), some (.val (.tuple (ns.map .int))), some (.lst ((renP (px ns) p).map CD)), x3, none, none]) (fun σ h => ?_) (fun N hN => ?_)
  · obtain ⟨x3, rfl⟩ := h
    exact q
  refine for_pre CD (fun (done : List (List Ins)) (σ : SSt) => ∃ x3 : Option S, σ = [some (.val (PD p)), some (.val (.tuple (ns.map .int))), some (.lst ((renP (px ns) done).map CD)), x3, none, none]) p (fun done c rest σ N2 e hN2 h => ?_) (fun σ h => ?_) _ ⟨none, rfl⟩
  rotate_left
  · obtain ⟨x3, rfl⟩ := h
    exact hN _ ⟨x3, rfl⟩
  obtain ⟨x3, rfl⟩ := h
  have mc : c ∈ p := by rw [e]; simp
  have lc := h3 c mc
  have le := congrArg List.length e
  rw [List.length_append] at le
  have hpm : Pm ns 4 := srt_iff.mp (of_decide_eq_true hp)
  show lcT _ _ _ _ (c.map I1) _ _ _
  refine lcq I1 (fun i => I1 (renI (px ns) i)) (fun i => [some (.val (PD p)), some (.val (.tuple (ns.map .int))), some (.lst ((renP (px ns) done).map CD)), some (.val (CD c)), none, some (.val (I1 i))]) c (by omega) ?_ ?_ ?_ ?_
  · intro _ _; rfl
  · intro _ _; rfl
  · intro i mi Q q
    rcases isI_cases (h4 c mc i mi) with rfl | ⟨a, ha, rfl⟩ | ⟨w, a, b, hw, ha, hb, hb2, rfl⟩
    · exact And.intro (room1 (by decide)) (And.intro (room1 (by decide)) q)
    · refine ifb_t rfl (need_of (px_get hpm (i := (a : Int)) ⟨by omega, by omega⟩) (And.intro (room2 (by decide)) ?_))
      exact And.intro (room1 (by show 1 + 1 ≤ _; decide)) (And.intro (room1 (by show 2 + 0 ≤ _; decide)) q)
    · refine ifb_t rfl (need_of (px_get hpm (i := (a : Int)) ⟨by omega, by omega⟩) (And.intro (room2 (by decide)) ?_))
      exact And.intro (room1 (by show 1 + 1 ≤ _; decide)) (And.intro (room1 (by show 2 + 1 ≤ _; decide)) q)
  · refine And.intro (room2 (by rw [List.length_map]; unfold renP; rw [List.length_map]; omega)) (hN2 _ ⟨some (.val (CD c)), ?_⟩)
    unfold renP
    rw [List.map_append, List.map_append]
    have : CD (c.map (renI (px ns))) = .tuple (c.map fun i => I1 (renI (px ns) i)) := by unfold CD; rw [List.map_map]; rfl
    show (_ : SSt) = ([some (.val (PD p)), some (.val (.tuple (ns.map .int))), some (.lst ((done.map fun c => c.map (renI (px ns))).map CD ++ [CD (c.map (renI (px ns)))])), some (.val (CD c)), none, none] : SSt)
    rw [this]
    rfl
/-! ### accesses: slots 0 program, 1 line, 2 found, 3 c, 4 core, 5 i, 6 one -/
theorem ok_accesses (T : Facts P w K mg) : FnG P w K mg base 4 T.a_accesses T.d_accesses ["program", "line"] (sp_accesses T.A_NotProgram T.A_BadNumber) := by
  have G_checkprogram := ok_checkprogram (base := base) T
  refine fun_okG T.F_accesses sc_accesses len_accesses fun cdv A outer s H Ex vs ss Q E hr hg lv h => ?_
  have hu := hr.units
  have hu5 : (A.deeper (envOfC "accesses" (defScope s_accesses) s.heap.objs.size T.a_accesses cdv)).units + 65 < cLine := by have := hr.un; omega
  have np : PassesOwn (model P w) (A.deeper (envOfC "accesses" (defScope s_accesses) s.heap.objs.size T.a_accesses cdv)) (envOfC "accesses" (defScope s_accesses) s.heap.objs.size T.a_accesses cdv) (cxG P w K mg base ["program", "line", "found", "c", "core", "i", "one"] "accesses" (defScope s_accesses) T.a_accesses cdv A outer s H Ex).xe := PassesOwn.leaving
  obtain ⟨p, l, rfl, sh, q1, q2, q3⟩ := h
  refine ⟨_, (jss_cons (js_expr (je_call G_checkprogram (hr.mono (by decide)) hg (by rfl) T.g_checkprogram T.F_checkprogram.kp T.b_checkprogram (jc_val (je_var 0) jc_nil)))
    (jss_cons (js_if (jt_not (jt_chain o_le o_lt je_int (je_var 1) (je_glob (v := V.int (4)) (d := .int (4)) (by rfl) T.g_MANY_LINES ⟨_, rfl⟩ fun _ => .int _))) (jss_one (js_raise rfl T.x_BadNumber (by rfl))) jss_nil)
    (jss_cons (js_set (i := 2) (je_lst ja_nil) (arV_none (by rw [lv]; decide)) sc_accesses.nd rfl (by first | exact .inl rfl | exact .inr rfl))
    (jss_cons (js_for np rfl (ji_enum (by rfl) T.m_enumerate (ja_cons (je_var 0) ja_nil)) (jg_tup rfl (jgs_cons (jg_name (i := 3) sc_accesses.nd rfl (by first | exact .inl rfl | exact .inr rfl)) (jgs_cons (jg_name (i := 4) sc_accesses.nd rfl (by first | exact .inl rfl | exact .inr rfl)) jgs_nil)) (len_cons (len_cons len_nil))) (jss_one (js_expr (je_mut 2 PySem.F.slot_list_extend PySem.F.type_list_extend u_extend (ja_cons (je_lc rfl sc_accesses.nd (ji_enum (by rfl) T.m_enumerate (ja_cons (je_var 4) ja_nil)) (blkOk_by (own := [("i", 5), ("one", 6)]) (by rfl)) (by decide) (fun _ _ _ _ _ => (jg_tup rfl (jgs_cons (jg_name (i := 5) sc_accesses.nd rfl (by first | exact .inl rfl | exact .inr rfl)) (jgs_cons (jg_name (i := 6) sc_accesses.nd rfl (by first | exact .inl rfl | exact .inr rfl)) jgs_nil)) (len_cons (len_cons len_nil)))) (fun _ _ _ _ _ => (jq_one (jw_and (jt_cmp (o_in hu5) (je_ix o_ix (je_var 6) je_int) (je_glob (v := .ref T.A_ACCESSES) (d := .tuple [.str "load", .str "store", .str "swap"]) (by rfl) T.g_ACCESSES rfl T.p_ACCESSES)) (jw_and1 (jt_cmp (o_eq hu) (je_ix o_ix (je_var 6) je_int) (je_var 1)))).jt)) (fun _ _ _ _ _ => (je_tup (ja_cons (je_var 3) (ja_cons (je_var 5) ja_nil))))) ja_nil)))))
    (jss_one (js_ret (je_mov 2))))))), ?_⟩
  refine And.intro rfl ⟨p, rfl, sh, fun hk => ?_, q1⟩
  with_reducible conv => whnf
  show sSeq _ _ [some (.val (PD p)), some (.val (.int (l))), none, none, none, none, none] _ _
  have q2 := q2 hk
  have q3 := q3 hk
  refine sq_if (!decide (0 ≤ l ∧ l < 4)) (fun Q q => ?_) (fun h => ?_) (fun h => ?_)
  · refine ifb_dec (fun h => ?_) (fun h => ?_)
    · refine tq q ?_
      show (!decide (0 ≤ l ∧ l < 4)) = !decide (l < 4)
      rw [decide_eq_decide.mpr ⟨fun z => z.2, fun z => ⟨h, z⟩⟩]
    · refine tq q ?_
      show (!decide (0 ≤ l ∧ l < 4)) = !false
      rw [decide_eq_false fun z => h z.1]
  · exact q2 (by rw [Bool.not_eq_true'] at h; exact of_decide_eq_false h)
  have h : 0 ≤ l ∧ l < 4 := by simpa using h
  have q := q3 h
  obtain ⟨h1, h2, h3, h4⟩ := isP_parts hk
  refine sq_set (.lst []) [some (.val (PD p)), some (.val (.int (l))), some (.lst ([])), none, none, none, none] (fun Q q => rm q) rfl ?_
  refine sq_cut (fun σ => ∃ x3 x4 : Option S, σ = [some (.val (PD p)), some (.val (.int (l))), some (.lst ((accP p l).map pairD2)), x3, x4, none, none]) (fun σ h => ?_) (fun N hN => ?_)
  · obtain ⟨x3, x4, rfl⟩ := h
    exact q
  have acl : ∀ (c : List Ins) (k : Nat), (accC l (c, k)).length ≤ c.length := fun c k => by
    unfold accC
    rw [List.length_map]
    refine Nat.le_trans (List.length_filter_le _ _) ?_
    rw [List.length_zipIdx]
    exact Nat.le_refl _
  show forT _ _ (enumD (p.map CD)) _ _ _
  rw [enum_map]
  refine for_pre (α := List Ins × Nat) (fun q => .tuple [.int (q.2 : Nat), CD q.1]) (fun dn σ => ∃ x3 x4 : Option S, σ = [some (.val (PD p)), some (.val (.int (l))), some (.lst ((dn.flatMap (accC l)).map pairD2)), x3, x4, none, none]) p.zipIdx (fun dn x r σ N2 ez hN2 h => ?_) (fun σ h => ?_) _ ⟨none, none, rfl⟩
  rotate_left
  · obtain ⟨x3, x4, rfl⟩ := h
    exact hN _ ⟨x3, x4, rfl⟩
  obtain ⟨x3, x4, rfl⟩ := h
  obtain ⟨c, k⟩ := x
  obtain ⟨ek, ec⟩ := zip_at ez
  have mc : c ∈ p := by rw [ec]; simp
  have ld : (dn.flatMap (accC l)).length ≤ dn.length * 24 := flat_le (b := 24) _ _ fun x m => by
    have : x.1 ∈ p := by
      rw [ec]
      exact List.mem_append.mpr (.inl (List.mem_map.mpr ⟨x, m, rfl⟩))
    exact Nat.le_trans (acl x.1 x.2) (h3 _ this)
  have lz := congrArg List.length ez
  rw [List.length_zipIdx, List.length_append, List.length_cons] at lz
  show lcT _ _ _ _ (enumD (c.map I1)) _ _ _
  rw [enum_map]
  refine lcp (α := Ins × Nat) (fun x => .tuple [.int (x.2 : Nat), I1 x.1]) (fun x => .tuple [.int (k : Nat), .int (x.2 : Nat)]) (fun x => decide (x.1.2.head? = some l)) (fun x => [some (.val (PD p)), some (.val (.int (l))), some (.lst ((dn.flatMap (accC l)).map pairD2)), some (.val (.int ((k : Nat)))), some (.val (CD c)), some (.val (.int ((x.2 : Nat)))), some (.val (I1 x.1))]) c.zipIdx (by rw [List.length_zipIdx]; have := h3 c mc; omega) ?_ ?_ ?_ ?_ ?_
  · intro _ _; rfl
  · intro _ _; rfl
  · intro x mx Q q
    obtain ⟨i, j⟩ := x
    have mi : i ∈ c := by
      have e : c.zipIdx.map (·.1) = c := by simp
      rw [← e]
      exact List.mem_map.mpr ⟨_, mx, rfl⟩
    rcases isI_cases (h4 c mc i mi) with rfl | ⟨a, ha, rfl⟩ | ⟨w, a, b, hw, ha, hb, hb2, rfl⟩
    · refine need_of rfl (dq1 (ifb_f acc_w.2.2.2 (tq q rfl)))
    · refine need_of rfl (dq1 (ifb_t acc_w.1 (need_of rfl (dq (tq q ?_)))))
      exact acc_eq _ _ _
    · refine need_of rfl (dq1 (ifb_t (by rcases hw with rfl | rfl; exact acc_w.2.1; exact acc_w.2.2.1) (need_of rfl (dq (tq q ?_)))))
      exact acc_eq _ _ _
  · intro x mx _ Q q
    exact rm q
  · refine And.intro (room1 ?_) (hN2 _ ⟨some (.val (.int (k : Nat))), some (.val (CD c)), ?_⟩)
    · have hz : ∀ f : Ins × Nat → PyData, ((c.zipIdx.filter fun x => decide (x.1.2.head? = some l)).map f).length ≤ c.length := fun f => by
        rw [List.length_map]
        refine Nat.le_trans (List.length_filter_le _ _) ?_
        rw [List.length_zipIdx]
        exact Nat.le_refl _
      have := h3 c mc
      refine Nat.le_trans (Nat.add_le_add (Nat.le_of_eq (List.length_map _)) (hz _)) ?_
      omega
    · rw [List.flatMap_append, List.map_append]
      have : [((c, k) : List Ins × Nat)].flatMap (accC l) = accC l (c, k) := by simp
      rw [this]
      unfold accC
      rw [List.map_map]
      rfl
/-! ### lines_of: slots 0 program, 1 line -/
theorem ok_linesof (T : Facts P w K mg) : FnG P w K mg base 5 T.a_linesof T.d_linesof ["program"] (sp_linesof T.A_NotProgram T.A_BadNumber) := by
  have G_accesses := ok_accesses (base := base) T
  refine fun_okG T.F_linesof sc_linesof len_linesof fun cdv A outer s H Ex vs ss Q E hr hg lv h => ?_
  have hu := hr.units
  have hu5 : (A.deeper (envOfC "lines_of" (defScope s_linesof) s.heap.objs.size T.a_linesof cdv)).units + 65 < cLine := by have := hr.un; omega
  have np : PassesOwn (model P w) (A.deeper (envOfC "lines_of" (defScope s_linesof) s.heap.objs.size T.a_linesof cdv)) (envOfC "lines_of" (defScope s_linesof) s.heap.objs.size T.a_linesof cdv) (cxG P w K mg base ["program", "line"] "lines_of" (defScope s_linesof) T.a_linesof cdv A outer s H Ex).xe := PassesOwn.leaving
  obtain ⟨p, rfl, sh, q1, q2⟩ := h
  refine ⟨_, (jss_one (js_ret (je_lcY rfl rfl rfl sc_linesof.nd (ji_range1 (by rfl) T.m_range (je_glob (v := V.int (4)) (d := .int (4)) (by rfl) T.g_MANY_LINES ⟨_, rfl⟩ fun _ => .int _)) (blkOk_by (own := [("line", 1)]) (by rfl)) (by decide) (fun _ _ _ _ _ => (jg_name (i := 1) sc_linesof.nd rfl (by first | exact .inl rfl | exact .inr rfl))) (fun _ _ _ _ _ _ => (jqx_one (jt_val (je_call G_accesses (hr.mono (by decide)) hg (by rfl) T.g_accesses T.F_accesses.kp T.b_accesses (jc_val (je_var 0) (jc_val (je_var 1) jc_nil)))))) (fun _ _ _ _ _ _ => (je_var 1))))), ?_⟩
  with_reducible conv => whnf
  show sRet _ [some (.val (PD p)), none] _ _
  refine And.intro ⟨by decide, by decide⟩ ?_
  have er : rangeD 0 4 = (List.range 4).map fun i : Nat => PyData.int (0 + (i : Int)) := rfl
  rw [er]
  obtain ⟨n, hn⟩ : ∃ n, n = 4 := ⟨_, rfl⟩
  have hL : linesD p = (List.range n).filter fun l : Nat => decide (accP p (l : Int) ≠ []) := by rw [hn]; rfl
  rw [hL] at q2
  show lcTY _ _ _ _ _ ((List.range 4).map fun i : Nat => PyData.int (0 + (i : Int))) _ _ _
  have e4 : List.range 4 = List.range n := by rw [hn]
  rw [e4]
  refine lcy_range (fun i : Nat => PyData.int (0 + (i : Int))) (fun i acc σ => (0 < i → isP p = true) ∧ acc = ((List.range i).filter fun l : Nat => decide (accP p (l : Int) ≠ [])).map (fun l : Nat => PyData.int (l : Int)) ∧ σ = [some (.val (PD p)), none]) n (fun i acc σ N hi hN h => ?_) (fun acc σ h => ?_) _ ⟨fun z => absurd z (Nat.lt_irrefl _), rfl, rfl⟩
  · obtain ⟨h1, rfl, rfl⟩ := h
    refine And.intro rfl ⟨p, 0 + (i : Int), rfl, sh, q1, fun _ z => absurd (show 0 ≤ 0 + (i : Int) ∧ 0 + (i : Int) < 4 by omega) z, fun hk _ => ?_⟩
    have e0 : (0 : Int) + (i : Int) = (i : Int) := Int.zero_add _
    rw [e0]
    by_cases z : accP p (i : Int) = []
    · rw [z]
      refine ifb_f rfl (hN _ _ ⟨fun _ => hk, ?_, rfl⟩)
      rw [List.range_succ, List.filter_append, List.map_append]
      simp [z]
    · have hne : tru (.list ((accP p (i : Int)).map pairD2)) = true := by
        cases h : accP p (i : Int) with
        | nil => exact absurd h z
        | cons x r => rfl
      refine ifb_t hne (And.intro (room2 ?_) (hN _ _ ⟨fun _ => hk, ?_, rfl⟩))
      · rw [List.length_map]
        refine Nat.lt_of_le_of_lt (List.length_filter_le _ _) ?_
        rw [List.length_range]
        omega
      · rw [List.range_succ, List.filter_append, List.map_append]
        simp [z]
  · obtain ⟨h1, rfl, rfl⟩ := h
    exact q2 (h1 (by omega))
/-! ### _law_told: slots 0 way, 1 program, 2 given, 3 error, 4 kinds -/
theorem ok_lawtold (T : Facts P w K mg) : FnG P w K mg base 6 T.a_lawtold T.d_lawtold ["way", "program", "given"] (sp_lawtold T.A_NotProgram T.A_BadNumber) := by
  have G_beginning := ok_beginning (base := base) T
  have G_withcores := ok_withcores (base := base) T
  have G_withlines := ok_withlines (base := base) T
  have G_accesses := ok_accesses (base := base) T
  have G_linesof := ok_linesof (base := base) T
  refine fun_okG T.F_lawtold sc_lawtold len_lawtold fun cdv A outer s H Ex vs ss Q E hr hg lv h => ?_
  have hu := hr.units
  have hu5 : (A.deeper (envOfC "_law_told" (defScope s_lawtold) s.heap.objs.size T.a_lawtold cdv)).units + 65 < cLine := by have := hr.un; omega
  have np : PassesOwn (model P w) (A.deeper (envOfC "_law_told" (defScope s_lawtold) s.heap.objs.size T.a_lawtold cdv)) (envOfC "_law_told" (defScope s_lawtold) s.heap.objs.size T.a_lawtold cdv) (cxG P w K mg base ["way", "program", "given", "error", "kinds"] "_law_told" (defScope s_lawtold) T.a_lawtold cdv A outer s H Ex).xe := PassesOwn.leaving
  obtain ⟨w, p, d, rfl, sh, q0, hq⟩ := h
  refine ⟨_, (jss_one (js_tryAs (i := 3) (Pc := ExcC K) rfl rfl sc_lawtold.nd rfl rfl (arV_none (by rw [lv]; decide)) ⟨by rfl, by decide, .inl T.g_CoheirError⟩ (fun pn xe np => (jss_cons (js_if (jt_cmp (o_eq hu) (je_var 0) je_int) (jss_one (js_ret (je_call G_linesof (hr.mono (by decide)) hg (by rfl) T.g_linesof T.F_linesof.kp T.b_linesof (jc_val (je_var 1) jc_nil)))) jss_nil)
    (jss_one (js_ret (je_pick (nm_cons (sp := (sp_accesses T.A_NotProgram T.A_BadNumber)) ⟨_, _, _, G_accesses, (hr.mono (by decide)), T.F_accesses.kp, T.b_accesses⟩ (by rfl) T.g_accesses (nm_cons (sp := (sp_withlines T.A_NotProgram T.A_BadNumber)) ⟨_, _, _, G_withlines, (hr.mono (by decide)), T.F_withlines.kp, T.b_withlines⟩ (by rfl) T.g_withlines (nm_cons (sp := (sp_withcores T.A_NotProgram T.A_BadNumber)) ⟨_, _, _, G_withcores, (hr.mono (by decide)), T.F_withcores.kp, T.b_withcores⟩ (by rfl) T.g_withcores (nm_cons (sp := (sp_beginning T.A_NotProgram T.A_BadNumber)) ⟨_, _, _, G_beginning, (hr.mono (by decide)), T.F_beginning.kp, T.b_beginning⟩ (by rfl) T.g_beginning nm_nil)))) (je_var 0) hg (jc_val (je_var 1) (jc_val (je_var 2) jc_nil))))))) (fun C a oe pn hP hz hfl => (jss_cons (js_setv (i := 4) (je_lst (ja_cons (je_isE 3 hP hz hfl (by rfl) T.m_isinstance (by rfl) T.g_NotProgram) (ja_cons (je_isE 3 hP hz hfl (by rfl) T.m_isinstance (by rfl) T.g_BadNumber) ja_nil))) sc_lawtold.nd rfl (by first | exact .inl rfl | exact .inr rfl))
    (jss_one (js_ret (je_if (jt_cmp (o_eq hu) (je_meth PySem.F.plainAttrs_list PySem.F.slot_list_count PySem.F.type_list_count (m_count hu) (je_var 4) (ja_cons je_bl ja_nil)) je_int) (je_ix o_ix (je_lst (ja_cons je_str (ja_cons je_str ja_nil))) (je_meth PySem.F.plainAttrs_list PySem.F.slot_list_index PySem.F.type_list_index (m_index hu) (je_var 4) (ja_cons je_bl ja_nil))) je_str))))))), ?_⟩
  refine s_tryAs (σ := [some (.val (.int (w))), some (.val (PD p)), some (.val (d)), none, none]) (fun cls ed σ1 => ed = none ∧ ∃ x : Str, σ1 = [some (.val (.int (w))), some (.val (PD p)), some (.val (d)), none, none] ∧ Q (.val (.str x)) [none, none, none] ∧ ((cls = .ref T.A_NotProgram ∧ x = "!program") ∨ (cls = .ref T.A_BadNumber ∧ x = "!number"))) (fun cls ed σ1 h => ?_) (fun ES' hES => ?_)
  · obtain ⟨rfl, x, rfl, q, hc⟩ := h
    rcases hc with ⟨rfl, rfl⟩ | ⟨rfl, rfl⟩
    · refine need_of T.exm_NotProgram_CoheirError (ifb_t rfl ⟨_, rfl, rfl, T.e_NotProgram, fun a => ?_⟩)
      refine And.intro rfl (need_of T.kit_NotProgram_NotProgram (And.intro rfl (need_of T.kit_NotProgram_BadNumber (rm ?_))))
      refine And.intro rfl (dq0 (dq (ifb_t (by decide +kernel) (rm (And.intro rfl (dq0 (need_of (x := 0) (by decide +kernel) (need_of rfl ?_))))))))
      exact q
    · refine need_of T.exm_BadNumber_CoheirError (ifb_t rfl ⟨_, rfl, rfl, T.e_BadNumber, fun a => ?_⟩)
      refine And.intro rfl (need_of T.kit_BadNumber_NotProgram (And.intro rfl (need_of T.kit_BadNumber_BadNumber (rm ?_))))
      refine And.intro rfl (dq0 (dq (ifb_t (by decide +kernel) (rm (And.intro rfl (dq0 (need_of (x := 1) (by decide +kernel) (need_of rfl ?_))))))))
      exact q
  · have n1 : isP p = false → ES' (.ref T.A_NotProgram) none [some (.val (.int (w))), some (.val (PD p)), some (.val (d)), none, none] := fun h => hES _ _ _ ⟨rfl, _, rfl, q0 h, .inl ⟨rfl, rfl⟩⟩
    have n2 : Q (.val (.str "!number")) [none, none, none] → ES' (.ref T.A_BadNumber) none [some (.val (.int (w))), some (.val (PD p)), some (.val (d)), none, none] := fun h => hES _ _ _ ⟨rfl, _, rfl, h, .inr ⟨rfl, rfl⟩⟩
    rcases hq with ⟨rfl, q⟩ | ⟨rfl, l, rfl, q1, q2⟩ | ⟨ns, rfl, ln, hq⟩
    · refine dq (ifb_t (by decide +kernel) ?_)
      exact And.intro rfl ⟨p, rfl, sh, n1, q⟩
    · refine dq (ifb_f (by decide +kernel) ?_)
      exact And.intro rfl ⟨p, l, rfl, sh, n1, fun hk hl => n2 (q1 hk hl), q2⟩
    · rcases hq with ⟨rfl, q1, q2⟩ | ⟨rfl, q1, q2⟩ | ⟨rfl, q1, q2⟩
      · refine dq (ifb_f (by decide +kernel) ?_)
        exact And.intro rfl ⟨p, ns, rfl, sh, ln, n1, fun hk hl => n2 (q1 hk hl), q2⟩
      · refine dq (ifb_f (by decide +kernel) ?_)
        exact And.intro rfl ⟨p, ns, rfl, sh, ln, n1, fun hk hl => n2 (q1 hk hl), q2⟩
      · refine dq (ifb_f (by decide +kernel) ?_)
        exact And.intro rfl ⟨p, ns, rfl, sh, ln, n1, fun hk hl => n2 (q1 hk hl), q2⟩
/-! ### _law_put: slots 0 parts, 1 at, 2 part -/
theorem ok_lawput (T : Facts P w K mg) : FnG P w K mg base 1 T.a_lawput T.d_lawput ["parts", "at", "part"] sp_lawput := by
  refine fun_okG T.F_lawput sc_lawput len_lawput fun cdv A outer s H Ex vs ss Q E hr hg lv h => ?_
  have hu := hr.units
  have hu5 : (A.deeper (envOfC "_law_put" (defScope s_lawput) s.heap.objs.size T.a_lawput cdv)).units + 65 < cLine := by have := hr.un; omega
  have np : PassesOwn (model P w) (A.deeper (envOfC "_law_put" (defScope s_lawput) s.heap.objs.size T.a_lawput cdv)) (envOfC "_law_put" (defScope s_lawput) s.heap.objs.size T.a_lawput cdv) (cxG P w K mg base ["parts", "at", "part"] "_law_put" (defScope s_lawput) T.a_lawput cdv A outer s H Ex).xe := PassesOwn.leaving
  obtain ⟨xs, i, x, rfl, hl, hi, q⟩ := h
  refine ⟨_, (jss_one (js_ret (je_op2 o_add (je_op2 o_add (je_slice o_sl (je_var 0) jo_none (jo_some (je_var 1))) (je_tup (ja_cons (je_var 2) ja_nil))) (je_slice o_sl (je_var 0) (jo_some (je_op2 o_add (je_var 1) je_int)) jo_none)))), ?_⟩
  have e1 := cut_to xs hi.1
  have e2 := cut_from xs (i := i + 1) (by omega)
  have e3 : (i + 1).toNat = i.toNat + 1 := by omega
  rw [e3] at e2
  have l1 := cut_len xs none (some i)
  have l2 := cut_len xs (some (i + 1)) none
  rw [← e1, ← e2] at q
  refine And.intro (room1 (by show 1 ≤ _; decide)) ?_
  refine And.intro (room1 (by show _ + 1 ≤ _; omega)) ?_
  refine And.intro (room1 ?_) q
  rw [List.length_append]
  show _ + 1 + _ ≤ _
  omega
/-! ### _law_next: slots 0 draws -/
theorem ok_lawnext (T : Facts P w K mg) : FnG P w K mg base 1 T.a_lawnext T.d_lawnext ["draws"] sp_lawnext := by
  refine fun_okG T.F_lawnext sc_lawnext len_lawnext fun cdv A outer s H Ex vs ss Q E hr hg lv h => ?_
  have hu := hr.units
  have hu5 : (A.deeper (envOfC "_law_next" (defScope s_lawnext) s.heap.objs.size T.a_lawnext cdv)).units + 65 < cLine := by have := hr.un; omega
  have np : PassesOwn (model P w) (A.deeper (envOfC "_law_next" (defScope s_lawnext) s.heap.objs.size T.a_lawnext cdv)) (envOfC "_law_next" (defScope s_lawnext) s.heap.objs.size T.a_lawnext cdv) (cxG P w K mg base ["draws"] "_law_next" (defScope s_lawnext) T.a_lawnext cdv A outer s H Ex).xe := PassesOwn.leaving
  obtain ⟨ns, rfl, q⟩ := h
  refine ⟨_, (jss_cons (js_if (jt_val (je_view 0)) (jss_one (js_ret (je_mut0 0 PySem.F.slot_list_pop PySem.F.type_list_pop u_pop))) jss_nil)
    (jss_one (js_ret je_int))), ?_⟩
  cases ns with
  | nil => exact ifb_f rfl (q _ [] (Nat.le_refl _))
  | cons n r =>
    have e : ((n :: r).map PyData.int).getLast? = some (.int ((n :: r).getLast (List.cons_ne_nil n r))) := by
      rw [List.getLast?_map, List.getLast?_eq_getLast (List.cons_ne_nil n r)]
      rfl
    refine ifb_t rfl (need_of e ?_)
    have e2 : I2 (n :: r).dropLast = ((n :: r).map PyData.int).dropLast := List.map_dropLast
    have q2 := q ((n :: r).getLast (List.cons_ne_nil n r)) (n :: r).dropLast (by simp)
    rw [e2] at q2
    exact q2
/-! ### _law_mixed: slots 0 draws, 1 numbers, 2 found, 3 number -/
theorem ok_lawmixed (T : Facts P w K mg) : FnG P w K mg base 2 T.a_lawmixed T.d_lawmixed ["draws", "numbers"] sp_lawmixed := by
  have G_lawnext := ok_lawnext (base := base) T
  refine fun_okG T.F_lawmixed sc_lawmixed len_lawmixed fun cdv A outer s H Ex vs ss Q E hr hg lv h => ?_
  have hu := hr.units
  have hu5 : (A.deeper (envOfC "_law_mixed" (defScope s_lawmixed) s.heap.objs.size T.a_lawmixed cdv)).units + 65 < cLine := by have := hr.un; omega
  have np : PassesOwn (model P w) (A.deeper (envOfC "_law_mixed" (defScope s_lawmixed) s.heap.objs.size T.a_lawmixed cdv)) (envOfC "_law_mixed" (defScope s_lawmixed) s.heap.objs.size T.a_lawmixed cdv) (cxG P w K mg base ["draws", "numbers", "found", "number"] "_law_mixed" (defScope s_lawmixed) T.a_lawmixed cdv A outer s H Ex).xe := PassesOwn.leaving
  obtain ⟨ns, xs, rfl, lx, q⟩ := h
  refine ⟨_, (jss_cons (js_set (i := 2) (je_lst ja_nil) (arV_none (by rw [lv]; decide)) sc_lawmixed.nd rfl (by first | exact .inl rfl | exact .inr rfl))
    (jss_cons (js_for np rfl (ji_seq (je_var 1)) (jg_name (i := 3) sc_lawmixed.nd rfl (by first | exact .inl rfl | exact .inr rfl)) (jss_one (js_expr (je_mut 2 PySem.F.slot_list_insert PySem.F.type_list_insert u_insert (ja_cons (je_op2 o_mod (je_callT c_int (by rfl) T.m_int boot_int (jr_one (je_call G_lawnext (hr.mono (by decide)) hg (by rfl) T.g_lawnext T.F_lawnext.kp T.b_lawnext (jc_lent 0 jc_nil)))) (je_op2 o_add (je_callB c_len (by rfl) T.m_len boot_len (jr_one (je_view 2))) je_int)) (ja_cons (je_var 3) ja_nil))))))
    (jss_one (js_ret (je_callT c_tupleN (by rfl) T.m_tuple boot_tuple (jr_one (je_view 2))))))), ?_⟩
  refine sq_set (.lst []) [some (.lst (I2 ns)), some (.val (.list (xs.map .int))), some (.lst ([])), none] (fun Q q => rm q) rfl ?_
  refine sq_cut (fun σ => ∃ (ys m : List Int) (x3 : Option S), ys.Perm xs ∧ σ = [some (.lst (I2 m)), some (.val (.list (xs.map .int))), some (.lst (ys.map .int)), x3]) (fun σ h => ?_) (fun N hN => ?_)
  · obtain ⟨ys, m, x3, hp, rfl⟩ := h
    exact q ys hp m
  refine for_pre .int (fun (done : List Int) (σ : SSt) => ∃ (ys m : List Int) (x3 : Option S), ys.Perm done ∧ σ = [some (.lst (I2 m)), some (.val (.list (xs.map .int))), some (.lst (ys.map .int)), x3]) xs (fun done x rest σ N2 e hN2 h => ?_) (fun σ h => hN _ h) _ ⟨[], ns, none, List.Perm.refl _, rfl⟩
  obtain ⟨ys, m, x3, hp, rfl⟩ := h
  have lp := hp.length_eq
  have le := congrArg List.length e
  rw [List.length_append] at le
  have e0 : (((ys.map PyData.int).length : Nat) : Int) = ys.length := by simp
  refine And.intro rfl ⟨m, rfl, fun n m2 l2 => And.intro (by rw [e0]; omega) ?_⟩
  have b := emod_bd n (show (0 : Int) < (ys.length : Int) + 1 by omega)
  rw [e0]
  generalize n % ((ys.length : Int) + 1) = j at b
  have fin : N2 [some (.lst (I2 m2)), some (.val (.list (xs.map .int))), some (.lst ((ys.take j.toNat ++ [x] ++ ys.drop j.toNat).map .int)), some (.val (.int (x)))] := by
    refine hN2 _ ⟨ys.take j.toNat ++ [x] ++ ys.drop j.toNat, m2, some (.val (.int x)), ?_, rfl⟩
    have h1 : (ys.take j.toNat ++ [x] ++ ys.drop j.toNat).Perm (x :: ys) := by
      have h2 : (ys.take j.toNat ++ [x]).Perm (x :: ys.take j.toNat) := List.perm_append_comm
      have h3 := h2.append_right (ys.drop j.toNat)
      rw [List.cons_append, List.take_append_drop] at h3
      exact h3
    have h4 : (x :: ys).Perm (x :: done) := List.Perm.cons x hp
    have h5 : (x :: done).Perm (done ++ [x]) := List.perm_append_comm (l₁ := [x])
    exact h1.trans (h4.trans h5)
  have ef : (ys.take j.toNat ++ [x] ++ ys.drop j.toNat).map PyData.int = (ys.map .int).take j.toNat ++ [.int x] ++ (ys.map .int).drop j.toNat := by simp [List.map_take, List.map_drop]
  rw [ef] at fin
  exact And.intro ⟨room2 (by rw [List.length_map]; omega), b.1, by omega⟩ fin
/-! ### _law_renamed: slots 0 program, 1 lines, 2 found, 3 core, 4 row, 5 one -/
theorem ok_lawrenamed (T : Facts P w K mg) : FnG P w K mg base 1 T.a_lawrenamed T.d_lawrenamed ["program", "lines"] sp_lawrenamed := by
  refine fun_okG T.F_lawrenamed sc_lawrenamed len_lawrenamed fun cdv A outer s H Ex vs ss Q E hr hg lv h => ?_
  have hu := hr.units
  have hu5 : (A.deeper (envOfC "_law_renamed" (defScope s_lawrenamed) s.heap.objs.size T.a_lawrenamed cdv)).units + 65 < cLine := by have := hr.un; omega
  have np : PassesOwn (model P w) (A.deeper (envOfC "_law_renamed" (defScope s_lawrenamed) s.heap.objs.size T.a_lawrenamed cdv)) (envOfC "_law_renamed" (defScope s_lawrenamed) s.heap.objs.size T.a_lawrenamed cdv) (cxG P w K mg base ["program", "lines", "found", "core", "row", "one"] "_law_renamed" (defScope s_lawrenamed) T.a_lawrenamed cdv A outer s H Ex).xe := PassesOwn.leaving
  obtain ⟨p, ns, rfl, hk, hp, q⟩ := h
  refine ⟨_, (jss_cons (js_set (i := 2) (je_lst ja_nil) (arV_none (by rw [lv]; decide)) sc_lawrenamed.nd rfl (by first | exact .inl rfl | exact .inr rfl))
    (jss_cons (js_for np rfl (ji_seq (je_var 0)) (jg_name (i := 3) sc_lawrenamed.nd rfl (by first | exact .inl rfl | exact .inr rfl)) (jss_cons (js_set (i := 4) (je_lst ja_nil) (arV_none (by rw [lv]; decide)) sc_lawrenamed.nd rfl (by first | exact .inl rfl | exact .inr rfl))
    (jss_cons (js_for np rfl (ji_seq (je_var 3)) (jg_name (i := 5) sc_lawrenamed.nd rfl (by first | exact .inl rfl | exact .inr rfl)) (jss_one (js_expr (je_mut 4 PySem.F.slot_list_append PySem.F.type_list_append u_append (ja_cons (je_if (jt_cmp (o_eq hu) (je_var 5) (je_tup (ja_cons je_str ja_nil))) (je_var 5) (je_op2 o_add (je_tup (ja_cons (je_ix o_ix (je_var 5) je_int) (ja_cons (je_ix o_ix (je_var 1) (je_ix o_ix (je_var 5) je_int)) ja_nil))) (je_slice o_sl (je_var 5) (jo_some je_int) jo_none))) ja_nil)))))
    (jss_one (js_expr (je_mut 2 PySem.F.slot_list_append PySem.F.type_list_append u_append (ja_cons (je_callT c_tuple (by rfl) T.m_tuple boot_tuple (jr_one (je_view 4))) ja_nil)))))))
    (jss_one (js_ret (je_callT c_tuple (by rfl) T.m_tuple boot_tuple (jr_one (je_view 2))))))), ?_⟩
  obtain ⟨h1, h2, h3, h4⟩ := isP_parts hk
  have hpm : Pm ns 4 := srt_iff.mp (of_decide_eq_true hp)
  refine sq_set (.lst []) [some (.val (PD p)), some (.val (.tuple (ns.map .int))), some (.lst ([])), none, none, none] (fun Q q => rm q) rfl ?_
  refine sq_cut (fun σ => ∃ x3 x4 x5 : Option S, σ = [some (.val (PD p)), some (.val (.tuple (ns.map .int))), some (.lst ((renP (px ns) p).map CD)), x3, x4, x5]) (fun σ h => ?_) (fun N hN => ?_)
  · obtain ⟨x3, x4, x5, rfl⟩ := h
    exact q
  refine for_pre CD (fun (done : List (List Ins)) (σ : SSt) => ∃ x3 x4 x5 : Option S, σ = [some (.val (PD p)), some (.val (.tuple (ns.map .int))), some (.lst ((renP (px ns) done).map CD)), x3, x4, x5]) p (fun done c rest σ N2 e hN2 h => ?_) (fun σ h => ?_) _ ⟨none, none, none, rfl⟩
  rotate_left
  · obtain ⟨x3, x4, x5, rfl⟩ := h
    exact hN _ ⟨x3, x4, x5, rfl⟩
  obtain ⟨x3, x4, x5, rfl⟩ := h
  have mc : c ∈ p := by rw [e]; simp
  have lc := h3 c mc
  have le := congrArg List.length e
  rw [List.length_append] at le
  with_reducible conv => whnf
  show sSeq _ _ [some (.val (PD p)), some (.val (.tuple (ns.map .int))), some (.lst ((renP (px ns) done).map CD)), some (.val (CD c)), x4, x5] _ _
  refine sq_set (.lst []) [some (.val (PD p)), some (.val (.tuple (ns.map .int))), some (.lst ((renP (px ns) done).map CD)), some (.val (CD c)), some (.lst ([])), x5] (fun Q q => rm q) rfl ?_
  refine sq_cut (fun σ => ∃ x5 : Option S, σ = [some (.val (PD p)), some (.val (.tuple (ns.map .int))), some (.lst ((renP (px ns) done).map CD)), some (.val (CD c)), some (.lst ((c.map (renI (px ns))).map I1)), x5]) (fun σ h => ?_) (fun N3 hN3 => ?_)
  · obtain ⟨x5, rfl⟩ := h
    refine And.intro (room2 (by rw [List.length_map]; unfold renP; rw [List.length_map]; omega)) (hN2 _ ⟨some (.val (CD c)), some (.lst ((c.map (renI (px ns))).map I1)), x5, ?_⟩)
    unfold renP
    rw [List.map_append, List.map_append]
    rfl
  refine for_pre I1 (fun (dn : List Ins) (σ : SSt) => ∃ x5 : Option S, σ = [some (.val (PD p)), some (.val (.tuple (ns.map .int))), some (.lst ((renP (px ns) done).map CD)), some (.val (CD c)), some (.lst ((dn.map (renI (px ns))).map I1)), x5]) c (fun dn i rs σ N4 e2 hN4 h => ?_) (fun σ h => ?_) _ ⟨x5, rfl⟩
  rotate_left
  · obtain ⟨x5, rfl⟩ := h
    exact hN3 _ ⟨x5, rfl⟩
  obtain ⟨x5, rfl⟩ := h
  have mi : i ∈ c := by rw [e2]; simp
  have le2 := congrArg List.length e2
  rw [List.length_append] at le2
  have fin : ∀ d : PyData, d = I1 (renI (px ns) i) → ((dn.map (renI (px ns))).map I1).length < sizeLine ∧ N4 [some (.val (PD p)), some (.val (.tuple (ns.map .int))), some (.lst ((renP (px ns) done).map CD)), some (.val (CD c)), some (.lst (((dn.map (renI (px ns))).map I1 ++ [d]))), some (.val (I1 i))] := fun d ed => by
    refine And.intro (room2 (by rw [List.length_map, List.length_map]; omega)) (hN4 _ ⟨some (.val (I1 i)), ?_⟩)
    rw [ed, List.map_append, List.map_append]
    rfl
  rcases isI_cases (h4 c mc i mi) with rfl | ⟨a, ha, rfl⟩ | ⟨w, a, b, hw, ha, hb, hb2, rfl⟩
  · refine rm (dq (ifb_t (eqv_self (noD_I1 _)) ?_) (dep_I1' _))
    exact fin _ rfl
  · refine rm (dq (ifb_f (eqv_fence _ _ _) ?_) (dep_I1' _))
    refine need_of rfl (need_of rfl (need_of (px_get hpm (i := (a : Int)) ⟨by omega, by omega⟩) (rm ?_)))
    exact And.intro (room1 (by show 2 + 0 ≤ _; decide)) (fin _ rfl)
  · refine rm (dq (ifb_f (eqv_fence _ _ _) ?_) (dep_I1' _))
    refine need_of rfl (need_of rfl (need_of (px_get hpm (i := (a : Int)) ⟨by omega, by omega⟩) (rm ?_)))
    exact And.intro (room1 (by show 2 + 1 ≤ _; decide)) (fin _ rfl)
/-! ### _law_accesses: slots 0 program, 1 line, 2 found, 3 c, 4 i -/
theorem ok_lawaccesses (T : Facts P w K mg) : FnG P w K mg base 1 T.a_lawaccesses T.d_lawaccesses ["program", "line"] sp_lawaccesses := by
  refine fun_okG T.F_lawaccesses sc_lawaccesses len_lawaccesses fun cdv A outer s H Ex vs ss Q E hr hg lv h => ?_
  have hu := hr.units
  have hu5 : (A.deeper (envOfC "_law_accesses" (defScope s_lawaccesses) s.heap.objs.size T.a_lawaccesses cdv)).units + 65 < cLine := by have := hr.un; omega
  have np : PassesOwn (model P w) (A.deeper (envOfC "_law_accesses" (defScope s_lawaccesses) s.heap.objs.size T.a_lawaccesses cdv)) (envOfC "_law_accesses" (defScope s_lawaccesses) s.heap.objs.size T.a_lawaccesses cdv) (cxG P w K mg base ["program", "line", "found", "c", "i"] "_law_accesses" (defScope s_lawaccesses) T.a_lawaccesses cdv A outer s H Ex).xe := PassesOwn.leaving
  obtain ⟨p, l, rfl, hk, q⟩ := h
  refine ⟨_, (jss_cons (js_set (i := 2) (je_lst ja_nil) (arV_none (by rw [lv]; decide)) sc_lawaccesses.nd rfl (by first | exact .inl rfl | exact .inr rfl))
    (jss_cons (js_for np rfl (ji_range1 (by rfl) T.m_range (je_callB c_len (by rfl) T.m_len boot_len (jr_one (je_var 0)))) (jg_name (i := 3) sc_lawaccesses.nd rfl (by first | exact .inl rfl | exact .inr rfl)) (jss_one (js_set (i := 2) (je_op2 o_add (je_frz 2) (je_lc rfl sc_lawaccesses.nd (ji_range1 (by rfl) T.m_range (je_callB c_len (by rfl) T.m_len boot_len (jr_one (je_ix o_ix (je_var 0) (je_var 3))))) (blkOk_by (own := [("i", 4)]) (by rfl)) (by decide) (fun _ _ _ _ _ => (jg_name (i := 4) sc_lawaccesses.nd rfl (by first | exact .inl rfl | exact .inr rfl))) (fun _ _ _ _ _ => (jq_one (jw_and (jt_cmp o_gt (je_callB c_len (by rfl) T.m_len boot_len (jr_one (je_ix o_ix (je_ix o_ix (je_var 0) (je_var 3)) (je_var 4)))) je_int) (jw_and1 (jt_cmp (o_eq hu) (je_ix o_ix (je_ix o_ix (je_ix o_ix (je_var 0) (je_var 3)) (je_var 4)) je_int) (je_var 1)))).jt)) (fun _ _ _ _ _ => (je_tup (ja_cons (je_var 3) (ja_cons (je_var 4) ja_nil)))))) (arV_none (by rw [lv]; decide)) sc_lawaccesses.nd rfl (by first | exact .inl rfl | exact .inr rfl))))
    (jss_one (js_ret (je_mov 2))))), ?_⟩
  obtain ⟨h1, h2, h3, h4⟩ := isP_parts hk
  have e0 : (((p.map CD).length : Nat) : Int) = p.length := by simp
  refine sq_set (.lst []) [some (.val (PD p)), some (.val (.int (l))), some (.lst ([])), none, none] (fun Q q => rm q) rfl ?_
  refine sq_cut (fun σ => ∃ x3 : Option S, σ = [some (.val (PD p)), some (.val (.int (l))), some (.lst ((accP p l).map pairD2)), x3, none]) (fun σ h => ?_) (fun N hN => ?_)
  · obtain ⟨x3, rfl⟩ := h
    exact q
  refine And.intro ⟨by omega, by omega⟩ ?_
  refine for_range (fun i : Nat => PyData.int (0 + (i : Int))) (fun k σ => ∃ x3 : Option S, σ = [some (.val (PD p)), some (.val (.int (l))), some (.lst (((p.zipIdx.take k).flatMap (accC l)).map pairD2)), x3, none]) _ (fun k σ N2 hk2 hN2 h => ?_) (fun σ h => ?_) _ ⟨none, rfl⟩
  rotate_left
  · obtain ⟨x3, rfl⟩ := h
    refine hN _ ⟨x3, ?_⟩
    rw [List.take_of_length_le (by rw [List.length_zipIdx, e0]; omega)]
    rfl
  obtain ⟨x3, rfl⟩ := h
  rw [e0] at hk2
  have hkl : k < p.length := by omega
  have ek : (0 : Int) + (k : Int) = (k : Nat) := Int.zero_add _
  have mc : p[k] ∈ p := List.getElem_mem hkl
  have et : p.zipIdx.take (k + 1) = p.zipIdx.take k ++ [(p[k], k)] := by
    rw [List.take_succ, List.getElem?_zipIdx, List.getElem?_eq_getElem hkl]
    simp
  have gc : atI (p.map CD) (k : Nat) = some (CD p[k]) := atI_nat (by rw [List.getElem?_map, List.getElem?_eq_getElem hkl]; rfl)
  generalize p[k] = c at mc et gc
  have lc := h3 c mc
  have acl : ∀ (c : List Ins) (k : Nat), (accC l (c, k)).length ≤ c.length := fun c k => by
    unfold accC
    rw [List.length_map]
    refine Nat.le_trans (List.length_filter_le _ _) ?_
    rw [List.length_zipIdx]
    exact Nat.le_refl _
  have ld : ((p.zipIdx.take k).flatMap (accC l)).length ≤ (p.zipIdx.take k).length * 24 := flat_le (b := 24) _ _ fun x m => by
    have m2 := List.mem_of_mem_take m
    have : x.1 ∈ p := by
      have e : p.zipIdx.map (·.1) = p := by simp
      rw [← e]
      exact List.mem_map.mpr ⟨x, m2, rfl⟩
    exact Nat.le_trans (acl x.1 x.2) (h3 _ this)
  have lt : (p.zipIdx.take k).length ≤ 12 := by rw [List.length_take, List.length_zipIdx]; omega
  have e1 : (((c.map I1).length : Nat) : Int) = c.length := by simp
  show sSet _ _ [some (.val (PD p)), some (.val (.int (l))), some (.lst (((p.zipIdx.take k).flatMap (accC l)).map pairD2)), some (.val (.int ((0 + (k : Int))))), none] _ _
  have gc' : atI (p.map CD) (0 + (k : Int)) = some (CD c) := by rw [ek]; exact gc
  refine need_of gc' (And.intro ⟨by rw [e1]; omega, by rw [e1]; omega⟩ ?_)
  rw [e1]
  have er : rangeD 0 ((c.length : Nat) : Int) = (List.range c.length).map fun j : Nat => PyData.int (0 + (j : Int)) := by
    unfold rangeD
    rw [show (((c.length : Nat) : Int) - 0).toNat = c.length by omega]
  rw [er]
  refine lcp (α := Nat) (fun j => .int (0 + (j : Int))) (fun j => .tuple [.int (0 + (k : Int)), .int (0 + (j : Int))]) (fun j => (c[j]?).any fun i => decide (i.2.head? = some l)) (fun j => [some (.val (PD p)), some (.val (.int (l))), some (.val (.list (((p.zipIdx.take k).flatMap (accC l)).map pairD2))), some (.val (.int ((0 + (k : Int))))), some (.val (.int ((0 + (j : Int)))))]) (List.range c.length) (by simp; omega) ?_ ?_ ?_ ?_ ?_
  · intro _ _; rfl
  · intro _ _; rfl
  · intro j mj Q q
    have hj := List.mem_range.mp mj
    have gi : atI (c.map I1) (0 + (j : Int)) = some (I1 c[j]) := by
      rw [Int.zero_add]
      exact atI_nat (by rw [List.getElem?_map, List.getElem?_eq_getElem hj]; rfl)
    have hi := h4 c mc c[j] (List.getElem_mem hj)
    have q : Q ((c[j]?).any fun i => decide (i.2.head? = some l)) _ := q
    rw [List.getElem?_eq_getElem hj, Option.any_some] at q
    generalize c[j] = i at gi hi q
    refine need_of gc' (need_of gi ?_)
    rcases isI_cases hi with rfl | ⟨a, ha, rfl⟩ | ⟨w, a, b, hw, ha, hb, hb2, rfl⟩
    · exact ifb_f rfl (tq q rfl)
    · refine ifb_t rfl (need_of gc' (need_of gi (need_of rfl (dq (tq q ?_)))))
      exact acc_eq _ _ _
    · refine ifb_t rfl (need_of gc' (need_of gi (need_of rfl (dq (tq q ?_)))))
      exact acc_eq _ _ _
  · intro x mx _ Q q
    exact rm q
  · have ez : ((List.range c.length).filter fun j => (c[j]?).any fun i => decide (i.2.head? = some l)).map (fun j : Nat => PyData.tuple [.int (0 + (k : Int)), .int (0 + (j : Int))]) = (accC l (c, k)).map pairD2 := by
      unfold accC
      rw [← zip_filter (fun i : Ins => decide (i.2.head? = some l)), List.map_map, List.map_map]
      refine List.map_congr_left fun x _ => ?_
      show PyData.tuple [.int (0 + (k : Int)), .int (0 + ((x.2 : Nat) : Int))] = .tuple [.int (k : Nat), .int (x.2 : Nat)]
      rw [Int.zero_add, Int.zero_add]
    rw [ez]
    refine And.intro (room1 ?_) (hN2 _ ⟨some (.val (.int (0 + (k : Int)))), ?_⟩)
    · have := acl c k
      rw [List.length_map, List.length_map]
      omega
    · rw [et, List.flatMap_append, List.map_append]
      have : [((c, k) : List Ins × Nat)].flatMap (accC l) = accC l (c, k) := by simp
      rw [this]
      rfl
/-! ### _law_one: slots 0 draws, 1 lines, 2 kind, 3 line, 4 value -/
theorem ok_lawone (T : Facts P w K mg) : FnG P w K mg base 2 T.a_lawone T.d_lawone ["draws", "lines"] sp_lawone := by
  have G_lawnext := ok_lawnext (base := base) T
  refine fun_okG T.F_lawone sc_lawone len_lawone fun cdv A outer s H Ex vs ss Q E hr hg lv h => ?_
  have hu := hr.units
  have hu5 : (A.deeper (envOfC "_law_one" (defScope s_lawone) s.heap.objs.size T.a_lawone cdv)).units + 65 < cLine := by have := hr.un; omega
  have np : PassesOwn (model P w) (A.deeper (envOfC "_law_one" (defScope s_lawone) s.heap.objs.size T.a_lawone cdv)) (envOfC "_law_one" (defScope s_lawone) s.heap.objs.size T.a_lawone cdv) (cxG P w K mg base ["draws", "lines", "kind", "line", "value"] "_law_one" (defScope s_lawone) T.a_lawone cdv A outer s H Ex).xe := PassesOwn.leaving
  obtain ⟨ns, rfl, q⟩ := h
  refine ⟨_, (jss_cons (js_setv (i := 2) (je_op2 o_mod (je_callT c_int (by rfl) T.m_int boot_int (jr_one (je_call G_lawnext (hr.mono (by decide)) hg (by rfl) T.g_lawnext T.F_lawnext.kp T.b_lawnext (jc_lent 0 jc_nil)))) je_int) sc_lawone.nd rfl (by first | exact .inl rfl | exact .inr rfl))
    (jss_cons (js_setv (i := 3) (je_op2 o_mod (je_callT c_int (by rfl) T.m_int boot_int (jr_one (je_call G_lawnext (hr.mono (by decide)) hg (by rfl) T.g_lawnext T.F_lawnext.kp T.b_lawnext (jc_lent 0 jc_nil)))) (je_var 1)) sc_lawone.nd rfl (by first | exact .inl rfl | exact .inr rfl))
    (jss_cons (js_setv (i := 4) (je_if (jt_cmp (o_eq hu) (je_op2 o_mod (je_callT c_int (by rfl) T.m_int boot_int (jr_one (je_call G_lawnext (hr.mono (by decide)) hg (by rfl) T.g_lawnext T.F_lawnext.kp T.b_lawnext (jc_lent 0 jc_nil)))) je_int) je_int) (je_op2 o_add je_int (je_op2 o_mod (je_callT c_int (by rfl) T.m_int boot_int (jr_one (je_call G_lawnext (hr.mono (by decide)) hg (by rfl) T.g_lawnext T.F_lawnext.kp T.b_lawnext (jc_lent 0 jc_nil)))) je_int)) (je_op2 o_add je_int (je_op2 o_mod (je_callT c_int (by rfl) T.m_int boot_int (jr_one (je_call G_lawnext (hr.mono (by decide)) hg (by rfl) T.g_lawnext T.F_lawnext.kp T.b_lawnext (jc_lent 0 jc_nil)))) je_int))) sc_lawone.nd rfl (by first | exact .inl rfl | exact .inr rfl))
    (jss_cons (js_if (jt_cmp o_lt (je_var 2) je_int) (jss_one (js_ret (je_tup (ja_cons je_str (ja_cons (je_var 3) ja_nil))))) jss_nil)
    (jss_cons (js_if (jt_cmp o_lt (je_var 2) je_int) (jss_one (js_ret (je_tup (ja_cons je_str (ja_cons (je_var 3) (ja_cons (je_var 4) ja_nil)))))) jss_nil)
    (jss_one (js_ret (je_if (jt_cmp (o_eq hu) (je_var 2) je_int) (je_tup (ja_cons je_str (ja_cons (je_var 3) (ja_cons (je_var 4) ja_nil)))) (je_tup (ja_cons je_str ja_nil)))))))))), ?_⟩
  refine And.intro rfl ⟨ns, rfl, fun n1 m1 _ => And.intro (by decide) ?_⟩
  refine And.intro rfl ⟨m1, rfl, fun n2 m2 _ => And.intro (by decide) ?_⟩
  have hl1 : 0 ≤ n2 % 4 := Int.emod_nonneg n2 (by decide)
  have hl2 : n2 % 4 < 4 := Int.emod_lt_of_pos n2 (by decide)
  refine And.intro rfl ⟨m2, rfl, fun n3 m3 _ => And.intro (by decide) ?_⟩
  refine And.intro ⟨dep_int, dep_int⟩ (ifb_eqi (fun _ => ?_) fun _ => ?_)
  · refine And.intro rfl ⟨m3, rfl, fun n4 m4 _ => And.intro (by decide) ?_⟩
    have hv1 : 0 ≤ n4 % 99 := Int.emod_nonneg n4 (by decide)
    have hv2 : n4 % 99 < 99 := Int.emod_lt_of_pos n4 (by decide)
    refine ifb_dec (fun _ => ?_) fun _ => ?_
    · exact And.intro (room1 (by show 2 ≤ _; decide)) (q ("load", [n2 % 4]) (isI_load ⟨hl1, hl2⟩) m4)
    · refine ifb_dec (fun _ => ?_) fun _ => ?_
      · exact And.intro (room1 (by show 3 ≤ _; decide)) (q ("store", [n2 % 4, 1 + n4 % 99]) (isI_store ⟨hl1, hl2⟩ ⟨by omega, by omega⟩) m4)
      · refine And.intro ⟨dep_int, dep_int⟩ (ifb_eqi (fun _ => ?_) fun _ => ?_)
        · exact And.intro (room1 (by show 3 ≤ _; decide)) (q ("swap", [n2 % 4, 1 + n4 % 99]) (isI_swap ⟨hl1, hl2⟩ ⟨by omega, by omega⟩) m4)
        · exact And.intro (room1 (by show 1 ≤ _; decide)) (q ("fence", []) isI_fence m4)
  · refine And.intro rfl ⟨m3, rfl, fun n4 m4 _ => And.intro (by decide) ?_⟩
    have hv1 : 0 ≤ n4 % 3 := Int.emod_nonneg n4 (by decide)
    have hv2 : n4 % 3 < 3 := Int.emod_lt_of_pos n4 (by decide)
    refine ifb_dec (fun _ => ?_) fun _ => ?_
    · exact And.intro (room1 (by show 2 ≤ _; decide)) (q ("load", [n2 % 4]) (isI_load ⟨hl1, hl2⟩) m4)
    · refine ifb_dec (fun _ => ?_) fun _ => ?_
      · exact And.intro (room1 (by show 3 ≤ _; decide)) (q ("store", [n2 % 4, 1 + n4 % 3]) (isI_store ⟨hl1, hl2⟩ ⟨by omega, by omega⟩) m4)
      · refine And.intro ⟨dep_int, dep_int⟩ (ifb_eqi (fun _ => ?_) fun _ => ?_)
        · exact And.intro (room1 (by show 3 ≤ _; decide)) (q ("swap", [n2 % 4, 1 + n4 % 3]) (isI_swap ⟨hl1, hl2⟩ ⟨by omega, by omega⟩) m4)
        · exact And.intro (room1 (by show 1 ≤ _; decide)) (q ("fence", []) isI_fence m4)
/-! ### _law_program: slots 0 draws, 1 cores, 2 most, 3 lines, 4 i, 5 c -/
theorem ok_lawprogram (T : Facts P w K mg) : FnG P w K mg base 3 T.a_lawprogram T.d_lawprogram ["draws", "cores", "most", "lines"] sp_lawprogram := by
  have G_lawnext := ok_lawnext (base := base) T
  have G_lawone := ok_lawone (base := base) T
  refine fun_okG T.F_lawprogram sc_lawprogram len_lawprogram fun cdv A outer s H Ex vs ss Q E hr hg lv h => ?_
  have hu := hr.units
  have hu5 : (A.deeper (envOfC "_law_program" (defScope s_lawprogram) s.heap.objs.size T.a_lawprogram cdv)).units + 65 < cLine := by have := hr.un; omega
  have np : PassesOwn (model P w) (A.deeper (envOfC "_law_program" (defScope s_lawprogram) s.heap.objs.size T.a_lawprogram cdv)) (envOfC "_law_program" (defScope s_lawprogram) s.heap.objs.size T.a_lawprogram cdv) (cxG P w K mg base ["draws", "cores", "most", "lines", "i", "c"] "_law_program" (defScope s_lawprogram) T.a_lawprogram cdv A outer s H Ex).xe := PassesOwn.leaving
  obtain ⟨ns, cores, most, rfl, hc, hm, q⟩ := h
  refine ⟨_, (jss_one (js_ret (je_callT c_tuple (by rfl) T.m_tuple boot_tuple (jr_one (je_lc rfl sc_lawprogram.nd (ji_range1 (by rfl) T.m_range (je_var 1)) (blkOk_by (own := [("c", 5)]) (by rfl)) (by decide) (fun _ _ _ _ _ => (jg_name (i := 5) sc_lawprogram.nd rfl (by first | exact .inl rfl | exact .inr rfl))) (fun _ _ _ _ _ => jq_nil) (fun _ _ _ _ _ => (je_callT c_tuple (by rfl) T.m_tuple boot_tuple (jr_one (je_lc rfl sc_lawprogram.nd (ji_range1 (by rfl) T.m_range (je_op2 o_mod (je_callT c_int (by rfl) T.m_int boot_int (jr_one (je_call G_lawnext (hr.mono (by decide)) hg (by rfl) T.g_lawnext T.F_lawnext.kp T.b_lawnext (jc_lent 0 jc_nil)))) (je_op2 o_add (je_var 2) je_int))) (blkOk_by (own := [("i", 4)]) (by rfl)) (by decide) (fun _ _ _ _ _ => (jg_name (i := 4) sc_lawprogram.nd rfl (by first | exact .inl rfl | exact .inr rfl))) (fun _ _ _ _ _ => jq_nil) (fun _ _ _ _ _ => (je_call G_lawone (hr.mono (by decide)) hg (by rfl) T.g_lawone T.F_lawone.kp T.b_lawone (jc_lent 0 (jc_val (je_var 3) jc_nil))))))))))))), ?_⟩
  refine And.intro ⟨by omega, by omega⟩ ?_
  refine lc_map (fun i : Nat => PyData.int (0 + (i : Int))) (fun (rem : List Nat) (acc : List PyData) (σ : SSt) => ∃ (done : List (List Ins)) (ms : List Int), acc = done.map CD ∧ done.length + rem.length = cores.toNat ∧ (∀ c ∈ done, c.length ≤ 24 ∧ c.all isI = true) ∧ σ = [some (.lst (I2 ms)), some (.val (.int cores)), some (.val (.int most)), some (.val (.int 4)), none, none])
    (fun i rem acc σ N hN h => ?_) (fun acc σ h => ?_) (List.range (cores - 0).toNat) [] _ ⟨[], ns, rfl, by simp, (fun c m => absurd m (by simp)), rfl⟩
  · obtain ⟨done, ms, rfl, hlen, hd, rfl⟩ := h
    rw [List.length_cons] at hlen
    refine ifb_t rfl (And.intro rfl ⟨ms, rfl, fun n m1 _ => And.intro (show (0 : Int) < most + 1 by omega) ?_⟩)
    have hn1 : 0 ≤ n % (most + 1) := Int.emod_nonneg n (by omega)
    have hn2 : n % (most + 1) < most + 1 := Int.emod_lt_of_pos n (by omega)
    refine And.intro ⟨by omega, by omega⟩ ?_
    refine lc_map (fun i : Nat => PyData.int (0 + (i : Int))) (fun (rem2 : List Nat) (acc2 : List PyData) (σ : SSt) => ∃ (d2 : List Ins) (ms : List Int), acc2 = d2.map I1 ∧ d2.length + rem2.length ≤ 24 ∧ d2.all isI = true ∧ σ = [some (.lst (I2 ms)), some (.val (.int cores)), some (.val (.int most)), some (.val (.int 4)), none, some (.val (.int (0 + (i : Int))))])
      (fun j rem2 acc2 σ N2 hN2 h => ?_) (fun acc2 σ h => ?_) (List.range (n % (most + 1) - 0).toNat) [] _ ⟨[], m1, rfl, by simp; omega, rfl, rfl⟩
    · obtain ⟨d2, ms2, rfl, hl2, ha, rfl⟩ := h
      rw [List.length_cons] at hl2
      refine ifb_t rfl (And.intro rfl ⟨ms2, rfl, fun x hx ms3 => And.intro (room2 (by rw [List.length_map]; omega)) (hN2 _ _ ⟨d2 ++ [x], ms3, by simp, by simp; omega, ?_, rfl⟩)⟩)
      rw [List.all_append, ha]
      simp [hx]
    · obtain ⟨d2, ms2, rfl, hl2, ha, rfl⟩ := h
      refine And.intro (room2 (by rw [List.length_map]; omega)) (hN _ _ ⟨done ++ [d2], ms2, by simp [CD], by simp; omega, fun c m => ?_, rfl⟩)
      rcases List.mem_append.mp m with m | m
      · exact hd c m
      · have : c = d2 := by simpa using m
        subst this
        exact ⟨by simp at hl2; omega, ha⟩
  · obtain ⟨done, ms, rfl, hlen, hd, rfl⟩ := h
    refine q done ?_ ms
    simp only [List.length_nil] at hlen
    show (decide (1 ≤ done.length) && decide (done.length ≤ 12) && done.all (fun c => decide (c.length ≤ 24)) && done.all (fun c => c.all isI)) = true
    rw [decide_eq_true (by omega), decide_eq_true (by omega), List.all_eq_true.mpr fun c m => decide_eq_true (hd c m).1, List.all_eq_true.mpr fun c m => (hd c m).2]
    rfl
/-! ### _law_more: slots 0 draws, 1 many, 2 seed, 3 more, 4 k -/
theorem ok_lawmore (T : Facts P w K mg) : FnG P w K mg base 2 T.a_lawmore T.d_lawmore ["draws", "many"] sp_lawmore := by
  have G_lawnext := ok_lawnext (base := base) T
  refine fun_okG T.F_lawmore sc_lawmore len_lawmore fun cdv A outer s H Ex vs ss Q E hr hg lv h => ?_
  have hu := hr.units
  have hu5 : (A.deeper (envOfC "_law_more" (defScope s_lawmore) s.heap.objs.size T.a_lawmore cdv)).units + 65 < cLine := by have := hr.un; omega
  have np : PassesOwn (model P w) (A.deeper (envOfC "_law_more" (defScope s_lawmore) s.heap.objs.size T.a_lawmore cdv)) (envOfC "_law_more" (defScope s_lawmore) s.heap.objs.size T.a_lawmore cdv) (cxG P w K mg base ["draws", "many", "seed", "more", "k"] "_law_more" (defScope s_lawmore) T.a_lawmore cdv A outer s H Ex).xe := PassesOwn.leaving
  obtain ⟨ns, rfl, hl, q⟩ := h
  refine ⟨_, (jss_cons (js_setv (i := 2) (je_op2 o_add (je_op2 o_add (je_op2 o_mulA je_int (je_call G_lawnext (hr.mono (by decide)) hg (by rfl) T.g_lawnext T.F_lawnext.kp T.b_lawnext (jc_lent 0 jc_nil))) (je_call G_lawnext (hr.mono (by decide)) hg (by rfl) T.g_lawnext T.F_lawnext.kp T.b_lawnext (jc_lent 0 jc_nil))) je_int) sc_lawmore.nd rfl (by first | exact .inl rfl | exact .inr rfl))
    (jss_cons (js_set (i := 3) (je_lst ja_nil) (arV_none (by rw [lv]; decide)) sc_lawmore.nd rfl (by first | exact .inl rfl | exact .inr rfl))
    (jss_cons (js_for np rfl (ji_range1 (by rfl) T.m_range (je_var 1)) (jg_name (i := 4) sc_lawmore.nd rfl (by first | exact .inl rfl | exact .inr rfl)) (jss_cons (js_setv (i := 2) (je_op2 o_mod (je_callT c_int (by rfl) T.m_int boot_int (jr_one (je_op2 o_add (je_op2 o_mulA (je_var 2) je_int) je_int))) je_int) sc_lawmore.nd rfl (by first | exact .inl rfl | exact .inr rfl))
    (jss_one (js_expr (je_mut 3 PySem.F.slot_list_append PySem.F.type_list_append u_append (ja_cons (je_op2 o_mod (je_callT c_int (by rfl) T.m_int boot_int (jr_one (je_op2 o_fdiv (je_var 2) je_int))) je_int) ja_nil))))))
    (jss_one (js_ret (je_op2 o_add (je_view 3) (je_view 0))))))), ?_⟩
  refine And.intro rfl ⟨ns, rfl, fun n1 m1 h1 => And.intro (.inl (by decide)) (And.intro rfl ⟨m1, rfl, fun n2 m2 h2 => ?_⟩)⟩
  refine And.intro (Nat.zero_le _) (And.intro ⟨by decide, by decide⟩ ?_)
  refine for_map (fun i : Nat => PyData.int (0 + (i : Int))) (fun (rem : List Nat) (σ : SSt) => ∃ (seed : Int) (acc : List Int) (L : List PyData) (x4 : Option S), σ = [some (.lst (I2 m2)), some (.val (.int 1200)), some (.val (.int seed)), some (.lst L), x4] ∧ L = I2 acc ∧ acc.length + rem.length ≤ 1200)
    (fun i rem σ N hN h => ?_) (fun σ h => ?_) (List.range ((1200 : Int) - 0).toNat) _ ⟨_, [], _, none, rfl, rfl, by simp⟩
  · obtain ⟨seed, acc, L, x4, rfl, rfl, hl2⟩ := h
    rw [List.length_cons] at hl2
    refine And.intro (.inr (by decide)) (And.intro (by decide) (And.intro ⟨by decide, by decide⟩ (And.intro (by decide) (And.intro ?_ (hN _ ⟨_, acc ++ [(seed * 48271 + 12345) % 2147483647 / 7 % 1000], _, _, rfl, ?_, by simp; omega⟩)))))
    · show (I2 acc).length < _
      unfold I2
      rw [List.length_map]
      exact room2 (by omega)
    · unfold I2
      rw [List.map_append]
      rfl
  · obtain ⟨seed, acc, L, x4, rfl, rfl, hl2⟩ := h
    have e : I2 (acc ++ m2) = I2 acc ++ I2 m2 := List.map_append
    have q2 := q (acc ++ m2) m2
    rw [e] at q2
    refine And.intro (room1 ?_) q2
    unfold I2
    rw [List.length_map, List.length_map]
    omega
/-! ### _law_any_program: slots 0 draws -/
theorem ok_lawanyprogram (T : Facts P w K mg) : FnG P w K mg base 4 T.a_lawanyprogram T.d_lawanyprogram ["draws"] sp_lawanyprogram := by
  have G_lawprogram := ok_lawprogram (base := base) T
  have G_lawnext := ok_lawnext (base := base) T
  have G_lawmore := ok_lawmore (base := base) T
  refine fun_okG T.F_lawanyprogram sc_lawanyprogram len_lawanyprogram fun cdv A outer s H Ex vs ss Q E hr hg lv h => ?_
  have hu := hr.units
  have hu5 : (A.deeper (envOfC "_law_any_program" (defScope s_lawanyprogram) s.heap.objs.size T.a_lawanyprogram cdv)).units + 65 < cLine := by have := hr.un; omega
  have np : PassesOwn (model P w) (A.deeper (envOfC "_law_any_program" (defScope s_lawanyprogram) s.heap.objs.size T.a_lawanyprogram cdv)) (envOfC "_law_any_program" (defScope s_lawanyprogram) s.heap.objs.size T.a_lawanyprogram cdv) (cxG P w K mg base ["draws"] "_law_any_program" (defScope s_lawanyprogram) T.a_lawanyprogram cdv A outer s H Ex).xe := PassesOwn.leaving
  obtain ⟨ns, rfl, hl, q⟩ := h
  refine ⟨_, (jss_cons (js_if (jt_cmp (o_eq hu) (je_op2 o_mod (je_callT c_int (by rfl) T.m_int boot_int (jr_one (je_call G_lawnext (hr.mono (by decide)) hg (by rfl) T.g_lawnext T.F_lawnext.kp T.b_lawnext (jc_lent 0 jc_nil)))) je_int) je_int) (jss_one (js_ret (je_callF G_lawprogram (hr.mono (by decide)) hg (by rfl) T.g_lawprogram T.F_lawprogram.kp T.b_lawprogram (je_call G_lawmore (hr.mono (by decide)) hg (by rfl) T.g_lawmore T.F_lawmore.kp T.b_lawmore (jc_lent 0 (jc_val je_int jc_nil))) (ja_cons je_int (ja_cons je_int (ja_cons je_int ja_nil)))))) jss_nil)
    (jss_one (js_ret (je_call G_lawprogram (hr.mono (by decide)) hg (by rfl) T.g_lawprogram T.F_lawprogram.kp T.b_lawprogram (jc_lent 0 (jc_val (je_op2 o_add je_int (je_op2 o_mod (je_callT c_int (by rfl) T.m_int boot_int (jr_one (je_call G_lawnext (hr.mono (by decide)) hg (by rfl) T.g_lawnext T.F_lawnext.kp T.b_lawnext (jc_lent 0 jc_nil)))) je_int)) (jc_val je_int (jc_val je_int jc_nil)))))))), ?_⟩
  refine And.intro rfl ⟨ns, rfl, fun n m hm => And.intro (by decide) ?_⟩
  refine And.intro ⟨dep_int, dep_int⟩ (ifb_eqi (fun _ => ?_) fun _ => ?_)
  · refine And.intro rfl ⟨m, rfl, by omega, fun ms ms2 => ?_⟩
    exact ⟨ms, 12, 24, rfl, ⟨by decide, by decide⟩, ⟨by decide, by decide⟩, fun p hp ms3 => q p hp ms2⟩
  · refine And.intro rfl ⟨m, rfl, fun n2 m2 _ => And.intro (by decide) ?_⟩
    have h1 : 0 ≤ n2 % 4 := Int.emod_nonneg n2 (by decide)
    have h2 : n2 % 4 < 4 := Int.emod_lt_of_pos n2 (by decide)
    exact And.intro rfl ⟨m2, 1 + n2 % 4, 5, rfl, ⟨by omega, by omega⟩, ⟨by decide, by decide⟩, fun p hp ms3 => q p hp ms3⟩
/-! ### _law_number: slots 0 cell -/
theorem ok_lawnumber (T : Facts P w K mg) : FnG P w K mg base 1 T.a_lawnumber T.d_lawnumber ["cell"] sp_lawnumber := by
  refine fun_okG T.F_lawnumber sc_lawnumber len_lawnumber fun cdv A outer s H Ex vs ss Q E hr hg lv h => ?_
  have hu := hr.units
  have hu5 : (A.deeper (envOfC "_law_number" (defScope s_lawnumber) s.heap.objs.size T.a_lawnumber cdv)).units + 65 < cLine := by have := hr.un; omega
  have np : PassesOwn (model P w) (A.deeper (envOfC "_law_number" (defScope s_lawnumber) s.heap.objs.size T.a_lawnumber cdv)) (envOfC "_law_number" (defScope s_lawnumber) s.heap.objs.size T.a_lawnumber cdv) (cxG P w K mg base ["cell"] "_law_number" (defScope s_lawnumber) T.a_lawnumber cdv A outer s H Ex).xe := PassesOwn.leaving
  obtain ⟨i, rfl, q⟩ := h
  refine ⟨_, (jss_cons (js_if (jt_cmp o_lt (je_var 0) je_int) (jss_one (js_ret (je_op2 o_sub je_int (je_var 0)))) jss_nil)
    (jss_one (js_ret (je_var 0)))), ?_⟩
  exact ifb_of (fun _ => q _) fun _ => q _
/-! ### _law_draws: slots 0 script, 1 draws, 2 cell, 3 rest, 4 k, 5 once, 6 twice -/
theorem ok_lawdraws (T : Facts P w K mg) : FnG P w K mg base 2 T.a_lawdraws T.d_lawdraws ["script"] sp_lawdraws := by
  have G_lawnumber := ok_lawnumber (base := base) T
  refine fun_okG T.F_lawdraws sc_lawdraws len_lawdraws fun cdv A outer s H Ex vs ss Q E hr hg lv h => ?_
  have hu := hr.units
  have hu5 : (A.deeper (envOfC "_law_draws" (defScope s_lawdraws) s.heap.objs.size T.a_lawdraws cdv)).units + 65 < cLine := by have := hr.un; omega
  have np : PassesOwn (model P w) (A.deeper (envOfC "_law_draws" (defScope s_lawdraws) s.heap.objs.size T.a_lawdraws cdv)) (envOfC "_law_draws" (defScope s_lawdraws) s.heap.objs.size T.a_lawdraws cdv) (cxG P w K mg base ["script", "draws", "cell", "rest", "k", "once", "twice"] "_law_draws" (defScope s_lawdraws) T.a_lawdraws cdv A outer s H Ex).xe := PassesOwn.leaving
  obtain ⟨ns, rfl, hl, q⟩ := h
  refine ⟨_, (jss_cons (js_set (i := 1) (je_lst ja_nil) (arV_none (by rw [lv]; decide)) sc_lawdraws.nd rfl (by first | exact .inl rfl | exact .inr rfl))
    (jss_cons (js_for np rfl (ji_seq (je_view 0)) (jg_name (i := 2) sc_lawdraws.nd rfl (by first | exact .inl rfl | exact .inr rfl)) (jss_cons (js_setv (i := 3) (je_call G_lawnumber (hr.mono (by decide)) hg (by rfl) T.g_lawnumber T.F_lawnumber.kp T.b_lawnumber (jc_val (je_var 2) jc_nil)) sc_lawdraws.nd rfl (by first | exact .inl rfl | exact .inr rfl))
    (jss_one (js_if (jt_cmp o_ge (je_var 3) je_int) (jss_one (js_for np rfl (ji_range1 (by rfl) T.m_range je_int) (jg_name (i := 4) sc_lawdraws.nd rfl (by first | exact .inl rfl | exact .inr rfl)) (jss_cons (js_if (jt_cmp (o_eq hu) (je_var 3) je_int) (jss_one js_break) jss_nil)
    (jss_cons (js_expr (je_mut 1 PySem.F.slot_list_append PySem.F.type_list_append u_append (ja_cons (je_op2 o_mod (je_callT c_int (by rfl) T.m_int boot_int (jr_one (je_var 3))) je_int) ja_nil)))
    (jss_one (js_setv (i := 3) (je_op2 o_fdiv (je_var 3) je_int) sc_lawdraws.nd rfl (by first | exact .inl rfl | exact .inr rfl))))))) (jss_cons (js_setv (i := 5) (je_op2 o_mod (je_callT c_int (by rfl) T.m_int boot_int (jr_one (je_op2 o_add (je_op2 o_mulA (je_var 3) je_int) je_int))) je_int) sc_lawdraws.nd rfl (by first | exact .inl rfl | exact .inr rfl))
    (jss_cons (js_setv (i := 6) (je_op2 o_mod (je_callT c_int (by rfl) T.m_int boot_int (jr_one (je_op2 o_add (je_op2 o_mulA (je_var 5) je_int) (je_var 3)))) je_int) sc_lawdraws.nd rfl (by first | exact .inl rfl | exact .inr rfl))
    (jss_one (js_expr (je_mut 1 PySem.F.slot_list_extend PySem.F.type_list_extend u_extend (ja_cons (je_lst (ja_cons (je_op2 o_mod (je_callT c_int (by rfl) T.m_int boot_int (jr_one (je_var 3))) je_int) (ja_cons (je_op2 o_mod (je_callT c_int (by rfl) T.m_int boot_int (jr_one (je_var 5))) je_int) (ja_cons (je_op2 o_mod (je_callT c_int (by rfl) T.m_int boot_int (jr_one (je_var 6))) je_int) ja_nil)))) ja_nil))))))))))
    (jss_cons (js_expr (je_mut0 1 PySem.F.slot_list_reverse PySem.F.type_list_reverse u_reverse))
    (jss_one (js_ret (je_mov 1)))))), ?_⟩
  refine And.intro (Nat.zero_le _) ?_
  refine for_map PyData.int (fun (cs : List Int) (σ : SSt) => ∃ L acc x2 x3 x4 x5 x6, σ = [some (.scr ns), some (.lst L), x2, x3, x4, x5, x6] ∧ L = I2 acc ∧ acc.length + 60 * cs.length ≤ 3780) (fun c cs σ N hN h => ?_) (fun σ h => ?_) ns _ ⟨[], [], none, none, none, none, none, rfl, rfl, by simp; omega⟩
  · obtain ⟨L, acc, x2, x3, x4, x5, x6, rfl, rfl, hz⟩ := h
    rw [List.length_cons] at hz
    refine And.intro rfl ⟨c, rfl, fun j => ?_⟩
    refine ifb_of (fun _ => ?_) fun _ => ?_
    · refine And.intro (by decide) ?_
      refine for_map (fun (i : Nat) => PyData.int (0 + (i : Int))) (fun (ks : List Nat) (σ : SSt) => ∃ L acc2 r x4 x5 x6, σ = [some (.scr ns), some (.lst L), some (.val (.int c)), some (.val (.int r)), x4, x5, x6] ∧ L = I2 acc2 ∧ acc2.length + ks.length ≤ acc.length + 60)
        (fun i ks σ N2 hN2 h => ?_) (fun σ h => ?_) (List.range 60) _ ⟨_, acc, j, _, _, _, rfl, rfl, by simp⟩
      · obtain ⟨L, acc2, r, x4, x5, x6, rfl, rfl, hz2⟩ := h
        rw [List.length_cons] at hz2
        refine And.intro ⟨dep_int, dep_int⟩ ?_
        refine ifb_eqi (fun r0 => ?_) fun r0 => ?_
        · exact hN _ ⟨_, acc2, _, _, _, _, _, rfl, rfl, by omega⟩
        · refine And.intro (by decide) (And.intro ?_ (And.intro ⟨by decide, by decide⟩ (hN2 _ ⟨_, acc2 ++ [r % 1000], r / 1000, _, _, _, rfl, ?_, by simp; omega⟩)))
          · show (I2 acc2).length < _
            unfold I2
            rw [List.length_map]
            exact room2 (by omega)
          · unfold I2
            rw [List.map_append]
            rfl
      · obtain ⟨L, acc2, r, x4, x5, x6, rfl, rfl, hz2⟩ := h
        exact hN _ ⟨_, acc2, _, _, _, _, _, rfl, rfl, by simp at hz2; omega⟩
    · refine And.intro (.inr (by decide)) (And.intro (by decide) (And.intro (.inr (by decide)) (And.intro (by decide) (And.intro (by decide) (And.intro (by decide) (And.intro (by decide) (And.intro (room1 (by simp)) (And.intro ?_ ?_))))))))
      · show (I2 acc).length + 3 ≤ _
        unfold I2
        rw [List.length_map]
        exact room1 (by omega)
      · refine hN _ ⟨_, acc ++ [j % 1000, (j * 48271 + 11) % 2147483647 % 1000, ((j * 48271 + 11) % 2147483647 * 69621 + j) % 2147483629 % 1000], _, _, _, _, _, rfl, ?_, by simp; omega⟩
        unfold I2
        rw [List.map_append]
        rfl
  · obtain ⟨L, acc, x2, x3, x4, x5, x6, rfl, rfl, hz⟩ := h
    have q2 := q acc.reverse (by simp at hz ⊢; omega)
    have e : I2 acc.reverse = (I2 acc).reverse := List.map_reverse
    rw [e] at q2
    exact q2
/-! ### law: slots 0 script, 1 draws, 2 program, 3 count, 4 line, 5 due, 6 told, 7 lines, 8 order, 9 c, 10 counts, 11 core, 12 some, 13 bad, 14 way -/
theorem ok_law (T : Facts P w K mg) : FnG P w K mg base 7 T.a_law T.d_law ["script"] sp_law := by
  have G_lawtold := ok_lawtold (base := base) T
  have G_lawput := ok_lawput (base := base) T
  have G_lawnext := ok_lawnext (base := base) T
  have G_isprogram := ok_isprogram (base := base) T
  have G_lawmixed := ok_lawmixed (base := base) T
  have G_lawrenamed := ok_lawrenamed (base := base) T
  have G_lawaccesses := ok_lawaccesses (base := base) T
  have G_lawanyprogram := ok_lawanyprogram (base := base) T
  have G_lawdraws := ok_lawdraws (base := base) T
  refine fun_okG T.F_law sc_law len_law fun cdv A outer s H Ex vs ss Q E hr hg lv h => ?_
  have hu := hr.units
  have hu5 : (A.deeper (envOfC "law" (defScope s_law) s.heap.objs.size T.a_law cdv)).units + 65 < cLine := by have := hr.un; omega
  have np : PassesOwn (model P w) (A.deeper (envOfC "law" (defScope s_law) s.heap.objs.size T.a_law cdv)) (envOfC "law" (defScope s_law) s.heap.objs.size T.a_law cdv) (cxG P w K mg base ["script", "draws", "program", "count", "line", "due", "told", "lines", "order", "c", "counts", "core", "some", "bad", "way"] "law" (defScope s_law) T.a_law cdv A outer s H Ex).xe := PassesOwn.leaving
  obtain ⟨ns, rfl, hs0, q⟩ := h
  refine ⟨_, (jss_cons (js_set (i := 1) (je_call G_lawdraws (hr.mono (by decide)) hg (by rfl) T.g_lawdraws T.F_lawdraws.kp T.b_lawdraws (jc_lent 0 jc_nil)) (arV_none (by rw [lv]; decide)) sc_law.nd rfl (by first | exact .inl rfl | exact .inr rfl))
    (jss_cons (js_setv (i := 2) (je_call G_lawanyprogram (hr.mono (by decide)) hg (by rfl) T.g_lawanyprogram T.F_lawanyprogram.kp T.b_lawanyprogram (jc_lent 1 jc_nil)) sc_law.nd rfl (by first | exact .inl rfl | exact .inr rfl))
    (jss_cons (js_setv (i := 3) (je_callB c_len (by rfl) T.m_len boot_len (jr_one (je_var 2))) sc_law.nd rfl (by first | exact .inl rfl | exact .inr rfl))
    (jss_cons (js_for np rfl (ji_range2 (by rfl) T.m_range (ja_cons (je_un o_neg je_int) (ja_cons je_int ja_nil))) (jg_name (i := 4) sc_law.nd rfl (by first | exact .inl rfl | exact .inr rfl)) (jss_cons (js_setv (i := 5) (je_if (jt_chain o_le o_lt je_int (je_var 4) je_int) (je_call G_lawaccesses (hr.mono (by decide)) hg (by rfl) T.g_lawaccesses T.F_lawaccesses.kp T.b_lawaccesses (jc_val (je_var 2) (jc_val (je_var 4) jc_nil))) je_str) sc_law.nd rfl (by first | exact .inl rfl | exact .inr rfl))
    (jss_cons (js_set (i := 6) (je_call G_lawtold (hr.mono (by decide)) hg (by rfl) T.g_lawtold T.F_lawtold.kp T.b_lawtold (jc_val je_int (jc_val (je_var 2) (jc_val (je_var 4) jc_nil)))) (arV_none (by rw [lv]; decide)) sc_law.nd rfl (by first | exact .inl rfl | exact .inr rfl))
    (jss_cons (js_if (jt_cmp (o_ne hu) (je_callB (c_repr hg hu) (by rfl) T.m_repr boot_repr (jr_one (je_view 6))) (je_callB (c_repr hg hu) (by rfl) T.m_repr boot_repr (jr_one (je_var 5)))) (jss_one (js_ret je_bl)) jss_nil)
    (jss_one (js_if (jt_val (je_isT (by rfl) T.m_isinstance (by rfl) T.m_list boot_list kit_lst (je_view 6))) (jss_cons (js_expr (je_mut 6 PySem.F.slot_list_append PySem.F.type_list_append u_append (ja_cons (je_tup ja_nil) ja_nil)))
    (jss_one (js_if (jt_cmp (o_ne hu) (je_callB (c_repr hg hu) (by rfl) T.m_repr boot_repr (jr_one (je_call G_lawtold (hr.mono (by decide)) hg (by rfl) T.g_lawtold T.F_lawtold.kp T.b_lawtold (jc_val je_int (jc_val (je_var 2) (jc_val (je_var 4) jc_nil)))))) (je_callB (c_repr hg hu) (by rfl) T.m_repr boot_repr (jr_one (je_var 5)))) (jss_one (js_ret je_bl)) jss_nil))) jss_nil))))))
    (jss_cons (js_if (jt_cmp (o_ne hu) (je_callB (c_repr hg hu) (by rfl) T.m_repr boot_repr (jr_one (je_call G_lawtold (hr.mono (by decide)) hg (by rfl) T.g_lawtold T.F_lawtold.kp T.b_lawtold (jc_val je_int (jc_val (je_var 2) (jc_val je_int jc_nil)))))) (je_callB (c_repr hg hu) (by rfl) T.m_repr boot_repr (jr_one (je_lc rfl sc_law.nd (ji_range1 (by rfl) T.m_range je_int) (blkOk_by (own := [("line", 4)]) (by rfl)) (by decide) (fun _ _ _ _ _ => (jg_name (i := 4) sc_law.nd rfl (by first | exact .inl rfl | exact .inr rfl))) (fun _ _ _ _ _ => (jq_one (jt_val (je_call G_lawaccesses (hr.mono (by decide)) hg (by rfl) T.g_lawaccesses T.F_lawaccesses.kp T.b_lawaccesses (jc_val (je_var 2) (jc_val (je_var 4) jc_nil)))))) (fun _ _ _ _ _ => (je_var 4)))))) (jss_one (js_ret je_bl)) jss_nil)
    (jss_cons (js_set (i := 7) (je_call G_lawmixed (hr.mono (by decide)) hg (by rfl) T.g_lawmixed T.F_lawmixed.kp T.b_lawmixed (jc_lent 1 (jc_val (je_lst (ja_cons je_int (ja_cons je_int (ja_cons je_int (ja_cons je_int ja_nil))))) jc_nil))) (arV_none (by rw [lv]; decide)) sc_law.nd rfl (by first | exact .inl rfl | exact .inr rfl))
    (jss_cons (js_set (i := 6) (je_call G_lawtold (hr.mono (by decide)) hg (by rfl) T.g_lawtold T.F_lawtold.kp T.b_lawtold (jc_val je_int (jc_val (je_var 2) (jc_val (je_tpl 7) jc_nil)))) (arV_none (by rw [lv]; decide)) sc_law.nd rfl (by first | exact .inl rfl | exact .inr rfl))
    (jss_cons (js_if (jw_or (jt_cmp (o_ne hu) (je_callB (c_repr hg hu) (by rfl) T.m_repr boot_repr (jr_one (je_view 6))) (je_callB (c_repr hg hu) (by rfl) T.m_repr boot_repr (jr_one (je_call G_lawrenamed (hr.mono (by decide)) hg (by rfl) T.g_lawrenamed T.F_lawrenamed.kp T.b_lawrenamed (jc_val (je_var 2) (jc_val (je_tpl 7) jc_nil)))))) (jw_or1 (jt_cmp (o_ne hu) (je_call G_lawtold (hr.mono (by decide)) hg (by rfl) T.g_lawtold T.F_lawtold.kp T.b_lawtold (jc_val je_int (jc_lent 6 (jc_val (je_callT c_tuple (by rfl) T.m_tuple boot_tuple (jr_one (je_lc rfl sc_law.nd (ji_range1 (by rfl) T.m_range je_int) (blkOk_by (own := [("line", 4)]) (by rfl)) (by decide) (fun _ _ _ _ _ => (jg_name (i := 4) sc_law.nd rfl (by first | exact .inl rfl | exact .inr rfl))) (fun _ _ _ _ _ => jq_nil) (fun _ _ _ _ _ => (je_tix 7 hu (je_var 4)))))) jc_nil)))) (je_var 2)))).jt (jss_one (js_ret je_bl)) jss_nil)
    (jss_cons (js_set (i := 8) (je_call G_lawmixed (hr.mono (by decide)) hg (by rfl) T.g_lawmixed T.F_lawmixed.kp T.b_lawmixed (jc_lent 1 (jc_val (je_lrng1 rfl (by rfl) T.m_list (by rfl) T.m_range (je_var 3)) jc_nil))) (arV_none (by rw [lv]; decide)) sc_law.nd rfl (by first | exact .inl rfl | exact .inr rfl))
    (jss_cons (js_set (i := 6) (je_call G_lawtold (hr.mono (by decide)) hg (by rfl) T.g_lawtold T.F_lawtold.kp T.b_lawtold (jc_val je_int (jc_val (je_var 2) (jc_val (je_tpl 8) jc_nil)))) (arV_none (by rw [lv]; decide)) sc_law.nd rfl (by first | exact .inl rfl | exact .inr rfl))
    (jss_cons (js_if (jw_or (jt_cmp (o_ne hu) (je_callB (c_repr hg hu) (by rfl) T.m_repr boot_repr (jr_one (je_view 6))) (je_callB (c_repr hg hu) (by rfl) T.m_repr boot_repr (jr_one (je_callT c_tuple (by rfl) T.m_tuple boot_tuple (jr_one (je_lc rfl sc_law.nd (ji_seq (je_tpl 8)) (blkOk_by (own := [("c", 9)]) (by rfl)) (by decide) (fun _ _ _ _ _ => (jg_name (i := 9) sc_law.nd rfl (by first | exact .inl rfl | exact .inr rfl))) (fun _ _ _ _ _ => jq_nil) (fun _ _ _ _ _ => (je_ix o_ix (je_var 2) (je_var 9))))))))) (jw_or1 (jt_cmp (o_ne hu) (je_call G_lawtold (hr.mono (by decide)) hg (by rfl) T.g_lawtold T.F_lawtold.kp T.b_lawtold (jc_val je_int (jc_lent 6 (jc_val (je_callT c_tuple (by rfl) T.m_tuple boot_tuple (jr_one (je_lc rfl sc_law.nd (ji_range1 (by rfl) T.m_range (je_var 3)) (blkOk_by (own := [("c", 9)]) (by rfl)) (by decide) (fun _ _ _ _ _ => (jg_name (i := 9) sc_law.nd rfl (by first | exact .inl rfl | exact .inr rfl))) (fun _ _ _ _ _ => jq_nil) (fun _ _ _ _ _ => (je_tix 8 hu (je_var 9)))))) jc_nil)))) (je_var 2)))).jt (jss_one (js_ret je_bl)) jss_nil)
    (jss_cons (js_setv (i := 10) (je_callT c_tuple (by rfl) T.m_tuple boot_tuple (jr_one (je_lc rfl sc_law.nd (ji_seq (je_var 2)) (blkOk_by (own := [("core", 11)]) (by rfl)) (by decide) (fun _ _ _ _ _ => (jg_name (i := 11) sc_law.nd rfl (by first | exact .inl rfl | exact .inr rfl))) (fun _ _ _ _ _ => jq_nil) (fun _ _ _ _ _ => (je_op2 o_mod (je_callT c_int (by rfl) T.m_int boot_int (jr_one (je_call G_lawnext (hr.mono (by decide)) hg (by rfl) T.g_lawnext T.F_lawnext.kp T.b_lawnext (jc_lent 1 jc_nil)))) (je_op2 o_add (je_callB c_len (by rfl) T.m_len boot_len (jr_one (je_var 11))) je_int)))))) sc_law.nd rfl (by first | exact .inl rfl | exact .inr rfl))
    (jss_cons (js_set (i := 6) (je_call G_lawtold (hr.mono (by decide)) hg (by rfl) T.g_lawtold T.F_lawtold.kp T.b_lawtold (jc_val je_int (jc_val (je_var 2) (jc_val (je_var 10) jc_nil)))) (arV_none (by rw [lv]; decide)) sc_law.nd rfl (by first | exact .inl rfl | exact .inr rfl))
    (jss_cons (js_if (jw_or (jt_cmp (o_ne hu) (je_callB (c_repr hg hu) (by rfl) T.m_repr boot_repr (jr_one (je_view 6))) (je_callB (c_repr hg hu) (by rfl) T.m_repr boot_repr (jr_one (je_callT c_tuple (by rfl) T.m_tuple boot_tuple (jr_one (je_lc rfl sc_law.nd (ji_range1 (by rfl) T.m_range (je_var 3)) (blkOk_by (own := [("c", 9)]) (by rfl)) (by decide) (fun _ _ _ _ _ => (jg_name (i := 9) sc_law.nd rfl (by first | exact .inl rfl | exact .inr rfl))) (fun _ _ _ _ _ => jq_nil) (fun _ _ _ _ _ => (je_slice o_sl (je_ix o_ix (je_var 2) (je_var 9)) jo_none (jo_some (je_ix o_ix (je_var 10) (je_var 9))))))))))) (jw_or1 (jt_cmp o_isNotB (je_call G_isprogram (hr.mono (by decide)) hg (by rfl) T.g_isprogram T.F_isprogram.kp T.b_isprogram (jc_lent 6 jc_nil)) je_bl))).jt (jss_one (js_ret je_bl)) jss_nil)
    (jss_cons (js_for np rfl (ji_seq (je_lst (ja_cons (je_tup (ja_cons je_int (ja_cons je_int (ja_cons je_int ja_nil)))) (ja_cons (je_tup (ja_cons je_int (ja_cons je_int (ja_cons je_int (ja_cons je_int ja_nil))))) (ja_cons (je_tup (ja_cons je_int (ja_cons je_int (ja_cons je_int (ja_cons je_int ja_nil))))) (ja_cons (je_tup (ja_cons je_int (ja_cons je_int (ja_cons je_int (ja_cons je_int (ja_cons je_int ja_nil)))))) (ja_cons (je_tup (ja_cons (je_un o_neg je_int) (ja_cons je_int (ja_cons je_int (ja_cons je_int ja_nil))))) (ja_cons (je_tup ja_nil) ja_nil)))))))) (jg_name (i := 12) sc_law.nd rfl (by first | exact .inl rfl | exact .inr rfl)) (jss_one (js_if (jt_cmp (o_ne hu) (je_call G_lawtold (hr.mono (by decide)) hg (by rfl) T.g_lawtold T.F_lawtold.kp T.b_lawtold (jc_val je_int (jc_val (je_var 2) (jc_val (je_var 12) jc_nil)))) je_str) (jss_one (js_ret je_bl)) jss_nil)))
    (jss_cons (js_for np rfl (ji_seq (je_lst (ja_cons (je_op2 o_add (je_tpl 8) (je_tup (ja_cons (je_var 3) ja_nil))) (ja_cons (je_slice o_sl (je_tpl 8) (jo_some je_int) jo_none) (ja_cons (je_op2 o_add (je_tup (ja_cons (je_un o_neg je_int) ja_nil)) (je_slice o_sl (je_tpl 8) (jo_some je_int) jo_none)) (ja_cons (je_op2 o_add (je_slice o_sl (je_tpl 8) jo_none (jo_some (je_un o_neg je_int))) (je_tup (ja_cons (je_var 3) ja_nil))) ja_nil)))))) (jg_name (i := 12) sc_law.nd rfl (by first | exact .inl rfl | exact .inr rfl)) (jss_one (js_if (jt_cmp (o_ne hu) (je_call G_lawtold (hr.mono (by decide)) hg (by rfl) T.g_lawtold T.F_lawtold.kp T.b_lawtold (jc_val je_int (jc_val (je_var 2) (jc_val (je_var 12) jc_nil)))) je_str) (jss_one (js_ret je_bl)) jss_nil)))
    (jss_cons (js_setv (i := 9) (je_op2 o_mod (je_callT c_int (by rfl) T.m_int boot_int (jr_one (je_call G_lawnext (hr.mono (by decide)) hg (by rfl) T.g_lawnext T.F_lawnext.kp T.b_lawnext (jc_lent 1 jc_nil)))) (je_var 3)) sc_law.nd rfl (by first | exact .inl rfl | exact .inr rfl))
    (jss_cons (js_for np rfl (ji_seq (je_lst (ja_cons (je_op2 o_add (je_var 10) (je_tup (ja_cons je_int ja_nil))) (ja_cons (je_slice o_sl (je_var 10) (jo_some je_int) jo_none) (ja_cons (je_call G_lawput (hr.mono (by decide)) hg (by rfl) T.g_lawput T.F_lawput.kp T.b_lawput (jc_val (je_var 10) (jc_val (je_var 9) (jc_val (je_un o_neg je_int) jc_nil)))) (ja_cons (je_call G_lawput (hr.mono (by decide)) hg (by rfl) T.g_lawput T.F_lawput.kp T.b_lawput (jc_val (je_var 10) (jc_val (je_var 9) (jc_val (je_op2 o_add (je_callB c_len (by rfl) T.m_len boot_len (jr_one (je_ix o_ix (je_var 2) (je_var 9)))) je_int) jc_nil)))) ja_nil)))))) (jg_name (i := 12) sc_law.nd rfl (by first | exact .inl rfl | exact .inr rfl)) (jss_one (js_if (jt_cmp (o_ne hu) (je_call G_lawtold (hr.mono (by decide)) hg (by rfl) T.g_lawtold T.F_lawtold.kp T.b_lawtold (jc_val je_int (jc_val (je_var 2) (jc_val (je_var 12) jc_nil)))) je_str) (jss_one (js_ret je_bl)) jss_nil)))
    (jss_cons (js_setv (i := 13) (je_call G_lawput (hr.mono (by decide)) hg (by rfl) T.g_lawput T.F_lawput.kp T.b_lawput (jc_val (je_var 2) (jc_val (je_var 9) (jc_val (je_op2 o_add (je_ix o_ix (je_var 2) (je_var 9)) (je_tup (ja_cons (je_tup (ja_cons je_str (ja_cons je_int ja_nil))) ja_nil))) jc_nil)))) sc_law.nd rfl (by first | exact .inl rfl | exact .inr rfl))
    (jss_one (js_ret (je_cmp (o_eq hu) (je_lc rfl sc_law.nd (ji_range1 (by rfl) T.m_range je_int) (blkOk_by (own := [("way", 14)]) (by rfl)) (by decide) (fun _ _ _ _ _ => (jg_name (i := 14) sc_law.nd rfl (by first | exact .inl rfl | exact .inr rfl))) (fun _ _ _ _ _ => jq_nil) (fun _ _ _ _ _ => (je_call G_lawtold (hr.mono (by decide)) hg (by rfl) T.g_lawtold T.F_lawtold.kp T.b_lawtold (jc_val (je_var 14) (jc_val (je_var 13) (jc_val (je_ix o_ix (je_lst (ja_cons je_int (ja_cons (je_tup (ja_cons je_int ja_nil)) (ja_cons (je_tup (ja_cons je_int ja_nil)) (ja_cons (je_tup (ja_cons je_int ja_nil)) (ja_cons je_int ja_nil)))))) (je_var 14)) jc_nil)))))) (je_op2 o_mulA (je_lst (ja_cons je_str ja_nil)) je_int))))))))))))))))))))))), ?_⟩
  refine And.intro rfl ⟨ns, rfl, hs0, fun m0 hm0 => ?_⟩
  refine And.intro rfl ⟨m0, rfl, by omega, fun p hk m1 => ?_⟩
  have sh := shape_of hk
  obtain ⟨h1, h2, h3, h4⟩ := isP_parts hk
  have e0 : (((p.map CD).length : Nat) : Int) = p.length := by simp
  have nf : ∀ {A : Prop}, isP p = false → A := fun h => by rw [hk] at h; cases h
  have nP : ∀ {A : Prop} {b : Bool}, b = true → b = false → A := fun h1 h2 => by rw [h1] at h2; cases h2
  with_reducible conv => whnf
  show sSeq _ _ [some (.scr (ns)), some (.lst (I2 m1)), some (.val (PD p)), none, none, none, none, none, none, none, none, none, none, none, none] _ _
  refine sq_setv (.int (p.length : Nat)) [some (.scr (ns)), some (.lst (I2 m1)), some (.val (PD p)), some (.val (.int ((p.length : Nat)))), none, none, none, none, none, none, none, none, none, none, none] (fun Q q => by rw [← e0] at q; exact q) rfl ?_
  have idx : ∀ l : Int, (0 ≤ l ∧ l < 4) → True := fun _ _ => trivial
  refine sq_cut (fun σ => ∃ (x4 x5 x6 : Option S), σ = [some (.scr (ns)), some (.lst (I2 m1)), some (.val (PD p)), some (.val (.int ((p.length : Nat)))), x4, x5, x6, none, none, none, none, none, none, none, none]) (fun σ h => ?_) (fun N hN => ?_)
  rotate_left
  · refine And.intro ⟨by decide, by decide, by decide, by decide⟩ ?_
    refine for_range (fun i : Nat => PyData.int (-1 + (i : Int))) (fun i σ => ∃ (x4 x5 x6 : Option S), σ = [some (.scr (ns)), some (.lst (I2 m1)), some (.val (PD p)), some (.val (.int ((p.length : Nat)))), x4, x5, x6, none, none, none, none, none, none, none, none]) _ (fun i σ N2 hi hN2 h => ?_) (fun σ h => hN _ h) _ ⟨none, none, none, rfl⟩
    obtain ⟨x4, x5, x6, rfl⟩ := h
    generalize -1 + (i : Int) = l
    show sSeq _ _ [some (.scr (ns)), some (.lst (I2 m1)), some (.val (PD p)), some (.val (.int ((p.length : Nat)))), some (.val (.int (l))), x5, x6, none, none, none, none, none, none, none, none] _ _
    by_cases hl : 0 ≤ l ∧ l < 4
    · obtain ⟨L, hL⟩ : ∃ L, L = (accP p l).map pairD2 := ⟨_, rfl⟩
      have sL : ReprS (.list L) := by rw [hL]; exact show_acc hk l
      have call : ∀ (σ : SSt) (Q : KS), Q (.lst L) σ → gets σ 2 = some (.val (PD p)) → gets σ 4 = some (.val (.int l)) → True := fun _ _ _ _ _ => trivial
      refine sq_setvL L [some (.scr (ns)), some (.lst (I2 m1)), some (.val (PD p)), some (.val (.int ((p.length : Nat)))), some (.val (.int (l))), some (.val (.list L)), x6, none, none, none, none, none, none, none, none] (fun Q q => ?_) rfl ?_
      · refine ifb_dec (fun h => ifb_t (decide_eq_true hl.2) ?_) (fun h => absurd hl.1 h)
        refine And.intro rfl ⟨p, l, rfl, hk, ?_⟩
        rw [← hL]
        exact q
      refine sq_set (.lst L) [some (.scr (ns)), some (.lst (I2 m1)), some (.val (PD p)), some (.val (.int ((p.length : Nat)))), some (.val (.int (l))), some (.val (.list L)), some (.lst (L)), none, none, none, none, none, none, none, none] (fun Q q => ?_) rfl ?_
      · refine And.intro rfl ⟨0, p, .int l, rfl, sh, nf, .inr (.inl ⟨rfl, l, rfl, fun _ h => absurd hl h, fun _ _ => ?_⟩)⟩
        rw [← hL]
        exact q
      refine sq_if false (fun Q q => ?_) (fun h => by cases h) (fun _ => ?_)
      · exact And.intro sL (And.intro sL (dq (tq q (nes _))))
      refine ifb_t rfl ?_
      have lL : L.length ≤ 300 := by rw [hL, List.length_map]; have := (acc_bd hk l).1; omega
      refine rm (And.intro (room2 (Nat.lt_of_le_of_lt lL (by decide))) ?_)
      refine And.intro rfl ⟨0, p, .int l, rfl, sh, nf, .inr (.inl ⟨rfl, l, rfl, fun _ h => absurd hl h, fun _ _ => ?_⟩)⟩
      rw [← hL]
      refine And.intro sL (And.intro sL (dq (ifb_nes ?_)))
      exact hN2 _ ⟨some (.val (.int l)), some (.val (.list L)), some (.lst (L ++ [.tuple []])), rfl⟩
    · have s9 : ReprS (.str "!number") := show_str0 (by decide +kernel)
      refine sq_setv (.str "!number") [some (.scr (ns)), some (.lst (I2 m1)), some (.val (PD p)), some (.val (.int ((p.length : Nat)))), some (.val (.int (l))), some (.val (.str ("!number"))), x6, none, none, none, none, none, none, none, none] (fun Q q => ?_) rfl ?_
      · refine ifb_dec (fun h => ifb_f (decide_eq_false fun z => hl ⟨h, z⟩) q) (fun h => ifb_f rfl q)
      refine sq_set (.val (.str "!number")) [some (.scr (ns)), some (.lst (I2 m1)), some (.val (PD p)), some (.val (.int ((p.length : Nat)))), some (.val (.int (l))), some (.val (.str ("!number"))), some (.val (.str ("!number"))), none, none, none, none, none, none, none, none] (fun Q q => ?_) rfl ?_
      · exact And.intro rfl ⟨0, p, .int l, rfl, sh, nf, .inr (.inl ⟨rfl, l, rfl, fun _ h => q, fun _ h => absurd h hl⟩)⟩
      refine sq_if false (fun Q q => ?_) (fun h => by cases h) (fun _ => ?_)
      · exact And.intro s9 (And.intro s9 (dq (tq q (nes _))))
      exact ifb_f rfl (hN2 _ ⟨some (.val (.int l)), some (.val (.str "!number")), some (.val (.str "!number")), rfl⟩)
  obtain ⟨x4, x5, x6, rfl⟩ := h
  obtain ⟨G, hG⟩ : ∃ G, G = (linesD p).map fun l : Nat => PyData.int (l : Int) := ⟨_, rfl⟩
  have sG : ReprS (.list G) := by
    have e : G = ((linesD p).map fun l : Nat => (l : Int)).map .int := by rw [hG, List.map_map]; rfl
    rw [e]
    refine show_ints (fun n mn => ?_) ?_
    · obtain ⟨l, ml, rfl⟩ := List.mem_map.mp mn
      have := List.mem_range.mp (List.mem_filter.mp ml).1
      omega
    · rw [List.length_map]
      refine Nat.le_trans (List.length_filter_le _ _) ?_
      rw [List.length_range]
      decide
  refine sq_ifP (fun σ => σ = [some (.scr (ns)), some (.lst (I2 m1)), some (.val (PD p)), some (.val (.int ((p.length : Nat)))), none, x5, x6, none, none, none, none, none, none, none, none]) (fun σ h => ?_) (fun N hN => ?_)
  rotate_left
  · refine And.intro rfl ⟨4, p, .int 0, rfl, sh, nf, .inl ⟨rfl, fun _ => ?_⟩⟩
    rw [← hG]
    refine And.intro sG (And.intro ⟨by decide, by decide⟩ ?_)
    obtain ⟨n, hn⟩ : ∃ n, n = 4 := ⟨_, rfl⟩
    have hL : linesD p = (List.range n).filter fun l : Nat => decide (accP p (l : Int) ≠ []) := by rw [hn]; rfl
    rw [hL] at hG
    show lcT _ _ _ _ ((List.range 4).map fun i : Nat => PyData.int (0 + (i : Int))) _ _ _
    have e4 : List.range 4 = List.range n := by rw [hn]
    rw [e4]
    refine lcp (α := Nat) (fun i => .int (0 + (i : Int))) (fun i => .int (0 + (i : Int))) (fun l : Nat => decide (accP p (l : Int) ≠ [])) (fun i => [some (.scr (ns)), some (.lst (I2 m1)), some (.val (PD p)), some (.val (.int ((p.length : Nat)))), some (.val (.int ((0 + (i : Int))))), x5, x6, none, none, none, none, none, none, none, none]) (List.range n) (by simp; omega) ?_ ?_ ?_ ?_ ?_
    · intro _ _; rfl
    · intro _ _; rfl
    · intro i mi Q q
      refine And.intro rfl ⟨p, 0 + (i : Int), rfl, hk, tq q ?_⟩
      rw [Int.zero_add]
      cases h : accP p (i : Int) with
      | nil => rfl
      | cons x r => rfl
    · intro i mi _ Q q
      exact q
    · have eG : ((List.range n).filter fun l : Nat => decide (accP p (l : Int) ≠ [])).map (fun i : Nat => PyData.int (0 + (i : Int))) = G := by
        rw [hG]
        exact List.map_congr_left fun i _ => by rw [Int.zero_add]
      rw [eG]
      exact And.intro sG (dq (ifb_nes (hN _ rfl)))
  subst h
  refine sq_cut (fun σ => ∃ (ys m : List Int), Pm ys 4 ∧ σ = [some (.scr (ns)), some (.lst (I2 m)), some (.val (PD p)), some (.val (.int ((p.length : Nat)))), none, x5, x6, some (.tpl (ys.map .int)), none, none, none, none, none, none, none]) (fun σ h => ?_) (fun N hN => ?_)
  rotate_left
  · refine rm (And.intro rfl ⟨m1, [0, 1, 2, 3], rfl, by decide, fun ys hp m => ?_⟩)
    exact hN _ ⟨ys, m, hp, rfl⟩
  obtain ⟨ys, m, hy, rfl⟩ := h
  have hy4 : isPerm 4 ys = true := decide_eq_true (srt_iff.mpr hy)
  have k1 := ren_ok hk hy
  have l4 : ys.length ≤ 100 := by rw [hy.len]; decide
  have no4 : ∀ {A : Prop}, isPerm 4 ys = false → A := fun h => by rw [hy4] at h; cases h
  refine sq_set (.val (PD (renP (px ys) p))) [some (.scr (ns)), some (.lst (I2 m)), some (.val (PD p)), some (.val (.int ((p.length : Nat)))), none, x5, some (.val (PD (renP (px ys) p))), some (.tpl (ys.map .int)), none, none, none, none, none, none, none] (fun Q q => ?_) rfl ?_
  · exact And.intro rfl ⟨1, p, .tuple (ys.map .int), rfl, sh, nf, .inr (.inr ⟨ys, rfl, l4, .inl ⟨rfl, fun _ => no4, fun _ _ => q⟩⟩)⟩
  have iy := inv_pm hy
  have back := ren_back hk hy
  refine sq_ifP (fun σ => ∃ x6 : Option S, σ = [some (.scr (ns)), some (.lst (I2 m)), some (.val (PD p)), some (.val (.int ((p.length : Nat)))), none, x5, x6, some (.tpl (ys.map .int)), none, none, none, none, none, none, none]) (fun σ h => ?_) (fun N hN => ?_)
  rotate_left
  · refine And.intro (show_PD k1) (And.intro rfl ⟨p, ys, rfl, hk, hy4, And.intro (show_PD k1) (dq (ifb_nes ?_))⟩)
    refine And.intro ⟨by decide, by decide⟩ ?_
    obtain ⟨n, hn⟩ : ∃ n, n = 4 := ⟨_, rfl⟩
    have hin : invP ys 4 = (List.range n).map fun j : Nat => ((ys.idxOf (j : Int) : Nat) : Int) := by rw [hn]; rfl
    show lcT _ _ _ _ ((List.range 4).map fun i : Nat => PyData.int (0 + (i : Int))) _ _ _
    rw [show List.range 4 = List.range n by rw [hn]]
    refine lcq (α := Nat) (fun i => .int (0 + (i : Int))) (fun i => .int ((ys.idxOf (i : Int) : Nat) : Int)) (fun i => [some (.scr (ns)), some (.lst (I2 m)), some (.val (PD p)), some (.val (.int ((p.length : Nat)))), some (.val (.int ((0 + (i : Int))))), x5, some (.val (PD (renP (px ys) p))), some (.tpl (ys.map .int)), none, none, none, none, none, none, none]) (List.range n) (by simp; omega) ?_ ?_ ?_ ?_
    · intro _ _; rfl
    · intro _ _; rfl
    · intro i mi Q q
      have hi := List.mem_range.mp mi
      refine dq0 (need_of (place_ints ys (x := 0 + (i : Int)) (hy.mem.mpr ⟨by omega, by omega⟩)) ?_)
      rw [show ys.idxOf ((0 : Int) + (i : Int)) = ys.idxOf (i : Int) by rw [Int.zero_add]]
      exact q
    · have ez : (List.range n).map (fun i : Nat => PyData.int ((ys.idxOf (i : Int) : Nat) : Int)) = (invP ys 4).map .int := by
        rw [hin, List.map_map]
        rfl
      rw [ez]
      refine And.intro rfl ⟨1, renP (px ys) p, .tuple ((invP ys 4).map .int), rfl, shape_of k1, nP k1, .inr (.inr ⟨invP ys 4, rfl, by rw [iy.len]; decide, .inl ⟨rfl, fun _ h => nP (decide_eq_true (srt_iff.mpr iy)) h, fun _ _ => ?_⟩⟩)⟩
      · rw [back]
        exact dq (ifb_f (neT rfl (noD_PD p)).symm (hN _ ⟨some (.val (PD (renP (px ys) p))), rfl⟩)) (dep_PD' p) (dep_PD' p)
  obtain ⟨x6, rfl⟩ := h
  refine sq_cut (fun σ => ∃ (zs m : List Int), Pm zs p.length ∧ σ = [some (.scr (ns)), some (.lst (I2 m)), some (.val (PD p)), some (.val (.int ((p.length : Nat)))), none, x5, x6, some (.tpl (ys.map .int)), some (.tpl (zs.map .int)), none, none, none, none, none, none]) (fun σ h => ?_) (fun N hN => ?_)
  rotate_left
  · refine And.intro ⟨by omega, by omega⟩ (And.intro rfl ⟨m, rngI p.length, by rw [← rng_data], by simp [rngI]; omega, fun zs hz m' => ?_⟩)
    exact hN _ ⟨zs, m', hz, rfl⟩
  clear hy4 no4 k1 iy back
  obtain ⟨zs, m, hz, rfl⟩ := h
  have hzp : isPerm p.length zs = true := decide_eq_true (srt_iff.mpr hz)
  have lz : zs.length ≤ 100 := by rw [hz.len]; omega
  have k2 := pick_ok hk hz
  have iz := inv_pm hz
  have back := pick_back hz
  refine sq_set (.val (PD (pickP p zs))) [some (.scr (ns)), some (.lst (I2 m)), some (.val (PD p)), some (.val (.int ((p.length : Nat)))), none, x5, some (.val (PD (pickP p zs))), some (.tpl (ys.map .int)), some (.tpl (zs.map .int)), none, none, none, none, none, none] (fun Q q => ?_) rfl ?_
  · exact And.intro rfl ⟨2, p, .tuple (zs.map .int), rfl, sh, nf, .inr (.inr ⟨zs, rfl, lz, .inr (.inl ⟨rfl, fun _ h => nP hzp h, fun _ _ => q⟩)⟩)⟩
  refine sq_ifP (fun σ => ∃ x6 : Option S, σ = [some (.scr (ns)), some (.lst (I2 m)), some (.val (PD p)), some (.val (.int ((p.length : Nat)))), none, x5, x6, some (.tpl (ys.map .int)), some (.tpl (zs.map .int)), none, none, none, none, none, none]) (fun σ h => ?_) (fun N hN => ?_)
  rotate_left
  · refine And.intro (show_PD k2) ?_
    have lc1 : ∀ (i : Int), i ∈ zs → atI (p.map CD) i = some (CD (p.getD i.toNat [])) := fun i mi => by
      have hb := hz.mem.mp mi
      have hl : i.toNat < p.length := by omega
      rw [show i = ((i.toNat : Nat) : Int) by omega]
      refine atI_nat ?_
      rw [List.getElem?_map, show ((i.toNat : Nat) : Int).toNat = i.toNat by omega, List.getD, List.getElem?_eq_getElem hl]
      rfl
    show lcT _ _ _ _ (zs.map .int) _ _ _
    refine lcq .int (fun i => CD (p.getD i.toNat [])) (fun i => [some (.scr (ns)), some (.lst (I2 m)), some (.val (PD p)), some (.val (.int ((p.length : Nat)))), none, x5, some (.val (PD (pickP p zs))), some (.tpl (ys.map .int)), some (.tpl (zs.map .int)), some (.val (.int (i))), none, none, none, none, none]) zs (by omega) ?_ ?_ ?_ ?_
    · intro _ _; rfl
    · intro _ _; rfl
    · intro i mi Q q
      exact need_of (lc1 i mi) q
    have ez : PyData.tuple (zs.map fun i => CD (p.getD i.toNat [])) = PD (pickP p zs) := by unfold PD pickP; rw [List.map_map]; rfl
    have sz : ReprS (.tuple (zs.map fun i => CD (p.getD i.toNat []))) := by rw [ez]; exact show_PD k2
    refine And.intro sz (dq ?_)
    rw [ez]
    refine ifb_nes ?_
    refine And.intro ⟨by omega, by omega⟩ ?_
    have er : rangeD 0 ((p.length : Nat) : Int) = (List.range p.length).map fun j : Nat => PyData.int (0 + (j : Int)) := by
      unfold rangeD
      rw [show (((p.length : Nat) : Int) - 0).toNat = p.length by omega]
    rw [er]
    refine lcq (α := Nat) (fun i => .int (0 + (i : Int))) (fun i => .int ((zs.idxOf (i : Int) : Nat) : Int)) (fun i => [some (.scr (ns)), some (.lst (I2 m)), some (.val (PD p)), some (.val (.int ((p.length : Nat)))), none, x5, some (.val (PD (pickP p zs))), some (.tpl (ys.map .int)), some (.tpl (zs.map .int)), some (.val (.int ((0 + (i : Int))))), none, none, none, none, none]) (List.range p.length) (by simp; omega) ?_ ?_ ?_ ?_
    · intro _ _; rfl
    · intro _ _; rfl
    · intro i mi Q q
      have hi := List.mem_range.mp mi
      refine dq0 (need_of (place_ints zs (x := 0 + (i : Int)) (hz.mem.mpr ⟨by omega, by omega⟩)) ?_)
      rw [show zs.idxOf ((0 : Int) + (i : Int)) = zs.idxOf (i : Int) by rw [Int.zero_add]]
      exact q
    · have ew : (List.range p.length).map (fun i : Nat => PyData.int ((zs.idxOf (i : Int) : Nat) : Int)) = (invP zs p.length).map .int := by
        unfold invP
        rw [List.map_map]
        rfl
      rw [ew]
      have lp2 : (pickP p zs).length = p.length := by unfold pickP; rw [List.length_map, hz.len]
      refine And.intro rfl ⟨2, pickP p zs, .tuple ((invP zs p.length).map .int), rfl, shape_of k2, nP k2, .inr (.inr ⟨invP zs p.length, rfl, by rw [iz.len]; omega, .inr (.inl ⟨rfl, fun _ h => nP (decide_eq_true (srt_iff.mpr (by rw [lp2]; exact iz))) h, fun _ _ => ?_⟩)⟩)⟩
      rw [back]
      exact dq (ifb_f (neT rfl (noD_PD p)).symm (hN _ ⟨some (.val (PD (pickP p zs))), rfl⟩)) (dep_PD' p) (dep_PD' p)
  obtain ⟨x6, rfl⟩ := h
  clear k2 iz back
  refine sq_cut (fun σ => ∃ (cs m : List Int), okC p cs = true ∧ cs.length = p.length ∧ σ = [some (.scr (ns)), some (.lst (I2 m)), some (.val (PD p)), some (.val (.int ((p.length : Nat)))), none, x5, x6, some (.tpl (ys.map .int)), some (.tpl (zs.map .int)), none, some (.val (.tuple (cs.map .int))), none, none, none, none]) (fun σ h => ?_) (fun N hN => ?_)
  rotate_left
  · show lcT _ _ _ _ (p.map CD) _ _ _
    refine lc_pre CD (fun (done : List (List Ins)) acc σ => ∃ (cs m : List Int), acc = cs.map .int ∧ cs.length = done.length ∧ (∀ x ∈ cs.zip done, 0 ≤ x.1 ∧ x.1 ≤ x.2.length) ∧ σ = [some (.scr (ns)), some (.lst (I2 m)), some (.val (PD p)), some (.val (.int ((p.length : Nat)))), none, x5, x6, some (.tpl (ys.map .int)), some (.tpl (zs.map .int)), none, none, none, none, none, none]) p (fun done c r acc σ N2 e hN2 h => ?_) (fun acc σ h => ?_) _ ⟨[], m, rfl, rfl, fun x mx => absurd mx (by simp), rfl⟩
    · obtain ⟨cs, m, rfl, lc, hc, rfl⟩ := h
      have e2 : (((c.map I1).length : Nat) : Int) = c.length := by simp
      have le := congrArg List.length e
      rw [List.length_append] at le
      refine ifb_t rfl (And.intro rfl ⟨m, rfl, fun n m2 l2 => And.intro (by rw [e2]; omega) ?_⟩)
      have b := emod_bd n (show (0 : Int) < (c.length : Int) + 1 by omega)
      rw [e2]
      refine And.intro (room2 (by rw [List.length_map]; omega)) (hN2 _ _ ⟨cs ++ [n % ((c.length : Int) + 1)], m2, by rw [List.map_append]; rfl, by simp [lc], fun x mx => ?_, rfl⟩)
      rw [List.zip_append lc] at mx
      rcases List.mem_append.mp mx with mx | mx
      · exact hc x mx
      · rw [List.mem_singleton.mp mx]
        exact ⟨b.1, by show n % ((c.length : Int) + 1) ≤ (c.length : Nat); omega⟩
    · obtain ⟨cs, m, rfl, lc, hc, rfl⟩ := h
      refine hN _ ⟨cs, m, ?_, lc, rfl⟩
      unfold okC
      rw [decide_eq_true lc, List.all_eq_true.mpr fun x mx => decide_eq_true (hc x mx)]
      rfl
  obtain ⟨cs, m, hcs, lcs, rfl⟩ := h
  have k3 := beg_ok hk lcs
  refine sq_set (.val (PD (begP p cs))) [some (.scr (ns)), some (.lst (I2 m)), some (.val (PD p)), some (.val (.int ((p.length : Nat)))), none, x5, some (.val (PD (begP p cs))), some (.tpl (ys.map .int)), some (.tpl (zs.map .int)), none, some (.val (.tuple (cs.map .int))), none, none, none, none] (fun Q q => ?_) rfl ?_
  · exact And.intro rfl ⟨3, p, .tuple (cs.map .int), rfl, sh, nf, .inr (.inr ⟨cs, rfl, by omega, .inr (.inr ⟨rfl, fun _ h => nP hcs h, fun _ _ => q⟩)⟩)⟩
  refine sq_ifP (fun σ => ∃ x6 : Option S, σ = [some (.scr (ns)), some (.lst (I2 m)), some (.val (PD p)), some (.val (.int ((p.length : Nat)))), none, x5, x6, some (.tpl (ys.map .int)), some (.tpl (zs.map .int)), none, some (.val (.tuple (cs.map .int))), none, none, none, none]) (fun σ h => ?_) (fun N hN => ?_)
  rotate_left
  · refine And.intro (show_PD k3) (And.intro ⟨by omega, by omega⟩ ?_)
    have er : rangeD 0 ((p.length : Nat) : Int) = (List.range p.length).map fun j : Nat => PyData.int (0 + (j : Int)) := by
      unfold rangeD
      rw [show (((p.length : Nat) : Int) - 0).toNat = p.length by omega]
    rw [er]
    refine lcq (α := Nat) (fun i => .int (0 + (i : Int))) (fun i => CD ((p.getD i []).take (cs.getD i 0).toNat)) (fun i => [some (.scr (ns)), some (.lst (I2 m)), some (.val (PD p)), some (.val (.int ((p.length : Nat)))), none, x5, some (.val (PD (begP p cs))), some (.tpl (ys.map .int)), some (.tpl (zs.map .int)), some (.val (.int ((0 + (i : Int))))), some (.val (.tuple (cs.map .int))), none, none, none, none]) (List.range p.length) (by simp; omega) ?_ ?_ ?_ ?_
    · intro _ _; rfl
    · intro _ _; rfl
    · intro i mi Q q
      have hi := List.mem_range.mp mi
      have g1 : atI (p.map CD) (0 + (i : Int)) = some (CD (p.getD i [])) := by
        rw [Int.zero_add]
        exact atI_nat (by rw [List.getElem?_map, List.getD, List.getElem?_eq_getElem hi]; rfl)
      have g2 : atI (cs.map PyData.int) (0 + (i : Int)) = some (.int (cs.getD i 0)) := by
        rw [Int.zero_add]
        exact atI_nat (by rw [List.getElem?_map, List.getD, List.getElem?_eq_getElem (show i < cs.length by omega)]; rfl)
      have h0 : 0 ≤ cs.getD i 0 := by
        unfold okC at hcs
        rw [Bool.and_eq_true, List.all_eq_true] at hcs
        have mz : (cs[i]'(by omega), p[i]) ∈ cs.zip p := by
          rw [← List.getElem_zip (h := by rw [List.length_zip]; omega)]
          exact List.getElem_mem _
        have := (of_decide_eq_true (hcs.2 _ mz)).1
        rw [List.getD, List.getElem?_eq_getElem (show i < cs.length by omega)]
        exact this
      refine need_of g1 (need_of g2 (qv q ?_))
      show CD ((p.getD i []).take (cs.getD i 0).toNat) = .tuple (SV.cutD ((p.getD i []).map I1) none (some (cs.getD i 0)))
      rw [cut_to _ h0, ← List.map_take]
      rfl
    · have ez : PyData.tuple ((List.range p.length).map fun i : Nat => CD ((p.getD i []).take (cs.getD i 0).toNat)) = PD (begP p cs) := by
        unfold PD begP
        rw [List.map_map]
        congr 1
        refine List.ext_getElem (by rw [List.length_map, List.length_map, List.length_range, List.length_zip]; omega) fun i h1 h2 => ?_
        rw [List.length_map, List.length_range] at h1
        rw [List.getElem_map, List.getElem_map, List.getElem_range, List.getElem_zip, List.getD, List.getD, List.getElem?_eq_getElem h1, List.getElem?_eq_getElem (show i < cs.length by omega)]
        rfl
      have sz : ReprS (.tuple ((List.range p.length).map fun i : Nat => CD ((p.getD i []).take (cs.getD i 0).toNat))) := by rw [ez]; exact show_PD k3
      refine And.intro sz (dq ?_)
      rw [ez]
      refine ifb_nes ?_
      refine And.intro rfl ⟨begP p cs, rfl, shape_of k3, ?_⟩
      rw [k3]
      exact ifb_f rfl (hN _ ⟨some (.val (PD (begP p cs))), rfl⟩)
  obtain ⟨x6, rfl⟩ := h
  clear k3
  have num : ∀ (w : Int) (ns : List Int) (Q : QS), ns.length ≤ 100 → ((w = 1 ∧ isPerm 4 ns = false) ∨ (w = 2 ∧ isPerm p.length ns = false) ∨ (w = 3 ∧ okC p ns = false)) → Q (.val (.str "!number")) [none, none, none] → sp_lawtold T.A_NotProgram T.A_BadNumber [.val (.int w), .val (PD p), .val (.tuple (ns.map .int))] Q (fun cls ed => False) := fun w ns Q ln hc q => by
    refine ⟨w, p, .tuple (ns.map .int), rfl, sh, nf, .inr (.inr ⟨ns, rfl, ln, ?_⟩)⟩
    rcases hc with ⟨rfl, h⟩ | ⟨rfl, h⟩ | ⟨rfl, h⟩
    · exact .inl ⟨rfl, fun _ _ => q, fun _ h2 => nP h2 h⟩
    · exact .inr (.inl ⟨rfl, fun _ _ => q, fun _ h2 => nP h2 h⟩)
    · exact .inr (.inr ⟨rfl, fun _ _ => q, fun _ h2 => nP h2 h⟩)
  have num2 : ∀ (w : Int) (ns : List Int) (Q : QS) (E : XQ), ns.length ≤ 100 → ((w = 1 ∧ isPerm 4 ns = false) ∨ (w = 2 ∧ isPerm p.length ns = false) ∨ (w = 3 ∧ okC p ns = false)) → Q (.val (.str "!number")) [none, none, none] → sp_lawtold T.A_NotProgram T.A_BadNumber [.val (.int w), .val (PD p), .val (.tuple (ns.map .int))] Q E := fun w ns Q E ln hc q => by
    refine ⟨w, p, .tuple (ns.map .int), rfl, sh, nf, .inr (.inr ⟨ns, rfl, ln, ?_⟩)⟩
    rcases hc with ⟨rfl, h⟩ | ⟨rfl, h⟩ | ⟨rfl, h⟩
    · exact .inl ⟨rfl, fun _ _ => q, fun _ h2 => nP h2 h⟩
    · exact .inr (.inl ⟨rfl, fun _ _ => q, fun _ h2 => nP h2 h⟩)
    · exact .inr (.inr ⟨rfl, fun _ _ => q, fun _ h2 => nP h2 h⟩)
  clear num
  refine sq_cut (fun σ => ∃ (x12 : Option S), σ = [some (.scr (ns)), some (.lst (I2 m)), some (.val (PD p)), some (.val (.int ((p.length : Nat)))), none, x5, x6, some (.tpl (ys.map .int)), some (.tpl (zs.map .int)), none, some (.val (.tuple (cs.map .int))), none, x12, none, none]) (fun σ h => ?_) (fun N hN => ?_)
  rotate_left
  · repeat (refine rm ?_)
    have hb := T6_no
    obtain ⟨B, hB⟩ : ∃ B, B = T6 := ⟨_, rfl⟩
    rw [← hB] at hb
    show forT _ _ (T6.map fun ns => PyData.tuple (ns.map .int)) _ _ _
    rw [← hB]
    refine for_map (α := List Int) (fun ns => .tuple (ns.map .int)) (fun rem σ => (∀ x ∈ rem, x ∈ B) ∧ ∃ (x12 : Option S), σ = [some (.scr (ns)), some (.lst (I2 m)), some (.val (PD p)), some (.val (.int ((p.length : Nat)))), none, x5, x6, some (.tpl (ys.map .int)), some (.tpl (zs.map .int)), none, some (.val (.tuple (cs.map .int))), none, x12, none, none]) (fun x rem σ N2 hN2 h => ?_) (fun σ h => hN _ h.2) B _ ⟨fun _ m => m, none, rfl⟩
    obtain ⟨hx, x12, rfl⟩ := h
    have h2 := hb x (hx x (by simp))
    exact And.intro rfl (num2 1 x _ _ h2.1 (.inl ⟨rfl, h2.2⟩) (dq (ifb_nes (hN2 _ ⟨fun y my => hx y (by simp [my]), some (.val (.tuple (x.map .int))), rfl⟩))))
  obtain ⟨x12, rfl⟩ := h
  have hzl := hz.len
  obtain ⟨B, hB⟩ : ∃ B : List (List Int), B = [zs ++ [(p.length : Int)], zs.drop 1, -1 :: zs.drop 1, zs.dropLast ++ [(p.length : Int)]] := ⟨_, rfl⟩
  have hb : ∀ x ∈ B, x.length ≤ 100 ∧ isPerm p.length x = false := fun x mx => by
    have key : (Pm x p.length → False) → isPerm p.length x = false := fun f => decide_eq_false fun z => f (srt_iff.mp z)
    rw [hB] at mx
    simp only [List.mem_cons, List.not_mem_nil, or_false] at mx
    rcases mx with rfl | rfl | rfl | rfl
    · refine ⟨by rw [List.length_append]; show zs.length + 1 ≤ 100; omega, key fun z => ?_⟩
      have := z.len
      rw [List.length_append] at this
      have : zs.length + 1 = p.length := this
      omega
    · refine ⟨by rw [List.length_drop]; omega, key fun z => ?_⟩
      have := z.len
      rw [List.length_drop] at this
      omega
    · refine ⟨by rw [List.length_cons, List.length_drop]; omega, key fun z => ?_⟩
      have := (z.mem (x := -1)).mp (by simp)
      omega
    · refine ⟨by rw [List.length_append, List.length_dropLast]; show zs.length - 1 + 1 ≤ 100; omega, key fun z => ?_⟩
      have := (z.mem (x := (p.length : Int))).mp (by simp)
      omega
  refine sq_cut (fun σ => ∃ (x12 : Option S), σ = [some (.scr (ns)), some (.lst (I2 m)), some (.val (PD p)), some (.val (.int ((p.length : Nat)))), none, x5, x6, some (.tpl (ys.map .int)), some (.tpl (zs.map .int)), none, some (.val (.tuple (cs.map .int))), none, x12, none, none]) (fun σ h => ?_) (fun N hN => ?_)
  rotate_left
  · have lzi : (zs.map PyData.int).length ≤ 12 := by rw [List.length_map]; omega
    have ld : (SV.cutD (zs.map PyData.int) (some 1) none).length ≤ 12 := Nat.le_trans (cut_len _ _ _) lzi
    have li : (SV.cutD (zs.map PyData.int) none (some (-1))).length ≤ 12 := Nat.le_trans (cut_len _ _ _) lzi
    refine rm (And.intro (room1 (by show _ + 1 ≤ _; omega)) (rm (And.intro (room1 (by show 1 + _ ≤ _; omega)) (rm (And.intro (room1 (by show _ + 1 ≤ _; omega)) (rm ?_))))))
    have eB : [PyData.tuple (zs.map .int ++ [.int (p.length : Nat)]), .tuple (SV.cutD (zs.map PyData.int) (some 1) none), .tuple ([.int (-1)] ++ SV.cutD (zs.map PyData.int) (some 1) none), .tuple (SV.cutD (zs.map PyData.int) none (some (-1)) ++ [.int (p.length : Nat)])] = B.map fun ns => PyData.tuple (ns.map .int) := by
      rw [hB, cut_init, cut_from _ (by decide)]
      simp [List.map_drop, List.map_dropLast]
    show forT _ _ [PyData.tuple (zs.map .int ++ [.int (p.length : Nat)]), .tuple (SV.cutD (zs.map PyData.int) (some 1) none), .tuple ([.int (-1)] ++ SV.cutD (zs.map PyData.int) (some 1) none), .tuple (SV.cutD (zs.map PyData.int) none (some (-1)) ++ [.int (p.length : Nat)])] _ _ _
    rw [eB]
    refine for_map (α := List Int) (fun ns => .tuple (ns.map .int)) (fun rem σ => (∀ x ∈ rem, x ∈ B) ∧ ∃ (x12 : Option S), σ = [some (.scr (ns)), some (.lst (I2 m)), some (.val (PD p)), some (.val (.int ((p.length : Nat)))), none, x5, x6, some (.tpl (ys.map .int)), some (.tpl (zs.map .int)), none, some (.val (.tuple (cs.map .int))), none, x12, none, none]) (fun x rem σ N2 hN2 h => ?_) (fun σ h => hN _ h.2) B _ ⟨fun _ m => m, x12, rfl⟩
    obtain ⟨hx, x12, rfl⟩ := h
    have h2 := hb x (hx x (by simp))
    exact And.intro rfl (num2 2 x _ _ h2.1 (.inr (.inl ⟨rfl, h2.2⟩)) (dq (ifb_nes (hN2 _ ⟨fun y my => hx y (by simp [my]), some (.val (.tuple (x.map .int))), rfl⟩))))
  obtain ⟨x12, rfl⟩ := h
  clear hb hB B
  refine sq_cut (fun σ => ∃ (k : Nat) (m : List Int), k < p.length ∧ σ = [some (.scr (ns)), some (.lst (I2 m)), some (.val (PD p)), some (.val (.int ((p.length : Nat)))), none, x5, x6, some (.tpl (ys.map .int)), some (.tpl (zs.map .int)), some (.val (.int ((k : Nat)))), some (.val (.tuple (cs.map .int))), none, x12, none, none]) (fun σ h => ?_) (fun N hN => ?_)
  rotate_left
  · refine And.intro rfl ⟨m, rfl, fun n m2 l2 => And.intro (show (0 : Int) < (p.length : Nat) by omega) ?_⟩
    have b := emod_bd n (show (0 : Int) < (p.length : Nat) by omega)
    obtain ⟨k, hk2⟩ : ∃ k : Nat, n % ((p.length : Nat) : Int) = k := ⟨(n % ((p.length : Nat) : Int)).toNat, by omega⟩
    rw [hk2]
    exact hN _ ⟨k, m2, by omega, rfl⟩
  obtain ⟨k, m, hkl, rfl⟩ := h
  have gk : atI (p.map CD) ((k : Nat) : Int) = some (CD p[k]) := atI_nat (by rw [List.getElem?_map, List.getElem?_eq_getElem hkl]; rfl)
  have hck : k < cs.length := by omega
  obtain ⟨w, hw⟩ : ∃ w : Int, w = (((p[k].map I1).length : Nat) : Int) + 1 := ⟨_, rfl⟩
  have hw2 : (p[k].length : Int) < w := by rw [hw, List.length_map]; omega
  obtain ⟨B, hB⟩ : ∃ B : List (List Int), B = [cs ++ [0], cs.drop 1, cs.take k ++ [-1] ++ cs.drop (k + 1), cs.take k ++ [w] ++ cs.drop (k + 1)] := ⟨_, rfl⟩
  have put_no : ∀ v : Int, ¬ (0 ≤ v ∧ v ≤ (p[k].length : Int)) → okC p (cs.take k ++ [v] ++ cs.drop (k + 1)) = false := fun v hv => by
    refine Bool.eq_false_iff.mpr fun z => hv ?_
    unfold okC at z
    rw [Bool.and_eq_true, List.all_eq_true] at z
    have lt : (cs.take k).length = k := by rw [List.length_take]; omega
    have mz : (v, p[k]) ∈ (cs.take k ++ [v] ++ cs.drop (k + 1)).zip p := by
      have e1 : ((cs.take k ++ [v] ++ cs.drop (k + 1)).zip p)[k]? = some (v, p[k]) := by
        rw [List.getElem?_zip_eq_some]
        refine ⟨?_, List.getElem?_eq_getElem hkl⟩
        rw [List.append_assoc, List.getElem?_append_right (by omega), lt, Nat.sub_self]
        rfl
      exact List.mem_of_getElem? e1
    exact of_decide_eq_true (z.2 _ mz)
  have len_no : ∀ x : List Int, x.length ≠ p.length → okC p x = false := fun x h => by
    unfold okC
    rw [decide_eq_false h]
    rfl
  have hb : ∀ x ∈ B, x.length ≤ 100 ∧ okC p x = false := fun x mx => by
    rw [hB] at mx
    simp only [List.mem_cons, List.not_mem_nil, or_false] at mx
    rcases mx with rfl | rfl | rfl | rfl
    · exact ⟨by rw [List.length_append]; show cs.length + 1 ≤ 100; omega, len_no _ (by rw [List.length_append]; show cs.length + 1 ≠ _; omega)⟩
    · exact ⟨by rw [List.length_drop]; omega, len_no _ (by rw [List.length_drop]; omega)⟩
    · exact ⟨by rw [List.length_append, List.length_append, List.length_take, List.length_drop]; show _ + 1 + _ ≤ 100; omega, put_no _ (by omega)⟩
    · exact ⟨by rw [List.length_append, List.length_append, List.length_take, List.length_drop]; show _ + 1 + _ ≤ 100; omega, put_no _ (by omega)⟩
  refine sq_cut (fun σ => ∃ (x12 : Option S), σ = [some (.scr (ns)), some (.lst (I2 m)), some (.val (PD p)), some (.val (.int ((p.length : Nat)))), none, x5, x6, some (.tpl (ys.map .int)), some (.tpl (zs.map .int)), some (.val (.int ((k : Nat)))), some (.val (.tuple (cs.map .int))), none, x12, none, none]) (fun σ h => ?_) (fun N hN => ?_)
  rotate_left
  · have lci : (cs.map PyData.int).length ≤ 12 := by rw [List.length_map]; omega
    refine rm (And.intro (room1 (by show _ + 1 ≤ _; omega)) ?_)
    refine And.intro rfl ⟨cs.map .int, (k : Nat), .int (-1), rfl, by omega, ⟨by omega, by omega⟩, ?_⟩
    refine need_of gk ?_
    refine And.intro rfl ⟨cs.map .int, (k : Nat), .int w, by rw [hw], by omega, ⟨by omega, by omega⟩, rm ?_⟩
    have eB : [PyData.tuple (cs.map .int ++ [.int 0]), .tuple (SV.cutD (cs.map PyData.int) (some 1) none), .tuple ((cs.map .int).take ((k : Nat) : Int).toNat ++ [.int (-1)] ++ (cs.map .int).drop (((k : Nat) : Int).toNat + 1)), .tuple ((cs.map .int).take ((k : Nat) : Int).toNat ++ [.int w] ++ (cs.map .int).drop (((k : Nat) : Int).toNat + 1))] = B.map fun ns => PyData.tuple (ns.map .int) := by
      rw [hB, cut_from _ (by decide), show ((k : Nat) : Int).toNat = k by omega]
      simp [List.map_drop, List.map_take]
    show forT _ _ [PyData.tuple (cs.map .int ++ [.int 0]), .tuple (SV.cutD (cs.map PyData.int) (some 1) none), .tuple ((cs.map .int).take ((k : Nat) : Int).toNat ++ [.int (-1)] ++ (cs.map .int).drop (((k : Nat) : Int).toNat + 1)), .tuple ((cs.map .int).take ((k : Nat) : Int).toNat ++ [.int w] ++ (cs.map .int).drop (((k : Nat) : Int).toNat + 1))] _ _ _
    rw [eB]
    refine for_map (α := List Int) (fun ns => .tuple (ns.map .int)) (fun rem σ => (∀ x ∈ rem, x ∈ B) ∧ ∃ (x12 : Option S), σ = [some (.scr (ns)), some (.lst (I2 m)), some (.val (PD p)), some (.val (.int ((p.length : Nat)))), none, x5, x6, some (.tpl (ys.map .int)), some (.tpl (zs.map .int)), some (.val (.int ((k : Nat)))), some (.val (.tuple (cs.map .int))), none, x12, none, none]) (fun x rem σ N2 hN2 h => ?_) (fun σ h => hN _ h.2) B _ ⟨fun _ m => m, x12, rfl⟩
    obtain ⟨hx, x12, rfl⟩ := h
    have h2 := hb x (hx x (by simp))
    exact And.intro rfl (num2 3 x _ _ h2.1 (.inr (.inr ⟨rfl, h2.2⟩)) (dq (ifb_nes (hN2 _ ⟨fun y my => hx y (by simp [my]), some (.val (.tuple (x.map .int))), rfl⟩))))
  obtain ⟨x12, rfl⟩ := h
  obtain ⟨bad, hbad⟩ : ∃ bad : List (List Ins), bad = p.take k ++ [p[k] ++ [(("load" : Str), [(4 : Int)])]] ++ p.drop (k + 1) := ⟨_, rfl⟩
  have mb : p[k] ++ [(("load" : Str), [(4 : Int)])] ∈ bad := by rw [hbad]; simp
  have no4 : isI (("load" : Str), [(4 : Int)]) = false := by
    decide +kernel
  have kb : isP bad = false := Bool.eq_false_iff.mpr fun z => by
    have := (isP_parts z).2.2.2 _ mb _ (List.mem_append.mpr (.inr (List.mem_singleton.mpr rfl)))
    rw [no4] at this
    cases this
  have shb : Shape bad := by
    refine ⟨?_, fun c mc => ?_⟩
    · rw [hbad, List.length_append, List.length_append, List.length_take, List.length_drop]
      show _ + 1 + _ ≤ _
      omega
    · rw [hbad] at mc
      rcases List.mem_append.mp mc with mc | mc
      · rcases List.mem_append.mp mc with mc | mc
        · have := h3 c (List.mem_of_mem_take mc); omega
        · rw [List.mem_singleton.mp mc, List.length_append]
          have := h3 _ (List.getElem_mem hkl)
          show _ + 1 ≤ _
          omega
      · have := h3 c (List.mem_of_mem_drop mc); omega
  refine sq_setv (PD bad) [some (.scr (ns)), some (.lst (I2 m)), some (.val (PD p)), some (.val (.int ((p.length : Nat)))), none, x5, x6, some (.tpl (ys.map .int)), some (.tpl (zs.map .int)), some (.val (.int ((k : Nat)))), some (.val (.tuple (cs.map .int))), none, x12, some (.val (PD bad)), none] (fun Q q => ?_) rfl ?_
  · refine need_of gk (rm (rm (And.intro (room1 (by rw [List.length_map]; have := h3 _ (List.getElem_mem hkl); show _ + 1 ≤ _; omega)) ?_)))
    refine And.intro rfl ⟨p.map CD, (k : Nat), CD (p[k] ++ [(("load" : Str), [(4 : Int)])]), by unfold CD; rw [List.map_append]; rfl, by rw [List.length_map]; omega, ⟨by omega, by omega⟩, ?_⟩
    have eb : PyData.tuple ((p.map CD).take ((k : Nat) : Int).toNat ++ [CD (p[k] ++ [(("load" : Str), [(4 : Int)])])] ++ (p.map CD).drop (((k : Nat) : Int).toNat + 1)) = PD bad := by
      rw [hbad, show ((k : Nat) : Int).toNat = k by omega]
      unfold PD
      simp [List.map_drop, List.map_take]
    rw [eb]
    exact q
  refine And.intro ⟨by decide, by decide⟩ ?_
  obtain ⟨n5, hn5⟩ : ∃ n, n = 5 := ⟨_, rfl⟩
  show lcT _ _ _ _ ((List.range 5).map fun i : Nat => PyData.int (0 + (i : Int))) _ _ _
  rw [show List.range 5 = List.range n5 by rw [hn5]]
  refine lcq (α := Nat) (fun i => .int (0 + (i : Int))) (fun _ => .str "!program") (fun i => [some (.scr (ns)), some (.lst (I2 m)), some (.val (PD p)), some (.val (.int ((p.length : Nat)))), none, x5, x6, some (.tpl (ys.map .int)), some (.tpl (zs.map .int)), some (.val (.int ((k : Nat)))), some (.val (.tuple (cs.map .int))), none, x12, some (.val (PD bad)), some (.val (.int ((0 + (i : Int)))))]) (List.range n5) (by simp; omega) ?_ ?_ ?_ ?_
  · intro _ _; rfl
  · intro _ _; rfl
  · intro i mi Q q
    have hi := List.mem_range.mp mi
    have : i = 0 ∨ i = 1 ∨ i = 2 ∨ i = 3 ∨ i = 4 := by omega
    refine rm (rm (rm (rm ?_)))
    rcases this with rfl | rfl | rfl | rfl | rfl
    · exact need_of rfl (And.intro rfl ⟨_, bad, _, rfl, shb, fun _ => q, .inr (.inl ⟨rfl, 9, rfl, fun h => nP h kb, fun h => nP h kb⟩)⟩)
    · exact need_of rfl (And.intro rfl ⟨_, bad, _, rfl, shb, fun _ => q, .inr (.inr ⟨[9], rfl, by decide, .inl ⟨rfl, fun h => nP h kb, fun h => nP h kb⟩⟩)⟩)
    · exact need_of rfl (And.intro rfl ⟨_, bad, _, rfl, shb, fun _ => q, .inr (.inr ⟨[9], rfl, by decide, .inr (.inl ⟨rfl, fun h => nP h kb, fun h => nP h kb⟩)⟩)⟩)
    · exact need_of rfl (And.intro rfl ⟨_, bad, _, rfl, shb, fun _ => q, .inr (.inr ⟨[9], rfl, by decide, .inr (.inr ⟨rfl, fun h => nP h kb, fun h => nP h kb⟩)⟩)⟩)
    · exact need_of rfl (And.intro rfl ⟨_, bad, _, rfl, shb, fun _ => q, .inl ⟨rfl, fun h => nP h kb⟩⟩)
  · subst hn5
    exact rm (And.intro ⟨by decide, by decide, room1 (by decide)⟩ (dq (qb q (by decide +kernel)) (by decide +kernel) (by decide +kernel)))
end
theorem all_mk {l : PySem.W.OpenLaw} {w : World} {K : PySem.W.Frag} {h : Heap} {mg : Str → Option Value} {fa : Addr} (X : K.In h) (G : h.Ns mainGlobals mg) (hfa : mg "law" = some (.ref fa))
    {f0 : Addr} {od0 an0 : Option Addr} {sl0 : Array (Option Value)} {oc0 kV0 dc0 pm0 cd0 ct0 : Value}
    (a0 : PySem.W.nsIn K mainGlobals "is_instruction" = some (some (.ref f0)))
    (l0 : K.lookup f0 = some ⟨oc0, od0, .func (PySem.W.fnOf "is_instruction" "is_instruction" (defArgs s_isinstruction) (defBody s_isinstruction) (defScope s_isinstruction) .none kV0 dc0 pm0 an0 cd0 ct0), sl0⟩)
    (c0 : PySem.W.codeIn K cd0 "is_instruction" = true) (k0 : PySem.W.keepIn K (.ref f0) = true)
    {f1 : Addr} {od1 an1 : Option Addr} {sl1 : Array (Option Value)} {oc1 kV1 dc1 pm1 cd1 ct1 : Value}
    (a1 : PySem.W.nsIn K mainGlobals "is_program" = some (some (.ref f1)))
    (l1 : K.lookup f1 = some ⟨oc1, od1, .func (PySem.W.fnOf "is_program" "is_program" (defArgs s_isprogram) (defBody s_isprogram) (defScope s_isprogram) .none kV1 dc1 pm1 an1 cd1 ct1), sl1⟩)
    (c1 : PySem.W.codeIn K cd1 "is_program" = true) (k1 : PySem.W.keepIn K (.ref f1) = true)
    {f2 : Addr} {od2 an2 : Option Addr} {sl2 : Array (Option Value)} {oc2 kV2 dc2 pm2 cd2 ct2 : Value}
    (a2 : PySem.W.nsIn K mainGlobals "check_program" = some (some (.ref f2)))
    (l2 : K.lookup f2 = some ⟨oc2, od2, .func (PySem.W.fnOf "check_program" "check_program" (defArgs s_checkprogram) (defBody s_checkprogram) (defScope s_checkprogram) .none kV2 dc2 pm2 an2 cd2 ct2), sl2⟩)
    (c2 : PySem.W.codeIn K cd2 "check_program" = true) (k2 : PySem.W.keepIn K (.ref f2) = true)
    {f3 : Addr} {od3 an3 : Option Addr} {sl3 : Array (Option Value)} {oc3 kV3 dc3 pm3 cd3 ct3 : Value}
    (a3 : PySem.W.nsIn K mainGlobals "beginning" = some (some (.ref f3)))
    (l3 : K.lookup f3 = some ⟨oc3, od3, .func (PySem.W.fnOf "beginning" "beginning" (defArgs s_beginning) (defBody s_beginning) (defScope s_beginning) .none kV3 dc3 pm3 an3 cd3 ct3), sl3⟩)
    (c3 : PySem.W.codeIn K cd3 "beginning" = true) (k3 : PySem.W.keepIn K (.ref f3) = true)
    {f4 : Addr} {od4 an4 : Option Addr} {sl4 : Array (Option Value)} {oc4 kV4 dc4 pm4 cd4 ct4 : Value}
    (a4 : PySem.W.nsIn K mainGlobals "with_cores" = some (some (.ref f4)))
    (l4 : K.lookup f4 = some ⟨oc4, od4, .func (PySem.W.fnOf "with_cores" "with_cores" (defArgs s_withcores) (defBody s_withcores) (defScope s_withcores) .none kV4 dc4 pm4 an4 cd4 ct4), sl4⟩)
    (c4 : PySem.W.codeIn K cd4 "with_cores" = true) (k4 : PySem.W.keepIn K (.ref f4) = true)
    {f5 : Addr} {od5 an5 : Option Addr} {sl5 : Array (Option Value)} {oc5 kV5 dc5 pm5 cd5 ct5 : Value}
    (a5 : PySem.W.nsIn K mainGlobals "with_lines" = some (some (.ref f5)))
    (l5 : K.lookup f5 = some ⟨oc5, od5, .func (PySem.W.fnOf "with_lines" "with_lines" (defArgs s_withlines) (defBody s_withlines) (defScope s_withlines) .none kV5 dc5 pm5 an5 cd5 ct5), sl5⟩)
    (c5 : PySem.W.codeIn K cd5 "with_lines" = true) (k5 : PySem.W.keepIn K (.ref f5) = true)
    {f6 : Addr} {od6 an6 : Option Addr} {sl6 : Array (Option Value)} {oc6 kV6 dc6 pm6 cd6 ct6 : Value}
    (a6 : PySem.W.nsIn K mainGlobals "accesses" = some (some (.ref f6)))
    (l6 : K.lookup f6 = some ⟨oc6, od6, .func (PySem.W.fnOf "accesses" "accesses" (defArgs s_accesses) (defBody s_accesses) (defScope s_accesses) .none kV6 dc6 pm6 an6 cd6 ct6), sl6⟩)
    (c6 : PySem.W.codeIn K cd6 "accesses" = true) (k6 : PySem.W.keepIn K (.ref f6) = true)
    {f7 : Addr} {od7 an7 : Option Addr} {sl7 : Array (Option Value)} {oc7 kV7 dc7 pm7 cd7 ct7 : Value}
    (a7 : PySem.W.nsIn K mainGlobals "lines_of" = some (some (.ref f7)))
    (l7 : K.lookup f7 = some ⟨oc7, od7, .func (PySem.W.fnOf "lines_of" "lines_of" (defArgs s_linesof) (defBody s_linesof) (defScope s_linesof) .none kV7 dc7 pm7 an7 cd7 ct7), sl7⟩)
    (c7 : PySem.W.codeIn K cd7 "lines_of" = true) (k7 : PySem.W.keepIn K (.ref f7) = true)
    {f8 : Addr} {od8 an8 : Option Addr} {sl8 : Array (Option Value)} {oc8 kV8 dc8 pm8 cd8 ct8 : Value}
    (a8 : PySem.W.nsIn K mainGlobals "_law_told" = some (some (.ref f8)))
    (l8 : K.lookup f8 = some ⟨oc8, od8, .func (PySem.W.fnOf "_law_told" "_law_told" (defArgs s_lawtold) (defBody s_lawtold) (defScope s_lawtold) .none kV8 dc8 pm8 an8 cd8 ct8), sl8⟩)
    (c8 : PySem.W.codeIn K cd8 "_law_told" = true) (k8 : PySem.W.keepIn K (.ref f8) = true)
    {f9 : Addr} {od9 an9 : Option Addr} {sl9 : Array (Option Value)} {oc9 kV9 dc9 pm9 cd9 ct9 : Value}
    (a9 : PySem.W.nsIn K mainGlobals "_law_put" = some (some (.ref f9)))
    (l9 : K.lookup f9 = some ⟨oc9, od9, .func (PySem.W.fnOf "_law_put" "_law_put" (defArgs s_lawput) (defBody s_lawput) (defScope s_lawput) .none kV9 dc9 pm9 an9 cd9 ct9), sl9⟩)
    (c9 : PySem.W.codeIn K cd9 "_law_put" = true) (k9 : PySem.W.keepIn K (.ref f9) = true)
    {f10 : Addr} {od10 an10 : Option Addr} {sl10 : Array (Option Value)} {oc10 kV10 dc10 pm10 cd10 ct10 : Value}
    (a10 : PySem.W.nsIn K mainGlobals "_law_next" = some (some (.ref f10)))
    (l10 : K.lookup f10 = some ⟨oc10, od10, .func (PySem.W.fnOf "_law_next" "_law_next" (defArgs s_lawnext) (defBody s_lawnext) (defScope s_lawnext) .none kV10 dc10 pm10 an10 cd10 ct10), sl10⟩)
    (c10 : PySem.W.codeIn K cd10 "_law_next" = true) (k10 : PySem.W.keepIn K (.ref f10) = true)
    {f11 : Addr} {od11 an11 : Option Addr} {sl11 : Array (Option Value)} {oc11 kV11 dc11 pm11 cd11 ct11 : Value}
    (a11 : PySem.W.nsIn K mainGlobals "_law_mixed" = some (some (.ref f11)))
    (l11 : K.lookup f11 = some ⟨oc11, od11, .func (PySem.W.fnOf "_law_mixed" "_law_mixed" (defArgs s_lawmixed) (defBody s_lawmixed) (defScope s_lawmixed) .none kV11 dc11 pm11 an11 cd11 ct11), sl11⟩)
    (c11 : PySem.W.codeIn K cd11 "_law_mixed" = true) (k11 : PySem.W.keepIn K (.ref f11) = true)
    {f12 : Addr} {od12 an12 : Option Addr} {sl12 : Array (Option Value)} {oc12 kV12 dc12 pm12 cd12 ct12 : Value}
    (a12 : PySem.W.nsIn K mainGlobals "_law_renamed" = some (some (.ref f12)))
    (l12 : K.lookup f12 = some ⟨oc12, od12, .func (PySem.W.fnOf "_law_renamed" "_law_renamed" (defArgs s_lawrenamed) (defBody s_lawrenamed) (defScope s_lawrenamed) .none kV12 dc12 pm12 an12 cd12 ct12), sl12⟩)
    (c12 : PySem.W.codeIn K cd12 "_law_renamed" = true) (k12 : PySem.W.keepIn K (.ref f12) = true)
    {f13 : Addr} {od13 an13 : Option Addr} {sl13 : Array (Option Value)} {oc13 kV13 dc13 pm13 cd13 ct13 : Value}
    (a13 : PySem.W.nsIn K mainGlobals "_law_accesses" = some (some (.ref f13)))
    (l13 : K.lookup f13 = some ⟨oc13, od13, .func (PySem.W.fnOf "_law_accesses" "_law_accesses" (defArgs s_lawaccesses) (defBody s_lawaccesses) (defScope s_lawaccesses) .none kV13 dc13 pm13 an13 cd13 ct13), sl13⟩)
    (c13 : PySem.W.codeIn K cd13 "_law_accesses" = true) (k13 : PySem.W.keepIn K (.ref f13) = true)
    {f14 : Addr} {od14 an14 : Option Addr} {sl14 : Array (Option Value)} {oc14 kV14 dc14 pm14 cd14 ct14 : Value}
    (a14 : PySem.W.nsIn K mainGlobals "_law_one" = some (some (.ref f14)))
    (l14 : K.lookup f14 = some ⟨oc14, od14, .func (PySem.W.fnOf "_law_one" "_law_one" (defArgs s_lawone) (defBody s_lawone) (defScope s_lawone) .none kV14 dc14 pm14 an14 cd14 ct14), sl14⟩)
    (c14 : PySem.W.codeIn K cd14 "_law_one" = true) (k14 : PySem.W.keepIn K (.ref f14) = true)
    {f15 : Addr} {od15 an15 : Option Addr} {sl15 : Array (Option Value)} {oc15 kV15 dc15 pm15 cd15 ct15 : Value}
    (a15 : PySem.W.nsIn K mainGlobals "_law_program" = some (some (.ref f15)))
    (l15 : K.lookup f15 = some ⟨oc15, od15, .func (PySem.W.fnOf "_law_program" "_law_program" (defArgs s_lawprogram) (defBody s_lawprogram) (defScope s_lawprogram) .none kV15 dc15 pm15 an15 cd15 ct15), sl15⟩)
    (c15 : PySem.W.codeIn K cd15 "_law_program" = true) (k15 : PySem.W.keepIn K (.ref f15) = true)
    {f16 : Addr} {od16 an16 : Option Addr} {sl16 : Array (Option Value)} {oc16 kV16 dc16 pm16 cd16 ct16 : Value}
    (a16 : PySem.W.nsIn K mainGlobals "_law_more" = some (some (.ref f16)))
    (l16 : K.lookup f16 = some ⟨oc16, od16, .func (PySem.W.fnOf "_law_more" "_law_more" (defArgs s_lawmore) (defBody s_lawmore) (defScope s_lawmore) .none kV16 dc16 pm16 an16 cd16 ct16), sl16⟩)
    (c16 : PySem.W.codeIn K cd16 "_law_more" = true) (k16 : PySem.W.keepIn K (.ref f16) = true)
    {f17 : Addr} {od17 an17 : Option Addr} {sl17 : Array (Option Value)} {oc17 kV17 dc17 pm17 cd17 ct17 : Value}
    (a17 : PySem.W.nsIn K mainGlobals "_law_any_program" = some (some (.ref f17)))
    (l17 : K.lookup f17 = some ⟨oc17, od17, .func (PySem.W.fnOf "_law_any_program" "_law_any_program" (defArgs s_lawanyprogram) (defBody s_lawanyprogram) (defScope s_lawanyprogram) .none kV17 dc17 pm17 an17 cd17 ct17), sl17⟩)
    (c17 : PySem.W.codeIn K cd17 "_law_any_program" = true) (k17 : PySem.W.keepIn K (.ref f17) = true)
    {f18 : Addr} {od18 an18 : Option Addr} {sl18 : Array (Option Value)} {oc18 kV18 dc18 pm18 cd18 ct18 : Value}
    (a18 : PySem.W.nsIn K mainGlobals "_law_number" = some (some (.ref f18)))
    (l18 : K.lookup f18 = some ⟨oc18, od18, .func (PySem.W.fnOf "_law_number" "_law_number" (defArgs s_lawnumber) (defBody s_lawnumber) (defScope s_lawnumber) .none kV18 dc18 pm18 an18 cd18 ct18), sl18⟩)
    (c18 : PySem.W.codeIn K cd18 "_law_number" = true) (k18 : PySem.W.keepIn K (.ref f18) = true)
    {f19 : Addr} {od19 an19 : Option Addr} {sl19 : Array (Option Value)} {oc19 kV19 dc19 pm19 cd19 ct19 : Value}
    (a19 : PySem.W.nsIn K mainGlobals "_law_draws" = some (some (.ref f19)))
    (l19 : K.lookup f19 = some ⟨oc19, od19, .func (PySem.W.fnOf "_law_draws" "_law_draws" (defArgs s_lawdraws) (defBody s_lawdraws) (defScope s_lawdraws) .none kV19 dc19 pm19 an19 cd19 ct19), sl19⟩)
    (c19 : PySem.W.codeIn K cd19 "_law_draws" = true) (k19 : PySem.W.keepIn K (.ref f19) = true)
    {f20 : Addr} {od20 an20 : Option Addr} {sl20 : Array (Option Value)} {oc20 kV20 dc20 pm20 cd20 ct20 : Value}
    (a20 : PySem.W.nsIn K mainGlobals "law" = some (some (.ref f20)))
    (l20 : K.lookup f20 = some ⟨oc20, od20, .func (PySem.W.fnOf "law" "law" (defArgs s_law) (defBody s_law) (defScope s_law) .none kV20 dc20 pm20 an20 cd20 ct20), sl20⟩)
    (c20 : PySem.W.codeIn K cd20 "law" = true) (k20 : PySem.W.keepIn K (.ref f20) = true)
    (z_all : PySem.W.nsIn K mainGlobals "all" = some none)
    (z_any : PySem.W.nsIn K mainGlobals "any" = some none)
    (z_enumerate : PySem.W.nsIn K mainGlobals "enumerate" = some none)
    (z_int : PySem.W.nsIn K mainGlobals "int" = some none)
    (z_isinstance : PySem.W.nsIn K mainGlobals "isinstance" = some none)
    (z_len : PySem.W.nsIn K mainGlobals "len" = some none)
    (z_list : PySem.W.nsIn K mainGlobals "list" = some none)
    (z_range : PySem.W.nsIn K mainGlobals "range" = some none)
    (z_repr : PySem.W.nsIn K mainGlobals "repr" = some none)
    (z_sorted : PySem.W.nsIn K mainGlobals "sorted" = some none)
    (z_tuple : PySem.W.nsIn K mainGlobals "tuple" = some none)
    (z_zip : PySem.W.nsIn K mainGlobals "zip" = some none)
    {c_BadNumber : Addr} (y_BadNumber : PySem.W.nsIn K mainGlobals "BadNumber" = some (some (.ref c_BadNumber)))
    {c_CoheirError : Addr} (y_CoheirError : PySem.W.nsIn K mainGlobals "CoheirError" = some (some (.ref c_CoheirError)))
    {c_NotProgram : Addr} (y_NotProgram : PySem.W.nsIn K mainGlobals "NotProgram" = some (some (.ref c_NotProgram)))
    (xq_BadNumber : PySem.W.excIn K c_BadNumber [.type "ValueError", .type "Exception", .type "BaseException", .type "object"] "ValueError.__new__" = true)
    (xk_BadNumber : PySem.W.keepIn K (.ref c_BadNumber) = true)
    (xs_BadNumber : PySem.W.subIn K (.ref c_BadNumber) (.type "BaseException") = some true)
    (xt_BadNumber : PySem.W.typeIn K (.ref c_BadNumber) = some (.type "type"))
    (xh1_BadNumber : PySem.W.findIn K (.ref c_BadNumber) "__getattribute__" = some (some (.builtin "BaseException.__getattribute__")))
    (xh2_BadNumber : PySem.W.findIn K (.ref c_BadNumber) "__getattr__" = some none)
    (xh3_BadNumber : PySem.W.hasDictIn K c_BadNumber = true)
    (xh4_BadNumber : PySem.W.findIn K (.ref c_BadNumber) "__class__" = some (some (.builtin "object.__class__")))
    (xh5_BadNumber : PySem.W.mroIn K c_BadNumber (.type "object") = some true)
    (xq_NotProgram : PySem.W.excIn K c_NotProgram [.type "ValueError", .type "Exception", .type "BaseException", .type "object"] "ValueError.__new__" = true)
    (xk_NotProgram : PySem.W.keepIn K (.ref c_NotProgram) = true)
    (xs_NotProgram : PySem.W.subIn K (.ref c_NotProgram) (.type "BaseException") = some true)
    (xt_NotProgram : PySem.W.typeIn K (.ref c_NotProgram) = some (.type "type"))
    (xh1_NotProgram : PySem.W.findIn K (.ref c_NotProgram) "__getattribute__" = some (some (.builtin "BaseException.__getattribute__")))
    (xh2_NotProgram : PySem.W.findIn K (.ref c_NotProgram) "__getattr__" = some none)
    (xh3_NotProgram : PySem.W.hasDictIn K c_NotProgram = true)
    (xh4_NotProgram : PySem.W.findIn K (.ref c_NotProgram) "__class__" = some (some (.builtin "object.__class__")))
    (xh5_NotProgram : PySem.W.mroIn K c_NotProgram (.type "object") = some true)
    (xh6 : PySem.W.specialIn K (.builtin "object.__class__") "__get__" = some (some (.builtin "getset_descriptor.__get__"))) (xh7 : PySem.W.takesIn K (.builtin "object.__class__") = some true)
    (vb_BadNumber : PySem.W.subIn K (.ref c_BadNumber) (.type "BaseException") = some true)
    (vi_BadNumber : PySem.W.isClsIn K c_BadNumber = true)
    (vt_BadNumber : PySem.W.typeIn K (.ref c_BadNumber) = some (.type "type"))
    (vb_CoheirError : PySem.W.subIn K (.ref c_CoheirError) (.type "BaseException") = some true)
    (vi_CoheirError : PySem.W.isClsIn K c_CoheirError = true)
    (vt_CoheirError : PySem.W.typeIn K (.ref c_CoheirError) = some (.type "type"))
    (vb_NotProgram : PySem.W.subIn K (.ref c_NotProgram) (.type "BaseException") = some true)
    (vi_NotProgram : PySem.W.isClsIn K c_NotProgram = true)
    (vt_NotProgram : PySem.W.typeIn K (.ref c_NotProgram) = some (.type "type"))
    (vs_BadNumber_BadNumber : PySem.W.subIn K (.ref c_BadNumber) (.ref c_BadNumber) = some true)
    (vs_BadNumber_CoheirError : PySem.W.subIn K (.ref c_BadNumber) (.ref c_CoheirError) = some true)
    (vs_BadNumber_NotProgram : PySem.W.subIn K (.ref c_BadNumber) (.ref c_NotProgram) = some false)
    (vn_BadNumber_NotProgram : (Value.ref c_BadNumber == Value.ref c_NotProgram) = false)
    (vs_NotProgram_BadNumber : PySem.W.subIn K (.ref c_NotProgram) (.ref c_BadNumber) = some false)
    (vn_NotProgram_BadNumber : (Value.ref c_NotProgram == Value.ref c_BadNumber) = false)
    (vs_NotProgram_CoheirError : PySem.W.subIn K (.ref c_NotProgram) (.ref c_CoheirError) = some true)
    (vs_NotProgram_NotProgram : PySem.W.subIn K (.ref c_NotProgram) (.ref c_NotProgram) = some true)
    {c_ACCESSES : Addr} {t_ACCESSES0 t_ACCESSES1 t_ACCESSES2 : Tok} {od_ACCESSES : Option Addr} {n_ACCESSES : Nat} {sl_ACCESSES : Array (Option Value)} (y_ACCESSES : PySem.W.nsIn K mainGlobals "ACCESSES" = some (some (.ref c_ACCESSES)))
    (l_ACCESSES : K.lookup c_ACCESSES = some ⟨.type "tuple", od_ACCESSES, .seq #[.str "load" t_ACCESSES0, .str "store" t_ACCESSES1, .str "swap" t_ACCESSES2] n_ACCESSES, sl_ACCESSES⟩)
    {t_MANY_LINES : Tok} (y_MANY_LINES : PySem.W.nsIn K mainGlobals "MANY_LINES" = some (some (.int (4) t_MANY_LINES)))
    {t_MOST_CORES : Tok} (y_MOST_CORES : PySem.W.nsIn K mainGlobals "MOST_CORES" = some (some (.int (12) t_MOST_CORES)))
    {t_MOST_INSTRUCTIONS : Tok} (y_MOST_INSTRUCTIONS : PySem.W.nsIn K mainGlobals "MOST_INSTRUCTIONS" = some (some (.int (24) t_MOST_INSTRUCTIONS)))
    {t_MOST_VALUE : Tok} (y_MOST_VALUE : PySem.W.nsIn K mainGlobals "MOST_VALUE" = some (some (.int (99) t_MOST_VALUE)))
    {c_PARTS : Addr} (y_PARTS : PySem.W.nsIn K mainGlobals "PARTS" = some (some (.ref c_PARTS)))
    (t1_PARTS : PyProof.Rows.KTD.tabLook PyProof.Rows.KTD.flatLooks (fun b => List.lookup b K) c_PARTS ([("load", .int 2), ("store", .int 3), ("swap", .int 3), ("fence", .int 1)] : List (Str × PyData)) = true)
    (t2_PARTS : PyProof.Rows.KTD.hashesOf (fun b => List.lookup b K) c_PARTS = ([("load", .int 2), ("store", .int 3), ("swap", .int 3), ("fence", .int 1)] : List (Str × PyData)).map fun p => (PySem.strKind l.prog w).hash p.1)
    : ∃ fd : FuncData, (∀ (s : Shared) (v : Value), BindsTo s fd ⟨[v], []⟩ [("script", v)]) ∧ ∀ base : Heap, K.In base → base.Ns mainGlobals mg → FnG l.prog w K mg base 7 fa fd ["script"] sp_law := by
  have e := hfa.symm.trans (PySem.W.mg_of X G a20)
  cases e
  have F0 := fun_mk (st := s_isinstruction) l0 c0 k0
  have F1 := fun_mk (st := s_isprogram) l1 c1 k1
  have F2 := fun_mk (st := s_checkprogram) l2 c2 k2
  have F3 := fun_mk (st := s_beginning) l3 c3 k3
  have F4 := fun_mk (st := s_withcores) l4 c4 k4
  have F5 := fun_mk (st := s_withlines) l5 c5 k5
  have F6 := fun_mk (st := s_accesses) l6 c6 k6
  have F7 := fun_mk (st := s_linesof) l7 c7 k7
  have F8 := fun_mk (st := s_lawtold) l8 c8 k8
  have F9 := fun_mk (st := s_lawput) l9 c9 k9
  have F10 := fun_mk (st := s_lawnext) l10 c10 k10
  have F11 := fun_mk (st := s_lawmixed) l11 c11 k11
  have F12 := fun_mk (st := s_lawrenamed) l12 c12 k12
  have F13 := fun_mk (st := s_lawaccesses) l13 c13 k13
  have F14 := fun_mk (st := s_lawone) l14 c14 k14
  have F15 := fun_mk (st := s_lawprogram) l15 c15 k15
  have F16 := fun_mk (st := s_lawmore) l16 c16 k16
  have F17 := fun_mk (st := s_lawanyprogram) l17 c17 k17
  have F18 := fun_mk (st := s_lawnumber) l18 c18 k18
  have F19 := fun_mk (st := s_lawdraws) l19 c19 k19
  have F20 := fun_mk (st := s_law) l20 c20 k20
  refine ⟨_, fun s v => .of_eq rfl, fun base _ _ => ok_law {
    a_isinstruction := f0, d_isinstruction := _, F_isinstruction := F0, b_isinstruction := F0.binds (ps := ["one"]) (fun _ _ _ _ _ _ us hl => match us, hl with | [_], _ => rfl),
    g_isinstruction := PySem.W.mg_of X G a0
    a_isprogram := f1, d_isprogram := _, F_isprogram := F1, b_isprogram := F1.binds (ps := ["program"]) (fun _ _ _ _ _ _ us hl => match us, hl with | [_], _ => rfl),
    g_isprogram := PySem.W.mg_of X G a1
    a_checkprogram := f2, d_checkprogram := _, F_checkprogram := F2, b_checkprogram := F2.binds (ps := ["program"]) (fun _ _ _ _ _ _ us hl => match us, hl with | [_], _ => rfl),
    g_checkprogram := PySem.W.mg_of X G a2
    a_beginning := f3, d_beginning := _, F_beginning := F3, b_beginning := F3.binds (ps := ["program", "counts"]) (fun _ _ _ _ _ _ us hl => match us, hl with | [_, _], _ => rfl),
    g_beginning := PySem.W.mg_of X G a3
    a_withcores := f4, d_withcores := _, F_withcores := F4, b_withcores := F4.binds (ps := ["program", "order"]) (fun _ _ _ _ _ _ us hl => match us, hl with | [_, _], _ => rfl),
    g_withcores := PySem.W.mg_of X G a4
    a_withlines := f5, d_withlines := _, F_withlines := F5, b_withlines := F5.binds (ps := ["program", "lines"]) (fun _ _ _ _ _ _ us hl => match us, hl with | [_, _], _ => rfl),
    g_withlines := PySem.W.mg_of X G a5
    a_accesses := f6, d_accesses := _, F_accesses := F6, b_accesses := F6.binds (ps := ["program", "line"]) (fun _ _ _ _ _ _ us hl => match us, hl with | [_, _], _ => rfl),
    g_accesses := PySem.W.mg_of X G a6
    a_linesof := f7, d_linesof := _, F_linesof := F7, b_linesof := F7.binds (ps := ["program"]) (fun _ _ _ _ _ _ us hl => match us, hl with | [_], _ => rfl),
    g_linesof := PySem.W.mg_of X G a7
    a_lawtold := f8, d_lawtold := _, F_lawtold := F8, b_lawtold := F8.binds (ps := ["way", "program", "given"]) (fun _ _ _ _ _ _ us hl => match us, hl with | [_, _, _], _ => rfl),
    g_lawtold := PySem.W.mg_of X G a8
    a_lawput := f9, d_lawput := _, F_lawput := F9, b_lawput := F9.binds (ps := ["parts", "at", "part"]) (fun _ _ _ _ _ _ us hl => match us, hl with | [_, _, _], _ => rfl),
    g_lawput := PySem.W.mg_of X G a9
    a_lawnext := f10, d_lawnext := _, F_lawnext := F10, b_lawnext := F10.binds (ps := ["draws"]) (fun _ _ _ _ _ _ us hl => match us, hl with | [_], _ => rfl),
    g_lawnext := PySem.W.mg_of X G a10
    a_lawmixed := f11, d_lawmixed := _, F_lawmixed := F11, b_lawmixed := F11.binds (ps := ["draws", "numbers"]) (fun _ _ _ _ _ _ us hl => match us, hl with | [_, _], _ => rfl),
    g_lawmixed := PySem.W.mg_of X G a11
    a_lawrenamed := f12, d_lawrenamed := _, F_lawrenamed := F12, b_lawrenamed := F12.binds (ps := ["program", "lines"]) (fun _ _ _ _ _ _ us hl => match us, hl with | [_, _], _ => rfl),
    g_lawrenamed := PySem.W.mg_of X G a12
    a_lawaccesses := f13, d_lawaccesses := _, F_lawaccesses := F13, b_lawaccesses := F13.binds (ps := ["program", "line"]) (fun _ _ _ _ _ _ us hl => match us, hl with | [_, _], _ => rfl),
    g_lawaccesses := PySem.W.mg_of X G a13
    a_lawone := f14, d_lawone := _, F_lawone := F14, b_lawone := F14.binds (ps := ["draws", "lines"]) (fun _ _ _ _ _ _ us hl => match us, hl with | [_, _], _ => rfl),
    g_lawone := PySem.W.mg_of X G a14
    a_lawprogram := f15, d_lawprogram := _, F_lawprogram := F15, b_lawprogram := F15.binds (ps := ["draws", "cores", "most", "lines"]) (fun _ _ _ _ _ _ us hl => match us, hl with | [_, _, _, _], _ => rfl),
    g_lawprogram := PySem.W.mg_of X G a15
    a_lawmore := f16, d_lawmore := _, F_lawmore := F16, b_lawmore := F16.binds (ps := ["draws", "many"]) (fun _ _ _ _ _ _ us hl => match us, hl with | [_, _], _ => rfl),
    g_lawmore := PySem.W.mg_of X G a16
    a_lawanyprogram := f17, d_lawanyprogram := _, F_lawanyprogram := F17, b_lawanyprogram := F17.binds (ps := ["draws"]) (fun _ _ _ _ _ _ us hl => match us, hl with | [_], _ => rfl),
    g_lawanyprogram := PySem.W.mg_of X G a17
    a_lawnumber := f18, d_lawnumber := _, F_lawnumber := F18, b_lawnumber := F18.binds (ps := ["cell"]) (fun _ _ _ _ _ _ us hl => match us, hl with | [_], _ => rfl),
    g_lawnumber := PySem.W.mg_of X G a18
    a_lawdraws := f19, d_lawdraws := _, F_lawdraws := F19, b_lawdraws := F19.binds (ps := ["script"]) (fun _ _ _ _ _ _ us hl => match us, hl with | [_], _ => rfl),
    g_lawdraws := PySem.W.mg_of X G a19
    a_law := fa, d_law := _, F_law := F20, b_law := F20.binds (ps := ["script"]) (fun _ _ _ _ _ _ us hl => match us, hl with | [_], _ => rfl),
    g_law := PySem.W.mg_of X G a20
    m_all := PySem.W.mg_none_of X G z_all
    m_any := PySem.W.mg_none_of X G z_any
    m_enumerate := PySem.W.mg_none_of X G z_enumerate
    m_int := PySem.W.mg_none_of X G z_int
    m_isinstance := PySem.W.mg_none_of X G z_isinstance
    m_len := PySem.W.mg_none_of X G z_len
    m_list := PySem.W.mg_none_of X G z_list
    m_range := PySem.W.mg_none_of X G z_range
    m_repr := PySem.W.mg_none_of X G z_repr
    m_sorted := PySem.W.mg_none_of X G z_sorted
    m_tuple := PySem.W.mg_none_of X G z_tuple
    m_zip := PySem.W.mg_none_of X G z_zip
    A_BadNumber := c_BadNumber, g_BadNumber := PySem.W.mg_of X G y_BadNumber
    A_CoheirError := c_CoheirError, g_CoheirError := PySem.W.mg_of X G y_CoheirError
    A_NotProgram := c_NotProgram, g_NotProgram := PySem.W.mg_of X G y_NotProgram
    x_BadNumber := ⟨PySem.W.mg_of X G y_BadNumber, xq_BadNumber, xk_BadNumber, xs_BadNumber, xt_BadNumber⟩, e_BadNumber := ⟨xh1_BadNumber, xh2_BadNumber, xs_BadNumber, xh3_BadNumber, xh4_BadNumber, xh6, xh7, xh5_BadNumber⟩
    x_NotProgram := ⟨PySem.W.mg_of X G y_NotProgram, xq_NotProgram, xk_NotProgram, xs_NotProgram, xt_NotProgram⟩, e_NotProgram := ⟨xh1_NotProgram, xh2_NotProgram, xs_NotProgram, xh3_NotProgram, xh4_NotProgram, xh6, xh7, xh5_NotProgram⟩
    exm_BadNumber_CoheirError := exm_mk vb_CoheirError vi_CoheirError vt_CoheirError vs_BadNumber_CoheirError
    exm_NotProgram_CoheirError := exm_mk vb_CoheirError vi_CoheirError vt_CoheirError vs_NotProgram_CoheirError
    kit_BadNumber_BadNumber := kit_mk vi_BadNumber vt_BadNumber vs_BadNumber_BadNumber (.inl rfl)
    kit_BadNumber_NotProgram := kit_mk vi_NotProgram vt_NotProgram vs_BadNumber_NotProgram (.inr vn_BadNumber_NotProgram)
    kit_NotProgram_BadNumber := kit_mk vi_BadNumber vt_BadNumber vs_NotProgram_BadNumber (.inr vn_NotProgram_BadNumber)
    kit_NotProgram_NotProgram := kit_mk vi_NotProgram vt_NotProgram vs_NotProgram_NotProgram (.inl rfl)
    A_ACCESSES := c_ACCESSES, g_ACCESSES := PySem.W.mg_of X G y_ACCESSES, p_ACCESSES := pr_ktup (vs := [V.str "load", V.str "store", V.str "swap"]) l_ACCESSES (Nat.le_of_ble_eq_true rfl) ((.cons ⟨_, rfl⟩ (.cons ⟨_, rfl⟩ (.cons ⟨_, rfl⟩ .nil)))) (fun _ => (.cons (.str _ (by decide +kernel) (by decide +kernel)) (.cons (.str _ (by decide +kernel) (by decide +kernel)) (.cons (.str _ (by decide +kernel) (by decide +kernel)) .nil))))
    t_MANY_LINES := t_MANY_LINES, g_MANY_LINES := PySem.W.mg_of X G y_MANY_LINES
    t_MOST_CORES := t_MOST_CORES, g_MOST_CORES := PySem.W.mg_of X G y_MOST_CORES
    t_MOST_INSTRUCTIONS := t_MOST_INSTRUCTIONS, g_MOST_INSTRUCTIONS := PySem.W.mg_of X G y_MOST_INSTRUCTIONS
    t_MOST_VALUE := t_MOST_VALUE, g_MOST_VALUE := PySem.W.mg_of X G y_MOST_VALUE
    A_PARTS := c_PARTS, g_PARTS := PySem.W.mg_of X G y_PARTS, d_PARTS := fun h hk => PySem.W.kt_tab_in l.prog w hk t1_PARTS (by decide +kernel) t2_PARTS
  }⟩
end K13
open PySem PySem.W PyProof.Rows
set_option maxHeartbeats 0 in
theorem PySem.Challenge.cw_coheir_k13_what_programs_access_holds : PySem.Challenge.rw_coheir_k13_what_programs_access.Holds := by
  w_on; o_law; k_head; (case hw => w_witness2)
  k_fill
  refine SV.walkG (l := PySem.Challenge.rw_coheir_k13_what_programs_access) (n := 63) (k := 7) (x := "script") (sp := K13.sp_law) rfl (by decide) rfl ⟨rfl, by decide, by decide⟩ (fun w h Y => PySem.W.kIn_of Y) ?F (fun ns hl => K13.sp_start ns hl)
  case F =>
    intro w mg fa h KX G hmg
    refine' K13.all_mk KX G hmg ?a0 ?l0 ?c0 ?k0 ?a1 ?l1 ?c1 ?k1 ?a2 ?l2 ?c2 ?k2 ?a3 ?l3 ?c3 ?k3 ?a4 ?l4 ?c4 ?k4 ?a5 ?l5 ?c5 ?k5 ?a6 ?l6 ?c6 ?k6 ?a7 ?l7 ?c7 ?k7 ?a8 ?l8 ?c8 ?k8 ?a9 ?l9 ?c9 ?k9 ?a10 ?l10 ?c10 ?k10 ?a11 ?l11 ?c11 ?k11 ?a12 ?l12 ?c12 ?k12 ?a13 ?l13 ?c13 ?k13 ?a14 ?l14 ?c14 ?k14 ?a15 ?l15 ?c15 ?k15 ?a16 ?l16 ?c16 ?k16 ?a17 ?l17 ?c17 ?k17 ?a18 ?l18 ?c18 ?k18 ?a19 ?l19 ?c19 ?k19 ?a20 ?l20 ?c20 ?k20 ?z_all ?z_any ?z_enumerate ?z_int ?z_isinstance ?z_len ?z_list ?z_range ?z_repr ?z_sorted ?z_tuple ?z_zip ?y_BadNumber ?y_CoheirError ?y_NotProgram ?xq_BadNumber ?xk_BadNumber ?xs_BadNumber ?xt_BadNumber ?xh1_BadNumber ?xh2_BadNumber ?xh3_BadNumber ?xh4_BadNumber ?xh5_BadNumber ?xq_NotProgram ?xk_NotProgram ?xs_NotProgram ?xt_NotProgram ?xh1_NotProgram ?xh2_NotProgram ?xh3_NotProgram ?xh4_NotProgram ?xh5_NotProgram ?xh6 ?xh7 ?vb_BadNumber ?vi_BadNumber ?vt_BadNumber ?vb_CoheirError ?vi_CoheirError ?vt_CoheirError ?vb_NotProgram ?vi_NotProgram ?vt_NotProgram ?vs_BadNumber_BadNumber ?vs_BadNumber_CoheirError ?vs_BadNumber_NotProgram ?vn_BadNumber_NotProgram ?vs_NotProgram_BadNumber ?vn_NotProgram_BadNumber ?vs_NotProgram_CoheirError ?vs_NotProgram_NotProgram ?y_ACCESSES ?l_ACCESSES ?y_MANY_LINES ?y_MOST_CORES ?y_MOST_INSTRUCTIONS ?y_MOST_VALUE ?y_PARTS ?t1_PARTS ?t2_PARTS
    (case a0 => k_is)
    (case l0 => k_is)
    (case c0 => k_is)
    (case k0 => k_is)
    (case a1 => k_is)
    (case l1 => k_is)
    (case c1 => k_is)
    (case k1 => k_is)
    (case a2 => k_is)
    (case l2 => k_is)
    (case c2 => k_is)
    (case k2 => k_is)
    (case a3 => k_is)
    (case l3 => k_is)
    (case c3 => k_is)
    (case k3 => k_is)
    (case a4 => k_is)
    (case l4 => k_is)
    (case c4 => k_is)
    (case k4 => k_is)
    (case a5 => k_is)
    (case l5 => k_is)
    (case c5 => k_is)
    (case k5 => k_is)
    (case a6 => k_is)
    (case l6 => k_is)
    (case c6 => k_is)
    (case k6 => k_is)
    (case a7 => k_is)
    (case l7 => k_is)
    (case c7 => k_is)
    (case k7 => k_is)
    (case a8 => k_is)
    (case l8 => k_is)
    (case c8 => k_is)
    (case k8 => k_is)
    (case a9 => k_is)
    (case l9 => k_is)
    (case c9 => k_is)
    (case k9 => k_is)
    (case a10 => k_is)
    (case l10 => k_is)
    (case c10 => k_is)
    (case k10 => k_is)
    (case a11 => k_is)
    (case l11 => k_is)
    (case c11 => k_is)
    (case k11 => k_is)
    (case a12 => k_is)
    (case l12 => k_is)
    (case c12 => k_is)
    (case k12 => k_is)
    (case a13 => k_is)
    (case l13 => k_is)
    (case c13 => k_is)
    (case k13 => k_is)
    (case a14 => k_is)
    (case l14 => k_is)
    (case c14 => k_is)
    (case k14 => k_is)
    (case a15 => k_is)
    (case l15 => k_is)
    (case c15 => k_is)
    (case k15 => k_is)
    (case a16 => k_is)
    (case l16 => k_is)
    (case c16 => k_is)
    (case k16 => k_is)
    (case a17 => k_is)
    (case l17 => k_is)
    (case c17 => k_is)
    (case k17 => k_is)
    (case a18 => k_is)
    (case l18 => k_is)
    (case c18 => k_is)
    (case k18 => k_is)
    (case a19 => k_is)
    (case l19 => k_is)
    (case c19 => k_is)
    (case k19 => k_is)
    (case a20 => k_is)
    (case l20 => k_is)
    (case c20 => k_is)
    (case k20 => k_is)
    (case z_all => k_is)
    (case z_any => k_is)
    (case z_enumerate => k_is)
    (case z_int => k_is)
    (case z_isinstance => k_is)
    (case z_len => k_is)
    (case z_list => k_is)
    (case z_range => k_is)
    (case z_repr => k_is)
    (case z_sorted => k_is)
    (case z_tuple => k_is)
    (case z_zip => k_is)
    (case y_BadNumber => k_is)
    (case y_CoheirError => k_is)
    (case y_NotProgram => k_is)
    (case xq_BadNumber => k_exc)
    (case xk_BadNumber => k_is)
    (case xs_BadNumber => k_is)
    (case xt_BadNumber => k_is)
    (case xh1_BadNumber => k_is)
    (case xh2_BadNumber => k_is)
    (case xh3_BadNumber => k_is)
    (case xh4_BadNumber => k_is)
    (case xh5_BadNumber => k_is)
    (case xq_NotProgram => k_exc)
    (case xk_NotProgram => k_is)
    (case xs_NotProgram => k_is)
    (case xt_NotProgram => k_is)
    (case xh1_NotProgram => k_is)
    (case xh2_NotProgram => k_is)
    (case xh3_NotProgram => k_is)
    (case xh4_NotProgram => k_is)
    (case xh5_NotProgram => k_is)
    (case xh6 => k_is)
    (case xh7 => k_is)
    (case vb_BadNumber => k_is)
    (case vi_BadNumber => k_is)
    (case vt_BadNumber => k_is)
    (case vb_CoheirError => k_is)
    (case vi_CoheirError => k_is)
    (case vt_CoheirError => k_is)
    (case vb_NotProgram => k_is)
    (case vi_NotProgram => k_is)
    (case vt_NotProgram => k_is)
    (case vs_BadNumber_BadNumber => first | rfl | k_is)
    (case vs_BadNumber_CoheirError => first | rfl | k_is)
    (case vs_BadNumber_NotProgram => first | rfl | k_is)
    (case vn_BadNumber_NotProgram => first | rfl | decide | k_is)
    (case vs_NotProgram_BadNumber => first | rfl | k_is)
    (case vn_NotProgram_BadNumber => first | rfl | decide | k_is)
    (case vs_NotProgram_CoheirError => first | rfl | k_is)
    (case vs_NotProgram_NotProgram => first | rfl | k_is)
    (case y_ACCESSES => k_is)
    (case l_ACCESSES => k_is)
    (case y_MANY_LINES => k_is)
    (case y_MOST_CORES => k_is)
    (case y_MOST_INSTRUCTIONS => k_is)
    (case y_MOST_VALUE => k_is)
    (case y_PARTS => k_is)
    (case t1_PARTS => first | k_is | rfl | decide +kernel)
    (case t2_PARTS => first | k_is | rfl | decide +kernel)
