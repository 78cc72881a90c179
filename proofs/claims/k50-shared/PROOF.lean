import PyProof.Rows.All
import Wide.All
import OpenK.AllK
import Wide.FinOn
import PySem.Challenge.RW_landhold_k50_shared_and_filled
import HandS.ForMost
import HandS.Exc
import HandS.ExcInit
import HandS.Lambda
import HandS.Wide
import HandS.TupAny
import HandS.TupLe
import HandS.Deep
import HandS.Gcd
import HandS.IsInst
import HandS.Flow
import HandS.Style
import KE.DataCmp
import HandS.Conv
import HandS.Text
import KE.KStar
import KE.KMathGC
import KE.SortData
import PyProof.WalksMore
import HandS.CallSlots
import HandS.WordsExc
import HandS.Defaults
import HandS.HeadHook4
import HandS.HeadWalk
import HandS.Head3
import HandS.HeadEnd
import HandS.Nested
import HandS.SortKw
import KE.SortKeyHeap
import PyProof.Rows.InDataRows
import HandS.Zip0
import PyProof.StrOps2
import HandS.TupSets
import HandS.Zip
import KE.KeyNested
import PyProof.SetRoads
set_option Elab.async false
set_option linter.all false
set_option maxRecDepth 100000
set_option maxHeartbeats 0
/-! PLa: plain data over the tracked heap. D: the data; Rep: which value stands for which data; F: the part of the heap that no one will write any more. -/
namespace PL
open PySem PySem.Spec L2

inductive D where
  | non | bl (b : Bool) | int (i : Int) | str (x : Str) | tup (l : List D) | lst (l : List D) | dct (l : List (D × D)) | set (l : List D) | fn (n : Nat) | scr (l : List Int)
  deriving Inhabited

/-- outcome of a computation: a value, an exception (its class by number, its field), or not covered -/
inductive Res (α : Type) where
  | ok (a : α) | exc (c : Nat) (d : D) | bad
  deriving Inhabited
def Res.bind {α β : Type} (r : Res α) (f : α → Res β) : Res β := match r with
  | .ok a => f a
  | .exc c d => .exc c d
  | .bad => .bad
instance : Monad Res where
  pure := Res.ok
  bind := Res.bind
@[simp] theorem Res.bind_ok {α β : Type} (a : α) (f : α → Res β) : (Res.ok a >>= f) = f a := rfl
@[simp] theorem Res.bind_exc {α β : Type} (c : Nat) (d : D) (f : α → Res β) : (Res.exc c d >>= f) = Res.exc c d := rfl
@[simp] theorem Res.bind_bad {α β : Type} (f : α → Res β) : ((Res.bad : Res α) >>= f) = Res.bad := rfl
@[simp] theorem Res.pure_eq {α : Type} (a : α) : (pure a : Res α) = Res.ok a := rfl
@[simp] theorem Res.bind_ok' {α β : Type} (a : α) (f : α → Res β) : (Res.ok a).bind f = f a := rfl
@[simp] theorem Res.bind_exc' {α β : Type} (c : Nat) (d : D) (f : α → Res β) : (Res.exc c d).bind f = Res.exc c d := rfl
@[simp] theorem Res.bind_bad' {α β : Type} (f : α → Res β) : (Res.bad : Res α).bind f = Res.bad := rfl

/-- the module's things: the written part, where each def and each exception class stands, an exception's field -/
structure G where
  K : PySem.W.Frag
  fa : Nat → Addr
  ca : Nat → Addr
  cf : Nat → Str
  T : List (Addr × Str)

mutual
inductive Rep (g : G) (F : Hp) : V → D → Prop
  | non : Rep g F .non .non
  | bl (b : Bool) : Rep g F (.bl b) (.bl b)
  | int (i : Int) : Rep g F (.int i) (.int i)
  | str (x : Str) : Rep g F (.str x) (.str x)
  | tup {a : Addr} {xs : List V} {ds : List D} : SqT g.K F a xs → RepL g F xs ds → Rep g F (.ref a) (.tup ds)
  | lst {a : Addr} {xs : List V} {ds : List D} : F a = some (.lst xs) → RepL g F xs ds → Rep g F (.ref a) (.lst ds)
  | fn (n : Nat) : Rep g F (.ref (g.fa n)) (.fn n)
  | scr {a : Addr} {l : List Int} : SqL g.K F a (l.map V.int) → Rep g F (.ref a) (.scr l)
inductive RepL (g : G) (F : Hp) : List V → List D → Prop
  | nil : RepL g F [] []
  | cons {v : V} {vs : List V} {d : D} {ds : List D} : Rep g F v d → RepL g F vs ds → RepL g F (v :: vs) (d :: ds)
end

/-- part of -/
def Sub (F H : Hp) : Prop := ∀ a o, F a = some o → H a = some o
theorem Sub.refl (F : Hp) : Sub F F := fun _ _ h => h
theorem Sub.trans {F H J : Hp} (a : Sub F H) (b : Sub H J) : Sub F J := fun x o h => b x o (a x o h)
theorem Sub.out {F H : Hp} (s : Sub F H) {a : Addr} (h : H a = none) : F a = none := by
  cases e : F a with
  | none => rfl
  | some o => have z := s a o e; rw [h] at z; cases z
theorem Sub.put {F : Hp} {a : Addr} {o : HO} (h : F a = Option.none) : Sub F (L2.upd F a o) := fun b u e => by
  rw [upd_ne (ne_of_none e h)]; exact e
theorem Sub.rd {F H : Hp} (s : Sub F H) {a : Addr} {u : HO} (h : Rd F a u) : Rd H a u := by
  rcases h with h | ⟨o, h⟩
  · exact .inl (s _ _ h)
  · exact .inr ⟨o, s _ _ h⟩
theorem Sub.sqT {K : PySem.W.Frag} {F H : Hp} (s : Sub F H) {a : Addr} {xs : List V} (h : SqT K F a xs) : SqT K H a xs := by
  rcases h with h | h
  · exact .inl (s.rd h)
  · exact .inr h
theorem Sub.sqL {K : PySem.W.Frag} {F H : Hp} (s : Sub F H) {a : Addr} {xs : List V} (h : SqL K F a xs) : SqL K H a xs := by
  rcases h with h | h
  · exact .inl (s.rd h)
  · exact .inr h
mutual
theorem Rep.mono {g : G} {F H : Hp} (s : Sub F H) : ∀ {v : V} {d : D}, Rep g F v d → Rep g H v d
  | _, _, .non => .non
  | _, _, .bl b => .bl b
  | _, _, .int i => .int i
  | _, _, .str x => .str x
  | _, _, .tup h t => .tup (s.sqT h) (RepL.mono s t)
  | _, _, .lst h t => .lst (s _ _ h) (RepL.mono s t)
  | _, _, .fn n => .fn n
  | _, _, .scr h => .scr (s.sqL h)
theorem RepL.mono {g : G} {F H : Hp} (s : Sub F H) : ∀ {vs : List V} {ds : List D}, RepL g F vs ds → RepL g H vs ds
  | _, _, .nil => .nil
  | _, _, .cons h t => .cons (Rep.mono s h) (RepL.mono s t)
end
section
variable {g : G} {F : Hp}
theorem RepL.length : ∀ {vs : List V} {ds : List D}, RepL g F vs ds → vs.length = ds.length
  | _, _, .nil => rfl
  | _, _, .cons _ t => congrArg Nat.succ (RepL.length t)
theorem RepL.append : ∀ {vs ws : List V} {ds es : List D}, RepL g F vs ds → RepL g F ws es → RepL g F (vs ++ ws) (ds ++ es)
  | _, _, _, _, .nil, h => h
  | _, _, _, _, .cons a t, h => .cons a (RepL.append t h)
theorem RepL.get : ∀ {vs : List V} {ds : List D} (i : Nat) {d : D}, RepL g F vs ds → ds[i]? = some d → ∃ v, vs[i]? = some v ∧ Rep g F v d
  | _, _, _, _, .nil, h => by simp at h
  | _, _, 0, _, .cons a t, h => by
    simp at h; subst h; exact ⟨_, rfl, a⟩
  | _, _, i + 1, _, .cons a t, h => by
    obtain ⟨v, h1, h2⟩ := RepL.get i t (by simpa using h)
    exact ⟨v, by simpa using h1, h2⟩
theorem RepL.getV : ∀ {vs : List V} {ds : List D} (i : Nat) {v : V}, RepL g F vs ds → vs[i]? = some v → ∃ d, ds[i]? = some d ∧ Rep g F v d
  | _, _, _, _, .nil, h => by simp at h
  | _, _, 0, _, .cons a t, h => by
    simp at h; subst h; exact ⟨_, rfl, a⟩
  | _, _, i + 1, _, .cons a t, h => by
    obtain ⟨v, h1, h2⟩ := RepL.getV i t (by simpa using h)
    exact ⟨v, by simpa using h1, h2⟩
theorem RepL.set {v : V} {d : D} (r : Rep g F v d) : ∀ {vs : List V} {ds : List D} (i : Nat), RepL g F vs ds → RepL g F (vs.set i v) (ds.set i d)
  | _, _, _, .nil => .nil
  | _, _, 0, .cons _ t => .cons r t
  | _, _, i + 1, .cons a t => .cons a (RepL.set r i t)
theorem RepL.take : ∀ {vs : List V} {ds : List D} (n : Nat), RepL g F vs ds → RepL g F (vs.take n) (ds.take n)
  | _, _, 0, _ => .nil
  | _, _, _ + 1, .nil => .nil
  | _, _, n + 1, .cons a t => .cons a (RepL.take n t)
theorem RepL.drop : ∀ {vs : List V} {ds : List D} (n : Nat), RepL g F vs ds → RepL g F (vs.drop n) (ds.drop n)
  | _, _, 0, r => r
  | _, _, _ + 1, .nil => .nil
  | _, _, n + 1, .cons _ t => RepL.drop n t
theorem RepL.eraseIdx : ∀ {vs : List V} {ds : List D} (n : Nat), RepL g F vs ds → RepL g F (vs.eraseIdx n) (ds.eraseIdx n)
  | _, _, _, .nil => .nil
  | _, _, 0, .cons _ t => t
  | _, _, n + 1, .cons a t => .cons a (RepL.eraseIdx n t)
theorem RepL.reverse {vs : List V} {ds : List D} (h : RepL g F vs ds) : RepL g F vs.reverse ds.reverse := by
  induction h using RepL.rec (motive_1 := fun _ _ _ => True) with
  | nil => exact .nil
  | cons a t _ ih => rw [List.reverse_cons, List.reverse_cons]; exact ih.append (.cons a .nil)
  | _ => trivial
theorem RepL.ints : ∀ (ns : List Int), RepL g F (ns.map V.int) (ns.map D.int)
  | [] => .nil
  | n :: ns => .cons (.int n) (RepL.ints ns)
theorem RepL.ints_of : ∀ {vs : List V} {ns : List Int}, RepL g F vs (ns.map D.int) → vs = ns.map V.int
  | _, [], h => by cases h; rfl
  | _, n :: ns, h => by
    cases h with
    | cons a t => cases a; rw [RepL.ints_of t]; rfl
theorem RepL.bls_of : ∀ {vs : List V} {ns : List Bool}, RepL g F vs (ns.map D.bl) → vs = ns.map V.bl
  | _, [], h => by cases h; rfl
  | _, n :: ns, h => by
    cases h with
    | cons a t => cases a; rw [RepL.bls_of t]; rfl
end

/-! ### the heap later: the tables of code objects grow, all else stays -/
def Nt (o : HO) : Prop := ∀ ps, o ≠ .tbl ps
theorem nt_lst {xs : List V} : Nt (.lst xs) := fun _ z => by cases z
theorem nt_tup {xs : List V} : Nt (.tup xs) := fun _ z => by cases z
/-- nothing but a table may stand there -/
def Fre (H : Hp) (a : Addr) : Prop := ∀ o, Nt o → H a ≠ some o
theorem Fre.of {H : Hp} {a : Addr} (h : H a = none) : Fre H a := fun o _ e => by rw [h] at e; cases e
structure Hx (g : G) (H H' : Hp) : Prop where
  keep : ∀ a o, H a = some o → Nt o → H' a = some o
  tab : LamX.Tabs g.T H → LamX.Tabs g.T H'
section
variable {g : G}
theorem Hx.of {H H' : Hp} (s : Sub H H') : Hx g H H' := ⟨fun a o h _ => s a o h, fun t => t.ext s⟩
theorem Hx.refl (H : Hp) : Hx g H H := .of (.refl H)
theorem Hx.trans {H H' H'' : Hp} (a : Hx g H H') (b : Hx g H' H'') : Hx g H H'' := ⟨fun x o h n => b.keep x o (a.keep x o h n) n, fun t => b.tab (a.tab t)⟩
theorem Hx.out {H H' : Hp} (x : Hx g H H') {a : Addr} (h : Fre H' a) : Fre H a := fun o n e => h o n (x.keep _ _ e n)
theorem Hx.lst {H H' : Hp} (x : Hx g H H') {a : Addr} {xs : List V} (h : H a = some (.lst xs)) : H' a = some (.lst xs) := x.keep _ _ h nt_lst
theorem tabs_write {T : List (Addr × Str)} {H : Hp} {a : Addr} {xs ys : List V} (h : H a = some (.lst xs)) (t : LamX.Tabs T H) : LamX.Tabs T (upd H a (.lst ys)) := fun p hp => by
  obtain ⟨ps, h1, h2, h3⟩ := t p hp
  refine ⟨ps, by rw [upd_ne (fun z => by rw [z, h] at h1; cases h1)]; exact h1, h2, fun pos cv hc => ?_⟩
  obtain ⟨c, e1, e2⟩ := h3 pos cv hc
  refine ⟨c, e1, ?_⟩
  rw [upd_ne (fun z => by subst z; rw [h] at e2; unfold LamX.CodeO at e2; cases e2)]
  exact e2
theorem Hx.write {H0 H : Hp} (x : Hx g H0 H) {a : Addr} {xs ys : List V} (n : Fre H0 a) (h : H a = some (.lst xs)) : Hx g H0 (upd H a (.lst ys)) := by
  refine ⟨fun b o e k => ?_, fun t => tabs_write h (x.tab t)⟩
  rw [upd_ne (fun z => by subst z; exact n o k e)]
  exact x.keep _ _ e k
/-- no table is frozen -/
def NT (F : Hp) : Prop := ∀ a ps, F a ≠ some (.tbl ps)
/-- from F, H on: what was frozen stays, all that was tracked stays (but tables grow), what is newly frozen is new -/
structure Ext (g : G) (F H F' H' : Hp) : Prop where
  f : Sub F F'
  h : Hx g H H'
  fh : Sub F' H'
  new : ∀ a, F' a ≠ none → F a ≠ none ∨ Fre H a
  nf : NT F → NT F'
theorem Ext.refl {F H : Hp} (s : Sub F H) : Ext g F H F H := ⟨.refl F, .refl H, s, fun _ h => .inl h, id⟩
theorem Ext.trans {F H F' H' F'' H'' : Hp} (a : Ext g F H F' H') (b : Ext g F' H' F'' H'') : Ext g F H F'' H'' :=
  ⟨a.f.trans b.f, a.h.trans b.h, b.fh, fun x hx => by
    rcases b.new x hx with h | h
    · exact a.new x h
    · exact .inr (a.h.out h), fun n => b.nf (a.nf n)⟩
/-- a new object, frozen from the start -/
theorem Ext.alloc {F H : Hp} (s : Sub F H) {p : Addr} {o : HO} (hn : Nt o) (hp : H p = none) : Ext g F H (upd F p o) (upd H p o) :=
  ⟨.put (s.out hp), .of (.put hp), fun a u e => by
    by_cases h : a = p
    · subst h; rw [upd_same] at e ⊢; exact e
    · rw [upd_ne h] at e ⊢; exact s _ _ e, fun a h => by
    by_cases e : a = p
    · subst e; exact .inr (.of hp)
    · rw [upd_ne e] at h; exact .inl h, fun n a ps e => by
    by_cases h : a = p
    · subst h; rw [upd_same] at e; cases e; exact hn ps rfl
    · rw [upd_ne h] at e; exact n a ps e⟩
/-- a new object that stays to be written -/
theorem Ext.allocO {F H : Hp} (s : Sub F H) {p : Addr} {o : HO} (hp : H p = none) : Ext g F H F (upd H p o) :=
  ⟨.refl F, .of (.put hp), fun a u e => by
    have h : a ≠ p := fun z => by rw [z, s.out hp] at e; cases e
    rw [upd_ne h]; exact s _ _ e, fun a h => .inl h, id⟩
/-- .. is frozen -/
theorem Ext.freeze {F H F' H' : Hp} (x : Ext g F H F' H') {a : Addr} {o : HO} (hn : Nt o) (h1 : H' a = some o) (h2 : Fre H a) (h3 : F' a = none) : Ext g F H (upd F' a o) H' :=
  ⟨x.f.trans (.put h3), x.h, fun b u e => by
    by_cases z : b = a
    · subst z; rw [upd_same] at e; cases e; exact h1
    · rw [upd_ne z] at e; exact x.fh _ _ e, fun b hb => by
    by_cases z : b = a
    · subst z; exact .inr h2
    · rw [upd_ne z] at hb; exact x.new b hb, fun n b ps e => by
    by_cases z : b = a
    · subst z; rw [upd_same] at e; cases e; exact hn ps rfl
    · rw [upd_ne z] at e; exact x.nf n b ps e⟩
/-- a list of our own is written -/
theorem Ext.write {F H F' H' : Hp} (x : Ext g F H F' H') {a : Addr} {xs ys : List V} (h1 : H' a = some (.lst xs)) (h2 : Fre H a) (h3 : F' a = none) : Ext g F H F' (upd H' a (.lst ys)) :=
  ⟨x.f, x.h.write h2 h1, fun b u e => by
    rw [upd_ne (fun z => by subst z; rw [h3] at e; cases e)]
    exact x.fh _ _ e, x.new, x.nf⟩
/-- a tracked list outside the frozen part stays so -/
theorem Ext.own {F H F' H' : Hp} (x : Ext g F H F' H') {a : Addr} {xs : List V} (h1 : H a = some (.lst xs)) (h2 : F a = none) : H' a = some (.lst xs) ∧ F' a = none := by
  refine ⟨x.h.lst h1, ?_⟩
  cases q : F' a with
  | none => rfl
  | some o =>
    rcases x.new a (by rw [q]; simp) with z | z
    · exact absurd h2 z
    · exact absurd h1 (z _ nt_lst)

end
/-- at hand for reading: a list may still be in writing -/
def RepB (g : G) (F H : Hp) (v : V) : D → Prop
  | .lst ds => ∃ a xs, v = .ref a ∧ H a = some (.lst xs) ∧ RepL g F xs ds
  | d => Rep g F v d
theorem Rep.toB {g : G} {F H : Hp} (s : Sub F H) {v : V} {d : D} (r : Rep g F v d) : RepB g F H v d := by
  cases r with
  | lst h t => exact ⟨_, _, rfl, s _ _ h, t⟩
  | non => exact .non
  | bl b => exact .bl b
  | int i => exact .int i
  | str x => exact .str x
  | tup h t => exact .tup h t
  | fn n => exact .fn n
  | scr h => exact .scr h
theorem RepB.mono {g : G} {F H F' H' : Hp} (sf : Sub F F') (sh : Hx g H H') {v : V} {d : D} (r : RepB g F H v d) : RepB g F' H' v d := by
  cases d with
  | lst ds => obtain ⟨a, xs, e, h, t⟩ := r; exact ⟨a, xs, e, sh.lst h, t.mono sf⟩
  | _ => exact Rep.mono sf r
/-- a list just made, not frozen -/
def RepF (g : G) (F H F' H' : Hp) (v : V) (d : D) : Prop := ∃ a xs ds, v = .ref a ∧ d = .lst ds ∧ H' a = some (.lst xs) ∧ Fre H a ∧ F' a = none ∧ RepL g F' xs ds

/-! ### names -/
inductive Slot where
  | none | val (d : D) | own (l : List D)
  deriving Inhabited
abbrev Env := List Slot

structure RelE (g : G) (σ : St) (F H : Hp) (ρ : Env) : Prop where
  len : σ.length = ρ.length
  fh : Sub F H
  nt : NT F
  tb : LamX.Tabs g.T H
  val : ∀ (i : Nat) (d : D), ρ[i]? = some (.val d) → ∃ v, σ[i]? = some (some v) ∧ Rep g F v d
  own : ∀ (i : Nat) (l : List D), ρ[i]? = some (.own l) → ∃ a xs, σ[i]? = some (some (.ref a)) ∧ H a = some (.lst xs) ∧ F a = none ∧ RepL g F xs l
  dis : ∀ (i j : Nat) (l l' : List D) (a : Addr), ρ[i]? = some (.own l) → ρ[j]? = some (.own l') → σ[i]? = some (some (.ref a)) → σ[j]? = some (some (.ref a)) → i = j
theorem RelE.ext {g : G} {σ : St} {F H F' H' : Hp} {ρ : Env} (r : RelE g σ F H ρ) (x : Ext g F H F' H') : RelE g σ F' H' ρ where
  len := r.len
  fh := x.fh
  nt := x.nf r.nt
  tb := x.h.tab r.tb
  val := fun i d e => by
    obtain ⟨v, h1, h2⟩ := r.val i d e
    exact ⟨v, h1, h2.mono x.f⟩
  own := fun i l e => by
    obtain ⟨a, xs, h1, h2, h3, h4⟩ := r.own i l e
    obtain ⟨k1, k2⟩ := x.own h2 h3
    exact ⟨a, xs, h1, k1, k2, h4.mono x.f⟩
  dis := r.dis
/-- slots forgotten -/
theorem RelE.weak {g : G} {σ σ' : St} {F H : Hp} {ρ ρ' : Env} (r : RelE g σ F H ρ) (hl : σ'.length = ρ'.length) (h : ∀ (i : Nat) (s : Slot), ρ'[i]? = some s → s ≠ .none → ρ[i]? = some s ∧ σ'[i]? = σ[i]?) : RelE g σ' F H ρ' where
  len := hl
  fh := r.fh
  nt := r.nt
  tb := r.tb
  val := fun i d e => by
    obtain ⟨h1, h2⟩ := h i _ e (by simp)
    rw [h2]; exact r.val i d h1
  own := fun i l e => by
    obtain ⟨h1, h2⟩ := h i _ e (by simp)
    rw [h2]; exact r.own i l h1
  dis := fun i j l l' a e1 e2 s1 s2 => by
    obtain ⟨h1, h2⟩ := h i _ e1 (by simp)
    obtain ⟨h3, h4⟩ := h j _ e2 (by simp)
    exact r.dis i j l l' a h1 h3 (h2 ▸ s1) (h4 ▸ s2)
/-- a name gets frozen data -/
theorem RelE.setV {g : G} {σ : St} {F H : Hp} {ρ : Env} (r : RelE g σ F H ρ) {i : Nat} {v : V} {d : D} (h : Rep g F v d) : RelE g (σ.set i (some v)) F H (ρ.set i (.val d)) where
  len := by rw [List.length_set, List.length_set]; exact r.len
  fh := r.fh
  nt := r.nt
  tb := r.tb
  val := fun j d' e => by
    by_cases z : i = j
    · subst z
      have hi : i < ρ.length := by
        have := (List.getElem?_eq_some_iff.mp e).1; simpa using this
      rw [List.getElem?_set_self hi] at e
      cases e
      have hl := r.len
      exact ⟨v, List.getElem?_set_self (by omega), h⟩
    · rw [List.getElem?_set_ne z] at e ⊢
      exact r.val j d' e
  own := fun j l e => by
    by_cases z : i = j
    · subst z
      have hi : i < ρ.length := by
        have := (List.getElem?_eq_some_iff.mp e).1; simpa using this
      rw [List.getElem?_set_self hi] at e
      cases e
    · rw [List.getElem?_set_ne z] at e ⊢
      exact r.own j l e
  dis := fun j k l l' a e1 e2 s1 s2 => by
    have ne : ∀ {j l}, (ρ.set i (.val d))[j]? = some (.own l) → i ≠ j := fun {j l} e z => by
      subst z
      have hi : i < ρ.length := by
        have := (List.getElem?_eq_some_iff.mp e).1; simpa using this
      rw [List.getElem?_set_self hi] at e
      cases e
    have n1 := ne e1
    have n2 := ne e2
    rw [List.getElem?_set_ne n1] at e1 s1
    rw [List.getElem?_set_ne n2] at e2 s2
    exact r.dis j k l l' a e1 e2 s1 s2
/-- a name gets a list of its own -/
theorem RelE.setO {g : G} {σ : St} {F H : Hp} {ρ : Env} (r : RelE g σ F H ρ) {i : Nat} {a : Addr} {xs : List V} {l : List D} (h1 : H a = some (.lst xs)) (h2 : F a = none) (h3 : RepL g F xs l)
    (hn : ∀ (j : Nat) (l' : List D), j ≠ i → ρ[j]? = some (.own l') → σ[j]? ≠ some (some (.ref a))) : RelE g (σ.set i (some (.ref a))) F H (ρ.set i (.own l)) where
  len := by rw [List.length_set, List.length_set]; exact r.len
  fh := r.fh
  nt := r.nt
  tb := r.tb
  val := fun j d' e => by
    by_cases z : i = j
    · subst z
      have hi : i < ρ.length := by
        have := (List.getElem?_eq_some_iff.mp e).1; simpa using this
      rw [List.getElem?_set_self hi] at e
      cases e
    · rw [List.getElem?_set_ne z] at e ⊢
      exact r.val j d' e
  own := fun j l' e => by
    by_cases z : i = j
    · subst z
      have hi : i < ρ.length := by
        have := (List.getElem?_eq_some_iff.mp e).1; simpa using this
      rw [List.getElem?_set_self hi] at e
      cases e
      have hl := r.len
      exact ⟨a, xs, List.getElem?_set_self (by omega), h1, h2, h3⟩
    · rw [List.getElem?_set_ne z] at e ⊢
      exact r.own j l' e
  dis := fun j k l1 l2 b e1 e2 s1 s2 => by
    have back : ∀ {j l'}, i ≠ j → (ρ.set i (.own l))[j]? = some (.own l') → ρ[j]? = some (.own l') := fun {j l'} n e => by
      rw [List.getElem?_set_ne n] at e; exact e
    by_cases zj : i = j
    · by_cases zk : i = k
      · exact zj.symm.trans zk
      · subst zj
        have hi : i < σ.length := by
          have := (List.getElem?_eq_some_iff.mp s1).1; simpa using this
        rw [List.getElem?_set_self hi] at s1
        cases s1
        rw [List.getElem?_set_ne zk] at s2
        exact absurd s2 (hn k l2 (Ne.symm zk) (back zk e2))
    · by_cases zk : i = k
      · subst zk
        have hi : i < σ.length := by
          have := (List.getElem?_eq_some_iff.mp s2).1; simpa using this
        rw [List.getElem?_set_self hi] at s2
        cases s2
        rw [List.getElem?_set_ne zj] at s1
        exact absurd s1 (hn j l1 (Ne.symm zj) (back zj e1))
      · rw [List.getElem?_set_ne zj] at s1
        rw [List.getElem?_set_ne zk] at s2
        exact r.dis j k l1 l2 b (back zj e1) (back zk e2) s1 s2
end PL
/-! PLb: readings over plain data: expressions. -/
namespace PL
open PySem PySem.Spec L2

def ExR (g : G) (c : Nat) (d : D) (cls : Value) (dd : Option Addr) (F H : Hp) : Prop := cls = .ref (g.ca c) ∧ ∃ dx v, dd = some dx ∧ H dx = some (.xd [(g.cf c, v)]) ∧ Rep g F v d
def out {α : Type} (r : Res α) (k : α → Prop) (e : Nat → D → Prop) : Prop := match r with
  | .ok a => k a
  | .exc c d => e c d
  | .bad => False
theorem out_imp {α : Type} {r : Res α} {k k' : α → Prop} {e e' : Nat → D → Prop} (h : out r k e) (hk : ∀ a, r = .ok a → k a → k' a) (he : ∀ c d, r = .exc c d → e c d → e' c d) : out r k' e' := by
  cases r with
  | ok a => exact hk a rfl h
  | exc c d => exact he c d rfl h
  | bad => exact h
theorem out_bind {α β : Type} {r : Res α} {f : α → Res β} {k : β → Prop} {e : Nat → D → Prop} (h : out (r >>= f) k e) : out r (fun a => out (f a) k e) e := by
  cases r with
  | ok a => exact h
  | exc c d => exact h
  | bad => exact h
theorem of_bind {α β : Type} {r : Res α} {f : α → Res β} {k : β → Prop} {e : Nat → D → Prop} (h : out r (fun a => out (f a) k e) e) : out (r >>= f) k e := by
  cases r with
  | ok a => exact h
  | exc c d => exact h
  | bad => exact h

/-- how a result may stand: from F, H it came to F', H' -/
abbrev RP := Hp → Hp → Hp → Hp → V → D → Prop
def PV (g : G) : RP := fun _ _ F' _ v d => Rep g F' v d
def PB (g : G) : RP := fun _ _ F' H' v d => RepB g F' H' v d
def PF (g : G) : RP := fun F H F' H' v d => RepF g F H F' H' v d
/-- may be told from an earlier start -/
def RP.Early (P : RP) (g : G) : Prop := ∀ F H F1 H1 F' H' v d, Ext g F H F1 H1 → P F1 H1 F' H' v d → P F H F' H' v d
theorem PV.early (g : G) : (PV g).Early g := fun _ _ _ _ _ _ _ _ _ h => h
theorem PB.early (g : G) : (PB g).Early g := fun _ _ _ _ _ _ _ _ _ h => h
theorem PF.early (g : G) : (PF g).Early g := fun _ _ _ _ _ _ _ _ x ⟨a, xs, ds, e1, e2, h1, h2, h3, h4⟩ => ⟨a, xs, ds, e1, e2, h1, x.h.out h2, h3, h4⟩

abbrev StH := L2.St
/-- an expression's reading over data -/
def tP (g : G) (W : WX) (P : RP) (f : Env → Res D) : TE := fun σ H Q => ∃ F ρ, RelE g σ F H ρ ∧
  out (f ρ) (fun d => ∀ v F' H', Ext g F H F' H' → P F H F' H' v d → Q v H') (fun c d => ∀ cls dd F' H', Ext g F H F' H' → ExR g c d cls dd F' H' → W cls dd σ H')
abbrev tV (g : G) (W : WX) (f : Env → Res D) : TE := tP g W (PV g) f
abbrev tB (g : G) (W : WX) (f : Env → Res D) : TE := tP g W (PB g) f
abbrev tF (g : G) (W : WX) (f : Env → Res D) : TE := tP g W (PF g) f
/-- a test's -/
def tT (g : G) (W : WX) (f : Env → Res Bool) : TT := fun σ H Q => ∃ F ρ, RelE g σ F H ρ ∧
  out (f ρ) (fun b => ∀ F' H', Ext g F H F' H' → Q b H') (fun c d => ∀ cls dd F' H', Ext g F H F' H' → ExR g c d cls dd F' H' → W cls dd σ H')
/-- arguments' -/
def tA (g : G) (W : WX) (R : Hp → Hp → List V → List D → Prop) (f : Env → Res (List D)) : TA := fun σ H Q => ∃ F ρ, RelE g σ F H ρ ∧
  out (f ρ) (fun ds => ∀ vs F' H', Ext g F H F' H' → R F' H' vs ds → Q vs H') (fun c d => ∀ cls dd F' H', Ext g F H F' H' → ExR g c d cls dd F' H' → W cls dd σ H')

section
variable {X : Cx} {e : Expr} {t t' : TE}
theorem _root_.L2.PE.imp (h : PE X e t) (k : ∀ σ H Q, t' σ H Q → t σ H Q) : PE X e t' := ⟨fun pins s σ H Q I q => h.run pins s σ H Q I (k σ H Q q)⟩
theorem _root_.L2.PT.imp {t t' : TT} (h : PT X e t) (k : ∀ σ H Q, t' σ H Q → t σ H Q) : PT X e t' := ⟨fun pins s σ H Q I q => h.run pins s σ H Q I (k σ H Q q)⟩
theorem _root_.L2.PW.imp {t t' : TT} (h : PW X e t) (k : ∀ σ H Q, t' σ H Q → t σ H Q) : PW X e t' := ⟨fun wh pins s σ H Q I q => h.run wh pins s σ H Q I (k σ H Q q)⟩
theorem _root_.L2.PA.imp {es : List Expr} {t t' : TA} (h : PA X es t) (k : ∀ σ H Q, t' σ H Q → t σ H Q) : PA X es t' := ⟨fun pos pins s σ H Q I q => h.run pos pins s σ H Q I (k σ H Q q)⟩
end
section
variable {X : Cx} {g : G} {W : WX} {e a b : Expr} {f fa fb : Env → Res D} {pos : Pos}
/-- what is made may be frozen -/
theorem freeze (h : PE X e (tF g W f)) : PE X e (tV g W f) := h.imp fun σ H Q ⟨F, ρ, r, q⟩ => ⟨F, ρ, r, out_imp q (fun d _ k v F' H' x hp => by
  obtain ⟨l, xs, ds, rfl, rfl, h1, h2, h3, h4⟩ := hp
  exact k _ _ _ (x.freeze nt_lst h1 h2 h3) (.lst upd_same (h4.mono (.put h3)))) fun _ _ _ z => z⟩
theorem read (h : PE X e (tV g W f)) : PE X e (tB g W f) := h.imp fun σ H Q ⟨F, ρ, r, q⟩ => ⟨F, ρ, r, out_imp q (fun d _ k v F' H' x hp => k _ _ _ x (Rep.toB x.fh hp)) fun _ _ _ z => z⟩

/-! ### names, constants -/
def eVar (i : Nat) : Env → Res D := fun ρ => match ρ[i]? with
  | some (.val d) => .ok d
  | _ => .bad
def eBor (i : Nat) : Env → Res D := fun ρ => match ρ[i]? with
  | some (.val d) => .ok d
  | some (.own l) => .ok (.lst l)
  | _ => .bad
theorem de_var {i : Nat} {x : Str} (hN : X.N[i]? = some x) (hv : Vis X.env.scope x) (hd : (x == ("__debug__" : Str)) = false) (hcd : (x == ("__classdict__" : Str)) = false) : PE X (.Name x pos) (tV g W (eVar i)) :=
  (pe_var hN hv hd hcd).imp fun σ H Q ⟨F, ρ, r, q⟩ => by
    unfold eVar at q
    split at q
    · rename_i d e
      obtain ⟨v, h1, h2⟩ := r.val i d e
      exact ⟨v, h1, q v F H (.refl r.fh) h2⟩
    · exact q.elim
theorem de_bor {i : Nat} {x : Str} (hN : X.N[i]? = some x) (hv : Vis X.env.scope x) (hd : (x == ("__debug__" : Str)) = false) (hcd : (x == ("__classdict__" : Str)) = false) : PE X (.Name x pos) (tB g W (eBor i)) :=
  (pe_var hN hv hd hcd).imp fun σ H Q ⟨F, ρ, r, q⟩ => by
    unfold eBor at q
    split at q
    · rename_i d e
      obtain ⟨v, h1, h2⟩ := r.val i d e
      exact ⟨v, h1, q v F H (.refl r.fh) (h2.toB r.fh)⟩
    · rename_i l e
      obtain ⟨a, xs, h1, h2, h3, h4⟩ := r.own i l e
      exact ⟨.ref a, h1, q _ F H (.refl r.fh) ⟨a, xs, rfl, h2, h4⟩⟩
    · exact q.elim
theorem de_c {d : D} {v : V} (h : PE X e (tC v)) (r : ∀ F, Rep g F v d) : PE X e (tV g W fun _ => .ok d) :=
  h.imp fun σ H Q ⟨F, ρ, rr, q⟩ => q v F H (.refl rr.fh) (r F)

/-! ### two values -/
/-- an operation by values -/
def rD2 (g : G) (P : RP) (h : D → D → Res D) : R2 := fun x y H Q => ∃ F dx dy d, Sub F H ∧ RepB g F H x dx ∧ RepB g F H y dy ∧ h dx dy = .ok d ∧ ∀ v F' H', Ext g F H F' H' → P F H F' H' v d → Q v H'
/-- no exception comes of it -/
def Quiet {α β : Type} (h : α → β → Res D) : Prop := ∀ x y c d, h x y ≠ .exc c d
theorem tOp_of {P : RP} {h : D → D → Res D} (hP : P.Early g) (hq : Quiet h) {ta tb : TE} (ka : ∀ σ H Q, tB g W fa σ H Q → ta σ H Q) (kb : ∀ σ H Q, tB g W fb σ H Q → tb σ H Q) (σ : StH) (H : Hp) (Q : VK)
    (w : tP g W P (fun ρ => do let x ← fa ρ; let y ← fb ρ; h x y) σ H Q) : tOp (rD2 g P h) ta tb σ H Q := by
  obtain ⟨F, ρ, r, q⟩ := w
  refine ka _ _ _ ⟨F, ρ, r, out_imp (out_bind q) (fun dx _ q1 x F1 H1 x1 px => ?_) fun _ _ _ z => z⟩
  refine kb _ _ _ ⟨F1, ρ, r.ext x1, out_imp (out_bind q1) (fun dy _ q2 y F2 H2 x2 py => ?_) fun c d _ z cls dd F' H' xx => z cls dd F' H' (x1.trans xx)⟩
  cases e : h dx dy with
  | ok d =>
    rw [e] at q2
    exact ⟨F2, dx, dy, d, x2.fh, px.mono x2.f x2.h, py, e, fun v F' H' x3 pv => q2 v F' H' ((x1.trans x2).trans x3) (hP _ _ _ _ _ _ _ _ (x1.trans x2) pv)⟩
  | exc c d => exact absurd e (hq dx dy c d)
  | bad => rw [e] at q2; exact q2.elim
theorem de_bin {op : Operator} {P : RP} {h : D → D → Res D} (hP : P.Early g) (hq : Quiet h) (ho : OpR X (binaryOp op) (rD2 g P h)) (ha : PE X a (tB g W fa)) (hb : PE X b (tB g W fb)) :
    PE X (.BinOp a op b pos) (tP g W P fun ρ => do let x ← fa ρ; let y ← fb ρ; h x y) := (pe_op ho ha hb).imp (tOp_of hP hq (fun _ _ _ z => z) fun _ _ _ z => z)
theorem de_cmp {op : CmpOp} {h : D → D → Res D} (hq : Quiet h) (ho : OpR X (compareOp op) (rD2 g (PV g) h)) (ha : PE X a (tB g W fa)) (hb : PE X b (tB g W fb)) (hm : behindInMarks op b = false) :
    PE X (.Compare a [op] [b] pos) (tV g W fun ρ => do let x ← fa ρ; let y ← fb ρ; h x y) := (pe_cmpR ho ha hb hm).imp (tOp_of (PV.early g) hq (fun _ _ _ z => z) fun _ _ _ z => z)
/-- one value -/
def rD1 (g : G) (h : D → Res D) : V → Hp → VK → Prop := fun x H Q => ∃ F dx d, Sub F H ∧ RepB g F H x dx ∧ h dx = .ok d ∧ ∀ v F' H', Ext g F H F' H' → Rep g F' v d → Q v H'
theorem de_un {op : UnaryOp} {h : D → Res D} (hq : ∀ x c d, h x ≠ .exc c d) (ho : UnR X (unaryOp op) (rD1 g h)) (ha : PE X a (tB g W fa)) :
    PE X (.UnaryOp op a pos) (tV g W fun ρ => do let x ← fa ρ; h x) := (pe_un ho ha).imp fun σ H Q ⟨F, ρ, r, q⟩ => by
  refine ⟨F, ρ, r, out_imp (out_bind q) (fun dx _ q1 x F1 H1 x1 px => ?_) fun _ _ _ z => z⟩
  cases e : h dx with
  | ok d =>
    rw [e] at q1
    exact ⟨F1, dx, d, x1.fh, px, e, fun v F' H' x3 pv => q1 v F' H' (x1.trans x3) pv⟩
  | exc c d => exact absurd e (hq dx c d)
  | bad => rw [e] at q1; exact q1.elim

/-! ### tests -/
def truth : D → Res Bool
  | .non => .ok false
  | .bl b => .ok b
  | .int i => .ok (i != 0)
  | .str x => if x.length ≤ sizeLine then .ok ((x.length : Int) != 0) else .bad
  | .tup l => .ok (!l.isEmpty)
  | .lst l => .ok (!l.isEmpty)
  | _ => .bad
theorem truth_exc (x : D) (c : Nat) (d : D) : truth x ≠ .exc c d := fun e => by
  cases x <;> simp only [truth] at e <;> first | cases e | (split at e <;> cases e)
theorem isEmpty_len {α β : Type} {l : List α} {m : List β} (h : l.length = m.length) : l.isEmpty = m.isEmpty := by
  cases l <;> cases m <;> first | rfl | simp at h
theorem truth_ok {g : G} {F H : Hp} {v : V} {d : D} {b : Bool} (s : Sub F H) (r : RepB g F H v d) (e : truth d = .ok b) : TruV g.K v H b := by
  cases d with
  | non => cases r; cases e; rfl
  | bl k => cases r; cases e; rfl
  | int i => cases r; cases e; rfl
  | str x =>
    cases r
    simp only [truth] at e
    split at e
    · rename_i hz
      cases e; exact ⟨hz, rfl⟩
    · cases e
  | tup l =>
    cases r with
    | tup h t =>
      cases e
      exact .inr (.inl ⟨_, s.sqT h, by rw [isEmpty_len t.length]⟩)
  | lst l =>
    obtain ⟨a, xs, rfl, h, t⟩ := r
    cases e
    exact .inl ⟨_, .of h, by rw [isEmpty_len t.length]⟩
  | _ => cases e
theorem dt_truth (hg : X.K = g.K) (ha : PE X a (tB g W fa)) (he : ∀ whole, isTrue a X.env whole = (do let v ← whole; standAt a.pos; holding [v] (truthy v))) : PT X a (tT g W fun ρ => do let x ← fa ρ; truth x) :=
  (pt_truth ha he).imp fun σ H Q ⟨F, ρ, r, q⟩ => by
    refine ⟨F, ρ, r, out_imp (out_bind q) (fun dx _ q1 x F1 H1 x1 px => ?_) fun _ _ _ z => z⟩
    cases e : truth dx with
    | ok b =>
      rw [e] at q1
      exact ⟨b, by rw [hg]; exact truth_ok x1.fh px e, q1 F1 H1 x1⟩
    | exc c d => exact absurd e (truth_exc dx c d)
    | bad => rw [e] at q1; exact q1.elim
theorem dt_not {c : Expr} {fc : Env → Res Bool} (h : PT X c (tT g W fc)) : PT X (.UnaryOp .Not c pos) (tT g W fun ρ => do let b ← fc ρ; .ok !b) :=
  (pt_not h).imp fun σ H Q ⟨F, ρ, r, q⟩ => ⟨F, ρ, r, out_imp (out_bind q) (fun b _ q1 F' H' x => q1 F' H' x) fun _ _ _ z => z⟩
theorem dw_and1 {fc : Env → Res Bool} (h : PT X a (tT g W fc)) : PW X (.BoolOp .And [a] pos) (tT g W fc) := pw_and1 h
theorem dw_or1 {fc : Env → Res Bool} (h : PT X a (tT g W fc)) : PW X (.BoolOp .Or [a] pos) (tT g W fc) := pw_or1 h
theorem dw_and {rest : List Expr} {f1 f2 : Env → Res Bool} (ha : PT X a (tT g W f1)) (hb : PW X (.BoolOp .And (b :: rest) pos) (tT g W f2)) :
    PW X (.BoolOp .And (a :: b :: rest) pos) (tT g W fun ρ => do let c ← f1 ρ; if c = true then f2 ρ else .ok false) :=
  (pw_and ha hb).imp fun σ H Q ⟨F, ρ, r, q⟩ => by
    refine ⟨F, ρ, r, out_imp (out_bind q) (fun c _ q1 F' H' x => ?_) fun _ _ _ z => z⟩
    cases c with
    | true => exact ⟨F', ρ, r.ext x, out_imp q1 (fun b _ k F2 H2 x2 => k F2 H2 (x.trans x2)) fun c d _ z cls dd F2 H2 x2 => z cls dd F2 H2 (x.trans x2)⟩
    | false => exact q1 F' H' x
theorem dw_or {rest : List Expr} {f1 f2 : Env → Res Bool} (ha : PT X a (tT g W f1)) (hb : PW X (.BoolOp .Or (b :: rest) pos) (tT g W f2)) :
    PW X (.BoolOp .Or (a :: b :: rest) pos) (tT g W fun ρ => do let c ← f1 ρ; if c = true then .ok true else f2 ρ) :=
  (pw_or ha hb).imp fun σ H Q ⟨F, ρ, r, q⟩ => by
    refine ⟨F, ρ, r, out_imp (out_bind q) (fun c _ q1 F' H' x => ?_) fun _ _ _ z => z⟩
    cases c with
    | false => exact ⟨F', ρ, r.ext x, out_imp q1 (fun b _ k F2 H2 x2 => k F2 H2 (x.trans x2)) fun c d _ z cls dd F2 H2 x2 => z cls dd F2 H2 (x.trans x2)⟩
    | true => exact q1 F' H' x
/-- a if t else b -/
theorem de_if {c : Expr} {fc : Env → Res Bool} {P : RP} (hP : P.Early g) (hc : PT X c (tT g W fc)) (ha : PE X a (tP g W P fa)) (hb : PE X b (tP g W P fb)) : PE X (.IfExp c a b pos) (tP g W P fun ρ => do let c ← fc ρ; if c = true then fa ρ else fb ρ) :=
  (pe_ifExp hc ha hb).imp fun σ H Q ⟨F, ρ, r, q⟩ => by
    refine ⟨F, ρ, r, out_imp (out_bind q) (fun c _ q1 F' H' x => ?_) fun _ _ _ z => z⟩
    have step : ∀ {f : Env → Res D}, out (f ρ) (fun d => ∀ v F2 H2, Ext g F H F2 H2 → P F H F2 H2 v d → Q v H2) (fun c d => ∀ cls dd F2 H2, Ext g F H F2 H2 → ExR g c d cls dd F2 H2 → W cls dd σ H2) → tP g W P f σ H' Q := fun q2 =>
      ⟨F', ρ, r.ext x, out_imp q2 (fun d _ k v F2 H2 x2 p2 => k v F2 H2 (x.trans x2) (hP _ _ _ _ _ _ _ _ x p2)) fun c d _ z cls dd F2 H2 x2 => z cls dd F2 H2 (x.trans x2)⟩
    cases c with
    | true => exact step q1
    | false => exact step q1
end
end PL
/-! PLc: operators over plain data. -/
namespace PL
open PySem PySem.Spec L2

/-! ### data as the library's data -/
mutual
def py : D → Option PyData
  | .non => some .none
  | .bl b => some (.bool b)
  | .int i => some (.int i)
  | .str x => some (.str x)
  | .tup l => (pyL l).map .tuple
  | .lst l => (pyL l).map .list
  | .dct _ => none
  | .set _ => none
  | .fn _ => none
  | .scr _ => none
def pyL : List D → Option (List PyData)
  | [] => some []
  | d :: ds => match py d, pyL ds with
    | some p, some ps => some (p :: ps)
    | _, _ => none
end
theorem pyL_cons (d : D) (ds : List D) : pyL (d :: ds) = match py d, pyL ds with
    | some p, some ps => some (p :: ps)
    | _, _ => none := by rw [pyL]
section
variable {g : G} {F H : Hp}
mutual
theorem Rep.dp (s : Sub F H) : ∀ {d : D} {v : V} {p : PyData}, Rep g F v d → py d = some p → Dp g.K H v p
  | .non, _, _, r, e => by cases r; rw [py] at e; cases e; exact .non
  | .bl b, _, _, r, e => by cases r; rw [py] at e; cases e; exact .bl b
  | .int i, _, _, r, e => by cases r; rw [py] at e; cases e; exact .int i
  | .str x, _, _, r, e => by cases r; rw [py] at e; cases e; exact .str x
  | .tup l, _, _, r, e => by
    cases r with
    | tup h t =>
      rw [py] at e
      obtain ⟨ps, e1, rfl⟩ := Option.map_eq_some_iff.mp e
      exact .tup (s.sqT h) (RepL.dp s t e1)
  | .lst l, _, _, r, e => by
    cases r with
    | lst h t =>
      rw [py] at e
      obtain ⟨ps, e1, rfl⟩ := Option.map_eq_some_iff.mp e
      exact .lst (.of (s _ _ h)) (RepL.dp s t e1)
  | .dct _, _, _, _, e => by rw [py] at e; cases e
  | .set _, _, _, _, e => by rw [py] at e; cases e
  | .fn _, _, _, _, e => by rw [py] at e; cases e
  | .scr _, _, _, _, e => by rw [py] at e; cases e
theorem RepL.dp (s : Sub F H) : ∀ {ds : List D} {vs : List V} {ps : List PyData}, RepL g F vs ds → pyL ds = some ps → DpAll g.K H vs ps
  | [], _, _, r, e => by cases r; rw [pyL] at e; cases e; exact .nil
  | d :: ds, _, _, r, e => by
    cases r with
    | cons a t =>
      rw [pyL] at e
      split at e
      · rename_i p ps h1 h2
        cases e
        exact .cons (Rep.dp s a h1) (RepL.dp s t h2)
      · cases e
end
theorem RepB.dp (s : Sub F H) {d : D} {v : V} {p : PyData} (r : RepB g F H v d) (e : py d = some p) : Dp g.K H v p := by
  cases d with
  | lst l =>
    obtain ⟨a, xs, rfl, h, t⟩ := r
    rw [py] at e
    obtain ⟨ps, e1, rfl⟩ := Option.map_eq_some_iff.mp e
    exact .lst (.of h) (t.dp s e1)
  | _ => exact Rep.dp s r e
end

/-! ### + -/
def lenOk (n : Nat) : Bool := decide (n ≤ 16777216)
theorem lenOk_le {n : Nat} (h : lenOk n = true) : n ≤ sizeLine := by rw [sizeLine_eq]; exact of_decide_eq_true h
def addD : D → D → Res D
  | .int i, .int j => .ok (.int (i + j))
  | .int i, .bl b => .ok (.int (i + PyProof.Rows.b2i b))
  | .str x, .str y => if lenOk (x.length + y.length) = true then .ok (.str (x ++ y)) else .bad
  | .tup a, .tup b => if lenOk (a.length + b.length) = true then .ok (.tup (a ++ b)) else .bad
  | _, _ => .bad
theorem addD_q : Quiet addD := fun x y c d e => by
  unfold addD at e
  split at e <;> first | cases e | (split at e <;> cases e)
section
variable {X : Cx} {g : G}
/-- the value and heap are told as they are -/
theorem here {F H : Hp} {Q : VK} {d : D} {v : V} (s : Sub F H) (q : ∀ v F' H', Ext g F H F' H' → PV g F H F' H' v d → Q v H') (r : Rep g F v d) : Q v H := q v F H (.refl s) r
theorem op_addD (hg : X.K = g.K) : OpR X (binaryOp .Add) (rD2 g (PV g) addD) := by
  intro pins s σ H x y v u Q I rx ry h
  obtain ⟨F, dx, dy, d, fh, px, py', e, q⟩ := h
  unfold addD at e
  split at e
  · cases e; cases px; cases py'
    exact op_add pins s σ H _ _ v u Q I rx ry ⟨_, _, rfl, rfl, here fh q (.int _)⟩
  · cases e; cases px; cases py'
    exact op_add_ib pins s σ H _ _ v u Q I rx ry ⟨_, _, rfl, rfl, here fh q (.int _)⟩
  · split at e
    · rename_i hz
      cases e; cases px; cases py'
      exact op_add_str pins s σ H _ _ v u Q I rx ry ⟨_, _, rfl, rfl, lenOk_le hz, here fh q (.str _)⟩
    · cases e
  · split at e
    · rename_i a b hz
      cases e
      cases px with
      | tup h1 t1 =>
        cases py' with
        | tup h2 t2 =>
          have l1 := t1.length
          have l2 := t2.length
          refine op_catA pins s σ H _ _ v u Q I rx ry ⟨_, _, _, _, rfl, rfl, by rw [hg]; exact fh.sqT h1, by rw [hg]; exact fh.sqT h2, by rw [l1, l2]; exact lenOk_le hz, fun e1 => ?_, fun e1 e2 => ?_, fun _ _ p hp => ?_⟩
          · subst e1
            cases t1
            exact here fh q (.tup h2 t2)
          · subst e2
            cases t2
            exact here fh q (by rw [List.append_nil]; exact .tup h1 t1)
          · exact q _ _ _ (.alloc fh nt_tup hp) (.tup (.of upd_same) ((t1.append t2).mono (.put (fh.out hp))))
    · cases e
  · cases e
/-- lists -/
def catD : D → D → Res D
  | .lst a, .lst b => if lenOk (a.length + b.length) = true then .ok (.lst (a ++ b)) else .bad
  | _, _ => .bad
theorem catD_q : Quiet catD := fun x y c d e => by
  unfold catD at e
  split at e <;> first | cases e | (split at e <;> cases e)
/-- a list of ours is made: it is not frozen -/
theorem newL {F H : Hp} {Q : VK} {d : D} {xs : List V} {ds : List D} {p : Addr} (s : Sub F H) (q : ∀ v F' H', Ext g F H F' H' → PF g F H F' H' v d → Q v H') (hd : d = .lst ds) (hp : H p = none) (r : RepL g F xs ds) : Q (.ref p) (upd H p (.lst xs)) :=
  q _ F _ (.allocO s hp) ⟨p, xs, ds, rfl, hd, upd_same, .of hp, s.out hp, r⟩
theorem op_catD (hg : X.K = g.K) : OpR X (binaryOp .Add) (rD2 g (PF g) catD) := by
  intro pins s σ H x y v u Q I rx ry h
  obtain ⟨F, dx, dy, d, fh, px, py', e, q⟩ := h
  unfold catD at e
  split at e
  · split at e
    · rename_i a b hz
      cases e
      obtain ⟨l, xs, rfl, h1, t1⟩ := px
      obtain ⟨m, ys, rfl, h2, t2⟩ := py'
      have l1 := t1.length
      have l2 := t2.length
      have hz' := lenOk_le hz
      cases rx
      cases ry
      obtain ⟨z1, its, n, r1, w1, e1⟩ := I.lstM h1
      obtain ⟨z2, its2, n2, r2, w2, e2⟩ := I.lstM h2
      refine PySem.P.add_list e1 e2 ?_ (by rw [List.size_toArray, List.size_toArray]; omega)
      have ea : its.toArray ++ its2.toArray = (its ++ its2).toArray := by simp
      rw [ea]
      exact ⟨.ref _, _, I.lnew (t' := s.toks) (r1.append r2) (by rw [List.length_append]; omega), rfl, newL fh q rfl I.fresh (t1.append t2)⟩
    · cases e
  · cases e
/-! ### numbers -/
def subD : D → D → Res D
  | .int i, .int j => .ok (.int (i - j))
  | _, _ => .bad
theorem subD_q : Quiet subD := fun x y c d e => by
  unfold subD at e
  split at e <;> cases e
theorem op_subD : OpR X (binaryOp .Sub) (rD2 g (PV g) subD) := by
  intro pins s σ H x y v u Q I rx ry h
  obtain ⟨F, dx, dy, d, fh, px, py', e, q⟩ := h
  unfold subD at e
  split at e
  · cases e; cases px; cases py'
    exact op_sub pins s σ H _ _ v u Q I rx ry ⟨_, _, rfl, rfl, here fh q (.int _)⟩
  · cases e
def mulOk (i j : Int) : Bool := decide (-(2 ^ 64) < i ∧ i < 2 ^ 64) || (decide (-(2 ^ 64) < j ∧ j < 2 ^ 64) || decide (i.natAbs.log2 + j.natAbs.log2 < 1000000))
def mulD : D → D → Res D
  | .int i, .int j => if mulOk i j = true then .ok (.int (i * j)) else .bad
  | _, _ => .bad
theorem mulD_q : Quiet mulD := fun x y c d e => by
  unfold mulD at e
  split at e <;> first | cases e | (split at e <;> cases e)
theorem op_mulD : OpR X (binaryOp .Mult) (rD2 g (PV g) mulD) := by
  intro pins s σ H x y v u Q I rx ry h
  obtain ⟨F, dx, dy, d, fh, px, py', e, q⟩ := h
  unfold mulD at e
  split at e
  · split at e
    · rename_i hm
      cases e; cases px; cases py'
      unfold mulOk at hm
      rcases Bool.or_eq_true_iff.mp hm with h1 | h1
      · exact op_mul pins s σ H _ _ v u Q I rx ry ⟨_, _, rfl, rfl, .inl (of_decide_eq_true h1), here fh q (.int _)⟩
      · rcases Bool.or_eq_true_iff.mp h1 with h1 | h1
        · exact op_mul pins s σ H _ _ v u Q I rx ry ⟨_, _, rfl, rfl, .inr (of_decide_eq_true h1), here fh q (.int _)⟩
        · exact op_mulW pins s σ H _ _ v u Q I rx ry ⟨_, _, rfl, rfl, (of_decide_eq_true h1 : _ < _), here fh q (.int _)⟩
    · cases e
  · cases e
/-- a list times a number -/
def repD : D → D → Res D
  | .lst a, .int k => if (decide (-(2 ^ 63) ≤ k ∧ k < 2 ^ 63) && lenOk (a.length * k.toNat)) = true then .ok (.lst (List.replicate k.toNat a).flatten) else .bad
  | _, _ => .bad
theorem repD_q : Quiet repD := fun x y c d e => by
  unfold repD at e
  split at e <;> first | cases e | (split at e <;> cases e)
theorem _root_.PL.RepL.rep {F : Hp} {vs : List V} {ds : List D} (h : RepL g F vs ds) : ∀ n : Nat, RepL g F (List.replicate n vs).flatten (List.replicate n ds).flatten
  | 0 => .nil
  | n + 1 => by rw [List.replicate_succ, List.replicate_succ, List.flatten_cons, List.flatten_cons]; exact h.append (RepL.rep h n)
theorem op_repD : OpR X (binaryOp .Mult) (rD2 g (PF g) repD) := by
  intro pins s σ H x y v u Q I rx ry h
  obtain ⟨F, dx, dy, d, fh, px, py', e, q⟩ := h
  unfold repD at e
  split at e
  · split at e
    · rename_i hm
      cases e; cases py'
      obtain ⟨l, xs, rfl, h1, t1⟩ := px
      obtain ⟨m1, m2⟩ := Bool.and_eq_true_iff.mp hm
      have m1 := of_decide_eq_true m1
      have m2 := lenOk_le m2
      rw [← t1.length] at m2
      exact op_rep pins s σ H _ _ v u Q I rx ry ⟨_, _, _, rfl, rfl, h1, m1.1, m1.2, m2, fun p hp => newL fh q rfl hp (t1.rep _)⟩
    · cases e
  · cases e
def fdivD : D → D → Res D
  | .int i, .int j => if (decide (0 < j) && decide (j.natAbs.log2 < 9000)) = true then .ok (.int (i / j)) else .bad
  | _, _ => .bad
theorem fdivD_q : Quiet fdivD := fun x y c d e => by
  unfold fdivD at e
  split at e <;> first | cases e | (split at e <;> cases e)
theorem op_fdivD : OpR X (binaryOp .FloorDiv) (rD2 g (PV g) fdivD) := by
  intro pins s σ H x y v u Q I rx ry h
  obtain ⟨F, dx, dy, d, fh, px, py', e, q⟩ := h
  unfold fdivD at e
  split at e
  · split at e
    · rename_i hm
      cases e; cases px; cases py'
      obtain ⟨m1, m2⟩ := Bool.and_eq_true_iff.mp hm
      exact op_fdivW pins s σ H _ _ v u Q I rx ry ⟨_, _, rfl, rfl, ⟨of_decide_eq_true m1, of_decide_eq_true m2⟩, here fh q (.int _)⟩
    · cases e
  · cases e
def modD : D → D → Res D
  | .int i, .int j => if 0 < j then .ok (.int (i % j)) else .bad
  | _, _ => .bad
theorem modD_q : Quiet modD := fun x y c d e => by
  unfold modD at e
  split at e <;> first | cases e | (split at e <;> cases e)
theorem op_modD : OpR X (binaryOp .Mod) (rD2 g (PV g) modD) := by
  intro pins s σ H x y v u Q I rx ry h
  obtain ⟨F, dx, dy, d, fh, px, py', e, q⟩ := h
  unfold modD at e
  split at e
  · split at e
    · rename_i hm
      cases e; cases px; cases py'
      exact op_mod pins s σ H _ _ v u Q I rx ry ⟨_, _, rfl, rfl, hm, here fh q (.int _)⟩
    · cases e
  · cases e
def powD : D → D → Res D
  | .int i, .int j => if (decide (0 ≤ j) && (decide (j ≤ 1000000) && decide (i.natAbs < 2 ^ 64))) = true then .ok (.int (i ^ j.toNat)) else .bad
  | _, _ => .bad
theorem powD_q : Quiet powD := fun x y c d e => by
  unfold powD at e
  split at e <;> first | cases e | (split at e <;> cases e)
theorem op_powD : OpR X (binaryOp .Pow) (rD2 g (PV g) powD) := by
  intro pins s σ H x y v u Q I rx ry h
  obtain ⟨F, dx, dy, d, fh, px, py', e, q⟩ := h
  unfold powD at e
  split at e
  · split at e
    · rename_i hm
      cases e; cases px; cases py'
      obtain ⟨m1, m2⟩ := Bool.and_eq_true_iff.mp hm
      obtain ⟨m2, m3⟩ := Bool.and_eq_true_iff.mp m2
      exact op_pow pins s σ H _ _ v u Q I rx ry ⟨_, _, rfl, rfl, ⟨of_decide_eq_true m1, of_decide_eq_true m2, of_decide_eq_true m3⟩, here fh q (.int _)⟩
    · cases e
  · cases e
def negD : D → Res D
  | .int i => .ok (.int (-i))
  | _ => .bad
theorem op_negD : UnR X (unaryOp .USub) (rD1 g negD) := by
  intro pins s σ H x v Q I rx h
  obtain ⟨F, dx, d, fh, px, e, q⟩ := h
  unfold negD at e
  split at e
  · cases e; cases px
    exact un_neg pins s σ H _ v Q I rx ⟨_, rfl, here fh q (.int _)⟩
  · cases e

/-! ### == and the others -/
def shp (d : D) : Option PyData := match py d with
  | some p => if SeqAt.shaped p = true then some p else none
  | none => none
theorem shp_some {d : D} {p : PyData} (h : shp d = some p) : py d = some p ∧ SeqAt.shaped p = true := by
  unfold shp at h
  split at h
  · rename_i q e
    split at h
    · cases h; exact ⟨e, by assumption⟩
    · cases h
  · cases h
def eqB (a b : D) : Option Bool := match shp a, shp b with
  | some p, some q => some (PyData.eqv p q)
  | _, _ => none
def eqD (neg : Bool) (a b : D) : Res D := match eqB a b with
  | some k => .ok (.bl (if neg = true then !k else k))
  | none => .bad
theorem eqD_q (neg : Bool) : Quiet (eqD neg) := fun x y c d e => by
  unfold eqD at e
  split at e <;> cases e
theorem op_eqDD (hg : X.K = g.K) (hu : X.A.units + 64 < cLine) : OpR X (compareOp .Eq) (rD2 g (PV g) (eqD false)) := by
  intro pins s σ H x y v u Q I rx ry h
  obtain ⟨F, dx, dy, d, fh, px, py', e, q⟩ := h
  unfold eqD eqB at e
  split at e
  · rename_i k ek
    split at ek
    · rename_i p q1 e1 e2
      cases ek; cases e
      obtain ⟨a1, a2⟩ := shp_some e1
      obtain ⟨b1, b2⟩ := shp_some e2
      exact op_eqD hu pins s σ H _ _ v u Q I rx ry ⟨p, q1, by rw [hg]; exact px.dp fh a1, by rw [hg]; exact py'.dp fh b1, a2, b2, here fh q (.bl _)⟩
    · cases ek
  · cases e
theorem op_neDD (hg : X.K = g.K) (hu : X.A.units + 64 < cLine) : OpR X (compareOp .NotEq) (rD2 g (PV g) (eqD true)) := by
  intro pins s σ H x y v u Q I rx ry h
  obtain ⟨F, dx, dy, d, fh, px, py', e, q⟩ := h
  unfold eqD eqB at e
  split at e
  · rename_i k ek
    split at ek
    · rename_i p q1 e1 e2
      cases ek; cases e
      obtain ⟨a1, a2⟩ := shp_some e1
      obtain ⟨b1, b2⟩ := shp_some e2
      exact op_neD hu pins s σ H _ _ v u Q I rx ry ⟨p, q1, by rw [hg]; exact px.dp fh a1, by rw [hg]; exact py'.dp fh b1, a2, b2, here fh q (.bl _)⟩
    · cases ek
  · cases e
/-- order: of whole numbers, of texts, of alike data -/
inductive Or4 | lt | le | gt | ge
def Or4.op : Or4 → CmpOp
  | .lt => .Lt | .le => .LtE | .gt => .Gt | .ge => .GtE
def Or4.ints : Or4 → Int → Int → Bool
  | .lt, i, j => decide (i < j) | .le, i, j => decide (i ≤ j) | .gt, i, j => decide (j < i) | .ge, i, j => decide (j ≤ i)
def Or4.data : Or4 → PyData → PyData → Bool
  | .lt, p, q => PySem.W.dataLt p q | .le, p, q => !PySem.W.dataLt q p | .gt, p, q => PySem.W.dataLt q p | .ge, p, q => !PySem.W.dataLt p q
def isNoneD : PyData → Bool
  | .none => true
  | _ => false
def ordD (o : Or4) : D → D → Res D
  | .int i, .int j => .ok (.bl (o.ints i j))
  | a, b => match shp a, shp b with
    | some p, some q => if (PySem.W.alike p q && !isNoneD p) = true then .ok (.bl (o.data p q)) else .bad
    | _, _ => .bad
theorem ordD_q (o : Or4) : Quiet (ordD o) := fun x y c d e => by
  unfold ordD at e
  split at e
  · cases e
  · split at e
    · split at e <;> cases e
    · cases e
theorem op_ordD (o : Or4) (hg : X.K = g.K) (hu : X.A.units + 64 < cLine) : OpR X (compareOp o.op) (rD2 g (PV g) (ordD o)) := by
  intro pins s σ H x y v u Q I rx ry h
  obtain ⟨F, dx, dy, d, fh, px, py', e, q⟩ := h
  unfold ordD at e
  split at e
  · cases e; cases px; cases py'
    cases o with
    | lt => exact op_lt pins s σ H _ _ v u Q I rx ry ⟨_, _, rfl, rfl, here fh q (.bl _)⟩
    | le => exact op_le pins s σ H _ _ v u Q I rx ry ⟨_, _, rfl, rfl, here fh q (.bl _)⟩
    | gt => exact op_gt pins s σ H _ _ v u Q I rx ry ⟨_, _, rfl, rfl, here fh q (.bl _)⟩
    | ge => exact op_ge pins s σ H _ _ v u Q I rx ry ⟨_, _, rfl, rfl, here fh q (.bl _)⟩
  · split at e
    · rename_i p q1 e1 e2
      split at e
      · rename_i ha
        cases e
        obtain ⟨a1, a2⟩ := shp_some e1
        obtain ⟨b1, b2⟩ := shp_some e2
        obtain ⟨h1, h2⟩ := Bool.and_eq_true_iff.mp ha
        have hn : p ≠ .none := fun z => by subst z; cases h2
        obtain ⟨as, r1⟩ := Dp.reads I p x v (by rw [hg]; exact px.dp fh a1) rx
        obtain ⟨bs, r2⟩ := Dp.reads I q1 y u (by rw [hg]; exact py'.dp fh b1) ry
        have room := SeqAt.room_of_shaped (A := X.A) (db := q1) a2 hu
        have fin : ∀ k, Q (.bl k) H → EP X pins σ Q (.bool k) s := fun k q => ⟨.bl k, H, I, rfl, q⟩
        cases o with
        | lt => exact PySem.W.lt_data r1 r2 h1 hn room (fin _ (here fh q (.bl _)))
        | le => exact PySem.W.le_data r1 r2 h1 hn room (fin _ (here fh q (.bl _)))
        | gt => exact PySem.W.gt_data r1 r2 h1 hn room (fin _ (here fh q (.bl _)))
        | ge => exact PySem.W.ge_data r1 r2 h1 hn room (fin _ (here fh q (.bl _)))
      · cases e
    · cases e
/-- is, is not: None, True, False on the right -/
def isNon : D → Bool
  | .non => true
  | _ => false
def isD (neg : Bool) : D → D → Res D
  | x, .non => .ok (.bl (if neg = true then !isNon x else isNon x))
  | .bl a, .bl b => .ok (.bl (if neg = true then !(decide (a = b)) else decide (a = b)))
  | _, _ => .bad
theorem isD_q (neg : Bool) : Quiet (isD neg) := fun x y c d e => by
  unfold isD at e
  split at e <;> cases e
theorem repB_non {F H : Hp} {x : V} {d : D} (r : RepB g F H x d) : decide (x = V.non) = isNon d := by
  cases d with
  | lst l => obtain ⟨a, xs, rfl, _⟩ := r; rfl
  | _ => cases r <;> rfl
theorem op_isD : OpR X (compareOp .Is) (rD2 g (PV g) (isD false)) := by
  intro pins s σ H x y v u Q I rx ry h
  obtain ⟨F, dx, dy, d, fh, px, py', e, q⟩ := h
  unfold isD at e
  split at e
  · cases e; cases py'
    refine op_isN pins s σ H _ _ v u Q I rx ry ⟨rfl, ?_⟩
    rw [repB_non px]
    exact here fh q (.bl _)
  · cases e; cases px; cases py'
    exact op_is_bl pins s σ H _ _ v u Q I rx ry ⟨_, _, rfl, rfl, here fh q (.bl _)⟩
  · cases e
theorem op_isnotD : OpR X (compareOp .IsNot) (rD2 g (PV g) (isD true)) := by
  intro pins s σ H x y v u Q I rx ry h
  obtain ⟨F, dx, dy, d, fh, px, py', e, q⟩ := h
  unfold isD at e
  split at e
  · cases e; cases py'
    refine op_notN pins s σ H _ _ v u Q I rx ry ⟨rfl, ?_⟩
    rw [repB_non px]
    exact here fh q (.bl _)
  · cases e; cases px; cases py'
    exact op_isnot_bl pins s σ H _ _ v u Q I rx ry ⟨_, _, rfl, rfl, here fh q (.bl _)⟩
  · cases e
end
end PL
/-! PLd: chains, and / or, displays, subscripts, slices, built-in functions over plain data. -/
namespace PL
open PySem PySem.Spec L2

section
variable {X : Cx} {g : G} {W : WX} {e a b c : Expr} {f fa fb fc : Env → Res D} {pos : Pos}
theorem pv_bl {F : Hp} {v : V} {k : Bool} (r : Rep g F v (.bl k)) : v = .bl k := by cases r; rfl
/-- results are truth values -/
def Bools (h : D → D → Res D) : Prop := ∀ x y d, h x y = .ok d → ∃ k, d = .bl k
theorem eqD_b (neg : Bool) : Bools (eqD neg) := fun x y d e => by
  unfold eqD at e
  split at e
  · cases e; exact ⟨_, rfl⟩
  · cases e
theorem ordD_b (o : Or4) : Bools (ordD o) := fun x y d e => by
  unfold ordD at e
  split at e
  · cases e; exact ⟨_, rfl⟩
  · split at e
    · split at e
      · cases e; exact ⟨_, rfl⟩
      · cases e
    · cases e
theorem isD_b (neg : Bool) : Bools (isD neg) := fun x y d e => by
  unfold isD at e
  split at e <;> cases e <;> exact ⟨_, rfl⟩
/-- a test by its value -/
theorem test_of {t : TE} (h : PT X e (tTest t)) (k : ∀ σ H Q, tV g W f σ H Q → t σ H Q) (hb : ∀ ρ d, f ρ = .ok d → ∃ k, d = .bl k) : PT X e (tT g W fun ρ => do let d ← f ρ; truth d) :=
  h.imp fun σ H Q ⟨F, ρ, r, q⟩ => k σ H _ ⟨F, ρ, r, out_imp (out_bind q) (fun d hd q1 v F' H' x pv => by
    obtain ⟨k, rfl⟩ := hb ρ d hd
    obtain rfl := pv_bl pv
    exact ⟨k, rfl, q1 F' H' x⟩) fun _ _ _ z => z⟩
theorem dt_cmp {op : CmpOp} {h : D → D → Res D} (hq : Quiet h) (hb : Bools h) (ho : OpR X (compareOp op) (rD2 g (PV g) h)) (ha : PE X a (tB g W fa)) (hb' : PE X b (tB g W fb)) (hm : behindInMarks op b = false) :
    PT X (.Compare a [op] [b] pos) (tT g W fun ρ => do let d ← (do let x ← fa ρ; let y ← fb ρ; h x y); truth d) :=
  test_of (pt_cmpR ho ha hb' hm) (fun σ H Q w => tOp_of (PV.early g) hq (fun _ _ _ z => z) (fun _ _ _ z => z) σ H Q w) fun ρ d e => by
    cases e1 : fa ρ with
    | ok x =>
      rw [e1] at e
      cases e2 : fb ρ with
      | ok y => rw [e2] at e; exact hb x y d e
      | _ => rw [e2] at e; cases e
    | _ => rw [e1] at e; cases e
/-- a op b op c -/
def chainD (h h' : D → D → Res D) (fa fb fc : Env → Res D) : Env → Res D := fun ρ => do
  let x ← fa ρ
  let y ← fb ρ
  let d ← h x y
  let k ← truth d
  if k = true then (do let z ← fc ρ; h' y z) else .ok (.bl false)
theorem chain_of {h h' : D → D → Res D} (hq : Quiet h) (hb : Bools h) (hq' : Quiet h') (σ : StH) (H : Hp) (Q : VK) (w : tV g W (chainD h h' fa fb fc) σ H Q) :
    tChain (rD2 g (PV g) h) (rD2 g (PV g) h') (tB g W fa) (tB g W fb) (tB g W fc) σ H Q := by
  obtain ⟨F, ρ, r, q⟩ := w
  refine ⟨F, ρ, r, out_imp (out_bind q) (fun dx _ q1 x F1 H1 x1 px => ?_) fun _ _ _ z => z⟩
  refine ⟨F1, ρ, r.ext x1, out_imp (out_bind q1) (fun dy _ q2 y F2 H2 x2 py => ?_) fun c d _ z cls dd F' H' xx => z cls dd F' H' (x1.trans xx)⟩
  have q2 := out_bind q2
  cases e : h dx dy with
  | ok d =>
    rw [e] at q2
    obtain ⟨k, rfl⟩ := hb _ _ _ e
    refine ⟨F2, dx, dy, _, x2.fh, px.mono x2.f x2.h, py, e, fun v F3 H3 x3 pv => ?_⟩
    obtain rfl := pv_bl pv
    refine ⟨k, rfl, ?_⟩
    have x13 := (x1.trans x2).trans x3
    have q3 : out (if k = true then (do let z ← fc ρ; h' dy z) else .ok (.bl false)) (fun d => ∀ v F' H', Ext g F H F' H' → PV g F H F' H' v d → Q v H') (fun c d => ∀ cls dd F' H', Ext g F H F' H' → ExR g c d cls dd F' H' → W cls dd σ H') := q2
    cases k with
    | false => exact q3 _ _ _ x13 (.bl false)
    | true =>
      have q3 := out_bind (show out (do let z ← fc ρ; h' dy z) _ _ from q3)
      refine ⟨F3, ρ, r.ext x13, out_imp q3 (fun dz _ q4 z F4 H4 x4 pz => ?_) fun c d _ z cls dd F' H' xx => z cls dd F' H' (x13.trans xx)⟩
      cases e4 : h' dy dz with
      | ok d4 =>
        rw [e4] at q4
        exact ⟨F4, dy, dz, d4, x4.fh, py.mono (x3.f.trans x4.f) (x3.h.trans x4.h), pz, e4, fun v F5 H5 x5 p5 => q4 v F5 H5 ((x13.trans x4).trans x5) p5⟩
      | exc c d => exact absurd e4 (hq' dy dz c d)
      | bad => rw [e4] at q4; exact q4.elim
  | exc c d => exact absurd e (hq dx dy c d)
  | bad => rw [e] at q2; exact q2.elim
theorem chain_b {h h' : D → D → Res D} (hb' : Bools h') (ρ : Env) (d : D) (e : chainD h h' fa fb fc ρ = .ok d) : ∃ k, d = .bl k := by
  unfold chainD at e
  cases e1 : fa ρ with
  | ok x =>
    cases e2 : fb ρ with
    | ok y =>
      cases e3 : h x y with
      | ok d3 =>
        cases e4 : truth d3 with
        | ok k =>
          rw [e1, e2] at e
          simp only [Res.bind_ok, e3, e4] at e
          cases k with
          | false => cases e; exact ⟨_, rfl⟩
          | true =>
            cases e5 : fc ρ with
            | ok z => simp only [if_true, e5, Res.bind_ok] at e; exact hb' y z d e
            | _ => simp only [if_true, e5] at e; cases e
        | _ => rw [e1, e2] at e; simp only [Res.bind_ok, e3, e4] at e; cases e
      | _ => rw [e1, e2] at e; simp only [Res.bind_ok, e3] at e; cases e
    | _ => rw [e1, e2] at e; cases e
  | _ => rw [e1] at e; cases e
theorem de_chain {op op' : CmpOp} {h h' : D → D → Res D} (hq : Quiet h) (hb : Bools h) (hq' : Quiet h') (ho : OpR X (compareOp op) (rD2 g (PV g) h)) (ho' : OpR X (compareOp op') (rD2 g (PV g) h'))
    (ha : PE X a (tB g W fa)) (hb' : PE X b (tB g W fb)) (hc : PE X c (tB g W fc)) (hm : lastMarks [op, op'] [b, c] = false) : PE X (.Compare a [op, op'] [b, c] pos) (tV g W (chainD h h' fa fb fc)) :=
  (pe_chain ho ho' ha hb' hc hm).imp fun σ H Q w => chain_of hq hb hq' σ H Q w
theorem dt_chain {op op' : CmpOp} {h h' : D → D → Res D} (hq : Quiet h) (hb : Bools h) (hq' : Quiet h') (hb2 : Bools h') (ho : OpR X (compareOp op) (rD2 g (PV g) h)) (ho' : OpR X (compareOp op') (rD2 g (PV g) h'))
    (ha : PE X a (tB g W fa)) (hb' : PE X b (tB g W fb)) (hc : PE X c (tB g W fc)) (hm : lastMarks [op, op'] [b, c] = false) : PT X (.Compare a [op, op'] [b, c] pos) (tT g W fun ρ => do let d ← chainD h h' fa fb fc ρ; truth d) :=
  test_of (pt_chain ho ho' ha hb' hc hm) (fun σ H Q w => chain_of hq hb hq' σ H Q w) fun ρ d e => chain_b hb2 ρ d e

/-! ### and, or, not as values -/
theorem de_and {rest : List Expr} (hg : X.K = g.K) (ha : PE X a (tV g W fa)) (hb : PE X (.BoolOp .And (b :: rest) pos) (tV g W fb)) :
    PE X (.BoolOp .And (a :: b :: rest) pos) (tV g W fun ρ => do let x ← fa ρ; let k ← truth x; if k = true then fb ρ else .ok x) :=
  (pe_andT ha hb).imp fun σ H Q ⟨F, ρ, r, q⟩ => by
    refine ⟨F, ρ, r, out_imp (out_bind q) (fun dx _ q1 x F1 H1 x1 px => ?_) fun _ _ _ z => z⟩
    cases e : truth dx with
    | ok k =>
      rw [e] at q1
      refine ⟨k, by rw [hg]; exact truth_ok x1.fh (Rep.toB x1.fh px) e, ?_⟩
      cases k with
      | true => exact ⟨F1, ρ, r.ext x1, out_imp q1 (fun d _ k v F2 H2 x2 p2 => k v F2 H2 (x1.trans x2) p2) fun c d _ z cls dd F' H' xx => z cls dd F' H' (x1.trans xx)⟩
      | false => exact q1 x F1 H1 x1 px
    | exc c d => exact absurd e (truth_exc dx c d)
    | bad => rw [e] at q1; exact q1.elim
theorem de_or {rest : List Expr} (hg : X.K = g.K) (ha : PE X a (tV g W fa)) (hb : PE X (.BoolOp .Or (b :: rest) pos) (tV g W fb)) :
    PE X (.BoolOp .Or (a :: b :: rest) pos) (tV g W fun ρ => do let x ← fa ρ; let k ← truth x; if k = true then .ok x else fb ρ) :=
  (pe_orT ha hb).imp fun σ H Q ⟨F, ρ, r, q⟩ => by
    refine ⟨F, ρ, r, out_imp (out_bind q) (fun dx _ q1 x F1 H1 x1 px => ?_) fun _ _ _ z => z⟩
    cases e : truth dx with
    | ok k =>
      rw [e] at q1
      refine ⟨k, by rw [hg]; exact truth_ok x1.fh (Rep.toB x1.fh px) e, ?_⟩
      cases k with
      | false => exact ⟨F1, ρ, r.ext x1, out_imp q1 (fun d _ k v F2 H2 x2 p2 => k v F2 H2 (x1.trans x2) p2) fun c d _ z cls dd F' H' xx => z cls dd F' H' (x1.trans xx)⟩
      | true => exact q1 x F1 H1 x1 px
    | exc c d => exact absurd e (truth_exc dx c d)
    | bad => rw [e] at q1; exact q1.elim
theorem de_one {op} (h : PE X a (tV g W fa)) : PE X (.BoolOp op [a] pos) (tV g W fa) := pe_one h
theorem de_not (hg : X.K = g.K) (ha : PE X a (tB g W fa)) : PE X (.UnaryOp .Not a pos) (tV g W fun ρ => do let x ← fa ρ; let k ← truth x; .ok (.bl !k)) :=
  (pe_notT ha).imp fun σ H Q ⟨F, ρ, r, q⟩ => by
    refine ⟨F, ρ, r, out_imp (out_bind q) (fun dx _ q1 x F1 H1 x1 px => ?_) fun _ _ _ z => z⟩
    cases e : truth dx with
    | ok k =>
      rw [e] at q1
      exact ⟨k, by rw [hg]; exact truth_ok x1.fh px e, q1 _ F1 H1 x1 (.bl _)⟩
    | exc c d => exact absurd e (truth_exc dx c d)
    | bad => rw [e] at q1; exact q1.elim
end

/-! ### rows of arguments -/
inductive RepBL (g : G) (F H : Hp) : List V → List D → Prop
  | nil : RepBL g F H [] []
  | cons {v : V} {vs : List V} {d : D} {ds : List D} : RepB g F H v d → RepBL g F H vs ds → RepBL g F H (v :: vs) (d :: ds)
theorem RepBL.mono {g : G} {F H F' H' : Hp} (sf : Sub F F') (sh : Hx g H H') : ∀ {vs : List V} {ds : List D}, RepBL g F H vs ds → RepBL g F' H' vs ds
  | _, _, .nil => .nil
  | _, _, .cons a t => .cons (a.mono sf sh) (RepBL.mono sf sh t)
theorem RepL.toB {g : G} {F H : Hp} (s : Sub F H) : ∀ {vs : List V} {ds : List D}, RepL g F vs ds → RepBL g F H vs ds
  | _, _, .nil => .nil
  | _, _, .cons a t => .cons (a.toB s) (RepL.toB s t)
def evL : List (Env → Res D) → Env → Res (List D)
  | [], _ => .ok []
  | f :: fs, ρ => do let x ← f ρ; let xs ← evL fs ρ; .ok (x :: xs)
abbrev tAV (g : G) (W : WX) (f : Env → Res (List D)) : TA := tA g W (fun F _ vs ds => RepL g F vs ds) f
abbrev tAB (g : G) (W : WX) (f : Env → Res (List D)) : TA := tA g W (fun F H vs ds => RepBL g F H vs ds) f
section
variable {X : Cx} {g : G} {W : WX} {e a b c : Expr} {es : List Expr} {f fa fb fc : Env → Res D} {fs : Env → Res (List D)} {pos : Pos}
theorem da_nil : PA X [] (tAV g W fun _ => .ok []) := pa_nil.imp fun σ H Q ⟨F, ρ, r, q⟩ => q [] F H (.refl r.fh) .nil
theorem db_nil : PA X [] (tAB g W fun _ => .ok []) := pa_nil.imp fun σ H Q ⟨F, ρ, r, q⟩ => q [] F H (.refl r.fh) .nil
theorem da_cons (ha : PE X e (tV g W f)) (hr : PA X es (tAV g W fs)) (hs : starEach (e :: es) X.env = (false, eval e X.env) :: starEach es X.env) : PA X (e :: es) (tAV g W fun ρ => do let x ← f ρ; let xs ← fs ρ; .ok (x :: xs)) :=
  (pa_cons ha hr hs).imp fun σ H Q ⟨F, ρ, r, q⟩ => by
    refine ⟨F, ρ, r, out_imp (out_bind q) (fun dx _ q1 x F1 H1 x1 px => ?_) fun _ _ _ z => z⟩
    refine ⟨F1, ρ, r.ext x1, out_imp (out_bind q1) (fun ds _ q2 vs F2 H2 x2 ps => ?_) fun c d _ z cls dd F' H' xx => z cls dd F' H' (x1.trans xx)⟩
    exact q2 (x :: vs) F2 H2 (x1.trans x2) (.cons (Rep.mono x2.f px) ps)
theorem db_cons (ha : PE X e (tB g W f)) (hr : PA X es (tAB g W fs)) (hs : starEach (e :: es) X.env = (false, eval e X.env) :: starEach es X.env) : PA X (e :: es) (tAB g W fun ρ => do let x ← f ρ; let xs ← fs ρ; .ok (x :: xs)) :=
  (pa_cons ha hr hs).imp fun σ H Q ⟨F, ρ, r, q⟩ => by
    refine ⟨F, ρ, r, out_imp (out_bind q) (fun dx _ q1 x F1 H1 x1 px => ?_) fun _ _ _ z => z⟩
    refine ⟨F1, ρ, r.ext x1, out_imp (out_bind q1) (fun ds _ q2 vs F2 H2 x2 ps => ?_) fun c d _ z cls dd F' H' xx => z cls dd F' H' (x1.trans xx)⟩
    exact q2 (x :: vs) F2 H2 (x1.trans x2) (.cons (RepB.mono x2.f x2.h px) ps)
/-- *e in a display -/
def spl : D → Res (List D)
  | .tup l => .ok l
  | .lst l => .ok l
  | _ => .bad
theorem da_star {p : Pos} (hg : X.K = g.K) (ha : PE X e (tB g W f)) (hr : PA X es (tAV g W fs)) (hs : starEach (.Starred e p :: es) X.env = (true, eval e X.env) :: starEach es X.env) :
    PA X (.Starred e p :: es) (tAV g W fun ρ => do let x ← f ρ; let here ← spl x; let xs ← fs ρ; .ok (here ++ xs)) := by
  refine ⟨fun pos pins s σ H Q I ⟨F, ρ, r, q⟩ => ?_⟩
  refine PySem.W.items_star ?_ hs
  refine thn (ha.run pins s σ H (fun x H1 => ∃ F1 dx, f ρ = .ok dx ∧ Ext g F H F1 H1 ∧ RepB g F1 H1 x dx) I ⟨F, ρ, r, out_imp (out_bind q) (fun dx hd q1 x F1 H1 x1 px => ⟨F1, dx, hd, x1, px⟩) fun _ _ _ z => z⟩) fun v s1 ⟨x, H1, I1, r1, F1, dx, hd, x1, px⟩ => ?_
  have q := out_bind q
  rw [hd] at q
  have go : ∀ {l : List D} {xs : List V} {its : List Value} {s2 : Shared}, spl dx = .ok l → RepL g F1 xs l → Vals xs its → Inv X pins σ H1 s2 →
      wpAny (model X.prog X.w) X.A (spliced (backTo pos (starEach es X.env))) (fun vs s3 => AP X pins σ Q (its ++ vs) s3) X.xe s2 := fun {l xs its s2} el tl rv I2 => by
    have q2 : out (do let here ← spl dx; let xs ← fs ρ; .ok (here ++ xs)) (fun ds => ∀ vs F' H', Ext g F H F' H' → RepL g F' vs ds → Q vs H') (fun c d => ∀ cls dd F' H', Ext g F H F' H' → ExR g c d cls dd F' H' → W cls dd σ H') := q
    rw [el] at q2
    refine thn (hr.run pos pins s2 σ H1 (fun vs H2 => Q (xs ++ vs) H2) I2 ⟨F1, ρ, r.ext x1, out_imp (out_bind q2) (fun ds _ q3 vs F2 H2 x2 ps => ?_) fun c d _ z cls dd F' H' xx => z cls dd F' H' (x1.trans xx)⟩) fun us s3 ⟨vs, H2, I3, r3, q3⟩ => ⟨xs ++ vs, H2, I3, rv.append r3, q3⟩
    exact q3 (xs ++ vs) F2 H2 (x1.trans x2) ((tl.mono x2.f).append ps)
  cases dx with
  | tup l =>
    cases px with
    | tup h1 t1 =>
      cases r1
      obtain ⟨its, rv, ⟨o, ho, hc, n, hdt⟩, hz⟩ := I1.tuple (by rw [hg]; exact x1.fh.sqT h1)
      unfold PySem.W.StarOf notIterableAtAll
      refine wpAny_bind (wpAny_specialOf (show s1.TypeIs (.ref _) "tuple" from ⟨o, ho, hc⟩) PySem.F.slot_tuple_iter.lookup (wpAny_pure ⟨rfl, ?_⟩))
      exact wpAny_collect_seq _ (.inr rfl) ho hc hdt (fun h' hk => go rfl t1 rv (I1.kept (t' := s1.toks) hk)) (by rw [List.size_toArray, ← rv.length]; exact hz)
  | lst l =>
    obtain ⟨aa, xs, rfl, h1, t1⟩ := px
    cases r1
    obtain ⟨hz, its, n, rv, hl, ho⟩ := I1.lstM h1
    unfold PySem.W.StarOf notIterableAtAll
    refine wpAny_bind (wpAny_specialOf (show s1.TypeIs (.ref _) "list" from ⟨_, ho, rfl⟩) PySem.F.slot_list_iter.lookup (wpAny_pure ⟨rfl, ?_⟩))
    exact wpAny_collect_seq _ (.inl rfl) ho rfl rfl (fun h' hk => go rfl t1 rv (I1.kept (t' := s1.toks) hk)) (by rw [List.size_toArray, ← rv.length]; exact hz)
  | _ => exact q.elim
def mkTup (ds : List D) : Res D := if lenOk ds.length = true then .ok (.tup ds) else .bad
def mkLst (ds : List D) : Res D := if lenOk ds.length = true then .ok (.lst ds) else .bad
theorem de_tup {k} (h : PA X es (tAV g W fs)) : PE X (.Tuple es k pos) (tV g W fun ρ => do let ds ← fs ρ; mkTup ds) :=
  (pe_tup h).imp fun σ H Q ⟨F, ρ, r, q⟩ => by
    refine ⟨F, ρ, r, out_imp (out_bind q) (fun ds _ q1 vs F1 H1 x1 ps => ?_) fun _ _ _ z => z⟩
    unfold mkTup at q1
    split at q1
    · rename_i hz
      exact ⟨by rw [ps.length]; exact lenOk_le hz, fun p hp => q1 _ _ _ (x1.trans (.alloc x1.fh nt_tup hp)) (.tup (.of upd_same) (ps.mono (.put (x1.fh.out hp))))⟩
    · exact q1.elim
theorem de_lst (h : PA X es (tAV g W fs)) : PE X (.List es pos) (tF g W fun ρ => do let ds ← fs ρ; mkLst ds) :=
  (pe_lst h).imp fun σ H Q ⟨F, ρ, r, q⟩ => by
    refine ⟨F, ρ, r, out_imp (out_bind q) (fun ds _ q1 vs F1 H1 x1 ps => ?_) fun _ _ _ z => z⟩
    unfold mkLst at q1
    split at q1
    · rename_i hz
      exact ⟨by rw [ps.length]; exact lenOk_le hz, fun p hp => q1 _ F1 _ (x1.trans (.allocO x1.fh hp)) ⟨p, vs, ds, rfl, rfl, upd_same, x1.h.out (.of hp), x1.fh.out hp, ps⟩⟩
    · exact q1.elim

/-! ### a[b], a[b:c] -/
def ixD : D → D → Res D
  | .lst l, .int i => match atI l i with
    | some d => .ok d
    | none => .bad
  | .tup l, .int i => match atI l i with
    | some d => .ok d
    | none => .bad
  | .scr l, .int i => match atI l i with
    | some d => .ok (.int d)
    | none => .bad
  | .str z, .int i => if lenOk z.length = true then (match atI z.cps.toList i with
    | some c => .ok (.str ⟨#[c]⟩)
    | none => .bad) else .bad
  | _, _ => .bad
theorem ixD_q : Quiet ixD := fun x y c d e => by
  unfold ixD at e
  split at e <;> first | cases e | (split at e <;> first | cases e | (split at e <;> cases e))
theorem atI_rep {F : Hp} {xs : List V} {ds : List D} (r : RepL g F xs ds) {i : Int} {d : D} (h : atI ds i = some d) : ∃ v, atI xs i = some v ∧ Rep g F v d := by
  unfold atI at h ⊢
  rw [r.length]
  cases e : ixN ds.length i with
  | none => rw [e] at h; cases h
  | some j =>
    rw [e] at h
    exact r.get j h
theorem ix_D (hg : X.K = g.K) : IxR X (rD2 g (PV g) ixD) := by
  intro value slice pins s σ H x y v u Q I rx ry h hs
  obtain ⟨F, dx, dy, d, fh, px, py', e, q⟩ := h
  unfold ixD at e
  split at e
  · split at e
    · rename_i l i d' ed
      cases e; cases py'
      obtain ⟨a, xs, rfl, h1, t1⟩ := px
      obtain ⟨z, ez, rz⟩ := atI_rep t1 ed
      exact ix_list value slice pins s σ H _ _ v u Q I rx ry ⟨_, _, _, z, rfl, rfl, .of h1, ez, here fh q rz⟩ hs
    · cases e
  · split at e
    · rename_i l i d' ed
      cases e; cases py'
      cases px with
      | tup h1 t1 =>
        obtain ⟨z, ez, rz⟩ := atI_rep t1 ed
        exact ix_tup value slice pins s σ H _ _ v u Q I rx ry ⟨_, _, _, z, rfl, rfl, by rw [hg]; exact fh.sqT h1, ez, here fh q rz⟩ hs
    · cases e
  · rename_i l i
    cases ed : atI l i with
    | none => rw [ed] at e; cases e
    | some d' =>
      rw [ed] at e
      cases e; cases py'
      cases px with
      | scr h1 =>
        have ez : atI (l.map V.int) i = some (.int d') := by
          unfold atI at ed ⊢
          rw [List.length_map]
          cases e : ixN l.length i with
          | none => rw [e] at ed; cases ed
          | some j => rw [e] at ed; have ed' : l[j]? = some d' := ed; show (l.map V.int)[j]? = _; rw [List.getElem?_map, ed']; rfl
        exact ix_list value slice pins s σ H _ _ v u Q I rx ry ⟨_, _, _, _, rfl, rfl, by rw [hg]; exact fh.sqL h1, ez, here fh q (.int _)⟩ hs
  · rename_i z i
    by_cases hz : lenOk z.length = true
    · rw [if_pos hz] at e
      cases ec : atI z.cps.toList i with
      | none => rw [ec] at e; cases e
      | some c =>
        rw [ec] at e
        cases e; cases py'; cases px
        exact ix_str value slice pins s σ H _ _ v u Q I rx ry ⟨_, _, c, rfl, rfl, lenOk_le hz, ec, here fh q (.str _)⟩ hs
    · rw [if_neg hz] at e; cases e
  · cases e
theorem de_ix (hg : X.K = g.K) (ha : PE X a (tB g W fa)) (hb : PE X b (tB g W fb)) (hs : PlainIx b) : PE X (.Subscript a b pos) (tV g W fun ρ => do let x ← fa ρ; let y ← fb ρ; ixD x y) :=
  (pe_ix (ix_D hg) ha hb hs).imp fun σ H Q w => tOp_of (PV.early g) ixD_q (fun _ _ _ z => z) (fun _ _ _ z => z) σ H Q w
/-- a slice's end -/
def tOI (g : G) (W : WX) (f : Env → Res (Option Int)) : TO := fun σ H Q => ∃ F ρ, RelE g σ F H ρ ∧
  out (f ρ) (fun o => ∀ F' H', Ext g F H F' H' → Q o H') (fun c d => ∀ cls dd F' H', Ext g F H F' H' → ExR g c d cls dd F' H' → W cls dd σ H')
theorem _root_.L2.PO.imp {o : Option Expr} {t t' : TO} (h : PO X o t) (k : ∀ σ H Q, t' σ H Q → t σ H Q) : PO X o t' := ⟨fun pins s σ H Q I q => h.run pins s σ H Q I (k σ H Q q)⟩
theorem do_none : PO X none (tOI g W fun _ => .ok none) := po_none.imp fun σ H Q ⟨F, ρ, r, q⟩ => q F H (.refl r.fh)
def asInt : D → Res (Option Int)
  | .int i => .ok (some i)
  | _ => .bad
theorem do_some (h : PE X e (tB g W f)) : PO X (some e) (tOI g W fun ρ => do let x ← f ρ; asInt x) := (po_some h).imp fun σ H Q ⟨F, ρ, r, q⟩ => by
  refine ⟨F, ρ, r, out_imp (out_bind q) (fun dx _ q1 x F1 H1 x1 px => ?_) fun _ _ _ z => z⟩
  cases dx with
  | int i => cases px; exact ⟨i, rfl, q1 F1 H1 x1⟩
  | _ => exact q1.elim
def cutD {α : Type} (xs : List α) (lo hi : Option Int) : List α := (xs.drop (HT.sIx xs.length 0 lo)).take (HT.sIx xs.length xs.length hi - HT.sIx xs.length 0 lo)
theorem cut_rep {F : Hp} {xs : List V} {ds : List D} (r : RepL g F xs ds) (lo hi : Option Int) : RepL g F (cutV xs lo hi) (cutD ds lo hi) := by
  unfold cutV cutD
  rw [r.length]
  exact (r.drop _).take _
def slT (x : D) (lo hi : Option Int) : Res D := match x with
  | .tup l => .ok (.tup (cutD l lo hi))
  | .str z => if lenOk z.length = true then .ok (.str (cutS z lo hi)) else .bad
  | _ => .bad
def slL (x : D) (lo hi : Option Int) : Res D := match x with
  | .lst l => .ok (.lst (cutD l lo hi))
  | _ => .bad
def rSlD (g : G) (P : RP) (h : D → Option Int → Option Int → Res D) : V → Option Int → Option Int → Hp → VK → Prop := fun x lo hi H Q => ∃ F dx d, Sub F H ∧ RepB g F H x dx ∧ h dx lo hi = .ok d ∧ ∀ v F' H', Ext g F H F' H' → P F H F' H' v d → Q v H'
theorem cut_all {α : Type} {l : List α} {lo hi : Option Int} (h1 : HT.sIx l.length 0 lo = 0) (h2 : HT.sIx l.length l.length hi = l.length) : cutD l lo hi = l := by
  unfold cutD
  rw [h1, h2]
  simp
theorem sl_T (hg : X.K = g.K) : SlR X (rSlD g (PV g) slT) := by
  intro pins s σ H x v vl vu lo hi sl Q I rx hs pl pu h
  obtain ⟨F, dx, d, fh, px, e, q⟩ := h
  unfold slT at e
  split at e
  · cases e
    cases px with
    | tup h1 t1 =>
      refine sl_tupA pins s σ H _ v vl vu lo hi sl Q I rx hs pl pu ⟨_, _, rfl, by rw [hg]; exact fh.sqT h1, fun hw => ?_, fun _ p hp => ?_⟩
      · rw [t1.length] at hw
        rw [cut_all hw.1 hw.2] at q
        exact here fh q (.tup h1 t1)
      · exact q _ _ _ (.alloc fh nt_tup hp) (.tup (.of upd_same) ((cut_rep t1 lo hi).mono (.put (fh.out hp))))
  · split at e
    · rename_i hz
      cases e; cases px
      exact sl_str pins s σ H _ v vl vu lo hi sl Q I rx hs pl pu ⟨_, rfl, lenOk_le hz, here fh q (.str _)⟩
    · cases e
  · cases e
theorem sl_L (hg : X.K = g.K) : SlR X (rSlD g (PF g) slL) := by
  intro pins s σ H x v vl vu lo hi sl Q I rx hs pl pu h
  obtain ⟨F, dx, d, fh, px, e, q⟩ := h
  unfold slL at e
  split at e
  · cases e
    obtain ⟨a, xs, rfl, h1, t1⟩ := px
    exact sl_list pins s σ H _ v vl vu lo hi sl Q I rx hs pl pu ⟨_, _, rfl, .of h1, fun p hp => newL fh q rfl hp (cut_rep t1 lo hi)⟩
  · cases e
theorem de_sl {P : RP} {h : D → Option Int → Option Int → Res D} {lo hi : Option Expr} {fl fh' : Env → Res (Option Int)} {p2 : Pos} (hP : P.Early g) (hq : ∀ x a b c d, h x a b ≠ .exc c d) (hr : SlR X (rSlD g P h)) (ha : PE X a (tB g W fa)) (hl : PO X lo (tOI g W fl)) (hh : PO X hi (tOI g W fh')) :
    PE X (.Subscript a (.Slice lo hi none p2) pos) (tP g W P fun ρ => do let x ← fa ρ; let l ← fl ρ; let u ← fh' ρ; h x l u) :=
  (pe_slice hr ha hl hh).imp fun σ H Q ⟨F, ρ, r, q⟩ => by
    refine ⟨F, ρ, r, out_imp (out_bind q) (fun dx _ q1 x F1 H1 x1 px => ?_) fun _ _ _ z => z⟩
    refine ⟨F1, ρ, r.ext x1, out_imp (out_bind q1) (fun l _ q2 F2 H2 x2 => ?_) fun c d _ z cls dd F' H' xx => z cls dd F' H' (x1.trans xx)⟩
    have x12 := x1.trans x2
    refine ⟨F2, ρ, r.ext x12, out_imp (out_bind q2) (fun u _ q3 F3 H3 x3 => ?_) fun c d _ z cls dd F' H' xx => z cls dd F' H' (x12.trans xx)⟩
    have x13 := x12.trans x3
    cases e : h dx l u with
    | ok d =>
      rw [e] at q3
      exact ⟨F3, dx, d, x3.fh, px.mono (x2.f.trans x3.f) (x2.h.trans x3.h), e, fun v F' H' x4 pv => q3 v F' H' (x13.trans x4) (hP _ _ _ _ _ _ _ _ x13 pv)⟩
    | exc c d => exact absurd e (hq dx l u c d)
    | bad => rw [e] at q3; exact q3.elim
end
end PL
/-! PLe: built-in functions over plain data. -/
namespace PL
open PySem PySem.Spec L2
/-- sum of a tuple of whole numbers -/
theorem sum_tupI {prog : Program} {w : World} {A : Around} {E : Value → Shared → Prop} {s : Shared} {t : Addr} {its : List Value} {ns : List Int} {Q : Value → Shared → Prop} (free : A.handled = none) (ht : s.heap.IsTuple t its.toArray) (hi : PyProof.Rows.IntsAre its ns)
    (go : ∀ h' tk t', (∀ b o, s.heap.get? b = some o → h'.get? b = some o) → Q (.int ns.sum t') { s with heap := h', toks := tk }) : wpAny (model prog w) A (call (.builtin "sum") [.ref t]) Q E s := by
  obtain ⟨xs, e⟩ := hi.allInts.items
  have nums : numsOf (intItems xs).toList = ns := by rw [← e]; exact hi.numsOf
  rw [nums_intItems] at nums
  rw [e] at ht
  have lt : t < s.heap.objs.size := by
    obtain ⟨o, e, _⟩ := ht
    exact Heap.lt_size e
  refine call_sum_walkG (wpAny_pyIter_tuple ht ?_)
  refine ⟨s.heap.objs.size, [s.heap.objs.size, t], [s.heap.objs.size], _, _, _, numAt xs, rfl, Walks.tuple (A := A.in1) free s.heap.objs.size t (Nat.ne_of_lt lt) (intItems xs), ⟨⟨_, Heap.get?_push_size _ rfl, rfl, rfl⟩, ht.push _⟩, fun b hb => ?_, fun _ _ => intItems_at, fun h' tk t' kept => ?_⟩
  · show b < (s.heap.push _).objs.size
    rw [Heap.size_push]
    rcases List.mem_cons.mp hb with z | z
    · rw [z]; exact Nat.lt_succ_self _
    · rw [show b = t by simpa using z]; exact Nat.lt_succ_of_lt lt
  · have old : ∀ b o, s.heap.get? b = some o → h'.get? b = some o := fun b o e =>
      kept b o (fun z => by
        have z : b = s.heap.objs.size := by simpa using z
        exact absurd (z ▸ Heap.lt_size e) (Nat.lt_irrefl _)) (Heap.get?_push_of_some _ e)
    have z := go h' tk t' old
    have e2 : preSum (numAt xs) (intItems xs).size = ns.sum := by
      rw [preSum_eq, List.take_of_length_le (by simp [intItems]), nums]
    rw [e2]
    exact z

/-- a built-in by values -/
def rDL (g : G) (P : RP) (h : List D → Res D) : List V → Hp → VK → Prop := fun xs H Q => ∃ F ds d, Sub F H ∧ RepBL g F H xs ds ∧ h ds = .ok d ∧ ∀ v F' H', Ext g F H F' H' → P F H F' H' v d → Q v H'
def QuietL (h : List D → Res D) : Prop := ∀ x c d, h x ≠ .exc c d
section
variable {X : Cx} {g : G} {W : WX} {e : Expr} {es : List Expr} {f : Env → Res D} {fs : Env → Res (List D)} {p pos : Pos} {x : Str} {id T : String} {P : RP} {h : List D → Res D}
theorem tCB_of (hP : P.Early g) (hq : QuietL h) (σ : StH) (H : Hp) (Q : VK) (w : tP g W P (fun ρ => do let xs ← fs ρ; h xs) σ H Q) : tCB (rDL g P h) (tAB g W fs) σ H Q := by
  obtain ⟨F, ρ, r, q⟩ := w
  refine ⟨F, ρ, r, out_imp (out_bind q) (fun ds _ q1 vs F1 H1 x1 ps => ?_) fun _ _ _ z => z⟩
  cases e : h ds with
  | ok d =>
    rw [e] at q1
    exact ⟨F1, ds, d, x1.fh, ps, e, fun v F' H' x2 pv => q1 v F' H' (x1.trans x2) (hP _ _ _ _ _ _ _ _ x1 pv)⟩
  | exc c d => exact absurd e (hq ds c d)
  | bad => rw [e] at q1; exact q1.elim
theorem de_callB (hP : P.Early g) (hq : QuietL h) (hc : CallR X (.builtin id) (rDL g P h)) (hg : Gl X x) (hm : X.mg x = none) (hv : bootBuiltins x = some (.builtin id)) (ha : PA X (e :: es) (tAB g W fs)) (hn : x ≠ "__name__") (hdb : (x == ("__debug__" : Str)) = false)
    (he : starEach (e :: es) X.env = (false, eval e X.env) :: starEach es X.env) (hpl : (backTo pos (starEach es X.env)).any (·.1) = false) : PE X (.Call (.Name x p) (e :: es) [] pos) (tP g W P fun ρ => do let xs ← fs ρ; h xs) :=
  (pe_callB hc hg hm hv ha hn hdb he hpl).imp fun σ H Q w => tCB_of hP hq σ H Q w
theorem de_callBf (hP : P.Early g) (hq : QuietL h) (hc : CallR X (.builtin id) (rDL g P h)) (hg : Gl X x) (hm : X.mg x = some (.builtin id)) (ha : PA X (e :: es) (tAB g W fs)) (hdb : (x == ("__debug__" : Str)) = false)
    (he : starEach (e :: es) X.env = (false, eval e X.env) :: starEach es X.env) (hpl : (backTo pos (starEach es X.env)).any (·.1) = false) : PE X (.Call (.Name x p) (e :: es) [] pos) (tP g W P fun ρ => do let xs ← fs ρ; h xs) :=
  (pe_callBfun hc hg hm ha hdb he hpl).imp fun σ H Q w => tCB_of hP hq σ H Q w
theorem de_callTy (hP : P.Early g) (hq : QuietL h) (hc : CallR X (.type T) (rDL g P h)) (hg : Gl X x) (hm : X.mg x = none) (hv : bootBuiltins x = some (.type T)) (ha : PA X (e :: es) (tAB g W fs)) (hn : x ≠ "__name__") (hdb : (x == ("__debug__" : Str)) = false)
    (he : starEach (e :: es) X.env = (false, eval e X.env) :: starEach es X.env) (hpl : (backTo pos (starEach es X.env)).any (·.1) = false) : PE X (.Call (.Name x p) (e :: es) [] pos) (tP g W P fun ρ => do let xs ← fs ρ; h xs) :=
  (pe_callTy hc hg hm hv ha hn hdb he hpl).imp fun σ H Q w => tCB_of hP hq σ H Q w

theorem one_of {F H : Hp} {vs : List V} {d : D} (h : RepBL g F H vs [d]) : ∃ v, vs = [v] ∧ RepB g F H v d := by
  cases h with
  | cons a t => cases t; exact ⟨_, rfl, a⟩
theorem two_of {F H : Hp} {vs : List V} {d d' : D} (h : RepBL g F H vs [d, d']) : ∃ v w, vs = [v, w] ∧ RepB g F H v d ∧ RepB g F H w d' := by
  cases h with
  | cons a t =>
    cases t with
    | cons b t => cases t; exact ⟨_, _, rfl, a, b⟩

def lenD : List D → Res D
  | [.lst l] => .ok (.int l.length)
  | [.tup l] => .ok (.int l.length)
  | [.scr l] => .ok (.int l.length)
  | [.str z] => if lenOk z.length = true then .ok (.int z.length) else .bad
  | _ => .bad
theorem lenD_q : QuietL lenD := fun x c d e => by
  unfold lenD at e
  split at e <;> first | cases e | (split at e <;> cases e)
theorem call_lenD (hg : X.K = g.K) : CallR X (.builtin "len") (rDL g (PV g) lenD) := by
  intro pins s σ H xs us Q I r h
  obtain ⟨F, ds, d, fh, ps, e, q⟩ := h
  unfold lenD at e
  split at e
  · cases e
    obtain ⟨v, rfl, a, ys, rfl, h1, t1⟩ := one_of ps
    exact call_len_seq pins s σ H _ us Q I r ⟨_, _, rfl, .inl (.of h1), by rw [t1.length]; exact here fh q (.int _)⟩
  · cases e
    obtain ⟨v, rfl, a⟩ := one_of ps
    cases a with
    | tup h1 t1 => exact call_len_seq pins s σ H _ us Q I r ⟨_, _, rfl, .inr (by rw [hg]; exact fh.sqT h1), by rw [t1.length]; exact here fh q (.int _)⟩
  · cases e
    obtain ⟨v, rfl, a⟩ := one_of ps
    cases a with
    | scr h1 => exact call_len_seq pins s σ H _ us Q I r ⟨_, _, rfl, .inl (by rw [hg]; exact fh.sqL h1), by rw [List.length_map]; exact here fh q (.int _)⟩
  · split at e
    · rename_i hz
      cases e
      obtain ⟨v, rfl, a⟩ := one_of ps
      cases a
      exact call_len_str pins s σ H _ us Q I r ⟨_, rfl, lenOk_le hz, here fh q (.int _)⟩
    · cases e
  · cases e
def absD : List D → Res D
  | [.int i] => .ok (.int (if i < 0 then -i else i))
  | _ => .bad
theorem absD_q : QuietL absD := fun x c d e => by unfold absD at e; split at e <;> cases e
theorem call_absD : CallR X (.builtin "abs") (rDL g (PV g) absD) := by
  intro pins s σ H xs us Q I r h
  obtain ⟨F, ds, d, fh, ps, e, q⟩ := h
  unfold absD at e
  split at e
  · cases e
    obtain ⟨v, rfl, a⟩ := one_of ps
    cases a
    exact call_abs pins s σ H _ us Q I r ⟨_, rfl, here fh q (.int _)⟩
  · cases e
def intD : List D → Res D
  | [.int i] => .ok (.int i)
  | _ => .bad
theorem intD_q : QuietL intD := fun x c d e => by unfold intD at e; split at e <;> cases e
theorem call_intD : CallR X (.type "int") (rDL g (PV g) intD) := by
  intro pins s σ H xs us Q I r h
  obtain ⟨F, ds, d, fh, ps, e, q⟩ := h
  unfold intD at e
  split at e
  · cases e
    obtain ⟨v, rfl, a⟩ := one_of ps
    cases a
    exact call_int1 pins s σ H _ us Q I r (.inl ⟨_, rfl, here fh q (.int _)⟩)
  · cases e
def asInts : List D → Option (List Int)
  | [] => some []
  | .int i :: ds => (asInts ds).map (i :: ·)
  | _ :: _ => none
theorem asInts_map : ∀ {ds : List D} {ns : List Int}, asInts ds = some ns → ds = ns.map D.int
  | [], _, h => by cases h; rfl
  | d :: ds, ns, h => by
    cases d with
    | int i =>
      unfold asInts at h
      obtain ⟨ms, h1, rfl⟩ := Option.map_eq_some_iff.mp h
      rw [List.map_cons, ← asInts_map h1]
    | _ => cases h
theorem asInts_of : ∀ ns : List Int, asInts (ns.map D.int) = some ns
  | [] => rfl
  | n :: ns => by rw [List.map_cons]; unfold asInts; rw [asInts_of ns]; rfl
def asBls : List D → Option (List Bool)
  | [] => some []
  | .bl i :: ds => (asBls ds).map (i :: ·)
  | _ :: _ => none
theorem asBls_map : ∀ {ds : List D} {ns : List Bool}, asBls ds = some ns → ds = ns.map D.bl
  | [], _, h => by cases h; rfl
  | d :: ds, ns, h => by
    cases d with
    | bl i =>
      unfold asBls at h
      obtain ⟨ms, h1, rfl⟩ := Option.map_eq_some_iff.mp h
      rw [List.map_cons, ← asBls_map h1]
    | _ => cases h
theorem asBls_of : ∀ ns : List Bool, asBls (ns.map D.bl) = some ns
  | [] => rfl
  | n :: ns => by rw [List.map_cons]; unfold asBls; rw [asBls_of ns]; rfl
def sumD : List D → Res D
  | [.lst l] => match asInts l with
    | some ns => .ok (.int ns.sum)
    | none => .bad
  | [.tup l] => match asInts l with
    | some ns => .ok (.int ns.sum)
    | none => .bad
  | _ => .bad
theorem sumD_q : QuietL sumD := fun x c d e => by unfold sumD at e; split at e <;> first | cases e | (split at e <;> cases e)
theorem call_sumD (hgK : X.K = g.K) (hc : X.calm = true) : CallR X (.builtin "sum") (rDL g (PV g) sumD) := by
  intro pins s σ H xs us Q I r h
  obtain ⟨F, ds, d, fh, ps, e, q⟩ := h
  unfold sumD at e
  split at e
  · rename_i l
    cases en : asInts l with
    | none => rw [en] at e; cases e
    | some ns =>
      rw [en] at e; cases e
      obtain ⟨v, rfl, a, ys, rfl, h1, t1⟩ := one_of ps
      rw [asInts_map en] at t1
      obtain rfl := t1.ints_of
      exact cr_sum hc pins s σ H _ us Q I r ⟨_, _, rfl, .of h1, here fh q (.int _)⟩
  · rename_i l
    cases en : asInts l with
    | none => rw [en] at e; cases e
    | some ns =>
      rw [en] at e; cases e
      obtain ⟨v, rfl, pv⟩ := one_of ps
      cases pv with
      | tup h1 t1 =>
        rw [asInts_map en] at t1
        obtain rfl := t1.ints_of
        obtain ⟨its, rv, p, _⟩ := I.tuple (by rw [hgK]; exact fh.sqT h1)
        rw [Vals.ref1 r]
        exact sum_tupI (I.ok.hd hc) p rv.ints fun h' tk t' hk => ⟨.int _, H, I.kept hk, ⟨_, rfl⟩, here fh q (.int _)⟩
  · cases e
def anyD : List D → Res D
  | [.lst l] => match asBls l with
    | some ns => .ok (.bl (ns.any (fun b => b)))
    | none => .bad
  | _ => .bad
def allD : List D → Res D
  | [.lst l] => match asBls l with
    | some ns => .ok (.bl (ns.all (fun b => b)))
    | none => .bad
  | _ => .bad
theorem anyD_q : QuietL anyD := fun x c d e => by unfold anyD at e; split at e <;> first | cases e | (split at e <;> cases e)
theorem allD_q : QuietL allD := fun x c d e => by unfold allD at e; split at e <;> first | cases e | (split at e <;> cases e)
theorem call_anyD (hc : X.calm = true) : CallR X (.builtin "any") (rDL g (PV g) anyD) := by
  intro pins s σ H xs us Q I r h
  obtain ⟨F, ds, d, fh, ps, e, q⟩ := h
  unfold anyD at e
  split at e
  · rename_i l
    cases en : asBls l with
    | none => rw [en] at e; cases e
    | some ns =>
      rw [en] at e; cases e
      obtain ⟨v, rfl, a, ys, rfl, h1, t1⟩ := one_of ps
      rw [asBls_map en] at t1
      obtain rfl := t1.bls_of
      exact cr_any hc pins s σ H _ us Q I r ⟨_, _, rfl, .of h1, here fh q (.bl _)⟩
  · cases e
theorem call_allD (hc : X.calm = true) : CallR X (.builtin "all") (rDL g (PV g) allD) := by
  intro pins s σ H xs us Q I r h
  obtain ⟨F, ds, d, fh, ps, e, q⟩ := h
  unfold allD at e
  split at e
  · rename_i l
    cases en : asBls l with
    | none => rw [en] at e; cases e
    | some ns =>
      rw [en] at e; cases e
      obtain ⟨v, rfl, a, ys, rfl, h1, t1⟩ := one_of ps
      rw [asBls_map en] at t1
      obtain rfl := t1.bls_of
      exact cr_all hc pins s σ H _ us Q I r ⟨_, _, rfl, .of h1, here fh q (.bl _)⟩
  · cases e
def tupleD : List D → Res D
  | [.lst l] => .ok (.tup l)
  | [.tup l] => .ok (.tup l)
  | _ => .bad
theorem tupleD_q : QuietL tupleD := fun x c d e => by unfold tupleD at e; split at e <;> cases e
theorem call_tupleD (hg : X.K = g.K) : CallR X (.type "tuple") (rDL g (PV g) tupleD) := by
  intro pins s σ H xs us Q I r h
  obtain ⟨F, ds, d, fh, ps, e, q⟩ := h
  unfold tupleD at e
  split at e
  · cases e
    obtain ⟨v, rfl, a, ys, rfl, h1, t1⟩ := one_of ps
    exact call_tuple_of pins s σ H _ us Q I r ⟨_, _, rfl, .inl ⟨.of h1, fun p hp => q _ _ _ (.alloc fh nt_tup hp) (.tup (.of upd_same) (t1.mono (.put (fh.out hp))))⟩⟩
  · cases e
    obtain ⟨v, rfl, a⟩ := one_of ps
    cases a with
    | tup h1 t1 => exact call_tuple_of pins s σ H _ us Q I r ⟨_, _, rfl, .inr ⟨by rw [hg]; exact fh.sqT h1, here fh q (.tup h1 t1)⟩⟩
  · cases e
def listD : List D → Res D
  | [.lst l] => .ok (.lst l)
  | [.tup l] => .ok (.lst l)
  | _ => .bad
theorem listD_q : QuietL listD := fun x c d e => by unfold listD at e; split at e <;> cases e
theorem call_listDD (hg : X.K = g.K) : CallR X (.type "list") (rDL g (PF g) listD) := by
  intro pins s σ H xs us Q I r h
  obtain ⟨F, ds, d, fh, ps, e, q⟩ := h
  unfold listD at e
  split at e
  · cases e
    obtain ⟨v, rfl, a, ys, rfl, h1, t1⟩ := one_of ps
    exact call_list_of pins s σ H _ us Q I r ⟨_, _, rfl, .inl (.of h1), fun p hp => newL fh q rfl hp t1⟩
  · cases e
    obtain ⟨v, rfl, a⟩ := one_of ps
    cases a with
    | tup h1 t1 => exact call_list_of pins s σ H _ us Q I r ⟨_, _, rfl, .inr (by rw [hg]; exact fh.sqT h1), fun p hp => newL fh q rfl hp t1⟩
  · cases e
def gcdD : List D → Res D
  | [.int a, .int b] => .ok (.int ((Nat.gcd a.natAbs b.natAbs : Nat) : Int))
  | _ => .bad
theorem gcdD_q : QuietL gcdD := fun x c d e => by unfold gcdD at e; split at e <;> cases e
theorem call_gcdD : CallR X (.builtin "math.gcd") (rDL g (PV g) gcdD) := by
  intro pins s σ H xs us Q I r h
  obtain ⟨F, ds, d, fh, ps, e, q⟩ := h
  unfold gcdD at e
  split at e
  · cases e
    obtain ⟨v, w, rfl, a, b⟩ := two_of ps
    cases a; cases b
    exact cr_gcd pins s σ H _ us Q I r ⟨_, _, rfl, here fh q (.int _)⟩
  · cases e
def lcmD : List D → Res D
  | [.int a, .int b] => if (decide (a.natAbs < 2 ^ 64) && decide (b.natAbs < 2 ^ 64)) = true then .ok (.int ((Nat.lcm a.natAbs b.natAbs : Nat) : Int)) else .bad
  | _ => .bad
theorem lcmD_q : QuietL lcmD := fun x c d e => by unfold lcmD at e; split at e <;> first | cases e | (split at e <;> cases e)
theorem call_lcmD : CallR X (.builtin "math.lcm") (rDL g (PV g) lcmD) := by
  intro pins s σ H xs us Q I r h
  obtain ⟨F, ds, d, fh, ps, e, q⟩ := h
  unfold lcmD at e
  split at e
  · split at e
    · rename_i hm
      cases e
      obtain ⟨v, w, rfl, a, b⟩ := two_of ps
      obtain ⟨m1, m2⟩ := Bool.and_eq_true_iff.mp hm
      cases a; cases b
      obtain ⟨t, u, rfl⟩ := Vals.int2 r
      exact PySem.W.mc_lcm (of_decide_eq_true m1) (of_decide_eq_true m2) fun _ => ⟨.int _, H, I.tok _, ⟨_, rfl⟩, here fh q (.int _)⟩
    · cases e
  · cases e
def min2D : List D → Res D
  | [.int i, .int j] => .ok (.int (if j < i then j else i))
  | _ => .bad
def max2D : List D → Res D
  | [.int i, .int j] => .ok (.int (if j > i then j else i))
  | _ => .bad
theorem min2D_q : QuietL min2D := fun x c d e => by unfold min2D at e; split at e <;> cases e
theorem max2D_q : QuietL max2D := fun x c d e => by unfold max2D at e; split at e <;> cases e
theorem call_min2D (hc : X.calm = true) : CallR X (.builtin "min") (rDL g (PV g) min2D) := by
  intro pins s σ H xs us Q I r h
  obtain ⟨F, ds, d, fh, ps, e, q⟩ := h
  unfold min2D at e
  split at e
  · cases e
    obtain ⟨v, w, rfl, a, b⟩ := two_of ps
    cases a; cases b
    exact call_min2 hc pins s σ H _ us Q I r ⟨_, _, rfl, here fh q (.int _)⟩
  · cases e
theorem call_max2D (hc : X.calm = true) : CallR X (.builtin "max") (rDL g (PV g) max2D) := by
  intro pins s σ H xs us Q I r h
  obtain ⟨F, ds, d, fh, ps, e, q⟩ := h
  unfold max2D at e
  split at e
  · cases e
    obtain ⟨v, w, rfl, a, b⟩ := two_of ps
    cases a; cases b
    exact call_max2 hc pins s σ H _ us Q I r ⟨_, _, rfl, here fh q (.int _)⟩
  · cases e

/-! ### sorted -/
def pyD (d : D) : PyData := (py d).getD .none
theorem pyL_map : ∀ {ds : List D} {ps : List PyData}, pyL ds = some ps → ps = ds.map pyD ∧ ∀ d ∈ ds, py d = some (pyD d)
  | [], _, h => by rw [pyL] at h; cases h; exact ⟨rfl, fun d hd => by cases hd⟩
  | d :: ds, ps, h => by
    rw [pyL] at h
    split at h
    · rename_i p ps' h1 h2
      cases h
      obtain ⟨e1, e2⟩ := pyL_map h2
      have e3 : pyD d = p := by unfold pyD; rw [h1]; rfl
      refine ⟨by rw [List.map_cons, e3, ← e1], fun x hx => ?_⟩
      rcases List.mem_cons.mp hx with z | z
      · rw [z, e3]; exact h1
      · exact e2 x z
    · cases h
def tupB : PyData → Bool
  | .tuple (_ :: _) => true
  | _ => false
def otherB : PyData → Bool
  | .tuple _ => false
  | .none => false
  | _ => true
/-- may be sorted -/
def srtOk (ps : List PyData) : Bool := (ps.all fun p => ps.all fun q => PySem.W.alike p q) && ((ps.all tupB || ps.all otherB) && (ps.all fun p => decide (p.depth ≤ 64)))
theorem srtOk_of {ps : List PyData} (h : srtOk ps = true) : PySem.W.AllAlike ps ∧ PySem.W.Sortable ps ∧ ∀ p ∈ ps, p.depth ≤ 64 := by
  obtain ⟨h1, h⟩ := Bool.and_eq_true_iff.mp h
  obtain ⟨h2, h3⟩ := Bool.and_eq_true_iff.mp h
  refine ⟨fun p hp q hq => List.all_eq_true.mp (List.all_eq_true.mp h1 p hp) q hq, ?_, fun p hp => of_decide_eq_true (List.all_eq_true.mp h3 p hp)⟩
  rcases Bool.or_eq_true_iff.mp h2 with z | z
  · refine .inl fun p hp => ?_
    have y := List.all_eq_true.mp z p hp
    unfold tupB at y
    split at y
    · exact ⟨_, _, rfl⟩
    · cases y
  · refine .inr fun p hp => ?_
    have y := List.all_eq_true.mp z p hp
    exact ⟨fun e => by rw [e] at y; exact Bool.noConfusion y, fun l e => by rw [e] at y; exact Bool.noConfusion y⟩
def leD (a b : D) : Bool := PySem.W.dataLe false pyD a b
def sortL (l : List D) : Res D := match pyL l with
  | some ps => if (srtOk ps && lenOk l.length) = true then .ok (.lst (l.mergeSort leD)) else .bad
  | none => .bad
def sortedD : List D → Res D
  | [.lst l] => sortL l
  | _ => .bad
theorem sortL_exc (l : List D) (c : Nat) (d : D) : sortL l ≠ .exc c d := fun e => by
  unfold sortL at e
  split at e
  · split at e <;> cases e
  · cases e
theorem sortedD_q : QuietL sortedD := fun x c d e => by
  unfold sortedD at e
  split at e
  · exact sortL_exc _ _ _ e
  · cases e
/-- a value that stands for data -/
def StV (g : G) (F : Hp) (u : Value) (d : D) : Prop := ∃ v, RelV v u ∧ Rep g F v d
theorem each_of {F : Hp} : ∀ {vs : List V} {us : List Value} {ds : List D}, Vals vs us → RepL g F vs ds → PySem.W.EachIs (StV g F) us ds
  | _, _, _, .nil, .nil => .nil
  | _, _, _, .cons r t, .cons a b => .cons ⟨_, r, a⟩ (each_of t b)
theorem of_each {F : Hp} : ∀ {us : List Value} {ds : List D}, PySem.W.EachIs (StV g F) us ds → ∃ vs, Vals vs us ∧ RepL g F vs ds
  | _, _, .nil => ⟨[], .nil, .nil⟩
  | _, _, .cons ⟨v, r, a⟩ t => by
    obtain ⟨vs, r2, a2⟩ := of_each t
    exact ⟨v :: vs, .cons r r2, .cons a a2⟩
theorem each_reads {pins : List (Addr × Obj)} {σ : StH} {H F : Hp} {s : Shared} (hg : X.K = g.K) (I : Inv X pins σ H s) (fh : Sub F H) : ∀ {us : List Value} {ds : List D}, (∀ d ∈ ds, py d = some (pyD d)) → PySem.W.EachIs (StV g F) us ds → PySem.W.EachIs (fun v b => ∃ as, Reads s.heap v (pyD b) as) us ds
  | _, _, _, .nil => .nil
  | _, b :: _, hp, .cons h t => by
    obtain ⟨v, r, a⟩ := h
    exact .cons (Dp.reads I (pyD b) v _ (by rw [hg]; exact Rep.dp fh a (hp b List.mem_cons_self)) r) (each_reads hg I fh (fun d hd => hp d (List.mem_cons_of_mem _ hd)) t)
theorem call_sortedDD (hg : X.K = g.K) (hu : X.A.units + 2 + 64 < cLine) : CallR X (.builtin "sorted") (rDL g (PF g) sortedD) := by
  intro pins s σ H xs us Q I r h
  obtain ⟨F, ds, d, fh, ps, e, q⟩ := h
  unfold sortedD at e
  split at e
  · rename_i l
    unfold sortL at e
    cases el : pyL l with
    | none => rw [el] at e; cases e
    | some pp =>
      rw [el] at e
      obtain ⟨e1, e2⟩ := pyL_map el
      subst e1
      by_cases hs : (srtOk (l.map pyD) && lenOk l.length) = true
      · simp only [hs, if_true] at e
        cases e
        obtain ⟨hs1, hs2⟩ := Bool.and_eq_true_iff.mp hs
        obtain ⟨k1, k2, k3⟩ := srtOk_of hs1
        obtain ⟨v, rfl, a, ys, rfl, h1, t1⟩ := one_of ps
        obtain ⟨hz, its, n, rv, hl, ho⟩ := I.lstM h1
        rw [Vals.ref1 r]
        have ea := each_of rv t1
        have hz2 : its.length ≤ sizeLine := by rw [← hl]; exact hz
        refine PySem.W.sorted_data (enc := pyD) (bs := l) (R := StV g F) (vs := its) ⟨_, ho, rfl, _, rfl⟩ ea (each_reads hg I fh e2 ea) k1 k2 (lenOk_le hs2) (fun b hb => ?_) fun out ho2 eo => ?_
        · have := k3 (pyD b) (List.mem_map.mpr ⟨b, hb, rfl⟩)
          omega
        · obtain ⟨zs, rz, tz⟩ := of_each eo
          obtain ⟨ep, he'⟩ := PyProof.Rows.sortedAll_at s.heap its out.toArray
          have hlen : zs.length ≤ sizeLine := by rw [tz.length, List.length_mergeSort]; exact lenOk_le hs2
          refine ⟨.ref _, upd H (s.heap.objs.size + 1) (.lst zs), I.laid (t' := s.toks) (fun _ _ => PyProof.Rows.sortedAll_old) (Nat.le_succ _) ⟨hlen, out, ep, rz, he'⟩, rfl, newL fh q rfl (I.hok.fresh (Nat.le_succ _)) tz⟩
      · simp only [hs, if_false] at e
        cases e
  · cases e

/-! ### list(range(..)) -/
def rgD (a b : Int) : List D := (List.range (b - a).toNat).map fun i => D.int (a + (i : Nat))
def rgOk (a b : Int) : Bool := decide (-(2 ^ 62) ≤ a ∧ a < 2 ^ 62 ∧ -(2 ^ 62) ≤ b ∧ b < 2 ^ 62 ∧ (b - a).toNat ≤ 2 ^ 24)
theorem rep_rg {F : Hp} (a b : Int) : RepL g F (rgV a b) (rgD a b) := by
  unfold rgV rgD
  induction List.range (b - a).toNat with
  | nil => exact .nil
  | cons i l ih => exact .cons (.int _) ih
/-- the ends of a range -/
def tRD (g : G) (W : WX) (f : Env → Res (Int × Int)) : StH → Hp → (Int → Int → Hp → Prop) → Prop := fun σ H Q => ∃ F ρ, RelE g σ F H ρ ∧
  out (f ρ) (fun o => ∀ F' H', Ext g F H F' H' → Q o.1 o.2 H') (fun c d => ∀ cls dd F' H', Ext g F H F' H' → ExR g c d cls dd F' H' → W cls dd σ H')
def toI : D → Res Int
  | .int i => .ok i
  | _ => .bad
theorem PRg.imp {e : Expr} {t t' : StH → Hp → (Int → Int → Hp → Prop) → Prop} (h : PRg X e t) (k : ∀ σ H Q, t' σ H Q → t σ H Q) : PRg X e t' := fun pins s σ H Q I q => h pins s σ H Q I (k σ H Q q)
theorem dr_1 {a : Expr} {fa : Env → Res D} {p pos : Pos} (hg : Gl X "range") (hm : X.mg "range" = none) (ha : PE X a (tB g W fa)) (na : starEach [a] X.env = (false, eval a X.env) :: starEach [] X.env) :
    PRg X (.Call (.Name "range" p) [a] [] pos) (tRD g W fun ρ => do let x ← fa ρ; let n ← toI x; .ok (0, n)) := PRg.imp (prg_1 hg hm ha na) fun σ H Q ⟨F, ρ, r, q⟩ => by
  refine ⟨F, ρ, r, out_imp (out_bind q) (fun dx _ q1 x F1 H1 x1 px => ?_) fun _ _ _ z => z⟩
  cases dx with
  | int i => cases px; exact ⟨i, rfl, q1 F1 H1 x1⟩
  | _ => exact q1.elim
theorem dr_2 {a b : Expr} {fa fb : Env → Res D} {p pos : Pos} (hg : Gl X "range") (hm : X.mg "range" = none) (ha : PE X a (tB g W fa)) (hb : PE X b (tB g W fb)) (na : starEach [a, b] X.env = (false, eval a X.env) :: starEach [b] X.env)
    (nb : starEach [b] X.env = (false, eval b X.env) :: starEach [] X.env) (hp : (backTo pos (starEach [b] X.env)).any (·.1) = false) :
    PRg X (.Call (.Name "range" p) [a, b] [] pos) (tRD g W fun ρ => do let x ← fa ρ; let y ← fb ρ; let i ← toI x; let j ← toI y; .ok (i, j)) := PRg.imp (prg_2 hg hm ha hb na nb hp) fun σ H Q ⟨F, ρ, r, q⟩ => by
  refine ⟨F, ρ, r, out_imp (out_bind q) (fun dx _ q1 x F1 H1 x1 px => ?_) fun _ _ _ z => z⟩
  refine ⟨F1, ρ, r.ext x1, out_imp (out_bind q1) (fun dy _ q2 y F2 H2 x2 py => ?_) fun c d _ z cls dd F' H' xx => z cls dd F' H' (x1.trans xx)⟩
  cases dx with
  | int i =>
    cases dy with
    | int j => cases px; cases py; exact ⟨i, j, rfl, rfl, q2 F2 H2 (x1.trans x2)⟩
    | _ => exact q2.elim
  | _ => exact q2.elim
theorem de_listRg {f : Env → Res (Int × Int)} {p pos : Pos} (hc : X.calm = true) (hg : Gl X "list") (hm : X.mg "list" = none) (he : PRg X e (tRD g W f)) (na : starEach [e] X.env = (false, eval e X.env) :: starEach [] X.env) :
    PE X (.Call (.Name "list" p) [e] [] pos) (tF g W fun ρ => do let o ← f ρ; if rgOk o.1 o.2 = true then .ok (.lst (rgD o.1 o.2)) else .bad) := (pe_listRg hc hg hm he na).imp fun σ H Q ⟨F, ρ, r, q⟩ => by
  refine ⟨F, ρ, r, out_imp (out_bind q) (fun o _ q1 F1 H1 x1 => ?_) fun _ _ _ z => z⟩
  split at q1
  · rename_i hz
    exact ⟨(of_decide_eq_true hz : _ ∧ _), fun p hp => q1 _ F1 _ (x1.trans (.allocO x1.fh hp)) ⟨p, _, _, rfl, rfl, upd_same, x1.h.out (.of hp), x1.fh.out hp, rep_rg _ _⟩⟩
  · exact q1.elim

/-! ### isinstance -/
def tyN : D → Option String
  | .non => some "NoneType"
  | .bl _ => some "bool"
  | .int _ => some "int"
  | .str _ => some "str"
  | .tup _ => some "tuple"
  | .lst _ => some "list"
  | _ => none
/-- is the class t below the class c (of those that we ask) -/
def below (t c : String) : Bool := t == c || (t == "bool" && c == "int")
def clsOk (c : String) : Bool := ["int", "bool", "str", "list", "tuple"].contains c
def isiD (d : D) (cs : List String) : Res D := match tyN d with
  | some t => if cs.all clsOk = true then .ok (.bl (cs.any (below t))) else .bad
  | none => .bad
theorem tyx_of {F H : Hp} {v : V} {d : D} {t : String} (s : Sub F H) (r : RepB g F H v d) (e : tyN d = some t) : TyX g.K H v (.type t) := by
  cases d with
  | non => cases r; cases e; exact .base .non
  | bl _ => cases r; cases e; exact .base (.bl _)
  | int _ => cases r; cases e; exact .base (.int _)
  | str _ => cases r; cases e; exact .base (.str _)
  | tup l =>
    cases r with
    | tup h t =>
      cases e
      rcases s.sqT h with (h | ⟨o, h⟩) | ⟨o, its, n, h1, h2, _⟩
      · exact .base (.tup h)
      · exact .fTuple h
      · exact .kTuple h1 h2
  | lst l =>
    obtain ⟨a, xs, rfl, h, t⟩ := r
    cases e
    exact .base (.lst h)
  | _ => cases e
theorem kit_below {K : PySem.W.Frag} {d : D} {t c : String} (e : tyN d = some t) (hc : clsOk c = true) : PySem.W.kitOne K (.type t) (.type c) = some (below t c) := by
  have hc' : c = "int" ∨ c = "bool" ∨ c = "str" ∨ c = "list" ∨ c = "tuple" := by
    unfold clsOk at hc
    simpa using hc
  have ht : t = "NoneType" ∨ t = "bool" ∨ t = "int" ∨ t = "str" ∨ t = "tuple" ∨ t = "list" := by
    cases d <;> cases e <;> simp
  rcases ht with rfl | rfl | rfl | rfl | rfl | rfl <;> rcases hc' with rfl | rfl | rfl | rfl | rfl <;> exact kit_ty (by decide +kernel)
theorem kitAny_below {K : PySem.W.Frag} {d : D} {t : String} (e : tyN d = some t) : ∀ {cs : List String}, cs.all clsOk = true → PySem.W.kitAny K (.type t) (cs.map Value.type) = some (cs.any (below t))
  | [], _ => kitAny_nil
  | c :: cs, h => by
    rw [List.all_cons] at h
    obtain ⟨h1, h2⟩ := Bool.and_eq_true_iff.mp h
    rw [List.map_cons, List.any_cons]
    refine kitAny_cons (kit_below e h1) (fun hb => ?_) fun hb => ?_
    · rw [hb, Bool.false_or]; exact kitAny_below e h2
    · rw [hb, Bool.true_or]
end
end PL
/-! PLf: targets, what is walked, comprehensions over plain data. -/
namespace PL
open PySem PySem.Spec L2

/-! ### targets -/
inductive Tg where
  | nm (i : Nat) | tp (l : List Tg)
  deriving Inhabited
mutual
def bindT : Tg → D → Env → Res Env
  | .nm i, d, ρ => .ok (ρ.set i (.val d))
  | .tp l, .tup ds, ρ => bindTs l ds ρ
  | .tp _, _, _ => .bad
def bindTs : List Tg → List D → Env → Res Env
  | [], [], ρ => .ok ρ
  | t :: ts, d :: ds, ρ => match bindT t d ρ with
    | .ok ρ' => bindTs ts ds ρ'
    | .exc _ _ => .bad
    | .bad => .bad
  | _, _, _ => .bad
end
mutual
def tgS : Tg → List Nat
  | .nm i => [i]
  | .tp l => tgSs l
def tgSs : List Tg → List Nat
  | [] => []
  | t :: ts => tgS t ++ tgSs ts
end
/-- a target's reading -/
def tG (g : G) (T : Tg) : TG := fun v σ H Q => ∃ F ρ d ρ', RelE g σ F H ρ ∧ Rep g F v d ∧ bindT T d ρ = .ok ρ' ∧ ∀ σ', RelE g σ' F H ρ' → (∀ j, j ∉ tgS T → σ'[j]? = σ[j]?) → Q σ' H
def tGs (g : G) (T : List Tg) : TGs := fun vs σ H Q => ∃ F ρ ds ρ', RelE g σ F H ρ ∧ RepL g F vs ds ∧ bindTs T ds ρ = .ok ρ' ∧ ∀ σ', RelE g σ' F H ρ' → (∀ j, j ∉ tgSs T → σ'[j]? = σ[j]?) → Q σ' H
section
variable {X : Cx} {g : G} {W : WX} {pos : Pos}
theorem _root_.L2.PG.imp {e : Expr} {t t' : TG} (h : PG X e t) (k : ∀ v σ H Q, t' v σ H Q → t v σ H Q) : PG X e t' := ⟨fun pins s σ H v u Q I r q => h.run pins s σ H v u Q I r (k v σ H Q q)⟩
theorem _root_.L2.PGs.imp {es : List Expr} {t t' : TGs} (h : PGs X es t) (k : ∀ v σ H Q, t' v σ H Q → t v σ H Q) : PGs X es t' := ⟨fun pins s σ H v u Q I r q => h.run pins s σ H v u Q I r (k v σ H Q q)⟩
theorem dg_name {i : Nat} {x : Str} (hN : X.N.Nodup) (hi : X.N[i]? = some x) (hx : Loc X.env.scope x) (hf : X.fn x = true ∨ X.env.scope.names.lookup x = some .local) : PG X (.Name x pos) (tG g (.nm i)) :=
  (pg_name hN hi hx hf).imp fun v σ H Q ⟨F, ρ, d, ρ', r, rv, e, q⟩ => by
    rw [bindT] at e
    cases e
    refine q _ (r.setV rv) fun j hj => ?_
    rw [tgS] at hj
    exact List.getElem?_set_ne (fun z => hj (by simp [z]))
theorem dgs_nil : PGs X [] (tGs g []) := pgs_nil.imp fun vs σ H Q ⟨F, ρ, ds, ρ', r, rv, e, q⟩ => by
  cases ds with
  | nil =>
    cases rv
    rw [bindTs] at e
    cases e
    exact ⟨rfl, q σ r fun _ _ => rfl⟩
  | cons d ds => rw [bindTs] at e <;> cases e
theorem dgs_cons {e : Expr} {es : List Expr} {t : Tg} {ts : List Tg} (h1 : PG X e (tG g t)) (h2 : PGs X es (tGs g ts)) (hs : (assignEach (e :: es) X.env).map (·.2) = assign e X.env :: (assignEach es X.env).map (·.2)) : PGs X (e :: es) (tGs g (t :: ts)) :=
  (pgs_cons h1 h2 hs).imp fun vs σ H Q ⟨F, ρ, ds, ρ', r, rv, eb, q⟩ => by
    cases ds with
    | nil => rw [bindTs] at eb <;> cases eb
    | cons d ds =>
      cases rv with
      | cons a t' =>
        rw [bindTs] at eb
        cases e1 : bindT t d ρ with
        | ok ρ1 =>
          rw [e1] at eb
          refine ⟨_, _, rfl, F, ρ, d, ρ1, r, a, e1, fun σ1 r1 k1 => ⟨F, ρ1, ds, ρ', r1, t', eb, fun σ2 r2 k2 => q σ2 r2 fun j hj => ?_⟩⟩
          rw [tgSs, List.mem_append, not_or] at hj
          rw [k2 j hj.2, k1 j hj.1]
        | exc c d => rw [e1] at eb; cases eb
        | bad => rw [e1] at eb; cases eb
theorem dg_tup {es : List Expr} {k : Nat} {ts : List Tg} (hg : X.K = g.K) (hc : X.calm = true) (h : PGs X es (tGs g ts)) (hn : (assignEach es X.env).length = ts.length) (hst : (assignEach es X.env).findIdx? (·.1) = none) : PG X (.Tuple es k pos) (tG g (.tp ts)) :=
  (pg_tup hc h hn hst).imp fun v σ H Q ⟨F, ρ, d, ρ', r, rv, e, q⟩ => by
    cases d with
    | tup ds =>
      cases rv with
      | tup h1 t1 =>
        rw [bindT] at e
        have hl : ∀ {ts : List Tg} {ds : List D} {ρ ρ' : Env}, bindTs ts ds ρ = .ok ρ' → ts.length = ds.length := by
          intro ts
          induction ts with
          | nil => intro ds ρ ρ' e; cases ds with
            | nil => rfl
            | cons d ds => rw [bindTs] at e <;> cases e
          | cons t ts ih => intro ds ρ ρ' e; cases ds with
            | nil => rw [bindTs] at e <;> cases e
            | cons d ds =>
              rw [bindTs] at e
              cases e1 : bindT t d ρ with
              | ok ρ1 => rw [e1] at e; exact congrArg Nat.succ (ih e)
              | exc c d => rw [e1] at e; cases e
              | bad => rw [e1] at e; cases e
        refine ⟨_, _, rfl, by rw [hg]; exact r.fh.sqT h1, by rw [t1.length]; exact (hl e).symm, F, ρ, ds, ρ', r, t1, e, fun σ' r' k' => q σ' r' fun j hj => k' j (by rw [tgS] at hj; exact hj)⟩
    | _ => rw [bindT] at e <;> cases e

/-! ### what is walked -/
structure Walk (g : G) (J : It) (F H : Hp) (ds : List D) : Prop where
  go : ∀ i F' H', Sub F F' → Hx g H H' → Sub F' H' → i < ds.length → J.go i H'
  yld : ∀ i F' H' x H'', Sub F F' → Hx g H H' → Sub F' H' → i < ds.length → J.yld i H' x H'' → ∃ F'' d, Ext g F' H' F'' H'' ∧ ds[i]? = some d ∧ Rep g F'' x d
  stop : ∀ i F' H', Sub F F' → Hx g H H' → Sub F' H' → ds.length ≤ i → J.stop i H'
theorem walk_list {K : PySem.W.Frag} {F H : Hp} {a : Addr} {xs : List V} {ds : List D} (inj : ∀ H' ys, SqL K H' a ys → H' a = some (.lst xs) → ys = xs) (h : H a = some (.lst xs)) (t : RepL g F xs ds) : Walk g (Itl K a) F H ds where
  go := fun i F' H' sf sh _ hi => by
    have hi' : i < xs.length := by rw [t.length]; exact hi
    exact ⟨xs, xs[i], .of (sh.lst h), List.getElem?_eq_getElem hi'⟩
  yld := fun i F' H' x H'' sf sh fh hi y => by
    obtain ⟨rfl, y⟩ := y
    have hx := y xs (.of (sh.lst h))
    obtain ⟨d, h1, h2⟩ := t.getV i hx
    exact ⟨F', d, .refl fh, h1, h2.mono sf⟩
  stop := fun i F' H' sf sh _ hi => ⟨xs, .of (sh.lst h), by rw [t.length]; exact hi⟩
theorem walk_tup {K : PySem.W.Frag} {F H : Hp} {a : Addr} {xs : List V} {ds : List D} (h : SqT K F a xs) (t : RepL g F xs ds) : Walk g (Itt K a) F H ds where
  go := fun i F' H' sf sh fh hi => by
    have hi' : i < xs.length := by rw [t.length]; exact hi
    exact ⟨xs, xs[i], fh.sqT (sf.sqT h), List.getElem?_eq_getElem hi'⟩
  yld := fun i F' H' x H'' sf sh fh hi y => by
    obtain ⟨rfl, y⟩ := y
    have hx := y xs (fh.sqT (sf.sqT h))
    obtain ⟨d, h1, h2⟩ := t.getV i hx
    exact ⟨F', d, .refl fh, h1, h2.mono sf⟩
  stop := fun i F' H' sf sh fh hi => ⟨xs, fh.sqT (sf.sqT h), by rw [t.length]; exact hi⟩
theorem walk_scr {K : PySem.W.Frag} {F H : Hp} {a : Addr} {l : List Int} (h : SqL K F a (l.map V.int)) : Walk g (Itl K a) F H (l.map D.int) where
  go := fun i F' H' sf sh fh hi => by
    have hi' : i < (l.map V.int).length := by simpa using hi
    exact ⟨_, (l.map V.int)[i], fh.sqL (sf.sqL h), List.getElem?_eq_getElem hi'⟩
  yld := fun i F' H' x H'' sf sh fh hi y => by
    obtain ⟨rfl, y⟩ := y
    have hx := y _ (fh.sqL (sf.sqL h))
    obtain ⟨d, h1, h2⟩ := (RepL.ints (g := g) (F := F') l).getV i hx
    exact ⟨F', d, .refl fh, h1, h2⟩
  stop := fun i F' H' sf sh fh hi => ⟨_, fh.sqL (sf.sqL h), by simpa using hi⟩
theorem walk_range {F H : Hp} (a b : Int) : Walk g (Itr a (b - a).toNat) F H (rgD a b) where
  go := fun i F' H' _ _ _ hi => by
    unfold rgD at hi
    rw [List.length_map, List.length_range] at hi
    exact hi
  yld := fun i F' H' x H'' sf sh fh hi y => by
    obtain ⟨rfl, rfl⟩ := y
    refine ⟨F', .int (a + i), .refl fh, ?_, .int _⟩
    unfold rgD at hi ⊢
    rw [List.length_map, List.length_range] at hi
    rw [List.getElem?_map, List.getElem?_range hi]
    rfl
  stop := fun i F' H' _ _ _ hi => by
    unfold rgD at hi
    rw [List.length_map, List.length_range] at hi
    exact hi
/-- a walked thing's reading -/
def tI (g : G) (W : WX) (f : Env → Res (List D)) : TI := fun σ H R => ∃ F ρ, RelE g σ F H ρ ∧
  out (f ρ) (fun ds => ∀ J F' H', Ext g F H F' H' → Walk g J F' H' ds → R J H') (fun c d => ∀ cls dd F' H', Ext g F H F' H' → ExR g c d cls dd F' H' → W cls dd σ H')
/-- .. that stands frozen -/
def tIF (g : G) (W : WX) (f : Env → Res (List D)) : TI := fun σ H R => ∃ F ρ, RelE g σ F H ρ ∧
  out (f ρ) (fun ds => ∀ J F' H', Ext g F H F' H' → Walk g J F' F' ds → R J H') (fun c d => ∀ cls dd F' H', Ext g F H F' H' → ExR g c d cls dd F' H' → W cls dd σ H')
theorem Walk.up {J : It} {F H : Hp} {ds : List D} (s : Sub F H) (w : Walk g J F F ds) : Walk g J F H ds :=
  ⟨fun i F' H' a b c => w.go i F' H' a ((Hx.of s).trans b) c, fun i F' H' x H'' a b c => w.yld i F' H' x H'' a ((Hx.of s).trans b) c, fun i F' H' a b c => w.stop i F' H' a ((Hx.of s).trans b) c⟩
theorem _root_.L2.PI.imp {tg iter : Expr} {t t' : TI} (h : PI X tg iter t) (k : ∀ σ H Q, t' σ H Q → t σ H Q) : PI X tg iter t' := ⟨fun pins s σ H Q I q => h.run pins s σ H Q I (k σ H Q q)⟩
theorem thaw {tg iter : Expr} {f : Env → Res (List D)} (h : PI X tg iter (tIF g W f)) : PI X tg iter (tI g W f) := h.imp fun σ H Q ⟨F, ρ, r, q⟩ => ⟨F, ρ, r, out_imp q (fun ds _ k J F' H' x w => k J F' H' x (w.up x.fh)) fun _ _ _ z => z⟩
def itemsD : D → Res (List D)
  | .lst l => .ok l
  | .tup l => .ok l
  | .scr l => .ok (l.map .int)
  | _ => .bad
section
variable {pins : List (Addr × Obj)} {σ : StH} {H : Hp} {s : Shared} {tg : Expr} {R : It → Hp → Prop} {E : Value → Shared → Prop} {a : Addr} {xs : List V}
theorem iter_list (I : Inv X pins σ H s) (h : SqL X.K H a xs) (q : R (Itl X.K a) H) : wpAny (model X.prog X.w) X.A (pyIter (.ref a)) (PIE X pins σ tg R) E s := by
  obtain ⟨its, rv, p, hz⟩ := I.list h
  refine wpAny_pyIter_list p.isList ?_
  refine ⟨s.heap.objs.size, [s.heap.objs.size], _, _, H, rfl, I.kept (t' := s.toks) fun b o e => Heap.get?_push_of_some _ e, turn_list a _, ⟨_, Heap.get?_push_size _ rfl, rfl, rfl⟩, fun b hb => ?_, q⟩
  obtain rfl : b = s.heap.objs.size := by simpa using hb
  exact I.fpOk (Nat.le_refl _) (I.hok.fresh (Nat.le_refl _))
theorem iter_tup (I : Inv X pins σ H s) (h : SqT X.K H a xs) (q : R (Itt X.K a) H) : wpAny (model X.prog X.w) X.A (pyIter (.ref a)) (PIE X pins σ tg R) E s := by
  obtain ⟨its, rv, p, hz⟩ := I.tuple h
  refine wpAny_pyIter_tuple (show s.heap.IsTuple a its.toArray from p) ?_
  refine ⟨s.heap.objs.size, [s.heap.objs.size], _, _, H, rfl, I.kept (t' := s.toks) fun b o e => Heap.get?_push_of_some _ e, turn_tuple a _, ⟨_, Heap.get?_push_size _ rfl, rfl, rfl⟩, fun b hb => ?_, q⟩
  obtain rfl : b = s.heap.objs.size := by simpa using hb
  exact I.fpOk (Nat.le_refl _) (I.hok.fresh (Nat.le_refl _))
end
theorem di_seq {tg l : Expr} {f : Env → Res D} (hg : X.K = g.K) (hl : PE X l (tB g W f)) : PI X tg l (tI g W fun ρ => do let x ← f ρ; itemsD x) := by
  refine ⟨fun pins s σ H R I ⟨F, ρ, r, q⟩ => ?_⟩
  refine thn (hl.run pins s σ H (fun x H1 => ∃ F1 dx, f ρ = .ok dx ∧ Ext g F H F1 H1 ∧ RepB g F1 H1 x dx) I ⟨F, ρ, r, out_imp (out_bind q) (fun dx hd q1 x F1 H1 x1 px => ⟨F1, dx, hd, x1, px⟩) fun _ _ _ z => z⟩) fun v s1 ⟨x, H1, I1, r1, F1, dx, hd, x1, px⟩ => ?_
  have q := out_bind q
  rw [hd] at q
  have q : out (itemsD dx) (fun ds => ∀ J F' H', Ext g F H F' H' → Walk g J F' H' ds → R J H') (fun c d => ∀ cls dd F' H', Ext g F H F' H' → ExR g c d cls dd F' H' → W cls dd σ H') := q
  cases dx with
  | lst l =>
    obtain ⟨aa, xs, rfl, h1, t1⟩ := px
    cases r1
    exact iter_list I1 (.of h1) (q _ F1 H1 x1 (walk_list (fun H' ys h e => by
      rcases h with (h | ⟨o, h⟩) | ⟨o, its, n, hk, _⟩
      · rw [e] at h; cases h; rfl
      · rw [e] at h; cases h
      · exact absurd (I1.mod.kin aa o hk) (fun z => by have := (I1.bs aa o z).2; rw [h1] at this; cases this)) h1 t1))
  | tup l =>
    cases px with
    | tup h1 t1 =>
      cases r1
      exact iter_tup I1 (by rw [hg]; exact x1.fh.sqT h1) (by rw [hg]; exact q _ F1 H1 x1 (walk_tup h1 t1))
  | scr l =>
    cases px with
    | scr h1 =>
      cases r1
      exact iter_list I1 (by rw [hg]; exact x1.fh.sqL h1) (by rw [hg]; exact q _ F1 H1 x1 (walk_scr h1))
  | _ => exact q.elim
theorem di_seqF {tg l : Expr} {f : Env → Res D} (hg : X.K = g.K) (hl : PE X l (tV g W f)) : PI X tg l (tIF g W fun ρ => do let x ← f ρ; itemsD x) := by
  refine ⟨fun pins s σ H R I ⟨F, ρ, r, q⟩ => ?_⟩
  refine thn (hl.run pins s σ H (fun x H1 => ∃ F1 dx, f ρ = .ok dx ∧ Ext g F H F1 H1 ∧ Rep g F1 x dx) I ⟨F, ρ, r, out_imp (out_bind q) (fun dx hd q1 x F1 H1 x1 px => ⟨F1, dx, hd, x1, px⟩) fun _ _ _ z => z⟩) fun v s1 ⟨x, H1, I1, r1, F1, dx, hd, x1, px⟩ => ?_
  have q := out_bind q
  rw [hd] at q
  have q : out (itemsD dx) (fun ds => ∀ J F' H', Ext g F H F' H' → Walk g J F' F' ds → R J H') (fun c d => ∀ cls dd F' H', Ext g F H F' H' → ExR g c d cls dd F' H' → W cls dd σ H') := q
  cases dx with
  | lst l =>
    cases px with
    | lst h1 t1 =>
      cases r1
      exact iter_list I1 (.of (x1.fh _ _ h1)) (q _ F1 H1 x1 (walk_list (fun H' ys h e => by
        rcases h with (h | ⟨o, h⟩) | ⟨o, its, n, hk, _⟩
        · rw [e] at h; cases h; rfl
        · rw [e] at h; cases h
        · exact absurd (I1.mod.kin _ o hk) (fun z => by have := (I1.bs _ o z).2; rw [x1.fh _ _ h1] at this; cases this)) h1 t1))
  | tup l =>
    cases px with
    | tup h1 t1 =>
      cases r1
      exact iter_tup I1 (by rw [hg]; exact x1.fh.sqT h1) (by rw [hg]; exact q _ F1 H1 x1 (walk_tup h1 t1))
  | scr l =>
    cases px with
    | scr h1 =>
      cases r1
      exact iter_list I1 (by rw [hg]; exact x1.fh.sqL h1) (by rw [hg]; exact q _ F1 H1 x1 (walk_scr h1))
  | _ => exact q.elim
def rgIn (a b : Int) : Bool := decide (-(2 ^ 62) ≤ a ∧ a < 2 ^ 62 ∧ -(2 ^ 62) ≤ b ∧ b < 2 ^ 62)
def rng1 (f : Env → Res D) : Env → Res (List D) := fun ρ => do let x ← f ρ; let n ← toI x; if rgIn 0 n = true then .ok (rgD 0 n) else .bad
def rng2 (f f' : Env → Res D) : Env → Res (List D) := fun ρ => do let x ← f ρ; let y ← f' ρ; let a ← toI x; let b ← toI y; if rgIn a b = true then .ok (rgD a b) else .bad
theorem di_rng1 {tg a : Expr} {fa : Env → Res D} {p : Pos} (hg : Gl X "range") (hm : X.mg "range" = none) (ha : PE X a (tB g W fa)) (hs : starEach [a] X.env = [(false, eval a X.env)]) :
    PI X tg (.Call (.Name "range" p) [a] [] pos) (tIF g W (rng1 fa)) := (pi_range1 hg hm (db_cons ha db_nil (by rw [hs]; rfl)) hs).imp fun σ H R ⟨F, ρ, r, q⟩ => by
  refine ⟨F, ρ, r, ?_⟩
  have q := out_bind q
  refine of_bind (out_imp q (fun dx _ q1 vs F1 H1 x1 ps => ?_) fun _ _ _ z => z)
  obtain ⟨v, rfl, pv⟩ := one_of ps
  cases dx with
  | int n =>
    cases pv
    have q1 : out (if rgIn 0 n = true then Res.ok (rgD 0 n) else .bad) _ _ := q1
    split at q1
    · rename_i hz
      have hz := of_decide_eq_true hz
      refine ⟨n, rfl, hz.2.2.1, hz.2.2.2, q1 _ F1 H1 x1 ?_⟩
      have w := walk_range (g := g) (F := F1) (H := F1) 0 n
      rw [Int.sub_zero] at w
      exact w
    · exact q1.elim
  | _ => exact q1.elim
theorem di_rng2 {tg a b : Expr} {fa fb : Env → Res D} {p : Pos} (hg : Gl X "range") (hm : X.mg "range" = none) (ha : PE X a (tB g W fa)) (hb : PE X b (tB g W fb)) (hs : starEach [a, b] X.env = [(false, eval a X.env), (false, eval b X.env)]) (hs2 : starEach [b] X.env = [(false, eval b X.env)]) :
    PI X tg (.Call (.Name "range" p) [a, b] [] pos) (tIF g W (rng2 fa fb)) := (pi_range2 hg hm (db_cons ha (db_cons hb db_nil (by rw [hs2]; rfl)) (by rw [hs, hs2])) hs hs2).imp fun σ H R ⟨F, ρ, r, q⟩ => by
  refine ⟨F, ρ, r, ?_⟩
  have q := out_bind q
  refine of_bind (out_imp q (fun dx _ q1 => ?_) fun _ _ _ z => z)
  have q1 := out_bind q1
  refine of_bind (of_bind (out_imp q1 (fun dy _ q2 vs F1 H1 x1 ps => ?_) fun _ _ _ z => z))
  obtain ⟨v, w, rfl, pv, pw⟩ := two_of ps
  cases dx with
  | int i =>
    cases dy with
    | int j =>
      cases pv; cases pw
      have q2 : out (if rgIn i j = true then Res.ok (rgD i j) else .bad) _ _ := q2
      split at q2
      · rename_i hz
        have hz := of_decide_eq_true hz
        exact ⟨i, j, rfl, hz, q2 _ F1 H1 x1 (walk_range i j)⟩
      · exact q2.elim
    | _ => exact q2.elim
  | _ => exact q2.elim

/-! ### comprehensions -/
def wipeE (ρ : Env) : List Nat → Env
  | [] => ρ
  | v :: vs => (wipeE ρ vs).set v .none
theorem wipeE_some {ρ : Env} {i : Nat} {s : Slot} : ∀ {vs : List Nat}, (wipeE ρ vs)[i]? = some s → s ≠ .none → ρ[i]? = some s ∧ i ∉ vs
  | [], h, _ => ⟨h, by simp⟩
  | v :: vs, h, hs => by
    unfold wipeE at h
    by_cases hi : v = i
    · subst hi
      by_cases hv : v < (wipeE ρ vs).length
      · rw [List.getElem?_set_self hv] at h; cases h; exact absurd rfl hs
      · rw [List.getElem?_eq_none (by simpa using hv)] at h; cases h
    · rw [List.getElem?_set_ne hi] at h
      obtain ⟨h1, h2⟩ := wipeE_some h hs
      exact ⟨h1, by simp only [List.mem_cons, not_or]; exact ⟨fun e => hi e.symm, h2⟩⟩
theorem wipeE_length (ρ : Env) : ∀ vs : List Nat, (wipeE ρ vs).length = ρ.length
  | [] => rfl
  | v :: vs => by unfold wipeE; rw [List.length_set, wipeE_length ρ vs]
theorem wipe_out {σ : StH} {i : Nat} : ∀ {vs : List Nat}, i ∉ vs → (wipe σ vs)[i]? = σ[i]?
  | [], _ => rfl
  | v :: vs, h => by
    unfold wipe
    rw [List.getElem?_set_ne (fun z => h (by simp [z]))]
    exact wipe_out fun z => h (List.mem_cons_of_mem _ z)
theorem RelE.wiped {σ : StH} {F H : Hp} {ρ : Env} (r : RelE g σ F H ρ) (vs : List Nat) : RelE g (wipe σ vs) F H (wipeE ρ vs) :=
  r.weak (by rw [wipe_length, wipeE_length]; exact r.len) fun i s e hs => by
    obtain ⟨h1, h2⟩ := wipeE_some e hs
    exact ⟨h1, wipe_out h2⟩
theorem wipe_in {σ : StH} {i : Nat} : ∀ {vs : List Nat}, i ∈ vs → (wipe σ vs)[i]? = if i < σ.length then some none else none
  | v :: vs, h => by
    unfold wipe
    by_cases hi : v = i
    · subst hi
      by_cases hv : v < σ.length
      · rw [if_pos hv, List.getElem?_set_self (by rw [wipe_length]; exact hv)]
      · rw [if_neg hv, List.getElem?_eq_none (by rw [List.length_set, wipe_length]; omega)]
    · rw [List.getElem?_set_ne hi]
      rcases List.mem_cons.mp h with z | z
      · exact absurd z.symm hi
      · exact wipe_in z
theorem wipe_eq {σ σ' : StH} {vs : List Nat} (hl : σ'.length = σ.length) (h : ∀ j, j ∉ vs → σ'[j]? = σ[j]?) : wipe σ' vs = wipe σ vs := by
  apply List.ext_getElem?
  intro i
  by_cases hi : i ∈ vs
  · rw [wipe_in hi, wipe_in hi, hl]
  · rw [wipe_out hi, wipe_out hi]; exact h i hi
theorem wipe_idem {σ : StH} {vs : List Nat} : wipe (wipe σ vs) vs = wipe σ vs := wipe_eq (wipe_length σ vs) fun j hj => wipe_out hj
/-- one after another -/
def compL (T : Tg) (fc : Env → Res Bool) (fe : Env → Res D) (ρ : Env) : List D → Res (List D)
  | [] => .ok []
  | d :: ds => do
    let ρ' ← bindT T d ρ
    let b ← fc ρ'
    if b = true then (do let y ← fe ρ'; let r ← compL T fc fe ρ ds; .ok (y :: r)) else compL T fc fe ρ ds
def noExc {α : Type} : Res α → Res α
  | .ok a => .ok a
  | _ => .bad
/-- no exception leaves a comprehension's block -/
abbrev W0 : WX := fun _ _ _ _ => False
def lcD (fi : Env → Res (List D)) (vs : List Nat) (T : Tg) (fc : Env → Res Bool) (fe : Env → Res D) : Env → Res D := fun ρ => do
  let ds ← fi ρ
  if lenOk ds.length = true then (do let r ← noExc (compL T fc fe (wipeE ρ vs) ds); .ok (.lst r)) else .bad
theorem bind_len {T : Tg} {d : PL.D} {ρ ρ' : Env} (e : bindT T d ρ = .ok ρ') : ρ'.length = ρ.length := by
  have key : (∀ (T : Tg) (d : PL.D) (ρ ρ' : Env), bindT T d ρ = .ok ρ' → ρ'.length = ρ.length) := by
    intro T
    induction T using Tg.rec (motive_2 := fun l => ∀ (ds : List PL.D) (ρ ρ' : Env), bindTs l ds ρ = .ok ρ' → ρ'.length = ρ.length) with
    | nm i => intro d ρ ρ' e; rw [bindT] at e; cases e; exact List.length_set
    | tp l ih => intro d ρ ρ' e; cases d with
      | tup ds => rw [bindT] at e; exact ih ds ρ ρ' e
      | _ => rw [bindT] at e <;> cases e
    | nil => rename_i ds ρ1 ρ2 e; cases ds with
      | nil => rw [bindTs] at e; cases e; rfl
      | cons d ds => rw [bindTs] at e <;> cases e
    | cons t ts ih1 ih2 => rename_i ds ρ ρ' e; cases ds with
      | nil => rw [bindTs] at e <;> cases e
      | cons d ds =>
        rw [bindTs] at e
        cases e1 : bindT t d ρ with
        | ok ρ1 => rw [e1] at e; exact (ih2 ds ρ1 ρ' e).trans (ih1 d ρ ρ1 e1)
        | exc c d => rw [e1] at e; cases e
        | bad => rw [e1] at e; cases e
  exact key T d ρ ρ' e
theorem lc_reads {fi : Env → Res (List D)} {vs : List Nat} {T : Tg} {fc : Env → Res Bool} {fe : Env → Res D} (hT : ∀ j ∈ tgS T, j ∈ vs) (σ : StH) (H : Hp) (Q : VK) (w : tF g W (lcD fi vs T fc fe) σ H Q) :
    tLc (tI g W fi) (tG g T) (tT g W0 fc) (tV g W0 fe) vs σ H Q := by
  obtain ⟨F, ρ, r, q⟩ := w
  refine ⟨F, ρ, r, out_imp (out_bind q) (fun ds hds q1 J F1 H1 x1 wk D hD => ?_) fun _ _ _ z => z⟩
  split at q1
  · rename_i hz
    have hz := lenOk_le hz
    have q1 := out_bind q1
    cases ec : compL T fc fe (wipeE ρ vs) ds with
    | ok all =>
      rw [ec] at q1
      have rw' := (r.ext x1).wiped vs
      have hFD : F1 D = none := x1.fh.out hD
      refine ⟨fun i m H' => m = ds.length - i ∧ i ≤ ds.length ∧ ∃ F' acc av, Ext g F1 H1 F' H' ∧ F' D = none ∧ H' D = some (.lst av) ∧ RepL g F' av acc ∧ acc.length ≤ i ∧
        ∃ r', compL T fc fe (wipeE ρ vs) (ds.drop i) = .ok r' ∧ acc ++ r' = all, ⟨_, rfl, Nat.zero_le _, F1, [], [], .allocO x1.fh hD, hFD, upd_same, .nil, Nat.le_refl _, all, ec, rfl⟩, ?_⟩
      rintro i m H2 ⟨rfl, hi, F2, acc, av, x2, fD, hD2, tr, hacc, r', er, eall⟩
      by_cases hlt : i < ds.length
      · refine .inr ⟨wk.go i F2 H2 x2.f x2.h x2.fh hlt, fun H' => ∃ F' acc av, Ext g F1 H1 F' H' ∧ F' D = none ∧ H' D = some (.lst av) ∧ RepL g F' av acc ∧ acc.length ≤ i + 1 ∧
          ∃ r', compL T fc fe (wipeE ρ vs) (ds.drop (i + 1)) = .ok r' ∧ acc ++ r' = all, fun H' ⟨F', acc, av, k⟩ => ⟨ds.length - (i + 1), by omega, rfl, hlt, F', acc, av, k⟩, fun x H3 y => ?_⟩
        obtain ⟨F3, d, x3, hd, rx⟩ := wk.yld i F2 H2 x H3 x2.f x2.h x2.fh hlt y
        have ed : ds.drop i = d :: ds.drop (i + 1) := by
          rw [List.drop_eq_getElem_cons hlt]
          rw [List.getElem?_eq_getElem hlt] at hd
          cases hd; rfl
        rw [ed, compL] at er
        cases e1 : bindT T d (wipeE ρ vs) with
        | ok ρ1 =>
          rw [e1] at er
          have x23 : Ext g F1 H1 F3 H3 := x2.trans x3
          have keepD : ∀ {Fa Ha Fb Hb : Hp} {ws : List V}, Ext g Fa Ha Fb Hb → Fa D = none → Ha D = some (.lst ws) → Fb D = none ∧ Hb D = some (.lst ws) := fun {Fa Ha Fb Hb ws} xx f h => (xx.own h f).symm
          obtain ⟨fD3, hD3⟩ := keepD x3 fD hD2
          refine ⟨F3, wipeE ρ vs, d, ρ1, rw'.ext x23, rx, e1, fun σ1 r1 k1 => ⟨?_, ?_⟩⟩
          · have hl : σ1.length = (wipe σ vs).length := by
              have h1 := r1.len
              have h2 := rw'.len
              have h3 := bind_len e1
              omega
            rw [wipe_eq hl fun j hj => k1 j fun z => hj (hT j z), wipe_idem]
          · refine ⟨F3, ρ1, r1, ?_⟩
            cases e2 : fc ρ1 with
            | ok b =>
              simp only [Res.bind_ok, e2] at er
              intro F4 H4 x4
              obtain ⟨fD4, hD4⟩ := keepD x4 fD3 hD3
              have x24 := x23.trans x4
              cases b with
              | true =>
                simp only [if_true] at er ⊢
                cases e3 : fe ρ1 with
                | ok y =>
                  simp only [Res.bind_ok, e3] at er
                  cases e4 : compL T fc fe (wipeE ρ vs) (ds.drop (i + 1)) with
                  | ok r2 =>
                    simp only [e4, Res.bind_ok] at er
                    cases er
                    refine ⟨F4, ρ1, r1.ext x4, ?_⟩
                    rw [e3]
                    intro v F5 H5 x5 pv
                    obtain ⟨fD5, hD5⟩ := keepD x5 fD4 hD4
                    have x25 := x24.trans x5
                    have ta : RepL g F5 av acc := tr.mono (x3.f.trans (x4.f.trans x5.f))
                    refine ⟨av, hD5, by rw [tr.length]; omega, F5, acc ++ [y], av ++ [v], x25.write hD5 (.of hD) fD5, fD5, upd_same, ta.append (.cons pv .nil), by rw [List.length_append]; simp; omega, r2, rfl, by rw [List.append_assoc]; exact eall⟩
                  | exc c d => simp only [e4] at er; cases er
                  | bad => simp only [e4] at er; cases er
                | exc c d => simp only [e3] at er; cases er
                | bad => simp only [e3] at er; cases er
              | false =>
                simp only [Bool.false_eq_true, if_false] at er ⊢
                exact ⟨F4, acc, av, x24, fD4, hD4, tr.mono (x3.f.trans x4.f), by omega, r', er, eall⟩
            | exc c d => simp only [e2, Res.bind_ok] at er; cases er
            | bad => simp only [e2, Res.bind_ok] at er; cases er
        | exc c d => rw [e1] at er; cases er
        | bad => rw [e1] at er; cases er
      · have hi' : i = ds.length := by omega
        subst hi'
        rw [List.drop_length, compL] at er
        cases er
        rw [List.append_nil] at eall
        subst eall
        refine .inl ⟨wk.stop _ F2 H2 x2.f x2.h x2.fh (Nat.le_refl _), ?_⟩
        have q1 : ∀ v F' H', Ext g F H F' H' → PF g F H F' H' v (.lst acc) → Q v H' := q1
        exact q1 _ F2 H2 (x1.trans x2) ⟨D, av, acc, rfl, rfl, hD2, x1.h.out (.of hD), fD, tr⟩
    | exc c d => rw [ec] at q1; exact q1.elim
    | bad => rw [ec] at q1; exact q1.elim
  · exact q1.elim
end
end PL
/-! PLg: comprehensions, isinstance, calls of defs, statements over plain data. -/
namespace PL
open PySem PySem.Spec L2

section
variable {X : Cx} {g : G} {W : WX} {pos p : Pos} {a e elt tg iter : Expr} {es ifs : List Expr} {fa : Env → Res D} {x : Str}

/-! ### comprehensions -/
theorem _root_.L2.PTs.imp {t t' : TT} (h : PTs X ifs t) (k : ∀ σ H Q, t' σ H Q → t σ H Q) : PTs X ifs t' := ⟨fun pins s σ H Q I q => h.run pins s σ H Q I (k σ H Q q)⟩
theorem dts_nil : PTs X [] (tT g W fun _ => .ok true) := pts_nil.imp fun σ H Q ⟨F, ρ, r, q⟩ => q F H (.refl r.fh)
theorem de_lc {scope : Scope} {own : List (Str × Nat)} {fi : Env → Res (List D)} {T : Tg} {fc : Env → Res Bool} {fe : Env → Res D} (hc : X.calm = true) (hN : X.N.Nodup) (hi : PI X tg iter (tI g W fi)) (ok : BlkOk X.N X.env.scope scope own)
    (hT : ∀ j ∈ tgS T, j ∈ own.map (·.2))
    (hg : ∀ (s : Shared) (H : Hp) (C : Addr) (cl : List (Str × Addr)) (fp : List Addr), PG (X.blk s H scope (compEnvC scope cl C X.env) fp) tg (tG g T))
    (ht : ∀ (s : Shared) (H : Hp) (C : Addr) (cl : List (Str × Addr)) (fp : List Addr), PTs (X.blk s H scope (compEnvC scope cl C X.env) fp) ifs (tT g W0 fc))
    (he : ∀ (s : Shared) (H : Hp) (C : Addr) (cl : List (Str × Addr)) (fp : List Addr), PE (X.blk s H scope (compEnvC scope cl C X.env) fp) elt (tV g W0 fe)) (hs : ∀ x, foldedSetIterable iter X.env x = pure x) :
    PE X (.ListComp elt [⟨tg, iter, ifs, 0⟩] scope pos) (tF g W (lcD fi (own.map (·.2)) T fc fe)) := (pe_lc hc hN hi ok hg ht he hs).imp (lc_reads hT)

/-! ### isinstance -/
theorem pcl_nil : PA X [] (fun _ H Q => Q [] H) := pa_nil
theorem pcl_cons {cs : List String} {c : String} (h : PE X e (tC (.ty c))) (hr : PA X es (fun _ H Q => Q (cs.map V.ty) H)) (hs : starEach (e :: es) X.env = (false, eval e X.env) :: starEach es X.env) : PA X (e :: es) (fun _ H Q => Q ((c :: cs).map V.ty) H) := pa_cons h hr hs
theorem cls_paired : ∀ cs : List String, Paired ClsV (cs.map V.ty) (cs.map Value.type)
  | [] => .nil
  | c :: cs => .cons (.ty c) (cls_paired cs)
theorem isiD_q (d : D) (cs : List String) (c : Nat) (y : D) : isiD d cs ≠ .exc c y := fun e => by
  unfold isiD at e
  split at e
  · split at e <;> cases e
  · cases e
theorem de_isi {c : String} {e2 : Expr} (hg : Gl X "isinstance") (hm : X.mg "isinstance" = none) (ha : PE X a (tB g W fa)) (hc : PE X e2 (tC (.ty c))) (hgK : X.K = g.K)
    (hs : starEach [a, e2] X.env = [(false, eval a X.env), (false, eval e2 X.env)]) (hs2 : starEach [e2] X.env = [(false, eval e2 X.env)]) :
    PE X (.Call (.Name "isinstance" p) [a, e2] [] pos) (tV g W fun ρ => do let x ← fa ρ; isiD x [c]) :=
  (pe_callB call_isi hg hm PyProof.Rows.boot_isinstance (pa_cons ha (pa_cons hc pa_nil (by rw [hs2]; rfl)) (by rw [hs, hs2])) (by decide) (by decide) (by rw [hs, hs2]) (by rw [hs2]; rfl)).imp fun σ H Q ⟨F, ρ, r, q⟩ => by
    refine ⟨F, ρ, r, out_imp (out_bind q) (fun dx _ q1 v F1 H1 x1 pv => ?_) fun _ _ _ z => z⟩
    unfold isiD at q1
    split at q1
    · rename_i t et
      split at q1
      · rename_i hcs
        refine ⟨v, .ty c, .type t, .type c, below t c, rfl, .ty c, by rw [hgK]; exact tyx_of x1.fh pv et, by rw [hgK]; exact kit_below et (by simpa using hcs), ?_⟩
        have e3 : [c].any (below t) = below t c := by simp
        rw [e3] at q1
        exact q1 _ F1 H1 x1 (.bl _)
      · exact q1.elim
    · exact q1.elim
theorem de_isiT {cs : List String} {k : Nat} {p3 : Pos} (hz : cs.length ≤ 100) (hg : Gl X "isinstance") (hm : X.mg "isinstance" = none) (ha : PE X a (tB g W fa)) (hc : PA X es (fun _ H Q => Q (cs.map V.ty) H)) (hgK : X.K = g.K)
    (hs : starEach [a, .Tuple es k p3] X.env = [(false, eval a X.env), (false, eval (.Tuple es k p3) X.env)]) (hs2 : starEach [.Tuple es k p3] X.env = [(false, eval (.Tuple es k p3) X.env)]) :
    PE X (.Call (.Name "isinstance" p) [a, .Tuple es k p3] [] pos) (tV g W fun ρ => do let x ← fa ρ; isiD x cs) :=
  (pe_callB call_isiT hg hm PyProof.Rows.boot_isinstance (pa_cons ha (pa_cons (pe_tup hc) pa_nil (by rw [hs2]; rfl)) (by rw [hs, hs2])) (by decide) (by decide) (by rw [hs, hs2]) (by rw [hs2]; rfl)).imp fun σ H Q ⟨F, ρ, r, q⟩ => by
    refine ⟨F, ρ, r, out_imp (out_bind q) (fun dx _ q1 v F1 H1 x1 pv => ?_) fun _ _ _ z => z⟩
    unfold isiD at q1
    split at q1
    · rename_i t et
      split at q1
      · rename_i hcs
        refine ⟨?_, fun tp htp => ⟨v, tp, cs.map V.ty, .type t, cs.map Value.type, cs.any (below t), rfl, upd_same, cls_paired cs, ?_, by rw [hgK]; exact kitAny_below et hcs, ?_⟩⟩
        · rw [List.length_map, sizeLine_eq]; omega
        · rw [hgK]
          exact tyx_of (F := F1) (Ext.allocO (g := g) x1.fh htp).fh (pv.mono (.refl _) (.of (.put htp))) et
        · exact q1 _ F1 _ (x1.trans (.allocO x1.fh htp)) (.bl _)
      · exact q1.elim
    · exact q1.elim
end
end PL
/-! PLh: statements over plain data. -/
namespace PL
open PySem PySem.Spec L2

inductive SO where
  | nx (ρ : Env) | rt (d : D) | bk (ρ : Env) | ct (ρ : Env) | xc (c : Nat) (d : D) (ρ : Env) | bad
structure RelS (g : G) (F0 H0 : Hp) (σ : StH) (F H : Hp) (ρ : Env) : Prop where
  e : RelE g σ F H ρ
  x : Ext g F0 H0 F H
  nw : ∀ (i : Nat) (l : List D) (a : Addr), ρ[i]? = some (.own l) → σ[i]? = some (some (.ref a)) → Fre H0 a
def soR (g : G) (W : WX) (F0 H0 : Hp) (E : Ends) (F : Hp) : SO → Prop
  | .nx ρ' => ∀ σ' F' H', Sub F F' → RelS g F0 H0 σ' F' H' ρ' → E.nx σ' H'
  | .rt d => ∀ v F' H', Ext g F0 H0 F' H' → Rep g F' v d → E.rt v H'
  | .bk ρ' => ∀ σ' F' H', Sub F F' → RelS g F0 H0 σ' F' H' ρ' → E.bk σ' H'
  | .ct ρ' => ∀ σ' F' H', Sub F F' → RelS g F0 H0 σ' F' H' ρ' → E.ct σ' H'
  | .xc c d ρ' => ∀ cls dd σ' F' H', Sub F F' → RelS g F0 H0 σ' F' H' ρ' → ExR g c d cls dd F' H' → W cls dd σ' H'
  | .bad => False
/-- a statement's reading over data, in a def that began at F0, H0 -/
def tS (g : G) (W : WX) (F0 H0 : Hp) (f : Env → SO) : TS := fun E σ H => ∃ F ρ, RelS g F0 H0 σ F H ρ ∧ soR g W F0 H0 E F (f ρ)
section
variable {X : Cx} {g : G} {W : WX} {F0 H0 : Hp} {st : Stmt} {sts : List Stmt}
theorem _root_.L2.PS.imp {t t' : TS} (h : PS X st t) (k : ∀ E σ H, t' E σ H → t E σ H) : PS X st t' := ⟨fun pins s σ H E I q => h.run pins s σ H E I (k E σ H q)⟩
theorem _root_.L2.PSs.imp {t t' : TS} (h : PSs X sts t) (k : ∀ E σ H, t' E σ H → t E σ H) : PSs X sts t' := ⟨fun pins s σ H E I q => h.run pins s σ H E I (k E σ H q)⟩
theorem soR.mono {E : Ends} {F F' : Hp} (s : Sub F F') {o : SO} (h : soR g W F0 H0 E F o) : soR g W F0 H0 E F' o := by
  cases o with
  | nx ρ => exact fun σ' F2 H' a b => h σ' F2 H' (s.trans a) b
  | rt d => exact h
  | bk ρ => exact fun σ' F2 H' a b => h σ' F2 H' (s.trans a) b
  | ct ρ => exact fun σ' F2 H' a b => h σ' F2 H' (s.trans a) b
  | xc c d ρ => exact fun cls dd σ' F2 H' a b => h cls dd σ' F2 H' (s.trans a) b
  | bad => exact h
theorem RelS.ext {σ : StH} {F H F' H' : Hp} {ρ : Env} (r : RelS g F0 H0 σ F H ρ) (x : Ext g F H F' H') : RelS g F0 H0 σ F' H' ρ := ⟨r.e.ext x, r.x.trans x, r.nw⟩
def sNx : Env → SO := fun ρ => .nx ρ
def sSeq (f k : Env → SO) : Env → SO := fun ρ => match f ρ with
  | .nx ρ' => k ρ'
  | o => o
theorem ds_nil : PSs X [] (tS g W F0 H0 sNx) := pss_nil.imp fun E σ H ⟨F, ρ, r, q⟩ => q σ F H (.refl F) r
theorem ds_cons {f k : Env → SO} (h1 : PS X st (tS g W F0 H0 f)) (h2 : PSs X sts (tS g W F0 H0 k)) : PSs X (st :: sts) (tS g W F0 H0 (sSeq f k)) :=
  (pss_cons h1 h2).imp fun E σ H ⟨F, ρ, r, q⟩ => by
    refine ⟨F, ρ, r, ?_⟩
    unfold sSeq at q
    cases e : f ρ with
    | nx ρ' =>
      rw [e] at q
      exact fun σ' F' H' s r' => ⟨F', ρ', r', q.mono s⟩
    | rt d => rw [e] at q; exact q
    | bk ρ' => rw [e] at q; exact q
    | ct ρ' => rw [e] at q; exact q
    | xc c d ρ' => rw [e] at q; exact q
    | bad => rw [e] at q; exact q
theorem ds_one {f : Env → SO} (h1 : PS X st (tS g W F0 H0 f)) : PSs X [st] (tS g W F0 H0 f) := pss_one h1

/-! ### an expression within -/
def sE (fe : Env → Res D) (k : D → Env → SO) : Env → SO := fun ρ => match fe ρ with
  | .ok d => k d ρ
  | .exc c d => .xc c d ρ
  | .bad => .bad
theorem of_sEx {P : RP} {fe : Env → Res D} {k : D → Env → SO} {E : Ends} {σ : StH} {F H : Hp} {ρ : Env} {Q : VK} (r : RelS g F0 H0 σ F H ρ) (q : soR g W F0 H0 E F (sE fe k ρ))
    (h : ∀ d v F' H', fe ρ = .ok d → Ext g F H F' H' → P F H F' H' v d → soR g W F0 H0 E F' (k d ρ) → Q v H') : tP g W P fe σ H Q := by
  refine ⟨F, ρ, r.e, ?_⟩
  unfold sE at q
  cases e : fe ρ with
  | ok d =>
    rw [e] at q
    exact fun v F' H' x p => h d v F' H' e x p (q.mono x.f)
  | exc c d =>
    rw [e] at q
    exact fun cls dd F' H' x z => q cls dd σ F' H' x.f (r.ext x) z
  | bad => rw [e] at q; exact q
theorem of_sE {P : RP} {fe : Env → Res D} {k : D → Env → SO} {E : Ends} {σ : StH} {H : Hp} {Q : VK} (w : tS g W F0 H0 (sE fe k) E σ H)
    (h : ∀ F ρ d v F' H', RelS g F0 H0 σ F H ρ → Ext g F H F' H' → P F H F' H' v d → soR g W F0 H0 E F' (k d ρ) → Q v H') : tP g W P fe σ H Q := by
  obtain ⟨F, ρ, r, q⟩ := w
  exact of_sEx r q fun d v F' H' _ x p q' => h F ρ d v F' H' r x p q'
def sT (fc : Env → Res Bool) (k : Bool → Env → SO) : Env → SO := fun ρ => match fc ρ with
  | .ok b => k b ρ
  | .exc c d => .xc c d ρ
  | .bad => .bad
theorem of_sT {fc : Env → Res Bool} {k : Bool → Env → SO} {E : Ends} {σ : StH} {H : Hp} {Q : Bool → Hp → Prop} (w : tS g W F0 H0 (sT fc k) E σ H)
    (h : ∀ F ρ b F' H', RelS g F0 H0 σ F H ρ → Ext g F H F' H' → soR g W F0 H0 E F' (k b ρ) → Q b H') : tT g W fc σ H Q := by
  obtain ⟨F, ρ, r, q⟩ := w
  refine ⟨F, ρ, r.e, ?_⟩
  unfold sT at q
  cases e : fc ρ with
  | ok b =>
    rw [e] at q
    exact fun F' H' x => h F ρ b F' H' r x (q.mono x.f)
  | exc c d =>
    rw [e] at q
    exact fun cls dd F' H' x z => q cls dd σ F' H' x.f (r.ext x) z
  | bad => rw [e] at q; exact q

variable {pos : Pos} {e : Expr} {fe : Env → Res D}
def sRet (fe : Env → Res D) : Env → SO := sE fe fun d _ => .rt d
theorem ds_ret (he : PE X e (tV g W fe)) : PS X (.Return (some e) pos) (tS g W F0 H0 (sRet fe)) := (ps_ret he).imp fun E σ H w =>
  of_sE w fun F ρ d v F' H' r x p q => q v F' H' (r.x.trans x) p
def sRetN : Env → SO := fun _ => .rt .non
theorem ds_retN : PS X (.Return none pos) (tS g W F0 H0 sRetN) := ps_retN.imp fun E σ H ⟨F, ρ, r, q⟩ => q .non F H r.x .non
def sPass : Env → SO := sNx
theorem ds_pass : PS X (.Pass pos) (tS g W F0 H0 sNx) := ps_pass.imp fun E σ H ⟨F, ρ, r, q⟩ => q σ F H (.refl F) r
def sBk : Env → SO := fun ρ => .bk ρ
def sCt : Env → SO := fun ρ => .ct ρ
theorem ds_break : PS X (.Break pos) (tS g W F0 H0 sBk) := ps_break.imp fun E σ H ⟨F, ρ, r, q⟩ => q σ F H (.refl F) r
theorem ds_continue : PS X (.Continue pos) (tS g W F0 H0 sCt) := ps_continue.imp fun E σ H ⟨F, ρ, r, q⟩ => q σ F H (.refl F) r
def sDrop (fe : Env → Res D) : Env → SO := sE fe fun _ ρ => .nx ρ
theorem ds_expr (he : PE X e (tV g W fe)) (hs : swapsWith e none pos.line X.env = pure false) : PS X (.Expr e pos) (tS g W F0 H0 (sDrop fe)) := (ps_expr he hs).imp fun E σ H w =>
  of_sE (P := PV g) (Q := fun _ H1 => E.nx σ H1) w fun F ρ d v F' H' r x p q => q σ F' H' (.refl F') (r.ext x)
def sIf (fc : Env → Res Bool) (a b : Env → SO) : Env → SO := sT fc fun c ρ => if c = true then a ρ else b ρ
theorem ds_if {c : Expr} {sa sb : List Stmt} {fc : Env → Res Bool} {fa fb : Env → SO} (hc : PT X c (tT g W fc)) (ha : PSs X sa (tS g W F0 H0 fa)) (hb : PSs X sb (tS g W F0 H0 fb)) : PS X (.If c sa sb pos) (tS g W F0 H0 (sIf fc fa fb)) :=
  (ps_if hc ha hb).imp fun E σ H w => of_sT w fun F ρ b F' H' r x q => by
    cases b with
    | true => exact ⟨F', ρ, r.ext x, q⟩
    | false => exact ⟨F', ρ, r.ext x, q⟩

/-! ### stores -/
theorem RelS.setV {σ : StH} {F H : Hp} {ρ : Env} (r : RelS g F0 H0 σ F H ρ) {i : Nat} {v : V} {d : D} (h : Rep g F v d) : RelS g F0 H0 (σ.set i (some v)) F H (ρ.set i (.val d)) :=
  ⟨r.e.setV h, r.x, fun j l a e1 e2 => by
    by_cases z : i = j
    · subst z
      have hi : i < ρ.length := by
        have := (List.getElem?_eq_some_iff.mp e1).1; simpa using this
      rw [List.getElem?_set_self hi] at e1
      cases e1
    · rw [List.getElem?_set_ne z] at e1 e2
      exact r.nw j l a e1 e2⟩
theorem RelS.setO {σ : StH} {F H : Hp} {ρ : Env} (r : RelS g F0 H0 σ F H ρ) {i : Nat} {a : Addr} {xs : List V} {l : List D} (h0 : Fre H0 a) (h1 : H a = some (.lst xs)) (h2 : F a = none) (h3 : RepL g F xs l)
    (hn : ∀ (j : Nat) (l' : List D), j ≠ i → ρ[j]? = some (.own l') → σ[j]? ≠ some (some (.ref a))) : RelS g F0 H0 (σ.set i (some (.ref a))) F H (ρ.set i (.own l)) :=
  ⟨r.e.setO h1 h2 h3 hn, r.x, fun j l' b e1 e2 => by
    by_cases z : i = j
    · subst z
      have hi : i < σ.length := by
        have := (List.getElem?_eq_some_iff.mp e2).1; simpa using this
      rw [List.getElem?_set_self hi] at e2
      cases e2
      exact h0
    · rw [List.getElem?_set_ne z] at e1 e2
      exact r.nw j l' b e1 e2⟩
def sSet (i : Nat) (fe : Env → Res D) : Env → SO := sE fe fun d ρ => .nx (ρ.set i (.val d))
theorem asgV {i : Nat} {E : Ends} {σ : StH} {H : Hp} (w : tS g W F0 H0 (sSet i fe) E σ H) : tV g W fe σ H (fun x H1 => gName i x σ H1 E.nx) :=
  of_sE w fun F ρ d v F' H' r x p q => q _ F' H' (.refl F') ((r.ext x).setV p)
def sOwn (i : Nat) (fe : Env → Res D) : Env → SO := sE fe fun d ρ => match d with
  | .lst l => .nx (ρ.set i (.own l))
  | _ => .bad
theorem asgO {i : Nat} {E : Ends} {σ : StH} {H : Hp} (w : tS g W F0 H0 (sOwn i fe) E σ H) : tF g W fe σ H (fun x H1 => gName i x σ H1 E.nx) :=
  of_sE w fun F ρ d v F' H' r x p q => by
    obtain ⟨a, xs, ds, rfl, rfl, h1, h2, h3, h4⟩ := p
    refine q _ F' H' (.refl F') ((r.ext x).setO (r.x.h.out h2) h1 h3 h4 fun j l' hj e1 e2 => ?_)
    obtain ⟨b, ys, s1, s2, _⟩ := r.e.own j l' e1
    rw [s1] at e2
    cases e2
    exact h2 _ nt_lst s2
theorem ds_set {i : Nat} {x : Str} {pos' : Pos} (hN : X.N.Nodup) (hi : X.N[i]? = some x) (hx : Loc X.env.scope x) (he : PE X e (tV g W fe)) (hs : swapsWith e (some (.Name x pos')) pos.line X.env = pure false) (hf : X.fn x = true ∨ X.env.scope.names.lookup x = some .local) :
    PS X (.Assign [.Name x pos'] e pos) (tS g W F0 H0 (sSet i fe)) := (ps_set hN hi hx he hs hf).imp fun E σ H w => asgV w
theorem ds_own {i : Nat} {x : Str} {pos' : Pos} (hN : X.N.Nodup) (hi : X.N[i]? = some x) (hx : Loc X.env.scope x) (he : PE X e (tF g W fe)) (hs : swapsWith e (some (.Name x pos')) pos.line X.env = pure false) (hf : X.fn x = true ∨ X.env.scope.names.lookup x = some .local) :
    PS X (.Assign [.Name x pos'] e pos) (tS g W F0 H0 (sOwn i fe)) := (ps_set hN hi hx he hs hf).imp fun E σ H w => asgO w
section
variable {i : Nat} {y : Str} {py spos : Pos} {elt tg iter : Expr} {ifs : List Expr} {scope : Scope} {own : List (Str × Nat)} {fi : Env → Res (List D)} {T : Tg} {fc : Env → Res Bool}
theorem ds_ownLc (hc : X.calm = true) (hN : X.N.Nodup) (hy : X.N[i]? = some y) (hyl : X.env.scope.names.lookup y = some .local) (hsw : swapsWith (.ListComp elt [⟨tg, iter, ifs, 0⟩] scope pos) (some (.Name y py)) spos.line X.env = pure true)
    (hi : PI X tg iter (tI g W fi)) (ok : BlkOk X.N X.env.scope scope own) (hT : ∀ j ∈ tgS T, j ∈ own.map (·.2))
    (hg : ∀ (s : Shared) (H : Hp) (C : Addr) (cl : List (Str × Addr)) (fp : List Addr), PG (X.blk s H scope (compEnvC scope cl C X.env) fp) tg (tG g T))
    (ht : ∀ (s : Shared) (H : Hp) (C : Addr) (cl : List (Str × Addr)) (fp : List Addr), PTs (X.blk s H scope (compEnvC scope cl C X.env) fp) ifs (tT g W0 fc))
    (he : ∀ (s : Shared) (H : Hp) (C : Addr) (cl : List (Str × Addr)) (fp : List Addr), PE (X.blk s H scope (compEnvC scope cl C X.env) fp) elt (tV g W0 fe)) (hs : ∀ x, foldedSetIterable iter X.env x = pure x) :
    PS X (.Assign [.Name y py] (.ListComp elt [⟨tg, iter, ifs, 0⟩] scope pos) spos) (tS g W F0 H0 (sOwn i (lcD fi (own.map (·.2)) T fc fe))) :=
  (ps_setLc hc hN hy hyl hsw hi ok hg ht he hs).imp fun E σ H w => lc_reads hT _ _ _ (asgO w)
end

/-- own lists frozen -/
def frz (i : Nat) (ρ : Env) : Env := match ρ[i]? with
  | some (.own l) => ρ.set i (.val (.lst l))
  | _ => ρ
def sFrz (i : Nat) (f : Env → SO) : Env → SO := fun ρ => f (frz i ρ)
theorem RelS.frz {σ : StH} {F H : Hp} {ρ : Env} (r : RelS g F0 H0 σ F H ρ) (i : Nat) : ∃ F', Sub F F' ∧ RelS g F0 H0 σ F' H (frz i ρ) := by
  unfold PL.frz
  split
  · rename_i l e
    obtain ⟨a, xs, s1, s2, s3, s4⟩ := r.e.own i l e
    have n0 := r.nw i l a e s1
    have sb : Sub F (upd F a (.lst xs)) := .put s3
    have hi : i < ρ.length := (List.getElem?_eq_some_iff.mp e).1
    refine ⟨_, sb, ⟨⟨by rw [List.length_set]; exact r.e.len, ?_, ?_, r.e.tb, ?_, ?_, ?_⟩, r.x.freeze nt_lst s2 n0 s3, ?_⟩⟩
    · intro b o h
      by_cases z : b = a
      · subst z; rw [upd_same] at h; cases h; exact s2
      · rw [upd_ne z] at h; exact r.e.fh _ _ h
    · intro b ps h
      by_cases z : b = a
      · subst z; rw [upd_same] at h; cases h
      · rw [upd_ne z] at h; exact r.e.nt _ _ h
    · intro j d h
      by_cases z : i = j
      · subst z
        rw [List.getElem?_set_self hi] at h
        cases h
        exact ⟨_, s1, .lst upd_same (s4.mono sb)⟩
      · rw [List.getElem?_set_ne z] at h
        obtain ⟨v, q1, q2⟩ := r.e.val j d h
        exact ⟨v, q1, q2.mono sb⟩
    · intro j l' h
      by_cases z : i = j
      · subst z
        rw [List.getElem?_set_self hi] at h
        cases h
      · rw [List.getElem?_set_ne z] at h
        obtain ⟨b, ys, q1, q2, q3, q4⟩ := r.e.own j l' h
        refine ⟨b, ys, q1, q2, ?_, q4.mono sb⟩
        rw [upd_ne (fun y => ?_)]
        · exact q3
        · subst y
          exact z (r.e.dis i j l l' b e h s1 q1)
    · intro j k l1 l2 b h1 h2
      have back : ∀ {j : Nat} {l' : List D}, (ρ.set i (.val (.lst l)))[j]? = some (Slot.own l') → ρ[j]? = some (Slot.own l') := fun {j l'} h => by
        by_cases z : i = j
        · subst z; rw [List.getElem?_set_self hi] at h; cases h
        · rw [List.getElem?_set_ne z] at h; exact h
      exact r.e.dis j k l1 l2 b (back h1) (back h2)
    · intro j l' b h
      by_cases z : i = j
      · subst z; rw [List.getElem?_set_self hi] at h; cases h
      · rw [List.getElem?_set_ne z] at h; exact r.nw j l' b h
  · exact ⟨F, .refl F, r⟩
theorem ds_frz {f : Env → SO} (i : Nat) (h : PS X st (tS g W F0 H0 f)) : PS X st (tS g W F0 H0 (sFrz i f)) := h.imp fun E σ H ⟨F, ρ, r, q⟩ => by
  obtain ⟨F', s, r'⟩ := r.frz i
  exact ⟨F', _, r', q.mono s⟩

/-! ### an own list is written -/
theorem RelS.write {σ : StH} {F H : Hp} {ρ : Env} (r : RelS g F0 H0 σ F H ρ) {i : Nat} {l l' : List D} {a : Addr} {xs ys : List V} (e : ρ[i]? = some (.own l)) (s1 : σ[i]? = some (some (.ref a))) (s2 : H a = some (.lst xs)) (s3 : F a = none) (t : RepL g F ys l') :
    RelS g F0 H0 σ F (upd H a (.lst ys)) (ρ.set i (.own l')) := by
  have n0 := r.nw i l a e s1
  have hi : i < ρ.length := (List.getElem?_eq_some_iff.mp e).1
  have back : ∀ {j : Nat} {k : Slot}, i ≠ j → (ρ.set i (.own l'))[j]? = some k → ρ[j]? = some k := fun {j k} z h => by rw [List.getElem?_set_ne z] at h; exact h
  refine ⟨⟨by rw [List.length_set]; exact r.e.len, ?_, r.e.nt, tabs_write s2 r.e.tb, ?_, ?_, ?_⟩, r.x.write s2 n0 s3, ?_⟩
  · intro b o h
    rw [upd_ne (fun z => by subst z; rw [s3] at h; cases h)]
    exact r.e.fh _ _ h
  · intro j d h
    by_cases z : i = j
    · subst z; rw [List.getElem?_set_self hi] at h; cases h
    · exact r.e.val j d (back z h)
  · intro j m h
    by_cases z : i = j
    · subst z
      rw [List.getElem?_set_self hi] at h
      cases h
      exact ⟨a, ys, s1, upd_same, s3, t⟩
    · have h := back z h
      obtain ⟨b, zs, q1, q2, q3, q4⟩ := r.e.own j m h
      refine ⟨b, zs, q1, ?_, q3, q4⟩
      rw [upd_ne (fun y => ?_)]
      · exact q2
      · subst y
        exact z (r.e.dis i j l m b e h s1 q1)
  · intro j k l1 l2 b h1 h2 q1 q2
    have get : ∀ {j : Nat} {m : List D}, (ρ.set i (.own l'))[j]? = some (Slot.own m) → ∃ m' : List D, ρ[j]? = some (Slot.own m') := fun {j m} h => by
      by_cases z : i = j
      · subst z; exact ⟨l, e⟩
      · exact ⟨m, back z h⟩
    obtain ⟨m1, h1⟩ := get h1
    obtain ⟨m2, h2⟩ := get h2
    exact r.e.dis j k m1 m2 b h1 h2 q1 q2
  · intro j m b h q1
    by_cases z : i = j
    · subst z; exact r.nw i l b e q1
    · exact r.nw j m b (back z h) q1
def sOwnAt (i : Nat) (k : List D → Env → SO) : Env → SO := fun ρ => match ρ[i]? with
  | some (Slot.own l) => k l ρ
  | _ => .bad
theorem of_own {i : Nat} {k : List D → Env → SO} {E : Ends} {σ : StH} {F H : Hp} {ρ : Env} (r : RelS g F0 H0 σ F H ρ) (q : soR g W F0 H0 E F (sOwnAt i k ρ)) :
    ∃ l a xs, ρ[i]? = some (Slot.own l) ∧ σ[i]? = some (some (V.ref a)) ∧ H a = some (.lst xs) ∧ F a = none ∧ RepL g F xs l ∧ soR g W F0 H0 E F (k l ρ) := by
  unfold sOwnAt at q
  split at q
  · rename_i l e
    obtain ⟨a, xs, s1, s2, s3, s4⟩ := r.e.own i l e
    exact ⟨l, a, xs, e, s1, s2, s3, s4, q⟩
  · exact q.elim
/-- where the list stands later -/
theorem own_later {i : Nat} {l : List D} {σ : StH} {F H : Hp} {ρ : Env} {a : Addr} {xs : List V} {F' H' : Hp} (r : RelS g F0 H0 σ F H ρ) (x : Ext g F H F' H') (e : ρ[i]? = some (Slot.own l)) (s1 : σ[i]? = some (some (V.ref a))) (s2 : H a = some (.lst xs)) :
    H' a = some (.lst xs) ∧ F' a = none ∧ RepL g F' xs l := by
  have hx := x.h.lst s2
  obtain ⟨a', xs', t1, t2, t3, t4⟩ := (r.ext x).e.own i l e
  rw [s1] at t1; cases t1
  rw [hx] at t2; cases t2
  exact ⟨hx, t3, t4⟩
def sApp (i : Nat) (fe : Env → Res D) : Env → SO := sOwnAt i fun l => sE fe fun d ρ => if lenOk (l.length + 1) = true then .nx (ρ.set i (.own (l ++ [d]))) else .bad
theorem lenOk_lt {n : Nat} (h : lenOk (n + 1) = true) : n < sizeLine := lenOk_le h
theorem ds_app {i : Nat} {x : Str} {p1 apos cpos : Pos} (hi : X.N[i]? = some x) (hv : Vis X.env.scope x) (hd : (x == ("__debug__" : Str)) = false) (hcd : (x == ("__classdict__" : Str)) = false) (he : PE X e (tV g W fe))
    (hbase : attributeBase (.Name x p1) "append" X.env (eval (.Name x p1) X.env) = eval (.Name x p1) X.env) (hline : (apos.endLine == cpos.line) = true) (hse : starEach [e] X.env = [(false, eval e X.env)])
    (hs : swapsWith (.Call (.Attribute (.Name x p1) "append" apos) [e] [] cpos) none pos.line X.env = pure false) :
    PS X (.Expr (.Call (.Attribute (.Name x p1) "append" apos) [e] [] cpos) pos) (tS g W F0 H0 (sApp i fe)) :=
  (ps_expr (pe_bm PySem.F.plainAttrs_list PySem.F.slot_list_append PySem.F.type_list_append mt_append (pe_var hi hv hd hcd) (pa_cons he pa_nil (by rw [hse]; rfl)) hbase (by rw [hse]; rfl) hline (by rw [hse]; rfl) (by rfl)) hs).imp fun E σ H w => by
    obtain ⟨F, ρ, r, q⟩ := w
    obtain ⟨l, a, xs, e, s1, s2, s3, s4, q⟩ := of_own r q
    refine ⟨.ref a, s1, .inl ⟨rfl, xs, .of s2⟩, ?_⟩
    refine of_sEx (P := PV g) r q fun d v F' H' _ x p q1 => ?_
    split at q1
    · rename_i hz
      obtain ⟨t2, t3, t4⟩ := own_later r x e s1 s2
      refine ⟨a, xs, v, rfl, rfl, t2, by rw [t4.length]; exact lenOk_lt hz, ?_⟩
      exact q1 σ F' _ (.refl F') ((r.ext x).write e s1 t2 t3 (t4.append (.cons p .nil)))
    · exact q1.elim
/-- x[i] = e -/
def sSetIx (i : Nat) (fi fe : Env → Res D) : Env → SO := sE fe fun d => sOwnAt i fun l => sE fi fun k ρ => match k with
  | .int k => (match ixN l.length k with
    | some j => .nx (ρ.set i (.own (l.set j d)))
    | none => .bad)
  | _ => .bad
theorem ds_setIx {i : Nat} {x : Str} {p1 p2 : Pos} {ix : Expr} {fi : Env → Res D} (hi : X.N[i]? = some x) (hv : Vis X.env.scope x) (hd : (x == ("__debug__" : Str)) = false) (hcd : (x == ("__classdict__" : Str)) = false) (he : PE X e (tV g W fe)) (hix : PE X ix (tV g W fi))
    (ha : ∀ v, assign (.Subscript (.Name x p1) ix p2) X.env v = (do
      let ov ← holding [v] (eval (.Name x p1) X.env)
      let iv ← holding [v, ov] (eval ix X.env)
      standAt p2
      holding [v, ov, iv] (setItem ov iv v)
      release [v, ov, iv] []))
    (hs : swapsWithSole [.Subscript (.Name x p1) ix p2] e pos.line X.env = pure false) (hw : swappedStores [.Subscript (.Name x p1) ix p2] e X.env = pure none) (h1 : (assignEach [.Subscript (.Name x p1) ix p2] X.env).map (·.2) = [assign (.Subscript (.Name x p1) ix p2) X.env]) :
    PS X (.Assign [.Subscript (.Name x p1) ix p2] e pos) (tS g W F0 H0 (sSetIx i fi fe)) :=
  (ps_asg he (pg_sub (pe_var hi hv hd hcd) hix set_list ha) hs hw h1).imp fun E σ H ⟨F, ρ, r, q⟩ => by
    refine of_sEx (P := PV g) r q fun d v F1 H1 _ x1 p1 q1 => ?_
    have r1 := r.ext x1
    obtain ⟨l, a, xs, e, s1, s2, s3, s4, q1⟩ := of_own r1 q1
    refine ⟨.ref a, s1, ?_⟩
    refine of_sEx (P := PV g) r1 q1 fun k kv F2 H2 _ x2 p2 q2 => ?_
    cases k with
    | int k =>
      cases p2
      have q2 : soR g W F0 H0 E F2 (match ixN l.length k with | some j => SO.nx (ρ.set i (.own (l.set j d))) | none => .bad) := q2
      obtain ⟨t2, t3, t4⟩ := own_later r1 x2 e s1 s2
      cases hj : ixN l.length k with
      | some j =>
        rw [hj] at q2
        exact ⟨a, xs, k, j, rfl, rfl, t2, by rw [t4.length]; exact hj, q2 σ F2 _ (.refl F2) ((r1.ext x2).write e s1 t2 t3 (t4.set (p1.mono x2.f) j))⟩
      | none => rw [hj] at q2; exact q2.elim
    | _ => exact q2.elim
/-- what stands at x[i] (an int) -/
def tgL : V → V → Hp → VK → Prop := fun o i H Q => ∃ p xs k v, o = .ref p ∧ i = .int k ∧ H p = some (.lst xs) ∧ 0 ≤ k ∧ atI xs k = some v ∧ Q v H
theorem pget_list : PGet X tgL := by
  intro pins s σ H o i ov iv Q I ro ri h
  obtain ⟨p, xs, k, v, rfl, rfl, hp, h0, he, q⟩ := h
  cases ro
  obtain ⟨t, rfl⟩ := ri
  obtain ⟨its, r, pl, hz⟩ := I.list (SqL.of hp)
  obtain ⟨j, h1, h2, h3, h4, h5⟩ := atI_get he
  obtain ⟨w, ew, rw'⟩ := r.get h2
  have hn := line63
  have hj : k.toNat = j := by
    rw [seqIndex_of h0 h5] at h1
    exact Option.some.inj h1
  exact wpAny_getItem_list pl.isList h0 (by omega) (by rw [hj]; simpa using ew) ⟨v, H, I, rw', q⟩
def iAt (l : List D) (k : D) : Option (Nat × Int) := match k with
  | .int k => if 0 ≤ k ∧ k < l.length then (match l[k.toNat]? with
    | some (.int a) => some (k.toNat, a)
    | _ => none) else none
  | _ => none
/-- x[i] op= e, ints -/
def sAugIx (i : Nat) (op : Int → Int → Int) (fi fe : Env → Res D) : Env → SO := sOwnAt i fun l => sE fi fun k ρ => match iAt l k with
  | some p => sE fe (fun d ρ => match d with
    | .int b => .nx (ρ.set i (.own (l.set p.1 (.int (op p.2 b)))))
    | _ => .bad) ρ
  | none => .bad
theorem iAt_some {l : List D} {k : D} {j : Nat} {a : Int} (h : iAt l k = some (j, a)) : k = .int j ∧ j < l.length ∧ l[j]? = some (.int a) := by
  unfold iAt at h
  split at h
  · rename_i k
    split at h
    · rename_i hk
      split at h
      · rename_i a' e
        cases h
        exact ⟨by rw [Int.toNat_of_nonneg hk.1], by omega, e⟩
      · cases h
    · cases h
  · cases h
theorem ds_augIx {i : Nat} {x : Str} {p1 p2 : Pos} {ix : Expr} {fi : Env → Res D} {op : Operator} {f : Int → Int → Int} (hi : X.N[i]? = some x) (hv : Vis X.env.scope x) (hd : (x == ("__debug__" : Str)) = false) (hcd : (x == ("__classdict__" : Str)) = false)
    (hix : PE X ix (tV g W fi)) (he : PE X e (tV g W fe)) (ho : PIp X op (ipI f))
    (ha : ∀ ov iv new, augStore ix ov iv new = (do holding [new, ov, iv] (setItem ov iv new); release [new, ov, iv] []; pure .next)) :
    PS X (.AugAssign (.Subscript (.Name x p1) ix p2) op e pos) (tS g W F0 H0 (sAugIx i f fi fe)) :=
  (ps_augS (pe_var hi hv hd hcd) hix pget_list he ho set_list ha).imp fun E σ H ⟨F, ρ, r, q⟩ => by
    obtain ⟨l, a, xs, e, s1, s2, s3, s4, q⟩ := of_own r q
    refine ⟨.ref a, s1, ?_⟩
    refine of_sEx (P := PV g) r q fun k kv F1 H1 _ x1 p1 q1 => ?_
    have r1 := r.ext x1
    obtain ⟨t2, t3, t4⟩ := own_later r x1 e s1 s2
    cases hk : iAt l k with
    | none => rw [hk] at q1; exact q1.elim
    | some p =>
    obtain ⟨j, b⟩ := p
    rw [hk] at q1
    obtain ⟨rfl, hj, hb⟩ := iAt_some hk
    cases p1
    obtain ⟨vb, g1, g2⟩ := t4.get j hb
    cases g2
    refine ⟨a, xs, j, .int b, rfl, rfl, t2, by omega, atI_nat g1, ?_⟩
    refine of_sEx (P := PV g) r1 q1 fun d v F2 H2 _ x2 p2 q2 => ?_
    cases d with
    | int c =>
      cases p2
      have r2 := r1.ext x2
      obtain ⟨u2, u3, u4⟩ := own_later r1 x2 e s1 t2
      refine ⟨b, c, rfl, rfl, a, xs, j, j, rfl, rfl, u2, ?_, q2 σ F2 _ (.refl F2) (r2.write e s1 u2 u3 (u4.set (.int _) j))⟩
      unfold ixN
      rw [if_pos (by omega), if_pos (by rw [u4.length]; omega)]
      simp
    | _ => exact q2.elim
/-- x op= e, ints -/
def sAug (i : Nat) (op : Int → Int → Int) (fe : Env → Res D) : Env → SO := fun ρ => match ρ[i]? with
  | some (Slot.val (.int a)) => sE fe (fun d ρ => match d with
    | .int b => .nx (ρ.set i (.val (.int (op a b))))
    | _ => .bad) ρ
  | _ => .bad
theorem ds_aug {i : Nat} {x : Str} {p1 : Pos} {op : Operator} {f : Int → Int → Int} (hN : X.N.Nodup) (hi : X.N[i]? = some x) (hx : Loc X.env.scope x) (he : PE X e (tV g W fe)) (ho : PIp X op (ipI f)) (hf : X.fn x = true ∨ X.env.scope.names.lookup x = some .local) :
    PS X (.AugAssign (.Name x p1) op e pos) (tS g W F0 H0 (sAug i f fe)) :=
  (ps_aug hN hi hx he ho hf).imp fun E σ H ⟨F, ρ, r, q⟩ => by
    unfold sAug at q
    split at q
    · rename_i a ea
      obtain ⟨v, h1, h2⟩ := r.e.val i _ ea
      cases h2
      refine ⟨_, h1, of_sEx (P := PV g) r q fun d v F1 H1 _ x1 p1 q1 => ?_⟩
      cases d with
      | int b =>
        cases p1
        exact ⟨a, b, rfl, rfl, q1 _ F1 H1 (.refl F1) ((r.ext x1).setV (.int _))⟩
      | _ => exact q1.elim
    · exact q.elim

/-! ### tuple targets -/
theorem bind_own : ∀ (T : Tg) (d : D) (ρ ρ' : Env), bindT T d ρ = .ok ρ' → ∀ (i : Nat) (l : List D), ρ'[i]? = some (Slot.own l) → ρ[i]? = some (Slot.own l) ∧ i ∉ tgS T := by
  intro T
  induction T using Tg.rec (motive_2 := fun ts => ∀ (ds : List D) (ρ ρ' : Env), bindTs ts ds ρ = .ok ρ' → ∀ (i : Nat) (l : List D), ρ'[i]? = some (Slot.own l) → ρ[i]? = some (Slot.own l) ∧ i ∉ tgSs ts) with
  | nm k =>
    intro d ρ ρ' e i l h
    rw [bindT] at e
    cases e
    by_cases z : k = i
    · subst z
      have hi : k < ρ.length := by
        have := (List.getElem?_eq_some_iff.mp h).1; simpa using this
      rw [List.getElem?_set_self hi] at h
      cases h
    · rw [List.getElem?_set_ne z] at h
      exact ⟨h, by rw [tgS]; simpa using fun y => z y.symm⟩
  | tp ts ih =>
    intro d ρ ρ' e i l h
    cases d with
    | tup ds => rw [bindT] at e; rw [tgS]; exact ih ds ρ ρ' e i l h
    | _ => rw [bindT] at e <;> cases e
  | nil =>
    rename_i ds ρ ρ' e i l h
    cases ds with
    | nil => rw [bindTs] at e; cases e; exact ⟨h, by rw [tgSs]; simp⟩
    | cons d ds => rw [bindTs] at e <;> cases e
  | cons t ts ih1 ih2 =>
    rename_i ds ρ ρ' e i l h
    cases ds with
    | nil => rw [bindTs] at e <;> cases e
    | cons d ds =>
      rw [bindTs] at e
      cases e1 : bindT t d ρ with
      | ok ρ1 =>
        rw [e1] at e
        obtain ⟨a1, a2⟩ := ih2 ds ρ1 ρ' e i l h
        obtain ⟨b1, b2⟩ := ih1 d ρ ρ1 e1 i l a1
        exact ⟨b1, by rw [tgSs, List.mem_append, not_or]; exact ⟨b2, a2⟩⟩
      | exc c d => rw [e1] at e; cases e
      | bad => rw [e1] at e; cases e
theorem RelS.bind {σ σ' : StH} {F H : Hp} {ρ ρ' : Env} {T : Tg} {d : D} (r : RelS g F0 H0 σ F H ρ) (e : bindT T d ρ = .ok ρ') (r' : RelE g σ' F H ρ') (k : ∀ j, j ∉ tgS T → σ'[j]? = σ[j]?) : RelS g F0 H0 σ' F H ρ' :=
  ⟨r', r.x, fun i l a h1 h2 => by
    obtain ⟨b1, b2⟩ := bind_own T d ρ ρ' e i l h1
    exact r.nw i l a b1 (by rw [← k i b2]; exact h2)⟩
def sBind (T : Tg) (d : D) (k : Env → SO) : Env → SO := fun ρ => match bindT T d ρ with
  | .ok ρ' => k ρ'
  | _ => .bad
def sAsg (T : Tg) (fe : Env → Res D) : Env → SO := sE fe fun d => sBind T d sNx
theorem ds_asg {tg : Expr} {T : Tg} (he : PE X e (tV g W fe)) (hg : PG X tg (tG g T)) (hs : swapsWithSole [tg] e pos.line X.env = pure false) (hw : swappedStores [tg] e X.env = pure none) (h1 : (assignEach [tg] X.env).map (·.2) = [assign tg X.env]) :
    PS X (.Assign [tg] e pos) (tS g W F0 H0 (sAsg T fe)) := (ps_asg he hg hs hw h1).imp fun E σ H ⟨F, ρ, r, q⟩ => by
  refine of_sEx (P := PV g) r q fun d v F1 H1 _ x1 p1 q1 => ?_
  have r1 := r.ext x1
  unfold sBind at q1
  cases eb : bindT T d ρ with
  | ok ρ' =>
    rw [eb] at q1
    exact ⟨F1, ρ, d, ρ', r1.e, p1, eb, fun σ' r' k => q1 σ' F1 H1 (.refl F1) (r1.bind eb r' k)⟩
  | exc c d => rw [eb] at q1; exact q1.elim
  | bad => rw [eb] at q1; exact q1.elim
/-- a, b = x, y (plain local names) -/
def sPar (i j : Nat) (fa fb : Env → Res D) : Env → SO := sE fa fun x => sE fb fun y ρ => .nx ((ρ.set i (.val x)).set j (.val y))
theorem ds_par {i j : Nat} {x y : Str} {a b : Expr} {fa fb : Env → Res D} {px py pt : Pos} {kt k2 pt2} (hc : X.calm = true) (hN : X.N.Nodup) (hi : X.N[i]? = some x) (hj : X.N[j]? = some y) (hij : i ≠ j)
    (hx : X.env.scope.names.lookup x = some .local) (hy : X.env.scope.names.lookup y = some .local) (ha : PE X a (tV g W fa)) (hb : PE X b (tV g W fb)) (hs1 : starEach [a, b] X.env = (false, eval a X.env) :: starEach [b] X.env) (hs2 : starEach [b] X.env = [(false, eval b X.env)])
    (hw : swappedStores [.Tuple [.Name x px, .Name y py] kt pt] (.Tuple [a, b] k2 pt2) X.env = pure (some [x, y]))
    (hs : swapsWithSole [.Tuple [.Name x px, .Name y py] kt pt] (.Tuple [a, b] k2 pt2) pos.line X.env = pure false) :
    PS X (.Assign [.Tuple [.Name x px, .Name y py] kt pt] (.Tuple [a, b] k2 pt2) pos) (tS g W F0 H0 (sPar i j fa fb)) :=
  (ps_par hc hN hi hj hij hx hy (pa_cons ha (pa_cons hb pa_nil (by rw [hs2]; rfl)) hs1) hw hs).imp fun E σ H ⟨F, ρ, r, q⟩ => by
    refine of_sEx (P := PV g) r q fun d v F1 H1 _ x1 p1 q1 => ?_
    refine of_sEx (P := PV g) (r.ext x1) q1 fun d2 v2 F2 H2 _ x2 p2 q2 => ?_
    exact ⟨v, v2, rfl, q2 _ F2 H2 (.refl F2) ((((r.ext x1).ext x2).setV (p1.mono x2.f)).setV p2)⟩

/-! ### loops -/
def forL (T : Tg) (body : Env → SO) : List D → Env → SO
  | [], ρ => .nx ρ
  | d :: ds, ρ => sBind T d (fun ρ1 => match body ρ1 with
    | .nx ρ' => forL T body ds ρ'
    | .ct ρ' => forL T body ds ρ'
    | .bk ρ' => .nx ρ'
    | o => o) ρ
def sI (fi : Env → Res (List D)) (k : List D → Env → SO) : Env → SO := fun ρ => match fi ρ with
  | .ok ds => k ds ρ
  | .exc c d => .xc c d ρ
  | .bad => .bad
def sFor (T : Tg) (fi : Env → Res (List D)) (body : Env → SO) : Env → SO := sI fi (forL T body)
theorem for_reads {fi : Env → Res (List D)} {T : Tg} {body : Env → SO} (E : Ends) (σ : StH) (H : Hp) (w : tS g W F0 H0 (sFor T fi body) E σ H) : tFor (tIF g W fi) (tG g T) (tS g W F0 H0 body) E σ H := by
  obtain ⟨F, ρ, r, q⟩ := w
  refine ⟨F, ρ, r.e, ?_⟩
  unfold sFor sI at q
  cases ei : fi ρ with
  | exc c d =>
    rw [ei] at q
    exact fun cls dd F' H' x z => q cls dd σ F' H' x.f (r.ext x) z
  | bad => rw [ei] at q; exact q
  | ok ds =>
    rw [ei] at q
    intro J F1 H1 x1 wk
    refine ⟨fun i m σ' H' => m = ds.length - i ∧ i ≤ ds.length ∧ ∃ F' ρ', Sub F1 F' ∧ RelS g F0 H0 σ' F' H' ρ' ∧ soR g W F0 H0 E F' (forL T body (ds.drop i) ρ'), ⟨_, rfl, Nat.zero_le _, F1, ρ, .refl F1, r.ext x1, q.mono x1.f⟩, ?_⟩
    rintro i m σ2 H2 ⟨rfl, hi, F2, ρ2, s2, r2, q2⟩
    by_cases hlt : i < ds.length
    · refine .inr ⟨wk.go i F2 H2 s2 (.of (s2.trans r2.e.fh)) r2.e.fh hlt, fun σ' H' => ∃ F' ρ', Sub F1 F' ∧ RelS g F0 H0 σ' F' H' ρ' ∧ soR g W F0 H0 E F' (forL T body (ds.drop (i + 1)) ρ'), fun σ' H' ⟨F', ρ', k⟩ => ⟨ds.length - (i + 1), by omega, rfl, hlt, F', ρ', k⟩, fun x H3 y => ?_⟩
      obtain ⟨F3, d, x3, hd, rx⟩ := wk.yld i F2 H2 x H3 s2 (.of (s2.trans r2.e.fh)) r2.e.fh hlt y
      have ed : ds.drop i = d :: ds.drop (i + 1) := by
        rw [List.drop_eq_getElem_cons hlt]
        rw [List.getElem?_eq_getElem hlt] at hd
        cases hd; rfl
      rw [ed] at q2
      unfold forL sBind at q2
      cases eb : bindT T d ρ2 with
      | exc c d => rw [eb] at q2; exact q2.elim
      | bad => rw [eb] at q2; exact q2.elim
      | ok ρ3 =>
        rw [eb] at q2
        have r3 := r2.ext x3
        refine ⟨F3, ρ2, d, ρ3, r3.e, rx, eb, fun σ' r' k => ⟨F3, ρ3, r3.bind eb r' k, ?_⟩⟩
        have q2 : soR g W F0 H0 E F2 (match body ρ3 with
          | .nx ρ' => forL T body (ds.drop (i + 1)) ρ'
          | .ct ρ' => forL T body (ds.drop (i + 1)) ρ'
          | .bk ρ' => .nx ρ'
          | o => o) := q2
        have q3 := q2.mono x3.f
        have s3 := s2.trans x3.f
        cases e2 : body ρ3 with
        | nx ρ' => rw [e2] at q3; exact fun σ4 F4 H4 s4 r4 => ⟨F4, ρ', s3.trans s4, r4, q3.mono s4⟩
        | ct ρ' => rw [e2] at q3; exact fun σ4 F4 H4 s4 r4 => ⟨F4, ρ', s3.trans s4, r4, q3.mono s4⟩
        | bk ρ' => rw [e2] at q3; exact q3
        | rt d => rw [e2] at q3; exact q3
        | xc c d ρ' => rw [e2] at q3; exact q3
        | bad => rw [e2] at q3; exact q3
    · have hi' : i = ds.length := by omega
      subst hi'
      rw [List.drop_length] at q2
      exact .inl ⟨wk.stop _ F2 H2 s2 (.of (s2.trans r2.e.fh)) r2.e.fh (Nat.le_refl _), q2 σ2 F2 H2 (.refl F2) r2⟩
theorem ds_for {tg iter : Expr} {body : List Stmt} {fi : Env → Res (List D)} {T : Tg} {fb : Env → SO} (hp : PassesOwn (model X.prog X.w) X.A X.env X.xe) (hc : X.calm = true) (hi : PI X tg iter (tIF g W fi)) (hg : PG X tg (tG g T)) (hb : PSs X body (tS g W F0 H0 fb))
    (hs : ∀ x, foldedSetIterable iter X.env x = pure x) : PS X (.For tg iter body [] pos) (tS g W F0 H0 (sFor T fi fb)) := (ps_for hp hc hi hg hb hs).imp for_reads
def whileL (fc : Env → Res Bool) (body : Env → SO) : Nat → Env → SO
  | 0, _ => .bad
  | n + 1, ρ => sT fc (fun b ρ => if b = true then (match body ρ with
    | .nx ρ' => whileL fc body n ρ'
    | .ct ρ' => whileL fc body n ρ'
    | .bk ρ' => .nx ρ'
    | o => o) else .nx ρ) ρ
theorem while_reads {fc : Env → Res Bool} {body : Env → SO} {n : Nat} (E : Ends) (σ : StH) (H : Hp) (w : tS g W F0 H0 (whileL fc body n) E σ H) : tWhile (tT g W fc) (tS g W F0 H0 body) E σ H := by
  refine ⟨fun m σ' H' => tS g W F0 H0 (whileL fc body m) E σ' H', ⟨n, w⟩, fun m σ1 H1 w1 => ?_⟩
  cases m with
  | zero => obtain ⟨F, ρ, r, q⟩ := w1; exact q.elim
  | succ m =>
    refine of_sT w1 fun F ρ b F2 H2 r x q => ?_
    have r2 := r.ext x
    cases b with
    | false => exact q σ1 F2 H2 (.refl F2) r2
    | true =>
      rw [if_pos rfl]
      refine ⟨tS g W F0 H0 (whileL fc body m) E, fun σ' H' k => ⟨m, Nat.lt_succ_self m, k⟩, F2, ρ, r2, ?_⟩
      have q : soR g W F0 H0 E F2 (match body ρ with
        | .nx ρ' => whileL fc body m ρ'
        | .ct ρ' => whileL fc body m ρ'
        | .bk ρ' => .nx ρ'
        | o => o) := q
      cases e2 : body ρ with
      | nx ρ' => rw [e2] at q; exact fun σ4 F4 H4 s4 r4 => ⟨F4, ρ', r4, q.mono s4⟩
      | ct ρ' => rw [e2] at q; exact fun σ4 F4 H4 s4 r4 => ⟨F4, ρ', r4, q.mono s4⟩
      | bk ρ' => rw [e2] at q; exact q
      | rt d => rw [e2] at q; exact q
      | xc c d ρ' => rw [e2] at q; exact q
      | bad => rw [e2] at q; exact q
theorem ds_while {c : Expr} {body : List Stmt} {fc : Env → Res Bool} {fb : Env → SO} (n : Nat) (hp : PassesOwn (model X.prog X.w) X.A X.env X.xe) (hc : PT X c (tT g W fc)) (hb : PSs X body (tS g W F0 H0 fb)) : PS X (.While c body [] pos) (tS g W F0 H0 (whileL fc fb n)) :=
  (ps_while hp hc hb).imp while_reads
end
end PL
/-! PLi: an own exception over Exception whose __init__ keeps one field; calls of defs, defs, raise, try. -/
namespace PL
open PySem PySem.Spec L2
def isRf : Value → Bool
  | .ref _ => true
  | _ => false
def exT : List Value := [.type "Exception", .type "BaseException", .type "object"]
/-- own classes, then what stands above Exception -/
def overEx (l : List Value) : Bool := l.dropWhile isRf == exT
theorem overEx_is : ∀ {l : List Value}, overEx l = true → ∃ cs : List Addr, l = cs.map Value.ref ++ exT
  | [], e => absurd e (by decide)
  | v :: l, e => by
    unfold overEx at e
    rw [List.dropWhile_cons] at e
    split at e
    · rename_i hv
      cases v with
      | ref c =>
        obtain ⟨cs, h⟩ := overEx_is (l := l) e
        exact ⟨c :: cs, by rw [h]; rfl⟩
      | _ => cases hv
    · exact ⟨[], by simpa using e⟩
theorem over_pass (self : Value) (cs : List Addr) : refuseLoop self "__setattr__" (cs.map Value.ref ++ exT) = pure () := by
  induction cs with
  | nil => exact F.store_Exception.passes self
  | cons c cs ih => rw [List.map_cons, List.cons_append, refuseLoop_ref]; exact ih
theorem over_has (n : String) (cs : List Addr) : (cs.map Value.ref ++ exT).contains (.type n) = exT.contains (.type n) := by
  induction cs with
  | nil => rfl
  | cons c cs ih => rw [List.map_cons, List.cons_append, List.contains_cons, ih]; rfl
section
variable {prog : Program} {w : World} {A : Around} {R : Result → Shared → Prop} {hp : Heap} {g : Array GenState} {d : Drawn} {t : Nat} {os : OsState}
open Builtin Builtin.ObjectAttr in
/-- the first field of such an exception -/
theorem osaE {K : PySem.W.Frag} {name : Str} {tk : Tok} {v : Value} {x C : Addr} {fv : Array Value} {cd : ClassData} {cs : List Addr}
    (kIn : K.In hp) (obj : hp.get? x = some { cls := .ref C, data := .fields fv }) (cls : PySem.W.clsIn K C = some cd) (mro : cd.mro = cs.map Value.ref ++ exT) (hasD : cd.hasDict = true) (free : PySem.W.findIn K (.ref C) name = some none)
    (fin : ∀ h' tk' dx, (∀ b o, b ≠ x → hp.get? b = some o → h'.get? b = some o) → hp.objs.size ≤ dx → dx ≠ x → h'.get? x = some { cls := .ref C, dict := some dx, data := .fields fv } →
      h'.Ns1 dx (fun y => if y = name then some v else none) → R (.ok (.ret .none)) ⟨h', g, d, tk', os⟩) :
    codeAny (model prog w) A (.call (.builtin "object.__setattr__") ⟨[.ref x, .str name tk, v], []⟩) R ⟨hp, g, d, t, os⟩ := by
  have inst : PySem.W.InstAt hp x { cls := .ref C, data := .fields fv } C none := ⟨obj, rfl, rfl, trivial⟩
  have nonempty : cd.mro.isEmpty = false := by rw [mro]; cases cs <;> rfl
  have below : cd.mro.contains (.type "object") = true := by rw [mro, over_has]; decide +kernel
  have apart : x ≠ hp.objs.size := Nat.ne_of_lt (Heap.lt_size obj)
  have isObj : PySem.W.Looks (model prog w) hp (isInstance (.ref x) (.type "object")) true :=
    inst.type.andThen (PySem.W.looks_mroIn kIn (by unfold PySem.W.mroIn; rw [cls, Option.bind_some, if_neg (by rw [nonempty]; decide), below]))
  have facts := F.store_object
  refine codeAny_call_builtin facts.slot.plain facts.entry (@PySem.W.check_slot (model prog w) _ _ ⟨hp, g, d, t, os⟩ "object.__setattr__" "object" "__setattr__" (.ref x)
    [.str name tk, v] [] _ facts.kind facts.split isObj (facts.args (.ref x) (.str name tk) v) ?_)
  have lookM : PySem.W.Looks (model prog w) hp (mroOf (.ref C)) cd.mro := (PySem.W.looks_clsIn kIn cls).andThen .now
  have noTaker : PySem.W.Looks (model prog w) hp (storeTaker? none) none := .now
  have lookC : PySem.W.Looks (model prog w) hp (classData C) cd := PySem.W.looks_clsIn kIn cls
  rw [PySem.W.osa_eq, refuse_eq]
  refine wpAny_bind (wpAny_bind (inst.type.at (wpAny_bind (lookM.at ?_))))
  have pass := over_pass (.ref x) cs
  rw [← mro] at pass
  rw [pass]
  refine wpAny_pure (wpAny_bind (inst.type.at (wpAny_bind ((PySem.W.looks_findIn kIn free).at (wpAny_bind (noTaker.at ?_))))))
  show wpAny _ _ (storeInOwnDict (.ref x) (.ref C) (.str name tk) name v false) _ _ _
  obtain ⟨nm, bs, mr, ns, qn, hd, sn, sb, ab, col, dl⟩ := cd
  dsimp only at hasD
  subst hasD
  unfold storeInOwnDict ownDictForStores
  repeat (first | with_reducible refine HandSPX.store_in_new ?_ ?_ | with_reducible refine wpAny_loadPart_at obj ?_ | with_reducible refine lookC.at ?_ | wp_step)
  · exact ⟨_, #[], _, (Heap.get?_update_ne _ _ _ _ apart.symm).trans (Heap.get?_push_at rfl rfl), rfl, fun e he => absurd he (by simp), fun _ => rfl⟩
  · intro h' tk' newNs same
    have later : (hp.push { cls := .type "dict", data := .dict #[] }).get? x = some { cls := .ref C, data := .fields fv } := Heap.get?_push_of_some _ obj
    refine fin h' tk' hp.objs.size (fun b o hb ho => ?_) (Nat.le_refl _) apart.symm ?_ newNs
    · refine (same.2 b (Nat.ne_of_lt (Heap.lt_size ho))).trans ?_
      exact (Heap.get?_update_ne _ _ _ _ hb).trans (Heap.get?_push_of_some _ ho)
    · exact (same.2 x apart).trans (Heap.get?_update_self _ later rfl)
end

/-! ### the class -/
def inA (p1 p2 : Pos) : Arguments := { posonlyargs := [], args := [⟨"self", none, p1⟩, ⟨"at", none, p2⟩], vararg := none, kwonlyargs := [], kw_defaults := [], kwarg := none, defaults := [] }
def inB (q1 q2 q3 q4 : Pos) : List Stmt := [.Assign [.Attribute (.Name "self" q1) "at" q2] (.Name "at" q3) q4]
def inS : Scope := ⟨.function, [("self", .local), ("at", .local)], false, false, []⟩
/-- what the written part tells of an own exception class at C: its __init__ at fI keeps its one argument -/
structure BadC (K : PySem.W.Frag) (q : Str) (C fI : Addr) : Prop where
  cls : ∃ nm q N bs bm sn sub ab col dd k0 k1 k2 k3 k5, K.lookup C = some (excClassObj nm q C N bs bm true sn sub ab col dd k0 k1 k2 k3 k5 "Exception.__new__") ∧ overEx bm = true
  setA : PySem.W.findIn K (.ref C) "__setattr__" = some (some (.builtin "object.__setattr__"))
  getA : PySem.W.findIn K (.ref C) "__getattribute__" = some (some (.builtin "BaseException.__getattribute__"))
  getG : PySem.W.findIn K (.ref C) "__getattr__" = some none
  none : PySem.W.findIn K (.ref C) "at" = some none
  init : PySem.W.findIn K (.ref C) "__init__" = some (some (.ref fI))
  tyI : PySem.W.typeIn K (.ref fI) = some (.type "function")
  keep : PySem.W.keepIn K (.ref C) = true
  exc : PySem.W.subIn K (.ref C) (.type "BaseException") = some true
  tyC : PySem.W.typeIn K (.ref C) = some (.type "type")
  hasD : PySem.W.hasDictIn K C = true
  self : PySem.W.exmOne K (.ref C) (.ref C) = some true
  code : ∃ (oc : Value) (od : Option Addr) (kV doc pm : Value) (an : Option Addr) (cdv ct : Value) (osl : Array (Option Value)) (p1 p2 q1 q2 q3 q4 : Pos),
    K.lookup fI = some ⟨oc, od, .func (PySem.W.fnOf "__init__" q (inA p1 p2) (inB q1 q2 q3 q4) inS .none kV doc pm an cdv ct), osl⟩ ∧ PySem.W.codeIn K cdv q = true
structure Inited (h h' : Heap) (x C dx t1 : Addr) (v : Value) : Prop where
  old : ∀ b o, b ≠ x → h.get? b = some o → h'.get? b = some o
  at_ : h'.get? x = some { cls := .ref C, dict := some dx, data := .fields #[.ref t1, .none, .none, .none, .bool false, .none] }
  big : h.objs.size ≤ dx
  ne : dx ≠ x
  ns : h'.Ns1 dx (fun y => if y = "at" then some v else none)
structure Made (h h' : Heap) (e C d : Addr) (v : Value) : Prop where
  old : ∀ b o, h.get? b = some o → h'.get? b = some o
  new : h.objs.size ≤ e
  at_ : ∃ oe vs, h'.get? e = some oe ∧ oe.cls = .ref C ∧ oe.dict = some d ∧ oe.data = .fields vs ∧ vs[1]? = some .none
  big : h.objs.size ≤ d
  ne : d ≠ e
  ns : h'.Ns1 d (fun y => if y = "at" then some v else none)
theorem ldL {M : Model} {s : Shared} {q : Str} {scope : Scope} {L a : Addr} {cd : Value} {m : Str → Option Value} {x : Str} {pos : Pos} {v : Value} {Q : Value → Shared → Prop} {A : Around} {E : Value → Shared → Prop}
    (ns : s.heap.Ns L m) (has : m x = some v) (fn : scope.kind = .function) (loc : (PyProof.Rows.envOfC q scope L a cd).kindOf x = some .local) (db : (x == ("__debug__" : Str)) = false) (go : Q v s) :
    wpAny M A (eval (.Name x pos) (PyProof.Rows.envOfC q scope L a cd)) Q E s := wpAny_Name (wpAny_loadName_local fn loc ns has go) db
section
variable {prog : Program} {w : World} {A : Around} {R : Result → Shared → Prop} {s : Shared} {K : PySem.W.Frag} {q : Str} {C fI : Addr}
theorem one_le (v : Value) : [v].length ≤ sizeLine := by rw [sizeLine_eq]; exact (by decide : 1 ≤ 16777216)
theorem init_runs (T : BadC K q C fI) {x t0 : Addr} {v : Value} (kIn : K.In s.heap) (lim : s.heap.NoLimit) (obj : s.heap.get? x = some (HandSPX.excO C t0)) (room : A.depth < recursionLimit)
    (fin : ∀ h' tk dx, Inited s.heap h' x C dx t0 v → R (.ok (.ret .none)) { s with heap := h', toks := tk }) : codeAny (model prog w) A (.call (.ref fI) ⟨[.ref x, v], []⟩) R s := by
  obtain ⟨oc, od, kV, doc, pm, an, cdv, ct, osl, p1, p2, q1, q2, q3, q4, lk, cd⟩ := T.code
  obtain ⟨nm, qn, N, bs, bm, sn, sub, ab, col, dd, k0, k1, k2, k3, k5, hC, hbm⟩ := T.cls
  obtain ⟨cs, ecs⟩ := overEx_is hbm
  have hcl : PySem.W.clsIn K C = some { name := nm, bases := bs, mro := .ref C :: bm, ns := N, qualname := qn, hasDict := true, slotNames := sn, subclasses := sub, abstract := ab, collection := col, hasDel := false } := by
    unfold PySem.W.clsIn
    rw [hC] <;> rfl
  refine Att.call_fn (binds := [("self", .ref x), ("at", v)]) kIn lim lk cd room (BindsTo.of_eq (by first | rfl | with_unfolding_all rfl)) (by first | rfl | decide | with_unfolding_all rfl) (fun s₁ ic => ?_) rfl rfl rfl
  obtain ⟨h₁, tk₁, rfl⟩ := ic.toInCall.same
  have old : ∀ b o, s.heap.get? b = some o → h₁.get? b = some o := ic.toInCall.keep
  have names := ic.toInCall.ns
  have kIn₁ := kIn.keeps old
  have obj₁ := old _ _ obj
  show wpAny _ _ (execs _ _) _ _ _
  refine wpAny_execs_cons (plainObj_wpAny_Assign_Attribute ?_)
  refine ldL (v := v) names (by first | rfl | with_unfolding_all rfl | kernel_rfl) rfl rfl (by decide) ?_
  refine ldL (v := .ref x) names (by first | rfl | with_unfolding_all rfl | kernel_rfl) rfl rfl (by decide) ?_
  refine PySem.W.set_plain kIn₁ (ox := HandSPX.excO C t0) (od := none) ⟨obj₁, rfl, rfl, trivial⟩ T.setA ?_
  refine osaE (cs := C :: cs) kIn₁ obj₁ hcl (by show Value.ref C :: bm = _; rw [ecs]; rfl) rfl T.none (fun h₃ tk₃ dx kept big ne at₃ ns₃ => ?_)
  show wpAny _ _ (execs _ _) _ _ _
  have lt : s.heap.objs.size < h₁.objs.size := names.lt
  exact wpAny_execs_nil (fin h₃ tk₃ dx ⟨fun b o hb e => kept b o hb (old b o e), at₃, Nat.le_of_lt (Nat.lt_of_lt_of_le lt big), ne, ns₃⟩)
theorem made_runs (T : BadC K q C fI) {v : Value} (kIn : K.In s.heap) (lim : s.heap.NoLimit) (room : A.depth + 1 < recursionLimit)
    (fin : ∀ h' tk e d, Made s.heap h' e C d v → R (.ok (.ret (.ref e))) { s with heap := h', toks := tk }) : codeAny (model prog w) A (.call (.ref C) ⟨[v], []⟩) R s := by
  obtain ⟨nm, qn, N, bs, bm, sn, sub, ab, col, dd, k0, k1, k2, k3, k5, hC, hbm⟩ := T.cls
  obtain ⟨cs, ecs⟩ := overEx_is hbm
  obtain ⟨hp, g, dr, tk, os⟩ := s
  have old : ∀ b o, hp.get? b = some o → ((hp.push (PySem.W.kdv_tup [v])).push (HandSPX.excO C hp.objs.size)).get? b = some o :=
    fun b o e => Heap.get?_push_of_some _ (Heap.get?_push_of_some _ e)
  have there : ((hp.push (PySem.W.kdv_tup [v])).push (HandSPX.excO C hp.objs.size)).get? (hp.objs.size + 1) = some (HandSPX.excO C hp.objs.size) := by heap_get
  refine HandSPX.call_own F.excBase_Exception (fun n => by rw [ecs]; exact over_has n cs) (kIn _ _ hC) (PySem.W.looks_findIn kIn T.init) (fun self => PySem.W.bind_fn kIn self T.tyI) (one_le v) ?_
  refine init_runs (s := ⟨(hp.push (PySem.W.kdv_tup [v])).push (HandSPX.excO C hp.objs.size), g, dr, tk, os⟩) T (kIn.keeps old) (lim.keeps old) there ?_ fun h' tk' dx I => ?_
  · show A.depth + 1 < recursionLimit
    exact room
  · have far : hp.objs.size + 1 + 1 ≤ dx := by
      have z := I.big
      first
        | exact z
        | simpa only [Heap.size_push] using z
    have keep : ∀ b o, hp.get? b = some o → h'.get? b = some o :=
      fun b o e => I.old b o (Nat.ne_of_lt (Nat.lt_succ_of_lt (Heap.lt_size e))) (old b o e)
    refine ⟨rfl, fin h' tk' (hp.objs.size + 1) dx ⟨keep, Nat.le_succ _, ⟨_, _, I.at_, rfl, rfl, rfl, rfl⟩, ?_, I.ne, I.ns⟩⟩
    show hp.objs.size ≤ dx
    omega
end
theorem rel_at {v : V} {u : Value} (r : RelV v u) (y : Str) : RelO (List.lookup y [(("at" : Str), v)]) (if y = "at" then some u else none) := by
  by_cases h : y = "at"
  · subst h
    rw [if_pos rfl, show List.lookup ("at" : Str) [(("at" : Str), v)] = some v by simp [List.lookup]]
    exact r
  · have e : (y == ("at" : Str)) = false := by simpa using h
    rw [if_neg h, show List.lookup y [(("at" : Str), v)] = none by simp [List.lookup, e]]
    trivial
section
variable {X : Cx} {q : Str} {C fI : Addr} {x : Str}
/-- C(e): a new exception whose dict holds the field -/
def tMkB (C : Addr) (ta : TA) : StH → Hp → XK → Prop := fun σ H Q => ta σ H fun vs H1 => ∃ v, vs = [v] ∧ ∀ d, H1 d = none → Q (.ref C) (some d) (upd H1 d (.xd [(("at" : Str), v)]))
theorem pmk_bad {a : Expr} {ta : TA} {p pos : Pos} {k : Nat} (T : BadC X.K q C fI) (gC : X.mg x = some (.ref C)) (room : Room k X.A) (ha : PA X [a] ta) (hg : Gl X x) (db : (x == ("__debug__" : Str)) = false)
    (he : starEach [a] X.env = [(false, eval a X.env)]) : PMk X (.Call (.Name x p) [a] [] pos) (tMkB C ta) := by
  intro pins s σ H Q I h
  refine wpAny_Call_Name_kw (ld_glob I hg gC ?_ db)
  refine PySem.W.callWith_K (h₀ := X.base) I.ok.mod.kin T.keep (thn (ha.run pos pins s σ H _ I h) fun us s1 got => ?_) (by rw [he]; rfl) (by rfl)
  obtain ⟨vs, H1, I1, rs, v, rfl, q1⟩ := got
  refine ⟨I1.kIn, ?_⟩
  obtain ⟨u, rfl, ru⟩ := rs.one
  show wpAny _ _ (call (.ref C) [u]) _ _ _
  have lim := I1.nolimit
  obtain ⟨hp, g, dr, tk, os⟩ := s1
  refine wpAny_call (made_runs T I1.kIn lim (by have := room.dp; omega) fun h' tk' e d M => ?_)
  show MkP X pins σ Q (.ref e) ⟨h', g, dr, tk', os⟩
  obtain ⟨oe, fv, hoe, oc, od, odat, o1⟩ := M.at_
  obtain ⟨G', g1, g2⟩ := restrict h' fun b => decide (b ≠ e)
  have same : ∀ b, b ≠ e → G'.get? b = h'.get? b := fun b hb => g1 b (decide_eq_true hb)
  have gone : G'.get? e = none := g2 e (by simp)
  have keep : ∀ b o, hp.get? b = some o → G'.get? b = some o := fun b o z =>
    (same b (Nat.ne_of_lt (Nat.lt_of_lt_of_le (Heap.lt_size z) M.new))).trans (M.old b o z)
  have ob : ObjOk X.prog X.w (upd H1 d (.xd [(("at" : Str), v)])) G' d (.xd [(("at" : Str), v)]) :=
    ⟨_, M.ns.at (fun o z => (same d M.ne).trans z), fun y => rel_at ru y⟩
  have J : Inv X pins σ (upd H1 d (.xd [(("at" : Str), v)])) ⟨G', g, dr, tk', os⟩ := I1.laid (t' := tk') keep M.big ob
  refine ⟨e, oe, fv, ⟨G', g, dr, tk', os⟩, _, .ref C, some d, rfl, J, fun b o z => ?_, gone, hoe, ⟨oc, od⟩, odat, o1, ?_, rfl, I1.bare, raises_own T.exc T.tyC, q1 d (I1.hok.fresh M.big)⟩
  · by_cases hb : b = e
    · have z' : G'.get? b = some o := z
      rw [hb, gone] at z'
      cases z'
    · exact (same b hb).symm.trans z
  · rw [upd_ne (Ne.symm M.ne)]
    exact I1.hok.fresh M.new
/-- the field of the exception that a suite holds -/
def tAtB (C : Addr) (a : Addr) (cls : Value) (d : Option Addr) (te : TE) : TE := fun σ H Q => te σ H fun y H1 => y = .ref a ∧ cls = .ref C ∧ ∃ (dd : Addr) (v : V), d = some dd ∧ H1 dd = some (.xd [(("at" : Str), v)]) ∧ Q v H1
theorem pe_bad {a : Addr} {oe : Obj} {cls : Value} {d : Option Addr} {pn : List (Addr × Obj)} {e : Expr} {te : TE} {pos : Pos} (T : BadC X.K q C fI) (hz : Zc cls d oe) (hf : ∃ vs, oe.data = .fields vs) (he : PE (X.suite a ((a, oe) :: pn)) e te)
    (hb : attributeBase e "at" X.env (eval e X.env) = eval e X.env) : PE (X.suite a ((a, oe) :: pn)) (.Attribute e "at" pos) (tAtB C a cls d te) := by
  refine ⟨fun pins s σ H Q I h => ?_⟩
  refine attr_of hb (thn (he.run pins s σ H _ I h) fun u s1 got => ?_)
  obtain ⟨y, H1, I1, ry, ey, ec, dd, v, ed, ea, q1⟩ := got
  subst ey
  obtain rfl : u = Value.ref a := ry
  subst ec
  subst ed
  have pin := I1.pin (a, oe) (List.mem_append_left _ List.mem_cons_self)
  obtain ⟨vs, dat⟩ := hf
  obtain ⟨mA, hns, hr⟩ := (show ObjOk X.prog X.w H1 s1.heap dd (.xd [(("at" : Str), v)]) from I1.hok dd _ ea)
  obtain ⟨od, ho, hl⟩ := lookIn_ns hns
  have lk : List.lookup ("at" : Str) [(("at" : Str), v)] = some v := by simp [List.lookup]
  obtain ⟨u, hu, ru⟩ := RelO.some_of (v := v) (o := mA "at") (by rw [← lk]; exact hr "at")
  have inst : PySem.W.InstAt s1.heap a oe C (some od) := ⟨pin.1, hz.1, by unfold PySem.W.notCls; rw [dat] <;> rfl, by rw [hz.2]; exact ho⟩
  exact HandSPX.exc_get I1.kIn inst T.getA T.getG T.exc (PySem.W.findObj_own T.hasD T.none rfl (by rw [hl, hu])) (handed_of ru) ⟨v, H1, I1.tok _, ru, q1⟩
end
end PL
/-! PLj: calls of defs, defs, raise, try over plain data. -/
namespace PL
open PySem PySem.Spec L2

/-! ### promises of defs -/
def spD (g : G) (h : List D → Res D) : Sp := fun vs H Q E => ∃ F ds, Sub F H ∧ NT F ∧ LamX.Tabs g.T H ∧ RepL g F vs ds ∧
  out (h ds) (fun d => ∀ v F' H', Ext g F H F' H' → Rep g F' v d → Q v H') (fun c d => ∀ cls dd F' H', Ext g F H F' H' → ExR g c d cls dd F' H' → E cls dd H')
def startE (N : Nat) (ds : List D) : Env := ds.map Slot.val ++ List.replicate (N - ds.length) Slot.none
/-- a def by its body: n parameters, N names -/
def fnD (n N : Nat) (f : Env → SO) : List D → Res D := fun ds => if ds.length = n then (match f (startE N ds) with
  | .nx _ => .ok .non
  | .rt d => .ok d
  | .xc c d _ => .exc c d
  | _ => .bad) else .bad
section
variable {X : Cx} {g : G} {W : WX} {k : Nat} {fa : Addr} {fd : FuncData} {ps : List Str} {h : List D → Res D} {x : Str} {p pos : Pos} {e : Expr} {es : List Expr} {fs : Env → Res (List D)}
theorem call_reads (σ : StH) (H : Hp) (Q : VK) (w : tV g W (fun ρ => do let ds ← fs ρ; h ds) σ H Q) : tCallSD (spD g h) [] (WE W) (tAV g W fs) σ H Q := by
  obtain ⟨F, ρ, r, q⟩ := w
  refine ⟨F, ρ, r, out_imp (out_bind q) (fun ds _ q1 vs F1 H1 x1 t => ?_) fun _ _ _ z => z⟩
  show spD g h (vs ++ []) H1 Q (WE W σ)
  rw [List.append_nil]
  have r1 := r.ext x1
  exact ⟨F1, ds, x1.fh, r1.nt, r1.tb, t, out_imp q1 (fun d _ k v F2 H2 x2 => k v F2 H2 (x1.trans x2)) fun c d _ z cls dd F2 H2 x2 => z cls dd F2 H2 (x1.trans x2)⟩
theorem de_call (F : FnOk X.prog X.w X.K X.mg X.base (L2.CX X.prog X.w) k fa fd ps (spD g h)) (room : Room k X.A) (hg : Gl X x) (hm : X.mg x = some (.ref fa)) (hk : PySem.W.keepIn X.K (.ref fa) = true) (hb : Binds X.K fd ps []) (tk : Takes X W) (ha : PA X (e :: es) (tAV g W fs))
    (hdb : (x == ("__debug__" : Str)) = false) (he : starEach (e :: es) X.env = (false, eval e X.env) :: starEach es X.env) (hpl : (backTo pos (starEach es X.env)).any (·.1) = false) :
    PE X (.Call (.Name x p) (e :: es) [] pos) (tV g W fun ρ => do let ds ← fs ρ; h ds) := (pe_callSD F room hg hm hk hb .nil (fun σ => passAt tk σ) ha hdb he hpl).imp call_reads
end
section
variable {P : Program} {w : World} {K : PySem.W.Frag} {mg : Str → Option Value} {base : Heap} {g : G} {x qual : Str} {st : Stmt} {fa : Addr} {fd : FuncData} {N ps : List Str} {k : Nat} {f : Env → SO}
theorem start_rel {F H : Hp} {vs : List V} {ds : List D} (s : Sub F H) (nt : NT F) (tb : LamX.Tabs g.T H) (t : RepL g F vs ds) : RelS g F H (L2.start N vs) F H (startE N.length ds) := by
  have hl := t.length
  have own : ∀ (i : Nat) (l : List D), (startE N.length ds)[i]? ≠ some (.own l) := fun i l e => by
    unfold startE at e
    by_cases hi : i < ds.length
    · rw [List.getElem?_append_left (by simpa using hi), List.getElem?_map] at e
      cases q : ds[i]? with
      | none => rw [q] at e; cases e
      | some d => rw [q] at e; cases e
    · rw [List.getElem?_append_right (by simpa using hi), List.getElem?_replicate] at e
      split at e <;> cases e
  refine ⟨⟨?_, s, nt, tb, ?_, fun i l e => absurd e (own i l), fun i j l l' a e => absurd e (own i l)⟩, .refl s, fun i l a e => absurd e (own i l)⟩
  · unfold L2.start startE
    rw [List.length_append, List.length_append, List.length_map, List.length_map, List.length_replicate, List.length_replicate, hl]
  · intro i d e
    unfold startE at e
    by_cases hi : i < ds.length
    · rw [List.getElem?_append_left (by simpa using hi), List.getElem?_map] at e
      cases q : ds[i]? with
      | none => rw [q] at e; cases e
      | some d' =>
        rw [q] at e
        cases e
        obtain ⟨v, h1, h2⟩ := t.get i q
        refine ⟨v, ?_, h2⟩
        unfold L2.start
        rw [List.getElem?_append_left (by simp; omega), List.getElem?_map, h1]
        rfl
    · rw [List.getElem?_append_right (by simpa using hi), List.getElem?_replicate] at e
      split at e <;> cases e
theorem spD_len {n M : Nat} : ∀ vs H Q E, spD g (fnD n M f) vs H Q E → vs.length = n := fun vs H Q E ⟨F, ds, s, nt, tb, t, q⟩ => by
  unfold fnD at q
  split at q
  · rename_i z
    rw [t.length]; exact z
  · exact q.elim
theorem dfn_ok {params : Arguments} {body : List Stmt} {scope : Scope} (T : FunD K x qual params body scope [] [] fa fd) (S : FnScope N ps scope)
    (hb : ∀ (cdv : Value) (A : Around) (outer : List PySem.Env) (s : Shared) (H F : Hp) (E : XK), Room k (A.deeper (PyProof.Rows.envOfC qual scope s.heap.objs.size fa cdv)) →
      PSs (cxOf (L2.CX P w) P w K mg base N qual scope fa cdv A outer s H E) body (tS g (fun cls dd _ H' => E cls dd H') F H f)) :
    FnOk P w K mg base (L2.CX P w) (k + 1) fa fd ps (spD g (fnD ps.length N.length f)) :=
  FunD.ok T S spD_len fun cdv A outer s H vs Q E room sp => by
    have hn := spD_len vs H Q E sp
    obtain ⟨F, ds, sb, nt, tb, t, q⟩ := sp
    refine ⟨_, hb cdv A outer s H F E room, F, startE N.length ds, start_rel sb nt tb t, ?_⟩
    unfold fnD at q
    rw [if_pos (by rw [← t.length]; exact hn)] at q
    cases eo : f (startE N.length ds) with
    | nx ρ' => rw [eo] at q; exact fun σ' F' H' s' r' => q .non F' H' r'.x .non
    | rt d => rw [eo] at q; exact q
    | xc c d ρ' => rw [eo] at q; exact fun cls dd σ' F' H' s' r' z => q cls dd F' H' r'.x z
    | bk ρ' => rw [eo] at q; exact q.elim
    | ct ρ' => rw [eo] at q; exact q.elim
    | bad => rw [eo] at q; exact q.elim
end

/-! ### raise, try -/
section
variable {X : Cx} {g : G} {W : WX} {F0 H0 : Hp} {c : Nat} {q : Str} {C fI : Addr} {x n : Str} {i : Nat} {fe fa : Env → Res D} {fb fs : Env → SO} {p pos pos2 : Pos} {a e : Expr}
def sRaise (c : Nat) (fa : Env → Res D) : Env → SO := sE fa fun d ρ => .xc c d ρ
theorem ds_raise {k : Nat} (hc : X.calm = true) (T : BadC X.K q C fI) (gC : X.mg x = some (.ref C)) (eC : g.ca c = C) (eF : g.cf c = "at") (room : Room k X.A) (tk : Takes X W) (ha : PE X a (tV g W fa)) (hg : Gl X x) (db : (x == ("__debug__" : Str)) = false)
    (he : starEach [a] X.env = [(false, eval a X.env)]) : PS X (.Raise (some (.Call (.Name x p) [a] [] pos)) none pos2) (tS g W F0 H0 (sRaise c fa)) :=
  (ps_raise hc tk (pmk_bad T gC room (pa_cons ha pa_nil (by rw [he]; rfl)) hg db he)).imp fun E σ H ⟨F, ρ, r, z⟩ => by
    refine of_sEx (P := PV g) r z fun d v F1 H1 _ x1 p1 z1 => ⟨v, rfl, fun dx hdx => ?_⟩
    have x2 : Ext g F1 H1 F1 (upd H1 dx (.xd [(("at" : Str), v)])) := .allocO x1.fh hdx
    exact z1 _ _ σ F1 _ (.refl F1) ((r.ext x1).ext x2) ⟨by rw [eC], dx, v, rfl, by rw [eF]; exact upd_same, p1⟩
/-- try: .. except C: .. -/
def sTry (fb : Env → SO) (sb : Nat → Option Bool) (fs : D → Env → SO) : Env → SO := fun ρ => match fb ρ with
  | .xc c d ρ' => (match sb c with
    | some true => fs d ρ'
    | some false => .xc c d ρ'
    | none => .bad)
  | o => o
theorem try_reads {sb : Nat → Option Bool} {fs : D → Env → SO} {E : Ends} {W1 : WX} (σ : StH) (H : Hp) (w : tS g W F0 H0 (sTry fb sb fs) E σ H)
    (yes : ∀ c d ρ' cls dd σ' F' H', sb c = some true → RelS g F0 H0 σ' F' H' ρ' → ExR g c d cls dd F' H' → soR g W F0 H0 E F' (fs d ρ') → W1 cls dd σ' H')
    (no : ∀ c d cls dd σ' F' H', sb c = some false → ExR g c d cls dd F' H' → W cls dd σ' H' → W1 cls dd σ' H') : tS g W1 F0 H0 fb E σ H := by
  obtain ⟨F, ρ, r, z⟩ := w
  refine ⟨F, ρ, r, ?_⟩
  unfold sTry at z
  cases e : fb ρ with
  | xc c d ρ' =>
    rw [e] at z
    intro cls dd σ' F' H' s' r' ex
    have z : soR g W F0 H0 E F (match sb c with | some true => fs d ρ' | some false => .xc c d ρ' | none => .bad) := z
    cases es : sb c with
    | none => rw [es] at z; exact z.elim
    | some b =>
      rw [es] at z
      cases b with
      | true => exact yes c d ρ' cls dd σ' F' H' es r' ex (z.mono s')
      | false => exact no c d cls dd σ' F' H' es ex (z cls dd σ' F' H' s' r' ex)
  | nx ρ' => rw [e] at z; exact z
  | rt d => rw [e] at z; exact z
  | bk ρ' => rw [e] at z; exact z
  | ct ρ' => rw [e] at z; exact z
  | bad => rw [e] at z; exact z
/-- the name of the clause goes -/
def outN (i : Nat) : SO → SO
  | .nx ρ => .nx (ρ.set i .none)
  | .bk ρ => .bk (ρ.set i .none)
  | .ct ρ => .ct (ρ.set i .none)
  | .rt d => .rt d
  | _ => .bad
theorem RelE.gone {σ : StH} {F H : Hp} {ρ : Env} (r : RelE g σ F H ρ) (i : Nat) (s : Option V) : RelE g (σ.set i s) F H (ρ.set i .none) :=
  r.weak (by rw [List.length_set, List.length_set]; exact r.len) fun j t e ht => by
    by_cases z : i = j
    · subst z
      have hi : i < ρ.length := by
        have := (List.getElem?_eq_some_iff.mp e).1; simpa using this
      rw [List.getElem?_set_self hi] at e
      cases e
      exact absurd rfl ht
    · rw [List.getElem?_set_ne z] at e
      exact ⟨e, List.getElem?_set_ne z⟩
theorem RelS.gone {σ : StH} {F H : Hp} {ρ : Env} (r : RelS g F0 H0 σ F H ρ) (i : Nat) (s : Option V) : RelS g F0 H0 (σ.set i s) F H (ρ.set i .none) :=
  ⟨r.e.gone i s, r.x, fun j l a e1 e2 => by
    by_cases z : i = j
    · subst z
      have hi : i < ρ.length := by
        have := (List.getElem?_eq_some_iff.mp e1).1; simpa using this
      rw [List.getElem?_set_self hi] at e1
      cases e1
    · rw [List.getElem?_set_ne z] at e1 e2
      exact r.nw j l a e1 e2⟩
/-- try: .. except C as n: return n.at == e -/
def sTryAt (i : Nat) (fb : Env → SO) (sb : Nat → Option Bool) (fe : Env → Res D) : Env → SO := sTry fb sb fun d ρ => if i < ρ.length then (match (do let y ← fe (ρ.set i .none); eqD false d y : Res D) with
  | .ok r => .rt r
  | _ => .bad) else .bad
theorem ds_tryAt {np p1 p2 p3 p4 pos' : Pos} {body : List Stmt} {sb : Nat → Option Bool} (hs : X.stack = X.env :: X.outer) (hf : X.env.frame = some X.env.locals) (hN : X.N.Nodup) (hi : X.N[i]? = some n) (hln : X.env.kindOf n = some .local) (hc : Names X x (.ref C)) (tk : Takes X W)
    (T : BadC X.K q C fI) (eF : ∀ c, sb c = some true → g.cf c = "at" ∧ g.ca c = C) (hno : ∀ c, sb c = some false → PySem.W.exmOne X.K (.ref (g.ca c)) (.ref C) = some false) (hgK : X.K = g.K) (hu : X.A.units + 64 < cLine)
    (hb : ∀ (W' : WX) (pn : List (Addr × Obj)) (xe : Value → Shared → Prop), Takes (X.tr pn xe) W' → PassesOwn (model X.prog X.w) X.A X.env xe → PSs (X.tr pn xe) body (tS g W' F0 H0 fb))
    (he : ∀ (a : Addr) (oe : Obj) (pn : List (Addr × Obj)), PE (X.suite a ((a, oe) :: pn)) e (tV g W0 fe))
    (hd : (n == ("__debug__" : Str)) = false) (hcd : (n == ("__classdict__" : Str)) = false) (hba : attributeBase (.Name n p1) "at" X.env (eval (.Name n p1) X.env) = eval (.Name n p1) X.env) (hbm : behindInMarks .Eq e = false) :
    PS X (.Try body [.ExceptHandler (some (.Name x np)) (some n) [.Return (some (.Compare (.Attribute (.Name n p1) "at" p2) [.Eq] [e] p3)) p4] pos'] [] [] pos) (tS g W F0 H0 (sTryAt i fb sb fe)) :=
  (ps_try_as (ts := fun a cls dd => tRet (tOp (rD2 g (PV g) (eqD false)) (tAtB C a cls dd (tVar i)) (tB g W0 fe))) hs hf hN hi hln hc tk hb fun a oe cls dd pn hz hfl =>
    pss_one (ps_ret (pe_cmpR (op_eqDD (X := X.suite a ((a, oe) :: pn)) hgK hu) (pe_bad T hz hfl (pe_var hi (.inl hln) hd hcd) hba) (read (he a oe pn)) hbm))).imp fun E σ H w => by
    refine try_reads σ H w (fun c d ρ' cls dd σ' F' H' es r' ex z => ?_) fun c d cls dd σ' F' H' es ex z => ⟨false, ?_, fun z => Bool.noConfusion z, fun _ => z⟩
    · obtain ⟨e1, e2⟩ := eF c es
      obtain ⟨rfl, dx, v, rfl, hdx, rv⟩ := ex
      refine ⟨true, by rw [e2]; exact T.self, fun _ a ha => ?_, fun z => Bool.noConfusion z⟩
      split at z
      case isFalse => exact z.elim
      rename_i hlr
      have hl : i < σ'.length := by
        have := r'.e.len
        omega
      refine ⟨.ref a, List.getElem?_set_self hl, rfl, by rw [e2], dx, v, rfl, by rw [← e1]; exact hdx, ?_⟩
      have r2 := r'.gone i (some (.ref a))
      cases ee : (do let y ← fe (ρ'.set i .none); eqD false d y : Res D) with
      | ok rr =>
        rw [ee] at z
        cases ef : fe (ρ'.set i .none) with
        | ok y =>
          rw [ef] at ee
          refine ⟨F', _, r2.e, ?_⟩
          rw [ef]
          intro vy F2 H2 x2 py
          exact ⟨F2, d, y, rr, x2.fh, (rv.mono x2.f).toB x2.fh, py, ee, fun u F3 H3 x3 pu => z u F3 H3 ((r'.x.trans x2).trans x3) pu⟩
        | exc c d => rw [ef] at ee; cases ee
        | bad => rw [ef] at ee; cases ee
      | exc c d => rw [ee] at z; exact z.elim
      | bad => rw [ee] at z; exact z.elim
    · obtain ⟨rfl, _⟩ := ex
      exact hno c es
end
end PL
/-! PLk: what the head tells: classes, builtins by import. -/
namespace PL
open PySem PySem.Spec L2
def sixB (n : String) (sl : Array (Option Value)) : Bool := match sl with
  | ⟨[_, _, _, _, some (.builtin m), _]⟩ => m == n
  | _ => false
def clsB (K : PySem.W.Frag) (C : Addr) : Bool := match K.lookup C with
  | some ⟨.type "type", _, .cls ⟨_, _, .ref C' :: bm, _, _, true, _, _, _, _, false⟩, sl⟩ => C' == C && (overEx bm && sixB "Exception.__new__" sl)
  | _ => false
theorem clsB_ok {K : PySem.W.Frag} {C : Addr} (h : clsB K C = true) : ∃ nm q N bs bm sn sub ab col dd k0 k1 k2 k3 k5, K.lookup C = some (excClassObj nm q C N bs bm true sn sub ab col dd k0 k1 k2 k3 k5 "Exception.__new__") ∧ overEx bm = true := by
  unfold clsB at h
  split at h
  · rename_i dd nm bs C' bm ns qn sn sub ab col sl e
    obtain ⟨h1, h2⟩ := Bool.and_eq_true_iff.mp h
    obtain ⟨h4, h3⟩ := Bool.and_eq_true_iff.mp h2
    obtain rfl : C' = C := by simpa using h1
    unfold sixB at h3
    split at h3
    · rename_i k0 k1 k2 k3 m k5
      obtain rfl : m = "Exception.__new__" := by simpa using h3
      exact ⟨nm, qn, ns, bs, bm, sn, sub, ab, col, dd, k0, k1, k2, k3, k5, e, h4⟩
    · cases h3
  · cases h
def eqV (a b : Option (Option Value)) : Bool := decide (a = b)
/-- the function at fI is that __init__ -/
def codeB (K : PySem.W.Frag) (q : Str) (fI : Addr) : Bool := match K.lookup fI with
  | some ⟨_, _, .func fd, _⟩ => PySem.W.codeIn K fd.code q
  | _ => false
def badB (K : PySem.W.Frag) (x q : Str) : Bool := let C := He.ga K x; let fI := He.ma K C "__init__"
  clsB K C && (decide (PySem.W.findIn K (.ref C) "__setattr__" = some (some (.builtin "object.__setattr__"))) && (decide (PySem.W.findIn K (.ref C) "__getattribute__" = some (some (.builtin "BaseException.__getattribute__"))) &&
    (decide (PySem.W.findIn K (.ref C) "__getattr__" = some none) && (decide (PySem.W.findIn K (.ref C) "at" = some none) && (decide (PySem.W.findIn K (.ref C) "__init__" = some (some (.ref fI))) &&
    (decide (PySem.W.typeIn K (.ref fI) = some (.type "function")) && (PySem.W.keepIn K (.ref C) && (decide (PySem.W.subIn K (.ref C) (.type "BaseException") = some true) &&
    (decide (PySem.W.typeIn K (.ref C) = some (.type "type")) && (PySem.W.hasDictIn K C && decide (PySem.W.exmOne K (.ref C) (.ref C) = some true)))))))))))
theorem badB_ok {K : PySem.W.Frag} {x q : Str} {p1 p2 q1 q2 q3 q4 : Pos} {fd : FuncData} (h : badB K x q = true) (F : FunD K "__init__" q (inA p1 p2) (inB q1 q2 q3 q4) inS [] [] (He.ma K (He.ga K x) "__init__") fd) :
    BadC K q (He.ga K x) (He.ma K (He.ga K x) "__init__") := by
  unfold badB at h
  simp only [Bool.and_eq_true, decide_eq_true_eq] at h
  obtain ⟨a, b, c, d, e, f, g, i, j, k, l, m⟩ := h
  obtain ⟨oc, od, dV, kV, doc, pm, an, cdv, ct, osl, rfl, lk, hcd, hD, hK⟩ := F.ex
  refine ⟨clsB_ok a, b, c, d, e, f, g, i, j, k, l, m, ?_⟩
  rcases hD with ⟨_, rfl⟩ | ⟨e, _⟩
  · exact ⟨oc, od, kV, doc, pm, an, cdv, ct, osl, p1, p2, q1, q2, q3, q4, lk, hcd⟩
  · exact absurd rfl e
def gloB (K : PySem.W.Frag) (x : Str) (v : Value) : Bool := decide (PySem.W.nsIn K mainGlobals x = some (some v))
theorem gloB_ok {K : PySem.W.Frag} {h : Heap} {mg : Str → Option Value} (X : K.In h) (G : h.Ns mainGlobals mg) {x : Str} {v : Value} (c : gloB K x v = true) : mg x = some v := PySem.W.mg_of X G (of_decide_eq_true c)
end PL
/-! PLl: sorted(.., key=lambda x: ..) over plain data. -/
namespace PL
open PySem PySem.Spec L2

/-! ### a call of a lambda -/
/-- the lambda as a function that captured cells -/
def lamF (X : Cx) (params : Arguments) (scope : Scope) (c : Addr) : NdefX.NF := ⟨"<lambda>", X.env.qual ++ "<lambda>", params, [], scope, cloFrom X.env.cells scope.names [], c⟩
def E0' : XK := fun _ _ _ => False
abbrev lamX (X : Cx) (A : Around) (outer : List PySem.Env) (s : Shared) (H : Hp) (N : List Str) (F : NdefX.NF) (f : Addr) : Cx := NdefX.ncx (L2.CX X.prog X.w) X.prog X.w X.K X.mg X.base N F f A outer s H E0'
section
variable {X : Cx} {pins : List (Addr × Obj)} {σ : StH} {H : Hp} {s : Shared} {scope : Scope} {params : Arguments} {body : Expr} {f c : Addr} {pm ctv : Value} {N ps fr : List Str} {js : List Nat} {k : Nat} {A : Around} {us : List Value} {vs : List V} {tb : TE} {Q : VK}
/-- behind the lambda's call -/
def LamEnd (X : Cx) (pins : List (Addr × Obj)) (σ : StH) (H : Hp) (s : Shared) (Q : VK) (u : Value) (s' : Shared) : Prop :=
  ∃ v H', Inv X pins σ H' s' ∧ RelV v u ∧ Q v H' ∧ ∀ b o, s.heap.get? b = some o → H b = none → b ∉ frs X.stack → s'.heap.get? b = some o ∧ H' b = none
theorem run_lam (I : Inv X pins σ H s) (S : NdefX.NScope N ps fr scope) (cp : NdefX.Caps X (cloFrom X.env.cells scope.names []) fr js)
    (hf : s.heap.get? f = some (PySem.W.kla_obj "<lambda>" (X.env.qual ++ "<lambda>") params body scope (cloFrom X.env.cells scope.names []) pm c ctv)) (hc : H c = some (LamX.CodeO c (X.env.qual ++ "<lambda>")))
    (bind : bindArgs (PySem.W.kla_fn "<lambda>" (X.env.qual ++ "<lambda>") params body scope (cloFrom X.env.cells scope.names []) pm (.ref c) ctv) ⟨us, []⟩ = pure (ps.zip us)) (room : Room (k + 1) A) (e0 : Env0 X.prog X.w X.K X.mg X.base A X.stack s H)
    (hb : ∀ (A : Around) (s : Shared) (H : Hp), Room k (A.deeper (NdefX.envF (lamF X params scope c) f s.heap.objs.size)) → PE (lamX X A X.stack s H N (lamF X params scope c) f) body tb)
    (r : Vals vs us) (hl : vs.length = ps.length) (hq : tb (NdefX.startF N vs (js.map (NdefX.slotAt σ))) H Q) : wpAny (model X.prog X.w) A (call (.ref f) us) (LamEnd X pins σ H s Q) (fun _ _ => False) s := by
  obtain ⟨⟨oc, fs, t, o1, o2, o3⟩, _, _⟩ := I.hok c _ hc
  have run : codeAny (model X.prog X.w) A (.call (.ref f) ⟨us, []⟩) (CR (L2.CX X.prog X.w) X.stack X.prog X.w H s Q E0') s := by
    refine PySem.W.kla_callFunE room.depth hf rfl S.co S.gen rfl ⟨c, oc, fs, t, rfl, o1, o2, o3⟩ ?_
    rw [bind]
    refine wpAny_pure (wpAny_newFunctionEnv S.nocell (fun ⟨n, _⟩ hy => S.par n (List.of_mem_zip hy).1) (fun h₁ names same => ⟨I.nolimit.fresh _ same, ?_⟩) S.kind)
    have old : ∀ b o, s.heap.get? b = some o → h₁.get? b = some o := fun b o e =>
      same.extBut b o (Nat.ne_of_lt (Heap.lt_size e)) (Heap.get?_push_of_some _ e)
    have J : Inv (lamX X A X.stack s H N (lamF X params scope c) f) [] (NdefX.startF N vs (js.map (NdefX.slotAt σ))) H { s with heap := h₁, toks := s.toks + (ps.zip us).length } :=
      NdefX.inv_startN S room.hd e0 hl r (NdefX.cells_of I cp) names old
    refine PySem.W.kla_codeExpr (wpAny_mono ((hb A s H (room.deeper _)).run [] _ _ H Q J hq) (fun v s' done => ?_) fun e s' z => z)
    obtain ⟨x, H', J', rv, q⟩ := done
    exact ⟨x, H', J'.os, J'.bare, J'.base, J'.hok, rv, q⟩
  refine wpAny_call (codeAny_mono run fun res s' got => ?_)
  cases res with
  | error e =>
    obtain ⟨_, _, _, _, _, _, _, _, _, _, _, _, z⟩ := (show L2.CX X.prog X.w X.stack H s E0' e s' from got)
    exact z.elim
  | ok fl =>
    cases fl with
    | ret u =>
      obtain ⟨v, H', J, rv, q⟩ := I.after got
      obtain ⟨v2, H2, os, bare, un, hok, rv2, q2⟩ := got
      obtain ⟨hh, g, d, t', os'⟩ := s'
      obtain rfl : os' = s.os := os
      exact ⟨v2, H2, I.call (h' := hh) (g' := g) (d' := d) (t' := t') (ch := []) un hok bare (fun b z => absurd z (by simp)), rv2, q2, fun b o e n nf => ⟨un.keep b o e n nf (by simp), un.free b o e n (by simp)⟩⟩
    | next => exact False.elim got
    | brk => exact False.elim got
    | cont => exact False.elim got
end

/-! ### objects of our own that nobody tracks are changed -/
section
variable {X : Cx} {pins : List (Addr × Obj)} {σ : StH} {H H' : Hp} {s : Shared} {h' : Heap} {ch : List Addr}
theorem touch {t' : Nat} (I : Inv X pins σ H s) (young : ∀ b ∈ ch, FpOk X pins H b) (keep : ∀ b o, b ∉ ch → s.heap.get? b = some o → h'.get? b = some o) (same : ∀ b, b ∉ ch → H' b = H b) (hok : HOk X.prog X.w H' h') : Inv X pins σ H' { s with heap := h', toks := t' } := by
  have nch : ∀ {b : Addr} {o : HO}, H b = some o → b ∉ ch := fun {b o} e hb => by
    rw [(young b hb).1] at e; cases e
  refine I.call' (s' := { s with heap := h', toks := t' }) (ch := ch) rfl ?_ hok I.bare fun b hb => ⟨(young b hb).2.2.2.1, (young b hb).2.1, (young b hb).2.2.2.2.1, (young b hb).2.2.2.2.2⟩
  exact {
    keep := fun b o e _ _ hx => keep b o hx e
    slot := fun b o e _ _ hx => ⟨o.slots, keep b o hx e⟩
    free := fun b o e n hx => by rw [same b hx]; exact n
    there := fun b o e hx => ⟨o, keep b o hx e⟩
    tups := fun b xs e => by rw [same b (nch e)]; exact e
    frzs := fun b o u e => by rw [same b (nch e)]; exact e
    tbls := fun b ps e => ⟨#[], by rw [same b (nch e), e]; simp⟩ }
theorem hok_touch (I : Inv X pins σ H s) (none : ∀ b ∈ ch, H b = none) (keep : ∀ b o, b ∉ ch → s.heap.get? b = some o → h'.get? b = some o) {b : Addr} {o : HO} (e : H b = some o) (same : ∀ b, b ∉ ch → H' b = H b) : ObjOk X.prog X.w H' h' b o := by
  have nch : ∀ {b : Addr} {o : HO}, H b = some o → b ∉ ch := fun {b o} e hb => by
    rw [none b hb] at e; cases e
  refine (I.hok b o e).stay (fun c u hc q => keep c u ?_ q) (fun c q => by rw [same c (nch q)]; exact q) fun c xs q => by rw [same c (nch q)]; exact q
  rcases hc with hc | hc
  · rw [hc]; exact nch e
  · exact nch hc
theorem no_frame (I : Inv X pins σ H s) {b : Addr} (h : s.heap.objs.size ≤ b) : b ∉ frs X.stack := fun z => by
  rcases List.mem_cons.mp (I.stkSub _ z) with e | e
  · have lt := I.lt
    rw [← e] at lt
    exact Nat.lt_irrefl _ (Nat.lt_of_lt_of_le lt h)
  · exact I.nofs h e
end
theorem each_up {F F' : Hp} {g : G} (sb : Sub F F') {us : List Value} {ds : List D} (e : PySem.W.EachIs (StV g F) us ds) : PySem.W.EachIs (StV g F') us ds := e.mono fun _ _ ⟨v, rv, r⟩ => ⟨v, rv, r.mono sb⟩

/-! ### the sort -/
section
open PySem.W PyProof.Rows
variable {X : Cx} {g : G} {pins : List (Addr × Obj)} {σ : StH} {H F : Hp} {s : Shared} {l f : Addr} {fo : Obj} {xs : List V} {ds : List D} {kd : D → D} {Q : VK}
/-- a turn of key= -/
def Turns (X : Cx) (g : G) (pins : List (Addr × Obj)) (σ : StH) (F H : Hp) (f : Addr) (fo : Obj) (ds : List D) (kd : D → D) : Prop :=
  ∀ (s' : Shared) (F' H' : Hp) (u : Value) (v : V) (d : D), Inv X pins σ H' s' → Ext g F H F' H' → s'.heap.get? f = some fo → RelV v u → Rep g F' v d → d ∈ ds →
    wpAny (model X.prog X.w) X.A.in1.in1 (call (.ref f) [u]) (LamEnd X pins σ H' s' fun kv H'' => ∃ F'', Ext g F' H' F'' H'' ∧ Rep g F'' kv (kd d)) (fun _ _ => False) s'
theorem sort_lam (hg : X.K = g.K) (hu : X.A.units + 2 + 64 < cLine) (I : Inv X pins σ H s) (fh : Sub F H) (hl : SqL X.K H l xs) (t : RepL g F xs ds) (hf : s.heap.get? f = some fo) (nf : H f = none) (ff : f ∉ frs X.stack) (turn : Turns X g pins σ F H f fo ds kd)
    (pk : ∀ d ∈ ds.map kd, py d = some (pyD d)) (ok : srtOk (ds.map fun d => pyD (kd d)) = true) (q : ∀ v F' H', Ext g F H F' H' → PF g F H F' H' v (.lst (ds.mergeSort (dataLe false fun d => pyD (kd d)))) → Q v H') :
    wpAny (model X.prog X.w) X.A (call (.builtin "sorted") [.ref l] [(Str.ofString "key", .ref f)]) (EP X pins σ Q) X.xe s := by
  obtain ⟨its, rv, pl, hz⟩ := I.list hl
  obtain ⟨alike, sortable, deep⟩ := srtOk_of ok
  have eI : EachIs (StV g F) its ds := each_of rv t
  have len : its.length = ds.length := eI.length
  have hzi : its.length ≤ sizeLine := by rw [← rv.length]; exact hz
  refine sorted_of_sort pl.isList hzi (ksk_s1 _ _) (fun _ => ksk_l1 _ _) fun E' => ?_
  rw [ksk_t1]
  have ha0 : s.heap.objs.size ≤ s.heap.objs.size + 1 := Nat.le_succ _
  generalize ea : s.heap.objs.size + 1 = a at ha0
  have ho : (copyHeap s.heap its).get? a = some (seqObj "list" its.toArray 0) := by rw [← ea]; exact copyHeap_at s.heap its
  have hlt : a < (copyHeap s.heap its).objs.size := Heap.lt_size ho
  obtain ⟨e1, ho1⟩ : ∃ e1, ((copyHeap s.heap its).update a (Obj.mapSeq fun _ => (#[] : Array Value))).get? a = some (seqObj "list" #[] e1) := ⟨_, get?_update_seq ho fun _ => #[]⟩
  have hkS : (((copyHeap s.heap its).update a (Obj.mapSeq fun _ => (#[] : Array Value))).push (seqObj "tuple" its.toArray 0)).objs.size = (copyHeap s.heap its).objs.size + 1 := by rw [size_push', Heap.size_update]
  unfold ksk_tree
  refine wpAny_bind (listItems_at ho rfl ?_)
  refine wpAny_bind (listUpdate_at ho rfl ?_ (by rw [List.size_toArray]; exact hzi) (Nat.zero_le _))
  refine wpAny_bind (seqEpoch_at ho1 rfl ?_)
  refine wpAny_bind (wpAny_newTuple ?_ (by show its.length ≤ _; exact hzi))
  refine wpAny_bind (wpAny_newList ?_ (Nat.zero_le _))
  refine wpAny_holding ?_
  have old : ∀ b o, s.heap.get? b = some o → (sortingHeap (copyHeap s.heap its) a its).get? b = some o := fun b o e =>
    sortingHeap_old (by rw [← ea]; exact Nat.ne_of_lt (Nat.lt_succ_of_lt (Heap.lt_size e))) (copyHeap_old e)
  have I3 : Inv X pins σ H { s with heap := sortingHeap (copyHeap s.heap its) a its } := I.kept (t' := s.toks) old
  have tA : (sortingHeap (copyHeap s.heap its) a its).get? a = some (seqObj "list" #[] e1) := Heap.get?_push_of_some _ (Heap.get?_push_of_some _ ho1)
  have tK : (sortingHeap (copyHeap s.heap its) a its).get? (((copyHeap s.heap its).update a (Obj.mapSeq fun _ => (#[] : Array Value))).push (seqObj "tuple" its.toArray 0)).objs.size = some (seqObj "list" #[] 0) := Heap.get?_push_size _ rfl
  generalize eK : (((copyHeap s.heap its).update a (Obj.mapSeq fun _ => (#[] : Array Value))).push (seqObj "tuple" its.toArray 0)).objs.size = kS at hkS tK
  have hK0 : s.heap.objs.size ≤ kS := by omega
  have hKA : kS ≠ a := by omega
  have yA : FpOk X pins H a := I.fpOk ha0 (I.hok.fresh ha0)
  have yK : FpOk X pins H kS := I.fpOk hK0 (I.hok.fresh hK0)
  have fA := no_frame I ha0
  have fK := no_frame I hK0
  show wpAny _ _ (ksk_rest a (.ref f) false its.toArray e1 (.ref kS)) _ _ { s with heap := sortingHeap (copyHeap s.heap its) a its }
  unfold ksk_rest
  refine wpAny_bind (wpAny_rule ?_)
  first
    | rw [List.forIn_toArray]
    | (rw [← Array.forIn_toList]; simp only [List.toList_toArray])
    | rw [← Array.forIn_toList]
  refine wpAny_bind (ksk_fold (fun i s' => ∃ H' F' kA ek, Inv X pins σ H' s' ∧ s'.heap.get? kS = some (seqObj "list" kA ek) ∧ s'.heap.get? a = some (seqObj "list" #[] e1) ∧ s'.heap.get? f = some fo ∧ (H' kS = none ∧ H' a = none ∧ H' f = none) ∧ Ext g F H F' H' ∧ EachIs (StV g F') kA.toList ((ds.take i).map kd)) its 0 _
    ⟨H, F, #[], 0, I3, tK, tA, old _ _ hf, ⟨yK.1, yA.1, nf⟩, .refl fh, by rw [List.take_zero]; exact EachIs.nil⟩ ?step ?done)
  case step =>
    rintro j x s1 hx ⟨H1, F1, kA, ek, I1, k1, a1, f1, ⟨nK1, nA1, nF1⟩, x1, ek1⟩
    simp only [Nat.zero_add] at ek1 ⊢
    have hj : j < its.length := (List.getElem?_eq_some_iff.mp hx).1
    obtain ⟨d, hd⟩ : ∃ d, ds[j]? = some d := ⟨_, List.getElem?_eq_getElem (by omega)⟩
    have hzip : (x, d) ∈ its.zip ds := List.mem_of_getElem? (i := j) (by rw [List.getElem?_zip_eq_some]; exact ⟨hx, hd⟩)
    obtain ⟨v, rvx, rep⟩ := eI.zip _ hzip
    have small : kA.size ≤ its.length := by
      have z := ek1.length
      rw [Array.length_toList, List.length_map, List.length_take] at z
      omega
    refine wpAny_bind (wpAny_attempt (wpAny_mono (turn s1 F1 H1 x v d I1 x1 f1 rvx (rep.mono x1.f) (List.mem_of_getElem? hd)) (fun u s2 got => ?_) fun _ _ z => z.elim))
    obtain ⟨kv, H2, I2, rk, ⟨F2, x2, repk⟩, stays⟩ := got
    dsimp only
    obtain ⟨k2, nK2⟩ := stays _ _ k1 nK1 fK
    obtain ⟨a2, nA2⟩ := stays _ _ a1 nA1 fA
    obtain ⟨f2, nF2⟩ := stays _ _ f1 nF1 ff
    have sm := Heap.SameBut.update s2.heap kS (Obj.mapSeq (·.push u))
    obtain ⟨c2, hc2⟩ : ∃ c2, (s2.heap.update kS (Obj.mapSeq (·.push u))).get? kS = some (seqObj "list" (kA.push u) c2) := ⟨_, get?_update_seq k2 (·.push u)⟩
    refine wpAny_bind (listUpdate_at k2 rfl ?_ (Nat.le_trans small hzi) (Nat.le_trans (Nat.le_of_eq (Array.size_push ..)) (Nat.succ_le_succ (Nat.le_trans small hzi))))
    have keep : ∀ b o, b ∉ [kS] → s2.heap.get? b = some o → (s2.heap.update kS (Obj.mapSeq (·.push u))).get? b = some o := fun b o hb e => (sm.2 b (by simpa using hb)).trans e
    have I4 : Inv X pins σ H2 { s2 with heap := s2.heap.update kS (Obj.mapSeq (·.push u)), toks := s2.toks } :=
      touch (ch := [kS]) I2 (fun b hb => by
        rw [show b = kS by simpa using hb]; exact ⟨nK2, yK.2⟩) keep (fun _ _ => rfl) fun b o e => hok_touch (ch := [kS]) I2 (fun b hb => by
        rw [show b = kS by simpa using hb]; exact nK2) keep e fun _ _ => rfl
    refine wpAny_pure ⟨rfl, H2, F2, kA.push u, c2, I4, hc2, (sm.2 a (Ne.symm hKA)).trans a2, ?_, ⟨nK2, nA2, nF2⟩, x1.trans x2, ?_⟩
    · have hfk : f ≠ kS := fun z => by
        have lt := Heap.lt_size hf
        rw [z] at lt
        exact Nat.lt_irrefl _ (Nat.lt_of_lt_of_le lt hK0)
      exact (sm.2 f hfk).trans f2
    · rw [show (kA.push u).toList = kA.toList ++ [u] by simp, show (ds.take (j + 1)).map kd = (ds.take j).map kd ++ [kd d] by rw [List.take_add_one, hd]; simp]
      exact each_snoc ⟨kv, rk, repk⟩ (each_up x2.f ek1)
  case done =>
    rintro s1 ⟨H1, F1, kA, ek, I1, k1, a1, f1, ⟨nK1, nA1, nF1⟩, x1, ek1⟩
    have ek1 : EachIs (StV g F1) kA.toList (ds.map kd) := by
      have e3 : ds.take (0 + its.length) = ds := List.take_of_length_le (by omega)
      rw [e3] at ek1
      exact ek1
    have hsz : kA.size = its.length := by
      have z := ek1.length
      rw [Array.length_toList, List.length_map] at z
      omega
    try dsimp only
    refine wpAny_bind (listItems_at k1 rfl ?_)
    obtain ⟨G', g1, g2⟩ := restrict s1.heap fun b => decide (b ≠ kS)
    have gOn : ∀ b, b ≠ kS → G'.get? b = s1.heap.get? b := fun b hb => g1 b (decide_eq_true hb)
    have gOut : G'.get? kS = none := g2 kS (by simp)
    have kz : (ds.map kd).map pyD = ds.map fun d => pyD (kd d) := by rw [List.map_map]; rfl
    have reads : EachIs (fun v k => ∃ as, Reads s1.heap v k as) kA.toList (ds.map fun d => pyD (kd d)) := by
      rw [← kz]
      exact each_map (R := fun v k => ∃ as, Reads s1.heap v k as) pyD (each_reads hg I1 x1.fh pk ek1)
    have hu' : ∀ d, d ∈ (ds.map fun d => pyD (kd d)) → X.A.in1.in1.units + d.depth < cLine := fun d hd => by
      have z := deep d hd
      show X.A.units + 1 + 1 + d.depth < cLine
      omega
    refine keyH_end (κ := dataKind s1.heap (ds.map fun d => pyD (kd d))) (h₁ := G') (vs := its) (fun b o hb e => ?_) gOut k1 a1 hKA (SortsAt.data (s := s1) reads alike sortable hu') hsz hzi fun h' tk c kept sorted => ⟨rfl, ?_⟩
    · by_cases hbk : b = kS
      · rw [hbk, gOut] at e; cases e
      · rw [← gOn b hbk]; exact e
    · have eO := keyedOut_each (rev := false) (R := StV g F1) (fun d => pyD (kd d)) ⟨s1.heap, kA.toList, alike, rfl, reads⟩ (each_up x1.f eI)
      obtain ⟨zs, rz, tz⟩ := of_each eO
      have lz : zs.length ≤ sizeLine := by
        rw [tz.length, List.length_mergeSort, ← len]; exact hzi
      have keep : ∀ b o, b ∉ [a, kS] → s1.heap.get? b = some o → h'.get? b = some o := fun b o hb e => by
        have hb1 : b ≠ a := fun z => hb (by simp [z])
        have hb2 : b ≠ kS := fun z => hb (by simp [z])
        exact kept b o hb1 (by rw [gOn b hb2]; exact e)
      have none2 : ∀ b ∈ [a, kS], H1 b = none := fun b hb => by
        rcases List.mem_cons.mp hb with z | z
        · rw [z]; exact nA1
        · rw [show b = kS by simpa using z]; exact nK1
      have same2 : ∀ b, b ∉ [a, kS] → upd H1 a (.lst zs) b = H1 b := fun b hb => upd_ne fun z => hb (by simp [z])
      have J : Inv X pins σ (upd H1 a (.lst zs)) { s1 with heap := h', toks := tk } :=
        touch (ch := [a, kS]) I1 (fun b hb => by
          rcases List.mem_cons.mp hb with z | z
          · rw [z]; exact ⟨nA1, yA.2⟩
          · rw [show b = kS by simpa using z]; exact ⟨nK1, yK.2⟩) keep same2 fun b o e => by
          by_cases hba : b = a
          · subst hba
            rw [upd_same] at e
            cases e
            exact ⟨lz, _, c, rz, sorted⟩
          · rw [upd_ne hba] at e
            exact hok_touch (ch := [a, kS]) I1 none2 keep e same2
      exact ⟨.ref a, _, J, rfl, q _ F1 _ (x1.trans (.allocO x1.fh nA1)) ⟨a, zs, _, rfl, rfl, upd_same, .of yA.1, x1.fh.out nA1, tz⟩⟩
end

/-! ### sorted(e, key=lambda x: body) -/
def capt (ρ : Env) (j : Nat) : Slot := match ρ[j]? with
  | some (.val d) => .val d
  | _ => .none
/-- the names of the lambda's body: its parameter, then what it captured -/
def lamE (n : Nat) (js : List Nat) (ρ : Env) (d : D) : Env := [Slot.val d] ++ (js.map (capt ρ) ++ List.replicate (n - 1 - js.length) Slot.none)
theorem lam_rel {g : G} {σ : StH} {F H : Hp} {ρ : Env} {N : List Str} {js : List Nat} {v : V} {d : D} (r : RelE g σ F H ρ) (rv : Rep g F v d) : RelE g (NdefX.startF N [v] (js.map (NdefX.slotAt σ))) F H (lamE N.length js ρ d) := by
  have inner : ∀ {i : Nat} {t : Slot}, (lamE N.length js ρ d)[i + 1]? = some t → t ≠ .none → ∃ j d', js[i]? = some j ∧ ρ[j]? = some (.val d') ∧ t = .val d' := fun {i t} e ht => by
    unfold lamE at e
    rw [List.getElem?_append_right (by simp), show i + 1 - [Slot.val d].length = i by simp] at e
    by_cases hi : i < js.length
    · rw [List.getElem?_append_left (by simpa using hi), List.getElem?_map] at e
      cases ej : js[i]? with
      | none => rw [ej] at e; cases e
      | some j =>
        rw [ej] at e
        have e : capt ρ j = t := by simpa using e
        unfold capt at e
        split at e
        · rename_i d' hd
          exact ⟨j, d', rfl, hd, e.symm⟩
        · exact absurd e.symm ht
    · rw [List.getElem?_append_right (by simpa using hi), List.getElem?_replicate] at e
      split at e
      · cases e; exact absurd rfl ht
      · cases e
  have zero : ∀ {t : Slot}, (lamE N.length js ρ d)[0]? = some t → t = .val d := fun {t} e => by
    unfold lamE at e
    rw [List.getElem?_append_left (by simp)] at e
    simpa using e.symm
  refine ⟨?_, r.fh, r.nt, r.tb, fun i d' e => ?_, fun i l e => ?_, fun i j l l' a e => ?_⟩
  · unfold NdefX.startF lamE
    simp only [List.length_append, List.length_map, List.length_replicate, List.length_cons, List.length_nil]
  · cases i with
    | zero =>
      cases zero e
      refine ⟨v, ?_, rv⟩
      unfold NdefX.startF
      rw [List.getElem?_append_left (by simp)]
      rfl
    | succ i =>
      obtain ⟨j, d2, hj, hd, z⟩ := inner e (by simp)
      cases z
      obtain ⟨w, h1, h2⟩ := r.val j d' hd
      refine ⟨w, ?_, h2⟩
      unfold NdefX.startF
      have hi : i < js.length := (List.getElem?_eq_some_iff.mp hj).1
      rw [List.getElem?_append_right (by simp), show i + 1 - ([v].map some).length = i by simp, List.getElem?_append_left (by simpa using hi), List.getElem?_map, hj]
      show some (NdefX.slotAt σ j) = some (some w)
      rw [NdefX.slotAt_of h1]
  · cases i with
    | zero => have z := zero e; cases z
    | succ i => obtain ⟨j, d2, hj, hd, z⟩ := inner e (by simp); cases z
  · cases i with
    | zero => have z := zero e; cases z
    | succ i => obtain ⟨j, d2, hj, hd, z⟩ := inner e (by simp); cases z
def isOk {α : Type} : Res α → Bool
  | .ok _ => true
  | _ => false
def okOr : Res D → D
  | .ok d => d
  | _ => .non
theorem okOr_of {r : Res D} (h : isOk r = true) : r = .ok (okOr r) := by
  cases r with
  | ok d => rfl
  | _ => cases h
/-- sorted by keys -/
def sortKD (kd : D → Res D) : D → Res D
  | .lst l => if l.all (fun d => isOk (kd d)) = true then (match pyL (l.map fun d => okOr (kd d)) with
    | some ps => if srtOk ps = true then .ok (.lst (l.mergeSort (PySem.W.dataLe false fun d => pyD (okOr (kd d))))) else .bad
    | none => .bad) else .bad
  | _ => .bad
section
variable {X : Cx} {g : G} {W : WX} {e body : Expr} {fe fb : Env → Res D} {p pos lpos kpos : Pos} {params : Arguments} {scope : Scope} {N fr : List Str} {js : List Nat} {k : Nat} {c P : Addr} {x : Str}
theorem de_sortLam (hg : Gl X "sorted") (hm : X.mg "sorted" = none) (hgK : X.K = g.K) (room : Room (k + 3) X.A) (he : PE X e (tB g W fe)) (hs : starEach [e] X.env = [(false, eval e X.env)])
    (TB : LamX.TabB X.base X.mg c P) (hcode : X.env.code = .ref c) (hT : (P, X.env.qual ++ "<lambda>") ∈ g.T) (hu : ∀ p ∈ g.T, p.1 = P → p.2 = X.env.qual ++ "<lambda>") (S : NdefX.NScope N [x] fr scope) (hdef : defaultsOf params X.env = ([], []))
    (hfree : ∀ y ∈ scope.names, y.2 = .free → X.env.scope.names.lookup y.1 = some .cell ∨ X.env.scope.names.lookup y.1 = some .free) (hfr : ∀ y ∈ fr, (y, NameKind.free) ∈ scope.names) (hjs : js.map (fun j => X.N[j]?) = fr.map some)
    (bind : ∀ (cl : List (Str × Addr)) (pm c ctv u : Value), bindArgs (PySem.W.kla_fn "<lambda>" (X.env.qual ++ "<lambda>") params body scope cl pm c ctv) ⟨[u], []⟩ = pure [(x, u)])
    (hb : ∀ (A : Around) (s : Shared) (H : Hp) (f c' : Addr), Room k (A.deeper (NdefX.envF (lamF X params scope c') f s.heap.objs.size)) → PE (lamX X A X.stack s H N (lamF X params scope c') f) body (tV g W0 fb)) :
    PE X (.Call (.Name "sorted" p) [e] [⟨some "key", .Lambda params body scope lpos, kpos⟩] pos) (tF g W fun ρ => do let x ← fe ρ; sortKD (fun d => fb (lamE N.length js ρ d)) x) := by
  refine ⟨fun pins s σ H Q I ⟨F, ρ, r, q⟩ => ?_⟩
  refine wpAny_Call_Name_kw (ld_blt I hg hm PyProof.Rows.Boot.«sorted» ?_ (by decide) (by decide))
  have ha := pa_cons he pa_nil (by rw [hs]; rfl)
  refine PyProof.Rows.callWith_kw (thn (ha.run pos pins s σ H (fun vs H1 => ∃ F1 v dx, vs = [v] ∧ fe ρ = .ok dx ∧ Ext g F H F1 H1 ∧ RepB g F1 H1 v dx) I ⟨F, ρ, r, out_imp (out_bind q) (fun dx hd q1 v F1 H1 x1 pv => ⟨F1, v, dx, rfl, hd, x1, pv⟩) fun _ _ _ z => z⟩) fun us s1 ⟨vs, H1, I1, rs, F1, v, dx, ev, hd, x1, pv⟩ => ?_) (by rw [hs]; rfl) (by rw [hs]; rfl) (by rfl) (by rfl)
  subst ev
  obtain ⟨u, rfl, ru⟩ := rs.one
  have q := out_bind q
  rw [hd] at q
  have q : out (sortKD (fun d => fb (lamE N.length js ρ d)) dx) (fun d => ∀ v F' H', Ext g F H F' H' → PF g F H F' H' v d → Q v H') (fun c d => ∀ cls dd F' H', Ext g F H F' H' → ExR g c d cls dd F' H' → W cls dd σ H') := q
  have r1 := r.ext x1
  cases dx with
  | lst l =>
    obtain ⟨a, xs, rfl, hl, t⟩ := pv
    obtain rfl : u = Value.ref a := ru
    dsimp only [sortKD] at q
    split at q
    case isFalse => exact q.elim
    rename_i hall
    split at q
    case h_2 => exact q.elim
    rename_i ps hps
    split at q
    case isFalse => exact q.elim
    rename_i hok
    obtain ⟨rfl, hpy⟩ := pyL_map hps
    have hf : ∀ y ∈ scope.names, y.2 = .free → ∃ c, X.env.cells.lookup y.1 = some c := fun y hy e => (hfree y hy e).elim (fun z => I.ok.has _ (.inl z)) fun z => I.ok.has _ (.inr z)
    show wpAny _ _ (evalAll [do let v ← eval (.Lambda params body scope lpos) X.env; standAt pos; pure v]) _ _ s1
    refine wpAny_evalAll_cons (wpAny_bind (LamX.lam_make2 I1 TB hcode hT hu r1.tb hdef hf fun f c' pm ctv H2 s2 I2 kept tabs fobj fnone fframe code => wpAny_bind (wpAny_standAt (wpAny_pure (wpAny_evalAll_nil ?_)))))
    have x2 : Ext g F1 H1 F1 H2 := ⟨.refl F1, ⟨kept, fun _ => tabs⟩, fun b o e => kept b o (r1.fh b o e) fun ps z => r1.nt b ps (by rw [e, z]), fun b hb => .inl hb, id⟩
    have r2 := r1.ext x2
    have x12 := x1.trans x2
    show wpAny _ _ (call (.builtin "sorted") [.ref a] [(Str.ofString "key", .ref f)]) _ _ s2
    have hun := room.un
    refine sort_lam (kd := fun d => okOr (fb (lamE N.length js ρ d))) (F := F1) (ds := l) hgK (by omega) I2 r2.fh (.of (x2.h.lst hl)) t fobj fnone fframe (fun s3 F3 H3 u v d I3 x3 f3 rv3 rep hd3 => ?_) hpy (by rw [List.map_map] at hok; exact hok) fun v F' H' xx pf => q v F' H' (x12.trans xx) (PF.early g _ _ _ _ _ _ _ _ x12 pf)
    have r3 := r2.ext x3
    have codeH : H3 c' = some (LamX.CodeO c' (X.env.qual ++ "<lambda>")) := x3.h.keep _ _ code fun ps z => LamX.codeO_ne ps z
    refine run_lam (k := k) (N := N) (ps := [x]) (fr := fr) (js := js) (vs := [v]) (tb := tV g W0 fb) I3 S (NdefX.Caps.made I3.ok hfree hfr hjs) f3 codeH (bind _ _ _ _ _) room.in1.in1 I3.env0.in1.in1 (fun A s H rm => hb A s H f c' rm) (.cons rv3 .nil) rfl ?_
    have good := okOr_of (List.all_eq_true.mp hall d hd3)
    refine ⟨F3, lamE N.length js ρ d, lam_rel r3 rep, ?_⟩
    rw [good]
    exact fun kv F4 H4 x4 pk => ⟨F4, x4, pk⟩
  | _ => exact q.elim
end
end PL
/-! PLm: the rules as a printer of derivations uses them. -/
namespace PL
open PySem PySem.Spec L2

/-! ### what things compute, by name -/
def s0 (d : D) : Env → Res D := fun _ => .ok d
def s1 (h : D → Res D) (fa : Env → Res D) : Env → Res D := fun ρ => do let x ← fa ρ; h x
def s2 (h : D → D → Res D) (fa fb : Env → Res D) : Env → Res D := fun ρ => do let x ← fa ρ; let y ← fb ρ; h x y
def sN (h : List D → Res D) (fs : Env → Res (List D)) : Env → Res D := fun ρ => do let xs ← fs ρ; h xs
def aN : Env → Res (List D) := fun _ => .ok []
def aC (f : Env → Res D) (fs : Env → Res (List D)) : Env → Res (List D) := fun ρ => do let x ← f ρ; let xs ← fs ρ; .ok (x :: xs)
def aS (f : Env → Res D) (fs : Env → Res (List D)) : Env → Res (List D) := fun ρ => do let x ← f ρ; let here ← spl x; let xs ← fs ρ; .ok (here ++ xs)
def sAnd (fa fb : Env → Res D) : Env → Res D := fun ρ => do let x ← fa ρ; let k ← truth x; if k = true then fb ρ else .ok x
def sOr (fa fb : Env → Res D) : Env → Res D := fun ρ => do let x ← fa ρ; let k ← truth x; if k = true then .ok x else fb ρ
def sNot (fa : Env → Res D) : Env → Res D := fun ρ => do let x ← fa ρ; let k ← truth x; .ok (.bl !k)
def sIte (fc : Env → Res Bool) (fa fb : Env → Res D) : Env → Res D := fun ρ => do let c ← fc ρ; if c = true then fa ρ else fb ρ
def tD (f : Env → Res D) : Env → Res Bool := fun ρ => do let d ← f ρ; truth d
def tNt (f : Env → Res Bool) : Env → Res Bool := fun ρ => do let b ← f ρ; .ok !b
def tAn (f k : Env → Res Bool) : Env → Res Bool := fun ρ => do let c ← f ρ; if c = true then k ρ else .ok false
def tOr (f k : Env → Res Bool) : Env → Res Bool := fun ρ => do let c ← f ρ; if c = true then .ok true else k ρ
def oN : Env → Res (Option Int) := fun _ => .ok none
def oS (f : Env → Res D) : Env → Res (Option Int) := fun ρ => do let x ← f ρ; asInt x
def sSl (h : D → Option Int → Option Int → Res D) (f : Env → Res D) (l u : Env → Res (Option Int)) : Env → Res D := fun ρ => do let x ← f ρ; let l ← l ρ; let u ← u ρ; h x l u
def iSeq (f : Env → Res D) : Env → Res (List D) := fun ρ => do let x ← f ρ; itemsD x
def r1 (f : Env → Res D) : Env → Res (Int × Int) := fun ρ => do let x ← f ρ; let n ← toI x; .ok (0, n)
def lRg (f : Env → Res (Int × Int)) : Env → Res D := fun ρ => do let o ← f ρ; if rgOk o.1 o.2 = true then .ok (.lst (rgD o.1 o.2)) else .bad
def sIs (cs : List String) (f : Env → Res D) : Env → Res D := fun ρ => do let x ← f ρ; isiD x cs
def sKey (n : Nat) (js : List Nat) (fe fb : Env → Res D) : Env → Res D := fun ρ => do let x ← fe ρ; sortKD (fun d => fb (lamE n js ρ d)) x
def tYs : Env → Res Bool := fun _ => .ok true

/-- the comparisons -/
inductive Cm where
  | eq | ne | is | isnot | ord (o : Or4)
def Cm.op : Cm → CmpOp
  | .eq => .Eq | .ne => .NotEq | .is => .Is | .isnot => .IsNot | .ord o => o.op
def Cm.h : Cm → D → D → Res D
  | .eq => eqD false | .ne => eqD true | .is => isD false | .isnot => isD true | .ord o => ordD o
theorem Cm.q : ∀ o : Cm, Quiet o.h
  | .eq => eqD_q _ | .ne => eqD_q _ | .is => isD_q _ | .isnot => isD_q _ | .ord o => ordD_q o
theorem Cm.bb : ∀ o : Cm, Bools o.h
  | .eq => eqD_b _ | .ne => eqD_b _ | .is => isD_b _ | .isnot => isD_b _ | .ord o => ordD_b o

/-- what a context must give -/
structure Ct (X : Cx) (g : G) (W : WX) (m : Nat) : Prop where
  K : X.K = g.K
  calm : X.calm = true
  room : Room m X.A
  tk : Takes X W
theorem Ct.u {X : Cx} {g : G} {W : WX} {m : Nat} (C : Ct X g W m) : X.A.units + 2 + 64 < cLine := by have := C.room.un; omega
theorem Ct.u1 {X : Cx} {g : G} {W : WX} {m : Nat} (C : Ct X g W m) : X.A.units + 64 < cLine := by have := C.room.un; omega
theorem Ct.blk {X : Cx} {g : G} {W : WX} {m : Nat} (C : Ct X g W m) {s : Shared} {H : Hp} {sc : Scope} {ce : PySem.Env} {fp : List Addr} : Ct (X.blk s H sc ce fp) g W0 m := ⟨C.K, C.calm, C.room, takes0⟩
theorem Ct.tr {X : Cx} {g : G} {W W' : WX} {m : Nat} (C : Ct X g W m) {pn : List (Addr × Obj)} {xe : Value → Shared → Prop} (tk : Takes (X.tr pn xe) W') : Ct (X.tr pn xe) g W' m := ⟨C.K, C.calm, C.room, tk⟩
/-- a def of the program keeps its promise -/
structure DefOk (P : Program) (w : World) (K : PySem.W.Frag) (mg : Str → Option Value) (base : Heap) (g : G) (k : Nat) (x : Str) (ps : List Str) (h : List D → Res D) : Prop where
  ok : ∃ fd, FnOk P w K mg base (L2.CX P w) k (He.ga K x) fd ps (spD g h) ∧ Binds K fd ps []
  kp : PySem.W.keepIn K (.ref (He.ga K x)) = true
  gl : mg x = some (.ref (He.ga K x))

section
variable {X : Cx} {g : G} {W : WX} {m : Nat} {a b c e : Expr} {es : List Expr} {fa fb fc fe : Env → Res D} {fs : Env → Res (List D)} {t1 t2 : Env → Res Bool} {pos p : Pos} {x : Str}
theorem nV {i : Nat} (hN : X.N[i]? = some x) (hv : Vis X.env.scope x) (hd : (x == ("__debug__" : Str)) = false) (hcd : (x == ("__classdict__" : Str)) = false) : PE X (.Name x pos) (tV g W (eVar i)) := de_var hN hv hd hcd
theorem nB {i : Nat} (hN : X.N[i]? = some x) (hv : Vis X.env.scope x) (hd : (x == ("__debug__" : Str)) = false) (hcd : (x == ("__classdict__" : Str)) = false) : PE X (.Name x pos) (tB g W (eBor i)) := de_bor hN hv hd hcd
theorem kI {i : Int} {j} : PE X (.Constant (.int i) j pos) (tV g W (s0 (.int i))) := de_c pe_int fun _ => .int i
theorem kB {b : Bool} {j} : PE X (.Constant (.bool b) j pos) (tV g W (s0 (.bl b))) := de_c pe_bl fun _ => .bl b
theorem kN {j} : PE X (.Constant .none j pos) (tV g W (s0 .non)) := de_c pe_non fun _ => .non
theorem kS {z : Str} {j} : PE X (.Constant (.str z) j pos) (tV g W (s0 (.str z))) := de_c pe_str fun _ => .str z
theorem kG {i : Int} (hg : Gl X x) (hm : ∃ t, X.mg x = some (.int i t)) (hdb : (x == ("__debug__" : Str)) = false) : PE X (.Name x pos) (tV g W (s0 (.int i))) := by
  obtain ⟨t, hm⟩ := hm
  exact de_c (v := .int i) (pe_glob hg hm ⟨t, rfl⟩ hdb) fun _ => .int i
theorem bAdd (C : Ct X g W m) (ha : PE X a (tB g W fa)) (hb : PE X b (tB g W fb)) : PE X (.BinOp a .Add b pos) (tV g W (s2 addD fa fb)) := de_bin (PV.early g) addD_q (op_addD C.K) ha hb
theorem bCat (C : Ct X g W m) (ha : PE X a (tB g W fa)) (hb : PE X b (tB g W fb)) : PE X (.BinOp a .Add b pos) (tF g W (s2 catD fa fb)) := de_bin (PF.early g) catD_q (op_catD C.K) ha hb
theorem bSub (C : Ct X g W m) (ha : PE X a (tB g W fa)) (hb : PE X b (tB g W fb)) : PE X (.BinOp a .Sub b pos) (tV g W (s2 subD fa fb)) := de_bin (PV.early g) subD_q op_subD ha hb
theorem bMul (C : Ct X g W m) (ha : PE X a (tB g W fa)) (hb : PE X b (tB g W fb)) : PE X (.BinOp a .Mult b pos) (tV g W (s2 mulD fa fb)) := de_bin (PV.early g) mulD_q op_mulD ha hb
theorem bRep (C : Ct X g W m) (ha : PE X a (tB g W fa)) (hb : PE X b (tB g W fb)) : PE X (.BinOp a .Mult b pos) (tF g W (s2 repD fa fb)) := de_bin (PF.early g) repD_q op_repD ha hb
theorem bDiv (C : Ct X g W m) (ha : PE X a (tB g W fa)) (hb : PE X b (tB g W fb)) : PE X (.BinOp a .FloorDiv b pos) (tV g W (s2 fdivD fa fb)) := de_bin (PV.early g) fdivD_q op_fdivD ha hb
theorem bMod (C : Ct X g W m) (ha : PE X a (tB g W fa)) (hb : PE X b (tB g W fb)) : PE X (.BinOp a .Mod b pos) (tV g W (s2 modD fa fb)) := de_bin (PV.early g) modD_q op_modD ha hb
theorem bPow (C : Ct X g W m) (ha : PE X a (tB g W fa)) (hb : PE X b (tB g W fb)) : PE X (.BinOp a .Pow b pos) (tV g W (s2 powD fa fb)) := de_bin (PV.early g) powD_q op_powD ha hb
theorem negD_q (x : D) (c : Nat) (d : D) : negD x ≠ .exc c d := fun e => by
  unfold negD at e
  split at e <;> cases e
theorem uNeg (C : Ct X g W m) (ha : PE X a (tB g W fa)) : PE X (.UnaryOp .USub a pos) (tV g W (s1 negD fa)) := de_un negD_q op_negD ha
theorem uNot (C : Ct X g W m) (ha : PE X a (tB g W fa)) : PE X (.UnaryOp .Not a pos) (tV g W (sNot fa)) := de_not C.K ha
theorem Cm.r (C : Ct X g W m) : ∀ o : Cm, OpR X (compareOp o.op) (rD2 g (PV g) o.h)
  | .eq => op_eqDD C.K C.u1 | .ne => op_neDD C.K C.u1 | .is => op_isD | .isnot => op_isnotD | .ord o => op_ordD o C.K C.u1
theorem cV (o : Cm) (C : Ct X g W m) (ha : PE X a (tB g W fa)) (hb : PE X b (tB g W fb)) (hm : behindInMarks o.op b = false) : PE X (.Compare a [o.op] [b] pos) (tV g W (s2 o.h fa fb)) := de_cmp o.q (o.r C) ha hb hm
theorem cT (o : Cm) (C : Ct X g W m) (ha : PE X a (tB g W fa)) (hb : PE X b (tB g W fb)) (hm : behindInMarks o.op b = false) : PT X (.Compare a [o.op] [b] pos) (tT g W (tD (s2 o.h fa fb))) := dt_cmp o.q o.bb (o.r C) ha hb hm
theorem chV (o o' : Cm) (C : Ct X g W m) (ha : PE X a (tB g W fa)) (hb : PE X b (tB g W fb)) (hc : PE X c (tB g W fc)) (hm : lastMarks [o.op, o'.op] [b, c] = false) : PE X (.Compare a [o.op, o'.op] [b, c] pos) (tV g W (chainD o.h o'.h fa fb fc)) := de_chain o.q o.bb o'.q (o.r C) (o'.r C) ha hb hc hm
theorem chT (o o' : Cm) (C : Ct X g W m) (ha : PE X a (tB g W fa)) (hb : PE X b (tB g W fb)) (hc : PE X c (tB g W fc)) (hm : lastMarks [o.op, o'.op] [b, c] = false) : PT X (.Compare a [o.op, o'.op] [b, c] pos) (tT g W (tD (chainD o.h o'.h fa fb fc))) := dt_chain o.q o.bb o'.q o'.bb (o.r C) (o'.r C) ha hb hc hm
theorem oAnd {rest : List Expr} (C : Ct X g W m) (ha : PE X a (tV g W fa)) (hb : PE X (.BoolOp .And (b :: rest) pos) (tV g W fb)) : PE X (.BoolOp .And (a :: b :: rest) pos) (tV g W (sAnd fa fb)) := de_and C.K ha hb
theorem oOr {rest : List Expr} (C : Ct X g W m) (ha : PE X a (tV g W fa)) (hb : PE X (.BoolOp .Or (b :: rest) pos) (tV g W fb)) : PE X (.BoolOp .Or (a :: b :: rest) pos) (tV g W (sOr fa fb)) := de_or C.K ha hb
theorem eIf (C : Ct X g W m) (hc : PT X c (tT g W t1)) (ha : PE X a (tV g W fa)) (hb : PE X b (tV g W fb)) : PE X (.IfExp c a b pos) (tV g W (sIte t1 fa fb)) := de_if (PV.early g) hc ha hb
theorem eIfF (C : Ct X g W m) (hc : PT X c (tT g W t1)) (ha : PE X a (tF g W fa)) (hb : PE X b (tF g W fb)) : PE X (.IfExp c a b pos) (tF g W (sIte t1 fa fb)) := de_if (PF.early g) hc ha hb
theorem tV' (C : Ct X g W m) (ha : PE X a (tB g W fa)) (he : ∀ whole, isTrue a X.env whole = (do let v ← whole; standAt a.pos; holding [v] (truthy v))) : PT X a (tT g W (tD fa)) := dt_truth C.K ha he
theorem tN' {c : Expr} (h : PT X c (tT g W t1)) : PT X (.UnaryOp .Not c pos) (tT g W (tNt t1)) := dt_not h
theorem wA1 (h : PT X a (tT g W t1)) : PW X (.BoolOp .And [a] pos) (tT g W t1) := dw_and1 h
theorem wO1 (h : PT X a (tT g W t1)) : PW X (.BoolOp .Or [a] pos) (tT g W t1) := dw_or1 h
theorem wA {rest : List Expr} (ha : PT X a (tT g W t1)) (hb : PW X (.BoolOp .And (b :: rest) pos) (tT g W t2)) : PW X (.BoolOp .And (a :: b :: rest) pos) (tT g W (tAn t1 t2)) := dw_and ha hb
theorem wO {rest : List Expr} (ha : PT X a (tT g W t1)) (hb : PW X (.BoolOp .Or (b :: rest) pos) (tT g W t2)) : PW X (.BoolOp .Or (a :: b :: rest) pos) (tT g W (tOr t1 t2)) := dw_or ha hb
theorem gV_nil : PA X [] (tAV g W aN) := da_nil
theorem gB_nil : PA X [] (tAB g W aN) := db_nil
theorem gV (ha : PE X e (tV g W fe)) (hr : PA X es (tAV g W fs)) (hs : starEach (e :: es) X.env = (false, eval e X.env) :: starEach es X.env) : PA X (e :: es) (tAV g W (aC fe fs)) := da_cons ha hr hs
theorem gB (ha : PE X e (tB g W fe)) (hr : PA X es (tAB g W fs)) (hs : starEach (e :: es) X.env = (false, eval e X.env) :: starEach es X.env) : PA X (e :: es) (tAB g W (aC fe fs)) := db_cons ha hr hs
theorem gS (C : Ct X g W m) (ha : PE X e (tB g W fe)) (hr : PA X es (tAV g W fs)) (hs : starEach (.Starred e p :: es) X.env = (true, eval e X.env) :: starEach es X.env) : PA X (.Starred e p :: es) (tAV g W (aS fe fs)) := da_star C.K ha hr hs
theorem eTup {k} (h : PA X es (tAV g W fs)) : PE X (.Tuple es k pos) (tV g W (sN mkTup fs)) := de_tup h
theorem eLst (h : PA X es (tAV g W fs)) : PE X (.List es pos) (tF g W (sN mkLst fs)) := de_lst h
theorem eIx (C : Ct X g W m) (ha : PE X a (tB g W fa)) (hb : PE X b (tB g W fb)) (hs : PlainIx b) : PE X (.Subscript a b pos) (tV g W (s2 ixD fa fb)) := de_ix C.K ha hb hs
theorem xNo : PO X none (tOI g W oN) := do_none
theorem xSo (h : PE X e (tB g W fe)) : PO X (some e) (tOI g W (oS fe)) := do_some h
theorem slT_q (x : D) (l u : Option Int) (c : Nat) (d : D) : slT x l u ≠ .exc c d := fun e => by
  unfold slT at e
  split at e <;> first | cases e | (split at e <;> cases e)
theorem slL_q (x : D) (l u : Option Int) (c : Nat) (d : D) : slL x l u ≠ .exc c d := fun e => by
  unfold slL at e
  split at e <;> first | cases e | (split at e <;> cases e)
theorem eSlT {lo hi : Option Expr} {fl fh : Env → Res (Option Int)} {p2 : Pos} (C : Ct X g W m) (ha : PE X a (tB g W fa)) (hl : PO X lo (tOI g W fl)) (hh : PO X hi (tOI g W fh)) : PE X (.Subscript a (.Slice lo hi none p2) pos) (tV g W (sSl slT fa fl fh)) := de_sl (PV.early g) slT_q (sl_T C.K) ha hl hh
theorem eSlL {lo hi : Option Expr} {fl fh : Env → Res (Option Int)} {p2 : Pos} (C : Ct X g W m) (ha : PE X a (tB g W fa)) (hl : PO X lo (tOI g W fl)) (hh : PO X hi (tOI g W fh)) : PE X (.Subscript a (.Slice lo hi none p2) pos) (tF g W (sSl slL fa fl fh)) := de_sl (PF.early g) slL_q (sl_L C.K) ha hl hh
/-- calls of the built-in -/
theorem xB {id : String} {h : List D → Res D} {P : RP} (hP : P.Early g) (hq : QuietL h) (hc : CallR X (.builtin id) (rDL g P h)) (hv : bootBuiltins x = some (.builtin id)) (hn : x ≠ "__name__") (hdb : (x == ("__debug__" : Str)) = false) (hg : Gl X x) (hm : X.mg x = none) (ha : PA X (e :: es) (tAB g W fs))
    (he : starEach (e :: es) X.env = (false, eval e X.env) :: starEach es X.env) (hpl : (backTo pos (starEach es X.env)).any (·.1) = false) : PE X (.Call (.Name x p) (e :: es) [] pos) (tP g W P (sN h fs)) := de_callB hP hq hc hg hm hv ha hn hdb he hpl
theorem xT {T : String} {h : List D → Res D} {P : RP} (hP : P.Early g) (hq : QuietL h) (hc : CallR X (.type T) (rDL g P h)) (hv : bootBuiltins x = some (.type T)) (hn : x ≠ "__name__") (hdb : (x == ("__debug__" : Str)) = false) (hg : Gl X x) (hm : X.mg x = none) (ha : PA X (e :: es) (tAB g W fs))
    (he : starEach (e :: es) X.env = (false, eval e X.env) :: starEach es X.env) (hpl : (backTo pos (starEach es X.env)).any (·.1) = false) : PE X (.Call (.Name x p) (e :: es) [] pos) (tP g W P (sN h fs)) := de_callTy hP hq hc hg hm hv ha hn hdb he hpl
section
variable (C : Ct X g W m) (ha : PA X (e :: es) (tAB g W fs)) (he : starEach (e :: es) X.env = (false, eval e X.env) :: starEach es X.env) (hpl : (backTo pos (starEach es X.env)).any (·.1) = false)
include C ha he hpl
theorem xLen (hg : Gl X "len") (hm : X.mg "len" = none) : PE X (.Call (.Name "len" p) (e :: es) [] pos) (tV g W (sN lenD fs)) := xB (PV.early g) lenD_q (call_lenD C.K) PyProof.Rows.Boot.«len» (by decide) rfl hg hm ha he hpl
theorem xAbs (hg : Gl X "abs") (hm : X.mg "abs" = none) : PE X (.Call (.Name "abs" p) (e :: es) [] pos) (tV g W (sN absD fs)) := xB (PV.early g) absD_q call_absD PyProof.Rows.Boot.«abs» (by decide) rfl hg hm ha he hpl
theorem xSum (hg : Gl X "sum") (hm : X.mg "sum" = none) : PE X (.Call (.Name "sum" p) (e :: es) [] pos) (tV g W (sN sumD fs)) := xB (PV.early g) sumD_q (call_sumD C.K C.calm) PyProof.Rows.Boot.«sum» (by decide) rfl hg hm ha he hpl
theorem xAny (hg : Gl X "any") (hm : X.mg "any" = none) : PE X (.Call (.Name "any" p) (e :: es) [] pos) (tV g W (sN anyD fs)) := xB (PV.early g) anyD_q (call_anyD C.calm) PyProof.Rows.Boot.«any» (by decide) rfl hg hm ha he hpl
theorem xAll (hg : Gl X "all") (hm : X.mg "all" = none) : PE X (.Call (.Name "all" p) (e :: es) [] pos) (tV g W (sN allD fs)) := xB (PV.early g) allD_q (call_allD C.calm) PyProof.Rows.Boot.«all» (by decide) rfl hg hm ha he hpl
theorem xMin (hg : Gl X "min") (hm : X.mg "min" = none) : PE X (.Call (.Name "min" p) (e :: es) [] pos) (tV g W (sN min2D fs)) := xB (PV.early g) min2D_q (call_min2D C.calm) PyProof.Rows.Boot.«min» (by decide) rfl hg hm ha he hpl
theorem xMax (hg : Gl X "max") (hm : X.mg "max" = none) : PE X (.Call (.Name "max" p) (e :: es) [] pos) (tV g W (sN max2D fs)) := xB (PV.early g) max2D_q (call_max2D C.calm) PyProof.Rows.Boot.«max» (by decide) rfl hg hm ha he hpl
theorem xSrt (hg : Gl X "sorted") (hm : X.mg "sorted" = none) : PE X (.Call (.Name "sorted" p) (e :: es) [] pos) (tF g W (sN sortedD fs)) := xB (PF.early g) sortedD_q (call_sortedDD C.K C.u) PyProof.Rows.Boot.«sorted» (by decide) rfl hg hm ha he hpl
theorem xTup (hg : Gl X "tuple") (hm : X.mg "tuple" = none) : PE X (.Call (.Name "tuple" p) (e :: es) [] pos) (tV g W (sN tupleD fs)) := xT (PV.early g) tupleD_q (call_tupleD C.K) PyProof.Rows.Boot.«tuple» (by decide) rfl hg hm ha he hpl
theorem xLst (hg : Gl X "list") (hm : X.mg "list" = none) : PE X (.Call (.Name "list" p) (e :: es) [] pos) (tF g W (sN listD fs)) := xT (PF.early g) listD_q (call_listDD C.K) PyProof.Rows.Boot.«list» (by decide) rfl hg hm ha he hpl
theorem xInt (hg : Gl X "int") (hm : X.mg "int" = none) : PE X (.Call (.Name "int" p) (e :: es) [] pos) (tV g W (sN intD fs)) := xT (PV.early g) intD_q call_intD PyProof.Rows.Boot.«int» (by decide) rfl hg hm ha he hpl
theorem xGcd (hg : Gl X "gcd") (hm : X.mg "gcd" = some (.builtin "math.gcd")) : PE X (.Call (.Name "gcd" p) (e :: es) [] pos) (tV g W (sN gcdD fs)) := de_callBf (PV.early g) gcdD_q call_gcdD hg hm ha rfl he hpl
theorem xLcm (hg : Gl X "lcm") (hm : X.mg "lcm" = some (.builtin "math.lcm")) : PE X (.Call (.Name "lcm" p) (e :: es) [] pos) (tV g W (sN lcmD fs)) := de_callBf (PV.early g) lcmD_q call_lcmD hg hm ha rfl he hpl
end
theorem xLRg {p2 : Pos} (C : Ct X g W m) (hl : Gl X "list") (ml : X.mg "list" = none) (hr : Gl X "range") (mr : X.mg "range" = none) (ha : PE X a (tB g W fa)) (n1 : starEach [a] X.env = (false, eval a X.env) :: starEach [] X.env)
    (n2 : starEach [.Call (.Name "range" p2) [a] [] pos] X.env = (false, eval (.Call (.Name "range" p2) [a] [] pos) X.env) :: starEach [] X.env) {pos2 : Pos} :
    PE X (.Call (.Name "list" p) [.Call (.Name "range" p2) [a] [] pos] [] pos2) (tF g W (lRg (r1 fa))) := de_listRg C.calm hl ml (dr_1 hr mr ha n1) n2
theorem cTy {T : String} (hg : Gl X x) (hm : X.mg x = none) (hv : bootBuiltins x = some (.type T)) (hn : x ≠ "__name__") (hdb : (x == ("__debug__" : Str)) = false) : PE X (.Name x pos) (tC (.ty T)) := pe_bltn hg hm hv rfl hn hdb
theorem xIsi {T : String} (C : Ct X g W m) (hg : Gl X "isinstance") (hm : X.mg "isinstance" = none) (ha : PE X a (tB g W fa)) (hc : PE X b (tC (.ty T))) (hs : starEach [a, b] X.env = [(false, eval a X.env), (false, eval b X.env)]) (hs2 : starEach [b] X.env = [(false, eval b X.env)]) :
    PE X (.Call (.Name "isinstance" p) [a, b] [] pos) (tV g W (sIs [T] fa)) := de_isi hg hm ha hc C.K hs hs2
theorem xIsiT {cs : List String} {k : Nat} {p3 : Pos} (C : Ct X g W m) (hz : cs.length ≤ 100) (hg : Gl X "isinstance") (hm : X.mg "isinstance" = none) (ha : PE X a (tB g W fa)) (hc : PA X es (fun _ H Q => Q (cs.map V.ty) H))
    (hs : starEach [a, .Tuple es k p3] X.env = [(false, eval a X.env), (false, eval (.Tuple es k p3) X.env)]) (hs2 : starEach [.Tuple es k p3] X.env = [(false, eval (.Tuple es k p3) X.env)]) :
    PE X (.Call (.Name "isinstance" p) [a, .Tuple es k p3] [] pos) (tV g W (sIs cs fa)) := de_isiT hz hg hm ha hc C.K hs hs2
/-- a call of a def -/
theorem xD {k : Nat} {ps : List Str} {h : List D → Res D} (C : Ct X g W m) (d : DefOk X.prog X.w X.K X.mg X.base g k x ps h) (hk : k ≤ m) (hg : Gl X x) (ha : PA X (e :: es) (tAV g W fs)) (hdb : (x == ("__debug__" : Str)) = false)
    (he : starEach (e :: es) X.env = (false, eval e X.env) :: starEach es X.env) (hpl : (backTo pos (starEach es X.env)).any (·.1) = false) : PE X (.Call (.Name x p) (e :: es) [] pos) (tV g W (sN h fs)) := by
  obtain ⟨fd, F, B⟩ := d.ok
  exact de_call F (C.room.mono hk) hg d.gl d.kp B C.tk ha hdb he hpl
/-- what is walked -/
theorem wSeq {tg : Expr} (C : Ct X g W m) (h : PE X a (tB g W fa)) : PI X tg a (tI g W (iSeq fa)) := di_seq C.K h
theorem wSeqF {tg : Expr} (C : Ct X g W m) (h : PE X a (tV g W fa)) : PI X tg a (tIF g W (iSeq fa)) := di_seqF C.K h
/-- a list that is frozen, by one that is made on the same line -/
theorem frz_reads {f : Env → Res D} (σ : StH) (H : Hp) (Q : VK) (w : tV g W f σ H Q) : tF g W f σ H Q := by
  obtain ⟨F, ρ, r, q⟩ := w
  refine ⟨F, ρ, r, out_imp q (fun d _ k v F' H' x hp => ?_) fun _ _ _ z => z⟩
  obtain ⟨l, xs, ds, rfl, rfl, h1, h2, h3, h4⟩ := hp
  exact k _ _ _ (x.freeze nt_lst h1 h2 h3) (.lst upd_same (h4.mono (.put h3)))
section
variable {i : Nat} {y : Str} {py spos : Pos} {elt tg iter : Expr} {ifs : List Expr} {scope : Scope} {own : List (Str × Nat)} {fi : Env → Res (List D)} {T : Tg} {F0 H0 : Hp}
theorem ds_setLc (hc : X.calm = true) (hN : X.N.Nodup) (hy : X.N[i]? = some y) (hyl : X.env.scope.names.lookup y = some .local) (hsw : swapsWith (.ListComp elt [⟨tg, iter, ifs, 0⟩] scope pos) (some (.Name y py)) spos.line X.env = pure true)
    (hi : PI X tg iter (tI g W fi)) (ok : BlkOk X.N X.env.scope scope own) (hT : ∀ j ∈ tgS T, j ∈ own.map (·.2))
    (hg : ∀ (s : Shared) (H : Hp) (C : Addr) (cl : List (Str × Addr)) (fp : List Addr), PG (X.blk s H scope (compEnvC scope cl C X.env) fp) tg (tG g T))
    (ht : ∀ (s : Shared) (H : Hp) (C : Addr) (cl : List (Str × Addr)) (fp : List Addr), PTs (X.blk s H scope (compEnvC scope cl C X.env) fp) ifs (tT g W0 t1))
    (he : ∀ (s : Shared) (H : Hp) (C : Addr) (cl : List (Str × Addr)) (fp : List Addr), PE (X.blk s H scope (compEnvC scope cl C X.env) fp) elt (tV g W0 fe)) (hs : ∀ x, foldedSetIterable iter X.env x = pure x) :
    PS X (.Assign [.Name y py] (.ListComp elt [⟨tg, iter, ifs, 0⟩] scope pos) spos) (tS g W F0 H0 (sSet i (lcD fi (own.map (·.2)) T t1 fe))) :=
  (ps_setLc hc hN hy hyl hsw hi ok hg ht he hs).imp fun E σ H w => lc_reads hT _ _ _ (frz_reads _ _ _ (asgV w))
end
theorem lT_nil : PTs X [] (tT g W tYs) := dts_nil
theorem lT_one (h : PT X a (tT g W t1)) : PTs X [a] (tT g W t1) := pts_one h
end
section
variable {P : Program} {w : World} {K : PySem.W.Frag} {mg : Str → Option Value} {base : Heap} {g : G} {x : Str} {fd : FuncData} {N ps : List Str} {k : Nat} {f : Env → SO}
/-- a def by its body, its code object known -/
theorem dfn_okC {qual : Str} {params : Arguments} {body : List Stmt} {scope : Scope} (T : FunD K x qual params body scope [] [] (He.ga K x) fd) (S : FnScope N ps scope)
    (hb : ∀ (cdv : Value) (A : Around) (outer : List PySem.Env) (s : Shared) (H F : Hp) (E : XK), cdv = .ref (He.cT K (x, none)).1 → Room k (A.deeper (PyProof.Rows.envOfC qual scope s.heap.objs.size (He.ga K x) cdv)) →
      PSs (cxOf (L2.CX P w) P w K mg base N qual scope (He.ga K x) cdv A outer s H E) body (tS g (fun cls dd _ H' => E cls dd H') F H f)) :
    FnOk P w K mg base (L2.CX P w) (k + 1) (He.ga K x) fd ps (spD g (fnD ps.length N.length f)) := by
  obtain ⟨oc, od, dV, kV, doc, pm, an, cdv, ct, osl, rfl, lk, hcd, _, _⟩ := T.ex
  have ec : cdv = .ref (He.cT K (x, none)).1 := by
    obtain ⟨c, rfl⟩ := He.codeIn_ref hcd
    have z := He.codeOf_eq (K := K) (p := (x, none)) lk rfl
    show Value.ref c = Value.ref (He.codeOf K (x, none))
    rw [z]
  refine fn_of lk hcd S spD_len fun A outer s H vs Q E room sp => ?_
  have hn := spD_len vs H Q E sp
  obtain ⟨F, ds, sb, nt, tb, t, q⟩ := sp
  refine ⟨_, hb cdv A outer s H F E ec room, F, startE N.length ds, start_rel sb nt tb t, ?_⟩
  unfold fnD at q
  rw [if_pos (by rw [← t.length]; exact hn)] at q
  cases eo : f (startE N.length ds) with
  | nx ρ' => rw [eo] at q; exact fun σ' F' H' s' r' => q .non F' H' r'.x .non
  | rt d => rw [eo] at q; exact q
  | xc c d ρ' => rw [eo] at q; exact fun cls dd σ' F' H' s' r' z => q cls dd F' H' r'.x z
  | bk ρ' => rw [eo] at q; exact q.elim
  | ct ρ' => rw [eo] at q; exact q.elim
  | bad => rw [eo] at q; exact q.elim
theorem fnOk_bad {fa : Addr} : FnOk P w K mg base (L2.CX P w) k fa fd ps (spD g fun _ => .bad) :=
  ⟨fun vs H Q E ⟨F, ds, _, _, _, _, q⟩ => q.elim, fun A outer s H args us vs Q E _ _ _ _ ⟨F, ds, _, _, _, _, q⟩ => q.elim⟩
end
/-- the law is called -/
theorem law_start {g : G} {h : List D → Res D} {H : Hp} {a : Addr} {ns : List Int} (hT : ∀ p ∈ g.T, LamX.TabS H p.1 p.2) (hS : SqL g.K H a (ns.map V.int)) (m : h [.scr ns] = .ok (.bl true)) : spD g h [.ref a] H (fun v _ => v = .bl true) fun _ _ _ => False := by
  classical
  let F : Hp := fun b => if Fre H b then none else H b
  have on : ∀ {b : Addr} {o : HO}, H b = some o → Nt o → F b = some o := fun {b o} e n => by
    show (if Fre H b then none else H b) = some o
    rw [if_neg fun z => z o n e, e]
  have back : ∀ {b : Addr} {o : HO}, F b = some o → H b = some o ∧ Nt o := fun {b o} e => by
    have e : (if Fre H b then none else H b) = some o := e
    by_cases z : Fre H b
    · rw [if_pos z] at e; cases e
    · rw [if_neg z] at e
      refine ⟨e, fun ps y => z fun o' n e' => ?_⟩
      rw [e] at e'; cases e'
      exact n ps y
  refine ⟨F, [.scr ns], fun b o e => (back e).1, fun b ps e => (back e).2 ps rfl, hT, .cons (.scr ?_) .nil, ?_⟩
  · rcases hS with (h1 | ⟨o, h1⟩) | h1
    · exact .inl (.inl (on h1 nt_lst))
    · exact .inl (.inr ⟨o, on h1 fun ps z => by cases z⟩)
    · exact .inr h1
  · rw [m]
    intro v F' H' x r
    cases r
    rfl
end PL
/-! PLn: x in y, more operators over plain data. -/
namespace PL
open PySem PySem.Spec L2
section
variable {X : Cx} {g : G}
/-! ### in -/
def memB : D → D → Option Bool
  | x, .lst l => (match shp x, shp (.lst l) with
    | some p, some (.list ds) => some (ds.any fun z => PyData.eqv z p)
    | _, _ => none)
  | x, .tup l => (match shp x, shp (.tup l) with
    | some p, some (.tuple ds) => some (ds.any fun z => PyData.eqv z p)
    | _, _ => none)
  | .str a, .str z => (match a.cps.toList with
    | [c] => some (decide (c ∈ z.cps.toList))
    | _ => none)
  | _, _ => none
def memD (neg : Bool) (a b : D) : Res D := match memB a b with
  | some k => .ok (.bl (if neg = true then !k else k))
  | none => .bad
theorem memD_q (neg : Bool) : Quiet (memD neg) := fun x y c d e => by
  unfold memD at e
  split at e <;> cases e
theorem memD_b (neg : Bool) : Bools (memD neg) := fun x y d e => by
  unfold memD at e
  split at e
  · cases e; exact ⟨_, rfl⟩
  · cases e
theorem op_memDD (neg : Bool) (hg : X.K = g.K) (hu : X.A.units + 65 < cLine) : OpR X (compareOp (if neg = true then .NotIn else .In)) (rD2 g (PV g) (memD neg)) := by
  intro pins s σ H x y v u Q I rx ry h
  obtain ⟨F, dx, dy, d, fh, px, py', e, q⟩ := h
  unfold memD at e
  split at e
  · rename_i k ek
    cases e
    unfold memB at ek
    have fin : ∀ k, Q (.bl k) H → EP X pins σ Q (.bool k) s := fun k q => ⟨.bl k, H, I, rfl, q⟩
    split at ek
    · split at ek
      · rename_i l _ _ p ds e1 e2
        cases ek
        obtain ⟨a1, a2⟩ := shp_some e1
        obtain ⟨b1, b2⟩ := shp_some e2
        obtain ⟨as, r1⟩ := Dp.reads I p x v (by rw [hg]; exact px.dp fh a1) rx
        obtain ⟨bs, r2⟩ := Dp.reads I (.list ds) y u (by rw [hg]; exact py'.dp fh b1) ry
        cases neg
        · exact SeqAt.in_list_reads r2 r1 (SeqAt.canLay_of_shaped b2) (SeqAt.canLay_of_shaped a2) (PyProof.Rows.room_in_shaped a2 hu) (fin _ (here fh q (.bl _)))
        · exact SeqAt.notIn_list_reads r2 r1 (SeqAt.canLay_of_shaped b2) (SeqAt.canLay_of_shaped a2) (PyProof.Rows.room_in_shaped a2 hu) (fin _ (here fh q (.bl _)))
      · cases ek
    · split at ek
      · rename_i l _ _ p ds e1 e2
        cases ek
        obtain ⟨a1, a2⟩ := shp_some e1
        obtain ⟨b1, b2⟩ := shp_some e2
        obtain ⟨as, r1⟩ := Dp.reads I p x v (by rw [hg]; exact px.dp fh a1) rx
        obtain ⟨bs, r2⟩ := Dp.reads I (.tuple ds) y u (by rw [hg]; exact py'.dp fh b1) ry
        cases neg
        · exact SeqAt.in_tuple_reads r2 r1 (SeqAt.canLay_of_shaped b2) (SeqAt.canLay_of_shaped a2) (PyProof.Rows.room_in_shaped a2 hu) (fin _ (here fh q (.bl _)))
        · exact SeqAt.notIn_tuple_reads r2 r1 (SeqAt.canLay_of_shaped b2) (SeqAt.canLay_of_shaped a2) (PyProof.Rows.room_in_shaped a2 hu) (fin _ (here fh q (.bl _)))
      · cases ek
    · split at ek
      · rename_i a z _ c ec
        cases ek; cases px; cases py'
        have ea : a = ⟨#[c]⟩ := by
          obtain ⟨⟨al⟩⟩ := a
          have : al = [c] := ec
          rw [this]
        subst ea
        cases neg
        · exact op_in_sign pins s σ H _ _ v u Q I rx ry ⟨c, z, rfl, rfl, here fh q (.bl _)⟩
        · exact op_notIn_sign pins s σ H _ _ v u Q I rx ry ⟨c, z, rfl, rfl, here fh q (.bl _)⟩
      · cases ek
    · cases ek
  · cases e
end
end PL
/-! PLo: zip of two sequences of any kind, at the library's level. -/
namespace PL
open PySem PySem.Spec L2
/-- an iterator at i over what stands at l: St k: it stands ahead of item k -/
structure Dr (prog : Program) (w : World) (i l : Addr) (xs : Array Value) (St : Nat → Heap → Prop) : Prop where
  keep : ∀ {k : Nat} {h h' : Heap}, St k h → (∀ o, h.get? i = some o → h'.get? i = some o) → (∀ o, h.get? l = some o → h'.get? l = some o) → St k h'
  item : ∀ {A : Around} {E : Value → Shared → Prop} {s : Shared} {k : Nat} {x : Value} {Q : Value → Shared → Prop}, St k s.heap → xs[k]? = some x → i ≠ l →
    (∀ h', St (k + 1) h' → Heap.SameBut i s.heap h' → Q x { s with heap := h' }) → wpAny (model prog w) A (Builtin.SmallTypes.nextOf (.ref i)) Q E s
  stop : ∀ {A : Around} {E : Value → Shared → Prop} {s : Shared} {k : Nat} {Q : Value → Shared → Prop}, A.handled = none → St k s.heap → xs[k]? = none →
    (∀ h' e, Heap.ExtBut i s.heap h' → (∃ o, h'.get? e = some o ∧ o.cls = .type "StopIteration") → E (.ref e) { s with heap := h' }) → wpAny (model prog w) A (Builtin.SmallTypes.nextOf (.ref i)) Q E s
theorem dr_list (prog : Program) (w : World) (i l : Addr) (xs : Array Value) : Dr prog w i l xs fun k h => h.IsListIter i l k ∧ h.IsList l xs where
  keep := fun ⟨⟨o, a, b⟩, ⟨o2, a2, b2⟩⟩ k1 k2 => ⟨⟨o, k1 _ a, b⟩, ⟨o2, k2 _ a2, b2⟩⟩
  item := fun ⟨a, b⟩ hx ne q => wpAny_nextOf_list_item a b hx fun h' a' sb => q h' ⟨a', b.extBut sb.extBut ne.symm⟩ sb
  stop := fun hh ⟨a, b⟩ hx q => wpAny_nextOf_list_end hh a b hx q
theorem dr_tup (prog : Program) (w : World) (i l : Addr) (xs : Array Value) : Dr prog w i l xs fun k h => h.IsTupleIter i l k ∧ h.IsTuple l xs where
  keep := fun ⟨⟨o, a, b⟩, ⟨o2, a2, b2⟩⟩ k1 k2 => ⟨⟨o, k1 _ a, b⟩, ⟨o2, k2 _ a2, b2⟩⟩
  item := fun ⟨a, b⟩ hx ne q => RZ.nextOf_tuple_item a b hx fun h' a' sb => q h' ⟨a', b.extBut sb.extBut ne.symm⟩ sb
  stop := fun hh ⟨a, b⟩ hx q => RZ.nextOf_tuple_end hh a b hx q
section
variable {prog : Program} {w : World} {A : Around} {E : Value → Shared → Prop} {s : Shared} {z TI TO i j l m : Addr} {xs ys : Array Value} {S T : Nat → Heap → Prop}
theorem Dr.on (d : Dr prog w i l xs S) {c : Addr} {k : Nat} {h h' : Heap} (x : S k h) (sb : Heap.ExtBut c h h') (ci : i ≠ c) (cl : l ≠ c) : S k h' := d.keep x (fun _ e => sb _ _ ci e) fun _ e => sb _ _ cl e
theorem zipD_item {k n : Nat} {x y a b : Value} {Q : Value → Shared → Prop} (p : ZipApart z TI TO i j l m) (d1 : Dr prog w i l xs S) (d2 : Dr prog w j m ys T)
    (iz : IsZip s.heap z TI TO .none) (iti : IsPair s.heap TI (.ref i) (.ref j)) (ito : IsPair s.heap TO a b) (s1 : S k s.heap) (t1 : T n s.heap) (hx : xs[k]? = some x) (hy : ys[n]? = some y) (li : i ≠ l) (mj : j ≠ m)
    (go : ∀ h', IsZip h' z TI TO (rawInt s.heap.objs.size) → IsPair h' TO x y → S (k + 1) h' → T (n + 1) h' → IsPair h' s.heap.objs.size x y → h'.objs.size = s.heap.objs.size + 1 →
      (∀ c o, c ≠ z → c ≠ TO → c ≠ i → c ≠ j → s.heap.get? c = some o → h'.get? c = some o) → Q (.ref s.heap.objs.size) { s with heap := h' }) :
    wpAny (model prog w) A (Builtin.«zip.__next__» ⟨[.ref z], []⟩) (fun fin s' => ∃ v, fin = .done (.ret v) ∧ Q v s') E s := by
  show wpAny _ _ (field (.ref z) 2 >>= _) _ _ _
  apply wpAny_bind; apply wpAny_field iz rfl (x := .bool false) rfl
  show wpAny _ _ (field (.ref z) 3 >>= _) _ _ _
  apply wpAny_bind; apply wpAny_field iz rfl (x := .ref TI) rfl
  apply wpAny_bind; apply wpAny_seqItems iti rfl
  show wpAny _ _ (Builtin.SmallTypes.ownedTupleIsFree (.ref z) >>= _) _ _ _
  apply wpAny_bind
  unfold Builtin.SmallTypes.ownedTupleIsFree
  apply wpAny_bind; apply wpAny_field iz rfl (x := .none) rfl; apply wpAny_pure
  simp only [if_true]
  apply wpAny_bind; apply wpAny_rule
  apply wpAny_bind; apply wpAny_field iz rfl (x := .ref TO) rfl
  refine wpAny_bind (wpAny_setField_rec iz (by simp) fun g1 iz1 b1 => ?_)
  replace iz1 : IsZip g1 z TI TO .ellipsis := iz1
  apply wpAny_bind
  simp only [List.zipIdx_cons, List.zipIdx_nil, List.forIn_cons, List.forIn_nil]
  apply wpAny_bind; apply wpAny_bind; apply wpAny_onRaise
  show wpAny _ _ (Builtin.SmallTypes.nextOf (.ref i) >>= _) _ _ _
  refine wpAny_bind (d1.item (d1.on s1 b1.extBut p.i1z p.l1z) hx li fun g2 s2 b2 => wpAny_pure ?_)
  have to2 : IsPair g2 TO a b := b2.extBut _ _ p.TOi1 (b1.extBut _ _ p.TOz ito)
  apply wpAny_bind; apply wpAny_seqItems to2 rfl
  refine wpAny_bind (wpAny_updateSeq_pair to2 fun g3 to3 b3 => ?_)
  replace to3 : IsPair g3 TO x b := to3
  apply wpAny_bind; apply wpAny_letGo; apply wpAny_pure
  apply wpAny_bind; apply wpAny_bind; apply wpAny_onRaise
  show wpAny _ _ (Builtin.SmallTypes.nextOf (.ref j) >>= _) _ _ _
  have t3 : T n g3 := d2.on (d2.on (d2.on t1 b1.extBut p.i2z p.l2z) b2.extBut p.i12.symm p.l2i1) b3.extBut p.TOi2.symm p.l2TO
  refine wpAny_bind (d2.item t3 hy mj fun g4 t4 b4 => wpAny_pure ?_)
  have to4 : IsPair g4 TO x b := b4.extBut _ _ p.TOi2 to3
  apply wpAny_bind; apply wpAny_seqItems to4 rfl
  refine wpAny_bind (wpAny_updateSeq_pair to4 fun g5 to5 b5 => ?_)
  replace to5 : IsPair g5 TO x y := to5
  apply wpAny_bind; apply wpAny_letGo; apply wpAny_pure; apply wpAny_pure
  apply wpAny_bind; apply wpAny_seqItems to5 rfl
  refine wpAny_bind (wpAny_newTuple ?_)
  have sz : g5.objs.size = s.heap.objs.size := by rw [b5.1, b4.1, b3.1, b2.1, b1.1]
  have iz5 : IsZip g5 z TI TO .ellipsis := b5.extBut _ _ p.TOz.symm (b4.extBut _ _ p.i2z.symm (b3.extBut _ _ p.TOz.symm (b2.extBut _ _ p.i1z.symm iz1)))
  have up5 : ∀ c o, c ≠ z → c ≠ TO → c ≠ i → c ≠ j → s.heap.get? c = some o → g5.get? c = some o := fun c o q1 q2 q3 q4 e =>
    b5.extBut _ _ q2 (b4.extBut _ _ q4 (b3.extBut _ _ q2 (b2.extBut _ _ q3 (b1.extBut _ _ q1 e))))
  have s5 : S (k + 1) g5 := d1.on (d1.on (d1.on s2 b3.extBut p.TOi1.symm p.l1TO) b4.extBut p.i12 p.l1i2) b5.extBut p.TOi1.symm p.l1TO
  have t5 : T (n + 1) g5 := d2.on t4 b5.extBut p.TOi2.symm p.l2TO
  have zl : z < g5.objs.size := Heap.lt_size iz5
  show wpAny _ _ (Builtin.SmallTypes.ownedTupleHandOut (.ref z) (.ref g5.objs.size) >>= _) _ _ _
  apply wpAny_bind
  unfold Builtin.SmallTypes.ownedTupleHandOut
  have iz6 : IsZip (g5.push { cls := .type "tuple", data := .seq #[x, y] }) z TI TO .ellipsis := Heap.get?_push_of_some _ iz5
  refine wpAny_bind (wpAny_setField_rec iz6 (by simp) fun g7 iz7 b7 => ?_)
  replace iz7 : IsZip g7 z TI TO (rawInt g5.objs.size) := iz7
  refine wpAny_setField_rec iz7 (by simp) fun g8 iz8 b8 => ?_
  replace iz8 : IsZip g8 z TI TO (rawInt g5.objs.size) := iz8
  have up : ∀ c o, c ≠ z → g5.get? c = some o → g8.get? c = some o := fun c o q e => b8.extBut _ _ q (b7.extBut _ _ q (Heap.get?_push_of_some _ e))
  have new : IsPair g8 g5.objs.size x y := b8.extBut _ _ (Nat.ne_of_gt zl) (b7.extBut _ _ (Nat.ne_of_gt zl) (Heap.get?_push_size _ rfl))
  have sz8 : g8.objs.size = g5.objs.size + 1 := by rw [b8.1, b7.1, Heap.size_push]
  rw [sz] at iz8 new sz8
  refine wpAny_pure ⟨_, rfl, ?_⟩
  show Q (.ref g5.objs.size) _
  rw [sz]
  exact go g8 iz8 (up _ _ p.TOz to5) (d1.keep s5 (fun o => up _ o p.i1z) fun o => up _ o p.l1z) (d2.keep t5 (fun o => up _ o p.i2z) fun o => up _ o p.l2z) new sz8 fun c o q1 q2 q3 q4 e => up c o q1 (up5 c o q1 q2 q3 q4 e)
theorem zipD_stop {k n : Nat} {a b : Value} {Q : Fin → Shared → Prop} (hh : A.handled = none) (p : ZipApart z TI TO i j l m) (d1 : Dr prog w i l xs S) (d2 : Dr prog w j m ys T)
    (iz : IsZip s.heap z TI TO .none) (iti : IsPair s.heap TI (.ref i) (.ref j)) (ito : IsPair s.heap TO a b) (s1 : S k s.heap) (t1 : T n s.heap) (hend : xs[k]? = none ∨ ys[n]? = none) (li : i ≠ l)
    (go : ∀ h' e, (∀ c o, c ≠ z → c ≠ TO → c ≠ i → c ≠ j → s.heap.get? c = some o → h'.get? c = some o) → (∃ o, h'.get? e = some o ∧ o.cls = .type "StopIteration") → E (.ref e) { s with heap := h' }) :
    wpAny (model prog w) A (Builtin.«zip.__next__» ⟨[.ref z], []⟩) Q E s := by
  show wpAny _ _ (field (.ref z) 2 >>= _) _ _ _
  apply wpAny_bind; apply wpAny_field iz rfl (x := .bool false) rfl
  show wpAny _ _ (field (.ref z) 3 >>= _) _ _ _
  apply wpAny_bind; apply wpAny_field iz rfl (x := .ref TI) rfl
  apply wpAny_bind; apply wpAny_seqItems iti rfl
  show wpAny _ _ (Builtin.SmallTypes.ownedTupleIsFree (.ref z) >>= _) _ _ _
  apply wpAny_bind
  unfold Builtin.SmallTypes.ownedTupleIsFree
  apply wpAny_bind; apply wpAny_field iz rfl (x := .none) rfl; apply wpAny_pure
  simp only [if_true]
  apply wpAny_bind; apply wpAny_rule
  apply wpAny_bind; apply wpAny_field iz rfl (x := .ref TO) rfl
  refine wpAny_bind (wpAny_setField_rec iz (by simp) fun g1 iz1 b1 => ?_)
  replace iz1 : IsZip g1 z TI TO .ellipsis := iz1
  apply wpAny_bind
  simp only [List.zipIdx_cons, List.zipIdx_nil, List.forIn_cons, List.forIn_nil]
  apply wpAny_bind; apply wpAny_bind; apply wpAny_onRaise
  show wpAny _ _ (Builtin.SmallTypes.nextOf (.ref i) >>= _) _ _ _
  have s1' : S k g1 := d1.on s1 b1.extBut p.i1z p.l1z
  cases hx : xs[k]? with
  | none =>
    refine wpAny_bind (d1.stop hh s1' hx fun g2 e b2 he => ?_)
    obtain ⟨oe, e1, e2⟩ := he
    have iz2 : IsZip g2 z TI TO .ellipsis := b2 _ _ p.i1z.symm iz1
    have ez : e ≠ z := fun q => by rw [q, iz2] at e1; cases e1; simp at e2
    exact wpAny_setField_rec iz2 (by simp) fun g3 _ b3 => go g3 e (fun c o q1 _ q3 _ q => b3.extBut _ _ q1 (b2 _ _ q3 (b1.extBut _ _ q1 q))) ⟨oe, b3.extBut _ _ ez e1, e2⟩
  | some x =>
    have hy : ys[n]? = none := hend.resolve_left (by rw [hx]; exact Option.some_ne_none x)
    refine wpAny_bind (d1.item s1' hx li fun g2 s2 b2 => wpAny_pure ?_)
    have to2 : IsPair g2 TO a b := b2.extBut _ _ p.TOi1 (b1.extBut _ _ p.TOz ito)
    apply wpAny_bind; apply wpAny_seqItems to2 rfl
    refine wpAny_bind (wpAny_updateSeq_pair to2 fun g3 to3 b3 => ?_)
    apply wpAny_bind; apply wpAny_letGo; apply wpAny_pure
    apply wpAny_bind; apply wpAny_bind; apply wpAny_onRaise
    show wpAny _ _ (Builtin.SmallTypes.nextOf (.ref j) >>= _) _ _ _
    have t3 : T n g3 := d2.on (d2.on (d2.on t1 b1.extBut p.i2z p.l2z) b2.extBut p.i12.symm p.l2i1) b3.extBut p.TOi2.symm p.l2TO
    refine wpAny_bind (d2.stop hh t3 hy fun g4 e b4 he => ?_)
    obtain ⟨oe, e1, e2⟩ := he
    have iz4 : IsZip g4 z TI TO .ellipsis := b4 _ _ p.i2z.symm (b3.extBut _ _ p.TOz.symm (b2.extBut _ _ p.i1z.symm iz1))
    have ez : e ≠ z := fun q => by rw [q, iz4] at e1; cases e1; simp at e2
    exact wpAny_setField_rec iz4 (by simp) fun g5 _ b5 => go g5 e (fun c o q1 q2 q3 q4 q => b5.extBut _ _ q1 (b4 _ _ q4 (b3.extBut _ _ q2 (b2.extBut _ _ q3 (b1.extBut _ _ q1 q))))) ⟨oe, b5.extBut _ _ ez e1, e2⟩
theorem next_zipD_item {k n : Nat} {x y a b : Value} {Q : Option Value → Shared → Prop} (p : ZipApart z TI TO i j l m) (d1 : Dr prog w i l xs S) (d2 : Dr prog w j m ys T)
    (iz : IsZip s.heap z TI TO .none) (iti : IsPair s.heap TI (.ref i) (.ref j)) (ito : IsPair s.heap TO a b) (s1 : S k s.heap) (t1 : T n s.heap) (hx : xs[k]? = some x) (hy : ys[n]? = some y) (li : i ≠ l) (mj : j ≠ m)
    (go : ∀ h', IsZip h' z TI TO (rawInt s.heap.objs.size) → IsPair h' TO x y → S (k + 1) h' → T (n + 1) h' → IsPair h' s.heap.objs.size x y → h'.objs.size = s.heap.objs.size + 1 →
      (∀ c o, c ≠ z → c ≠ TO → c ≠ i → c ≠ j → s.heap.get? c = some o → h'.get? c = some o) → Q (some (.ref s.heap.objs.size)) { s with heap := h' }) :
    wpAny (model prog w) A (pyNext (.ref z)) Q E s := by
  have ty : s.TypeIs (.ref z) "zip" := ⟨_, iz, rfl⟩
  unfold pyNext
  apply wpAny_bind; apply wpAny_attempt
  refine wpAny_callSpecial?_slot (name := Str.ofString "__next__") ty F.slot_zip_next (wpAny_call_entry F.slot_zip_next ty F.entry_zip_next ?_ (F.args_zip_next_1 _))
  exact zipD_item p d1 d2 iz iti ito s1 t1 hx hy li mj fun h' c1 c2 c3 c4 c5 c6 c7 => wpAny_pure (go h' c1 c2 c3 c4 c5 c6 c7)
theorem next_zipD_stop {k n : Nat} {a b : Value} {Q : Option Value → Shared → Prop} (hh : A.handled = none) (p : ZipApart z TI TO i j l m) (d1 : Dr prog w i l xs S) (d2 : Dr prog w j m ys T)
    (iz : IsZip s.heap z TI TO .none) (iti : IsPair s.heap TI (.ref i) (.ref j)) (ito : IsPair s.heap TO a b) (s1 : S k s.heap) (t1 : T n s.heap) (hend : xs[k]? = none ∨ ys[n]? = none) (li : i ≠ l)
    (go : ∀ h', (∀ c o, c ≠ z → c ≠ TO → c ≠ i → c ≠ j → s.heap.get? c = some o → h'.get? c = some o) → Q none { s with heap := h' }) : wpAny (model prog w) A (pyNext (.ref z)) Q E s := by
  have ty : s.TypeIs (.ref z) "zip" := ⟨_, iz, rfl⟩
  unfold pyNext
  apply wpAny_bind; apply wpAny_attempt
  refine wpAny_callSpecial?_slot (name := Str.ofString "__next__") ty F.slot_zip_next (wpAny_call_entry F.slot_zip_next ty F.entry_zip_next ?_ (F.args_zip_next_1 _))
  refine zipD_stop hh p d1 d2 iz iti ito s1 t1 hend li fun h' e up ⟨o, e1, e2⟩ => ?_
  exact wpAny_bind (wpAny_isInstance (T := "StopIteration") (b := true) ⟨o, e1, e2⟩ isSubtype_stop (wpAny_pure (go _ up)))
end
end PL
/-! PLp: zip of two sequences of any kind, over the tracked heap and over plain data. -/
namespace PL
open PySem PySem.Spec L2
/-- b: a tuple, else a list -/
def SqB (K : PySem.W.Frag) (b : Bool) (H : Hp) (a : Addr) (xs : List V) : Prop := match b with
  | true => SqT K H a xs
  | false => SqL K H a xs
def ItB (b : Bool) (h : Heap) (i l : Addr) (k : Nat) : Prop := match b with
  | true => h.IsTupleIter i l k
  | false => h.IsListIter i l k
def StB (b : Bool) (i l : Addr) (vs : Array Value) (k : Nat) (h : Heap) : Prop := match b with
  | true => h.IsTupleIter i l k ∧ h.IsTuple l vs
  | false => h.IsListIter i l k ∧ h.IsList l vs
theorem drB (prog : Program) (w : World) (b : Bool) (i l : Addr) (vs : Array Value) : Dr prog w i l vs (StB b i l vs) := by
  cases b
  · exact dr_list prog w i l vs
  · exact dr_tup prog w i l vs
theorem ItB.obj {b : Bool} {h : Heap} {i l : Addr} {k : Nat} (x : ItB b h i l k) : ∃ o, h.get? i = some o ∧ ∀ v, o.data ≠ .cell v := by
  cases b <;> (obtain ⟨o, e, _, d⟩ := x; exact ⟨o, e, fun v q => by rw [d] at q; cases q⟩)
theorem ItB.to {b : Bool} {h h' : Heap} {i l : Addr} {k : Nat} (x : ItB b h i l k) (g : ∀ o, h.get? i = some o → h'.get? i = some o) : ItB b h' i l k := by
  cases b <;> (obtain ⟨o, e, d⟩ := x; exact ⟨o, g o e, d⟩)
theorem StB.it {b : Bool} {h : Heap} {i l : Addr} {vs : Array Value} {k : Nat} (x : StB b i l vs k h) : ItB b h i l k := by
  cases b <;> exact x.1
section
variable {X : Cx} {pins : List (Addr × Obj)} {σ : StH} {H : Hp} {s : Shared} {a : Addr} {xs : List V}
theorem sq_reads {b : Bool} (I : Inv X pins σ H s) (h : SqB X.K b H a xs) : ∃ its : List Value, Vals xs its ∧ a < s.heap.objs.size ∧ ∀ i k, ItB b s.heap i a k → StB b i a its.toArray k s.heap := by
  cases b
  · obtain ⟨its, rv, p, _⟩ := I.list h
    exact ⟨its, rv, p.lt, fun i k e => ⟨e, p.isList⟩⟩
  · obtain ⟨its, rv, p, _⟩ := I.tuple h
    obtain ⟨o, e, _⟩ := id p
    exact ⟨its, rv, Heap.lt_size e, fun i k e => ⟨e, p⟩⟩
end
/-- zip of what stands at a and at b, as they stand at each turn -/
def Jz (K : PySem.W.Frag) (p q : Bool) (a b : Addr) (xs ys : List V) : It :=
  ⟨fun i H => SqB K p H a xs ∧ SqB K q H b ys ∧ i < xs.length ∧ i < ys.length,
    fun i H v H' => ∃ T x y, v = .ref T ∧ H T = none ∧ H' = upd H T (.tup [x, y]) ∧ xs[i]? = some x ∧ ys[i]? = some y,
    fun i H => SqB K p H a xs ∧ SqB K q H b ys ∧ (xs.length ≤ i ∨ ys.length ≤ i)⟩
theorem five {c z TI TO i j : Addr} (h : c ∈ [z, TI, TO, i, j]) : c = z ∨ c = TI ∨ c = TO ∨ c = i ∨ c = j := by simpa using h
theorem turn_z {P : Program} {w : World} {K : PySem.W.Frag} {elts : List Expr} {kk : Nat} {tpos : Pos} {p q : Bool} {a b z TI TO i j : Addr} {xs ys : List V} (A : ZipApart z TI TO i j a b) (ia : i ≠ a) (jb : j ≠ b) :
    Turn P w K (.Tuple elts kk tpos) (Jz K p q a b xs ys) [z, TI, TO, i, j] z (fun n h => IsZip h z TI TO .none ∧ IsPair h TI (.ref i) (.ref j) ∧ (∃ x y, IsPair h TO x y) ∧ ItB p h i a n ∧ ItB q h j b n) where
  mem := by simp
  obj := fun n h ⟨e1, e2, ⟨x, y, e3⟩, e4, e5⟩ c hc => by
    rcases five hc with rfl | rfl | rfl | rfl | rfl
    · exact ⟨_, e1, fun v r => nomatch r⟩
    · exact ⟨_, e2, fun v r => nomatch r⟩
    · exact ⟨_, e3, fun v r => nomatch r⟩
    · exact e4.obj
    · exact e5.obj
  keep := fun n h h' ⟨e1, e2, ⟨x, y, e3⟩, e4, e5⟩ k =>
    ⟨k z (by simp) _ e1, k TI (by simp) _ e2, ⟨x, y, k TO (by simp) _ e3⟩, e4.to fun o r => k i (by simp) o r, e5.to fun o r => k j (by simp) o r⟩
  item := by
    intro X hP hw hK hc n pins s σ H E I hf ⟨e1, e2, ⟨x0, y0, e3⟩, e4, e5⟩ ⟨sa, sb, la, lb⟩
    subst hP hw hK
    obtain ⟨va, ra, _, ga⟩ := sq_reads I sa
    obtain ⟨vb, rb, _, gb⟩ := sq_reads I sb
    obtain ⟨u, hu, ru⟩ := ra.get (List.getElem?_eq_getElem la)
    obtain ⟨u', hu', ru'⟩ := rb.get (List.getElem?_eq_getElem lb)
    have zl : z < s.heap.objs.size := Heap.lt_size e1
    refine next_zipD_item A (drB X.prog X.w p i a va.toArray) (drB X.prog X.w q j b vb.toArray) e1 e2 e3 (ga i n e4) (gb j n e5) (x := u) (y := u') (by simpa using hu) (by simpa using hu') ia jb fun g1 c1 c2 c3 c4 c5 c6 c7 => ?_
    refine ⟨_, rfl, wpAny_letOwnedTupleGo_zip (s := { s with heap := g1 }) c1 fun g2 c8 m => ?_⟩
    have c9 : g2.get? s.heap.objs.size = some { cls := .type "tuple", data := .seq #[u, u'] } := (m.2 _ (Nat.ne_of_gt zl)).trans c5
    have new : ObjOk X.prog X.w (upd H s.heap.objs.size (.tup [xs[n], ys[n]])) g2 s.heap.objs.size (.tup [xs[n], ys[n]]) :=
      ⟨by show 2 ≤ sizeLine; decide, [u, u'], .cons ru (.cons ru' .nil), ⟨_, c9, rfl, _, rfl⟩⟩
    have up : ∀ c o, c ≠ z → c ≠ TO → c ≠ i → c ≠ j → s.heap.get? c = some o → g2.get? c = some o := fun c o r1 r2 r3 r4 e => (m.2 c r1).trans (c7 c o r1 r2 r3 r4 e)
    have I1 : Inv X pins σ (upd H s.heap.objs.size (.tup [xs[n], ys[n]])) { s with heap := g2 } :=
      I.turnedNew (t' := s.toks) (ch := [z, TI, TO, i, j]) (fun c o hb r => up c o (fun r' => hb (by simp [r'])) (fun r' => hb (by simp [r'])) (fun r' => hb (by simp [r'])) (fun r' => hb (by simp [r'])) r) hf (Nat.le_refl _) new
    refine ⟨.ref s.heap.objs.size, _, I1, rfl, ⟨_, _, _, rfl, I.hok.fresh (Nat.le_refl _), rfl, List.getElem?_eq_getElem la, List.getElem?_eq_getElem lb⟩, ⟨c8, up _ _ A.TIz A.TITO A.TIi1 A.TIi2 e2, ⟨u, u', (m.2 _ A.TOz).trans c2⟩, c3.it.to fun o r => (m.2 _ A.i1z).trans r, c4.it.to fun o r => (m.2 _ A.i2z).trans r⟩, fun c hcm => ?_⟩
    have lt : c < s.heap.objs.size := by
      rcases five hcm with rfl | rfl | rfl | rfl | rfl
      · exact zl
      · exact Heap.lt_size e2
      · exact Heap.lt_size e3
      · obtain ⟨_, e, _⟩ := e4.obj; exact Heap.lt_size e
      · obtain ⟨_, e, _⟩ := e5.obj; exact Heap.lt_size e
    rw [upd_ne (Nat.ne_of_lt lt)]
    exact (hf c hcm).1
  done := by
    intro X hP hw hK hc n pins s σ H E I hf ⟨e1, e2, ⟨x0, y0, e3⟩, e4, e5⟩ ⟨sa, sb, hend⟩
    subst hP hw hK
    obtain ⟨va, ra, _, ga⟩ := sq_reads I sa
    obtain ⟨vb, rb, _, gb⟩ := sq_reads I sb
    have l1 := ra.length
    have l2 := rb.length
    have he : va.toArray[n]? = none ∨ vb.toArray[n]? = none := hend.imp (fun r => by simp; omega) fun r => by simp; omega
    exact next_zipD_stop (I.ok.hd hc) A (drB X.prog X.w p i a va.toArray) (drB X.prog X.w q j b vb.toArray) e1 e2 e3 (ga i n e4) (gb j n e5) he ia fun h' up => ⟨rfl, I.turnedL (t' := s.toks) (ch := [z, TI, TO, i, j]) (fun c o hb r =>
      up c o (fun r' => hb (by simp [r'])) (fun r' => hb (by simp [r'])) (fun r' => hb (by simp [r'])) (fun r' => hb (by simp [r'])) r) hf⟩
  self := fun A n s Q E st h => wpAny_pyIter_zip st.1 h
end PL
/-! PLq: the call zip(a, b). -/
namespace PL
open PySem PySem.Spec L2
def itO (b : Bool) (l : Addr) : Obj := { cls := .type (if b = true then "tuple_iterator" else "list_iterator"), data := .fields #[.ref l, .int 0 0] }
def SeqB (b : Bool) (h : Heap) (l : Addr) (vs : Array Value) : Prop := match b with
  | true => h.IsTuple l vs
  | false => h.IsList l vs
def hz1 (p : Bool) (h : Heap) (l : Addr) : Heap := h.push (itO p l)
def hz2 (p q : Bool) (h : Heap) (l m : Addr) : Heap := (hz1 p h l).push (itO q m)
def hz3 (p q : Bool) (h : Heap) (l m : Addr) : Heap := (hz2 p q h l m).push { cls := .type "tuple", data := .seq #[.ref h.objs.size, .ref (hz1 p h l).objs.size] }
def hz4 (p q : Bool) (h : Heap) (l m : Addr) : Heap := (hz3 p q h l m).push { cls := .type "tuple", data := .seq #[.none, .none] }
def hz5 (p q : Bool) (h : Heap) (l m : Addr) : Heap :=
  (hz4 p q h l m).push { cls := .type "zip", data := .fields #[.none, .bool false, .bool false, .ref (hz2 p q h l m).objs.size, .ref (hz3 p q h l m).objs.size] }
theorem meets_zB (p q : Bool) (l m : Addr) (vs us : Array Value) :
    Meets (Builtin.«zip.__new__» ⟨[.type "zip", .ref l, .ref m], []⟩) (fun _ R s => SeqB p s.heap l vs ∧ SeqB q s.heap m us ∧ R (.ok (.ret (.ref (hz4 p q s.heap l m).objs.size))) { s with heap := hz5 p q s.heap l m }) :=
  .of_wp fun prog w A R s h => by
    obtain ⟨hp, gs, d, tk, os⟩ := s; obtain ⟨e1, e2, h⟩ := h
    have sub := sub_zip
    cases p <;> cases q
    · have f1 : Heap.IsList (Shared.heap ⟨hp, gs, d, tk, os⟩) l vs := e1
      have f2 : Heap.IsList (Shared.heap ⟨hp.push { cls := .type "list_iterator", data := .fields #[.ref l, .int 0 0] }, gs, d, tk, os⟩) m us := Heap.IsList.push e2 _
      wp_walk using wpAny_pyIter_list f1, wpAny_pyIter_list f2
      exact ⟨_, rfl, h⟩
    · have f1 : Heap.IsList (Shared.heap ⟨hp, gs, d, tk, os⟩) l vs := e1
      have f2 : Heap.IsTuple (Shared.heap ⟨hp.push { cls := .type "list_iterator", data := .fields #[.ref l, .int 0 0] }, gs, d, tk, os⟩) m us := Heap.IsTuple.push e2 _
      wp_walk using wpAny_pyIter_list f1, wpAny_pyIter_tuple f2
      exact ⟨_, rfl, h⟩
    · have f1 : Heap.IsTuple (Shared.heap ⟨hp, gs, d, tk, os⟩) l vs := e1
      have f2 : Heap.IsList (Shared.heap ⟨hp.push { cls := .type "tuple_iterator", data := .fields #[.ref l, .int 0 0] }, gs, d, tk, os⟩) m us := Heap.IsList.push e2 _
      wp_walk using wpAny_pyIter_tuple f1, wpAny_pyIter_list f2
      exact ⟨_, rfl, h⟩
    · have f1 : Heap.IsTuple (Shared.heap ⟨hp, gs, d, tk, os⟩) l vs := e1
      have f2 : Heap.IsTuple (Shared.heap ⟨hp.push { cls := .type "tuple_iterator", data := .fields #[.ref l, .int 0 0] }, gs, d, tk, os⟩) m us := Heap.IsTuple.push e2 _
      wp_walk using wpAny_pyIter_tuple f1, wpAny_pyIter_tuple f2
      exact ⟨_, rfl, h⟩
section
variable {prog : Program} {w : World} {A : Around} {E : Value → Shared → Prop} {s : Shared}
theorem itO_it {b : Bool} {h : Heap} {i l : Addr} (e : h.get? i = some (itO b l)) : ItB b h i l 0 := by
  cases b <;> exact ⟨_, e, rfl, rfl⟩
theorem call_zB {p q : Bool} {l m : Addr} {vs us : Array Value} {Q : Value → Shared → Prop} (e1 : SeqB p s.heap l vs) (e2 : SeqB q s.heap m us)
    (go : ∀ h', IsZip h' (s.heap.objs.size + 4) (s.heap.objs.size + 2) (s.heap.objs.size + 3) .none → IsPair h' (s.heap.objs.size + 2) (.ref s.heap.objs.size) (.ref (s.heap.objs.size + 1)) →
      IsPair h' (s.heap.objs.size + 3) .none .none → ItB p h' s.heap.objs.size l 0 → ItB q h' (s.heap.objs.size + 1) m 0 → (∀ c o, s.heap.get? c = some o → h'.get? c = some o) → Q (.ref (s.heap.objs.size + 4)) { s with heap := h' }) :
    wpAny (model prog w) A (call (.type "zip") [.ref l, .ref m]) Q E s := by
  refine callType_new F.called_zip (by decide) (F.typeCall_zip_2 _ _) (F.newCall_zip_2 _ _) (fun obj => F.args_object_init_3 obj _ _) F.entry_zip_new (meets_zB p q l m vs us) ⟨e1, e2, ?_⟩
  have n1 : (hz1 p s.heap l).objs.size = s.heap.objs.size + 1 := Heap.size_push ..
  have n2 : (hz2 p q s.heap l m).objs.size = s.heap.objs.size + 2 := (Heap.size_push ..).trans (by rw [n1])
  have n3 : (hz3 p q s.heap l m).objs.size = s.heap.objs.size + 3 := (Heap.size_push ..).trans (by rw [n2])
  have n4 : (hz4 p q s.heap l m).objs.size = s.heap.objs.size + 4 := (Heap.size_push ..).trans (by rw [n3])
  have k5 : ∀ c o, (hz4 p q s.heap l m).get? c = some o → (hz5 p q s.heap l m).get? c = some o := fun c o e => Heap.get?_push_of_some _ e
  have k4 : ∀ c o, (hz3 p q s.heap l m).get? c = some o → (hz5 p q s.heap l m).get? c = some o := fun c o e => k5 c o (Heap.get?_push_of_some _ e)
  have k3 : ∀ c o, (hz2 p q s.heap l m).get? c = some o → (hz5 p q s.heap l m).get? c = some o := fun c o e => k4 c o (Heap.get?_push_of_some _ e)
  have k2 : ∀ c o, (hz1 p s.heap l).get? c = some o → (hz5 p q s.heap l m).get? c = some o := fun c o e => k3 c o (Heap.get?_push_of_some _ e)
  have k1 : ∀ c o, s.heap.get? c = some o → (hz5 p q s.heap l m).get? c = some o := fun c o e => k2 c o (Heap.get?_push_of_some _ e)
  have o5 : (hz5 p q s.heap l m).get? (hz4 p q s.heap l m).objs.size = some { cls := .type "zip", data := .fields #[.none, .bool false, .bool false, .ref (hz2 p q s.heap l m).objs.size, .ref (hz3 p q s.heap l m).objs.size] } := Heap.get?_push_size _ rfl
  have o4 : (hz5 p q s.heap l m).get? (hz3 p q s.heap l m).objs.size = some { cls := .type "tuple", data := .seq #[.none, .none] } := k5 _ _ (Heap.get?_push_size _ rfl)
  have o3 : (hz5 p q s.heap l m).get? (hz2 p q s.heap l m).objs.size = some { cls := .type "tuple", data := .seq #[.ref s.heap.objs.size, .ref (hz1 p s.heap l).objs.size] } := k4 _ _ (Heap.get?_push_size _ rfl)
  have o2 : (hz5 p q s.heap l m).get? (hz1 p s.heap l).objs.size = some (itO q m) := k3 _ _ (Heap.get?_push_size _ rfl)
  have o1 : (hz5 p q s.heap l m).get? s.heap.objs.size = some (itO p l) := k2 _ _ (Heap.get?_push_size _ rfl)
  show _ ∧ _
  rw [n2, n3, n4] at o5
  rw [n3] at o4
  rw [n1, n2] at o3
  rw [n1] at o2
  rw [n4]
  exact ⟨⟨_, o5, rfl⟩, go _ o5 o3 o4 (itO_it o1) (itO_it o2) k1⟩
end
end PL
/-! PLr: walks over zip of plain data. -/
namespace PL
open PySem PySem.Spec L2
section
variable {X : Cx} {g : G} {W : WX}
def pairDs (ds es : List D) : List D := List.zipWith (fun x y => D.tup [x, y]) ds es
theorem walk_z {K : PySem.W.Frag} {p q : Bool} {F H : Hp} {a b : Addr} {xs ys : List V} {ds es : List D} (sa : ∀ F' H', Sub F F' → Hx g H H' → Sub F' H' → SqB K p H' a xs) (sb : ∀ F' H', Sub F F' → Hx g H H' → Sub F' H' → SqB K q H' b ys)
    (ta : RepL g F xs ds) (tb : RepL g F ys es) : Walk g (Jz K p q a b xs ys) F H (pairDs ds es) where
  go := fun i F' H' sf sh fh hi => by
    have l1 := ta.length
    have l2 := tb.length
    unfold pairDs at hi
    rw [List.length_zipWith] at hi
    exact ⟨sa F' H' sf sh fh, sb F' H' sf sh fh, by omega, by omega⟩
  yld := fun i F' H' x H'' sf sh fh hi y => by
    obtain ⟨T, x1, y1, rfl, hT, rfl, e1, e2⟩ := y
    obtain ⟨d1, g1, r1⟩ := ta.getV i e1
    obtain ⟨d2, g2, r2⟩ := tb.getV i e2
    refine ⟨_, .tup [d1, d2], .alloc fh nt_tup hT, ?_, .tup (.of upd_same) (.cons (r1.mono (sf.trans (.put (fh.out hT)))) (.cons (r2.mono (sf.trans (.put (fh.out hT)))) .nil))⟩
    unfold pairDs
    rw [List.getElem?_zipWith, g1, g2]
  stop := fun i F' H' sf sh fh hi => by
    have l1 := ta.length
    have l2 := tb.length
    unfold pairDs at hi
    rw [List.length_zipWith] at hi
    exact ⟨sa F' H' sf sh fh, sb F' H' sf sh fh, by omega⟩
def iZ (K : PySem.W.Frag) (ta : TA) : TI := fun σ H R => ta σ H fun vs H1 => ∃ (p q : Bool) (a b : Addr) (xs ys : List V), vs = [.ref a, .ref b] ∧ SqB K p H1 a xs ∧ SqB K q H1 b ys ∧ R (Jz K p q a b xs ys) H1
theorem SqB.seq {pins : List (Addr × Obj)} {σ : StH} {H : Hp} {s : Shared} {a : Addr} {xs : List V} {b : Bool} (I : Inv X pins σ H s) (h : SqB X.K b H a xs) : a < s.heap.objs.size ∧ ∃ vs, SeqB b s.heap a vs := by
  cases b
  · obtain ⟨its, _, p, _⟩ := I.list h
    exact ⟨p.lt, its.toArray, p.isList⟩
  · obtain ⟨its, _, p, _⟩ := I.tuple h
    obtain ⟨o, e, _⟩ := id p
    exact ⟨Heap.lt_size e, its.toArray, p⟩
theorem pi_z {e e2 : Expr} {ta : TA} {p pos tpos : Pos} {elts : List Expr} {kk : Nat} (hg : Gl X "zip") (hm : X.mg "zip" = none) (ha : PA X [e, e2] ta)
    (hs : starEach [e, e2] X.env = (false, eval e X.env) :: starEach [e2] X.env) (hpl : (backTo pos (starEach [e2] X.env)).any (·.1) = false) :
    PI X (.Tuple elts kk tpos) (.Call (.Name "zip" p) [e, e2] [] pos) (iZ X.K ta) := by
  refine ⟨fun pins s σ H R I h => PyProof.Rows.Call_ (ld_blt I hg hm PyProof.Rows.boot_zip (PyProof.Rows.callWith_type1 (thn (ha.run pos pins s σ H _ I h) fun us s1 ⟨vs, H1, I1, r1, p1, q1, a, b, xs, ys, ex, sa, sb, q⟩ => ?_) hs hpl))⟩
  subst ex
  cases r1 with
  | cons ra rr =>
    cases rr with
    | cons rb rr =>
      cases rr; cases ra; cases rb
      obtain ⟨la, va, ea⟩ := sa.seq I1
      obtain ⟨lb, vb, eb⟩ := sb.seq I1
      refine call_zB ea eb fun h' c1 c2 c3 c4 c5 up => wpAny_pyIter_zip c1 ?_
      have n : ∀ c ∈ [s1.heap.objs.size + 4, s1.heap.objs.size + 2, s1.heap.objs.size + 3, s1.heap.objs.size, s1.heap.objs.size + 1], FpOk X pins H1 c := fun c hc => by
        have le : s1.heap.objs.size ≤ c := by
          rcases five hc with rfl | rfl | rfl | rfl | rfl <;> first | exact Nat.le_add_right _ _ | exact Nat.le_refl _
        exact I1.fpOk le (I1.hok.fresh le)
      exact ⟨s1.heap.objs.size + 4, _, _, _, H1, rfl, I1.kept (t' := s1.toks) up, turn_z (PySem.W.ktu_apart s1.heap.objs.size a b la lb) (Nat.ne_of_gt la) (Nat.ne_of_gt (Nat.lt_succ_of_lt lb)), ⟨c1, c2, ⟨_, _, c3⟩, c4, c5⟩, n, q⟩
def zipI (d e : D) : Res (List D) := do let x ← itemsD d; let y ← itemsD e; .ok (pairDs x y)
theorem sq_of {F H : Hp} {v : V} {d : D} {ds : List D} (r : RepB g F H v d) (fh : Sub F H) (hi : itemsD d = .ok ds) : ∃ (p : Bool) (a : Addr) (xs : List V), v = .ref a ∧ RepL g F xs ds ∧ ∀ F' H', Sub F F' → Hx g H H' → Sub F' H' → SqB g.K p H' a xs := by
  cases d with
  | lst l =>
    cases hi
    obtain ⟨a, xs, rfl, h1, t1⟩ := r
    exact ⟨false, a, xs, rfl, t1, fun F' H' _ sh _ => .of (sh.lst h1)⟩
  | tup l =>
    cases hi
    cases r with
    | tup h1 t1 => exact ⟨true, _, _, rfl, t1, fun F' H' sf _ fh' => fh'.sqT (sf.sqT h1)⟩
  | scr l =>
    cases hi
    cases r with
    | scr h1 => exact ⟨false, _, _, rfl, RepL.ints l, fun F' H' sf _ fh' => fh'.sqL (sf.sqL h1)⟩
  | _ => cases hi
theorem di_zip {a b : Expr} {fs : Env → Res (List D)} {p pos tpos : Pos} {elts : List Expr} {kk : Nat} (hK : X.K = g.K) (hg : Gl X "zip") (hm : X.mg "zip" = none) (ha : PA X [a, b] (tAB g W fs))
    (hs : starEach [a, b] X.env = (false, eval a X.env) :: starEach [b] X.env) (hpl : (backTo pos (starEach [b] X.env)).any (·.1) = false) :
    PI X (.Tuple elts kk tpos) (.Call (.Name "zip" p) [a, b] [] pos) (tI g W fun ρ => do let l ← fs ρ; match l with | [d, e] => zipI d e | _ => .bad) :=
  (pi_z hg hm ha hs hpl).imp fun σ H R ⟨F, ρ, r, q⟩ => by
    refine ⟨F, ρ, r, out_imp (out_bind q) (fun ds _ q1 vs F1 H1 x1 ps => ?_) fun _ _ _ z => z⟩
    match ds, ps, q1 with
    | [d, e], ps, q1 =>
      obtain ⟨v, w, rfl, pv, pw⟩ := two_of ps
      have q1 : out (zipI d e) _ _ := q1
      unfold zipI at q1
      cases e1 : itemsD d with
      | ok x =>
        rw [e1] at q1
        cases e2 : itemsD e with
        | ok y =>
          rw [e2] at q1
          obtain ⟨p1, a1, xs, rfl, ta, sa⟩ := sq_of pv x1.fh e1
          obtain ⟨p2, a2, ys, rfl, tb, sb⟩ := sq_of pw x1.fh e2
          rw [hK]
          exact ⟨p1, p2, a1, a2, xs, ys, rfl, sa F1 H1 (.refl _) (.refl _) x1.fh, sb F1 H1 (.refl _) (.refl _) x1.fh, q1 _ F1 H1 x1 (walk_z sa sb ta tb)⟩
        | exc c d => rw [e2] at q1; cases e <;> cases e2
        | bad => rw [e2] at q1; exact q1.elim
      | exc c d' => rw [e1] at q1; cases d <;> cases e1
      | bad => rw [e1] at q1; exact q1.elim
    | [], _, q1 => exact q1.elim
    | [_], _, q1 => exact q1.elim
    | _ :: _ :: _ :: _, _, q1 => exact q1.elim
end
end PL
/-! PLs: x.append(y.pop(i)). -/
namespace PL
open PySem PySem.Spec L2
section
variable {X : Cx} {g : G} {W : WX} {F0 H0 : Hp} {pos : Pos} {ix : Expr} {fi : Env → Res D}
theorem _root_.PL.RepL.erase {F : Hp} : ∀ {vs : List V} {ds : List D} (i : Nat), RepL g F vs ds → RepL g F (vs.eraseIdx i) (ds.eraseIdx i)
  | _, _, _, .nil => .nil
  | _, _, 0, .cons a t => t
  | _, _, i + 1, .cons a t => .cons a (RepL.erase i t)
def sAppPop (i j : Nat) (fi : Env → Res D) : Env → SO := sOwnAt i fun l => sOwnAt j fun m => sE fi fun k ρ => match k with
  | .int k => (match seqIndex? k m.length with
    | some n => (match m[n]? with
      | some d => if i ≠ j ∧ -(2 ^ 63) ≤ k ∧ k < 2 ^ 63 ∧ lenOk (l.length + 1) = true then .nx ((ρ.set j (.own (m.eraseIdx n))).set i (.own (l ++ [d]))) else .bad
      | none => .bad)
    | none => .bad)
  | _ => .bad
theorem ds_appPop {i j : Nat} {x y : Str} {p1 p2 apos cpos apos2 cpos2 : Pos} (hi : X.N[i]? = some x) (hv : Vis X.env.scope x) (hd : (x == ("__debug__" : Str)) = false) (hcd : (x == ("__classdict__" : Str)) = false)
    (hj : X.N[j]? = some y) (hv2 : Vis X.env.scope y) (hd2 : (y == ("__debug__" : Str)) = false) (hcd2 : (y == ("__classdict__" : Str)) = false) (he : PE X ix (tV g W fi))
    (hbase2 : attributeBase (.Name y p2) "pop" X.env (eval (.Name y p2) X.env) = eval (.Name y p2) X.env) (hline2 : (apos2.endLine == cpos2.line) = true) (hse2 : starEach [ix] X.env = [(false, eval ix X.env)])
    (hbase : attributeBase (.Name x p1) "append" X.env (eval (.Name x p1) X.env) = eval (.Name x p1) X.env) (hline : (apos.endLine == cpos.line) = true)
    (hse : starEach [.Call (.Attribute (.Name y p2) "pop" apos2) [ix] [] cpos2] X.env = [(false, eval (.Call (.Attribute (.Name y p2) "pop" apos2) [ix] [] cpos2) X.env)])
    (hs : swapsWith (.Call (.Attribute (.Name x p1) "append" apos) [.Call (.Attribute (.Name y p2) "pop" apos2) [ix] [] cpos2] [] cpos) none pos.line X.env = pure false) :
    PS X (.Expr (.Call (.Attribute (.Name x p1) "append" apos) [.Call (.Attribute (.Name y p2) "pop" apos2) [ix] [] cpos2] [] cpos) pos) (tS g W F0 H0 (sAppPop i j fi)) :=
  (ps_expr (pe_bm PySem.F.plainAttrs_list PySem.F.slot_list_append PySem.F.type_list_append mt_append (pe_var hi hv hd hcd)
    (pa_cons (pe_bm PySem.F.plainAttrs_list PySem.F.slot_list_pop PySem.F.type_list_pop mt_popAt (pe_var hj hv2 hd2 hcd2) (pa_cons he pa_nil (by rw [hse2]; rfl)) hbase2 (by rw [hse2]; rfl) hline2 (by rw [hse2]; rfl) (by rfl)) pa_nil (by rw [hse]; rfl))
    hbase (by rw [hse]; rfl) hline (by rw [hse]; rfl) (by rfl)) hs).imp fun E σ H w => by
    obtain ⟨F, ρ, r, q⟩ := w
    obtain ⟨l, a, xs, e, s1, s2, s3, s4, q⟩ := of_own r q
    obtain ⟨m, b, ys, e', t1, t2, t3, t4, q⟩ := of_own r q
    refine ⟨.ref a, s1, .inl ⟨rfl, xs, .of s2⟩, ?_⟩
    refine ⟨.ref b, t1, .inl ⟨rfl, ys, .of t2⟩, ?_⟩
    refine of_sEx (P := PV g) r q fun k v F' H' _ x p q1 => ?_
    cases k with
    | int k =>
      cases p
      have q1 : soR g W F0 H0 E F' (match seqIndex? k m.length with
        | some n => (match m[n]? with
          | some d => if i ≠ j ∧ -(2 ^ 63) ≤ k ∧ k < 2 ^ 63 ∧ lenOk (l.length + 1) = true then SO.nx ((ρ.set j (.own (m.eraseIdx n))).set i (.own (l ++ [d]))) else .bad
          | none => .bad)
        | none => .bad) := q1
      cases hn : seqIndex? k m.length with
      | none => rw [hn] at q1; exact q1.elim
      | some n =>
        rw [hn] at q1
        cases hd' : m[n]? with
        | none => simp only [hd'] at q1; exact q1.elim
        | some d =>
          simp only [hd'] at q1
          split at q1
          · rename_i hz
            obtain ⟨ne, z1, z2, z3⟩ := hz
            have r1 := r.ext x
            obtain ⟨u2, u3, u4⟩ := own_later r x e s1 s2
            obtain ⟨w2, w3, w4⟩ := own_later r x e' t1 t2
            obtain ⟨y, ey, ry⟩ := w4.get n hd'
            have ab : a ≠ b := fun z => ne (r.e.dis i j l m a e e' s1 (z ▸ t1))
            refine ⟨b, ys, k, n, y, rfl, rfl, w2, z1, z2, by rw [w4.length]; exact hn, ey, ?_⟩
            have r2 := r1.write e' t1 w2 w3 (w4.erase n)
            have g2 : upd H' b (.lst (ys.eraseIdx n)) a = some (.lst xs) := by rw [upd_ne ab]; exact u2
            have e2 : (ρ.set j (.own (m.eraseIdx n)))[i]? = some (Slot.own l) := by rw [List.getElem?_set_ne (Ne.symm ne)]; exact e
            refine ⟨a, xs, y, rfl, rfl, g2, by rw [u4.length]; exact lenOk_lt z3, ?_⟩
            exact q1 σ F' _ (.refl F') (r2.write e2 s1 g2 u3 (u4.append (.cons ry .nil)))
          · exact q1.elim
    | _ => exact q1.elim
end
end PL
/-! PLt: walks over texts. -/
namespace PL
open PySem PySem.Spec L2
section
variable {X : Cx} {g : G} {W : WX}
def signsD (z : Str) : List D := z.cps.toList.map fun c => D.str ⟨#[c]⟩
theorem walk_str {F H : Hp} (z : Str) : Walk g (Its z) F H (signsD z) where
  go := fun i F' H' _ _ _ hi => by
    unfold signsD at hi
    rw [List.length_map, Array.length_toList] at hi
    exact hi
  yld := fun i F' H' x H'' sf sh fh hi y => by
    obtain ⟨rfl, c, e, rfl⟩ := y
    refine ⟨F', .str ⟨#[c]⟩, .refl fh, ?_, .str _⟩
    unfold signsD
    rw [List.getElem?_map, Array.getElem?_toList, e]
    rfl
  stop := fun i F' H' _ _ _ hi => by
    unfold signsD at hi
    rw [List.length_map, Array.length_toList] at hi
    exact hi
def itemsS : D → Res (List D)
  | .str z => .ok (signsD z)
  | d => itemsD d
theorem iter_str {pins : List (Addr × Obj)} {σ : StH} {H : Hp} {s : Shared} {tg : Expr} {R : It → Hp → Prop} {E : Value → Shared → Prop} {x : Str} {t : Tok} (I : Inv X pins σ H s) (q : R (Its x) H) : wpAny (model X.prog X.w) X.A (pyIter (.str x t)) (PIE X pins σ tg R) E s := by
  cases ha : x.cps.all (· < 128)
  · exact wpAny_pyIter_wide ha (pi_one (tk := s.toks) I _ (turn_str _ x t "str_iterator" (.inr rfl)) ⟨_, Heap.get?_push_size _ rfl, rfl, rfl⟩ q)
  · exact wpAny_pyIter_ascii ha (pi_one (tk := s.toks) I _ (turn_str _ x t "str_ascii_iterator" (.inl rfl)) ⟨_, Heap.get?_push_size _ rfl, rfl, rfl⟩ q)
theorem di_seqS {tg l : Expr} {f : Env → Res D} (hg : X.K = g.K) (hl : PE X l (tV g W f)) : PI X tg l (tIF g W fun ρ => do let x ← f ρ; itemsS x) := by
  refine ⟨fun pins s σ H R I ⟨F, ρ, r, q⟩ => ?_⟩
  refine thn (hl.run pins s σ H (fun x H1 => ∃ F1 dx, f ρ = .ok dx ∧ Ext g F H F1 H1 ∧ Rep g F1 x dx) I ⟨F, ρ, r, out_imp (out_bind q) (fun dx hd q1 x F1 H1 x1 px => ⟨F1, dx, hd, x1, px⟩) fun _ _ _ z => z⟩) fun v s1 ⟨x, H1, I1, r1, F1, dx, hd, x1, px⟩ => ?_
  have q := out_bind q
  rw [hd] at q
  have q : out (itemsS dx) (fun ds => ∀ J F' H', Ext g F H F' H' → Walk g J F' F' ds → R J H') (fun c d => ∀ cls dd F' H', Ext g F H F' H' → ExR g c d cls dd F' H' → W cls dd σ H') := q
  cases dx with
  | str z =>
    cases px
    obtain ⟨t, rfl⟩ := r1
    exact iter_str I1 (q _ F1 H1 x1 (walk_str z))
  | lst l =>
    cases px with
    | lst h1 t1 =>
      cases r1
      exact iter_list I1 (.of (x1.fh _ _ h1)) (q _ F1 H1 x1 (walk_list (fun H' ys h e => by
        rcases h with (h | ⟨o, h⟩) | ⟨o, its, n, hk, _⟩
        · rw [e] at h; cases h; rfl
        · rw [e] at h; cases h
        · exact absurd (I1.mod.kin _ o hk) (fun z => by have := (I1.bs _ o z).2; rw [x1.fh _ _ h1] at this; cases this)) h1 t1))
  | tup l =>
    cases px with
    | tup h1 t1 =>
      cases r1
      exact iter_tup I1 (by rw [hg]; exact x1.fh.sqT h1) (by rw [hg]; exact q _ F1 H1 x1 (walk_tup h1 t1))
  | scr l =>
    cases px with
    | scr h1 =>
      cases r1
      exact iter_list I1 (by rw [hg]; exact x1.fh.sqL h1) (by rw [hg]; exact q _ F1 H1 x1 (walk_scr h1))
  | _ => exact q.elim
end
end PL
/-! PLu: a text times a number. -/
namespace PL
open PySem PySem.Spec L2
section
variable {X : Cx} {g : G} {W : WX}
def repT (z : Str) (k : Int) : Str := if k < 1 then Str.empty else if (k == 1 || z.length == 0) = true then z else ⟨(List.replicate k.toNat z.cps).foldl (· ++ ·) #[]⟩
def repS : D → D → Res D
  | .str z, .int k => if decide (-1000 ≤ k ∧ k ≤ 1000 ∧ z.length ≤ 1000 ∧ (repT z k).length ≤ 16777216) = true then .ok (.str (repT z k)) else .bad
  | _, _ => .bad
theorem repS_q : Quiet repS := fun x y c d e => by
  unfold repS at e
  split at e <;> first | cases e | (split at e <;> cases e)
theorem op_repS : OpR X (binaryOp .Mult) (rD2 g (PV g) repS) := by
  intro pins s σ H x y v u Q I rx ry h
  obtain ⟨F, dx, dy, d, fh, px, py', e, q⟩ := h
  unfold repS at e
  split at e
  · rename_i z k
    split at e
    · rename_i hm
      obtain ⟨k0, k1, z1, z2⟩ := of_decide_eq_true hm
      cases e; cases px; cases py'
      obtain ⟨t, rfl⟩ := rx
      obtain ⟨t', rfl⟩ := ry
      refine P.mul_str ?_ ?_ ?_ ?_
      · rw [decide_eq_false (by omega), decide_eq_false (by omega)]; rfl
      · intro n1 _ h
        have h1 : (1 : Int) ≤ k := by omega
        have h2 : (z.length : Int) * k ≤ 1000 * 1000 := Int.mul_le_mul (by omega) k1 (by omega) (by decide)
        have h3 : (z.length : Int) ≤ (2 ^ 63 - 1) / k := Int.le_ediv_of_mul_le (by omega) (by omega)
        omega
      · intro n1 n2
        have h2 : z.length * k.toNat ≤ 1000 * 1000 := Nat.mul_le_mul z1 (by omega)
        have h3 := sizeLine_eq
        exact decide_eq_false (by omega)
      · have fin : ∀ (s' : Shared) (t : Tok), Inv X pins σ H s' → EP X pins σ Q (.str (repT z k) t) s' := fun s' t I' => ⟨.str (repT z k), H, I', ⟨_, rfl⟩, here fh q (.str _)⟩
        unfold repT at fin z2
        by_cases n1 : k < 1
        · rw [if_pos n1] at fin z2 ⊢
          exact ⟨lenOk_le (decide_eq_true z2), fin _ _ (I.tok _)⟩
        · rw [if_neg n1] at fin z2 ⊢
          by_cases n2 : (k == 1 || z.length == 0) = true
          · rw [if_pos n2] at fin z2 ⊢
            exact fin _ _ I
          · rw [if_neg n2] at fin z2 ⊢
            exact ⟨lenOk_le (decide_eq_true z2), fin _ _ (I.tok _)⟩
    · cases e
  · cases e
end
end PL
/-! PLv: z[::-1] of a text. -/
namespace PL
open PySem PySem.Spec L2
section
variable {X : Cx} {g : G} {W : WX}
def revT (z : Str) : Str := ⟨((Builtin.Str.strSliceIndices none none (-1) z.length).filterMap (z.cps[·]?)).toArray⟩
def tRevS (te : TE) : TE := fun σ H Q => te σ H fun x H1 => ∃ z : Str, x = .str z ∧ (revT z).length ≤ sizeLine ∧ Q (.str (revT z)) H1
theorem pe_revS {e : Expr} {te : TE} {k : Nat} {p1 p2 p3 pos : Pos} (he : PE X e te) : PE X (.Subscript e (.Slice none none (some (.UnaryOp .USub (.Constant (.int 1) k p1) p2)) p3) pos) (tRevS te) := by
  refine ⟨fun pins s σ H Q I h => PyProof.Rows.Subscript_ (thn (he.run pins s σ H _ I h) fun v s1 ⟨x, H1, I1, r1, z, ex, hz, q⟩ => ?_)⟩
  subst ex
  obtain ⟨t, rfl⟩ := r1
  have hst : PO X (some (.UnaryOp .USub (.Constant (.int 1) k p1) p2)) (tPart (tUn (rU fun i => .int (-i)) (tC (.int 1)))) := po_some (pe_un un_neg pe_int)
  refine wpAny_Slice (thn (po_none.run pins s1 σ H1 (fun o H2 => o = none ∧ H2 = H1) I1 ⟨rfl, rfl⟩) fun vl s2 ⟨l, H2, I2, pl, el, e2⟩ => thn (po_none.run pins s2 σ H2 (fun o H3 => o = none ∧ H3 = H2) I2 ⟨rfl, rfl⟩) fun vu s3 ⟨u, H3, I3, pu, eu, e3⟩ =>
    thn (hst.run pins s3 σ H3 (fun o H4 => o = some (-1) ∧ H4 = H3) I3 ⟨1, rfl, -1, rfl, rfl, rfl⟩) fun vs s4 ⟨o, H4, I4, ps, eo, e4⟩ => ?_)
  subst el e2 eu e3 eo e4
  have I5 : Inv X pins σ H4 { s4 with heap := s4.heap.push { cls := .type "slice", data := .fields #[vl, vu, vs] } } := I4.kept (t' := s4.toks) fun b ob r => Heap.get?_push_of_some _ r
  obtain ⟨os, hos, hcs, hds⟩ := Heap.IsSliceOf.new s4.heap vl vu vs
  obtain ⟨l, rfl, l0⟩ := IsPart.raw pl
  obtain ⟨u, rfl, u0⟩ := IsPart.raw pu
  obtain ⟨w, rfl, w0⟩ := IsPart.raw ps
  show wpAny (model X.prog X.w) X.A (PyProof.Rows.subscriptTail e (.Slice none none (some (.UnaryOp .USub (.Constant (.int 1) k p1) p2)) p3) (.str z t) (.ref s4.heap.objs.size)) (EP X pins σ Q) X.xe _
  refine PyProof.Rows.tail_any (ops := [.ref s4.heap.objs.size, .str z t]) (typeIs_str _ _ _) F.slot_str_getitem.lookup ?_ (by with_unfolding_all rfl)
  refine wpAny_getItem_str_slice (l := l) (u := u) (st := w) ⟨os, hos, hcs, hds⟩ (by rw [w0]; rfl) ?_
  have e : sliceMade z t l u w = Made.str (revT z) := by
    unfold sliceMade slicePicked
    rw [l0, u0, w0]
    rfl
  rw [e]
  exact ⟨hz, .str _, H4, I5.tok _, ⟨_, rfl⟩, q⟩
def revD : D → Res D
  | .str z => if lenOk (revT z).length = true then .ok (.str (revT z)) else .bad
  | _ => .bad
theorem de_revS {e : Expr} {f : Env → Res D} {k : Nat} {p1 p2 p3 pos : Pos} (he : PE X e (tV g W f)) : PE X (.Subscript e (.Slice none none (some (.UnaryOp .USub (.Constant (.int 1) k p1) p2)) p3) pos) (tV g W fun ρ => do let x ← f ρ; revD x) :=
  (pe_revS he).imp fun σ H Q ⟨F, ρ, r, q⟩ => by
    refine ⟨F, ρ, r, out_imp (out_bind q) (fun dx _ q1 x F1 H1 x1 px => ?_) fun _ _ _ z => z⟩
    cases dx with
    | str z =>
      cases px
      have q1 : out (if lenOk (revT z).length = true then Res.ok (D.str (revT z)) else .bad) _ _ := q1
      split at q1
      · rename_i hz
        exact ⟨z, rfl, lenOk_le hz, q1 _ F1 H1 x1 (.str _)⟩
      · exact q1.elim
    | _ => exact q1.elim
end
end PL
/-! PLw: the rules of PLn .. PLv as a printer uses them. -/
namespace PL
open PySem PySem.Spec L2
section
variable {X : Cx} {g : G} {W : WX} {m : Nat} {F0 H0 : Hp} {a b c l tg : Expr} {pos p : Pos} {x : Str} {fa fb : Env → Res D} {fs : Env → Res (List D)}
theorem mIn (C : Ct X g W m) (ha : PE X a (tB g W fa)) (hb : PE X b (tB g W fb)) (hm : behindInMarks .In b = false) : PE X (.Compare a [.In] [b] pos) (tV g W (s2 (memD false) fa fb)) :=
  de_cmp (memD_q false) (op_memDD false C.K (by have := C.u; omega)) ha hb hm
theorem mNi (C : Ct X g W m) (ha : PE X a (tB g W fa)) (hb : PE X b (tB g W fb)) (hm : behindInMarks .NotIn b = false) : PE X (.Compare a [.NotIn] [b] pos) (tV g W (s2 (memD true) fa fb)) :=
  de_cmp (memD_q true) (op_memDD true C.K (by have := C.u; omega)) ha hb hm
theorem tIn (C : Ct X g W m) (ha : PE X a (tB g W fa)) (hb : PE X b (tB g W fb)) (hm : behindInMarks .In b = false) : PT X (.Compare a [.In] [b] pos) (tT g W (tD (s2 (memD false) fa fb))) :=
  dt_cmp (memD_q false) (memD_b false) (op_memDD false C.K (by have := C.u; omega)) ha hb hm
theorem tNi (C : Ct X g W m) (ha : PE X a (tB g W fa)) (hb : PE X b (tB g W fb)) (hm : behindInMarks .NotIn b = false) : PT X (.Compare a [.NotIn] [b] pos) (tT g W (tD (s2 (memD true) fa fb))) :=
  dt_cmp (memD_q true) (memD_b true) (op_memDD true C.K (by have := C.u; omega)) ha hb hm
theorem bRpS (C : Ct X g W m) (ha : PE X a (tB g W fa)) (hb : PE X b (tB g W fb)) : PE X (.BinOp a .Mult b pos) (tV g W (s2 repS fa fb)) := de_bin (PV.early g) repS_q op_repS ha hb
theorem eRev {k : Nat} {p1 p2 p3 : Pos} (ha : PE X a (tV g W fa)) : PE X (.Subscript a (.Slice none none (some (.UnaryOp .USub (.Constant (.int 1) k p1) p2)) p3) pos) (tV g W (s1 revD fa)) := de_revS ha
theorem kGS {z : Str} (hg : Gl X x) (hm : ∃ t, X.mg x = some (.str z t)) (hdb : (x == ("__debug__" : Str)) = false) : PE X (.Name x pos) (tV g W (s0 (.str z))) := by
  obtain ⟨t, hm⟩ := hm
  exact de_c (v := .str z) (pe_glob hg hm ⟨t, rfl⟩ hdb) fun _ => .str z
def zipE (fs : Env → Res (List D)) : Env → Res (List D) := fun ρ => do let l ← fs ρ; match l with | [d, e] => zipI d e | _ => .bad
theorem wZip {elts : List Expr} {kk : Nat} {tpos : Pos} (C : Ct X g W m) (hg : Gl X "zip") (hm : X.mg "zip" = none) (ha : PA X [a, b] (tAB g W fs)) (hs : starEach [a, b] X.env = (false, eval a X.env) :: starEach [b] X.env)
    (hpl : (backTo pos (starEach [b] X.env)).any (·.1) = false) : PI X (.Tuple elts kk tpos) (.Call (.Name "zip" p) [a, b] [] pos) (tI g W (zipE fs)) := di_zip C.K hg hm ha hs hpl
def iSeqS (f : Env → Res D) : Env → Res (List D) := fun ρ => do let x ← f ρ; itemsS x
theorem wSeqSF (C : Ct X g W m) (hl : PE X l (tV g W fa)) : PI X tg l (tIF g W (iSeqS fa)) := di_seqS C.K hl
end
end PL
/-! PLx: sets. What a key of numbers, texts and tuples is asked for; a set of such tuples, by its table. -/
namespace PL
open PySem PySem.Spec L2 PyProof.Rows
abbrev NK := NestedKey
section
variable {P : Program} {w : World} {A : Around} {E : Value → Shared → Prop} {s : Shared}

/-! ### three questions -/
/-- it is no object of a class of the program -/
def Cal (P : Program) (w : World) (f : Nat) (z : Shared) (v : Value) : Prop := ∀ (B : Around) (Z : Value → Shared → Prop) (R : Bool → Shared → Prop), R false z → wpAny (model P w) B (ofAClassStatement f v) R Z z
theorem Cal.flat {f : Nat} {z : Shared} {v : Value} (c : carriedByValue v = true) : Cal P w f z v := fun B Z R r => by
  have q : ofAClassStatement f v = pure false := by cases v <;> first | (cases c; done) | (cases f <;> rfl)
  rw [q]; exact wpAny_pure r
theorem Cal.tup {f m : Nat} {z : Shared} {b : Addr} {ob : Obj} {vs : Array Value} (g1 : z.heap.get? b = some ob) (g2 : ob.cls = .type "tuple") (g3 : ob.data = .seq vs m) (each : ∀ y ∈ vs.toList, Cal P w f z y) : Cal P w (f + 1) z (.ref b) := fun B Z R r => by
  have ty : z.TypeIs (.ref b) "tuple" := ⟨ob, g1, g2⟩
  unfold ofAClassStatement
  refine wpAny_bind (wpAny_typeOf ty ?_)
  dsimp only
  have tt : (("tuple" : String) == "tuple") = true := by decide
  simp only [tt, if_true, Bool.not_true, Bool.false_eq_true, if_false]
  try refine wpAny_bind (wpAny_pure ?_)
  try simp only [Bool.not_true, Bool.false_eq_true, if_false]
  show wpAny _ _ (seqItems? (.ref b) >>= _) _ _ z
  refine wpAny_bind (wpAny_seqItems g1 g3 ?_)
  dsimp only
  refine wpAny_bind ?_
  show wpAny _ _ (forIn vs _ _) _ _ z
  rw [← Array.forIn_toList]
  refine wpAny_forIn_list _ (fun todo acc z' => acc.1 = none ∧ z' = z ∧ ∀ y ∈ todo, Cal P w f z y) _ ?_ ?_ _ _ ⟨rfl, rfl, each⟩
  · rintro y todo acc z' ⟨k1, rfl, k2⟩
    refine wpAny_bind (k2 y List.mem_cons_self _ _ _ ?_)
    simp only [Bool.false_eq_true, if_false]
    exact wpAny_pure ⟨rfl, rfl, fun u hu => k2 u (List.mem_cons_of_mem _ hu)⟩
  · rintro ⟨c1, c2⟩ z' ⟨k1, rfl, _⟩
    simp only at k1
    subst k1
    exact wpAny_pure r
/-- whether its hash hangs on its value alone: either answer will do -/
def Byv (P : Program) (w : World) (f : Nat) (z : Shared) (v : Value) : Prop := ∀ (B : Around) (Z : Value → Shared → Prop) (R : Bool → Shared → Prop), (∀ b, R b z) → wpAny (model P w) B (hashByValue f v) R Z z
theorem Byv.tup {f m : Nat} {z : Shared} {b : Addr} {ob : Obj} {vs : Array Value} (g1 : z.heap.get? b = some ob) (g2 : ob.cls = .type "tuple") (g3 : ob.data = .seq vs m) (each : ∀ y ∈ vs.toList, Byv P w f z y) : Byv P w (f + 1) z (.ref b) := fun B Z R r => by
  have ty : z.TypeIs (.ref b) "tuple" := ⟨ob, g1, g2⟩
  unfold hashByValue
  refine wpAny_bind (wpAny_specialOf ty PySem.F.slot_tuple_hash.lookup ?_)
  show wpAny _ _ (seqItems? (.ref b) >>= _) _ _ z
  refine wpAny_bind (wpAny_seqItems g1 g3 ?_)
  refine wpAny_bind ?_
  show wpAny _ _ (forIn vs _ _) _ _ z
  rw [← Array.forIn_toList]
  refine wpAny_forIn_list _ (fun todo acc z' => acc.1 = none ∧ z' = z ∧ ∀ y ∈ todo, Byv P w f z y) _ ?_ ?_ _ _ ⟨rfl, rfl, each⟩
  · rintro y todo acc z' ⟨k1, rfl, k2⟩
    refine wpAny_bind (k2 y List.mem_cons_self _ _ _ fun c => ?_)
    cases c with
    | true =>
      simp only [Bool.not_true, Bool.false_eq_true, if_false]
      exact wpAny_pure ⟨rfl, rfl, fun u hu => k2 u (List.mem_cons_of_mem _ hu)⟩
    | false =>
      simp only [Bool.not_false, if_true]
      first | exact wpAny_pure (wpAny_pure (r _)) | exact wpAny_bind (wpAny_pure (wpAny_pure (wpAny_pure (r _)))) | exact wpAny_pure (r _)
  · rintro ⟨c1, c2⟩ z' ⟨k1, rfl, _⟩
    simp only at k1
    subst k1
    exact wpAny_pure (r _)
mutual
theorem cal_key : ∀ (k : NK) (v : Value) (f : Nat) (z : Shared), NestedIs z.heap k v → k.depth ≤ f → Cal P w f z v
  | .none, _, f, z, x, _ => by cases x; exact .flat rfl
  | .num i, _, f, z, x, _ => by cases x <;> exact .flat rfl
  | .text y, _, f, z, x, _ => by cases x; exact .flat rfl
  | .tup ks, _, f, z, x, n => by
    cases x with
    | tup g1 g2 g3 g4 =>
      simp only [NestedKey.depth] at n
      cases f with
      | zero => omega
      | succ f => exact .tup g1 g2 g3 (cal_keys ks _ f z g4 (by omega))
theorem cal_keys : ∀ (ks : List NK) (vs : List Value) (f : Nat) (z : Shared), NestedAll z.heap ks vs → NestedKey.depthAll ks ≤ f → ∀ v ∈ vs, Cal P w f z v
  | [], _, f, z, x, _, v, hv => by cases x; cases hv
  | k :: ks, _, f, z, x, n, v, hv => by
    cases x with
    | cons x1 x2 =>
      simp only [NestedKey.depthAll] at n
      rcases List.mem_cons.mp hv with q | hv
      · subst q; exact cal_key k _ f z x1 (by omega)
      · exact cal_keys ks _ f z x2 (by omega) v hv
end
mutual
theorem byv_key : ∀ (k : NK) (v : Value) (f : Nat) (z : Shared), NestedIs z.heap k v → k.depth ≤ f → Byv P w f z v
  | .none, _, f, z, x, _ => by cases x; intro B Z R r; cases f <;> exact wpAny_pure (r _)
  | .num i, _, f, z, x, _ => by cases x <;> (intro B Z R r; cases f <;> exact wpAny_pure (r _))
  | .text y, _, f, z, x, _ => by cases x; intro B Z R r; cases f <;> exact wpAny_pure (r _)
  | .tup ks, _, f, z, x, n => by
    cases x with
    | tup g1 g2 g3 g4 =>
      simp only [NestedKey.depth] at n
      cases f with
      | zero => omega
      | succ f => exact .tup g1 g2 g3 (byv_keys ks _ f z g4 (by omega))
theorem byv_keys : ∀ (ks : List NK) (vs : List Value) (f : Nat) (z : Shared), NestedAll z.heap ks vs → NestedKey.depthAll ks ≤ f → ∀ v ∈ vs, Byv P w f z v
  | [], _, f, z, x, _, v, hv => by cases x; cases hv
  | k :: ks, _, f, z, x, n, v, hv => by
    cases x with
    | cons x1 x2 =>
      simp only [NestedKey.depthAll] at n
      rcases List.mem_cons.mp hv with q | hv
      · subst q; exact byv_key k _ f z x1 (by omega)
      · exact byv_keys ks _ f z x2 (by omega) v hv
end
/-- a tuple that is a key, at most eight deep -/
def KeyR (h : Heap) (k : NK) (b : Addr) : Prop := NestedIs h k (.ref b) ∧ k.depth ≤ 8
theorem KeyR.move {h h' : Heap} {k : NK} {b : Addr} (x : KeyR h k b) (hk : ∀ c o, h.get? c = some o → h'.get? c = some o) : KeyR h' k b := ⟨NestedIs.at (fun c o _ _ e _ => hk c o e) k _ x.1, x.2⟩
/-- looking one up among them shows nothing of it -/
theorem hidden {k : NK} {b : Addr} {ys : List Value} {R : Bool → Shared → Prop} (x : KeyR s.heap k b) (all : ∀ y ∈ ys, ∃ k' c, y = Value.ref c ∧ KeyR s.heap k' c) (r : R false s) : wpAny (model P w) A (searchCouldBeSeen (.ref b) ys) R E s := by
  unfold searchCouldBeSeen
  refine wpAny_bind ?_
  refine wpAny_forIn_list _ (fun todo acc z => acc.1 = none ∧ z = s ∧ ∀ y ∈ todo, ∃ k' c, y = Value.ref c ∧ KeyR s.heap k' c) _ ?_ ?_ _ _ ⟨rfl, rfl, all⟩
  · rintro y todo acc z ⟨k1, rfl, k2⟩
    obtain ⟨k', c, rfl, xc⟩ := k2 y List.mem_cons_self
    have next : ∀ y ∈ todo, ∃ k' c, y = Value.ref c ∧ KeyR z.heap k' c := fun u hu => k2 u (List.mem_cons_of_mem _ hu)
    dsimp only
    by_cases d : (b == c || (carriedByValue (.ref b) && carriedByValue (.ref c))) = true
    · exact wp_if_pos d (wpAny_pure ⟨rfl, rfl, next⟩)
    · refine wp_if_neg d ?_
      refine wpAny_bind (quiet_key k _ 8 z x.1 x.2 _ _ _ ?_)
      simp only [Bool.not_true, Bool.false_eq_true, if_false]
      refine wpAny_bind (quiet_key k' _ 8 z xc.1 xc.2 _ _ _ ?_)
      simp only [Bool.not_true, Bool.false_eq_true, if_false]
      refine wpAny_bind (cal_key k _ 8 z x.1 x.2 _ _ _ ?_)
      simp only [Bool.false_eq_true, if_false]
      refine wpAny_bind (cal_key k' _ 8 z xc.1 xc.2 _ _ _ ?_)
      simp only [Bool.false_eq_true, if_false]
      exact wpAny_pure ⟨rfl, rfl, next⟩
  · rintro ⟨c1, c2⟩ z ⟨k1, rfl, _⟩
    simp only at k1
    subst k1
    exact wpAny_pure r
theorem hash_tup {k : NK} {b : Addr} {R : Int → Shared → Prop} (u : A.units + 8 < cLine) (x : KeyR s.heap k b) (r : R (k.hash w) { s with toks := s.toks + k.draws }) : wpAny (model P w) A (pyHash (.ref b)) R E s :=
  pyHash_key k _ A s R x.1 (by have := x.2; omega) r
theorem eq_tup {k k' : NK} {b c : Addr} {R : Bool → Shared → Prop} (u : A.units + 8 < cLine) (x : KeyR s.heap k b) (y : KeyR s.heap k' c) (r : R (decide (k = k')) s) : wpAny (model P w) A (eqBool (.ref b) (.ref c)) R E s := by
  have e := eqAt_key k k' A s _ _ x.1 y.1 (by have := x.2; omega)
  rw [← NestedKey.decide_eq] at e
  exact e _ _ _ _ r
end

/-! ### the table -/
abbrev Pr := Addr × NK
def lineOf (w : World) (l : List Pr) : List (Int × Value) := l.map fun q => (q.2.hash w, Value.ref q.1)
def hsOf (w : World) (l : List Pr) : List Int := l.map fun q => q.2.hash w
/-- at a stands a set of these tuples -/
structure TSet (w : World) (h : Heap) (a : Addr) (l : List Pr) (es : Array (Int × Value)) (ep : Nat) (t : SetTable) : Prop where
  ob : ∃ o, h.get? a = some o ∧ o.ExactSet ∧ o.data = .set es ep t
  ln : es.toList = lineOf w l
  tb : TabOk t (hsOf w l)
  un : (l.map (·.2)).Nodup
  ks : ∀ q ∈ l, KeyR h q.2 q.1
  ld : w.params.followText "set-order" = true ∨ t.led = true
  rm : l.length * 5 < t.mask * 3
  fw : l.length < 64
theorem lineOf_len (w : World) (l : List Pr) : (lineOf w l).length = l.length := List.length_map _
theorem hsOf_len (w : World) (l : List Pr) : (hsOf w l).length = l.length := List.length_map _
theorem size_of_line {w : World} {l : List Pr} {es : Array (Int × Value)} (e : es.toList = lineOf w l) : es.size = l.length := by
  rw [← Array.length_toList, e, lineOf_len]
theorem line_at {w : World} {l : List Pr} {es : Array (Int × Value)} (e : es.toList = lineOf w l) {i : Nat} {q : Pr} (h : l[i]? = some q) : es[i]? = some (q.2.hash w, Value.ref q.1) := by
  rw [← Array.getElem?_toList, e, lineOf, List.getElem?_map, h]; rfl
section
variable {P : Program} {w : World} {A : Around} {E : Value → Shared → Prop} {s : Shared} {a : Addr} {l : List Pr} {es : Array (Int × Value)} {ep : Nat} {t : SetTable}
theorem TSet.size (T : TSet w s.heap a l es ep t) : es.size = l.length := size_of_line T.ln
theorem fits_of {n : Nat} (e : t.place.size = n) (d : t.dummies = #[]) (le : n ≤ t.mask) : t.fits n = true := by
  unfold SetTable.fits SetTable.fill
  rw [d, Bool.and_eq_true, beq_iff_eq, decide_eq_true_eq]
  exact ⟨e, by rw [e]; exact le⟩
theorem TSet.fit (T : TSet w s.heap a l es ep t) : t.fits es.size = true := by
  have e := T.tb.sz
  rw [hsOf_len] at e
  have k := T.rm
  exact fits_of (by rw [e, T.size]) T.tb.dm (by rw [T.size]; omega)
theorem TSet.nogive (T : TSet w s.heap a l es ep t) : ¬ t.gaveWay = true := by
  unfold SetTable.gaveWay
  rw [mask_odd T.tb.mok]
  decide
/-- where the way of h begins, and its c-th step -/
abbrev st0 (m : Nat) (h : Int) : SetTable.Probe := runAt m (SetTable.bits h % (m + 1)) (SetTable.bits h)
abbrev stp (m : Nat) (h : Int) (c : Nat) : SetTable.Probe := nth m (st0 m h) c
theorem stp_plain (m : Nat) (h : Int) (c : Nat) : (stp m h c).dummy = none := by
  have go : ∀ (n : Nat) (p : SetTable.Probe), p.dummy = none → (nth m p n).dummy = none := by
    intro n
    induction n with
    | zero => exact fun _ z => z
    | succ n ih => exact fun p z => ih (adv m p) (by unfold adv; split <;> exact z)
  exact go c _ rfl

/-- the look-up, from its c-th step on -/
theorem look_from (T : TSet w s.heap a l es ep t) {b : Addr} {k : NK} (x : KeyR s.heap k b) (u : A.units + 8 < cLine) {N : Nat} (n1 : N < 10 * SetTable.turns t.mask)
    (n2 : way t.mask (k.hash w) N ∉ t.place.toList) (n3 : ∀ c, c < N → way t.mask (k.hash w) c ∈ t.place.toList) {R : SetFound → Shared → Prop}
    (yes : k ∈ l.map (·.2) → R (.there none) s) (no : k ∉ l.map (·.2) → R (.free (way t.mask (k.hash w) N) false) s) :
    ∀ (f c : Nat) (at' : Option SetTable.Probe), at'.getD (t.probeStart (k.hash w)) = stp t.mask (k.hash w) c → c ≤ N → N - c < f →
      (∀ (i : Nat) q, l[i]? = some q → q.2 = k → ∃ d, c ≤ d ∧ d < N ∧ t.place.toList[i]? = some (way t.mask (k.hash w) d)) →
      wpAny (model P w) A (setSearchFrom a (.ref b) (k.hash w) true f at') R E s
  | 0, _, _, _, _, z, _ => absurd z (Nat.not_lt_zero _)
  | f + 1, c, at', ea, le, lt, ah => by
    obtain ⟨o, ho, hx, hd⟩ := T.ob
    rw [setSearchFrom_succ]
    refine wpAny_bind (wpAny_setState_of ho hd T.fit ?_)
    dsimp only
    refine wp_if_neg T.nogive ?_
    try refine wpAny_bind (wpAny_pure ?_)
    have shift : ∀ q, nth t.mask (stp t.mask (k.hash w) c) q = stp t.mask (k.hash w) (c + q) := fun q => (nth_add t.mask c _ q).symm
    have jAt : ∀ q, (nth t.mask (stp t.mask (k.hash w) c) q).j = way t.mask (k.hash w) (c + q) := fun q => congrArg SetTable.Probe.j (shift q)
    have hAt : ∀ (i : Nat) q, l[i]? = some q → (fun i => (es[i]?.map (·.1)).getD 0) i = q.2.hash w := fun i q e => by
      show (es[i]?.map (·.1)).getD 0 = _
      rw [line_at T.ln e]; rfl
    rcases go_spec t T.tb.ris T.tb.dm (fun i => (es[i]?.map (·.1)).getD 0) (k.hash w) (10 * SetTable.turns t.mask) (N - c) _ (stp_plain _ _ c) (by omega)
      (fun q hq => by rw [jAt]; exact n3 (c + q) (by omega)) (by rw [jAt, show c + (N - c) = N by omega]; exact n2) with ⟨q, i, lq, pl, eh, not, pr⟩ | ⟨not, pr⟩
    · have pr' : t.probe (fun i => (es[i]?.map (·.1)).getD 0) (k.hash w) (at'.getD (t.probeStart (k.hash w))) = some (.candidate (way t.mask (k.hash w) (c + q)) i (stp t.mask (k.hash w) (c + (q + 1)))) := by
        rw [ea, ← jAt, ← shift]
        exact pr
      rw [pr']
      dsimp only
      rw [jAt] at pl
      have il : i < l.length := by
        have z1 := (List.getElem?_eq_some_iff.mp pl).1
        have z2 := T.tb.sz
        rw [hsOf_len] at z2
        rw [Array.length_toList] at z1
        omega
      have ep' : l[i]? = some l[i] := List.getElem?_eq_getElem il
      generalize l[i] = r at ep'
      have rm : r ∈ l := List.mem_of_getElem? ep'
      have rk := T.ks r rm
      have tail : wpAny (model P w) A (searchRest a (.ref b) (k.hash w) true f es t (way t.mask (k.hash w) (c + q)) i (stp t.mask (k.hash w) (c + (q + 1)))) R E s := by
        unfold searchRest
        rw [line_at T.ln ep']
        dsimp only
        refine wpAny_bind (wpAny_holding (eq_tup u rk x ?_))
        refine wpAny_bind (wpAny_setState_of ho hd T.fit ?_)
        dsimp only
        by_cases same : r.2 = k
        · exact wp_if_pos (by simp [same]) (wpAny_pure (yes (List.mem_map.mpr ⟨r, rm, same⟩)))
        · refine wp_if_neg (by simp [same]) ?_
          try refine wpAny_bind (wpAny_pure ?_)
          rw [sameMem]
          dsimp only
          have sl : t.slot (way t.mask (k.hash w) (c + q)) = .live i := slot_live T.tb.ris pl
          simp only [if_true, sl, line_at T.ln ep']
          refine wpAny_bind (wpAny_isSame_ref_self (wpAny_bind (wpAny_pure ?_)))
          simp only [if_true]
          refine wp_if_neg (by simp [same]) ?_
          refine look_from T x u n1 n2 n3 yes no f (c + (q + 1)) _ rfl (by omega) (by omega) fun i' r' g1 g2 => ?_
          obtain ⟨d, d1, d2, d3⟩ := ah i' r' g1 g2
          refine ⟨d, ?_, d2, d3⟩
          rcases Nat.lt_trichotomy d (c + q) with lo | mid | hi
          · exact absurd ((hAt i' r' g1).trans (congrArg (NestedKey.hash w) g2)) (not (d - c) i' (by omega) (by rw [jAt, show c + (d - c) = d by omega]; exact d3))
          · rw [mid] at d3
            have sl' := slot_live T.tb.ris d3
            rw [sl] at sl'
            injection sl' with sl'
            rw [← sl', ep'] at g1
            exact absurd ((congrArg Prod.snd (Option.some.inj g1)).trans g2) same
          · omega
      by_cases led : t.led = true
      · refine wp_if_neg (by simp [led]) ?_
        try refine wpAny_bind (wpAny_pure ?_)
        exact tail
      · refine wp_if_pos (by simp [led]) ?_
        refine wpAny_bind (hidden x (fun y hy => ?_) ?_)
        · obtain ⟨e, he, rfl⟩ := List.mem_map.mp hy
          have he' : e ∈ es.toList := by
            have z : e ∈ es ∧ e.1 = k.hash w := by simpa using he
            simpa using z.1
          rw [T.ln] at he'
          obtain ⟨r', hr, rfl⟩ := List.mem_map.mp he'
          exact ⟨r'.2, r'.1, rfl, T.ks r' hr⟩
        · refine wp_if_neg (by decide) ?_
          try refine wpAny_bind (wpAny_pure ?_)
          exact tail
    · have pr' : t.probe (fun i => (es[i]?.map (·.1)).getD 0) (k.hash w) (at'.getD (t.probeStart (k.hash w))) = some (.empty (way t.mask (k.hash w) N) none) := by
        have z : way t.mask (k.hash w) N = (nth t.mask (stp t.mask (k.hash w) c) (N - c)).j := by rw [jAt, show c + (N - c) = N by omega]
        rw [ea, z]
        exact pr
      rw [pr']
      dsimp only
      refine wpAny_pure (no fun mem => ?_)
      obtain ⟨r, hr, rk⟩ := List.mem_map.mp mem
      obtain ⟨i, il, ei⟩ := List.getElem_of_mem hr
      have ei' : l[i]? = some r := by rw [List.getElem?_eq_getElem il, ei]
      obtain ⟨d, d1, d2, d3⟩ := ah i r ei' rk
      exact not (d - c) i (by omega) (by rw [jAt, show c + (d - c) = d by omega]; exact d3) ((hAt i r ei').trans (congrArg (NestedKey.hash w) rk))
theorem look_up (T : TSet w s.heap a l es ep t) {b : Addr} {k : NK} (x : KeyR s.heap k b) (u : A.units + 8 < cLine) {R : SetFound → Shared → Prop}
    (yes : k ∈ l.map (·.2) → R (.there none) s)
    (no : ∀ N, k ∉ l.map (·.2) → way t.mask (k.hash w) N ∉ t.place.toList → (∀ c, c < N → way t.mask (k.hash w) c ∈ t.place.toList) → R (.free (way t.mask (k.hash w) N) false) s) :
    wpAny (model P w) A (setSearch a (.ref b) (k.hash w) true) R E s := by
  have few := T.rm
  obtain ⟨N, n1, n2, n3⟩ := T.tb.first (by rw [hsOf_len]; omega) (k.hash w)
  have small : N < 100000 := by
    have : 10 * SetTable.turns t.mask ≤ 1420 := by
      unfold SetTable.turns
      rcases T.tb.mok with e | e | e <;> omega
    omega
  unfold setSearch
  refine look_from T x u n1 n2 n3 yes (fun z => no N z n2 n3) 100000 0 none rfl (Nat.zero_le _) (by omega) fun i q e1 e2 => ?_
  have eh : (hsOf w l)[i]? = some (k.hash w) := by rw [hsOf, List.getElem?_map, e1, ← e2]; rfl
  have il : i < t.place.toList.length := by
    have z1 := (List.getElem?_eq_some_iff.mp e1).1
    have z2 := T.tb.sz
    rw [hsOf_len] at z2
    rw [Array.length_toList]
    omega
  obtain ⟨d, d1, d2⟩ := T.tb.before n2 eh (List.getElem?_eq_getElem il)
  exact ⟨d, Nat.zero_le _, d1, by rw [List.getElem?_eq_getElem il, d2]⟩
end
end PL
/-! PLy: a key is put into such a set. -/
namespace PL
open PySem PySem.Spec L2 PyProof.Rows
section
variable {P : Program} {w : World} {A : Around} {E : Value → Shared → Prop} {s : Shared} {a : Addr} {l : List Pr} {es : Array (Int × Value)} {ep : Nat} {t : SetTable}
theorem KeyR.beside {h h' : Heap} {k : NK} {b : Addr} {o : Obj} {es : Array (Int × Value)} {ep : Nat} {t : SetTable} (x : KeyR h k b) (ho : h.get? a = some o) (hd : o.data = .set es ep t) (sb : Heap.SameBut a h h') : KeyR h' k b :=
  ⟨NestedIs.at (fun c oc vs n e z => (sb.2 c fun q => by
    subst q
    rw [ho] at e
    cases e
    rw [hd] at z
    cases z).trans e) k _ x.1, x.2⟩
/-- the rows in the sequence of the new table -/
theorem reorder (w : World) (l : List Pr) (es : Array (Int × Value)) (ord : Array Nat) (e : es.toList = lineOf w l) (p : ord.toList.Perm (List.range l.length)) :
    ∃ l', (ord.filterMap (es[·]?)).toList = lineOf w l' ∧ l'.Perm l ∧ hsOf w l' = ord.toList.map fun i => (es.map (·.1)).getD i 0 := by
  have go : ∀ js : List Nat, (∀ i ∈ js, i < l.length) → js.filterMap (fun i => es[i]?) = lineOf w (js.filterMap fun i => l[i]?) ∧ hsOf w (js.filterMap fun i => l[i]?) = js.map fun i => (es.map (·.1)).getD i 0 := by
    intro js
    induction js with
    | nil => exact fun _ => ⟨rfl, rfl⟩
    | cons i js ih =>
      intro hj
      have hi := hj i List.mem_cons_self
      have e1 := List.getElem?_eq_getElem hi
      have e2 := line_at e e1
      obtain ⟨q1, q2⟩ := ih fun j z => hj j (List.mem_cons_of_mem _ z)
      have e3 : (es.map (·.1)).getD i 0 = (l[i]).2.hash w := by
        rw [Array.getD_eq_getD_getElem?, Array.getElem?_map, e2]; rfl
      refine ⟨?_, ?_⟩
      · rw [List.filterMap_cons_some e2, List.filterMap_cons_some e1, q1]; rfl
      · rw [List.filterMap_cons_some e1, List.map_cons, ← q2, e3]; rfl
  obtain ⟨g1, g2⟩ := go ord.toList fun i z => List.mem_range.mp (p.mem_iff.mp z)
  refine ⟨ord.toList.filterMap fun i => l[i]?, by first | (rw [Array.toList_filterMap]; exact g1) | simpa using g1, ?_, g2⟩
  have whole : ∀ n, n ≤ l.length → (List.range n).filterMap (fun i => l[i]?) = l.take n := by
    intro n
    induction n with
    | zero => exact fun _ => rfl
    | succ n ih =>
      intro lt
      have e0 := List.getElem?_eq_getElem (show n < l.length from lt)
      rw [List.range_succ, List.filterMap_append, ih (Nat.le_of_lt lt), List.filterMap_cons_some e0, List.take_succ, e0]; rfl
  have z := p.filterMap fun i => l[i]?
  rw [whole _ (Nat.le_refl _), List.take_length] at z
  exact z

/-- the table is laid out anew, larger -/
theorem relay_to {o : Obj} (ho : s.heap.get? a = some o) (hx : o.ExactSet) (hd : o.data = .set es ep t) (e : es.toList = lineOf w l) (e2 : t.place.size = es.size) (e3 : t.dummies = #[]) (e4 : es.size ≤ t.mask)
    (un : (l.map (·.2)).Nodup) (ks : ∀ q ∈ l, KeyR s.heap q.2 q.1) (ld : w.params.followText "set-order" = true ∨ t.led = true) (fw : l.length < 64) {want M : Nat}
    (m1 : SetTable.sizeAbove want - 1 = M) (m2 : MaskOk M) (m3 : SetTable.sizeAbove want ≤ 128) (m4 : l.length * 5 < M * 3) {R : Unit → Shared → Prop}
    (r : ∀ h' l' es' ep' t', Heap.SameBut a s.heap h' → TSet w h' a l' es' ep' t' → l'.Perm l → R () { s with heap := h' }) : wpAny (model P w) A (setRelay a want) R E s := by
  have sz := size_of_line e
  obtain ⟨t', ord, q1, q2, q3, q4, q5, q6, q7⟩ := relaid_ok t (hs := es.map (·.1)) (wanted := want) m1 m2 (by rw [Array.size_map, sz]; omega)
  rw [Array.size_map, sz] at q2
  obtain ⟨l', k1, k2, k3⟩ := reorder w l es ord e q2
  rw [← k3] at q3
  have sz' : (ord.filterMap (es[·]?)).size = es.size := by rw [size_of_line k1, k2.length_eq, sz]
  rw [setRelay_eq]
  refine wpAny_bind (wpAny_setState_of ho hd (fits_of e2 e3 e4) ?_)
  dsimp only
  refine wp_if_neg (by rw [sizeLine_eq]; omega) ?_
  try refine wpAny_bind (wpAny_pure ?_)
  rw [q1]
  dsimp only
  refine wpAny_bind ?_
  refine wp_if_neg (by rw [sz']; simp) ?_
  try refine wpAny_bind (wpAny_pure ?_)
  refine wpAny_pure ?_
  dsimp only
  refine wpAny_storeSet_of ho hd ?_ (by rw [sz', sz, sizeLine_eq]; omega)
  have sb := Heap.SameBut.update s.heap a (Obj.putSet (ord.filterMap (es[·]?)) t')
  refine r _ l' (ord.filterMap (es[·]?)) (ep + 1) t' sb ⟨⟨_, store_at ho hd, ⟨hx.1, hx.2.1, hx.2.2⟩, rfl⟩, k1, q3, (k2.map (·.2)).nodup_iff.mpr un, fun q hq => (ks q (k2.mem_iff.mp hq)).beside ho hd sb, by rw [q5]; exact ld, by rw [k2.length_eq, q4]; exact m4, by rw [k2.length_eq]; exact fw⟩ k2

/-- one key more, or none -/
theorem put_in (T : TSet w s.heap a l es ep t) {b : Addr} {k : NK} (x : KeyR s.heap k b) (u : A.units + 8 < cLine) (fw : l.length + 1 < 64) {R : Bool → Shared → Prop}
    (r : ∀ c h' l' es' ep' t', Heap.SameBut a s.heap h' → TSet w h' a l' es' ep' t' → (k ∈ l.map (·.2) → l' = l) → (k ∉ l.map (·.2) → l'.Perm ((b, k) :: l)) → R c { s with heap := h' }) :
    wpAny (model P w) A (setAddHashed a (.ref b) (k.hash w)) R E s := by
  obtain ⟨o, ho, hx, hd⟩ := T.ob
  have sz := T.size
  have rm := T.rm
  unfold setAddHashed
  refine wpAny_holding ?_
  rw [show (100000 : Nat) = 99999 + 1 from rfl, setAddHashedIn_succ]
  refine wpAny_bind (wpAny_setState_of ho hd T.fit ?_)
  dsimp only
  refine wp_if_neg (by simp [byScan, Value.scannable]) ?_
  try refine wpAny_bind (wpAny_pure ?_)
  refine wpAny_bind (look_up T x u (fun mem => ?_) fun N mem n2 n3 => ?_)
  · dsimp only
    exact wpAny_pure (r false s.heap l es ep t (Heap.SameBut.refl a s.heap) T (fun _ => rfl) fun z => absurd mem z)
  · dsimp only
    refine wpAny_bind (wpAny_setState_of ho hd T.fit ?_)
    dsimp only
    obtain ⟨q1, q2, q3, q4, q5, q6, q7, q8, q9⟩ := T.tb.put n2 n3
    generalize t.put (way t.mask (k.hash w) N) = tp at q1 q3 q4 q5 q6 q7 q8 q9 ⊢
    obtain ⟨t1, p⟩ := tp
    dsimp only at q1 q3 q4 q5 q6 q7 q8 q9 ⊢
    subst q1
    -- whichever way the hash hangs on its value: the table but for that mark
    have rest : ∀ t2 : SetTable, t2.mask = t1.mask → t2.place = t1.place → t2.dummies = t1.dummies → t2.led = t1.led → TabOk t2 ((hsOf w l).take (SetTable.below t.place (way t.mask (k.hash w) N)) ++ k.hash w :: (hsOf w l).drop (SetTable.below t.place (way t.mask (k.hash w) N))) → t2.tooFull = t1.tooFull →
        wpAny (model P w) A (do
          storeSet a (SetTable.insertAt es (SetTable.below t.place (way t.mask (k.hash w) N)) (k.hash w, .ref b)) t2
          if !false && t2.tooFull then setRelay a (SetTable.grown (es.size + 1))
          return true) R E s := by
      intro t2 u1 u2 u3 u4 u5 u6
      have lin : (SetTable.insertAt es (SetTable.below t.place (way t.mask (k.hash w) N)) (k.hash w, .ref b)).toList = lineOf w (l.take (SetTable.below t.place (way t.mask (k.hash w) N)) ++ (b, k) :: l.drop (SetTable.below t.place (way t.mask (k.hash w) N))) := by
        rw [SetTable.toList_insertAt, T.ln, lineOf, lineOf, List.map_append, List.map_cons, List.map_take, List.map_drop]
      generalize SetTable.below t.place (way t.mask (k.hash w) N) = p at q2 u5 lin ⊢
      have pm := put_perm l p (b, k)
      have len1 : (l.take p ++ (b, k) :: l.drop p).length = l.length + 1 := pm.length_eq
      have hs1 : hsOf w (l.take p ++ (b, k) :: l.drop p) = (hsOf w l).take p ++ k.hash w :: (hsOf w l).drop p := by
        rw [hsOf, hsOf, List.map_append, List.map_cons, List.map_take, List.map_drop]
      rw [← hs1] at u5
      have un1 : ((l.take p ++ (b, k) :: l.drop p).map (·.2)).Nodup := by
        refine (pm.map (·.2)).nodup_iff.mpr ?_
        rw [List.map_cons]
        exact List.nodup_cons.mpr ⟨mem, T.un⟩
      have sz1 : (SetTable.insertAt es p (k.hash w, Value.ref b)).size = l.length + 1 := by rw [size_of_line lin, len1]
      generalize SetTable.insertAt es p (k.hash w, Value.ref b) = es1 at lin sz1 ⊢
      generalize l.take p ++ (b, k) :: l.drop p = l1 at pm len1 u5 un1 lin
      refine wpAny_bind (wpAny_storeSet_of ho hd ?_ (by rw [sz1, sizeLine_eq]; omega))
      have sb : Heap.SameBut a s.heap (s.heap.update a (Obj.putSet es1 t2)) := Heap.SameBut.update ..
      have ho1 := store_at (es' := es1) (t' := t2) ho hd
      generalize s.heap.update a (Obj.putSet es1 t2) = h1 at sb ho1 ⊢
      have ks1 : ∀ q ∈ l1, KeyR h1 q.2 q.1 := fun q hq => by
        rcases List.mem_cons.mp (pm.mem_iff.mp hq) with z | hq
        · rw [z]; exact x.beside ho hd sb
        · exact (T.ks q hq).beside ho hd sb
      have ld1 : w.params.followText "set-order" = true ∨ t2.led = true := by rw [u4, q5]; exact T.ld
      by_cases full : t1.tooFull = true
      · first
          | (refine wpAny_bind ?_; refine wp_if_pos (by simp [u6, full]) ?_)
          | (refine wp_if_pos (by simp [u6, full]) ?_; refine wpAny_bind ?_)
        have lot : (l.length + 1) * 5 ≥ t1.mask * 3 := by
          have z := full
          unfold SetTable.tooFull at z
          rw [decide_eq_true_eq, q9, hsOf_len] at z
          exact z
        have two : (t.mask = 7 ∧ l.length = 4) ∨ (t.mask = 31 ∧ l.length = 18) := by
          rcases T.tb.mok with z | z | z
          · left; rw [q4, z] at lot; rw [z] at rm; exact ⟨z, by omega⟩
          · right; rw [q4, z] at lot; rw [z] at rm; exact ⟨z, by omega⟩
          · exfalso; rw [q4, z] at lot; omega
        have e2 : t2.place.size = es1.size := by
          have z := u5.sz
          rw [hsOf_len, len1] at z
          rw [z, sz1]
        have grow : ∀ M, SetTable.sizeAbove (SetTable.grown (l.length + 1)) - 1 = M → MaskOk M → SetTable.sizeAbove (SetTable.grown (l.length + 1)) ≤ 128 → (l.length + 1) * 5 < M * 3 →
            wpAny (model P w) A (setRelay a (SetTable.grown (l.length + 1))) (fun _ z => wpAny (model P w) A (pure true) R E z) E { s with heap := h1 } := fun M g1 g2 g3 g4 =>
          relay_to (s := { s with heap := h1 }) ho1 ⟨hx.1, hx.2.1, hx.2.2⟩ rfl lin e2 u5.dm (by rw [sz1, u1, q4]; rcases two with ⟨z, z2⟩ | ⟨z, z2⟩ <;> omega) un1 ks1 ld1 (by rw [len1]; exact fw) g1 g2 g3 (by rw [len1]; exact g4)
            fun h2 l2 es2 ep2 tb2 sb2 T2 pm2 => wpAny_pure (r true h2 l2 es2 ep2 tb2 (sb.trans sb2) T2 (fun z => absurd z mem) fun _ => pm2.trans pm)
        rw [sz]
        rcases two with ⟨_, z⟩ | ⟨_, z⟩
        · exact grow 31 (by rw [z, size_20]) (.inr (.inl rfl)) (by rw [z, size_20]; decide) (by omega)
        · exact grow 127 (by rw [z, size_76]) (.inr (.inr rfl)) (by rw [z, size_76]; decide) (by omega)
      · first
          | refine wp_if_neg (by simp [u6, full]) ?_
          | (refine wpAny_bind ?_; refine wp_if_neg (by simp [u6, full]) ?_; refine wpAny_pure ?_)
        refine wpAny_pure (r true h1 l1 es1 (ep + 1) t2 sb ⟨⟨_, ho1, ⟨hx.1, hx.2.1, hx.2.2⟩, rfl⟩, lin, u5, un1, ks1, ld1, ?_, by rw [len1]; exact fw⟩ (fun z => absurd z mem) fun _ => pm)
        have z := full
        unfold SetTable.tooFull at z
        rw [decide_eq_true_eq, q9, hsOf_len] at z
        rw [len1, u1]
        omega
    have t3 : TabOk { t1 with plain := false } ((hsOf w l).take (SetTable.below t.place (way t.mask (k.hash w) N)) ++ k.hash w :: (hsOf w l).drop (SetTable.below t.place (way t.mask (k.hash w) N))) := ⟨q3.ris, q3.dm, q3.sz, q3.mok, q3.bd, q3.reach⟩
    have fin : ∀ c : Bool, wpAny (model P w) A (do
          storeSet a (SetTable.insertAt es (SetTable.below t.place (way t.mask (k.hash w) N)) (k.hash w, .ref b)) (if c = true then t1 else { t1 with plain := false })
          if !false && (if c = true then t1 else { t1 with plain := false }).tooFull then setRelay a (SetTable.grown (es.size + 1))
          return true) R E s := fun c => by
      cases c with
      | true => exact rest t1 rfl rfl rfl rfl q3 rfl
      | false => exact rest { t1 with plain := false } rfl rfl rfl rfl t3 rfl
    by_cases pl : t1.plain = true
    · first
        | (refine wpAny_bind ?_; refine wp_if_pos pl ?_; exact byv_key k _ 8 s x.1 x.2 _ _ _ fin)
        | exact wp_if_pos pl (wpAny_bind (byv_key k _ 8 s x.1 x.2 _ _ _ fin))
    · first
        | (refine wpAny_bind ?_; refine wp_if_neg pl ?_; exact wpAny_pure (fin true))
        | exact wp_if_neg pl (wpAny_bind (wpAny_pure (fin true)))
        | exact wp_if_neg pl (fin true)
theorem tset_new {h : Heap} (ho : h.get? a = some { cls := .type "set", dict := none, data := .set #[] 0 (.fresh 0 0 (!w.params.followText "set-order")) }) : TSet w h a [] #[] 0 (.fresh 0 0 (!w.params.followText "set-order")) where
  ob := ⟨_, ho, ⟨rfl, rfl, rfl⟩, rfl⟩
  ln := rfl
  tb := ⟨List.Pairwise.nil, rfl, rfl, .inl rfl, fun x z => (by cases z), fun i h j z => (by simp [hsOf] at z)⟩
  un := List.nodup_nil
  ks := fun q z => (by cases z)
  ld := by
    show _ ∨ (!w.params.followText "set-order") = true
    cases w.params.followText "set-order"
    · exact .inr rfl
    · exact .inl rfl
  rm := by
    show 0 * 5 < 7 * 3
    decide
  fw := by
    show 0 < 64
    decide
theorem TSet.move {h h' : Heap} (T : TSet w h a l es ep t) (k1 : ∀ o, h.get? a = some o → h'.get? a = some o) (k2 : ∀ q ∈ l, KeyR h' q.2 q.1) : TSet w h' a l es ep t := by
  obtain ⟨o, ho, r⟩ := T.ob
  exact ⟨⟨o, k1 o ho, r⟩, T.ln, T.tb, T.un, k2, T.ld, T.rm, T.fw⟩
end
end PL
/-! PLz: set(xs) of a list: what it holds, whichever the keys are. -/
namespace PL
open PySem PySem.Spec L2 PyProof.Rows

/-- b is h, with more -/
def Grown (h b : Heap) : Prop := ∀ c o, h.get? c = some o → b.get? c = some o
/-- one key more: the unlike ones -/
def stepU {κ : Type} [DecidableEq κ] (L : List κ) (k : κ) : List κ := if k ∈ L then L else k :: L
def unl {κ : Type} [DecidableEq κ] (ks : List κ) : List κ := ks.foldl stepU []
theorem unl_snoc {κ : Type} [DecidableEq κ] (ks : List κ) (k : κ) : unl (ks ++ [k]) = stepU (unl ks) k := by
  unfold unl; rw [List.foldl_append]; rfl
theorem stepU_le {κ : Type} [DecidableEq κ] (L : List κ) (k : κ) : (stepU L k).length ≤ L.length + 1 := by
  unfold stepU
  split
  · omega
  · simp
theorem unl_le {κ : Type} [DecidableEq κ] (ks : List κ) : (unl ks).length ≤ ks.length := by
  have go : ∀ (ks : List κ) (L : List κ), (ks.foldl stepU L).length ≤ L.length + ks.length := by
    intro ks
    induction ks with
    | nil => exact fun L => Nat.le_refl _
    | cons k ks ih =>
      intro L
      have z := ih (stepU L k)
      have y := stepU_le L k
      rw [List.foldl_cons, List.length_cons]; omega
  have z := go ks []
  simpa [unl] using z

/-- a way in which sets hold keys; b: a heap of before, in which the keys stand -/
structure SetWay (P : Program) (w : World) (κ : Type) [DecidableEq κ] where
  key : Heap → κ → Value → Prop
  has : Heap → Heap → Addr → List κ → Prop
  born : ∀ {b h : Heap} {a : Addr}, h.get? a = some { cls := .type "set", dict := none, data := .set #[] 0 (.fresh 0 0 (!w.params.followText "set-order")) } → has b h a []
  stays : ∀ {b h h' : Heap} {a : Addr} {L : List κ}, has b h a L → (∀ o, h.get? a = some o → h'.get? a = some o) → Grown b h' → has b h' a L
  takes : ∀ {A : Around} {E : Value → Shared → Prop} {s : Shared} {b : Heap} {a : Addr} {L : List κ} {v : Value} {k : κ} {Q : Bool → Shared → Prop}, A.units + 8 < cLine → b.get? a = none → Grown b s.heap → has b s.heap a L → key b k v → L.length + 1 < 64 →
    (∀ c h' tk, s.toks ≤ tk → Heap.SameBut a s.heap h' → has b h' a (stepU L k) → Q c { s with heap := h', toks := tk }) → wpAny (model P w) A (setAdd a v) Q E s
  size : ∀ {b h : Heap} {a : Addr} {L : List κ}, has b h a L → ∃ o es ep t, h.get? a = some o ∧ o.ExactSet ∧ o.data = .set es ep t ∧ t.fits es.size = true ∧ es.size = L.length

section
variable {P : Program} {w : World} {A : Around} {E : Value → Shared → Prop} {s : Shared} {κ : Type} [DecidableEq κ]
theorem grown_beside {b h h' : Heap} {a : Addr} (g : Grown b h) (n : b.get? a = none) (sb : Heap.SameBut a h h') : Grown b h' := fun c o e =>
  (sb.2 c fun z => by rw [z, n] at e; cases e).trans (g c o e)
/-! ### the tuples -/
def takesT (P : Program) (w : World) : SetWay P w NK where
  key := fun b k v => ∃ c, v = .ref c ∧ KeyR b k c
  has := fun b h a L => ∃ l es ep t, TSet w h a l es ep t ∧ (l.map (·.2)).Perm L ∧ ∀ q ∈ l, KeyR b q.2 q.1
  born := fun ho => ⟨[], _, _, _, tset_new ho, List.Perm.refl _, fun q z => (by cases z)⟩
  stays := fun {b h h' a L} x k g => by
    obtain ⟨l, es, ep, t, T, pm, al⟩ := x
    exact ⟨l, es, ep, t, T.move k fun q hq => (al q hq).move g, pm, al⟩
  takes := fun {A E s b a L v k Q} u n g x kv few r => by
    obtain ⟨l, es, ep, t, T, pm, al⟩ := x
    obtain ⟨c, rfl, kr⟩ := kv
    have kr' : KeyR s.heap k c := kr.move g
    have ll : l.length = L.length := by rw [← pm.length_eq, List.length_map]
    unfold setAdd
    refine wpAny_holding (wpAny_bind (hash_tup u kr' ?_))
    refine (put_in (s := { s with toks := s.toks + k.draws }) T kr' u (by omega) fun cc h' l' es' ep' t' sb T' c1 c2 => ?_)
    have hb : l'.Perm l ∧ k ∈ L ∨ l'.Perm ((c, k) :: l) ∧ k ∉ L := by
      rcases Classical.em (k ∈ l.map (·.2)) with z | z
      · exact .inl ⟨by rw [c1 z], pm.mem_iff.mp z⟩
      · exact .inr ⟨c2 z, fun y => z (pm.mem_iff.mpr y)⟩
    refine (r cc h' (s.toks + k.draws) (Nat.le_add_right _ _) sb ⟨l', es', ep', t', T', ?_, fun q hq => ?_⟩)
    · unfold stepU
      rcases hb with ⟨z, y⟩ | ⟨z, y⟩
      · rw [if_pos y]; exact (z.map _).trans pm
      · rw [if_neg y]; exact (z.map _).trans (pm.cons k)
    · rcases hb with ⟨z, y⟩ | ⟨z, y⟩
      · exact al q (z.mem_iff.mp hq)
      · rcases List.mem_cons.mp (z.mem_iff.mp hq) with e | e
        · rw [e]; exact kr
        · exact al q e
  size := fun {b h a L} x => by
    obtain ⟨l, es, ep, t, T, pm, al⟩ := x
    obtain ⟨o, ho, hx, hd⟩ := T.ob
    have e := T.tb.sz
    rw [hsOf_len] at e
    have k := T.rm
    have z := size_of_line T.ln
    exact ⟨o, es, ep, t, ho, hx, hd, fits_of (by rw [e, z]) T.tb.dm (by rw [z]; omega), by rw [z, ← pm.length_eq, List.length_map]⟩

/-! ### what is looked through -/
def takesS (knd : KeyKind P w κ) : SetWay P w κ where
  key := fun b k v => knd.is k v = true ∧ v.scannable = true
  has := fun b h a L => h.SetOf knd a (fun k => decide (k ∈ L)) L.length
  born := fun {b h a} ho => ⟨_, _, _, _, ho, ⟨rfl, rfl, rfl⟩, rfl, fun e z => (by cases z), fun k => (by simp), (by unfold scanBound; decide), rfl, rfl⟩
  stays := fun {b h h' a L} x k g => by
    obtain ⟨o, es, ep, t, ho, r⟩ := x
    exact ⟨o, es, ep, t, k o ho, r⟩
  takes := fun {A E s b a L v k Q} u n g x kv few r => by
    unfold setAdd
    refine wpAny_holding (wpAny_bind (knd.pyHash kv.1 ?_))
    refine (wpAny_setAddHashed_of (s := { s with toks := s.toks + 1 }) kv.1 kv.2 x (by unfold scanBound; omega) fun h' sb x' => ?_)
    refine r _ h' (s.toks + 1) (Nat.le_add_right _ _) sb ?_
    have e : (fun k' => decide (k' ∈ L) || decide (k' = k)) = fun k' => decide (k' ∈ stepU L k) := funext fun k' => by
      unfold stepU
      split
      · rename_i y
        by_cases z : k' = k
        · subst z; simp [y]
        · simp [z]
      · simp [Bool.or_comm, eq_comm]
    have e2 : (if decide (k ∈ L) = true then L.length else L.length + 1) = (stepU L k).length := by
      unfold stepU
      by_cases y : k ∈ L
      · simp [y]
      · simp [y]
    rw [e, e2] at x'
    exact x'
  size := fun {b h a L} x => by
    obtain ⟨o, es, ep, t, ho, hx, hd, _, _, _, hf, hn⟩ := x
    exact ⟨o, es, ep, t, ho, hx, hd, hf, hn⟩

/-! ### set.update's turns -/
theorem turns (T : SetWay P w κ) {I : Addr} {fp wr : List Addr} {G : Array GenState → Array GenState → Prop} {n : Nat} {Pv : Nat → Value → Prop} {St : Nat → Shared → Prop} {R : Result → Shared → Prop}
    (W : WalksS P w A.in1 I fp wr G n Pv St) (S : Addr) (out : S ∉ fp) (ks : List κ) (len : n = ks.length) (few : ks.length < 64) (b : Heap) (val : ∀ i v, Pv i v → ∃ k, ks[i]? = some k ∧ T.key b k v)
    (new : b.get? S = none) (newI : ∀ c ∈ wr, b.get? c = none) (u : A.in1.units + 8 < cLine) :
    ∀ (m i : Nat) (s : Shared), n - i = m → i ≤ n → St i s → Grown b s.heap → T.has b s.heap S (unl (ks.take i)) →
      (∀ z, Moved (S :: wr) G s z → T.has b z.heap S (unl ks) → Grown b z.heap → R (.ok (.ret .none)) z) →
      codeAny (model P w) A (.builtin "set.update.loop" ⟨[.ref S, .ref I], []⟩) R s := by
  have outW : S ∉ wr := fun z => out (W.sub _ z)
  have more : ∀ c ∈ wr, c ∈ S :: wr := fun c z => List.mem_cons_of_mem _ z
  have gm : ∀ {s z : Shared}, Moved wr G s z → Grown b s.heap → Grown b z.heap := fun mv g c o e => mv.heap c o (fun y => by rw [newI c y] at e; cases e) (g c o e)
  intro m
  induction m with
  | zero =>
    intro i s hm hi st g x r
    have ei : i = n := by omega
    subst ei
    refine codeAny_builtin PyProof.Rows.F.entry_set_update_loop ?_
    rw [Around.under_plainId PyProof.Rows.F.plain_set_update_loop _]
    show wpAny _ A.in1 (pyNext (.ref I) >>= _) _ _ s
    refine wpAny_bind (W.done s _ _ st fun z mv => ?_)
    show wpAny _ A.in1 (ret Value.none) _ _ z
    rw [len, List.take_length] at x
    exact wpAny_pure (r z (mv.mono more) (T.stays x (fun o e => mv.heap S o outW e) (gm mv g)) (gm mv g))
  | succ m ih =>
    intro i s hm hi st g x r
    have lt : i < n := by omega
    refine codeAny_builtin PyProof.Rows.F.entry_set_update_loop ?_
    rw [Around.under_plainId PyProof.Rows.F.plain_set_update_loop _]
    show wpAny _ A.in1 (pyNext (.ref I) >>= _) _ _ s
    refine wpAny_bind (W.item i s _ _ lt st fun v z hP st' mv => ?_)
    obtain ⟨k, ek, kv⟩ := val i v hP
    have g' := gm mv g
    have x' := T.stays x (fun o e => mv.heap S o outW e) g'
    show wpAny _ A.in1 (holding [v] (setAdd S v) >>= _) _ _ z
    refine wpAny_bind (wpAny_holding (T.takes u new g' x' kv ?_ fun cc h' tk le sb x2 => ?_))
    · have q1 := unl_le (ks.take i)
      have q2 : (ks.take i).length = i := by rw [List.length_take]; omega
      omega
    · have g2 : Grown b h' := grown_beside g' new sb
      have e2 : unl (ks.take (i + 1)) = stepU (unl (ks.take i)) k := by
        rw [List.take_succ, ek, ← unl_snoc]; rfl
      rw [← e2] at x2
      have beside : ∀ c o, c ≠ S → z.heap.get? c = some o → h'.get? c = some o := fun c o ne e => (sb.2 c ne).trans e
      refine wpAny_pure ⟨plainId_quiet PyProof.Rows.F.plain_set_update_loop _, ih (i + 1) _ (by omega) lt (W.frame _ z _ _ st' le fun c hc o e => beside c o (fun y => out (y ▸ hc)) e) g2 x2 fun y mv' x3 g3 => ?_⟩
      exact r y (Moved.trans W.gtrans ((mv.mono more).then_heap le fun c o hc e => beside c o (fun q => hc (by rw [q]; exact List.mem_cons_self)) e) mv') x3 g3

set_option maxHeartbeats 3200000 in
/-- set(xs) of a list -/
theorem call_set_of (T : SetWay P w κ) {l : Addr} {items : Array Value} (ks : List κ) {Q : Value → Shared → Prop} (hh : A.handled = none) (hl : s.heap.IsList l items) (len : items.size = ks.length) (few : ks.length < 64)
    (val : ∀ (i : Nat) (v : Value), items[i]? = some v → ∃ k, ks[i]? = some k ∧ T.key s.heap k v) (u : A.units + 12 < cLine)
    (h : ∀ (h' : Heap) (tk : Nat), T.has s.heap h' s.heap.objs.size (unl ks) → Grown s.heap h' → Q (.ref s.heap.objs.size) { s with heap := h', toks := tk }) :
    wpAny (model P w) A (call (.type "set") [.ref l]) Q E s := by
  obtain ⟨c0, tl, mro⟩ := PySem.F.called_set.mro
  have made := PySem.F.called_set.made
  have sub := PySem.F.called_set.sub
  refine wpAny_call (codeAny_of_tree ?_)
  show wpAny _ _ (callAny (.type "set") _) _ _ _
  refine wpAny_pure ⟨Code.quiet_builtin _ (by decide +kernel), codeAny_builtin PySem.F.entry_type_call ?_⟩
  rw [Around.under_plain (weight_type_call_type "set" [.ref l] []) rfl]
  have h1 := PySem.F.called_set.notType
  have h2 := PySem.F.called_set.canCreate
  have h3 := PySem.F.typeCall_set_1 (.ref l)
  generalize hN : (some ({ cls := .type "set", dict := none, data := .set #[] 0 (.fresh 0 0 (!w.params.followText "set-order")) } : Obj)) = nob
  repeat (any_goals (first | assumption | wp_step))
  refine codeAny_mono (code_set_led1 (.ref l) (E := E) (Q₁ := fun ob z => ob = .ref s.heap.objs.size ∧ z = { s with heap := s.heap.push { cls := .type "set", dict := none, data := .set #[] 0 (.fresh 0 0 (!w.params.followText "set-order")) } }) ⟨rfl, rfl⟩) fun r0 s1 hr => ?_
  cases r0 with
  | error e => exact hr
  | ok fl =>
    cases fl with
    | ret ob =>
      obtain ⟨rfl, rfl⟩ := hr
      have hS : (s.heap.push { cls := .type "set", dict := none, data := .set #[] 0 (.fresh 0 0 (!w.params.followText "set-order")) }).get? s.heap.objs.size = nob := by rw [← hN]; exact Heap.get?_push_size _ rfl
      have hT : Shared.TypeIs { s with heap := s.heap.push { cls := .type "set", dict := none, data := .set #[] 0 (.fresh 0 0 (!w.params.followText "set-order")) } } (.ref s.heap.objs.size) "set" := ⟨_, hS.trans hN.symm, rfl⟩
      have li := PySem.F.called_set.init.lookup
      have bi := PySem.F.called_set.init.bind (.ref s.heap.objs.size)
      repeat (any_goals (first | assumption | wp_step))
      refine codeAny_mono (codeAny_call_builtin (R := wants (fun r z => r = .none ∧ ∃ h' tk, z = { s with heap := h', toks := tk } ∧ T.has s.heap h' s.heap.objs.size (unl ks) ∧ Grown s.heap h') E)
        PySem.F.called_set.init.plain PySem.F.entry_set_init (check_set_init_1 hT ?_)) fun r2 s2 hr2 => ?_
      · obtain ⟨ol, g1, g2, nl, g3⟩ := hl
        obtain ⟨oc, od, odt, osl⟩ := ol
        simp only at g2 g3
        subst g2; subst g3
        have g4 : (s.heap.push { cls := .type "set", dict := none, data := .set #[] 0 (.fresh 0 0 (!w.params.followText "set-order")) }).get? l = some { cls := .type "list", dict := od, data := .seq items nl, slots := osl } := Heap.get?_push_of_some _ g1
        have sl1 := PySem.F.sub_list_set
        have sl2 := PySem.F.sub_list_frozenset
        have nd : (Value.type "list" == Value.type "dict") = false := by decide
        have l1 : (s.heap.push { cls := .type "set", dict := none, data := .set #[] 0 (.fresh 0 0 (!w.params.followText "set-order")) }).IsList l items := ⟨_, g4, rfl, nl, rfl⟩
        rw [← hN] at hS
        unfold Builtin.«set.__init__» noKeywords Builtin.Frozenset.updateFrom
        generalize hPI : pyIter = PI
        wp_walk
        subst hPI
        refine wpAny_pyIter_list l1 ?_
        refine wpAny_bind (wpAny_runValue ?_)
        have lS : l < s.heap.objs.size := Heap.lt_size g1
        have hh3 : A.in1.in1.in1.handled = none := by simp [hh]
        have neI : l ≠ (s.heap.push { cls := .type "set", dict := none, data := .set #[] 0 (.fresh 0 0 (!w.params.followText "set-order")) }).objs.size := by
          rw [Heap.size_push]; exact Nat.ne_of_lt (Nat.lt_succ_of_lt lS)
        have outS : s.heap.objs.size ∉ [(s.heap.push { cls := .type "set", dict := none, data := .set #[] 0 (.fresh 0 0 (!w.params.followText "set-order")) }).objs.size, l] := by
          rw [Heap.size_push]; simp only [List.mem_cons, List.mem_singleton, List.not_mem_nil, or_false, not_or]
          exact ⟨Nat.ne_of_lt (Nat.lt_succ_self _), Nat.ne_of_gt lS⟩
        have gone : ∀ c, s.heap.objs.size ≤ c → s.heap.get? c = none := fun c hc => by
          cases q : s.heap.get? c with
          | none => rfl
          | some o => exact absurd (Nat.lt_of_lt_of_le (Heap.lt_size q) hc) (Nat.lt_irrefl _)
        refine turns T ((Walks.list hh3 _ l neI items).toS) s.heap.objs.size outS ks len few s.heap val (gone _ (Nat.le_refl _))
          (fun c hc => gone c (by rw [List.mem_singleton.mp hc, Heap.size_push]; exact Nat.le_succ _)) (by simp only [Around.in1_units] at u ⊢; omega) (items.size - 0) 0 _ (by omega) (Nat.zero_le _)
          ⟨⟨_, Heap.get?_push_size _ rfl, rfl, rfl⟩, (l1.push _)⟩ (fun c o e => Heap.get?_push_of_some _ (Heap.get?_push_of_some _ e)) (T.born (Heap.get?_push_of_some _ hS)) ?_
        intro z mv x g
        obtain ⟨h', gn, d', tk', os'⟩ := z
        have e1 : gn = s.gens := mv.gens
        have e2 : d' = s.drawn := mv.drawn
        have e3 : os' = s.os := mv.os
        subst e1; subst e2; subst e3
        show wpAny _ _ _ _ _ _
        refine wpAny_pure ?_
        show wpAny _ _ (ret Value.none) _ _ _
        exact wpAny_pure ⟨rfl, h', tk', rfl, x, g⟩
      · cases r2 with
        | error e => exact hr2
        | ok fl2 =>
          cases fl2 with
          | ret r =>
            obtain ⟨rfl, h', tk, rfl, x, g⟩ := hr2
            repeat (any_goals (first | assumption | wp_step))
            exact h _ _ x g
          | _ => exact hr2.elim
    | _ => exact hr.elim
end
end PL
/-! QLa: len(set(xs)): how many unlike ones are in xs (whole numbers, texts, or tuples of these). -/
namespace PL
open PySem PySem.Spec L2 PyProof.Rows
mutual
def keyP : PyData → Option NK
  | .int i => some (.num i)
  | .str x => some (.text x)
  | .tuple ps => (match keysP ps with | some ks => some (.tup ks) | none => none)
  | _ => none
def keysP : List PyData → Option (List NK)
  | [] => some []
  | p :: ps => (match keyP p, keysP ps with | some k, some ks => some (k :: ks) | _, _ => none)
end
def intsP : List PyData → Option (List Int)
  | [] => some []
  | .int i :: ps => (match intsP ps with | some is => some (i :: is) | none => none)
  | _ :: _ => none
def strsP : List PyData → Option (List Str)
  | [] => some []
  | .str x :: ps => (match strsP ps with | some xs => some (x :: xs) | none => none)
  | _ :: _ => none
def tupsP : List PyData → Option (List NK)
  | [] => some []
  | .tuple qs :: ps => (match keysP qs, tupsP ps with | some q, some ks => if (NestedKey.tup q).depth ≤ 8 then some (.tup q :: ks) else none | _, _ => none)
  | _ :: _ => none
/-- how many unlike ones -/
def unlN (ps : List PyData) : Option Nat := match intsP ps with
  | some is => some (unl is).length
  | none => (match strsP ps with
    | some xs => some (unl xs).length
    | none => (match tupsP ps with
      | some ks => some (unl ks).length
      | none => none))
def lenSetD : D → Res D
  | .lst ds => (match pyL ds with
    | some ps => if ps.length < 64 then (match unlN ps with
      | some n => .ok (.int (n : Nat))
      | none => .bad) else .bad
    | none => .bad)
  | _ => .bad
theorem lenSetD_q : ∀ x c d, lenSetD x ≠ .exc c d := fun x c d e => by
  unfold lenSetD at e
  split at e
  · split at e
    · split at e
      · split at e <;> cases e
      · cases e
    · cases e
  · cases e
section
variable {h : Heap}
mutual
theorem key_of : ∀ {p : PyData} {v : Value} {as : List Addr} {k : NK}, Reads h v p as → keyP p = some k → NestedIs h k v
  | .int i, _, _, _, r, e => by cases r; rw [keyP] at e; cases e; exact .int _ _
  | .str x, _, _, _, r, e => by cases r; rw [keyP] at e; cases e; exact .text _ _
  | .tuple ps, _, _, _, r, e => by
    rw [keyP] at e
    split at e
    · rename_i ks ek
      cases e
      cases r with
      | tuple g1 g2 g3 g4 => exact .tup g1 g2 g3 (keys_of g4 ek)
    · cases e
  | .none, _, _, _, _, e => by rw [keyP] at e; all_goals first | cases e | (intros; nofun)
  | .bool _, _, _, _, _, e => by rw [keyP] at e; all_goals first | cases e | (intros; nofun)
  | .list _, _, _, _, _, e => by rw [keyP] at e; all_goals first | cases e | (intros; nofun)
  | .dict _, _, _, _, _, e => by rw [keyP] at e; all_goals first | cases e | (intros; nofun)
theorem keys_of : ∀ {ps : List PyData} {vs : List Value} {as : List Addr} {ks : List NK}, ReadsAll h vs ps as → keysP ps = some ks → NestedAll h ks vs
  | [], _, _, _, r, e => by cases r; rw [keysP] at e; cases e; exact .nil
  | p :: ps, _, _, _, r, e => by
    rw [keysP] at e
    split at e
    · rename_i k ks e1 e2
      cases e
      cases r with
      | cons g1 g2 => exact .cons (key_of g1 e1) (keys_of g2 e2)
    · cases e
end
theorem ints_at {P : Program} {w : World} : ∀ {ps : List PyData} {vs : List Value} {as : List Addr} {is : List Int}, ReadsAll h vs ps as → intsP ps = some is → is.length = ps.length ∧ ∀ (i : Nat) (v : Value), vs[i]? = some v → ∃ k, is[i]? = some k ∧ (takesS (PySem.intKind P w)).key h k v
  | [], _, _, _, r, e => by cases r; rw [intsP] at e; cases e; exact ⟨rfl, fun i v z => by simp at z⟩
  | p :: ps, _, _, _, r, e => by
    cases r with
    | cons g1 g2 =>
      cases p <;> simp only [intsP] at e <;> try (cases e; done)
      split at e
      · rename_i is ei
        cases e
        obtain ⟨l, f⟩ := ints_at (P := P) (w := w) g2 ei
        refine ⟨by rw [List.length_cons, List.length_cons, l], fun i v z => ?_⟩
        cases i with
        | zero =>
          simp at z; subst z
          cases g1
          exact ⟨_, rfl, by simp [takesS, PySem.intKind, Value.isInt], rfl⟩
        | succ i => exact f i v (by simpa using z)
      · cases e
theorem strs_at {P : Program} {w : World} : ∀ {ps : List PyData} {vs : List Value} {as : List Addr} {is : List Str}, ReadsAll h vs ps as → strsP ps = some is → is.length = ps.length ∧ ∀ (i : Nat) (v : Value), vs[i]? = some v → ∃ k, is[i]? = some k ∧ (takesS (PySem.strKind P w)).key h k v
  | [], _, _, _, r, e => by cases r; rw [strsP] at e; cases e; exact ⟨rfl, fun i v z => by simp at z⟩
  | p :: ps, _, _, _, r, e => by
    cases r with
    | cons g1 g2 =>
      cases p <;> simp only [strsP] at e <;> try (cases e; done)
      split at e
      · rename_i is ei
        cases e
        obtain ⟨l, f⟩ := strs_at (P := P) (w := w) g2 ei
        refine ⟨by rw [List.length_cons, List.length_cons, l], fun i v z => ?_⟩
        cases i with
        | zero =>
          simp at z; subst z
          cases g1
          exact ⟨_, rfl, by simp [takesS, PySem.strKind, Value.isStrOf], rfl⟩
        | succ i => exact f i v (by simpa using z)
      · cases e
theorem tups_at {P : Program} {w : World} : ∀ {ps : List PyData} {vs : List Value} {as : List Addr} {is : List NK}, ReadsAll h vs ps as → tupsP ps = some is → is.length = ps.length ∧ ∀ (i : Nat) (v : Value), vs[i]? = some v → ∃ k, is[i]? = some k ∧ (takesT P w).key h k v
  | [], _, _, _, r, e => by cases r; rw [tupsP] at e; cases e; exact ⟨rfl, fun i v z => by simp at z⟩
  | p :: ps, _, _, _, r, e => by
    cases r with
    | cons g1 g2 =>
      cases p <;> simp only [tupsP] at e <;> try (cases e; done)
      split at e
      · rename_i q ks e1 e2
        split at e
        · rename_i dp
          cases e
          obtain ⟨l, f⟩ := tups_at (P := P) (w := w) g2 e2
          refine ⟨by rw [List.length_cons, List.length_cons, l], fun i v z => ?_⟩
          cases i with
          | zero =>
            simp at z; subst z
            cases g1 with
            | tuple a1 a2 a3 a4 => exact ⟨_, rfl, _, rfl, .tup a1 a2 a3 (keys_of a4 e1), dp⟩
          | succ i => exact f i v (by simpa using z)
        · cases e
      · cases e
end
section
variable {X : Cx} {g : G} {W : WX} {m : Nat} {a : Expr} {fa : Env → Res D} {p p2 q pos : Pos}
theorem xLenSet (C : Ct X g W m) (hg : Gl X "len") (hm : X.mg "len" = none) (hg2 : Gl X "set") (hm2 : X.mg "set" = none) (ha : PE X a (tB g W fa)) (hs : starEach [a] X.env = [(false, eval a X.env)]) :
    PE X (.Call (.Name "len" p) [.Call (.Name "set" p2) [a] [] q] [] pos) (tV g W (s1 lenSetD fa)) := by
  have na : starEach [a] X.env = (false, eval a X.env) :: starEach [] X.env := by rw [hs]; rfl
  refine ⟨fun pins s σ H Q I ⟨F, ρ, r, z⟩ => ?_⟩
  refine Call_ (ld_blt I hg hm boot_len ?_)
  refine callWith_builtin1 (args_cons ?_ rfl) rfl rfl
  refine Call_ (ld_blt I hg2 hm2 boot_set ?_)
  refine callWith_type1 (args_cons (thn (ha.run pins s σ H (fun x H1 => ∃ F1 dx, fa ρ = .ok dx ∧ Ext g F H F1 H1 ∧ RepB g F1 H1 x dx) I ⟨F, ρ, r, out_imp (out_bind z) (fun dx hd _ x F1 H1 x1 px => ⟨F1, dx, hd, x1, px⟩) fun _ _ _ y => y⟩) fun v s1 ⟨x, H1, I1, rx, F1, dx, hd, x1, px⟩ => args_nil ?_) na) na rfl
  have z := out_bind z
  rw [hd] at z
  have z : out (lenSetD dx) _ _ := z
  cases dx with
  | lst ds =>
    obtain ⟨l, xs, rfl, h1, t1⟩ := px
    obtain rfl : v = .ref l := rx
    simp only [lenSetD] at z
    split at z
    case h_2 => exact z.elim
    rename_i ps ep
    split at z
    case isFalse => exact z.elim
    rename_i few
    split at z
    case h_2 => exact z.elim
    rename_i n en
    have fin := z (.int (n : Nat)) F1 H1 x1 (.int _)
    have dp : Dp X.K H1 (.ref l) (.list ps) := by rw [C.K]; exact .lst (.of h1) (t1.dp x1.fh ep)
    obtain ⟨as, rd⟩ := Dp.reads I1 (.list ps) (.ref l) (.ref l) dp rfl
    cases rd with
    | @list _ o vs nn _ bs g1 g2 g3 g4 =>
      have isl : s1.heap.IsList l vs := ⟨o, g1, g2, nn, g3⟩
      have vlen : vs.size = ps.length := by
        have len : ∀ {vs : List Value} {ps : List PyData} {as : List Addr}, ReadsAll s1.heap vs ps as → vs.length = ps.length := by
          intro vs ps
          induction vs generalizing ps with
          | nil => intro as r; cases r; rfl
          | cons v vs ih => intro as r; cases r with | cons q1 q2 => exact congrArg Nat.succ (ih q2)
        rw [← Array.length_toList]; exact len g4
      have room : X.A.units + 12 < cLine := by have := C.u; omega
      have go : ∀ {κ : Type} [DecidableEq κ] (T : SetWay X.prog X.w κ) (ks : List κ), ks.length = ps.length → (∀ (i : Nat) (v : Value), vs.toList[i]? = some v → ∃ k, ks[i]? = some k ∧ T.key s1.heap k v) → n = (unl ks).length →
          wpAny (model X.prog X.w) X.A (call (.type "set") [.ref l]) (fun v s' => wpAny (model X.prog X.w) X.A (call (.builtin "len") [v]) (EP X pins σ Q) X.xe s') X.xe s1 := by
        intro κ _ T ks lk al ek
        refine call_set_of T ks (I1.ok.hd C.calm) isl (by rw [vlen, lk]) (by rw [lk]; exact few) (fun i v e => al i v (by rw [Array.getElem?_toList]; exact e)) room fun h' tk x g => ?_
        obtain ⟨o', es, ep', t, ho, hx, hd', hf, hn⟩ := T.size x
        have I2 : Inv X pins σ H1 { s1 with heap := h', toks := tk } := I1.kept fun b o e => g b o e
        have nb := unl_le ks
        exact call_len_set ho hx hd' hf (by rw [hn]; omega) ⟨.int (n : Nat), H1, I2.tok _, ⟨_, by rw [hn, ek]⟩, fin⟩
      have all : wpAny (model X.prog X.w) X.A (call (.type "set") [.ref l]) (fun v s' => wpAny (model X.prog X.w) X.A (call (.builtin "len") [v]) (EP X pins σ Q) X.xe s') X.xe s1 := by
        unfold unlN at en
        split at en
        · rename_i is ei
          cases en
          obtain ⟨q1, q2⟩ := ints_at (P := X.prog) (w := X.w) g4 ei
          exact go _ is q1 q2 rfl
        · split at en
          · rename_i is ei
            cases en
            obtain ⟨q1, q2⟩ := strs_at (P := X.prog) (w := X.w) g4 ei
            exact go _ is q1 q2 rfl
          · split at en
            · rename_i is ei
              cases en
              obtain ⟨q1, q2⟩ := tups_at (P := X.prog) (w := X.w) g4 ei
              exact go _ is q1 q2 rfl
            · cases en
      exact wpAny_mono all (fun v s' hv => args_nil hv) fun _ _ y => y
  | _ => exact z.elim
end
end PL
namespace PL
open PySem PySem.Spec L2
/-! ST: steps of readings, lists of numbers, weights: what hangs on no def of a law -/
theorem eqB_int (a b : Int) : eqB (.int a) (.int b) = some (decide (a = b)) := by
  show some (PyData.eqv (.int a) (.int b)) = _
  simp [PyData.eqv, Bool.beq_eq_decide_eq]
theorem eqD_int (n : Bool) (a b : Int) : eqD n (.int a) (.int b) = .ok (.bl (if n = true then !(decide (a = b)) else decide (a = b))) := by
  unfold eqD
  rw [eqB_int]
theorem eqD_bl (n a b : Bool) : eqD n (.bl a) (.bl b) = .ok (.bl (if n = true then !(a == b) else (a == b))) := by cases n <;> cases a <;> cases b <;> rfl
inductive Wt where
  | n (a : Int) | p (a b : Int)
def Wt.d : Wt → D
  | .n a => .int a
  | .p a b => .tup [.int a, .int b]
def Wt.num : Wt → Int
  | .n a => a
  | .p a _ => a
def Wt.den : Wt → Int
  | .n _ => 1
  | .p _ b => b
structure Wt.Ok (w : Wt) : Prop where
  lo : 0 ≤ w.num
  hi : w.num ≤ 10 ^ 13
  d1 : 1 ≤ w.den
  d2 : w.den ≤ 40
  g : Int.gcd w.num w.den = 1
  n : ∀ a, w = .n a → a ≤ 10 ^ 12
theorem r_ix0 (a b : D) : ixD (.tup [a, b]) (.int 0) = .ok a := rfl
theorem r_ix1 (a b : D) : ixD (.tup [a, b]) (.int 1) = .ok b := rfl
def divB : Env → SO := (sSeq (sIf (tD (s2 (Cm.h .eq) (eBor 1) (s0 (.int 0)))) sBk sNx)
  (sSeq (sSet 3 (s2 modD (sN intD (aC (eBor 0) aN)) (eBor 1)))
  (sSeq (sSet 0 (eVar 1))
  (sSet 1 (eVar 3)))))
theorem div_loop : ∀ (ds : List D) (m n : Nat) (t u : Slot), n < ds.length → ∃ x y, forL (.nm 2) divB ds [.val (.int m), .val (.int n), t, u] = .nx [.val (.int (Nat.gcd m n : Nat)), .val (.int 0), x, y]
  | [], _, _, _, _, h => absurd h (by simp)
  | d :: ds, m, n, t, u, h => by
    unfold forL
    by_cases hn : n = 0
    · subst hn
      have eb : divB [.val (.int m), .val (.int 0), .val d, u] = .bk [.val (.int m), .val (.int 0), .val d, u] := by simp [fnD, startE, sSeq, sSet, sE, sT, sIf, sRet, sOwn, sFrz, frz, sDrop, sRaise, sNx, s0, s1, s2, sN, aN, aC, sAnd, sOr, sNot, sIte, tD, tNt, tAn, tOr, eVar, eBor, truth, sIs, isiD, tyN, below, clsOk, Cm.h, ordD, addD, subD, mulD, fdivD, modD, negD, mkTup, mkLst, lenOk, asInt, oN, oS, sSl, iSeq, itemsD, intD, absD, Or4.ints, eqD_int, eqD_bl, chainD, divB, sBk]
      exact ⟨.val d, u, by simp [fnD, startE, sSeq, sSet, sE, sT, sIf, sRet, sOwn, sFrz, frz, sDrop, sRaise, sNx, s0, s1, s2, sN, aN, aC, sAnd, sOr, sNot, sIte, tD, tNt, tAn, tOr, eVar, eBor, truth, sIs, isiD, tyN, below, clsOk, Cm.h, ordD, addD, subD, mulD, fdivD, modD, negD, mkTup, mkLst, lenOk, asInt, oN, oS, sSl, iSeq, itemsD, intD, absD, Or4.ints, eqD_int, eqD_bl, chainD, sBind, bindT, eb]⟩
    · have h1 : m % n < ds.length := by
        have := Nat.mod_lt m (Nat.pos_of_ne_zero hn)
        simp at h; omega
      obtain ⟨x, y, e⟩ := div_loop ds n (m % n) (.val d) (.val (.int (m % n : Nat))) h1
      refine ⟨x, y, ?_⟩
      have g : Nat.gcd n (m % n) = Nat.gcd m n := by rw [Nat.gcd_comm m n, Nat.gcd_rec n m, Nat.gcd_comm]
      rw [g] at e
      have hp : 0 < n := Nat.pos_of_ne_zero hn
      have eb : divB [.val (.int m), .val (.int n), .val d, u] = .nx [.val (.int n), .val (.int (m % n : Nat)), .val d, .val (.int (m % n : Nat))] := by simp [fnD, startE, sSeq, sSet, sE, sT, sIf, sRet, sOwn, sFrz, frz, sDrop, sRaise, sNx, s0, s1, s2, sN, aN, aC, sAnd, sOr, sNot, sIte, tD, tNt, tAn, tOr, eVar, eBor, truth, sIs, isiD, tyN, below, clsOk, Cm.h, ordD, addD, subD, mulD, fdivD, modD, negD, mkTup, mkLst, lenOk, asInt, oN, oS, sSl, iSeq, itemsD, intD, absD, Or4.ints, eqD_int, eqD_bl, chainD, divB, hn, hp]
      rw [← e]
      simp [fnD, startE, sSeq, sSet, sE, sT, sIf, sRet, sOwn, sFrz, frz, sDrop, sRaise, sNx, s0, s1, s2, sN, aN, aC, sAnd, sOr, sNot, sIte, tD, tNt, tAn, tOr, eVar, eBor, truth, sIs, isiD, tyN, below, clsOk, Cm.h, ordD, addD, subD, mulD, fdivD, modD, negD, mkTup, mkLst, lenOk, asInt, oN, oS, sSl, iSeq, itemsD, intD, absD, Or4.ints, eqD_int, eqD_bl, chainD, sBind, bindT, eb]
theorem rg_len (a b : Int) : (rgD a b).length = (b - a).toNat := by unfold rgD; simp
theorem comp_map {α : Type} {T : Tg} {fc : Env → Res Bool} {fe : Env → Res D} {ρ : Env} {i o : α → D} : ∀ (xs : List α), (∀ x ∈ xs, ∃ ρ', bindT T (i x) ρ = .ok ρ' ∧ fc ρ' = .ok true ∧ fe ρ' = .ok (o x)) → compL T fc fe ρ (xs.map i) = .ok (xs.map o)
  | [], _ => rfl
  | x :: xs, h => by
    obtain ⟨ρ', h1, h2, h3⟩ := h x (by simp)
    have ih := comp_map xs fun y hy => h y (List.mem_cons_of_mem _ hy)
    rw [List.map_cons, compL]
    simp [fnD, startE, sSeq, sSet, sE, sT, sIf, sRet, sOwn, sFrz, frz, sDrop, sRaise, sNx, s0, s1, s2, sN, aN, aC, sAnd, sOr, sNot, sIte, tD, tNt, tAn, tOr, eVar, eBor, truth, sIs, isiD, tyN, below, clsOk, Cm.h, ordD, addD, subD, mulD, fdivD, modD, negD, mkTup, mkLst, lenOk, asInt, oN, oS, sSl, iSeq, itemsD, intD, absD, Or4.ints, eqD_int, eqD_bl, chainD, h1, h2, h3, ih]
theorem lc_map {α : Type} {T : Tg} {fc : Env → Res Bool} {fe : Env → Res D} {ρ : Env} {i o : α → D} {fi : Env → Res (List D)} {vs : List Nat} (xs : List α) (hi : fi ρ = .ok (xs.map i)) (hl : xs.length ≤ 16777216)
    (h : ∀ x ∈ xs, ∃ ρ', bindT T (i x) (wipeE ρ vs) = .ok ρ' ∧ fc ρ' = .ok true ∧ fe ρ' = .ok (o x)) : lcD fi vs T fc fe ρ = .ok (.lst (xs.map o)) := by
  unfold lcD
  rw [hi]
  simp [fnD, startE, sSeq, sSet, sE, sT, sIf, sRet, sOwn, sFrz, frz, sDrop, sRaise, sNx, s0, s1, s2, sN, aN, aC, sAnd, sOr, sNot, sIte, tD, tNt, tAn, tOr, eVar, eBor, truth, sIs, isiD, tyN, below, clsOk, Cm.h, ordD, addD, subD, mulD, fdivD, modD, negD, mkTup, mkLst, lenOk, asInt, oN, oS, sSl, iSeq, itemsD, intD, absD, Or4.ints, eqD_int, eqD_bl, chainD, comp_map xs h, hl, noExc]
theorem for_fold {α σ : Type} {T : Tg} {body : Env → SO} {i : α → D} {step : σ → α → σ} {P : σ → Env → Prop} : ∀ (xs : List α) (s : σ) (ρ : Env), (∀ s x ρ, x ∈ xs → P s ρ → ∃ ρ1 ρ2, bindT T (i x) ρ = .ok ρ1 ∧ body ρ1 = .nx ρ2 ∧ P (step s x) ρ2) → P s ρ →
    ∃ ρ', forL T body (xs.map i) ρ = .nx ρ' ∧ P (xs.foldl step s) ρ'
  | [], s, ρ, _, p => ⟨ρ, rfl, p⟩
  | x :: xs, s, ρ, h, p => by
    obtain ⟨ρ1, ρ2, h1, h2, h3⟩ := h s x ρ (by simp) p
    obtain ⟨ρ', e, p'⟩ := for_fold xs (step s x) ρ2 (fun s y ρ hy => h s y ρ (List.mem_cons_of_mem _ hy)) h3
    refine ⟨ρ', ?_, p'⟩
    rw [List.map_cons, forL]
    simp [fnD, startE, sSeq, sSet, sE, sT, sIf, sRet, sOwn, sFrz, frz, sDrop, sRaise, sNx, s0, s1, s2, sN, aN, aC, sAnd, sOr, sNot, sIte, tD, tNt, tAn, tOr, eVar, eBor, truth, sIs, isiD, tyN, below, clsOk, Cm.h, ordD, addD, subD, mulD, fdivD, modD, negD, mkTup, mkLst, lenOk, asInt, oN, oS, sSl, iSeq, itemsD, intD, absD, Or4.ints, eqD_int, eqD_bl, chainD, sBind, h1, h2, e]
abbrev LL : Nat := 5342931457063200
theorem dvd_LL : ∀ d : Nat, 1 ≤ d → d ≤ 40 → d ∣ LL := by
  have h : ∀ d ∈ List.range 41, d = 0 ∨ LL % d = 0 := by decide +kernel
  intro d h1 h2
  rcases h d (List.mem_range.mpr (by omega)) with z | z
  · omega
  · exact Nat.dvd_of_mod_eq_zero z
def nden (w : Wt) : Nat := w.den.natAbs
def com (ws : List Wt) : Nat := ws.foldl (fun c w => Nat.lcm c (nden w)) 1
def wholes (ws : List Wt) : List Int := ws.map fun w => w.num * ((com ws : Int) / w.den)
theorem Wt.Ok.nd {w : Wt} (o : w.Ok) : (nden w : Int) = w.den := by
  have := o.d1
  unfold nden; omega
theorem Wt.Ok.nd1 {w : Wt} (o : w.Ok) : 1 ≤ nden w := by have := o.d1; unfold nden; omega
theorem Wt.Ok.nd2 {w : Wt} (o : w.Ok) : nden w ≤ 40 := by have := o.d2; have := o.d1; unfold nden; omega
theorem com_dvd : ∀ (ws : List Wt) (c : Nat), (∀ w ∈ ws, w.Ok) → c ∣ LL → ws.foldl (fun c w => Nat.lcm c (nden w)) c ∣ LL
  | [], _, _, h => h
  | w :: ws, c, o, h => com_dvd ws _ (fun x hx => o x (List.mem_cons_of_mem _ hx)) (Nat.lcm_dvd h (dvd_LL _ (o w (by simp)).nd1 (o w (by simp)).nd2))
theorem com_of : ∀ (ws : List Wt) (c : Nat), c ∣ ws.foldl (fun c w => Nat.lcm c (nden w)) c ∧ ∀ w ∈ ws, nden w ∣ ws.foldl (fun c w => Nat.lcm c (nden w)) c
  | [], c => ⟨Nat.dvd_refl c, by simp⟩
  | w :: ws, c => by
    obtain ⟨h1, h2⟩ := com_of ws (Nat.lcm c (nden w))
    refine ⟨Nat.dvd_trans (Nat.dvd_lcm_left _ _) h1, fun x hx => ?_⟩
    rcases List.mem_cons.mp hx with z | z
    · rw [z]; exact Nat.dvd_trans (Nat.dvd_lcm_right _ _) h1
    · exact h2 x z
theorem pos_of_dvd {c : Nat} (h : c ∣ LL) : 0 < c ∧ c ≤ LL := ⟨Nat.pos_of_dvd_of_pos h (by decide), Nat.le_of_dvd (by decide) h⟩
def pairD (w : Wt) : D := .tup [.int w.num, .int w.den]
def gets (a : Int) (ws : List Int) : List Int := ws.map fun w => a * w / ws.sum
def cuts (a : Int) (ws : List Int) : List Int := ws.map fun w => a * w % ws.sum
def left (a : Int) (ws : List Int) : Int := a - (gets a ws).sum
def ordC (cut : List Int) (x y : Nat) : Bool := decide (-(cut.getD x 0) < -(cut.getD y 0) ∨ (-(cut.getD x 0) = -(cut.getD y 0) ∧ (x : Int) ≤ (y : Int)))
def places (cut : List Int) : List Nat := (List.range cut.length).mergeSort (ordC cut)
def bump (g : List Int) (k : Nat) : List Int := g.set k (g.getD k 0 + 1)
def part (a : Int) (ws : List Int) : List Int := ((places (cuts a ws)).take (left a ws).toNat).foldl bump (gets a ws)
theorem places_len (cut : List Int) : (places cut).length = cut.length := by unfold places; rw [List.length_mergeSort, List.length_range]
theorem places_lt {cut : List Int} {k : Nat} (h : k ∈ places cut) : k < cut.length := by
  unfold places at h
  exact List.mem_range.mp ((List.mergeSort_perm _ _).mem_iff.mp h)
theorem bump_len (g : List Int) (k : Nat) : (bump g k).length = g.length := by unfold bump; simp
theorem sum_set : ∀ (g : List Int) (k : Nat), k < g.length → (g.set k (g.getD k 0 + 1)).sum = g.sum + 1
  | [], _, h => absurd h (by simp)
  | x :: g, 0, _ => by simp; omega
  | x :: g, k + 1, h => by
    have ih := sum_set g k (by simpa using h)
    simp only [List.set_cons_succ, List.sum_cons, List.getD_cons_succ, ih]
    omega
theorem bumps_sum : ∀ (l : List Nat) (g : List Int), (∀ k ∈ l, k < g.length) → (l.foldl bump g).sum = g.sum + l.length ∧ (l.foldl bump g).length = g.length
  | [], g, _ => by simp
  | k :: l, g, h => by
    have hk := h k (by simp)
    obtain ⟨h1, h2⟩ := bumps_sum l (bump g k) fun x hx => by rw [bump_len]; exact h x (List.mem_cons_of_mem _ hx)
    refine ⟨?_, by rw [List.foldl_cons, h2, bump_len]⟩
    rw [List.foldl_cons, h1]
    unfold bump
    rw [sum_set g k hk]
    simp only [List.length_cons]
    push_cast
    omega
theorem gets_bound (a T : Int) (hT : 0 < T) : ∀ l : List Int, T * (l.map fun w => a * w / T).sum ≤ a * l.sum ∧ a * l.sum ≤ T * (l.map fun w => a * w / T).sum + l.length * (T - 1)
  | [] => by simp
  | w :: l => by
    obtain ⟨h1, h2⟩ := gets_bound a T hT l
    have e := Int.mul_ediv_add_emod (a * w) T
    have r1 := Int.emod_nonneg (a * w) (by omega : T ≠ 0)
    have r2 := Int.emod_lt_of_pos (a * w) hT
    simp only [List.map_cons, List.sum_cons, List.length_cons]
    rw [Int.mul_add, Int.mul_add]
    push_cast
    rw [Int.add_mul]
    constructor <;> omega
theorem left_range {a : Int} {ws : List Int} (hT : 0 < ws.sum) : 0 ≤ left a ws ∧ left a ws ≤ ws.length := by
  obtain ⟨h1, h2⟩ := gets_bound a ws.sum hT ws
  unfold left gets
  generalize (ws.map fun w => a * w / ws.sum).sum = G at h1 h2 ⊢
  generalize ws.sum = T at h1 h2 hT ⊢
  have e1 : T * (a - G) = a * T - T * G := by rw [Int.mul_sub, Int.mul_comm T a]
  have n0 : (0 : Int) ≤ ws.length := by omega
  constructor
  · have : 0 ≤ T * (a - G) := by omega
    exact Int.nonneg_of_mul_nonneg_right this hT
  · have h3 : T * (a - G) ≤ ws.length * (T - 1) := by omega
    have h4 : (ws.length : Int) * (T - 1) ≤ T * ws.length := by
      rw [Int.mul_sub, Int.mul_comm T]; omega
    exact Int.le_of_mul_le_mul_left (Int.le_trans h3 h4) hT
theorem part_sum {a : Int} {ws : List Int} (hT : 0 < ws.sum) : (part a ws).sum = a := by
  obtain ⟨l1, l2⟩ := left_range (a := a) hT
  unfold part
  have hl : (cuts a ws).length = ws.length := by unfold cuts; simp
  have hg : (gets a ws).length = ws.length := by unfold gets; simp
  rw [(bumps_sum _ _ fun k hk => by rw [hg, ← hl]; exact places_lt (List.mem_of_mem_take hk)).1, List.length_take, places_len, hl]
  have : min (left a ws).toNat ws.length = (left a ws).toNat := by omega
  rw [this]
  unfold left at l1 ⊢
  omega
theorem sum_scale {c k : Int} : ∀ (ws vs : List Int), ws.length = vs.length → (∀ i, c * vs.getD i 0 = k * ws.getD i 0) → c * vs.sum = k * ws.sum
  | [], [], _, _ => by simp
  | [], _ :: _, h, _ => by simp at h
  | _ :: _, [], h, _ => by simp at h
  | w :: ws, v :: vs, h, e => by
    have e0 := e 0
    have ih := sum_scale ws vs (by simpa using h) fun i => by simpa using e (i + 1)
    simp only [List.getD_cons_zero] at e0
    rw [List.sum_cons, List.sum_cons, Int.mul_add, Int.mul_add, e0, ih]
theorem part_scale {a c k : Int} {ws vs : List Int} (hc : 0 < c) (hk : 0 < k) (hl : ws.length = vs.length) (e : ∀ i, c * vs.getD i 0 = k * ws.getD i 0) : part a vs = part a ws := by
  have eT := sum_scale ws vs hl e
  have g : ∀ i, a * vs.getD i 0 / vs.sum = a * ws.getD i 0 / ws.sum := fun i => by
    rw [← Int.mul_ediv_mul_of_pos (a * vs.getD i 0) vs.sum hc, ← Int.mul_ediv_mul_of_pos (a * ws.getD i 0) ws.sum hk, eT]
    congr 1
    rw [Int.mul_left_comm, e i, Int.mul_left_comm]
  have r : ∀ i, c * (a * vs.getD i 0 % vs.sum) = k * (a * ws.getD i 0 % ws.sum) := fun i => by
    rw [← Int.mul_emod_mul_of_pos _ _ hc, ← Int.mul_emod_mul_of_pos _ _ hk, eT]
    congr 1
    rw [Int.mul_left_comm, e i, Int.mul_left_comm]
  have mapEq : ∀ (f : Int → Int) (l : List Int) (i : Nat), i < l.length → (l.map f).getD i 0 = f (l.getD i 0) := fun f l i h => by
    simp [List.getD, List.getElem?_eq_getElem h]
  have eg : gets a vs = gets a ws := by
    unfold gets
    apply List.ext_getElem (by simp [hl])
    intro i h1 h2
    have z := g i
    have i1 : i < vs.length := by simpa using h1
    have i2 : i < ws.length := by simpa using h2
    simpa [List.getD, List.getElem?_eq_getElem i1, List.getElem?_eq_getElem i2] using z
  have el : left a vs = left a ws := by unfold left; rw [eg]
  have lc : (cuts a vs).length = (cuts a ws).length := by unfold cuts; simp [hl]
  have ec : ∀ i, c * (cuts a vs).getD i 0 = k * (cuts a ws).getD i 0 := fun i => by
    by_cases h : i < ws.length
    · unfold cuts
      rw [mapEq _ vs i (by omega), mapEq _ ws i h]
      exact r i
    · have h1 : (cuts a vs).getD i 0 = 0 := by
        unfold cuts; simp [List.getD, List.getElem?_eq_none (show vs.length ≤ i by omega)]
      have h2 : (cuts a ws).getD i 0 = 0 := by
        unfold cuts; simp [List.getD, List.getElem?_eq_none (show ws.length ≤ i by omega)]
      rw [h1, h2]; simp
  have ep : places (cuts a vs) = places (cuts a ws) := by
    unfold places
    rw [lc]
    congr 1
    funext x y
    unfold ordC
    have ex := ec x
    have ey := ec y
    generalize (cuts a vs).getD x 0 = p at ex ⊢
    generalize (cuts a vs).getD y 0 = q at ey ⊢
    generalize (cuts a ws).getD x 0 = p' at ex ⊢
    generalize (cuts a ws).getD y 0 = q' at ey ⊢
    have lt1 : (q < p) ↔ (q' < p') := by
      constructor
      · intro h
        have : c * q < c * p := Int.mul_lt_mul_of_pos_left h hc
        rw [ex, ey] at this
        exact Int.lt_of_mul_lt_mul_left this (Int.le_of_lt hk)
      · intro h
        have : k * q' < k * p' := Int.mul_lt_mul_of_pos_left h hk
        rw [← ex, ← ey] at this
        exact Int.lt_of_mul_lt_mul_left this (Int.le_of_lt hc)
    have eq1 : (p = q) ↔ (p' = q') := by
      constructor
      · intro h
        subst h
        exact Int.eq_of_mul_eq_mul_left (Int.ne_of_gt hk) (ex.symm.trans ey)
      · intro h
        subst h
        exact Int.eq_of_mul_eq_mul_left (Int.ne_of_gt hc) (ex.trans ey.symm)
    congr 1
    apply propext
    constructor <;> intro h <;> omega
  unfold part
  rw [ep, el, eg]
def keyT (cut : List Int) (k : Nat) : D := .tup [.int (-(cut.getD k 0)), .int (k : Int)]
def kyP (cut : List Int) (k : Nat) : PyData := .tuple [.int (-(cut.getD k 0)), .int (k : Int)]
theorem rg_nat (n : Nat) : rgD 0 n = (List.range n).map fun k => D.int (k : Nat) := by
  unfold rgD
  simp
theorem pyL_keys (cut : List Int) : ∀ l : List Nat, pyL (l.map (keyT cut)) = some (l.map (kyP cut))
  | [] => by rw [List.map_nil, List.map_nil, pyL]
  | k :: l => by
    rw [List.map_cons, pyL, pyL_keys cut l]
    simp [fnD, startE, sSeq, sSet, sE, sT, sIf, sRet, sOwn, sFrz, frz, sDrop, sRaise, sNx, s0, s1, s2, sN, aN, aC, sAnd, sOr, sNot, sIte, tD, tNt, tAn, tOr, eVar, eBor, truth, sIs, isiD, tyN, below, clsOk, Cm.h, ordD, addD, subD, mulD, fdivD, modD, negD, mkTup, mkLst, lenOk, asInt, oN, oS, sSl, itemsD, intD, absD, Or4.ints, eqD_int, eqD_bl, chainD, keyT, kyP, py, pyL]
theorem pyD_key (cut : List Int) (k : Nat) : pyD (keyT cut k) = kyP cut k := by
  unfold pyD keyT kyP
  simp [fnD, startE, sSeq, sSet, sE, sT, sIf, sRet, sOwn, sFrz, frz, sDrop, sRaise, sNx, s0, s1, s2, sN, aN, aC, sAnd, sOr, sNot, sIte, tD, tNt, tAn, tOr, eVar, eBor, truth, sIs, isiD, tyN, below, clsOk, Cm.h, ordD, addD, subD, mulD, fdivD, modD, negD, mkTup, mkLst, lenOk, asInt, oN, oS, sSl, itemsD, intD, absD, Or4.ints, eqD_int, eqD_bl, chainD, py, pyL]
theorem alike_ii (a b c d : Int) : PySem.W.alike (.tuple [.int a, .int b]) (.tuple [.int c, .int d]) = true := by simp [fnD, startE, sSeq, sSet, sE, sT, sIf, sRet, sOwn, sFrz, frz, sDrop, sRaise, sNx, s0, s1, s2, sN, aN, aC, sAnd, sOr, sNot, sIte, tD, tNt, tAn, tOr, eVar, eBor, truth, sIs, isiD, tyN, below, clsOk, Cm.h, ordD, addD, subD, mulD, fdivD, modD, negD, mkTup, mkLst, lenOk, asInt, oN, oS, sSl, itemsD, intD, absD, Or4.ints, eqD_int, eqD_bl, chainD, PySem.W.alike, PySem.W.alikeAll]
theorem depth_ii (a b : Int) : (PyData.tuple [.int a, .int b]).depth ≤ 64 := by simp [fnD, startE, sSeq, sSet, sE, sT, sIf, sRet, sOwn, sFrz, frz, sDrop, sRaise, sNx, s0, s1, s2, sN, aN, aC, sAnd, sOr, sNot, sIte, tD, tNt, tAn, tOr, eVar, eBor, truth, sIs, isiD, tyN, below, clsOk, Cm.h, ordD, addD, subD, mulD, fdivD, modD, negD, mkTup, mkLst, lenOk, asInt, oN, oS, sSl, itemsD, intD, absD, Or4.ints, eqD_int, eqD_bl, chainD, PyData.depth, PyData.depthAll]
theorem srtOk_keys (cut : List Int) (l : List Nat) : srtOk (l.map (kyP cut)) = true := by
  unfold srtOk
  rw [Bool.and_eq_true, Bool.and_eq_true, Bool.or_eq_true]
  refine ⟨List.all_eq_true.mpr fun p hp => List.all_eq_true.mpr fun q hq => ?_, .inl (List.all_eq_true.mpr fun p hp => ?_), List.all_eq_true.mpr fun p hp => ?_⟩
  · obtain ⟨x, _, rfl⟩ := List.mem_map.mp hp
    obtain ⟨y, _, rfl⟩ := List.mem_map.mp hq
    exact alike_ii _ _ _ _
  · obtain ⟨x, _, rfl⟩ := List.mem_map.mp hp
    rfl
  · obtain ⟨x, _, rfl⟩ := List.mem_map.mp hp
    exact decide_eq_true (depth_ii _ _)
theorem le_keys (cut : List Int) (x y : Nat) : ordC cut x y = PySem.W.dataLe false (fun d => d) (kyP cut x) (kyP cut y) := by
  show _ = (!PySem.W.dataLt (kyP cut y) (kyP cut x))
  unfold kyP ordC
  rw [PySem.W.dataLt_ii]
  by_cases h : -(cut.getD x 0) < -(cut.getD y 0) ∨ (-(cut.getD x 0) = -(cut.getD y 0) ∧ (x : Int) ≤ (y : Int))
  · rw [decide_eq_true h, decide_eq_false (by omega)]; rfl
  · rw [decide_eq_false h, decide_eq_true (by omega)]; rfl
theorem sorted_keys (cut : List Int) (hl : cut.length ≤ 16777216) : sortedD [.lst ((List.range cut.length).map (keyT cut))] = .ok (.lst ((places cut).map (keyT cut))) := by
  have h : ((List.range cut.length).map (keyT cut)).mergeSort leD = (places cut).map (keyT cut) := by
    unfold places
    refine (List.map_mergeSort fun x _ y _ => ?_).symm
    rw [le_keys]
    show _ = PySem.W.dataLe false pyD (keyT cut x) (keyT cut y)
    rw [PySem.W.dataLe_eq, PySem.W.dataLe_eq]
    simp only [pyD_key]
  unfold sortedD sortL
  simp [fnD, startE, sSeq, sSet, sE, sT, sIf, sRet, sOwn, sFrz, frz, sDrop, sRaise, sNx, s0, s1, s2, sN, aN, aC, sAnd, sOr, sNot, sIte, tD, tNt, tAn, tOr, eVar, eBor, truth, sIs, isiD, tyN, below, clsOk, Cm.h, ordD, addD, subD, mulD, fdivD, modD, negD, mkTup, mkLst, lenOk, asInt, oN, oS, sSl, itemsD, intD, absD, Or4.ints, eqD_int, eqD_bl, chainD, pyL_keys, srtOk_keys, h, lenOk, hl]
theorem ix_nat {l : List Int} {k : Nat} (h : k < l.length) : ixD (.lst (l.map D.int)) (.int (k : Int)) = .ok (.int (l.getD k 0)) := by
  dsimp only [ixD]
  rw [atI_nat (j := k) (v := D.int (l.getD k 0)) (by simp [fnD, startE, sSeq, sSet, sE, sT, sIf, sRet, sOwn, sFrz, frz, sDrop, sRaise, sNx, s0, s1, s2, sN, aN, aC, sAnd, sOr, sNot, sIte, tD, tNt, tAn, tOr, eVar, eBor, truth, sIs, isiD, tyN, below, clsOk, Cm.h, ordD, addD, subD, mulD, fdivD, modD, negD, mkTup, mkLst, lenOk, asInt, oN, oS, sSl, itemsD, intD, absD, Or4.ints, eqD_int, eqD_bl, chainD, List.getElem?_eq_getElem h, List.getD])]
theorem ix_natT {l : List Int} {k : Nat} (h : k < l.length) : ixD (.tup (l.map D.int)) (.int (k : Int)) = .ok (.int (l.getD k 0)) := by
  dsimp only [ixD]
  rw [atI_nat (j := k) (v := D.int (l.getD k 0)) (by simp [fnD, startE, sSeq, sSet, sE, sT, sIf, sRet, sOwn, sFrz, frz, sDrop, sRaise, sNx, s0, s1, s2, sN, aN, aC, sAnd, sOr, sNot, sIte, tD, tNt, tAn, tOr, eVar, eBor, truth, sIs, isiD, tyN, below, clsOk, Cm.h, ordD, addD, subD, mulD, fdivD, modD, negD, mkTup, mkLst, lenOk, asInt, oN, oS, sSl, itemsD, intD, absD, Or4.ints, eqD_int, eqD_bl, chainD, List.getElem?_eq_getElem h, List.getD])]
theorem ix_keys {cut : List Int} {l : List Nat} {k : Nat} (h : k < l.length) : ixD (.lst (l.map (keyT cut))) (.int (k : Int)) = .ok (keyT cut (l.getD k 0)) := by
  dsimp only [ixD]
  rw [atI_nat (j := k) (v := keyT cut (l.getD k 0)) (by simp [fnD, startE, sSeq, sSet, sE, sT, sIf, sRet, sOwn, sFrz, frz, sDrop, sRaise, sNx, s0, s1, s2, sN, aN, aC, sAnd, sOr, sNot, sIte, tD, tNt, tAn, tOr, eVar, eBor, truth, sIs, isiD, tyN, below, clsOk, Cm.h, ordD, addD, subD, mulD, fdivD, modD, negD, mkTup, mkLst, lenOk, asInt, oN, oS, sSl, itemsD, intD, absD, Or4.ints, eqD_int, eqD_bl, chainD, List.getElem?_eq_getElem h, List.getD])]
theorem sum_lst (l : List Int) : sumD [.lst (l.map D.int)] = .ok (.int l.sum) := by
  unfold sumD
  simp [fnD, startE, sSeq, sSet, sE, sT, sIf, sRet, sOwn, sFrz, frz, sDrop, sRaise, sNx, s0, s1, s2, sN, aN, aC, sAnd, sOr, sNot, sIte, tD, tNt, tAn, tOr, eVar, eBor, truth, sIs, isiD, tyN, below, clsOk, Cm.h, ordD, addD, subD, mulD, fdivD, modD, negD, mkTup, mkLst, lenOk, asInt, oN, oS, sSl, itemsD, intD, absD, Or4.ints, eqD_int, eqD_bl, chainD, asInts_of]
theorem sum_tup (l : List Int) : sumD [.tup (l.map D.int)] = .ok (.int l.sum) := by
  unfold sumD
  simp [fnD, startE, sSeq, sSet, sE, sT, sIf, sRet, sOwn, sFrz, frz, sDrop, sRaise, sNx, s0, s1, s2, sN, aN, aC, sAnd, sOr, sNot, sIte, tD, tNt, tAn, tOr, eVar, eBor, truth, sIs, isiD, tyN, below, clsOk, Cm.h, ordD, addD, subD, mulD, fdivD, modD, negD, mkTup, mkLst, lenOk, asInt, oN, oS, sSl, itemsD, intD, absD, Or4.ints, eqD_int, eqD_bl, chainD, asInts_of]
theorem whole_lo {ws : List Wt} (o : ∀ w ∈ ws, w.Ok) : ∀ v ∈ wholes ws, 0 ≤ v ∧ v ≤ 10 ^ 13 * LL := by
  intro v hv
  unfold wholes at hv
  obtain ⟨w, hw, rfl⟩ := List.mem_map.mp hv
  have ow := o w hw
  have dv : com ws ∣ LL := com_dvd ws 1 o (by decide)
  obtain ⟨c1, c2⟩ := pos_of_dvd dv
  have q0 : 0 ≤ (com ws : Int) / w.den := Int.ediv_nonneg (by omega) (by have := ow.d1; omega)
  have q1 : (com ws : Int) / w.den ≤ LL := by
    have h1 : (com ws : Int) / w.den ≤ com ws := Int.ediv_le_self _ (by omega)
    omega
  exact ⟨Int.mul_nonneg ow.lo q0, Int.mul_le_mul ow.hi q1 q0 (by omega)⟩
theorem sum_bound {B : Int} : ∀ l : List Int, (∀ v ∈ l, 0 ≤ v ∧ v ≤ B) → 0 ≤ l.sum ∧ l.sum ≤ l.length * B
  | [], _ => by simp
  | v :: l, h => by
    obtain ⟨h1, h2⟩ := sum_bound l fun x hx => h x (List.mem_cons_of_mem _ hx)
    obtain ⟨h3, h4⟩ := h v (by simp)
    simp only [List.sum_cons, List.length_cons]
    push_cast
    rw [Int.add_mul]
    omega
theorem log_of {n : Int} (h0 : 0 < n) (h : n < 2 ^ 200) : n.natAbs.log2 < 9000 := by
  have : n.natAbs.log2 < 200 := (Nat.log2_lt (by omega)).mpr (by omega)
  omega
structure Given (a : Int) (ws : List Wt) : Prop where
  o : ∀ w ∈ ws, w.Ok
  l : ws.length ≤ 300
  a0 : 0 ≤ a
  a1 : a ≤ 10 ^ 12
  pos : 0 < (wholes ws).sum
theorem Given.lg {a : Int} {ws : List Wt} (G : Given a ws) : (wholes ws).sum.natAbs.log2 < 9000 := by
  obtain ⟨h1, h2⟩ := sum_bound (B := 10 ^ 13 * LL) (wholes ws) (whole_lo G.o)
  have h3 : (wholes ws).length ≤ 300 := by unfold wholes; rw [List.length_map]; exact G.l
  refine log_of G.pos ?_
  have h4 : ((wholes ws).length : Int) * (10 ^ 13 * (LL : Nat)) ≤ 300 * (10 ^ 13 * (LL : Nat)) := Int.mul_le_mul_of_nonneg_right (by omega) (by decide)
  have h5 : (300 : Int) * (10 ^ 13 * (LL : Nat)) < 2 ^ 200 := by decide
  omega
section
variable {a : Int} {ws : List Wt}
theorem Given.am (G : Given a ws) : -18446744073709551616 < a ∧ a < 18446744073709551616 := by have := G.a0; have := G.a1; omega
theorem Given.wl (G : Given a ws) : (wholes ws).length ≤ 300 := by unfold wholes; rw [List.length_map]; exact G.l
theorem e_gets (G : Given a ws) {f1 f2 f3 : Env → Res D} {fi : Env → Res (List D)} {j : Nat} {vs : List Nat} {ρ : Env} (hi : fi ρ = .ok ((wholes ws).map D.int))
    (h : ∀ v : Int, f1 ((wipeE ρ vs).set j (.val (.int v))) = .ok (.int a) ∧ f2 ((wipeE ρ vs).set j (.val (.int v))) = .ok (.int v) ∧ f3 ((wipeE ρ vs).set j (.val (.int v))) = .ok (.int (wholes ws).sum)) :
    lcD fi vs (.nm j) tYs (s2 fdivD (s2 mulD f1 f2) f3) ρ = .ok (.lst ((gets a (wholes ws)).map D.int)) := by
  unfold gets
  rw [List.map_map]
  refine lc_map (i := D.int) (o := D.int ∘ fun w => a * w / (wholes ws).sum) (wholes ws) hi (by have := G.wl; omega) fun v _ => ⟨_, rfl, rfl, ?_⟩
  obtain ⟨h1, h2, h3⟩ := h v
  obtain ⟨a1, a2⟩ := G.am
  simp [fnD, startE, sSeq, sSet, sE, sT, sIf, sRet, sOwn, sFrz, frz, sDrop, sRaise, sNx, s0, s1, s2, sN, aN, aC, sAnd, sOr, sNot, sIte, tD, tNt, tAn, tOr, eVar, eBor, truth, sIs, isiD, tyN, below, clsOk, Cm.h, ordD, addD, subD, mulD, fdivD, modD, negD, mkTup, mkLst, lenOk, asInt, oN, oS, sSl, itemsD, intD, absD, Or4.ints, eqD_int, eqD_bl, chainD, h1, h2, h3, mulOk, a1, a2, G.pos, G.lg]
theorem e_cuts (G : Given a ws) {f1 f3 : Env → Res D} {fi : Env → Res (List D)} {j : Nat} {vs : List Nat} {ρ : Env} (hi : fi ρ = .ok ((wholes ws).map D.int))
    (h : ∀ v : Int, f1 ((wipeE ρ vs).set j (.val (.int v))) = .ok (.int (a * v)) ∧ f3 ((wipeE ρ vs).set j (.val (.int v))) = .ok (.int (wholes ws).sum)) :
    lcD fi vs (.nm j) tYs (s2 modD f1 f3) ρ = .ok (.lst ((cuts a (wholes ws)).map D.int)) := by
  unfold cuts
  rw [List.map_map]
  refine lc_map (i := D.int) (o := D.int ∘ fun w => a * w % (wholes ws).sum) (wholes ws) hi (by have := G.wl; omega) fun v _ => ⟨_, rfl, rfl, ?_⟩
  obtain ⟨h1, h3⟩ := h v
  simp [fnD, startE, sSeq, sSet, sE, sT, sIf, sRet, sOwn, sFrz, frz, sDrop, sRaise, sNx, s0, s1, s2, sN, aN, aC, sAnd, sOr, sNot, sIte, tD, tNt, tAn, tOr, eVar, eBor, truth, sIs, isiD, tyN, below, clsOk, Cm.h, ordD, addD, subD, mulD, fdivD, modD, negD, mkTup, mkLst, lenOk, asInt, oN, oS, sSl, itemsD, intD, absD, Or4.ints, eqD_int, eqD_bl, chainD, h1, h3, G.pos]
def KEY (ρ : Env) (d : D) : Res D := sN mkTup (aC (s1 negD (s2 ixD (eBor 1) (eBor 0))) (aC (eVar 0) aN)) (lamE 2 [8] ρ d)
theorem key_ok {cut : List Int} {ρ : Env} (h : ρ[8]? = some (.val (.lst (cut.map D.int)))) {k : Nat} (hk : k < cut.length) : KEY ρ (.int (k : Int)) = .ok (keyT cut k) := by
  unfold KEY lamE
  simp [fnD, startE, sSeq, sSet, sE, sT, sIf, sRet, sOwn, sFrz, frz, sDrop, sRaise, sNx, s0, s1, s2, sN, aN, aC, sAnd, sOr, sNot, sIte, tD, tNt, tAn, tOr, eVar, eBor, truth, sIs, isiD, tyN, below, clsOk, Cm.h, ordD, addD, subD, mulD, fdivD, modD, negD, mkTup, mkLst, lenOk, asInt, oN, oS, sSl, itemsD, intD, absD, Or4.ints, eqD_int, eqD_bl, chainD, capt, h, ix_nat hk, keyT]
theorem sort_key {cut : List Int} {ρ : Env} (h : ρ[8]? = some (.val (.lst (cut.map D.int)))) : sortKD (KEY ρ) (.lst (rgD 0 cut.length)) = .ok (.lst ((places cut).map fun k => D.int (k : Nat))) := by
  rw [rg_nat]
  have kd : ∀ k ∈ List.range cut.length, KEY ρ (.int (k : Int)) = .ok (keyT cut k) := fun k hk => key_ok h (List.mem_range.mp hk)
  have e1 : (((List.range cut.length).map fun k => D.int (k : Nat)).all fun d => isOk (KEY ρ d)) = true := by
    rw [List.all_eq_true]
    intro d hd
    obtain ⟨k, hk, rfl⟩ := List.mem_map.mp hd
    rw [kd k hk]; rfl
  have e2 : ((List.range cut.length).map fun k => D.int (k : Nat)).map (fun d => okOr (KEY ρ d)) = (List.range cut.length).map (keyT cut) := by
    rw [List.map_map]
    apply List.map_congr_left
    intro k hk
    show okOr (KEY ρ (.int (k : Int))) = _
    rw [kd k hk]; rfl
  have e3 : ((List.range cut.length).map fun k => D.int (k : Nat)).mergeSort (PySem.W.dataLe false fun d => pyD (okOr (KEY ρ d))) = (places cut).map fun k => D.int (k : Nat) := by
    unfold places
    refine (List.map_mergeSort fun x hx y hy => ?_).symm
    rw [le_keys, PySem.W.dataLe_eq, PySem.W.dataLe_eq]
    show _ = !PySem.W.dataLt (pyD (okOr (KEY ρ (.int (y : Int))))) (pyD (okOr (KEY ρ (.int (x : Int)))))
    rw [kd x hx, kd y hy]
    show _ = !PySem.W.dataLt (pyD (keyT cut y)) (pyD (keyT cut x))
    rw [pyD_key, pyD_key]
    rfl
  unfold sortKD
  simp only [e1, e2, e3, pyL_keys, srtOk_keys, if_true]
theorem cut_to (l : List D) (m : Nat) : cutD l none (some (m : Int)) = l.take m := by
  unfold cutD
  have h : ¬ ((m : Int) < 0) := by omega
  simp [fnD, startE, sSeq, sSet, sE, sT, sIf, sRet, sOwn, sFrz, frz, sDrop, sRaise, sNx, s0, s1, s2, sN, aN, aC, sAnd, sOr, sNot, sIte, tD, tNt, tAn, tOr, eVar, eBor, truth, sIs, isiD, tyN, below, clsOk, Cm.h, ordD, addD, subD, mulD, fdivD, modD, negD, mkTup, mkLst, lenOk, asInt, oN, oS, sSl, itemsD, intD, absD, Or4.ints, eqD_int, eqD_bl, chainD, HT.sIx, h]
theorem bump_D {g : List Int} {k : Nat} (hk : k < g.length) : iAt (g.map D.int) (.int (k : Int)) = some (k, g.getD k 0) := by
  unfold iAt
  simp [fnD, startE, sSeq, sSet, sE, sT, sIf, sRet, sOwn, sFrz, frz, sDrop, sRaise, sNx, s0, s1, s2, sN, aN, aC, sAnd, sOr, sNot, sIte, tD, tNt, tAn, tOr, eVar, eBor, truth, sIs, isiD, tyN, below, clsOk, Cm.h, ordD, addD, subD, mulD, fdivD, modD, negD, mkTup, mkLst, lenOk, asInt, oN, oS, sSl, itemsD, intD, absD, Or4.ints, eqD_int, eqD_bl, chainD, hk, List.getElem?_eq_getElem hk, List.getD]
theorem set_D (g : List Int) (k : Nat) : (g.map D.int).set k (.int (g.getD k 0 + 1)) = (bump g k).map D.int := by
  unfold bump
  rw [List.map_set]
theorem rgOk_of {n : Nat} (h : n ≤ 16000000) : rgOk 0 (n : Int) = true := by
  unfold rgOk
  rw [decide_eq_true_eq]
  refine ⟨?_, ?_, ?_, ?_, ?_⟩
  · decide
  · decide
  · omega
  · omega
  · omega
theorem rgIn_of {n : Nat} (h : n ≤ 16000000) : rgIn 0 (n : Int) = true := by
  unfold rgIn
  rw [decide_eq_true_eq]
  refine ⟨?_, ?_, ?_, ?_⟩
  · decide
  · decide
  · omega
  · omega
theorem r1_eq {fa : Env → Res D} {ρ : Env} {n : Int} (h : fa ρ = .ok (.int n)) : r1 fa ρ = .ok (0, n) := by
  show (fa ρ >>= fun x => toI x >>= fun m => Res.ok (0, m)) = _
  rw [h]
  rfl
theorem lrg_g {f : Env → Res (Int × Int)} {ρ : Env} {x y : Int} (h : f ρ = .ok (x, y)) (k : rgOk x y = true) : lRg f ρ = .ok (.lst (rgD x y)) := by
  show (f ρ >>= fun o => if rgOk o.1 o.2 = true then Res.ok (D.lst (rgD o.1 o.2)) else .bad) = _
  rw [h]
  show (if rgOk x y = true then Res.ok (D.lst (rgD x y)) else .bad) = _
  rw [if_pos k]
theorem lrg_eq {fa : Env → Res D} {ρ : Env} {n : Nat} (h : fa ρ = .ok (.int (n : Int))) (hn : n ≤ 16000000) : lRg (r1 fa) ρ = .ok (.lst (rgD 0 (n : Int))) := lrg_g (r1_eq h) (rgOk_of hn)
end
theorem fnD_rt {n N : Nat} {f : Env → SO} {ds : List D} {d : D} (hl : ds.length = n) (h : f (startE N ds) = .rt d) : fnD n N f ds = .ok d := by
  unfold fnD
  rw [if_pos hl, h]
theorem fnD_xc {n N : Nat} {f : Env → SO} {ds : List D} {c : Nat} {d : D} {ρ : Env} (hl : ds.length = n) (h : f (startE N ds) = .xc c d ρ) : fnD n N f ds = .exc c d := by
  unfold fnD
  rw [if_pos hl, h]
theorem sSeq_nx {f k : Env → SO} {ρ ρ' : Env} (h : f ρ = .nx ρ') : sSeq f k ρ = k ρ' := by unfold sSeq; rw [h]
theorem sSeq_rt {f k : Env → SO} {ρ : Env} {d : D} (h : f ρ = .rt d) : sSeq f k ρ = .rt d := by unfold sSeq; rw [h]
theorem sSeq_xc {f k : Env → SO} {ρ ρ' : Env} {c : Nat} {d : D} (h : f ρ = .xc c d ρ') : sSeq f k ρ = .xc c d ρ' := by unfold sSeq; rw [h]
theorem sSet_nx {i : Nat} {fe : Env → Res D} {ρ : Env} {d : D} (h : fe ρ = .ok d) : sSet i fe ρ = .nx (ρ.set i (.val d)) := by unfold sSet sE; rw [h]
theorem sOwn_nx {i : Nat} {fe : Env → Res D} {ρ : Env} {l : List D} (h : fe ρ = .ok (.lst l)) : sOwn i fe ρ = .nx (ρ.set i (.own l)) := by unfold sOwn sE; rw [h]
theorem sFor_of {T : Tg} {fi : Env → Res (List D)} {b : Env → SO} {ρ : Env} {ds : List D} (h : fi ρ = .ok ds) : sFor T fi b ρ = forL T b ds ρ := by unfold sFor sI; rw [h]
theorem sRet_rt {fe : Env → Res D} {ρ : Env} {d : D} (h : fe ρ = .ok d) : sRet fe ρ = .rt d := by unfold sRet sE; rw [h]
theorem sDrop_nx {fe : Env → Res D} {ρ : Env} {d : D} (h : fe ρ = .ok d) : sDrop fe ρ = .nx ρ := by unfold sDrop sE; rw [h]
theorem sDrop_xc {fe : Env → Res D} {ρ : Env} {c : Nat} {d : D} (h : fe ρ = .exc c d) : sDrop fe ρ = .xc c d ρ := by unfold sDrop sE; rw [h]
theorem sIf_t {fc : Env → Res Bool} {x y : Env → SO} {ρ : Env} (h : fc ρ = .ok true) : sIf fc x y ρ = x ρ := by unfold sIf sT; rw [h]; rfl
theorem sIf_f {fc : Env → Res Bool} {x y : Env → SO} {ρ : Env} (h : fc ρ = .ok false) : sIf fc x y ρ = y ρ := by unfold sIf sT; rw [h]; rfl
theorem sN1 {h : List D → Res D} {f : Env → Res D} {ρ : Env} {d : D} {r : Res D} (e : f ρ = .ok d) (e2 : h [d] = r) : sN h (aC f aN) ρ = r := by unfold sN aC aN; rw [e]; exact e2
theorem sN2 {h : List D → Res D} {f f' : Env → Res D} {ρ : Env} {d d' : D} {r : Res D} (e : f ρ = .ok d) (e' : f' ρ = .ok d') (e2 : h [d, d'] = r) : sN h (aC f (aC f' aN)) ρ = r := by unfold sN aC aN; rw [e, e']; exact e2
theorem sN3 {h : List D → Res D} {f f' f'' : Env → Res D} {ρ : Env} {d d' d'' : D} {r : Res D} (e : f ρ = .ok d) (e' : f' ρ = .ok d') (e'' : f'' ρ = .ok d'') (e2 : h [d, d', d''] = r) : sN h (aC f (aC f' (aC f'' aN))) ρ = r := by
  unfold sN aC aN; rw [e, e', e'']; exact e2
section
variable {a : Int} {ws : List Wt}
theorem e_places {cut : List Int} {ρ : Env} (h8 : ρ[8]? = some (.val (.lst (cut.map D.int)))) (h2 : sN lenD (aC (eBor 2) aN) ρ = .ok (.int (cut.length : Int))) (hn : cut.length ≤ 16000000) :
    sKey 2 [8] (lRg (r1 (sN lenD (aC (eBor 2) aN)))) (sN mkTup (aC (s1 negD (s2 ixD (eBor 1) (eBor 0))) (aC (eVar 0) aN))) ρ = .ok (.lst ((places cut).map fun k => D.int (k : Nat))) := by
  have e := lrg_eq h2 hn
  unfold sKey
  rw [e]
  exact sort_key h8
end
theorem s2_eq {op : D → D → Res D} {f f' : Env → Res D} {ρ : Env} {d d' : D} (h : f ρ = .ok d) (h' : f' ρ = .ok d') : s2 op f f' ρ = op d d' := by
  unfold s2
  rw [h, h']
  rfl
theorem s1_eq {op : D → Res D} {f : Env → Res D} {ρ : Env} {d : D} (h : f ρ = .ok d) : s1 op f ρ = op d := by
  unfold s1
  rw [h]
  rfl
theorem rng1_g {f : Env → Res D} {ρ : Env} {n : Int} (h : f ρ = .ok (.int n)) : ∀ b, rgIn 0 n = b → b = true → rng1 f ρ = .ok (rgD 0 n) := by
  intro b hb e
  unfold rng1
  rw [h]
  simp only [Res.bind_ok, toI]
  rw [hb, if_pos e]
theorem rng1_eq {f : Env → Res D} {ρ : Env} {n : Nat} (h : f ρ = .ok (.int (n : Int))) (hn : n ≤ 16000000) : rng1 f ρ = .ok ((List.range n).map fun k => D.int (k : Nat)) := by
  rw [rng1_g h _ (rgIn_of hn) rfl, rg_nat]
theorem take_places {l : List Nat} {n : Nat} (h : n ≤ l.length) : (List.range n).map (fun k => l.getD k 0) = l.take n := by
  apply List.ext_getElem
  · simp; omega
  · intro i h1 h2
    have i1 : i < l.length := by simp at h1; omega
    simp [fnD, startE, sSeq, sSet, sE, sT, sIf, sRet, sOwn, sFrz, frz, sDrop, sRaise, sNx, s0, s1, s2, sN, aN, aC, sAnd, sOr, sNot, sIte, tD, tNt, tAn, tOr, eVar, eBor, truth, sIs, isiD, tyN, below, clsOk, Cm.h, ordD, addD, subD, mulD, fdivD, modD, negD, mkTup, mkLst, lenOk, asInt, oN, oS, sSl, itemsD, intD, absD, Or4.ints, eqD_int, eqD_bl, chainD, List.getD, List.getElem?_eq_getElem i1]
section
variable {a : Int} {ws : List Wt}
theorem e_wholes (o : ∀ w ∈ ws, w.Ok) (hl : ws.length ≤ 300) {f0 f1 f2 : Env → Res D} {fi : Env → Res (List D)} {j : Nat} {vs : List Nat} {ρ : Env} (hi : fi ρ = .ok (ws.map pairD))
    (h : ∀ w : Wt, f0 ((wipeE ρ vs).set j (.val (pairD w))) = .ok (.int w.num) ∧ f1 ((wipeE ρ vs).set j (.val (pairD w))) = .ok (.int (com ws : Nat)) ∧ f2 ((wipeE ρ vs).set j (.val (pairD w))) = .ok (.int w.den)) :
    lcD fi vs (.nm j) tYs (s2 mulD f0 (s2 fdivD f1 f2)) ρ = .ok (.lst ((wholes ws).map D.int)) := by
  unfold wholes
  rw [List.map_map]
  refine lc_map (i := pairD) (o := D.int ∘ fun w => w.num * ((com ws : Int) / w.den)) ws hi (by omega) fun w hw => ⟨_, rfl, rfl, ?_⟩
  obtain ⟨h0, h1, h2⟩ := h w
  have ow := o w hw
  have d1 : 0 < w.den := by have := ow.d1; omega
  have l9 : w.den.natAbs.log2 < 9000 := by
    have h6 : w.den.natAbs.log2 < 6 := (Nat.log2_lt (by omega)).mpr (by have := ow.d2; omega)
    omega
  have m1 : -18446744073709551616 < w.num := by have := ow.lo; omega
  have m2 : w.num < 18446744073709551616 := by have := ow.hi; omega
  simp [fnD, startE, sSeq, sSet, sE, sT, sIf, sRet, sOwn, sFrz, frz, sDrop, sRaise, sNx, s0, s1, s2, sN, aN, aC, sAnd, sOr, sNot, sIte, tD, tNt, tAn, tOr, eVar, eBor, truth, sIs, isiD, tyN, below, clsOk, Cm.h, ordD, addD, subD, mulD, fdivD, modD, negD, mkTup, mkLst, lenOk, asInt, oN, oS, sSl, itemsD, intD, absD, Or4.ints, eqD_int, eqD_bl, chainD, h0, h1, h2, d1, l9, mulOk, m1, m2]
theorem e_cutsI (G : Given a ws) {f1 f3 : Env → Res D} {fi : Env → Res (List D)} {j : Nat} {vs : List Nat} {ρ : Env} (hi : fi ρ = .ok ((wholes ws).map D.int))
    (h : ∀ v : Int, f1 ((wipeE ρ vs).set j (.val (.int v))) = .ok (.int (a * v)) ∧ f3 ((wipeE ρ vs).set j (.val (.int v))) = .ok (.int (wholes ws).sum)) :
    lcD fi vs (.nm j) tYs (s2 modD (sN intD (aC f1 aN)) f3) ρ = .ok (.lst ((cuts a (wholes ws)).map D.int)) :=
  e_cuts G hi fun v => ⟨sN1 (h v).1 rfl, (h v).2⟩
theorem e_keys {cut : List Int} {fi : Env → Res (List D)} {f f' : Env → Res D} {j : Nat} {vs : List Nat} {ρ : Env} (hi : fi ρ = .ok ((List.range cut.length).map fun k => D.int (k : Nat))) (hl : cut.length ≤ 16000000)
    (h : ∀ k : Nat, k < cut.length → f ((wipeE ρ vs).set j (.val (.int (k : Int)))) = .ok (.int (cut.getD k 0)) ∧ f' ((wipeE ρ vs).set j (.val (.int (k : Int)))) = .ok (.int (k : Int))) :
    lcD fi vs (.nm j) tYs (sN mkTup (aC (s1 negD f) (aC f' aN))) ρ = .ok (.lst ((List.range cut.length).map (keyT cut))) := by
  refine lc_map (i := fun k : Nat => D.int (k : Int)) (o := keyT cut) (List.range cut.length) hi (by rw [List.length_range]; omega) fun k hk => ⟨_, rfl, rfl, ?_⟩
  obtain ⟨h1, h2⟩ := h k (List.mem_range.mp hk)
  simp [fnD, startE, sSeq, sSet, sE, sT, sIf, sRet, sOwn, sFrz, frz, sDrop, sRaise, sNx, s0, s1, s2, sN, aN, aC, sAnd, sOr, sNot, sIte, tD, tNt, tAn, tOr, eVar, eBor, truth, sIs, isiD, tyN, below, clsOk, Cm.h, ordD, addD, subD, mulD, fdivD, modD, negD, mkTup, mkLst, lenOk, asInt, oN, oS, sSl, itemsD, intD, absD, Or4.ints, eqD_int, eqD_bl, chainD, h1, h2, keyT]
end
theorem ixN_nat {n k : Nat} (h : k < n) : ixN n (k : Int) = some k := by
  unfold ixN
  simp [h]
theorem sE_ok {fe : Env → Res D} {k : D → Env → SO} {ρ : Env} {d : D} (h : fe ρ = .ok d) : sE fe k ρ = k d ρ := by unfold sE; rw [h]
theorem sOwnAt_ok {i : Nat} {k : List D → Env → SO} {ρ : Env} {l : List D} (h : ρ[i]? = some (.own l)) : sOwnAt i k ρ = k l ρ := by unfold sOwnAt; rw [h]
theorem sSetIx_nx {i : Nat} {fi fe : Env → Res D} {ρ : Env} {d : D} {l : List D} {k : Int} {j : Nat} (h : fe ρ = .ok d) (h1 : ρ[i]? = some (.own l)) (h2 : fi ρ = .ok (.int k)) (h3 : ixN l.length k = some j) : sSetIx i fi fe ρ = .nx (ρ.set i (.own (l.set j d))) := by
  unfold sSetIx
  rw [sE_ok h, sOwnAt_ok h1, sE_ok h2]
  dsimp only
  rw [h3]
theorem len_lst (l : List D) : lenD [.lst l] = .ok (.int l.length) := rfl
theorem len_map (l : List Int) : lenD [.lst (l.map D.int)] = .ok (.int l.length) := by rw [len_lst, List.length_map]
theorem ixD_key {cut : List Int} {k : Nat} : ixD (keyT cut k) (.int 1) = .ok (.int (k : Int)) := rfl
section
variable {a : Int} {ws : List Wt}
abbrev GW (ws : List Wt) : Slot := .val (.lst (ws.map Wt.d))
abbrev GP (ws : List Wt) : Slot := .val (.lst (ws.map pairD))
abbrev GH (ws : List Wt) : Slot := .val (.lst ((wholes ws).map D.int))
abbrev GR (a : Int) (ws : List Wt) : Slot := .val (.lst ((places (cuts a (wholes ws))).map (keyT (cuts a (wholes ws)))))
abbrev GC (a : Int) (ws : List Wt) : Slot := .val (.lst ((cuts a (wholes ws)).map D.int))
abbrev SX : Env → SO := sSetIx 7 (s2 ixD (s2 ixD (eBor 11) (eBor 10)) (s0 (.int 1))) (s2 addD (s2 ixD (eBor 7) (s2 ixD (s2 ixD (eBor 11) (eBor 10)) (s0 (.int 1)))) (s0 (.int 1)))
theorem due_step {cut : List Int} {g : List Int} {k : Nat} (hg : g.length = cut.length) (hk : k < cut.length) {ρ : Env} (h7 : ρ[7]? = some (.own (g.map D.int))) (h10 : ρ[10]? = some (.val (.int (k : Int))))
    (h11 : ρ[11]? = some (.val (.lst ((places cut).map (keyT cut))))) : SX ρ = .nx (ρ.set 7 (.own ((bump g ((places cut).getD k 0)).map D.int))) := by
  have kp : k < (places cut).length := by rw [places_len]; exact hk
  have jm : (places cut).getD k 0 ∈ places cut := by
    rw [List.getD, List.getElem?_eq_getElem kp]
    exact List.getElem_mem kp
  have jl : (places cut).getD k 0 < g.length := by rw [hg]; exact places_lt jm
  have b7 : eBor 7 ρ = .ok (.lst (g.map D.int)) := by unfold eBor; rw [h7]
  have b10 : eBor 10 ρ = .ok (.int (k : Int)) := by unfold eBor; rw [h10]
  have b11 : eBor 11 ρ = .ok (.lst ((places cut).map (keyT cut))) := by unfold eBor; rw [h11]
  have ei : s2 ixD (s2 ixD (eBor 11) (eBor 10)) (s0 (.int 1)) ρ = .ok (.int ((places cut).getD k 0 : Nat)) := by
    rw [s2_eq ((s2_eq b11 b10).trans (ix_keys kp)) (d' := .int 1) rfl]
    exact ixD_key
  generalize (places cut).getD k 0 = j at ei jl ⊢
  have ee : s2 addD (s2 ixD (eBor 7) (s2 ixD (s2 ixD (eBor 11) (eBor 10)) (s0 (.int 1)))) (s0 (.int 1)) ρ = .ok (.int (g.getD j 0 + 1)) := by
    rw [s2_eq ((s2_eq b7 ei).trans (ix_nat jl)) (d' := .int 1) rfl]
    rfl
  have jx : ixN (g.map D.int).length (j : Int) = some j := ixN_nat (by rw [List.length_map]; exact jl)
  refine (sSetIx_nx ee h7 ei jx).trans ?_
  rw [set_D]
end
theorem sAnd_t {f f' : Env → Res D} {ρ : Env} (h : f ρ = .ok (.bl true)) : sAnd f f' ρ = f' ρ := by unfold sAnd; rw [h]; rfl
theorem sAnd_f {f f' : Env → Res D} {ρ : Env} (h : f ρ = .ok (.bl false)) : sAnd f f' ρ = .ok (.bl false) := by unfold sAnd; rw [h]; rfl
theorem tD_bl {f : Env → Res D} {ρ : Env} {b : Bool} (h : f ρ = .ok (.bl b)) : tD f ρ = .ok b := by unfold tD; rw [h]; rfl
theorem tNt_ok {f : Env → Res Bool} {ρ : Env} {b : Bool} (h : f ρ = .ok b) : tNt f ρ = .ok (!b) := by unfold tNt; rw [h]; rfl
theorem tOr_f {f f' : Env → Res Bool} {ρ : Env} (h : f ρ = .ok false) : tOr f f' ρ = f' ρ := by unfold tOr; rw [h]; rfl
theorem tOr_t {f f' : Env → Res Bool} {ρ : Env} (h : f ρ = .ok true) : tOr f f' ρ = .ok true := by unfold tOr; rw [h]; rfl
theorem sIf_skip {fc : Env → Res Bool} {x : Env → SO} {ρ : Env} (h : fc ρ = .ok false) : sIf fc x sNx ρ = .nx ρ := sIf_f h
theorem any_bls (l : List Bool) : anyD [.lst (l.map D.bl)] = .ok (.bl (l.any fun b => b)) := by unfold anyD; dsimp only; rw [asBls_of]
theorem all_bls (l : List Bool) : allD [.lst (l.map D.bl)] = .ok (.bl (l.all fun b => b)) := by unfold allD; dsimp only; rw [asBls_of]
inductive IsSq (d : D) (l : List D) : Prop where
  | l (h : d = .lst l)
  | t (h : d = .tup l)
theorem IsSq.it {d : D} {l : List D} (h : IsSq d l) : itemsD d = .ok l := by cases h with | l h => rw [h]; rfl | t h => rw [h]; rfl
theorem IsSq.ns {d : D} {l : List D} (h : IsSq d l) : ∀ z, d ≠ .scr z := fun z => by cases h with | l h => rw [h]; exact nofun | t h => rw [h]; exact nofun
theorem IsSq.len {d : D} {l : List D} (h : IsSq d l) : lenD [d] = .ok (.int l.length) := by cases h with | l h => rw [h]; rfl | t h => rw [h]; rfl
theorem IsSq.bor {d : D} {l : List D} (h : IsSq d l) {i : Nat} {ρ : Env} (e : ρ[i]? = some (.val d)) : iSeq (eBor i) ρ = .ok l := by
  unfold iSeq eBor
  rw [e]
  show itemsD d = _
  exact h.it
def someW (ws : List Wt) : Bool := ws.any fun w => decide (0 < w.num)
section
variable {a : Int} {ws : List Wt} {d : D}
theorem gtD (a b : Int) : Cm.h (.ord .gt) (.int a) (.int b) = .ok (.bl (decide (b < a))) := by
  simp [Cm.h, ordD, asInt, Or4.ints]
theorem leD' (a b : Int) : Cm.h (.ord .le) (.int a) (.int b) = .ok (.bl (decide (a ≤ b))) := by
  simp [Cm.h, ordD, asInt, Or4.ints]
theorem chain_ii {f1 f2 f3 : Env → Res D} {ρ : Env} {a b c : Int} (h1 : f1 ρ = .ok (.int a)) (h2 : f2 ρ = .ok (.int b)) (h3 : f3 ρ = .ok (.int c)) : chainD (Cm.h (.ord .le)) (Cm.h (.ord .le)) f1 f2 f3 ρ = .ok (.bl (decide (a ≤ b) && decide (b ≤ c))) := by
  unfold chainD
  rw [h1, h2]
  simp only [Res.bind_ok, leD', h3, truth]
  by_cases h : a ≤ b <;> simp [h]
theorem Given.ne (G : Given a ws) : 1 ≤ ws.length := by
  cases ws with
  | nil => exact absurd G.pos (by decide)
  | cons w ws => simp
theorem some_pos (o : ∀ w ∈ ws, w.Ok) (hs : someW ws = true) : 0 < (wholes ws).sum := by
  unfold someW at hs
  rw [List.any_eq_true] at hs
  obtain ⟨w, hw, hp⟩ := hs
  have hp : 0 < w.num := of_decide_eq_true hp
  have ow := o w hw
  have dv : com ws ∣ LL := com_dvd ws 1 o (by decide)
  obtain ⟨c1, _⟩ := pos_of_dvd dv
  obtain ⟨k, hk⟩ := (com_of ws 1).2 w hw
  have hk : com ws = nden w * k := hk
  have d0 : 0 < w.den := by have := ow.d1; omega
  have k0 : 0 < k := by
    rcases Nat.eq_zero_or_pos k with z | z
    · rw [z] at hk; omega
    · exact z
  have q : (com ws : Int) / w.den = k := by
    rw [hk]; push_cast; rw [ow.nd]; exact Int.mul_ediv_cancel_left _ (by omega)
  have v0 : 0 < w.num * ((com ws : Int) / w.den) := by rw [q]; exact Int.mul_pos hp (by omega)
  have mem : w.num * ((com ws : Int) / w.den) ∈ wholes ws := List.mem_map.mpr ⟨w, hw, rfl⟩
  have gen : ∀ l : List Int, (∀ v ∈ l, 0 ≤ v) → ∀ x ∈ l, x ≤ l.sum := by
    intro l
    induction l with
    | nil => intro _ x hx; cases hx
    | cons y l ih =>
      intro h x hx
      have s0 : ∀ l : List Int, (∀ v ∈ l, 0 ≤ v) → 0 ≤ l.sum := by
        intro l
        induction l with
        | nil => intro _; simp
        | cons y l ih => intro h; have := ih fun v hv => h v (List.mem_cons_of_mem _ hv); have := h y (by simp); simp; omega
      have hy := h y (by simp)
      have hl := s0 l fun v hv => h v (List.mem_cons_of_mem _ hv)
      rw [List.sum_cons]
      rcases List.mem_cons.mp hx with z | z
      · omega
      · have := ih (fun v hv => h v (List.mem_cons_of_mem _ hv)) x z; omega
  have := gen (wholes ws) (fun v hv => (whole_lo o v hv).1) _ mem
  omega
theorem given_of (o : ∀ w ∈ ws, w.Ok) (hl : ws.length ≤ 300) (a0 : 0 ≤ a) (a1 : a ≤ 10 ^ 12) (hs : someW ws = true) : Given a ws := ⟨o, hl, a0, a1, some_pos o hs⟩
end
theorem eq_ints (a b : Int) : Cm.h .eq (.int a) (.int b) = .ok (.bl (decide (a = b))) := by
  simp [Cm.h, eqD_int]
theorem ne_ints (a b : Int) : Cm.h .ne (.int a) (.int b) = .ok (.bl (!decide (a = b))) := by
  simp [Cm.h, eqD_int]
theorem len_tup (l : List Int) : lenD [.tup (l.map D.int)] = .ok (.int l.length) := by
  show Res.ok (D.int ((l.map D.int).length : Nat)) = _
  rw [List.length_map]
theorem tAn_t {f f' : Env → Res Bool} {ρ : Env} (h : f ρ = .ok true) : tAn f f' ρ = f' ρ := by unfold tAn; rw [h]; rfl
abbrev DWA : Env → SO := (sSeq (sApp 4 (s2 modD (sN intD (aC (eBor 5) aN)) (s2 powD (s0 (.int 10)) (s0 (.int 9)))))
  (sSet 5 (s2 fdivD (eBor 5) (s2 powD (s0 (.int 10)) (s0 (.int 9))))))
abbrev DWB : Env → SO := (sSeq (sSet 7 (s2 modD (sN intD (aC (s2 addD (s2 addD (s2 mulD (sN absD (aC (eBor 3) aN)) (s0 (.int 69069))) (s2 mulD (s2 addD (eBor 6) (s0 (.int 1))) (s0 (.int 39916801)))) (s2 mulD (eBor 1) (s0 (.int 7919)))) aN)) (s0 (.int 2147483647))))
  (sApp 4 (s2 modD (s2 modD (sN intD (aC (s2 addD (s2 mulD (eBor 7) (s0 (.int 48271))) (s2 mulD (s2 addD (eBor 6) (s0 (.int 5))) (s0 (.int 16807)))) aN)) (s0 (.int 2147483629))) (s2 powD (s0 (.int 10)) (s0 (.int 9))))))
abbrev DW : Env → SO := sIf (tD (s2 (Cm.h (.ord .ge)) (eBor 3) (s2 powD (s0 (.int 10)) (s0 (.int 18))))) DWA DWB
theorem mul_r {a b : Int} (h : -(2 ^ 64) < b ∧ b < 2 ^ 64) : mulD (.int a) (.int b) = .ok (.int (a * b)) := by
  unfold mulD
  dsimp only
  rw [if_pos]
  unfold mulOk
  rw [decide_eq_true h, Bool.true_or, Bool.or_true]
theorem mul_l {a b : Int} (h : -(2 ^ 64) < a ∧ a < 2 ^ 64) : mulD (.int a) (.int b) = .ok (.int (a * b)) := by
  unfold mulD
  dsimp only
  rw [if_pos]
  unfold mulOk
  rw [decide_eq_true h, Bool.true_or]
theorem mod_ii {a b : Int} (h : 0 < b) : modD (.int a) (.int b) = .ok (.int (a % b)) := by
  unfold modD
  dsimp only
  rw [if_pos h]
theorem fdiv_ii {a b : Int} (h : 0 < b) (h' : b.natAbs.log2 < 9000) : fdivD (.int a) (.int b) = .ok (.int (a / b)) := by
  unfold fdivD
  dsimp only
  rw [decide_eq_true h, decide_eq_true h']
  rfl
theorem add_ii (a b : Int) : addD (.int a) (.int b) = .ok (.int (a + b)) := rfl
theorem pow9 (ρ : Env) : s2 powD (s0 (.int 10)) (s0 (.int 9)) ρ = .ok (.int 1000000000) := rfl
theorem pow18 (ρ : Env) : s2 powD (s0 (.int 10)) (s0 (.int 18)) ρ = .ok (.int 1000000000000000000) := rfl
theorem pow12 (ρ : Env) : s2 powD (s0 (.int 10)) (s0 (.int 12)) ρ = .ok (.int 1000000000000) := rfl
theorem ge_ints (a b : Int) : Cm.h (.ord .ge) (.int a) (.int b) = .ok (.bl (decide (b ≤ a))) := by
  simp [Cm.h, ordD, asInt, Or4.ints]
theorem lt_ints (a b : Int) : Cm.h (.ord .lt) (.int a) (.int b) = .ok (.bl (decide (a < b))) := by
  simp [Cm.h, ordD, asInt, Or4.ints]
theorem abs_i (a : Int) : absD [.int a] = .ok (.int (if a < 0 then -a else a)) := rfl
theorem int_i (a : Int) : intD [.int a] = .ok (.int a) := rfl
theorem s0_ok (d : D) (ρ : Env) : s0 d ρ = .ok d := rfl
theorem bor_ok {i : Nat} {ρ : Env} {d : D} (h : ρ[i]? = some (.val d)) : eBor i ρ = .ok d := by unfold eBor; rw [h]
theorem var_ok {i : Nat} {ρ : Env} {d : D} (h : ρ[i]? = some (.val d)) : eVar i ρ = .ok d := by unfold eVar; rw [h]
theorem sApp_nx {i : Nat} {fe : Env → Res D} {ρ : Env} {l : List D} {d : D} (h : ρ[i]? = some (.own l)) (he : fe ρ = .ok d) (hl : l.length < 16777216) : sApp i fe ρ = .nx (ρ.set i (.own (l ++ [d]))) := by
  unfold sApp
  rw [sOwnAt_ok h, sE_ok he]
  have : lenOk (l.length + 1) = true := by unfold lenOk; exact decide_eq_true hl
  rw [if_pos this]
theorem forL_cons {T : Tg} {body : Env → SO} {d : D} {ds : List D} {ρ ρ1 ρ2 : Env} (h : bindT T d ρ = .ok ρ1) (hb : body ρ1 = .nx ρ2) : forL T body (d :: ds) ρ = forL T body ds ρ2 := by
  rw [forL]
  unfold sBind
  rw [h]
  dsimp only
  rw [hb]
theorem sIte_t {fc : Env → Res Bool} {f f' : Env → Res D} {ρ : Env} (h : fc ρ = .ok true) : sIte fc f f' ρ = f ρ := by unfold sIte; rw [h]; rfl
theorem sIte_f {fc : Env → Res Bool} {f f' : Env → Res D} {ρ : Env} (h : fc ρ = .ok false) : sIte fc f f' ρ = f' ρ := by unfold sIte; rw [h]; rfl
theorem ix_scr {l : List Int} {k : Nat} (h : k < l.length) : ixD (.scr l) (.int (k : Int)) = .ok (.int (l.getD k 0)) := by
  dsimp only [ixD]
  rw [atI_nat (j := k) (v := l.getD k 0) (by simp [List.getElem?_eq_getElem h, List.getD])]
theorem len_scr (l : List Int) : lenD [.scr l] = .ok (.int l.length) := rfl
theorem sFrz_eq {i : Nat} {f : Env → SO} {ρ : Env} : sFrz i f ρ = f (frz i ρ) := rfl
structure Wt.Dr (w : Wt) : Prop where
  o : w.Ok
  lo : w.num ≤ 10 ^ 12
  p : ∀ a b, w = .p a b → 0 < a
theorem dr_n {a : Int} (h0 : 0 ≤ a) (h1 : a ≤ 10 ^ 12) : (Wt.n a).Dr := by
  refine ⟨⟨h0, by show a ≤ _; omega, by show (1 : Int) ≤ 1; omega, by show (1 : Int) ≤ 40; omega, ?_, ?_⟩, h1, nofun⟩
  · show Int.gcd a 1 = 1
    exact Int.gcd_one
  · intro b hb; cases hb; exact h1
theorem low_ok {m n : Nat} (hn : 1 ≤ n) (hn2 : n ≤ 40) (hm : m ≤ 10 ^ 13) : (Wt.p (m / Nat.gcd m n : Nat) (n / Nat.gcd m n : Nat)).Ok := by
  have gp : 0 < Nat.gcd m n := Nat.gcd_pos_of_pos_right _ hn
  have n1 : 1 ≤ n / Nat.gcd m n := (Nat.one_le_div_iff gp).mpr (Nat.gcd_le_right _ hn)
  have n2 : n / Nat.gcd m n ≤ 40 := Nat.le_trans (Nat.div_le_self _ _) hn2
  have m2 : m / Nat.gcd m n ≤ 10 ^ 13 := Nat.le_trans (Nat.div_le_self _ _) hm
  have cg : Nat.gcd (m / Nat.gcd m n) (n / Nat.gcd m n) = 1 := Nat.coprime_div_gcd_div_gcd gp
  generalize m / Nat.gcd m n = x at *
  generalize n / Nat.gcd m n = y at *
  refine ⟨?_, ?_, ?_, ?_, ?_, nofun⟩
  · show (0 : Int) ≤ x; omega
  · show (x : Int) ≤ 10 ^ 13; omega
  · show (1 : Int) ≤ y; omega
  · show (y : Int) ≤ 40; omega
  · show Int.gcd x y = 1
    rw [Int.gcd_natCast_natCast]; exact cg
theorem comp_filter {α : Type} {T : Tg} {fc : Env → Res Bool} {fe : Env → Res D} {ρ : Env} {i o : α → D} {p : α → Bool} : ∀ (xs : List α), (∀ x ∈ xs, ∃ ρ', bindT T (i x) ρ = .ok ρ' ∧ fc ρ' = .ok (p x) ∧ fe ρ' = .ok (o x)) → compL T fc fe ρ (xs.map i) = .ok ((xs.filter p).map o)
  | [], _ => rfl
  | x :: xs, h => by
    obtain ⟨ρ', h1, h2, h3⟩ := h x (by simp)
    have ih := comp_filter xs fun y hy => h y (List.mem_cons_of_mem _ hy)
    rw [List.map_cons, compL]
    cases hp : p x <;> simp [h1, h2, h3, ih, hp]
theorem lc_filter {α : Type} {T : Tg} {fc : Env → Res Bool} {fe : Env → Res D} {ρ : Env} {i o : α → D} {p : α → Bool} {fi : Env → Res (List D)} {vs : List Nat} (xs : List α) (hi : fi ρ = .ok (xs.map i)) (hl : xs.length ≤ 16777216)
    (h : ∀ x ∈ xs, ∃ ρ', bindT T (i x) (wipeE ρ vs) = .ok ρ' ∧ fc ρ' = .ok (p x) ∧ fe ρ' = .ok (o x)) : lcD fi vs T fc fe ρ = .ok (.lst ((xs.filter p).map o)) := by
  unfold lcD
  rw [hi]
  simp [comp_filter xs h, hl, noExc, lenOk]
def Wt.nz : Wt → Bool
  | .n a => !decide (a = 0)
  | .p _ _ => true
theorem nz_eq (w : Wt) : Cm.h .ne w.d (.int 0) = .ok (.bl w.nz) := by
  cases w with
  | n a => exact ne_ints a 0
  | p a b => rfl
theorem nz_num {w : Wt} (h : w.Dr) : w.nz = decide (0 < w.num) := by
  cases w with
  | n a =>
    have h0 := h.o.lo
    have h0 : 0 ≤ a := h0
    show (!decide (a = 0)) = decide (0 < a)
    by_cases z : a = 0
    · subst z; rfl
    · rw [decide_eq_false z, decide_eq_true (by omega)]; rfl
  | p a b =>
    have := h.p a b rfl
    exact (decide_eq_true this).symm
theorem truth_filter {ws : List Wt} (h : ∀ w ∈ ws, w.Dr) : truth (.lst ((ws.filter Wt.nz).map Wt.d)) = .ok (someW ws) := by
  show Res.ok (!((ws.filter Wt.nz).map Wt.d).isEmpty) = _
  congr 1
  unfold someW
  induction ws with
  | nil => rfl
  | cons w ws ih =>
    have hw := nz_num (h w (by simp))
    rw [List.filter_cons, List.any_cons]
    by_cases z : w.nz = true
    · rw [if_pos z, ← hw, z]; rfl
    · have z' : w.nz = false := by simpa using z
      rw [if_neg z, ← hw, z', Bool.false_or]
      exact ih fun x hx => h x (List.mem_cons_of_mem _ hx)
def Wt.more (t : Nat) (w : Wt) : Wt := .p ((w.num.toNat * t) / Nat.gcd (w.num.toNat * t) (nden w) : Nat) (nden w / Nat.gcd (w.num.toNat * t) (nden w) : Nat)
theorem more_ok {w : Wt} (h : w.Dr) {t : Nat} (h6 : t ≤ 6) : (w.more t).Ok := by
  have n0 := h.o.lo
  have n1 := h.lo
  refine low_ok h.o.nd1 h.o.nd2 ?_
  have : w.num.toNat ≤ 10 ^ 12 := by omega
  have := Nat.mul_le_mul this h6
  omega
theorem more_eq {w : Wt} (h : w.Dr) {t : Nat} : (w.more t).num * w.den = t * w.num * (w.more t).den := by
  have n0 := h.o.lo
  have nd := h.o.nd
  have nd1 := h.o.nd1
  obtain ⟨u, hu⟩ := Int.eq_ofNat_of_zero_le n0
  have d1 : Nat.gcd (w.num.toNat * t) (nden w) ∣ w.num.toNat * t := Nat.gcd_dvd_left _ _
  have d2 : Nat.gcd (w.num.toNat * t) (nden w) ∣ nden w := Nat.gcd_dvd_right _ _
  have gp : 0 < Nat.gcd (w.num.toNat * t) (nden w) := Nat.gcd_pos_of_pos_right _ nd1
  show ((w.num.toNat * t / Nat.gcd (w.num.toNat * t) (nden w) : Nat) : Int) * w.den = t * w.num * ((nden w / Nat.gcd (w.num.toNat * t) (nden w) : Nat) : Int)
  rw [← nd, hu]
  have e : ((u : Int)).toNat = u := by omega
  rw [hu, e] at d1
  rw [hu, e] at d2
  rw [hu, e] at gp
  rw [e]
  generalize nden w = n at *
  generalize hg : Nat.gcd (u * t) n = g at *
  obtain ⟨x, hx⟩ := d1
  obtain ⟨y, hy⟩ := d2
  rw [hx, Nat.mul_div_cancel_left _ gp]
  have : n / g = y := by rw [hy, Nat.mul_div_cancel_left _ gp]
  rw [this]
  have key : x * n = t * u * y := by
    rw [hy]
    rw [show t * u = g * x from by rw [Nat.mul_comm t u, hx]]
    rw [Nat.mul_left_comm, ← Nat.mul_assoc]
  exact_mod_cast key
theorem whole_at {ws : List Wt} {i : Nat} (h : i < ws.length) : (wholes ws).getD i 0 = ws[i].num * ((com ws : Int) / ws[i].den) := by
  unfold wholes
  simp [List.getD, List.getElem?_eq_getElem h]
theorem com_q {ws : List Wt} (o : ∀ w ∈ ws, w.Ok) {w : Wt} (hw : w ∈ ws) : (com ws : Int) / w.den * w.den = com ws := by
  obtain ⟨k, hk⟩ := (com_of ws 1).2 w hw
  have hk : com ws = nden w * k := hk
  have ow := o w hw
  refine Int.ediv_mul_cancel ?_
  rw [← ow.nd, hk]
  exact ⟨k, by push_cast; rfl⟩
theorem part_more {a : Int} {ws : List Wt} (h : ∀ w ∈ ws, w.Dr) {t : Nat} (t1 : 1 ≤ t) (h6 : t ≤ 6) : part a (wholes (ws.map (Wt.more t))) = part a (wholes ws) := by
  have o : ∀ w ∈ ws, w.Ok := fun w hw => (h w hw).o
  have o' : ∀ w ∈ ws.map (Wt.more t), w.Ok := fun w hw => by
    obtain ⟨v, hv, rfl⟩ := List.mem_map.mp hw
    exact more_ok (h v hv) h6
  have p1 := (pos_of_dvd (com_dvd ws 1 o (by decide))).1
  have p2 := (pos_of_dvd (com_dvd _ 1 o' (by decide))).1
  have p1 : 0 < com ws := p1
  have p2 : 0 < com (ws.map (Wt.more t)) := p2
  refine part_scale (c := (com ws : Int)) (k := (t : Int) * (com (ws.map (Wt.more t)) : Nat)) (by omega) (Int.mul_pos (by omega) (by omega)) (by unfold wholes; simp) fun i => ?_
  by_cases hi : i < ws.length
  · have hi' : i < (ws.map (Wt.more t)).length := by simpa using hi
    have mem : ws[i] ∈ ws := List.getElem_mem hi
    have q1 := com_q o mem
    have q2 := com_q o' (List.getElem_mem hi')
    rw [whole_at hi, whole_at hi']
    rw [List.getElem_map] at q2 ⊢
    have me := more_eq (h _ mem) (t := t)
    have d0 : ws[i].den ≠ 0 := by have := (o _ mem).d1; omega
    generalize ((com (ws.map (Wt.more t)) : Nat) : Int) = c' at *
    generalize ((com ws : Nat) : Int) = c at *
    generalize (ws[i].more t).num = x' at *
    generalize hv : (ws[i].more t).den = y' at *
    generalize ws[i].num = x at *
    generalize ws[i].den = y at *
    generalize c / y = q at *
    generalize c' / y' = q' at *
    -- c = q y, c' = q' y', x' y = t x y'
    subst q1 q2
    calc q * y * (x' * q') = (x' * y) * (q * q') := by ac_rfl
      _ = (t * x * y') * (q * q') := by rw [me]
      _ = t * (q' * y') * (x * q) := by ac_rfl
  · have h1 : (wholes ws).getD i 0 = 0 := by unfold wholes; simp [List.getD, List.getElem?_eq_none (show ws.length ≤ i by omega)]
    have h2 : (wholes (ws.map (Wt.more t))).getD i 0 = 0 := by unfold wholes; simp [List.getD, List.getElem?_eq_none (show ws.length ≤ i by omega)]
    rw [h1, h2]; simp
theorem some_more {ws : List Wt} (h : ∀ w ∈ ws, w.Dr) {t : Nat} (t1 : 1 ≤ t) (hs : someW ws = true) : someW (ws.map (Wt.more t)) = true := by
  unfold someW at hs ⊢
  rw [List.any_eq_true] at hs ⊢
  obtain ⟨w, hw, hp⟩ := hs
  have hp : 0 < w.num := of_decide_eq_true hp
  refine ⟨w.more t, List.mem_map.mpr ⟨w, hw, rfl⟩, decide_eq_true ?_⟩
  have n0 : 1 ≤ w.num.toNat := by omega
  have m0 : 1 ≤ w.num.toNat * t := Nat.mul_pos n0 t1
  have gp : 0 < Nat.gcd (w.num.toNat * t) (nden w) := Nat.gcd_pos_of_pos_left _ m0
  have : 1 ≤ w.num.toNat * t / Nat.gcd (w.num.toNat * t) (nden w) := (Nat.one_le_div_iff gp).mpr (Nat.gcd_le_left _ m0)
  show (0 : Int) < ((w.num.toNat * t / Nat.gcd (w.num.toNat * t) (nden w) : Nat) : Int)
  omega
theorem tD_of {f : Env → Res D} {ρ : Env} {d : D} (h : f ρ = .ok d) : tD f ρ = truth d := by unfold tD; rw [h]; rfl
theorem iSeq_of {f : Env → Res D} {ρ : Env} {d : D} (h : f ρ = .ok d) : iSeq f ρ = itemsD d := by unfold iSeq; rw [h]; rfl
theorem lc_dr {ws : List Wt} (h : ∀ w ∈ ws, w.Dr) (hl : ws.length ≤ 300) {ρ : Env} (h4 : ρ[4]? = some (.val (.lst (ws.map Wt.d)))) (hn : ρ.length = 11) :
    tD (lcD (iSeq (eBor 4)) [10] (.nm 10) (tD (s2 (Cm.h .ne) (eBor 10) (s0 (.int 0)))) (eVar 10)) ρ = .ok (someW ws) := by
  have e : lcD (iSeq (eBor 4)) [10] (.nm 10) (tD (s2 (Cm.h .ne) (eBor 10) (s0 (.int 0)))) (eVar 10) ρ = .ok (.lst ((ws.filter Wt.nz).map Wt.d)) := by
    refine lc_filter (i := Wt.d) (o := Wt.d) (p := Wt.nz) ws ((IsSq.l rfl).bor h4) (by omega) fun w _ => ⟨_, rfl, ?_, ?_⟩
    · refine tD_bl ((s2_eq (d := w.d) (d' := .int 0) (bor_ok ?_) rfl).trans (nz_eq w))
      simp [wipeE, hn]
    · exact var_ok (by simp [wipeE, hn])
  exact (tD_of e).trans (truth_filter h)
def timesD (t : Nat) (w : Wt) : D := .tup [.int (w.num * t), .int w.den]
theorem ix_at {l : List Int} {k : Nat} (hk : k < l.length) {f f' : Env → Res D} {ρ : Env} (h : f ρ = .ok (.lst (l.map D.int))) (h' : f' ρ = .ok (.int (k : Int))) : s2 ixD f f' ρ = .ok (.int (l.getD k 0)) := (s2_eq h h').trans (ix_nat hk)
theorem addk {c : Int} {j k : Nat} {f : Env → Res D} {ρ : Env} (hc : c = (j : Int)) (h : f ρ = .ok (.int (k : Int))) : s2 addD (s0 (.int c)) f ρ = .ok (.int ((j + k : Nat) : Int)) := by
  rw [s2_eq (s0_ok _ _) h, add_ii, hc]
  push_cast
  rfl
theorem ix_hd (d : D) (l : List D) : ixD (.lst (d :: l)) (.int ((0 : Nat) : Int)) = .ok d := by
  dsimp only [ixD]
  rw [atI_nat (j := 0) (v := d) rfl]
theorem flat_rep (d : D) : ∀ m : Nat, (List.replicate m [d]).flatten = List.replicate m d
  | 0 => rfl
  | m + 1 => by rw [List.replicate_succ, List.flatten_cons, flat_rep d m, List.replicate_succ]; rfl
theorem for_same {body : Env → SO} {x y : Slot} : ∀ (ds : List D) (t : Slot), (∀ d ∈ ds, body [x, y, .val d] = .nx [x, y, .val d]) → ∃ t', forL (.nm 2) body ds [x, y, t] = .nx [x, y, t']
  | [], t, _ => ⟨t, rfl⟩
  | d :: ds, t, h => by
    obtain ⟨t', e⟩ := for_same ds (.val d) fun d' hd => h d' (List.mem_cons_of_mem _ hd)
    exact ⟨t', (forL_cons rfl (h d (by simp))).trans e⟩
theorem for_runs {body : Env → SO} {x : Slot} : ∀ (ks : List Nat) (t : Slot), (∀ k : Nat, body [x, .val (.int (k : Int)), .none] = .nx [x, .val (.int (k : Int)), .none]) → ∃ t', forL (.nm 1) body (ks.map fun k => D.int (k : Nat)) [x, t, .none] = .nx [x, t', .none]
  | [], t, _ => ⟨t, rfl⟩
  | k :: ks, t, h => by
    obtain ⟨t', e⟩ := for_runs ks (.val (.int (k : Int))) h
    refine ⟨t', ?_⟩
    rw [List.map_cons]
    exact (forL_cons rfl (h k)).trans e
def BA : List D := [.int (-1), .int 1000000000001, .bl true, .str "7", .non, .tup [.int 1, .int 2]]
def BW : List D := [.tup [], .tup [.int 0, .int 0], .tup [.int 1, .int (-1)], .tup [.int 1, .int 1000000000001], .tup [.bl true], .tup [.tup [.int 2, .int 4]], .tup [.tup [.int 0, .int 2]], .tup [.tup [.int 1, .int 0]], .tup [.int 1, .str "2"], .int 5, .lst (List.replicate 301 [.int 1]).flatten]
end PL
namespace PL
open PySem PySem.Spec L2
/-! SU: sorting whatever the sequence; how many unlike ones; loops that leave all as it is -/
open PySem.W in
theorem le_trans_d {β : Type} (k : β → PyData) (a b c : β) (h1 : dataLe false k a b = true) (h2 : dataLe false k b c = true) : dataLe false k a c = true := (sortLe_total (PyProof.Rows.listOrd PyProof.Rows.itemOrd) false fun b => keyToks (k b)).trans a b c h1 h2
open PySem.W in
theorem sort_perm {β : Type} (k : β → PyData) {l m : List β} (h : l.Perm m) (inj : ∀ a ∈ l, ∀ b ∈ l, keyToks (k a) = keyToks (k b) → a = b) : l.mergeSort (dataLe false k) = m.mergeSort (dataLe false k) := by
  have tot := sortLe_total (PyProof.Rows.listOrd PyProof.Rows.itemOrd) false fun b => keyToks (k b)
  have tr : ∀ a b c : β, dataLe false k a b = true → dataLe false k b c = true → dataLe false k a c = true := fun a b c => tot.trans a b c
  have to : ∀ a b : β, (dataLe false k a b || dataLe false k b a) = true := fun a b => by
    rcases tot.total a b with z | z
    · rw [show dataLe false k a b = true from z]; rfl
    · rw [show dataLe false k b a = true from z]; simp
  refine List.Perm.eq_of_pairwise (le := fun a b => dataLe false k a b = true) ?_ (List.pairwise_mergeSort tr to l) (List.pairwise_mergeSort tr to m) (((List.mergeSort_perm l _).trans h).trans (List.mergeSort_perm m _).symm)
  intro a b ha hb h1 h2
  have ha := (List.mergeSort_perm l _).mem_iff.mp ha
  have hb := h.mem_iff.mpr ((List.mergeSort_perm m _).mem_iff.mp hb)
  refine inj a ha b hb ?_
  have z1 : PyProof.Rows.lexLt PyProof.Rows.itemOrd (keyToks (k b)) (keyToks (k a)) = false := by
    have q : (!PyProof.Rows.lexLt PyProof.Rows.itemOrd (keyToks (k b)) (keyToks (k a))) = true := h1
    simpa using q
  have z2 : PyProof.Rows.lexLt PyProof.Rows.itemOrd (keyToks (k a)) (keyToks (k b)) = false := by
    have q : (!PyProof.Rows.lexLt PyProof.Rows.itemOrd (keyToks (k a)) (keyToks (k b))) = true := h2
    simpa using q
  exact (PyProof.Rows.listOrd PyProof.Rows.itemOrd).total _ _ z2 z1
open PySem.W in
theorem eqv_of_toks {p q : PyData} (h : alike p q = true) (e : keyToks p = keyToks q) : PyData.eqv p q = true := by
  cases hq : PyData.eqv p q with
  | true => rfl
  | false =>
    exfalso
    have z := (toks_eqv p q h).2 hq [] [Sum.inl 0]
    rw [← e] at z
    have y := lex_pre (keyToks p) [] [Sum.inl 0]
    have x := lex_pre (keyToks p) [] []
    rw [List.append_nil] at x y z
    rw [y, x] at z
    cases z
/-! ### unlike ones -/
theorem foldU_le {κ : Type} [DecidableEq κ] : ∀ (ks L : List κ), L.length ≤ (ks.foldl stepU L).length ∧ (ks.foldl stepU L).length ≤ L.length + ks.length
  | [], L => ⟨Nat.le_refl _, Nat.le_refl _⟩
  | k :: ks, L => by
    obtain ⟨a, b⟩ := foldU_le ks (stepU L k)
    have c := stepU_le L k
    have d : L.length ≤ (stepU L k).length := by unfold stepU; split <;> simp
    rw [List.foldl_cons, List.length_cons]; omega
theorem foldU_nodup {κ : Type} [DecidableEq κ] : ∀ (ks L : List κ), ks.Nodup → (∀ k ∈ ks, k ∉ L) → (ks.foldl stepU L).length = L.length + ks.length
  | [], L, _, _ => rfl
  | k :: ks, L, h, d => by
    obtain ⟨h1, h2⟩ := List.nodup_cons.mp h
    have e : stepU L k = k :: L := if_neg (d k List.mem_cons_self)
    rw [List.foldl_cons, e, foldU_nodup ks (k :: L) h2 fun j hj z => by
      rcases List.mem_cons.mp z with q | q
      · subst q; exact h1 hj
      · exact d j (List.mem_cons_of_mem _ hj) q]
    simp only [List.length_cons]; omega
theorem unl_nodup {κ : Type} [DecidableEq κ] {ks : List κ} (h : ks.Nodup) : (unl ks).length = ks.length := by
  have z := foldU_nodup ks [] h fun _ _ q => by cases q
  simpa [unl] using z
theorem foldU_mem {κ : Type} [DecidableEq κ] : ∀ (ks L : List κ) (k : κ), k ∈ L ∨ k ∈ ks → k ∈ ks.foldl stepU L
  | [], L, k, h => h.elim id fun z => by cases z
  | j :: ks, L, k, h => by
    rw [List.foldl_cons]
    refine foldU_mem ks _ k ?_
    unfold stepU
    rcases h with z | z
    · left; split
      · exact z
      · exact List.mem_cons_of_mem _ z
    · rcases List.mem_cons.mp z with y | y
      · left; subst y; split
        · assumption
        · exact List.mem_cons_self
      · exact .inr y
theorem unl_again {κ : Type} [DecidableEq κ] (ks : List κ) {k : κ} (h : k ∈ ks) : (unl (ks ++ [k])).length < (ks ++ [k]).length := by
  rw [unl_snoc]
  have m : k ∈ unl ks := foldU_mem ks [] k (.inr h)
  have l := unl_le ks
  unfold stepU
  rw [if_pos m, List.length_append, List.length_singleton]; omega
/-! ### loops -/
/-- a loop whose turns change nothing but the name i -/
theorem for_nop {body : Env → SO} {i : Nat} : ∀ (ds : List D) (ρ : Env), (∀ d ∈ ds, ∀ t : Slot, body ((ρ.set i t).set i (.val d)) = .nx ((ρ.set i t).set i (.val d))) → ∃ t, forL (.nm i) body ds ρ = .nx (ρ.set i t)
  | [], ρ, _ => by
    cases h : ρ[i]? with
    | none => exact ⟨.none, by rw [forL, List.set_eq_of_length_le (List.getElem?_eq_none_iff.mp h)]⟩
    | some t =>
      obtain ⟨hl, e⟩ := List.getElem?_eq_some_iff.mp h
      exact ⟨t, by rw [forL, ← e, List.set_getElem_self]⟩
  | d :: ds, ρ, h => by
    have b := h d List.mem_cons_self .none
    rw [List.set_set] at b
    rw [forL_cons (ρ1 := ρ.set i (.val d)) rfl b]
    have hn : ∀ x ∈ ds, ∀ t : Slot, body (((ρ.set i (.val d)).set i t).set i (.val x)) = .nx (((ρ.set i (.val d)).set i t).set i (.val x)) := fun x hx t => by
      have z := h x (List.mem_cons_of_mem _ hx) t
      rw [List.set_set] at z
      rw [List.set_set, List.set_set]
      exact z
    obtain ⟨t, e⟩ := for_nop (body := body) (i := i) ds (ρ.set i (.val d)) hn
    exact ⟨t, by rw [e, List.set_set]⟩
theorem all_true {α : Type} (l : List α) {f : α → Bool} (h : ∀ x ∈ l, f x = true) : allD [.lst (l.map fun x => D.bl (f x))] = .ok (.bl true) := by
  have e : (l.map fun x => D.bl (f x)) = (l.map f).map D.bl := by rw [List.map_map]; rfl
  rw [e, all_bls, List.all_map]
  exact congrArg (fun b => Res.ok (D.bl b)) (List.all_eq_true.mpr h)
theorem all_false {α : Type} (l : List α) {f : α → Bool} (h1 : l ≠ []) (h : ∀ x ∈ l, f x = false) : allD [.lst (l.map fun x => D.bl (f x))] = .ok (.bl false) := by
  have e : (l.map fun x => D.bl (f x)) = (l.map f).map D.bl := by rw [List.map_map]; rfl
  rw [e, all_bls, List.all_map]
  refine congrArg (fun b => Res.ok (D.bl b)) ?_
  cases l with
  | nil => exact absurd rfl h1
  | cons x l => simp [h x List.mem_cons_self]
end PL
namespace PL
noncomputable section
open PySem PySem.Spec L2
/-- a wish about the one exception class -/
def sb0 : Nat → Option Bool
  | 0 => some true
  | _ => none
theorem sb0_no {c : Nat} (h : sb0 c = some false) : False := by
  cases c with
  | zero => cases h
  | succ c => cases h
/-! printed by gen.py from the law landhold_k50_shared_and_filled: what each def computes -/
/-- is_int(value): 0 value -/
def f_is_int : Env → SO :=
  (sRet (sAnd (sIs ["int"] (eBor 0)) (sNot (sIs ["bool"] (eBor 0)))))
def h_is_int : List D → Res D := fnD 1 1 f_is_int
/-- is_int_from(value, low, high): 0 value, 1 low, 2 high -/
def f_is_int_from : Env → SO :=
  (sRet (sAnd (sN h_is_int (aC (eVar 0) aN)) (chainD (Cm.h (.ord .le)) (Cm.h (.ord .le)) (eBor 1) (eBor 0) (eBor 2))))
def h_is_int_from : List D → Res D := fnD 3 3 f_is_int_from
/-- is_sequence(value): 0 value -/
def f_is_sequence : Env → SO :=
  (sRet (sIs ["list", "tuple"] (eBor 0)))
def h_is_sequence : List D → Res D := fnD 1 1 f_is_sequence
/-- is_sequence_of(value, many): 0 value, 1 many -/
def f_is_sequence_of : Env → SO :=
  (sRet (sAnd (sN h_is_sequence (aC (eVar 0) aN)) (s2 (Cm.h .eq) (sN lenD (aC (eBor 0) aN)) (eBor 1))))
def h_is_sequence_of : List D → Res D := fnD 2 2 f_is_sequence_of
/-- frozen(value): 0 value, 1 part -/
def f_frozen (hself : List D → Res D) : Env → SO :=
  (sSeq (sIf (tD (sN h_is_sequence (aC (eVar 0) aN))) (sRet (sN tupleD (aC (lcD (iSeq (eBor 0)) [1] (.nm 1) tYs (sN hself (aC (eVar 1) aN))) aN))) sNx)
  (sRet (eVar 0)))
def h_frozen' : Nat → List D → Res D
  | 0 => fun _ => .bad
  | k + 1 => fnD 1 2 (f_frozen (h_frozen' k))
def h_frozen : List D → Res D := h_frozen' 4
/-- is_person(value): 0 value, 1 letter -/
def f_is_person : Env → SO :=
  (sSeq (sIf (tOr (tNt (tD (sIs ["str"] (eBor 0)))) (tNt (tD (chainD (Cm.h (.ord .le)) (Cm.h (.ord .le)) (s0 (.int 1)) (sN lenD (aC (eBor 0) aN)) (s0 (.int 8)))))) (sRet (s0 (.bl false))) sNx)
  (sSeq (sFor (.nm 1) (iSeqS (eVar 0)) (sIf (tD (s2 (memD true) (eBor 1) (s0 (.str "abcdefghijklmnopqrstuvwxyz")))) (sRet (s0 (.bl false))) sNx))
  (sRet (s0 (.bl true)))))
def h_is_person : List D → Res D := fnD 1 2 f_is_person
/-- is_ascending(value): 0 value, 1 at -/
def f_is_ascending : Env → SO :=
  (sSeq (sFor (.nm 1) (rng1 (s2 subD (sN lenD (aC (eBor 0) aN)) (s0 (.int 1)))) (sIf (tNt (tD (s2 (Cm.h (.ord .lt)) (s2 ixD (eBor 0) (eBor 1)) (s2 ixD (eBor 0) (s2 addD (eBor 1) (s0 (.int 1))))))) (sRet (s0 (.bl false))) sNx))
  (sRet (s0 (.bl true))))
def h_is_ascending : List D → Res D := fnD 1 2 f_is_ascending
/-- are_persons(value): 0 value, 1 person -/
def f_are_persons : Env → SO :=
  (sRet (sAnd (sN h_is_sequence (aC (eVar 0) aN)) (sAnd (sN allD (aC (lcD (iSeq (eBor 0)) [1] (.nm 1) tYs (sN h_is_person (aC (eVar 1) aN))) aN)) (sN h_is_ascending (aC (eVar 0) aN)))))
def h_are_persons : List D → Res D := fnD 1 2 f_are_persons
/-- is_group(value): 0 value -/
def f_is_group : Env → SO :=
  (sRet (sAnd (sN h_are_persons (aC (eVar 0) aN)) (chainD (Cm.h (.ord .le)) (Cm.h (.ord .le)) (s0 (.int 1)) (sN lenD (aC (eBor 0) aN)) (s0 (.int (6))))))
def h_is_group : List D → Res D := fnD 1 1 f_is_group
/-- check(holds, at): 0 holds, 1 at -/
def f_check : Env → SO :=
  (sIf (tNt (tD (eBor 0))) (sRaise 0 (eVar 1)) sNx)
def h_check : List D → Res D := fnD 2 2 f_check
/-- is_amount(value): 0 value -/
def f_is_amount : Env → SO :=
  (sRet (sN h_is_int_from (aC (eVar 0) (aC (s0 (.int 0)) (aC (s0 (.int (1000000000000))) aN)))))
def h_is_amount : List D → Res D := fnD 1 1 f_is_amount
/-- is_weight(value): 0 value -/
def f_is_weight : Env → SO :=
  (sSeq (sIf (tNt (tD (sN h_is_sequence (aC (eVar 0) aN)))) (sRet (sN h_is_amount (aC (eVar 0) aN))) sNx)
  (sSeq (sIf (tOr (tNt (tD (sN h_is_sequence_of (aC (eVar 0) (aC (s0 (.int 2)) aN))))) (tOr (tNt (tD (sN h_is_int (aC (s2 ixD (eBor 0) (s0 (.int 0))) aN)))) (tNt (tD (sN h_is_int (aC (s2 ixD (eBor 0) (s0 (.int 1))) aN)))))) (sRet (s0 (.bl false))) sNx)
  (sSeq (sIf (tOr (tNt (tD (chainD (Cm.h (.ord .le)) (Cm.h (.ord .le)) (s0 (.int 0)) (s2 ixD (eBor 0) (s0 (.int 0))) (s0 (.int (1000000000000000000000000000000)))))) (tNt (tD (chainD (Cm.h (.ord .le)) (Cm.h (.ord .le)) (s0 (.int 1)) (s2 ixD (eBor 0) (s0 (.int 1))) (s0 (.int (1000000000000000000000000000000))))))) (sRet (s0 (.bl false))) sNx)
  (sRet (s2 (Cm.h .eq) (sN gcdD (aC (s2 ixD (eBor 0) (s0 (.int 0))) (aC (s2 ixD (eBor 0) (s0 (.int 1))) aN))) (s0 (.int 1)))))))
def h_is_weight : List D → Res D := fnD 1 1 f_is_weight
/-- pair_of(weight): 0 weight -/
def f_pair_of : Env → SO :=
  (sRet (sIte (tD (sN h_is_sequence (aC (eVar 0) aN))) (eVar 0) (sN mkTup (aC (eVar 0) (aC (s0 (.int 1)) aN)))))
def h_pair_of : List D → Res D := fnD 1 1 f_pair_of
/-- is_some_weight(weights): 0 weights, 1 weight -/
def f_is_some_weight : Env → SO :=
  (sRet (sN anyD (aC (lcD (iSeq (eBor 0)) [1] (.nm 1) tYs (s2 (Cm.h (.ord .gt)) (s2 ixD (sN h_pair_of (aC (eVar 1) aN)) (s0 (.int 0))) (s0 (.int 0)))) aN)))
def h_is_some_weight : List D → Res D := fnD 1 2 f_is_some_weight
/-- are_weights(value): 0 value, 1 weight -/
def f_are_weights : Env → SO :=
  (sSeq (sIf (tOr (tNt (tD (sN h_is_sequence (aC (eVar 0) aN)))) (tNt (tD (chainD (Cm.h (.ord .le)) (Cm.h (.ord .le)) (s0 (.int 1)) (sN lenD (aC (eBor 0) aN)) (s0 (.int (300))))))) (sRet (s0 (.bl false))) sNx)
  (sRet (sAnd (sN allD (aC (lcD (iSeq (eBor 0)) [1] (.nm 1) tYs (sN h_is_weight (aC (eVar 1) aN))) aN)) (sN h_is_some_weight (aC (eVar 0) aN)))))
def h_are_weights : List D → Res D := fnD 1 2 f_are_weights
/-- are_amounts(value, most): 0 value, 1 most, 2 member -/
def f_are_amounts : Env → SO :=
  (sRet (sAnd (sN h_is_sequence (aC (eVar 0) aN)) (sAnd (s2 (Cm.h (.ord .le)) (sN lenD (aC (eBor 0) aN)) (eBor 1)) (sN allD (aC (lcD (iSeq (eBor 0)) [2] (.nm 2) tYs (sN h_is_amount (aC (eVar 2) aN))) aN)))))
def h_are_amounts : List D → Res D := fnD 2 3 f_are_amounts
/-- whole_weights(weights): 0 weights, 1 pairs, 2 common, 3 pair, 4 weight -/
def f_whole_weights : Env → SO :=
  (sSeq (sSet 1 (lcD (iSeq (eBor 0)) [4] (.nm 4) tYs (sN h_pair_of (aC (eVar 4) aN))))
  (sSeq (sSet 2 (s0 (.int 1)))
  (sSeq (sFor (.nm 3) (iSeq (eVar 1)) (sSet 2 (sN lcmD (aC (eBor 2) (aC (s2 ixD (eBor 3) (s0 (.int 1))) aN)))))
  (sRet (lcD (iSeq (eBor 1)) [3] (.nm 3) tYs (s2 mulD (s2 ixD (eBor 3) (s0 (.int 0))) (s2 fdivD (eBor 2) (s2 ixD (eBor 3) (s0 (.int 1))))))))))
def h_whole_weights : List D → Res D := fnD 1 5 f_whole_weights
/-- parted_by(amount, weights): 0 amount, 1 weights, 2 wholes, 3 together, 4 gets, 5 left, 6 places, 7 at, 8 cut, 9 whole -/
def f_parted_by : Env → SO :=
  (sSeq (sSet 2 (sN h_whole_weights (aC (eVar 1) aN)))
  (sSeq (sSet 3 (sN sumD (aC (eBor 2) aN)))
  (sSeq (sOwn 4 (lcD (iSeq (eBor 2)) [9] (.nm 9) tYs (s2 fdivD (s2 mulD (eBor 0) (eBor 9)) (eBor 3))))
  (sSeq (sSet 8 (lcD (iSeq (eBor 2)) [9] (.nm 9) tYs (s2 modD (s2 mulD (eBor 0) (eBor 9)) (eBor 3))))
  (sSeq (sSet 5 (s2 subD (eBor 0) (sN sumD (aC (eBor 4) aN))))
  (sSeq (sSet 6 (sKey 2 [8] (lRg (r1 (sN lenD (aC (eBor 2) aN)))) (sN mkTup (aC (s1 negD (s2 ixD (eBor 1) (eBor 0))) (aC (eVar 0) aN)))))
  (sSeq (sFor (.nm 7) (iSeq (sSl slL (eBor 6) oN (oS (eBor 5)))) (sAugIx 4 (fun a b => a + b) (eVar 7) (s0 (.int 1))))
  (sRet (sN tupleD (aC (eBor 4) aN))))))))))
def h_parted_by : List D → Res D := fnD 2 10 f_parted_by
/-- filled_by(amount, sums): 0 amount, 1 sums, 2 gets, 3 left, 4 part, 5 paid -/
def f_filled_by : Env → SO :=
  (sSeq (sOwn 2 (sN mkLst aN))
  (sSeq (sSet 3 (eVar 0))
  (sSeq (sFor (.nm 4) (iSeq (eVar 1)) (sSeq (sSet 5 (sN min2D (aC (eBor 4) (aC (eBor 3) aN))))
  (sSeq (sAug 3 (fun a b => a - b) (eVar 5))
  (sApp 2 (eVar 5)))))
  (sRet (sN mkTup (aC (sN tupleD (aC (eBor 2) aN)) (aC (eVar 3) aN)))))))
def h_filled_by : List D → Res D := fnD 2 6 f_filled_by
/-- parted(amount, weights): 0 amount, 1 weights -/
def f_parted : Env → SO :=
  (sSeq (sDrop (sN h_check (aC (sN h_is_amount (aC (eVar 0) aN)) (aC (s0 (.int 1)) aN))))
  (sSeq (sDrop (sN h_check (aC (sN h_are_weights (aC (eVar 1) aN)) (aC (s0 (.int 2)) aN))))
  (sRet (sN h_parted_by (aC (eVar 0) (aC (eVar 1) aN))))))
def h_parted : List D → Res D := fnD 2 2 f_parted
/-- _are_names(names): 0 names, 1 alike, 2 name -/
def f__are_names : Env → SO :=
  (sSeq (sSet 1 (sN allD (aC (lcD (iSeq (eBor 0)) [2] (.nm 2) tYs (sN h_is_int (aC (eVar 2) aN))) aN)))
  (sSeq (sSet 1 (sOr (eVar 1) (sN allD (aC (lcD (iSeq (eBor 0)) [2] (.nm 2) tYs (sIs ["str"] (eBor 2))) aN))))
  (sSeq (sSet 1 (sOr (eVar 1) (sN allD (aC (lcD (iSeq (eBor 0)) [2] (.nm 2) tYs (sN h_is_group (aC (eVar 2) aN))) aN))))
  (sRet (sAnd (eVar 1) (s2 (Cm.h .eq) (s1 lenSetD (eBor 0)) (sN lenD (aC (eBor 0) aN))))))))
def h__are_names : List D → Res D := fnD 1 3 f__are_names
/-- are_claims(value): 0 value, 1 pair -/
def f_are_claims : Env → SO :=
  (sSeq (sIf (tOr (tNt (tD (sN h_is_sequence (aC (eVar 0) aN)))) (tNt (tD (chainD (Cm.h (.ord .le)) (Cm.h (.ord .le)) (s0 (.int 1)) (sN lenD (aC (eBor 0) aN)) (s0 (.int (300))))))) (sRet (s0 (.bl false))) sNx)
  (sSeq (sIf (tNt (tD (sN allD (aC (lcD (iSeq (eBor 0)) [1] (.nm 1) tYs (sAnd (sN h_is_sequence_of (aC (eVar 1) (aC (s0 (.int 2)) aN))) (sN h_is_weight (aC (s2 ixD (eBor 1) (s0 (.int 1))) aN)))) aN)))) (sRet (s0 (.bl false))) sNx)
  (sSeq (sIf (tNt (tD (sN allD (aC (lcD (iSeq (eBor 0)) [1] (.nm 1) tYs (sOr (sN h_is_int (aC (s2 ixD (eBor 1) (s0 (.int 0))) aN)) (sOr (sIs ["str"] (s2 ixD (eBor 1) (s0 (.int 0)))) (sN h_is_group (aC (s2 ixD (eBor 1) (s0 (.int 0))) aN))))) aN)))) (sRet (s0 (.bl false))) sNx)
  (sRet (sAnd (sN h__are_names (aC (lcD (iSeq (eBor 0)) [1] (.nm 1) tYs (sN h_frozen (aC (s2 ixD (eBor 1) (s0 (.int 0))) aN))) aN)) (sN h_is_some_weight (aC (lcD (iSeq (eBor 0)) [1] (.nm 1) tYs (s2 ixD (eBor 1) (s0 (.int 1)))) aN)))))))
def h_are_claims : List D → Res D := fnD 1 2 f_are_claims
/-- shared_by(amount, claims): 0 amount, 1 claims, 2 told, 3 gets, 4 _, 5 weight, 6 pair, 7 part -/
def f_shared_by : Env → SO :=
  (sSeq (sSet 2 (sKey 1 [] (sN listD (aC (eBor 1) aN)) (s2 ixD (eBor 0) (s0 (.int 0)))))
  (sSeq (sSet 3 (sN h_parted_by (aC (eVar 0) (aC (lcD (iSeq (eBor 2)) [4, 5] (.tp [(.nm 4), (.nm 5)]) tYs (eVar 5)) aN))))
  (sRet (sN tupleD (aC (lcD (zipE (aC (eBor 2) (aC (eBor 3) aN))) [6, 7] (.tp [(.nm 6), (.nm 7)]) tYs (sN mkTup (aC (s2 ixD (eBor 6) (s0 (.int 0))) (aC (eVar 7) aN)))) aN)))))
def h_shared_by : List D → Res D := fnD 2 8 f_shared_by
/-- shared(amount, claims): 0 amount, 1 claims -/
def f_shared : Env → SO :=
  (sSeq (sDrop (sN h_check (aC (sN h_is_amount (aC (eVar 0) aN)) (aC (s0 (.int 1)) aN))))
  (sSeq (sDrop (sN h_check (aC (sN h_are_claims (aC (eVar 1) aN)) (aC (s0 (.int 2)) aN))))
  (sRet (sN h_shared_by (aC (eVar 0) (aC (sN h_frozen (aC (eVar 1) aN)) aN))))))
def h_shared : List D → Res D := fnD 2 2 f_shared
/-- filled(amount, sums): 0 amount, 1 sums -/
def f_filled : Env → SO :=
  (sSeq (sDrop (sN h_check (aC (sN h_is_amount (aC (eVar 0) aN)) (aC (s0 (.int 1)) aN))))
  (sSeq (sDrop (sN h_check (aC (sN h_are_amounts (aC (eVar 1) (aC (s0 (.int (300))) aN))) (aC (s0 (.int 2)) aN))))
  (sRet (sN h_filled_by (aC (eVar 0) (aC (eVar 1) aN))))))
def h_filled : List D → Res D := fnD 2 2 f_filled
/-- _law_draws(script, place, many): 0 script, 1 place, 2 many, 3 cell, 4 numbers, 5 rest, 6 k, 7 first -/
def f__law_draws : Env → SO :=
  (sSeq (sSet 3 (sIte (tD (s2 (Cm.h (.ord .lt)) (eBor 1) (sN lenD (aC (eBor 0) aN)))) (s2 ixD (eBor 0) (eBor 1)) (s2 addD (s2 mulD (s0 (.int 7)) (eBor 1)) (s0 (.int 3)))))
  (sSeq (sOwn 4 (sN mkLst aN))
  (sSeq (sSet 5 (eVar 3))
  (sSeq (sFor (.nm 6) (rng1 (eBor 2)) (sIf (tD (s2 (Cm.h (.ord .ge)) (eBor 3) (s2 powD (s0 (.int 10)) (s0 (.int 18))))) (sSeq (sApp 4 (s2 modD (sN intD (aC (eBor 5) aN)) (s2 powD (s0 (.int 10)) (s0 (.int 9)))))
  (sSet 5 (s2 fdivD (eBor 5) (s2 powD (s0 (.int 10)) (s0 (.int 9)))))) (sSeq (sSet 7 (s2 modD (sN intD (aC (s2 addD (s2 addD (s2 mulD (sN absD (aC (eBor 3) aN)) (s0 (.int 69069))) (s2 mulD (s2 addD (eBor 6) (s0 (.int 1))) (s0 (.int 39916801)))) (s2 mulD (eBor 1) (s0 (.int 7919)))) aN)) (s0 (.int 2147483647))))
  (sApp 4 (s2 modD (s2 modD (sN intD (aC (s2 addD (s2 mulD (eBor 7) (s0 (.int 48271))) (s2 mulD (s2 addD (eBor 6) (s0 (.int 5))) (s0 (.int 16807)))) aN)) (s0 (.int 2147483629))) (s2 powD (s0 (.int 10)) (s0 (.int 9))))))))
  (sFrz 4 (sRet (eVar 4)))))))
def h__law_draws : List D → Res D := fnD 3 8 f__law_draws
/-- _law_same(actual, due): 0 actual, 1 due, 2 k -/
def f__law_same (hself : List D → Res D) : Env → SO :=
  (sSeq (sIf (tAn (tD (sIs ["tuple"] (eBor 1))) (tAn (tD (sIs ["tuple"] (eBor 0))) (tD (s2 (Cm.h .eq) (sN lenD (aC (eBor 0) aN)) (sN lenD (aC (eBor 1) aN)))))) (sRet (sN allD (aC (lcD (rng1 (sN lenD (aC (eBor 1) aN))) [2] (.nm 2) tYs (sN hself (aC (s2 ixD (eBor 0) (eBor 2)) (aC (s2 ixD (eBor 1) (eBor 2)) aN)))) aN))) sNx)
  (sSeq (sIf (tD (s2 (Cm.h .is) (eBor 1) (s0 .non))) (sRet (s2 (Cm.h .is) (eBor 0) (s0 .non))) sNx)
  (sSeq (sIf (tOr (tD (s2 (Cm.h .ne) (sIs ["bool"] (eBor 0)) (sIs ["bool"] (eBor 1)))) (tD (s2 (Cm.h .ne) (sIs ["str"] (eBor 0)) (sIs ["str"] (eBor 1))))) (sRet (s0 (.bl false))) sNx)
  (sRet (sAnd (sIs ["int", "str"] (eBor 0)) (s2 (Cm.h .eq) (eBor 0) (eBor 1)))))))
def h__law_same' : Nat → List D → Res D
  | 0 => fun _ => .bad
  | k + 1 => fnD 2 3 (f__law_same (h__law_same' k))
def h__law_same : List D → Res D := h__law_same' 4
/-- _law_divisor(one, other): 0 one, 1 other, 2 k, 3 rest -/
def f__law_divisor : Env → SO :=
  (sSeq (sSet 0 (sN absD (aC (eBor 0) aN)))
  (sSeq (sFor (.nm 2) (rng1 (s0 (.int 4000))) (sSeq (sIf (tD (s2 (Cm.h .eq) (eBor 1) (s0 (.int 0)))) sBk sNx)
  (sSeq (sSet 3 (s2 modD (sN intD (aC (eBor 0) aN)) (eBor 1)))
  (sSeq (sSet 0 (eVar 1))
  (sSet 1 (eVar 3))))))
  (sRet (eVar 0))))
def h__law_divisor : List D → Res D := fnD 2 4 f__law_divisor
/-- _law_low(above, below): 0 above, 1 below, 2 shares_of -/
def f__law_low : Env → SO :=
  (sSeq (sSet 2 (sN h__law_divisor (aC (eVar 0) (aC (eVar 1) aN))))
  (sRet (sN mkTup (aC (s2 fdivD (eBor 0) (eBor 2)) (aC (s2 fdivD (eBor 1) (eBor 2)) aN)))))
def h__law_low : List D → Res D := fnD 2 3 f__law_low
/-- _law_names(numbers, many): 0 numbers, 1 many, 2 letters, 3 words, 4 k, 5 word, 6 sort, 7 groups, 8 other, 9 more -/
def f__law_names : Env → SO :=
  (sSeq (sSet 2 (s0 (.str "abcdefghijklmnopqrstuvwxyz")))
  (sSeq (sOwn 3 (sN mkLst aN))
  (sSeq (sFor (.nm 4) (rng1 (eBor 1)) (sSeq (sSet 5 (s2 addD (s2 repS (s2 ixD (eBor 2) (s2 modD (sN intD (aC (s2 ixD (eBor 0) (eBor 4)) aN)) (s0 (.int 3)))) (s2 modD (sN intD (aC (s2 fdivD (s2 ixD (eBor 0) (eBor 4)) (s0 (.int 26))) aN)) (s0 (.int 3)))) (s2 ixD (eBor 2) (eBor 4))))
  (sApp 3 (eVar 5))))
  (sSeq (sSet 6 (s2 modD (sN intD (aC (s2 ixD (eBor 0) (s0 (.int 9))) aN)) (s0 (.int 3))))
  (sSeq (sIf (tD (s2 (Cm.h .eq) (eBor 6) (s0 (.int 0)))) (sRet (lcD (rng1 (eBor 1)) [4] (.nm 4) tYs (s2 subD (s2 addD (s2 mulD (s2 modD (sN intD (aC (s2 ixD (eBor 0) (eBor 4)) aN)) (s0 (.int 1000))) (s0 (.int 10))) (eBor 4)) (s0 (.int 300))))) sNx)
  (sSeq (sIf (tD (s2 (Cm.h .eq) (eBor 6) (s0 (.int 1)))) (sFrz 3 (sRet (eVar 3))) sNx)
  (sSeq (sOwn 7 (sN mkLst aN))
  (sSeq (sFrz 3 (sFor (.nm 5) (iSeq (eVar 3)) (sSeq (sSet 8 (s1 revD (eVar 5)))
  (sSeq (sSet 9 (s2 addD (s0 (.str "z")) (sSl slT (eBor 8) oN (oS (s2 addD (s2 modD (sN intD (aC (s2 ixD (eBor 0) (s0 (.int 10))) aN)) (s0 (.int 2))) (s0 (.int 1)))))))
  (sApp 7 (sIte (tD (s2 (Cm.h .eq) (s2 modD (sN intD (aC (s2 fdivD (s2 ixD (eBor 0) (s0 (.int 10))) (sN lenD (aC (s2 catD (eBor 7) (sN mkLst (aC (s0 (.int 0)) aN))) aN))) aN)) (s0 (.int 2))) (s0 (.int 0)))) (sN mkTup (aC (eVar 5) aN)) (sN tupleD (aC (sN sortedD (aC (sN mkLst (aC (eVar 5) (aC (eVar 9) aN))) aN)) aN))))))))
  (sFrz 7 (sRet (sIte (tD (s2 (Cm.h .eq) (s1 lenSetD (eBor 7)) (sN lenD (aC (eBor 7) aN)))) (eVar 7) (lcD (iSeq (eBor 3)) [5] (.nm 5) tYs (sN mkTup (aC (eVar 5) aN))))))))))))))
def h__law_names : List D → Res D := fnD 2 10 f__law_names
/-- _law_weights(numbers, many): 0 numbers, 1 many, 2 weights, 3 k, 4 number, 5 found, 6 weight -/
def f__law_weights : Env → SO :=
  (sSeq (sOwn 2 (sN mkLst aN))
  (sSeq (sFor (.nm 3) (rng1 (eBor 1)) (sSeq (sSet 4 (sN intD (aC (s2 ixD (eBor 0) (s2 addD (s0 (.int 12)) (eBor 3))) aN)))
  (sApp 2 (s2 ixD (sN mkLst (aC (s0 (.int 0)) (aC (s2 modD (eBor 4) (s0 (.int 30))) (aC (sN mkTup (aC (s2 addD (s0 (.int 1)) (s2 modD (eBor 4) (s0 (.int 7)))) (aC (s0 (.int 8)) aN))) (aC (eVar 4) aN))))) (s2 modD (s2 fdivD (eBor 4) (s0 (.int 1000))) (s0 (.int 4)))))))
  (sSeq (sOwn 5 (sN mkLst aN))
  (sSeq (sFrz 2 (sFor (.nm 6) (iSeq (eVar 2)) (sApp 5 (sIte (tD (sIs ["tuple"] (eBor 6))) (sN h__law_low (aC (s2 ixD (eBor 6) (s0 (.int 0))) (aC (s2 ixD (eBor 6) (s0 (.int 1))) aN))) (eVar 6)))))
  (sSeq (sIf (tNt (tD (lcD (iSeq (eBor 5)) [6] (.nm 6) (tD (s2 (Cm.h .ne) (eBor 6) (s0 (.int 0)))) (eVar 6)))) (sSetIx 5 (s0 (.int 0)) (s0 (.int 1))) sNx)
  (sFrz 5 (sRet (eVar 5))))))))
def h__law_weights : List D → Res D := fnD 2 7 f__law_weights
/-- _law_turned(rows, number): 0 rows, 1 number, 2 rest, 3 found, 4 k -/
def f__law_turned : Env → SO :=
  (sSeq (sOwn 2 (sN listD (aC (eBor 0) aN)))
  (sSeq (sOwn 3 (sN mkLst aN))
  (sSeq (sFor (.nm 4) (rng1 (sN lenD (aC (eBor 0) aN))) (sAppPop 3 2 (s2 modD (sN intD (aC (s2 fdivD (eBor 1) (s2 addD (eBor 4) (s0 (.int 1)))) aN)) (sN lenD (aC (eBor 2) aN)))))
  (sFrz 3 (sRet (eVar 3))))))
def h__law_turned : List D → Res D := fnD 2 5 f__law_turned
/-- _law_refused(amount, claims, spot): 0 amount, 1 claims, 2 spot, 3 error -/
def f__law_refused : Env → SO :=
  (sSeq (sTryAt 3 (sDrop (sN h_shared (aC (eVar 0) (aC (eVar 1) aN)))) sb0 (eVar 2))
  (sRet (s0 (.bl false))))
def h__law_refused : List D → Res D := fnD 3 4 f__law_refused
/-- _law_shared(numbers): 0 numbers, 1 many, 2 names, 3 weights, 4 claims, 5 amount, 6 rows, 7 gets, 8 due, 9 turn, 10 k, 11 row -/
def f__law_shared : Env → SO :=
  (sSeq (sSet 1 (s2 addD (s0 (.int 1)) (s2 modD (sN intD (aC (s2 ixD (eBor 0) (s0 (.int 8))) aN)) (s0 (.int 9)))))
  (sSeq (sSet 2 (sN h__law_names (aC (eVar 0) (aC (eVar 1) aN))))
  (sSeq (sSet 3 (sN h__law_weights (aC (eVar 0) (aC (eVar 1) aN))))
  (sSeq (sSet 4 (lcD (rng1 (eBor 1)) [10] (.nm 10) tYs (sN mkTup (aC (s2 ixD (eBor 2) (eBor 10)) (aC (s2 ixD (eBor 3) (eBor 10)) aN)))))
  (sSeq (sSet 5 (s2 modD (sN intD (aC (s2 addD (s2 mulD (s2 ixD (eBor 0) (s0 (.int 21))) (s0 (.int 997))) (s2 ixD (eBor 0) (s0 (.int 22)))) aN)) (s2 addD (s2 powD (s0 (.int 10)) (s0 (.int 12))) (s0 (.int 1)))))
  (sSeq (sSet 6 (sKey 1 [] (eBor 4) (s2 ixD (eBor 0) (s0 (.int 0)))))
  (sSeq (sSet 7 (sN h_parted (aC (eVar 5) (aC (lcD (iSeq (eBor 6)) [11] (.nm 11) tYs (s2 ixD (eBor 11) (s0 (.int 1)))) aN))))
  (sSeq (sSet 8 (sN tupleD (aC (lcD (rng1 (eBor 1)) [10] (.nm 10) tYs (sN mkTup (aC (s2 ixD (s2 ixD (eBor 6) (eBor 10)) (s0 (.int 0))) (aC (s2 ixD (eBor 7) (eBor 10)) aN)))) aN)))
  (sSeq (sFor (.nm 9) (iSeq (sN mkTup (aC (s2 ixD (eBor 0) (s0 (.int 23))) (aC (s2 ixD (eBor 0) (s0 (.int 24))) aN)))) (sIf (tNt (tD (sN h__law_same (aC (sN h_shared (aC (eVar 5) (aC (sN tupleD (aC (sN h__law_turned (aC (eVar 4) (aC (eVar 9) aN))) aN)) aN))) (aC (eVar 8) aN))))) (sRet (s0 (.bl false))) sNx))
  (sRet (sN h__law_refused (aC (eVar 5) (aC (s2 catD (eBor 4) (sN mkLst (aC (s2 ixD (eBor 4) (s0 (.int 0))) aN))) (aC (s0 (.int 2)) aN))))))))))))))
def h__law_shared : List D → Res D := fnD 1 12 f__law_shared
/-- _law_filled(numbers): 0 numbers, 1 many, 2 sums, 3 whole, 4 amount, 5 left, 6 gets, 7 one, 8 k -/
def f__law_filled : Env → SO :=
  (sSeq (sSet 1 (s2 modD (sN intD (aC (s2 ixD (eBor 0) (s0 (.int 8))) aN)) (s0 (.int 10))))
  (sSeq (sSet 2 (lcD (rng1 (eBor 1)) [8] (.nm 8) tYs (s2 modD (sN intD (aC (s2 ixD (eBor 0) (eBor 8)) aN)) (s2 ixD (sN mkLst (aC (s0 (.int 1)) (aC (s0 (.int 50)) (aC (s2 powD (s0 (.int 10)) (s0 (.int 9))) aN)))) (s2 modD (sN intD (aC (s2 fdivD (s2 ixD (eBor 0) (eBor 8)) (s0 (.int 50))) aN)) (s0 (.int 3)))))))
  (sSeq (sSet 3 (sN sumD (aC (eBor 2) aN)))
  (sSeq (sFor (.nm 4) (iSeq (sN mkTup (aC (s0 (.int 0)) (aC (s2 fdivD (eBor 3) (s0 (.int 2))) (aC (sN max2D (aC (s0 (.int 0)) (aC (s2 subD (eBor 3) (s0 (.int 1))) aN))) (aC (eVar 3) (aC (s2 addD (eBor 3) (s0 (.int 5))) (aC (s2 modD (sN intD (aC (s2 ixD (eBor 0) (s0 (.int 25))) aN)) (s2 addD (eBor 3) (s0 (.int 1)))) aN)))))))) (sSeq (sSet 5 (eVar 4))
  (sSeq (sOwn 6 (sN mkLst aN))
  (sSeq (sFor (.nm 7) (iSeq (eVar 2)) (sSeq (sApp 6 (sN min2D (aC (eBor 7) (aC (eBor 5) aN))))
  (sSet 5 (s2 subD (eBor 5) (s2 ixD (eBor 6) (s1 negD (s0 (.int 1))))))))
  (sIf (tNt (tD (sN h__law_same (aC (sN h_filled (aC (eVar 4) (aC (sN tupleD (aC (eBor 2) aN)) aN))) (aC (sN mkTup (aC (sN tupleD (aC (eBor 6) aN)) (aC (eVar 5) aN))) aN))))) (sRet (s0 (.bl false))) sNx)))))
  (sRet (s0 (.bl true)))))))
def h__law_filled : List D → Res D := fnD 1 9 f__law_filled
/-- _law_wrong_filled(amount, sums, spot): 0 amount, 1 sums, 2 spot, 3 error -/
def f__law_wrong_filled : Env → SO :=
  (sSeq (sTryAt 3 (sDrop (sN h_filled (aC (eVar 0) (aC (eVar 1) aN)))) sb0 (eVar 2))
  (sRet (s0 (.bl false))))
def h__law_wrong_filled : List D → Res D := fnD 3 4 f__law_wrong_filled
/-- law(script): 0 script, 1 run, 2 numbers, 3 wrong -/
def f_law : Env → SO :=
  (sSeq (sFor (.nm 1) (rng1 (s0 (.int 6))) (sSeq (sSet 2 (sN h__law_draws (aC (eVar 0) (aC (eVar 1) (aC (s0 (.int 30)) aN)))))
  (sIf (tOr (tNt (tD (sN h__law_shared (aC (eVar 2) aN)))) (tNt (tD (sN h__law_filled (aC (eVar 2) aN))))) (sRet (s0 (.bl false))) sNx)))
  (sSeq (sFor (.nm 3) (iSeq (sN mkLst (aC (sN mkTup aN) (aC (sN mkTup (aC (sN mkTup (aC (s0 (.int 1)) (aC (s0 (.int 0)) aN))) aN)) (aC (sN mkTup (aC (sN mkTup (aC (s0 (.int 1)) (aC (s0 (.int 1)) aN))) (aC (sN mkTup (aC (s0 (.str "a")) (aC (s0 (.int 1)) aN))) aN))) (aC (sN mkTup (aC (sN mkTup (aC (s0 (.str "ann")) (aC (s0 (.int 1)) aN))) (aC (sN mkTup (aC (sN mkTup (aC (s0 (.str "ann")) aN)) (aC (s0 (.int 1)) aN))) aN))) (aC (sN mkTup (aC (sN mkTup (aC (s0 (.int 1)) (aC (s0 (.int 1)) aN))) (aC (sN mkTup (aC (s0 (.int 1)) (aC (s0 (.int 2)) aN))) aN))) (aC (sN mkTup (aC (sN mkTup (aC (s0 (.int 1)) aN)) aN)) (aC (s0 (.int 3)) aN))))))))) (sIf (tNt (tD (sN h__law_refused (aC (s0 (.int 5)) (aC (eVar 3) (aC (s0 (.int 2)) aN)))))) (sRet (s0 (.bl false))) sNx))
  (sSeq (sIf (tOr (tNt (tD (sN h__law_refused (aC (s1 negD (s0 (.int 1))) (aC (sN mkTup (aC (sN mkTup (aC (s0 (.int 1)) (aC (s0 (.int 1)) aN))) aN)) (aC (s0 (.int 1)) aN)))))) (tNt (tD (sN h__law_refused (aC (s0 (.int 5)) (aC (sN mkTup (aC (sN mkTup (aC (sN mkTup (aC (s0 (.str "ann")) aN)) (aC (s0 (.int 1)) aN))) (aC (sN mkTup (aC (sN mkLst (aC (s0 (.str "ann")) aN)) (aC (s0 (.int 1)) aN))) aN))) (aC (s0 (.int 2)) aN))))))) (sRet (s0 (.bl false))) sNx)
  (sRet (sAnd (sN h__law_wrong_filled (aC (s1 negD (s0 (.int 1))) (aC (sN mkTup (aC (s0 (.int 1)) aN)) (aC (s0 (.int 1)) aN)))) (sAnd (sN h__law_wrong_filled (aC (s0 (.int 1)) (aC (sN mkTup (aC (s0 (.int 1)) (aC (s1 negD (s0 (.int 1))) aN))) (aC (s0 (.int 2)) aN)))) (sN h__law_wrong_filled (aC (s0 (.int 1)) (aC (s2 repD (sN mkLst (aC (s0 (.int 0)) aN)) (s0 (.int 301))) (aC (s0 (.int 2)) aN))))))))))
def h_law : List D → Res D := fnD 1 4 f_law
/-! ### the text -/
abbrev prog : Program := PySem.Challenge.pw_landhold_k50_shared_and_filled
def top (i : Nat) : Stmt := prog.main.body.getD i (.Pass ⟨0, 0, 0, 0⟩)
def clsBody : Stmt → List Stmt
  | .ClassDef _ _ _ b _ _ _ _ _ _ _ => b
  | _ => []
def initS : Stmt := (clsBody (top 3)).getD 0 (.Pass ⟨0, 0, 0, 0⟩)
def dInit : He.DefD := ⟨("BadValue", some "__init__"), "__init__", "BadValue.__init__", defArgs initS, defBody initS, defScope initS, [], []⟩
def defD (i : Nat) (x : Str) : He.DefD := ⟨(x, none), x, x, defArgs (top i), defBody (top i), defScope (top i), [], []⟩
def defs : List (Nat × Str) := [(7, ("is_int" : Str)), (8, ("is_int_from" : Str)), (9, ("is_sequence" : Str)), (10, ("is_sequence_of" : Str)), (11, ("frozen" : Str)), (12, ("is_person" : Str)), (13, ("is_ascending" : Str)), (14, ("are_persons" : Str)), (15, ("is_group" : Str)), (16, ("check" : Str)), (21, ("is_amount" : Str)), (22, ("is_weight" : Str)), (23, ("is_some_weight" : Str)), (24, ("are_weights" : Str)), (25, ("are_amounts" : Str)), (26, ("pair_of" : Str)), (27, ("whole_weights" : Str)), (28, ("parted_by" : Str)), (29, ("filled_by" : Str)), (31, ("parted" : Str)), (32, ("_are_names" : Str)), (33, ("are_claims" : Str)), (34, ("shared_by" : Str)), (35, ("shared" : Str)), (36, ("filled" : Str)), (38, ("_law_draws" : Str)), (39, ("_law_same" : Str)), (40, ("_law_divisor" : Str)), (41, ("_law_low" : Str)), (42, ("_law_names" : Str)), (43, ("_law_weights" : Str)), (44, ("_law_turned" : Str)), (45, ("_law_refused" : Str)), (46, ("_law_shared" : Str)), (47, ("_law_filled" : Str)), (48, ("_law_wrong_filled" : Str)), (49, ("law" : Str))]
def fn : List He.DefD := dInit :: defs.map fun p => defD p.1 p.2
def fa : List He.Fa := [.glo "is_int", .glo "is_int_from", .glo "is_sequence", .glo "is_sequence_of", .glo "frozen", .glo "is_person", .glo "is_ascending", .glo "are_persons", .glo "is_group", .glo "check", .glo "is_amount", .glo "is_weight", .glo "is_some_weight", .glo "are_weights", .glo "are_amounts", .glo "pair_of", .glo "whole_weights", .glo "parted_by", .glo "filled_by", .glo "parted", .glo "_are_names", .glo "are_claims", .glo "shared_by", .glo "shared", .glo "filled", .glo "_law_draws", .glo "_law_same", .glo "_law_divisor", .glo "_law_low", .glo "_law_names", .glo "_law_weights", .glo "_law_turned", .glo "_law_refused", .glo "_law_shared", .glo "_law_filled", .glo "_law_wrong_filled", .glo "law", .glo "BadValue", .int "MOST_GROUP" 6, .int "MOST_AMOUNT" 1000000000000, .int "MOST_IN_WEIGHT" 1000000000000000000000000000000, .int "MOST_WEIGHTS" 300, .str "LETTERS" "abcdefghijklmnopqrstuvwxyz", .free "len", .free "abs", .free "sum", .free "any", .free "all", .free "min", .free "max", .free "sorted", .free "tuple", .free "list", .free "int", .free "isinstance", .free "range", .free "bool", .free "str", .free "set", .free "zip"]
def ex (K : PySem.W.Frag) : Bool := badB K "BadValue" "BadValue.__init__" && (gloB K "gcd" (.builtin "math.gcd") && (gloB K "lcm" (.builtin "math.lcm") && (decide ((He.cT K ("parted_by", none)).2 ≠ (He.cT K ("shared_by", none)).2) && (decide ((He.cT K ("parted_by", none)).2 ≠ (He.cT K ("_law_shared", none)).2) && (decide ((He.cT K ("shared_by", none)).2 ≠ (He.cT K ("_law_shared", none)).2))))))
def tf : List He.Defn := [("parted_by", none), ("shared_by", none), ("_law_shared", none)]
abbrev R : PySem.W.OpenRow := PySem.W.OpenLaw.row PySem.Challenge.rw_landhold_k50_shared_and_filled
abbrev hk : PySem.W.Hook := He.hookX 6 fa fn [] tf ex
def ob (s : PySem.W.SharedT) : He.AlX := He.obsX 6 fa fn [] tf ex (HandSHeadRun.getT s)
theorem ob_eq (s : PySem.W.SharedT) : ob s = hk.obs s.abs := He.obsX_eq (HandSHeadRun.getT_eq s)
abbrev vw : Program := PySem.W.view R.prog [0, 49]
def loose : List Str := (["TitleError", "BadValue", "LETTERS", "MOST_GROUP", "is_int", "is_int_from", "is_sequence", "is_sequence_of", "frozen", "is_person", "is_ascending", "are_persons", "is_group", "check", "MOST_AMOUNT", "MOST_IN_WEIGHT", "MOST_WEIGHTS", "is_amount", "is_weight", "is_some_weight", "are_weights", "are_amounts", "pair_of", "whole_weights", "parted_by", "filled_by", "parted", "_are_names", "are_claims", "shared_by"] : List Str) ++ (["shared", "filled", "_law_draws", "_law_same", "_law_divisor", "_law_low", "_law_names", "_law_weights", "_law_turned", "_law_refused", "_law_shared", "_law_filled", "_law_wrong_filled"] : List Str)
theorem run (w : World) : HandSHeadRun.RunEqI R vw hk ob 3000 loose w := by
  unfold HandSHeadRun.RunEqI
  kernel_rfl
def gg (K : PySem.W.Frag) : G := { K := K, fa := fun _ => 0, ca := fun _ => He.ga K "BadValue", cf := fun _ => "at", T := [((He.cT K ("parted_by", none)).2, "parted_by.<locals>.<lambda>"), ((He.cT K ("shared_by", none)).2, "shared_by.<locals>.<lambda>"), ((He.cT K ("_law_shared", none)).2, "_law_shared.<locals>.<lambda>")] }
/-- what the head tells -/
structure Txt (K : PySem.W.Frag) (mg : Str → Option Value) (base : Heap) : Prop where
  g_is_int : mg "is_int" = some (.ref (He.ga K "is_int"))
  u_is_int : ∃ fd, FunD K "is_int" "is_int" (defArgs (top 7)) (defBody (top 7)) (defScope (top 7)) [] [] (He.ga K "is_int") fd
  g_is_int_from : mg "is_int_from" = some (.ref (He.ga K "is_int_from"))
  u_is_int_from : ∃ fd, FunD K "is_int_from" "is_int_from" (defArgs (top 8)) (defBody (top 8)) (defScope (top 8)) [] [] (He.ga K "is_int_from") fd
  g_is_sequence : mg "is_sequence" = some (.ref (He.ga K "is_sequence"))
  u_is_sequence : ∃ fd, FunD K "is_sequence" "is_sequence" (defArgs (top 9)) (defBody (top 9)) (defScope (top 9)) [] [] (He.ga K "is_sequence") fd
  g_is_sequence_of : mg "is_sequence_of" = some (.ref (He.ga K "is_sequence_of"))
  u_is_sequence_of : ∃ fd, FunD K "is_sequence_of" "is_sequence_of" (defArgs (top 10)) (defBody (top 10)) (defScope (top 10)) [] [] (He.ga K "is_sequence_of") fd
  g_frozen : mg "frozen" = some (.ref (He.ga K "frozen"))
  u_frozen : ∃ fd, FunD K "frozen" "frozen" (defArgs (top 11)) (defBody (top 11)) (defScope (top 11)) [] [] (He.ga K "frozen") fd
  g_is_person : mg "is_person" = some (.ref (He.ga K "is_person"))
  u_is_person : ∃ fd, FunD K "is_person" "is_person" (defArgs (top 12)) (defBody (top 12)) (defScope (top 12)) [] [] (He.ga K "is_person") fd
  g_is_ascending : mg "is_ascending" = some (.ref (He.ga K "is_ascending"))
  u_is_ascending : ∃ fd, FunD K "is_ascending" "is_ascending" (defArgs (top 13)) (defBody (top 13)) (defScope (top 13)) [] [] (He.ga K "is_ascending") fd
  g_are_persons : mg "are_persons" = some (.ref (He.ga K "are_persons"))
  u_are_persons : ∃ fd, FunD K "are_persons" "are_persons" (defArgs (top 14)) (defBody (top 14)) (defScope (top 14)) [] [] (He.ga K "are_persons") fd
  g_is_group : mg "is_group" = some (.ref (He.ga K "is_group"))
  u_is_group : ∃ fd, FunD K "is_group" "is_group" (defArgs (top 15)) (defBody (top 15)) (defScope (top 15)) [] [] (He.ga K "is_group") fd
  g_check : mg "check" = some (.ref (He.ga K "check"))
  u_check : ∃ fd, FunD K "check" "check" (defArgs (top 16)) (defBody (top 16)) (defScope (top 16)) [] [] (He.ga K "check") fd
  g_is_amount : mg "is_amount" = some (.ref (He.ga K "is_amount"))
  u_is_amount : ∃ fd, FunD K "is_amount" "is_amount" (defArgs (top 21)) (defBody (top 21)) (defScope (top 21)) [] [] (He.ga K "is_amount") fd
  g_is_weight : mg "is_weight" = some (.ref (He.ga K "is_weight"))
  u_is_weight : ∃ fd, FunD K "is_weight" "is_weight" (defArgs (top 22)) (defBody (top 22)) (defScope (top 22)) [] [] (He.ga K "is_weight") fd
  g_is_some_weight : mg "is_some_weight" = some (.ref (He.ga K "is_some_weight"))
  u_is_some_weight : ∃ fd, FunD K "is_some_weight" "is_some_weight" (defArgs (top 23)) (defBody (top 23)) (defScope (top 23)) [] [] (He.ga K "is_some_weight") fd
  g_are_weights : mg "are_weights" = some (.ref (He.ga K "are_weights"))
  u_are_weights : ∃ fd, FunD K "are_weights" "are_weights" (defArgs (top 24)) (defBody (top 24)) (defScope (top 24)) [] [] (He.ga K "are_weights") fd
  g_are_amounts : mg "are_amounts" = some (.ref (He.ga K "are_amounts"))
  u_are_amounts : ∃ fd, FunD K "are_amounts" "are_amounts" (defArgs (top 25)) (defBody (top 25)) (defScope (top 25)) [] [] (He.ga K "are_amounts") fd
  g_pair_of : mg "pair_of" = some (.ref (He.ga K "pair_of"))
  u_pair_of : ∃ fd, FunD K "pair_of" "pair_of" (defArgs (top 26)) (defBody (top 26)) (defScope (top 26)) [] [] (He.ga K "pair_of") fd
  g_whole_weights : mg "whole_weights" = some (.ref (He.ga K "whole_weights"))
  u_whole_weights : ∃ fd, FunD K "whole_weights" "whole_weights" (defArgs (top 27)) (defBody (top 27)) (defScope (top 27)) [] [] (He.ga K "whole_weights") fd
  g_parted_by : mg "parted_by" = some (.ref (He.ga K "parted_by"))
  u_parted_by : ∃ fd, FunD K "parted_by" "parted_by" (defArgs (top 28)) (defBody (top 28)) (defScope (top 28)) [] [] (He.ga K "parted_by") fd
  g_filled_by : mg "filled_by" = some (.ref (He.ga K "filled_by"))
  u_filled_by : ∃ fd, FunD K "filled_by" "filled_by" (defArgs (top 29)) (defBody (top 29)) (defScope (top 29)) [] [] (He.ga K "filled_by") fd
  g_parted : mg "parted" = some (.ref (He.ga K "parted"))
  u_parted : ∃ fd, FunD K "parted" "parted" (defArgs (top 31)) (defBody (top 31)) (defScope (top 31)) [] [] (He.ga K "parted") fd
  g__are_names : mg "_are_names" = some (.ref (He.ga K "_are_names"))
  u__are_names : ∃ fd, FunD K "_are_names" "_are_names" (defArgs (top 32)) (defBody (top 32)) (defScope (top 32)) [] [] (He.ga K "_are_names") fd
  g_are_claims : mg "are_claims" = some (.ref (He.ga K "are_claims"))
  u_are_claims : ∃ fd, FunD K "are_claims" "are_claims" (defArgs (top 33)) (defBody (top 33)) (defScope (top 33)) [] [] (He.ga K "are_claims") fd
  g_shared_by : mg "shared_by" = some (.ref (He.ga K "shared_by"))
  u_shared_by : ∃ fd, FunD K "shared_by" "shared_by" (defArgs (top 34)) (defBody (top 34)) (defScope (top 34)) [] [] (He.ga K "shared_by") fd
  g_shared : mg "shared" = some (.ref (He.ga K "shared"))
  u_shared : ∃ fd, FunD K "shared" "shared" (defArgs (top 35)) (defBody (top 35)) (defScope (top 35)) [] [] (He.ga K "shared") fd
  g_filled : mg "filled" = some (.ref (He.ga K "filled"))
  u_filled : ∃ fd, FunD K "filled" "filled" (defArgs (top 36)) (defBody (top 36)) (defScope (top 36)) [] [] (He.ga K "filled") fd
  g__law_draws : mg "_law_draws" = some (.ref (He.ga K "_law_draws"))
  u__law_draws : ∃ fd, FunD K "_law_draws" "_law_draws" (defArgs (top 38)) (defBody (top 38)) (defScope (top 38)) [] [] (He.ga K "_law_draws") fd
  g__law_same : mg "_law_same" = some (.ref (He.ga K "_law_same"))
  u__law_same : ∃ fd, FunD K "_law_same" "_law_same" (defArgs (top 39)) (defBody (top 39)) (defScope (top 39)) [] [] (He.ga K "_law_same") fd
  g__law_divisor : mg "_law_divisor" = some (.ref (He.ga K "_law_divisor"))
  u__law_divisor : ∃ fd, FunD K "_law_divisor" "_law_divisor" (defArgs (top 40)) (defBody (top 40)) (defScope (top 40)) [] [] (He.ga K "_law_divisor") fd
  g__law_low : mg "_law_low" = some (.ref (He.ga K "_law_low"))
  u__law_low : ∃ fd, FunD K "_law_low" "_law_low" (defArgs (top 41)) (defBody (top 41)) (defScope (top 41)) [] [] (He.ga K "_law_low") fd
  g__law_names : mg "_law_names" = some (.ref (He.ga K "_law_names"))
  u__law_names : ∃ fd, FunD K "_law_names" "_law_names" (defArgs (top 42)) (defBody (top 42)) (defScope (top 42)) [] [] (He.ga K "_law_names") fd
  g__law_weights : mg "_law_weights" = some (.ref (He.ga K "_law_weights"))
  u__law_weights : ∃ fd, FunD K "_law_weights" "_law_weights" (defArgs (top 43)) (defBody (top 43)) (defScope (top 43)) [] [] (He.ga K "_law_weights") fd
  g__law_turned : mg "_law_turned" = some (.ref (He.ga K "_law_turned"))
  u__law_turned : ∃ fd, FunD K "_law_turned" "_law_turned" (defArgs (top 44)) (defBody (top 44)) (defScope (top 44)) [] [] (He.ga K "_law_turned") fd
  g__law_refused : mg "_law_refused" = some (.ref (He.ga K "_law_refused"))
  u__law_refused : ∃ fd, FunD K "_law_refused" "_law_refused" (defArgs (top 45)) (defBody (top 45)) (defScope (top 45)) [] [] (He.ga K "_law_refused") fd
  g__law_shared : mg "_law_shared" = some (.ref (He.ga K "_law_shared"))
  u__law_shared : ∃ fd, FunD K "_law_shared" "_law_shared" (defArgs (top 46)) (defBody (top 46)) (defScope (top 46)) [] [] (He.ga K "_law_shared") fd
  g__law_filled : mg "_law_filled" = some (.ref (He.ga K "_law_filled"))
  u__law_filled : ∃ fd, FunD K "_law_filled" "_law_filled" (defArgs (top 47)) (defBody (top 47)) (defScope (top 47)) [] [] (He.ga K "_law_filled") fd
  g__law_wrong_filled : mg "_law_wrong_filled" = some (.ref (He.ga K "_law_wrong_filled"))
  u__law_wrong_filled : ∃ fd, FunD K "_law_wrong_filled" "_law_wrong_filled" (defArgs (top 48)) (defBody (top 48)) (defScope (top 48)) [] [] (He.ga K "_law_wrong_filled") fd
  g_law : mg "law" = some (.ref (He.ga K "law"))
  u_law : ∃ fd, FunD K "law" "law" (defArgs (top 49)) (defBody (top 49)) (defScope (top 49)) [] [] (He.ga K "law") fd
  f_len : mg "len" = none
  f_abs : mg "abs" = none
  f_sum : mg "sum" = none
  f_any : mg "any" = none
  f_all : mg "all" = none
  f_min : mg "min" = none
  f_max : mg "max" = none
  f_sorted : mg "sorted" = none
  f_tuple : mg "tuple" = none
  f_list : mg "list" = none
  f_int : mg "int" = none
  f_isinstance : mg "isinstance" = none
  f_range : mg "range" = none
  f_bool : mg "bool" = none
  f_str : mg "str" = none
  f_set : mg "set" = none
  f_zip : mg "zip" = none
  f_gcd : mg "gcd" = some (.builtin "math.gcd")
  f_lcm : mg "lcm" = some (.builtin "math.lcm")
  i_LETTERS : ∃ t, mg "LETTERS" = some (.str "abcdefghijklmnopqrstuvwxyz" t)
  i_MOST_GROUP : ∃ t, mg "MOST_GROUP" = some (.int 6 t)
  i_MOST_AMOUNT : ∃ t, mg "MOST_AMOUNT" = some (.int 1000000000000 t)
  i_MOST_IN_WEIGHT : ∃ t, mg "MOST_IN_WEIGHT" = some (.int 1000000000000000000000000000000 t)
  i_MOST_WEIGHTS : ∃ t, mg "MOST_WEIGHTS" = some (.int 300 t)
  gB : mg "BadValue" = some (.ref (He.ga K "BadValue"))
  bad : BadC K "BadValue.__init__" (He.ga K "BadValue") (He.ma K (He.ga K "BadValue") "__init__")
  n_parted_by_shared_by : (He.cT K ("parted_by", none)).2 ≠ (He.cT K ("shared_by", none)).2
  n_parted_by__law_shared : (He.cT K ("parted_by", none)).2 ≠ (He.cT K ("_law_shared", none)).2
  n_shared_by__law_shared : (He.cT K ("shared_by", none)).2 ≠ (He.cT K ("_law_shared", none)).2
  tb_parted_by : LamX.TabB base mg (He.cT K ("parted_by", none)).1 (He.cT K ("parted_by", none)).2
  tb_shared_by : LamX.TabB base mg (He.cT K ("shared_by", none)).1 (He.cT K ("shared_by", none)).2
  tb__law_shared : LamX.TabB base mg (He.cT K ("_law_shared", none)).1 (He.cT K ("_law_shared", none)).2
section
variable {P : Program} {w : World} {K : PySem.W.Frag} {mg : Str → Option Value} {base : Heap}
theorem sc_is_int : FnScope ["value"] ["value"] (defScope (top 7)) := ⟨rfl, rfl, rfl, by decide +kernel, rfl, by decide +kernel, by decide +kernel⟩
theorem ok_is_int (T : Txt K mg base)  : DefOk P w K mg base (gg K) 1 "is_int" ["value"] h_is_int := by
  obtain ⟨fd, F⟩ := T.u_is_int
  refine ⟨⟨fd, dfn_okC (k := 0) F sc_is_int (fun cdv A outer s H F0 E cdE room => ?_), F.bindsN fun _ _ _ _ _ _ us hl => match us, hl with | [_], _ => rfl⟩, F.kp, T.g_is_int⟩
  have nd := (sc_is_int).nd
  have C : Ct (cxOf (L2.CX P w) P w K mg base ["value"] "is_int" (defScope (top 7)) (He.ga K "is_int") cdv A outer s H E) (gg K) (fun cls dd _ H' => E cls dd H') 0 := ⟨rfl, rfl, room, takes_of rfl rfl rfl rfl⟩
  exact (ds_one (ds_ret (oAnd C (xIsi (T := "int") C rfl T.f_isinstance (nB (i := 0) rfl (Or.inl rfl) rfl rfl) (cTy rfl T.f_int PyProof.Rows.Boot.«int» (by decide) rfl) rfl rfl) (de_one (uNot C (read (xIsi (T := "bool") C rfl T.f_isinstance (nB (i := 0) rfl (Or.inl rfl) rfl rfl) (cTy rfl T.f_bool PyProof.Rows.Boot.«bool» (by decide) rfl) rfl rfl)))))))
theorem sc_is_int_from : FnScope ["value", "low", "high"] ["value", "low", "high"] (defScope (top 8)) := ⟨rfl, rfl, rfl, by decide +kernel, rfl, by decide +kernel, by decide +kernel⟩
theorem ok_is_int_from (T : Txt K mg base) (d_is_int : DefOk P w K mg base (gg K) 1 "is_int" ["value"] h_is_int) : DefOk P w K mg base (gg K) 2 "is_int_from" ["value", "low", "high"] h_is_int_from := by
  obtain ⟨fd, F⟩ := T.u_is_int_from
  refine ⟨⟨fd, dfn_okC (k := 1) F sc_is_int_from (fun cdv A outer s H F0 E cdE room => ?_), F.bindsN fun _ _ _ _ _ _ us hl => match us, hl with | [_, _, _], _ => rfl⟩, F.kp, T.g_is_int_from⟩
  have nd := (sc_is_int_from).nd
  have C : Ct (cxOf (L2.CX P w) P w K mg base ["value", "low", "high"] "is_int_from" (defScope (top 8)) (He.ga K "is_int_from") cdv A outer s H E) (gg K) (fun cls dd _ H' => E cls dd H') 1 := ⟨rfl, rfl, room, takes_of rfl rfl rfl rfl⟩
  exact (ds_one (ds_ret (oAnd C (xD C d_is_int (by decide) rfl (gV (nV (i := 0) rfl (Or.inl rfl) rfl rfl) gV_nil rfl) rfl rfl rfl) (de_one (chV (.ord .le) (.ord .le) C (nB (i := 1) rfl (Or.inl rfl) rfl rfl) (nB (i := 0) rfl (Or.inl rfl) rfl rfl) (nB (i := 2) rfl (Or.inl rfl) rfl rfl) rfl)))))
theorem sc_is_sequence : FnScope ["value"] ["value"] (defScope (top 9)) := ⟨rfl, rfl, rfl, by decide +kernel, rfl, by decide +kernel, by decide +kernel⟩
theorem ok_is_sequence (T : Txt K mg base)  : DefOk P w K mg base (gg K) 1 "is_sequence" ["value"] h_is_sequence := by
  obtain ⟨fd, F⟩ := T.u_is_sequence
  refine ⟨⟨fd, dfn_okC (k := 0) F sc_is_sequence (fun cdv A outer s H F0 E cdE room => ?_), F.bindsN fun _ _ _ _ _ _ us hl => match us, hl with | [_], _ => rfl⟩, F.kp, T.g_is_sequence⟩
  have nd := (sc_is_sequence).nd
  have C : Ct (cxOf (L2.CX P w) P w K mg base ["value"] "is_sequence" (defScope (top 9)) (He.ga K "is_sequence") cdv A outer s H E) (gg K) (fun cls dd _ H' => E cls dd H') 0 := ⟨rfl, rfl, room, takes_of rfl rfl rfl rfl⟩
  exact (ds_one (ds_ret (xIsiT (cs := ["list", "tuple"]) C (by decide) rfl T.f_isinstance (nB (i := 0) rfl (Or.inl rfl) rfl rfl) (pcl_cons (cTy rfl T.f_list PyProof.Rows.Boot.«list» (by decide) rfl) (pcl_cons (cTy rfl T.f_tuple PyProof.Rows.Boot.«tuple» (by decide) rfl) pcl_nil rfl) rfl) rfl rfl)))
theorem sc_is_sequence_of : FnScope ["value", "many"] ["value", "many"] (defScope (top 10)) := ⟨rfl, rfl, rfl, by decide +kernel, rfl, by decide +kernel, by decide +kernel⟩
theorem ok_is_sequence_of (T : Txt K mg base) (d_is_sequence : DefOk P w K mg base (gg K) 1 "is_sequence" ["value"] h_is_sequence) : DefOk P w K mg base (gg K) 2 "is_sequence_of" ["value", "many"] h_is_sequence_of := by
  obtain ⟨fd, F⟩ := T.u_is_sequence_of
  refine ⟨⟨fd, dfn_okC (k := 1) F sc_is_sequence_of (fun cdv A outer s H F0 E cdE room => ?_), F.bindsN fun _ _ _ _ _ _ us hl => match us, hl with | [_, _], _ => rfl⟩, F.kp, T.g_is_sequence_of⟩
  have nd := (sc_is_sequence_of).nd
  have C : Ct (cxOf (L2.CX P w) P w K mg base ["value", "many"] "is_sequence_of" (defScope (top 10)) (He.ga K "is_sequence_of") cdv A outer s H E) (gg K) (fun cls dd _ H' => E cls dd H') 1 := ⟨rfl, rfl, room, takes_of rfl rfl rfl rfl⟩
  exact (ds_one (ds_ret (oAnd C (xD C d_is_sequence (by decide) rfl (gV (nV (i := 0) rfl (Or.inl rfl) rfl rfl) gV_nil rfl) rfl rfl rfl) (de_one (cV .eq C (read (xLen C (gB (nB (i := 0) rfl (Or.inl rfl) rfl rfl) gB_nil rfl) rfl rfl rfl T.f_len)) (nB (i := 1) rfl (Or.inl rfl) rfl rfl) rfl)))))
theorem sc_frozen : FnScope ["value", "part"] ["value"] (defScope (top 11)) := ⟨rfl, rfl, rfl, by decide +kernel, rfl, by decide +kernel, by decide +kernel⟩
theorem ok_frozen' (T : Txt K mg base) (d_is_sequence : DefOk P w K mg base (gg K) 1 "is_sequence" ["value"] h_is_sequence) {hself : List D → Res D} {k : Nat} (d_self : DefOk P w K mg base (gg K) k "frozen" ["value"] hself) (hk : 1 ≤ k) : DefOk P w K mg base (gg K) (k + 1) "frozen" ["value"] (fnD 1 2 (f_frozen hself)) := by
  obtain ⟨fd, F⟩ := T.u_frozen
  refine ⟨⟨fd, dfn_okC (k := k) F sc_frozen (fun cdv A outer s H F0 E cdE room => ?_), F.bindsN fun _ _ _ _ _ _ us hl => match us, hl with | [_], _ => rfl⟩, F.kp, T.g_frozen⟩
  have nd := (sc_frozen).nd
  have C : Ct (cxOf (L2.CX P w) P w K mg base ["value", "part"] "frozen" (defScope (top 11)) (He.ga K "frozen") cdv A outer s H E) (gg K) (fun cls dd _ H' => E cls dd H') k := ⟨rfl, rfl, room, takes_of rfl rfl rfl rfl⟩
  exact (ds_cons (ds_if (tV' C (read (xD C d_is_sequence (Nat.le_trans (by decide) hk) rfl (gV (nV (i := 0) rfl (Or.inl rfl) rfl rfl) gV_nil rfl) rfl rfl rfl)) (fun _ => rfl)) (ds_one (ds_ret (xTup C (gB (read (freeze (de_lc (own := [("part", 1)]) (T := (.nm 1)) (Ct.calm C) nd (wSeq C (nB (i := 0) rfl (Or.inl rfl) rfl rfl)) (blkOk_by (by kernel_rfl)) (by decide +kernel) (fun _ _ _ _ _ => (dg_name (i := 1) nd rfl (Or.inl rfl) (Or.inr rfl))) (fun _ _ _ _ _ => lT_nil) (fun _ _ _ _ _ => (xD C.blk d_self (Nat.le_refl _) rfl (gV (nV (i := 1) rfl (Or.inl rfl) rfl rfl) gV_nil rfl) rfl rfl rfl)) (fun _ => rfl)))) gB_nil rfl) rfl rfl rfl T.f_tuple))) ds_nil)
  (ds_one (ds_ret (nV (i := 0) rfl (Or.inl rfl) rfl rfl))))
theorem ok_frozen (T : Txt K mg base) (d_is_sequence : DefOk P w K mg base (gg K) 1 "is_sequence" ["value"] h_is_sequence) : DefOk P w K mg base (gg K) 5 "frozen" ["value"] h_frozen := by
  obtain ⟨fd, F⟩ := T.u_frozen
  have d0 : DefOk P w K mg base (gg K) 1 "frozen" ["value"] (h_frozen' 0) := ⟨⟨fd, fnOk_bad, F.bindsN fun _ _ _ _ _ _ us hl => match us, hl with | [_], _ => rfl⟩, F.kp, T.g_frozen⟩
  have d1 : DefOk P w K mg base (gg K) 2 "frozen" ["value"] (h_frozen' 1) := ok_frozen' T d_is_sequence d0 (by decide)
  have d2 : DefOk P w K mg base (gg K) 3 "frozen" ["value"] (h_frozen' 2) := ok_frozen' T d_is_sequence d1 (by decide)
  have d3 : DefOk P w K mg base (gg K) 4 "frozen" ["value"] (h_frozen' 3) := ok_frozen' T d_is_sequence d2 (by decide)
  have d4 : DefOk P w K mg base (gg K) 5 "frozen" ["value"] (h_frozen' 4) := ok_frozen' T d_is_sequence d3 (by decide)
  exact d4
theorem sc_is_person : FnScope ["value", "letter"] ["value"] (defScope (top 12)) := ⟨rfl, rfl, rfl, by decide +kernel, rfl, by decide +kernel, by decide +kernel⟩
theorem ok_is_person (T : Txt K mg base)  : DefOk P w K mg base (gg K) 1 "is_person" ["value"] h_is_person := by
  obtain ⟨fd, F⟩ := T.u_is_person
  refine ⟨⟨fd, dfn_okC (k := 0) F sc_is_person (fun cdv A outer s H F0 E cdE room => ?_), F.bindsN fun _ _ _ _ _ _ us hl => match us, hl with | [_], _ => rfl⟩, F.kp, T.g_is_person⟩
  have nd := (sc_is_person).nd
  have C : Ct (cxOf (L2.CX P w) P w K mg base ["value", "letter"] "is_person" (defScope (top 12)) (He.ga K "is_person") cdv A outer s H E) (gg K) (fun cls dd _ H' => E cls dd H') 0 := ⟨rfl, rfl, room, takes_of rfl rfl rfl rfl⟩
  exact (ds_cons (ds_if (L2.PW.pt (wO (tN' (tV' C (read (xIsi (T := "str") C rfl T.f_isinstance (nB (i := 0) rfl (Or.inl rfl) rfl rfl) (cTy rfl T.f_str PyProof.Rows.Boot.«str» (by decide) rfl) rfl rfl)) (fun _ => rfl))) (wO1 (tN' (chT (.ord .le) (.ord .le) C (read kI) (read (xLen C (gB (nB (i := 0) rfl (Or.inl rfl) rfl rfl) gB_nil rfl) rfl rfl rfl T.f_len)) (read kI) rfl))))) (ds_one (ds_ret kB)) ds_nil)
  (ds_cons (ds_for (T := (.nm 1)) (passes_of rfl) (Ct.calm C) (wSeqSF C (nV (i := 0) rfl (Or.inl rfl) rfl rfl)) (dg_name (i := 1) nd rfl (Or.inl rfl) (Or.inl rfl)) (ds_one (ds_if (tNi C (nB (i := 1) rfl (Or.inl rfl) rfl rfl) (read (kGS rfl T.i_LETTERS rfl)) rfl) (ds_one (ds_ret kB)) ds_nil)) (fun _ => rfl))
  (ds_one (ds_ret kB))))
theorem sc_is_ascending : FnScope ["value", "at"] ["value"] (defScope (top 13)) := ⟨rfl, rfl, rfl, by decide +kernel, rfl, by decide +kernel, by decide +kernel⟩
theorem ok_is_ascending (T : Txt K mg base)  : DefOk P w K mg base (gg K) 1 "is_ascending" ["value"] h_is_ascending := by
  obtain ⟨fd, F⟩ := T.u_is_ascending
  refine ⟨⟨fd, dfn_okC (k := 0) F sc_is_ascending (fun cdv A outer s H F0 E cdE room => ?_), F.bindsN fun _ _ _ _ _ _ us hl => match us, hl with | [_], _ => rfl⟩, F.kp, T.g_is_ascending⟩
  have nd := (sc_is_ascending).nd
  have C : Ct (cxOf (L2.CX P w) P w K mg base ["value", "at"] "is_ascending" (defScope (top 13)) (He.ga K "is_ascending") cdv A outer s H E) (gg K) (fun cls dd _ H' => E cls dd H') 0 := ⟨rfl, rfl, room, takes_of rfl rfl rfl rfl⟩
  exact (ds_cons (ds_for (T := (.nm 1)) (passes_of rfl) (Ct.calm C) (di_rng1 rfl T.f_range (read (bSub C (read (xLen C (gB (nB (i := 0) rfl (Or.inl rfl) rfl rfl) gB_nil rfl) rfl rfl rfl T.f_len)) (read kI))) rfl) (dg_name (i := 1) nd rfl (Or.inl rfl) (Or.inl rfl)) (ds_one (ds_if (tN' (cT (.ord .lt) C (read (eIx C (nB (i := 0) rfl (Or.inl rfl) rfl rfl) (nB (i := 1) rfl (Or.inl rfl) rfl rfl) (fun _ _ => rfl))) (read (eIx C (nB (i := 0) rfl (Or.inl rfl) rfl rfl) (read (bAdd C (nB (i := 1) rfl (Or.inl rfl) rfl rfl) (read kI))) (fun _ _ => rfl))) rfl)) (ds_one (ds_ret kB)) ds_nil)) (fun _ => rfl))
  (ds_one (ds_ret kB)))
theorem sc_are_persons : FnScope ["value", "person"] ["value"] (defScope (top 14)) := ⟨rfl, rfl, rfl, by decide +kernel, rfl, by decide +kernel, by decide +kernel⟩
theorem ok_are_persons (T : Txt K mg base) (d_is_sequence : DefOk P w K mg base (gg K) 1 "is_sequence" ["value"] h_is_sequence) (d_is_person : DefOk P w K mg base (gg K) 1 "is_person" ["value"] h_is_person) (d_is_ascending : DefOk P w K mg base (gg K) 1 "is_ascending" ["value"] h_is_ascending) : DefOk P w K mg base (gg K) 2 "are_persons" ["value"] h_are_persons := by
  obtain ⟨fd, F⟩ := T.u_are_persons
  refine ⟨⟨fd, dfn_okC (k := 1) F sc_are_persons (fun cdv A outer s H F0 E cdE room => ?_), F.bindsN fun _ _ _ _ _ _ us hl => match us, hl with | [_], _ => rfl⟩, F.kp, T.g_are_persons⟩
  have nd := (sc_are_persons).nd
  have C : Ct (cxOf (L2.CX P w) P w K mg base ["value", "person"] "are_persons" (defScope (top 14)) (He.ga K "are_persons") cdv A outer s H E) (gg K) (fun cls dd _ H' => E cls dd H') 1 := ⟨rfl, rfl, room, takes_of rfl rfl rfl rfl⟩
  exact (ds_one (ds_ret (oAnd C (xD C d_is_sequence (by decide) rfl (gV (nV (i := 0) rfl (Or.inl rfl) rfl rfl) gV_nil rfl) rfl rfl rfl) (oAnd C (xAll C (gB (read (freeze (de_lc (own := [("person", 1)]) (T := (.nm 1)) (Ct.calm C) nd (wSeq C (nB (i := 0) rfl (Or.inl rfl) rfl rfl)) (blkOk_by (by kernel_rfl)) (by decide +kernel) (fun _ _ _ _ _ => (dg_name (i := 1) nd rfl (Or.inl rfl) (Or.inr rfl))) (fun _ _ _ _ _ => lT_nil) (fun _ _ _ _ _ => (xD C.blk d_is_person (by decide) rfl (gV (nV (i := 1) rfl (Or.inl rfl) rfl rfl) gV_nil rfl) rfl rfl rfl)) (fun _ => rfl)))) gB_nil rfl) rfl rfl rfl T.f_all) (de_one (xD C d_is_ascending (by decide) rfl (gV (nV (i := 0) rfl (Or.inl rfl) rfl rfl) gV_nil rfl) rfl rfl rfl))))))
theorem sc_is_group : FnScope ["value"] ["value"] (defScope (top 15)) := ⟨rfl, rfl, rfl, by decide +kernel, rfl, by decide +kernel, by decide +kernel⟩
theorem ok_is_group (T : Txt K mg base) (d_are_persons : DefOk P w K mg base (gg K) 2 "are_persons" ["value"] h_are_persons) : DefOk P w K mg base (gg K) 3 "is_group" ["value"] h_is_group := by
  obtain ⟨fd, F⟩ := T.u_is_group
  refine ⟨⟨fd, dfn_okC (k := 2) F sc_is_group (fun cdv A outer s H F0 E cdE room => ?_), F.bindsN fun _ _ _ _ _ _ us hl => match us, hl with | [_], _ => rfl⟩, F.kp, T.g_is_group⟩
  have nd := (sc_is_group).nd
  have C : Ct (cxOf (L2.CX P w) P w K mg base ["value"] "is_group" (defScope (top 15)) (He.ga K "is_group") cdv A outer s H E) (gg K) (fun cls dd _ H' => E cls dd H') 2 := ⟨rfl, rfl, room, takes_of rfl rfl rfl rfl⟩
  exact (ds_one (ds_ret (oAnd C (xD C d_are_persons (by decide) rfl (gV (nV (i := 0) rfl (Or.inl rfl) rfl rfl) gV_nil rfl) rfl rfl rfl) (de_one (chV (.ord .le) (.ord .le) C (read kI) (read (xLen C (gB (nB (i := 0) rfl (Or.inl rfl) rfl rfl) gB_nil rfl) rfl rfl rfl T.f_len)) (read (kG rfl T.i_MOST_GROUP rfl)) rfl)))))
theorem sc_check : FnScope ["holds", "at"] ["holds", "at"] (defScope (top 16)) := ⟨rfl, rfl, rfl, by decide +kernel, rfl, by decide +kernel, by decide +kernel⟩
theorem ok_check (T : Txt K mg base)  : DefOk P w K mg base (gg K) 2 "check" ["holds", "at"] h_check := by
  obtain ⟨fd, F⟩ := T.u_check
  refine ⟨⟨fd, dfn_okC (k := 1) F sc_check (fun cdv A outer s H F0 E cdE room => ?_), F.bindsN fun _ _ _ _ _ _ us hl => match us, hl with | [_, _], _ => rfl⟩, F.kp, T.g_check⟩
  have nd := (sc_check).nd
  have C : Ct (cxOf (L2.CX P w) P w K mg base ["holds", "at"] "check" (defScope (top 16)) (He.ga K "check") cdv A outer s H E) (gg K) (fun cls dd _ H' => E cls dd H') 1 := ⟨rfl, rfl, room, takes_of rfl rfl rfl rfl⟩
  exact (ds_one (ds_if (tN' (tV' C (nB (i := 0) rfl (Or.inl rfl) rfl rfl) (fun _ => rfl))) (ds_one (ds_raise (Ct.calm C) T.bad T.gB rfl rfl (Ct.room C) (Ct.tk C) (nV (i := 1) rfl (Or.inl rfl) rfl rfl) rfl rfl rfl)) ds_nil))
theorem sc_is_amount : FnScope ["value"] ["value"] (defScope (top 21)) := ⟨rfl, rfl, rfl, by decide +kernel, rfl, by decide +kernel, by decide +kernel⟩
theorem ok_is_amount (T : Txt K mg base) (d_is_int_from : DefOk P w K mg base (gg K) 2 "is_int_from" ["value", "low", "high"] h_is_int_from) : DefOk P w K mg base (gg K) 3 "is_amount" ["value"] h_is_amount := by
  obtain ⟨fd, F⟩ := T.u_is_amount
  refine ⟨⟨fd, dfn_okC (k := 2) F sc_is_amount (fun cdv A outer s H F0 E cdE room => ?_), F.bindsN fun _ _ _ _ _ _ us hl => match us, hl with | [_], _ => rfl⟩, F.kp, T.g_is_amount⟩
  have nd := (sc_is_amount).nd
  have C : Ct (cxOf (L2.CX P w) P w K mg base ["value"] "is_amount" (defScope (top 21)) (He.ga K "is_amount") cdv A outer s H E) (gg K) (fun cls dd _ H' => E cls dd H') 2 := ⟨rfl, rfl, room, takes_of rfl rfl rfl rfl⟩
  exact (ds_one (ds_ret (xD C d_is_int_from (by decide) rfl (gV (nV (i := 0) rfl (Or.inl rfl) rfl rfl) (gV kI (gV (kG rfl T.i_MOST_AMOUNT rfl) gV_nil rfl) rfl) rfl) rfl rfl rfl)))
theorem sc_is_weight : FnScope ["value"] ["value"] (defScope (top 22)) := ⟨rfl, rfl, rfl, by decide +kernel, rfl, by decide +kernel, by decide +kernel⟩
theorem ok_is_weight (T : Txt K mg base) (d_is_int : DefOk P w K mg base (gg K) 1 "is_int" ["value"] h_is_int) (d_is_sequence : DefOk P w K mg base (gg K) 1 "is_sequence" ["value"] h_is_sequence) (d_is_sequence_of : DefOk P w K mg base (gg K) 2 "is_sequence_of" ["value", "many"] h_is_sequence_of) (d_is_amount : DefOk P w K mg base (gg K) 3 "is_amount" ["value"] h_is_amount) : DefOk P w K mg base (gg K) 4 "is_weight" ["value"] h_is_weight := by
  obtain ⟨fd, F⟩ := T.u_is_weight
  refine ⟨⟨fd, dfn_okC (k := 3) F sc_is_weight (fun cdv A outer s H F0 E cdE room => ?_), F.bindsN fun _ _ _ _ _ _ us hl => match us, hl with | [_], _ => rfl⟩, F.kp, T.g_is_weight⟩
  have nd := (sc_is_weight).nd
  have C : Ct (cxOf (L2.CX P w) P w K mg base ["value"] "is_weight" (defScope (top 22)) (He.ga K "is_weight") cdv A outer s H E) (gg K) (fun cls dd _ H' => E cls dd H') 3 := ⟨rfl, rfl, room, takes_of rfl rfl rfl rfl⟩
  exact (ds_cons (ds_if (tN' (tV' C (read (xD C d_is_sequence (by decide) rfl (gV (nV (i := 0) rfl (Or.inl rfl) rfl rfl) gV_nil rfl) rfl rfl rfl)) (fun _ => rfl))) (ds_one (ds_ret (xD C d_is_amount (by decide) rfl (gV (nV (i := 0) rfl (Or.inl rfl) rfl rfl) gV_nil rfl) rfl rfl rfl))) ds_nil)
  (ds_cons (ds_if (L2.PW.pt (wO (tN' (tV' C (read (xD C d_is_sequence_of (by decide) rfl (gV (nV (i := 0) rfl (Or.inl rfl) rfl rfl) (gV kI gV_nil rfl) rfl) rfl rfl rfl)) (fun _ => rfl))) (wO (tN' (tV' C (read (xD C d_is_int (by decide) rfl (gV (eIx C (nB (i := 0) rfl (Or.inl rfl) rfl rfl) (read kI) (fun _ _ => rfl)) gV_nil rfl) rfl rfl rfl)) (fun _ => rfl))) (wO1 (tN' (tV' C (read (xD C d_is_int (by decide) rfl (gV (eIx C (nB (i := 0) rfl (Or.inl rfl) rfl rfl) (read kI) (fun _ _ => rfl)) gV_nil rfl) rfl rfl rfl)) (fun _ => rfl))))))) (ds_one (ds_ret kB)) ds_nil)
  (ds_cons (ds_if (L2.PW.pt (wO (tN' (chT (.ord .le) (.ord .le) C (read kI) (read (eIx C (nB (i := 0) rfl (Or.inl rfl) rfl rfl) (read kI) (fun _ _ => rfl))) (read (kG rfl T.i_MOST_IN_WEIGHT rfl)) rfl)) (wO1 (tN' (chT (.ord .le) (.ord .le) C (read kI) (read (eIx C (nB (i := 0) rfl (Or.inl rfl) rfl rfl) (read kI) (fun _ _ => rfl))) (read (kG rfl T.i_MOST_IN_WEIGHT rfl)) rfl))))) (ds_one (ds_ret kB)) ds_nil)
  (ds_one (ds_ret (cV .eq C (read (xGcd C (gB (read (eIx C (nB (i := 0) rfl (Or.inl rfl) rfl rfl) (read kI) (fun _ _ => rfl))) (gB (read (eIx C (nB (i := 0) rfl (Or.inl rfl) rfl rfl) (read kI) (fun _ _ => rfl))) gB_nil rfl) rfl) rfl rfl rfl T.f_gcd)) (read kI) rfl))))))
theorem sc_pair_of : FnScope ["weight"] ["weight"] (defScope (top 26)) := ⟨rfl, rfl, rfl, by decide +kernel, rfl, by decide +kernel, by decide +kernel⟩
theorem ok_pair_of (T : Txt K mg base) (d_is_sequence : DefOk P w K mg base (gg K) 1 "is_sequence" ["value"] h_is_sequence) : DefOk P w K mg base (gg K) 2 "pair_of" ["weight"] h_pair_of := by
  obtain ⟨fd, F⟩ := T.u_pair_of
  refine ⟨⟨fd, dfn_okC (k := 1) F sc_pair_of (fun cdv A outer s H F0 E cdE room => ?_), F.bindsN fun _ _ _ _ _ _ us hl => match us, hl with | [_], _ => rfl⟩, F.kp, T.g_pair_of⟩
  have nd := (sc_pair_of).nd
  have C : Ct (cxOf (L2.CX P w) P w K mg base ["weight"] "pair_of" (defScope (top 26)) (He.ga K "pair_of") cdv A outer s H E) (gg K) (fun cls dd _ H' => E cls dd H') 1 := ⟨rfl, rfl, room, takes_of rfl rfl rfl rfl⟩
  exact (ds_one (ds_ret (eIf C (tV' C (read (xD C d_is_sequence (by decide) rfl (gV (nV (i := 0) rfl (Or.inl rfl) rfl rfl) gV_nil rfl) rfl rfl rfl)) (fun _ => rfl)) (nV (i := 0) rfl (Or.inl rfl) rfl rfl) (eTup (gV (nV (i := 0) rfl (Or.inl rfl) rfl rfl) (gV kI gV_nil rfl) rfl)))))
theorem sc_is_some_weight : FnScope ["weights", "weight"] ["weights"] (defScope (top 23)) := ⟨rfl, rfl, rfl, by decide +kernel, rfl, by decide +kernel, by decide +kernel⟩
theorem ok_is_some_weight (T : Txt K mg base) (d_pair_of : DefOk P w K mg base (gg K) 2 "pair_of" ["weight"] h_pair_of) : DefOk P w K mg base (gg K) 3 "is_some_weight" ["weights"] h_is_some_weight := by
  obtain ⟨fd, F⟩ := T.u_is_some_weight
  refine ⟨⟨fd, dfn_okC (k := 2) F sc_is_some_weight (fun cdv A outer s H F0 E cdE room => ?_), F.bindsN fun _ _ _ _ _ _ us hl => match us, hl with | [_], _ => rfl⟩, F.kp, T.g_is_some_weight⟩
  have nd := (sc_is_some_weight).nd
  have C : Ct (cxOf (L2.CX P w) P w K mg base ["weights", "weight"] "is_some_weight" (defScope (top 23)) (He.ga K "is_some_weight") cdv A outer s H E) (gg K) (fun cls dd _ H' => E cls dd H') 2 := ⟨rfl, rfl, room, takes_of rfl rfl rfl rfl⟩
  exact (ds_one (ds_ret (xAny C (gB (read (freeze (de_lc (own := [("weight", 1)]) (T := (.nm 1)) (Ct.calm C) nd (wSeq C (nB (i := 0) rfl (Or.inl rfl) rfl rfl)) (blkOk_by (by kernel_rfl)) (by decide +kernel) (fun _ _ _ _ _ => (dg_name (i := 1) nd rfl (Or.inl rfl) (Or.inr rfl))) (fun _ _ _ _ _ => lT_nil) (fun _ _ _ _ _ => (cV (.ord .gt) C.blk (read (eIx C.blk (read (xD C.blk d_pair_of (by decide) rfl (gV (nV (i := 1) rfl (Or.inl rfl) rfl rfl) gV_nil rfl) rfl rfl rfl)) (read kI) (fun _ _ => rfl))) (read kI) rfl)) (fun _ => rfl)))) gB_nil rfl) rfl rfl rfl T.f_any)))
theorem sc_are_weights : FnScope ["value", "weight"] ["value"] (defScope (top 24)) := ⟨rfl, rfl, rfl, by decide +kernel, rfl, by decide +kernel, by decide +kernel⟩
theorem ok_are_weights (T : Txt K mg base) (d_is_sequence : DefOk P w K mg base (gg K) 1 "is_sequence" ["value"] h_is_sequence) (d_is_weight : DefOk P w K mg base (gg K) 4 "is_weight" ["value"] h_is_weight) (d_is_some_weight : DefOk P w K mg base (gg K) 3 "is_some_weight" ["weights"] h_is_some_weight) : DefOk P w K mg base (gg K) 5 "are_weights" ["value"] h_are_weights := by
  obtain ⟨fd, F⟩ := T.u_are_weights
  refine ⟨⟨fd, dfn_okC (k := 4) F sc_are_weights (fun cdv A outer s H F0 E cdE room => ?_), F.bindsN fun _ _ _ _ _ _ us hl => match us, hl with | [_], _ => rfl⟩, F.kp, T.g_are_weights⟩
  have nd := (sc_are_weights).nd
  have C : Ct (cxOf (L2.CX P w) P w K mg base ["value", "weight"] "are_weights" (defScope (top 24)) (He.ga K "are_weights") cdv A outer s H E) (gg K) (fun cls dd _ H' => E cls dd H') 4 := ⟨rfl, rfl, room, takes_of rfl rfl rfl rfl⟩
  exact (ds_cons (ds_if (L2.PW.pt (wO (tN' (tV' C (read (xD C d_is_sequence (by decide) rfl (gV (nV (i := 0) rfl (Or.inl rfl) rfl rfl) gV_nil rfl) rfl rfl rfl)) (fun _ => rfl))) (wO1 (tN' (chT (.ord .le) (.ord .le) C (read kI) (read (xLen C (gB (nB (i := 0) rfl (Or.inl rfl) rfl rfl) gB_nil rfl) rfl rfl rfl T.f_len)) (read (kG rfl T.i_MOST_WEIGHTS rfl)) rfl))))) (ds_one (ds_ret kB)) ds_nil)
  (ds_one (ds_ret (oAnd C (xAll C (gB (read (freeze (de_lc (own := [("weight", 1)]) (T := (.nm 1)) (Ct.calm C) nd (wSeq C (nB (i := 0) rfl (Or.inl rfl) rfl rfl)) (blkOk_by (by kernel_rfl)) (by decide +kernel) (fun _ _ _ _ _ => (dg_name (i := 1) nd rfl (Or.inl rfl) (Or.inr rfl))) (fun _ _ _ _ _ => lT_nil) (fun _ _ _ _ _ => (xD C.blk d_is_weight (by decide) rfl (gV (nV (i := 1) rfl (Or.inl rfl) rfl rfl) gV_nil rfl) rfl rfl rfl)) (fun _ => rfl)))) gB_nil rfl) rfl rfl rfl T.f_all) (de_one (xD C d_is_some_weight (by decide) rfl (gV (nV (i := 0) rfl (Or.inl rfl) rfl rfl) gV_nil rfl) rfl rfl rfl))))))
theorem sc_are_amounts : FnScope ["value", "most", "member"] ["value", "most"] (defScope (top 25)) := ⟨rfl, rfl, rfl, by decide +kernel, rfl, by decide +kernel, by decide +kernel⟩
theorem ok_are_amounts (T : Txt K mg base) (d_is_sequence : DefOk P w K mg base (gg K) 1 "is_sequence" ["value"] h_is_sequence) (d_is_amount : DefOk P w K mg base (gg K) 3 "is_amount" ["value"] h_is_amount) : DefOk P w K mg base (gg K) 4 "are_amounts" ["value", "most"] h_are_amounts := by
  obtain ⟨fd, F⟩ := T.u_are_amounts
  refine ⟨⟨fd, dfn_okC (k := 3) F sc_are_amounts (fun cdv A outer s H F0 E cdE room => ?_), F.bindsN fun _ _ _ _ _ _ us hl => match us, hl with | [_, _], _ => rfl⟩, F.kp, T.g_are_amounts⟩
  have nd := (sc_are_amounts).nd
  have C : Ct (cxOf (L2.CX P w) P w K mg base ["value", "most", "member"] "are_amounts" (defScope (top 25)) (He.ga K "are_amounts") cdv A outer s H E) (gg K) (fun cls dd _ H' => E cls dd H') 3 := ⟨rfl, rfl, room, takes_of rfl rfl rfl rfl⟩
  exact (ds_one (ds_ret (oAnd C (xD C d_is_sequence (by decide) rfl (gV (nV (i := 0) rfl (Or.inl rfl) rfl rfl) gV_nil rfl) rfl rfl rfl) (oAnd C (cV (.ord .le) C (read (xLen C (gB (nB (i := 0) rfl (Or.inl rfl) rfl rfl) gB_nil rfl) rfl rfl rfl T.f_len)) (nB (i := 1) rfl (Or.inl rfl) rfl rfl) rfl) (de_one (xAll C (gB (read (freeze (de_lc (own := [("member", 2)]) (T := (.nm 2)) (Ct.calm C) nd (wSeq C (nB (i := 0) rfl (Or.inl rfl) rfl rfl)) (blkOk_by (by kernel_rfl)) (by decide +kernel) (fun _ _ _ _ _ => (dg_name (i := 2) nd rfl (Or.inl rfl) (Or.inr rfl))) (fun _ _ _ _ _ => lT_nil) (fun _ _ _ _ _ => (xD C.blk d_is_amount (by decide) rfl (gV (nV (i := 2) rfl (Or.inl rfl) rfl rfl) gV_nil rfl) rfl rfl rfl)) (fun _ => rfl)))) gB_nil rfl) rfl rfl rfl T.f_all))))))
theorem sc_whole_weights : FnScope ["weights", "pairs", "common", "pair", "weight"] ["weights"] (defScope (top 27)) := ⟨rfl, rfl, rfl, by decide +kernel, rfl, by decide +kernel, by decide +kernel⟩
theorem ok_whole_weights (T : Txt K mg base) (d_pair_of : DefOk P w K mg base (gg K) 2 "pair_of" ["weight"] h_pair_of) : DefOk P w K mg base (gg K) 3 "whole_weights" ["weights"] h_whole_weights := by
  obtain ⟨fd, F⟩ := T.u_whole_weights
  refine ⟨⟨fd, dfn_okC (k := 2) F sc_whole_weights (fun cdv A outer s H F0 E cdE room => ?_), F.bindsN fun _ _ _ _ _ _ us hl => match us, hl with | [_], _ => rfl⟩, F.kp, T.g_whole_weights⟩
  have nd := (sc_whole_weights).nd
  have C : Ct (cxOf (L2.CX P w) P w K mg base ["weights", "pairs", "common", "pair", "weight"] "whole_weights" (defScope (top 27)) (He.ga K "whole_weights") cdv A outer s H E) (gg K) (fun cls dd _ H' => E cls dd H') 2 := ⟨rfl, rfl, room, takes_of rfl rfl rfl rfl⟩
  exact (ds_cons (ds_setLc (i := 1) (own := [("weight", 4)]) (T := (.nm 4)) (Ct.calm C) nd rfl rfl rfl (wSeq C (nB (i := 0) rfl (Or.inl rfl) rfl rfl)) (blkOk_by (by kernel_rfl)) (by decide +kernel) (fun _ _ _ _ _ => (dg_name (i := 4) nd rfl (Or.inl rfl) (Or.inr rfl))) (fun _ _ _ _ _ => lT_nil) (fun _ _ _ _ _ => (xD C.blk d_pair_of (by decide) rfl (gV (nV (i := 4) rfl (Or.inl rfl) rfl rfl) gV_nil rfl) rfl rfl rfl)) (fun _ => rfl))
  (ds_cons (ds_set (i := 2) nd rfl (Or.inr rfl) kI rfl (Or.inl rfl))
  (ds_cons (ds_for (T := (.nm 3)) (passes_of rfl) (Ct.calm C) (wSeqF C (nV (i := 1) rfl (Or.inl rfl) rfl rfl)) (dg_name (i := 3) nd rfl (Or.inl rfl) (Or.inl rfl)) (ds_one (ds_set (i := 2) nd rfl (Or.inr rfl) (xLcm C (gB (nB (i := 2) rfl (Or.inr (Or.inl rfl)) rfl rfl) (gB (read (eIx C (nB (i := 3) rfl (Or.inl rfl) rfl rfl) (read kI) (fun _ _ => rfl))) gB_nil rfl) rfl) rfl rfl rfl T.f_lcm) rfl (Or.inl rfl))) (fun _ => rfl))
  (ds_one (ds_ret (freeze (de_lc (own := [("pair", 3)]) (T := (.nm 3)) (Ct.calm C) nd (wSeq C (nB (i := 1) rfl (Or.inl rfl) rfl rfl)) (blkOk_by (by kernel_rfl)) (by decide +kernel) (fun _ _ _ _ _ => (dg_name (i := 3) nd rfl (Or.inl rfl) (Or.inr rfl))) (fun _ _ _ _ _ => lT_nil) (fun _ _ _ _ _ => (bMul C.blk (read (eIx C.blk (nB (i := 3) rfl (Or.inl rfl) rfl rfl) (read kI) (fun _ _ => rfl))) (read (bDiv C.blk (nB (i := 2) rfl (Or.inr (Or.inl rfl)) rfl rfl) (read (eIx C.blk (nB (i := 3) rfl (Or.inl rfl) rfl rfl) (read kI) (fun _ _ => rfl))))))) (fun _ => rfl))))))))
theorem sc_parted_by : FnScope ["amount", "weights", "wholes", "together", "gets", "left", "places", "at", "cut", "whole"] ["amount", "weights"] (defScope (top 28)) := ⟨rfl, rfl, rfl, by decide +kernel, rfl, by decide +kernel, by decide +kernel⟩
theorem ok_parted_by (T : Txt K mg base) (d_whole_weights : DefOk P w K mg base (gg K) 3 "whole_weights" ["weights"] h_whole_weights) : DefOk P w K mg base (gg K) 4 "parted_by" ["amount", "weights"] h_parted_by := by
  obtain ⟨fd, F⟩ := T.u_parted_by
  refine ⟨⟨fd, dfn_okC (k := 3) F sc_parted_by (fun cdv A outer s H F0 E cdE room => ?_), F.bindsN fun _ _ _ _ _ _ us hl => match us, hl with | [_, _], _ => rfl⟩, F.kp, T.g_parted_by⟩
  have nd := (sc_parted_by).nd
  have C : Ct (cxOf (L2.CX P w) P w K mg base ["amount", "weights", "wholes", "together", "gets", "left", "places", "at", "cut", "whole"] "parted_by" (defScope (top 28)) (He.ga K "parted_by") cdv A outer s H E) (gg K) (fun cls dd _ H' => E cls dd H') 3 := ⟨rfl, rfl, room, takes_of rfl rfl rfl rfl⟩
  exact (ds_cons (ds_set (i := 2) nd rfl (Or.inl rfl) (xD C d_whole_weights (by decide) rfl (gV (nV (i := 1) rfl (Or.inl rfl) rfl rfl) gV_nil rfl) rfl rfl rfl) rfl (Or.inl rfl))
  (ds_cons (ds_set (i := 3) nd rfl (Or.inr rfl) (xSum C (gB (nB (i := 2) rfl (Or.inl rfl) rfl rfl) gB_nil rfl) rfl rfl rfl T.f_sum) rfl (Or.inl rfl))
  (ds_cons (ds_ownLc (i := 4) (own := [("whole", 9)]) (T := (.nm 9)) (Ct.calm C) nd rfl rfl rfl (wSeq C (nB (i := 2) rfl (Or.inl rfl) rfl rfl)) (blkOk_by (by kernel_rfl)) (by decide +kernel) (fun _ _ _ _ _ => (dg_name (i := 9) nd rfl (Or.inl rfl) (Or.inr rfl))) (fun _ _ _ _ _ => lT_nil) (fun _ _ _ _ _ => (bDiv C.blk (read (bMul C.blk (nB (i := 0) rfl (Or.inr (Or.inl rfl)) rfl rfl) (nB (i := 9) rfl (Or.inl rfl) rfl rfl))) (nB (i := 3) rfl (Or.inr (Or.inl rfl)) rfl rfl))) (fun _ => rfl))
  (ds_cons (ds_set (i := 8) nd rfl (Or.inr rfl) (freeze (de_lc (own := [("whole", 9)]) (T := (.nm 9)) (Ct.calm C) nd (wSeq C (nB (i := 2) rfl (Or.inl rfl) rfl rfl)) (blkOk_by (by kernel_rfl)) (by decide +kernel) (fun _ _ _ _ _ => (dg_name (i := 9) nd rfl (Or.inl rfl) (Or.inr rfl))) (fun _ _ _ _ _ => lT_nil) (fun _ _ _ _ _ => (bMod C.blk (read (bMul C.blk (nB (i := 0) rfl (Or.inr (Or.inl rfl)) rfl rfl) (nB (i := 9) rfl (Or.inl rfl) rfl rfl))) (nB (i := 3) rfl (Or.inr (Or.inl rfl)) rfl rfl))) (fun _ => rfl))) rfl (Or.inl rfl))
  (ds_cons (ds_set (i := 5) nd rfl (Or.inl rfl) (bSub C (nB (i := 0) rfl (Or.inr (Or.inl rfl)) rfl rfl) (read (xSum C (gB (nB (i := 4) rfl (Or.inl rfl) rfl rfl) gB_nil rfl) rfl rfl rfl T.f_sum))) rfl (Or.inl rfl))
  (ds_cons (ds_set (i := 6) nd rfl (Or.inl rfl) (freeze (de_sortLam (N := ["at", "cut"]) (fr := ["cut"]) (js := [8]) (k := 0) rfl T.f_sorted rfl (C.room.mono (by decide)) (read (freeze (xLRg C rfl T.f_list rfl T.f_range (read (xLen C (gB (nB (i := 2) rfl (Or.inl rfl) rfl rfl) gB_nil rfl) rfl rfl rfl T.f_len)) rfl rfl))) rfl T.tb_parted_by cdE (List.Mem.head _) (fun p hp e => by
    simp only [gg, List.mem_cons, List.not_mem_nil, or_false] at hp
    rcases hp with rfl | rfl | rfl
    · rfl
    · exact absurd e.symm T.n_parted_by_shared_by
    · exact absurd e.symm T.n_parted_by__law_shared) (NdefX.nscope_by (by decide +kernel)) rfl (NdefX.ndef_free (fr := ["cut"]) (by kernel_rfl)) (by decide +kernel) rfl (fun _ _ _ _ _ => rfl) (fun A s H f c' rm => (eTup (gV (uNeg ⟨rfl, rfl, rm, takes0⟩ (read (eIx ⟨rfl, rfl, rm, takes0⟩ (nB (i := 1) rfl (Or.inr (Or.inr rfl)) rfl rfl) (nB (i := 0) rfl (Or.inl rfl) rfl rfl) (fun _ _ => rfl)))) (gV (nV (i := 0) rfl (Or.inl rfl) rfl rfl) gV_nil rfl) rfl))))) rfl (Or.inl rfl))
  (ds_cons (ds_for (T := (.nm 7)) (passes_of rfl) (Ct.calm C) (wSeqF C (freeze (eSlL C (nB (i := 6) rfl (Or.inl rfl) rfl rfl) xNo (xSo (nB (i := 5) rfl (Or.inl rfl) rfl rfl))))) (dg_name (i := 7) nd rfl (Or.inl rfl) (Or.inl rfl)) (ds_one (ds_augIx (i := 4) rfl (Or.inl rfl) rfl rfl (nV (i := 7) rfl (Or.inl rfl) rfl rfl) kI ip_add (fun _ _ _ => rfl))) (fun _ => rfl))
  (ds_one (ds_ret (xTup C (gB (nB (i := 4) rfl (Or.inl rfl) rfl rfl) gB_nil rfl) rfl rfl rfl T.f_tuple))))))))))
theorem sc_filled_by : FnScope ["amount", "sums", "gets", "left", "part", "paid"] ["amount", "sums"] (defScope (top 29)) := ⟨rfl, rfl, rfl, by decide +kernel, rfl, by decide +kernel, by decide +kernel⟩
theorem ok_filled_by (T : Txt K mg base)  : DefOk P w K mg base (gg K) 1 "filled_by" ["amount", "sums"] h_filled_by := by
  obtain ⟨fd, F⟩ := T.u_filled_by
  refine ⟨⟨fd, dfn_okC (k := 0) F sc_filled_by (fun cdv A outer s H F0 E cdE room => ?_), F.bindsN fun _ _ _ _ _ _ us hl => match us, hl with | [_, _], _ => rfl⟩, F.kp, T.g_filled_by⟩
  have nd := (sc_filled_by).nd
  have C : Ct (cxOf (L2.CX P w) P w K mg base ["amount", "sums", "gets", "left", "part", "paid"] "filled_by" (defScope (top 29)) (He.ga K "filled_by") cdv A outer s H E) (gg K) (fun cls dd _ H' => E cls dd H') 0 := ⟨rfl, rfl, room, takes_of rfl rfl rfl rfl⟩
  exact (ds_cons (ds_own (i := 2) nd rfl (Or.inl rfl) (eLst gV_nil) rfl (Or.inl rfl))
  (ds_cons (ds_set (i := 3) nd rfl (Or.inl rfl) (nV (i := 0) rfl (Or.inl rfl) rfl rfl) rfl (Or.inl rfl))
  (ds_cons (ds_for (T := (.nm 4)) (passes_of rfl) (Ct.calm C) (wSeqF C (nV (i := 1) rfl (Or.inl rfl) rfl rfl)) (dg_name (i := 4) nd rfl (Or.inl rfl) (Or.inl rfl)) (ds_cons (ds_set (i := 5) nd rfl (Or.inl rfl) (xMin C (gB (nB (i := 4) rfl (Or.inl rfl) rfl rfl) (gB (nB (i := 3) rfl (Or.inl rfl) rfl rfl) gB_nil rfl) rfl) rfl rfl rfl T.f_min) rfl (Or.inl rfl))
  (ds_cons (ds_aug (i := 3) nd rfl (Or.inl rfl) (nV (i := 5) rfl (Or.inl rfl) rfl rfl) ip_sub (Or.inl rfl))
  (ds_one (ds_app (i := 2) rfl (Or.inl rfl) rfl rfl (nV (i := 5) rfl (Or.inl rfl) rfl rfl) rfl rfl rfl rfl)))) (fun _ => rfl))
  (ds_one (ds_ret (eTup (gV (xTup C (gB (nB (i := 2) rfl (Or.inl rfl) rfl rfl) gB_nil rfl) rfl rfl rfl T.f_tuple) (gV (nV (i := 3) rfl (Or.inl rfl) rfl rfl) gV_nil rfl) rfl)))))))
theorem sc_parted : FnScope ["amount", "weights"] ["amount", "weights"] (defScope (top 31)) := ⟨rfl, rfl, rfl, by decide +kernel, rfl, by decide +kernel, by decide +kernel⟩
theorem ok_parted (T : Txt K mg base) (d_check : DefOk P w K mg base (gg K) 2 "check" ["holds", "at"] h_check) (d_is_amount : DefOk P w K mg base (gg K) 3 "is_amount" ["value"] h_is_amount) (d_are_weights : DefOk P w K mg base (gg K) 5 "are_weights" ["value"] h_are_weights) (d_parted_by : DefOk P w K mg base (gg K) 4 "parted_by" ["amount", "weights"] h_parted_by) : DefOk P w K mg base (gg K) 6 "parted" ["amount", "weights"] h_parted := by
  obtain ⟨fd, F⟩ := T.u_parted
  refine ⟨⟨fd, dfn_okC (k := 5) F sc_parted (fun cdv A outer s H F0 E cdE room => ?_), F.bindsN fun _ _ _ _ _ _ us hl => match us, hl with | [_, _], _ => rfl⟩, F.kp, T.g_parted⟩
  have nd := (sc_parted).nd
  have C : Ct (cxOf (L2.CX P w) P w K mg base ["amount", "weights"] "parted" (defScope (top 31)) (He.ga K "parted") cdv A outer s H E) (gg K) (fun cls dd _ H' => E cls dd H') 5 := ⟨rfl, rfl, room, takes_of rfl rfl rfl rfl⟩
  exact (ds_cons (ds_expr (xD C d_check (by decide) rfl (gV (xD C d_is_amount (by decide) rfl (gV (nV (i := 0) rfl (Or.inl rfl) rfl rfl) gV_nil rfl) rfl rfl rfl) (gV kI gV_nil rfl) rfl) rfl rfl rfl) rfl)
  (ds_cons (ds_expr (xD C d_check (by decide) rfl (gV (xD C d_are_weights (by decide) rfl (gV (nV (i := 1) rfl (Or.inl rfl) rfl rfl) gV_nil rfl) rfl rfl rfl) (gV kI gV_nil rfl) rfl) rfl rfl rfl) rfl)
  (ds_one (ds_ret (xD C d_parted_by (by decide) rfl (gV (nV (i := 0) rfl (Or.inl rfl) rfl rfl) (gV (nV (i := 1) rfl (Or.inl rfl) rfl rfl) gV_nil rfl) rfl) rfl rfl rfl)))))
theorem sc__are_names : FnScope ["names", "alike", "name"] ["names"] (defScope (top 32)) := ⟨rfl, rfl, rfl, by decide +kernel, rfl, by decide +kernel, by decide +kernel⟩
theorem ok__are_names (T : Txt K mg base) (d_is_int : DefOk P w K mg base (gg K) 1 "is_int" ["value"] h_is_int) (d_is_group : DefOk P w K mg base (gg K) 3 "is_group" ["value"] h_is_group) : DefOk P w K mg base (gg K) 4 "_are_names" ["names"] h__are_names := by
  obtain ⟨fd, F⟩ := T.u__are_names
  refine ⟨⟨fd, dfn_okC (k := 3) F sc__are_names (fun cdv A outer s H F0 E cdE room => ?_), F.bindsN fun _ _ _ _ _ _ us hl => match us, hl with | [_], _ => rfl⟩, F.kp, T.g__are_names⟩
  have nd := (sc__are_names).nd
  have C : Ct (cxOf (L2.CX P w) P w K mg base ["names", "alike", "name"] "_are_names" (defScope (top 32)) (He.ga K "_are_names") cdv A outer s H E) (gg K) (fun cls dd _ H' => E cls dd H') 3 := ⟨rfl, rfl, room, takes_of rfl rfl rfl rfl⟩
  exact (ds_cons (ds_set (i := 1) nd rfl (Or.inl rfl) (xAll C (gB (read (freeze (de_lc (own := [("name", 2)]) (T := (.nm 2)) (Ct.calm C) nd (wSeq C (nB (i := 0) rfl (Or.inl rfl) rfl rfl)) (blkOk_by (by kernel_rfl)) (by decide +kernel) (fun _ _ _ _ _ => (dg_name (i := 2) nd rfl (Or.inl rfl) (Or.inr rfl))) (fun _ _ _ _ _ => lT_nil) (fun _ _ _ _ _ => (xD C.blk d_is_int (by decide) rfl (gV (nV (i := 2) rfl (Or.inl rfl) rfl rfl) gV_nil rfl) rfl rfl rfl)) (fun _ => rfl)))) gB_nil rfl) rfl rfl rfl T.f_all) rfl (Or.inl rfl))
  (ds_cons (ds_set (i := 1) nd rfl (Or.inl rfl) (oOr C (nV (i := 1) rfl (Or.inl rfl) rfl rfl) (de_one (xAll C (gB (read (freeze (de_lc (own := [("name", 2)]) (T := (.nm 2)) (Ct.calm C) nd (wSeq C (nB (i := 0) rfl (Or.inl rfl) rfl rfl)) (blkOk_by (by kernel_rfl)) (by decide +kernel) (fun _ _ _ _ _ => (dg_name (i := 2) nd rfl (Or.inl rfl) (Or.inr rfl))) (fun _ _ _ _ _ => lT_nil) (fun _ _ _ _ _ => (xIsi (T := "str") C.blk rfl T.f_isinstance (nB (i := 2) rfl (Or.inl rfl) rfl rfl) (cTy rfl T.f_str PyProof.Rows.Boot.«str» (by decide) rfl) rfl rfl)) (fun _ => rfl)))) gB_nil rfl) rfl rfl rfl T.f_all))) rfl (Or.inl rfl))
  (ds_cons (ds_set (i := 1) nd rfl (Or.inl rfl) (oOr C (nV (i := 1) rfl (Or.inl rfl) rfl rfl) (de_one (xAll C (gB (read (freeze (de_lc (own := [("name", 2)]) (T := (.nm 2)) (Ct.calm C) nd (wSeq C (nB (i := 0) rfl (Or.inl rfl) rfl rfl)) (blkOk_by (by kernel_rfl)) (by decide +kernel) (fun _ _ _ _ _ => (dg_name (i := 2) nd rfl (Or.inl rfl) (Or.inr rfl))) (fun _ _ _ _ _ => lT_nil) (fun _ _ _ _ _ => (xD C.blk d_is_group (by decide) rfl (gV (nV (i := 2) rfl (Or.inl rfl) rfl rfl) gV_nil rfl) rfl rfl rfl)) (fun _ => rfl)))) gB_nil rfl) rfl rfl rfl T.f_all))) rfl (Or.inl rfl))
  (ds_one (ds_ret (oAnd C (nV (i := 1) rfl (Or.inl rfl) rfl rfl) (de_one (cV .eq C (read (xLenSet C rfl T.f_len rfl T.f_set (nB (i := 0) rfl (Or.inl rfl) rfl rfl) rfl)) (read (xLen C (gB (nB (i := 0) rfl (Or.inl rfl) rfl rfl) gB_nil rfl) rfl rfl rfl T.f_len)) rfl))))))))
theorem sc_are_claims : FnScope ["value", "pair"] ["value"] (defScope (top 33)) := ⟨rfl, rfl, rfl, by decide +kernel, rfl, by decide +kernel, by decide +kernel⟩
theorem ok_are_claims (T : Txt K mg base) (d_is_int : DefOk P w K mg base (gg K) 1 "is_int" ["value"] h_is_int) (d_is_sequence : DefOk P w K mg base (gg K) 1 "is_sequence" ["value"] h_is_sequence) (d_is_sequence_of : DefOk P w K mg base (gg K) 2 "is_sequence_of" ["value", "many"] h_is_sequence_of) (d_frozen : DefOk P w K mg base (gg K) 5 "frozen" ["value"] h_frozen) (d_is_group : DefOk P w K mg base (gg K) 3 "is_group" ["value"] h_is_group) (d_is_weight : DefOk P w K mg base (gg K) 4 "is_weight" ["value"] h_is_weight) (d_is_some_weight : DefOk P w K mg base (gg K) 3 "is_some_weight" ["weights"] h_is_some_weight) (d__are_names : DefOk P w K mg base (gg K) 4 "_are_names" ["names"] h__are_names) : DefOk P w K mg base (gg K) 6 "are_claims" ["value"] h_are_claims := by
  obtain ⟨fd, F⟩ := T.u_are_claims
  refine ⟨⟨fd, dfn_okC (k := 5) F sc_are_claims (fun cdv A outer s H F0 E cdE room => ?_), F.bindsN fun _ _ _ _ _ _ us hl => match us, hl with | [_], _ => rfl⟩, F.kp, T.g_are_claims⟩
  have nd := (sc_are_claims).nd
  have C : Ct (cxOf (L2.CX P w) P w K mg base ["value", "pair"] "are_claims" (defScope (top 33)) (He.ga K "are_claims") cdv A outer s H E) (gg K) (fun cls dd _ H' => E cls dd H') 5 := ⟨rfl, rfl, room, takes_of rfl rfl rfl rfl⟩
  exact (ds_cons (ds_if (L2.PW.pt (wO (tN' (tV' C (read (xD C d_is_sequence (by decide) rfl (gV (nV (i := 0) rfl (Or.inl rfl) rfl rfl) gV_nil rfl) rfl rfl rfl)) (fun _ => rfl))) (wO1 (tN' (chT (.ord .le) (.ord .le) C (read kI) (read (xLen C (gB (nB (i := 0) rfl (Or.inl rfl) rfl rfl) gB_nil rfl) rfl rfl rfl T.f_len)) (read (kG rfl T.i_MOST_WEIGHTS rfl)) rfl))))) (ds_one (ds_ret kB)) ds_nil)
  (ds_cons (ds_if (tN' (tV' C (read (xAll C (gB (read (freeze (de_lc (own := [("pair", 1)]) (T := (.nm 1)) (Ct.calm C) nd (wSeq C (nB (i := 0) rfl (Or.inl rfl) rfl rfl)) (blkOk_by (by kernel_rfl)) (by decide +kernel) (fun _ _ _ _ _ => (dg_name (i := 1) nd rfl (Or.inl rfl) (Or.inr rfl))) (fun _ _ _ _ _ => lT_nil) (fun _ _ _ _ _ => (oAnd C.blk (xD C.blk d_is_sequence_of (by decide) rfl (gV (nV (i := 1) rfl (Or.inl rfl) rfl rfl) (gV kI gV_nil rfl) rfl) rfl rfl rfl) (de_one (xD C.blk d_is_weight (by decide) rfl (gV (eIx C.blk (nB (i := 1) rfl (Or.inl rfl) rfl rfl) (read kI) (fun _ _ => rfl)) gV_nil rfl) rfl rfl rfl)))) (fun _ => rfl)))) gB_nil rfl) rfl rfl rfl T.f_all)) (fun _ => rfl))) (ds_one (ds_ret kB)) ds_nil)
  (ds_cons (ds_if (tN' (tV' C (read (xAll C (gB (read (freeze (de_lc (own := [("pair", 1)]) (T := (.nm 1)) (Ct.calm C) nd (wSeq C (nB (i := 0) rfl (Or.inl rfl) rfl rfl)) (blkOk_by (by kernel_rfl)) (by decide +kernel) (fun _ _ _ _ _ => (dg_name (i := 1) nd rfl (Or.inl rfl) (Or.inr rfl))) (fun _ _ _ _ _ => lT_nil) (fun _ _ _ _ _ => (oOr C.blk (xD C.blk d_is_int (by decide) rfl (gV (eIx C.blk (nB (i := 1) rfl (Or.inl rfl) rfl rfl) (read kI) (fun _ _ => rfl)) gV_nil rfl) rfl rfl rfl) (oOr C.blk (xIsi (T := "str") C.blk rfl T.f_isinstance (read (eIx C.blk (nB (i := 1) rfl (Or.inl rfl) rfl rfl) (read kI) (fun _ _ => rfl))) (cTy rfl T.f_str PyProof.Rows.Boot.«str» (by decide) rfl) rfl rfl) (de_one (xD C.blk d_is_group (by decide) rfl (gV (eIx C.blk (nB (i := 1) rfl (Or.inl rfl) rfl rfl) (read kI) (fun _ _ => rfl)) gV_nil rfl) rfl rfl rfl))))) (fun _ => rfl)))) gB_nil rfl) rfl rfl rfl T.f_all)) (fun _ => rfl))) (ds_one (ds_ret kB)) ds_nil)
  (ds_one (ds_ret (oAnd C (xD C d__are_names (by decide) rfl (gV (freeze (de_lc (own := [("pair", 1)]) (T := (.nm 1)) (Ct.calm C) nd (wSeq C (nB (i := 0) rfl (Or.inl rfl) rfl rfl)) (blkOk_by (by kernel_rfl)) (by decide +kernel) (fun _ _ _ _ _ => (dg_name (i := 1) nd rfl (Or.inl rfl) (Or.inr rfl))) (fun _ _ _ _ _ => lT_nil) (fun _ _ _ _ _ => (xD C.blk d_frozen (by decide) rfl (gV (eIx C.blk (nB (i := 1) rfl (Or.inl rfl) rfl rfl) (read kI) (fun _ _ => rfl)) gV_nil rfl) rfl rfl rfl)) (fun _ => rfl))) gV_nil rfl) rfl rfl rfl) (de_one (xD C d_is_some_weight (by decide) rfl (gV (freeze (de_lc (own := [("pair", 1)]) (T := (.nm 1)) (Ct.calm C) nd (wSeq C (nB (i := 0) rfl (Or.inl rfl) rfl rfl)) (blkOk_by (by kernel_rfl)) (by decide +kernel) (fun _ _ _ _ _ => (dg_name (i := 1) nd rfl (Or.inl rfl) (Or.inr rfl))) (fun _ _ _ _ _ => lT_nil) (fun _ _ _ _ _ => (eIx C.blk (nB (i := 1) rfl (Or.inl rfl) rfl rfl) (read kI) (fun _ _ => rfl))) (fun _ => rfl))) gV_nil rfl) rfl rfl rfl))))))))
theorem sc_shared_by : FnScope ["amount", "claims", "told", "gets", "_", "weight", "pair", "part"] ["amount", "claims"] (defScope (top 34)) := ⟨rfl, rfl, rfl, by decide +kernel, rfl, by decide +kernel, by decide +kernel⟩
theorem ok_shared_by (T : Txt K mg base) (d_parted_by : DefOk P w K mg base (gg K) 4 "parted_by" ["amount", "weights"] h_parted_by) : DefOk P w K mg base (gg K) 5 "shared_by" ["amount", "claims"] h_shared_by := by
  obtain ⟨fd, F⟩ := T.u_shared_by
  refine ⟨⟨fd, dfn_okC (k := 4) F sc_shared_by (fun cdv A outer s H F0 E cdE room => ?_), F.bindsN fun _ _ _ _ _ _ us hl => match us, hl with | [_, _], _ => rfl⟩, F.kp, T.g_shared_by⟩
  have nd := (sc_shared_by).nd
  have C : Ct (cxOf (L2.CX P w) P w K mg base ["amount", "claims", "told", "gets", "_", "weight", "pair", "part"] "shared_by" (defScope (top 34)) (He.ga K "shared_by") cdv A outer s H E) (gg K) (fun cls dd _ H' => E cls dd H') 4 := ⟨rfl, rfl, room, takes_of rfl rfl rfl rfl⟩
  exact (ds_cons (ds_set (i := 2) nd rfl (Or.inl rfl) (freeze (de_sortLam (N := ["pair"]) (fr := []) (js := []) (k := 0) rfl T.f_sorted rfl (C.room.mono (by decide)) (read (freeze (xLst C (gB (nB (i := 1) rfl (Or.inl rfl) rfl rfl) gB_nil rfl) rfl rfl rfl T.f_list))) rfl T.tb_shared_by cdE (List.Mem.tail _ (List.Mem.head _)) (fun p hp e => by
    simp only [gg, List.mem_cons, List.not_mem_nil, or_false] at hp
    rcases hp with rfl | rfl | rfl
    · exact absurd e T.n_parted_by_shared_by
    · rfl
    · exact absurd e.symm T.n_shared_by__law_shared) (NdefX.nscope_by (by decide +kernel)) rfl (NdefX.ndef_free (fr := []) (by kernel_rfl)) (by decide +kernel) rfl (fun _ _ _ _ _ => rfl) (fun A s H f c' rm => (eIx ⟨rfl, rfl, rm, takes0⟩ (nB (i := 0) rfl (Or.inl rfl) rfl rfl) (read kI) (fun _ _ => rfl))))) rfl (Or.inl rfl))
  (ds_cons (ds_set (i := 3) nd rfl (Or.inl rfl) (xD C d_parted_by (by decide) rfl (gV (nV (i := 0) rfl (Or.inl rfl) rfl rfl) (gV (freeze (de_lc (own := [("_", 4), ("weight", 5)]) (T := (.tp [(.nm 4), (.nm 5)])) (Ct.calm C) nd (wSeq C (nB (i := 2) rfl (Or.inl rfl) rfl rfl)) (blkOk_by (by kernel_rfl)) (by decide +kernel) (fun _ _ _ _ _ => (dg_tup (Ct.K C.blk) (Ct.calm C.blk) (dgs_cons (dg_name (i := 4) nd rfl (Or.inl rfl) (Or.inr rfl)) (dgs_cons (dg_name (i := 5) nd rfl (Or.inl rfl) (Or.inr rfl)) dgs_nil rfl) rfl) rfl rfl)) (fun _ _ _ _ _ => lT_nil) (fun _ _ _ _ _ => (nV (i := 5) rfl (Or.inl rfl) rfl rfl)) (fun _ => rfl))) gV_nil rfl) rfl) rfl rfl rfl) rfl (Or.inl rfl))
  (ds_one (ds_ret (xTup C (gB (read (freeze (de_lc (own := [("pair", 6), ("part", 7)]) (T := (.tp [(.nm 6), (.nm 7)])) (Ct.calm C) nd (wZip C rfl T.f_zip (gB (nB (i := 2) rfl (Or.inl rfl) rfl rfl) (gB (nB (i := 3) rfl (Or.inl rfl) rfl rfl) gB_nil rfl) rfl) rfl rfl) (blkOk_by (by kernel_rfl)) (by decide +kernel) (fun _ _ _ _ _ => (dg_tup (Ct.K C.blk) (Ct.calm C.blk) (dgs_cons (dg_name (i := 6) nd rfl (Or.inl rfl) (Or.inr rfl)) (dgs_cons (dg_name (i := 7) nd rfl (Or.inl rfl) (Or.inr rfl)) dgs_nil rfl) rfl) rfl rfl)) (fun _ _ _ _ _ => lT_nil) (fun _ _ _ _ _ => (eTup (gV (eIx C.blk (nB (i := 6) rfl (Or.inl rfl) rfl rfl) (read kI) (fun _ _ => rfl)) (gV (nV (i := 7) rfl (Or.inl rfl) rfl rfl) gV_nil rfl) rfl))) (fun _ => rfl)))) gB_nil rfl) rfl rfl rfl T.f_tuple)))))
theorem sc_shared : FnScope ["amount", "claims"] ["amount", "claims"] (defScope (top 35)) := ⟨rfl, rfl, rfl, by decide +kernel, rfl, by decide +kernel, by decide +kernel⟩
theorem ok_shared (T : Txt K mg base) (d_frozen : DefOk P w K mg base (gg K) 5 "frozen" ["value"] h_frozen) (d_check : DefOk P w K mg base (gg K) 2 "check" ["holds", "at"] h_check) (d_is_amount : DefOk P w K mg base (gg K) 3 "is_amount" ["value"] h_is_amount) (d_are_claims : DefOk P w K mg base (gg K) 6 "are_claims" ["value"] h_are_claims) (d_shared_by : DefOk P w K mg base (gg K) 5 "shared_by" ["amount", "claims"] h_shared_by) : DefOk P w K mg base (gg K) 7 "shared" ["amount", "claims"] h_shared := by
  obtain ⟨fd, F⟩ := T.u_shared
  refine ⟨⟨fd, dfn_okC (k := 6) F sc_shared (fun cdv A outer s H F0 E cdE room => ?_), F.bindsN fun _ _ _ _ _ _ us hl => match us, hl with | [_, _], _ => rfl⟩, F.kp, T.g_shared⟩
  have nd := (sc_shared).nd
  have C : Ct (cxOf (L2.CX P w) P w K mg base ["amount", "claims"] "shared" (defScope (top 35)) (He.ga K "shared") cdv A outer s H E) (gg K) (fun cls dd _ H' => E cls dd H') 6 := ⟨rfl, rfl, room, takes_of rfl rfl rfl rfl⟩
  exact (ds_cons (ds_expr (xD C d_check (by decide) rfl (gV (xD C d_is_amount (by decide) rfl (gV (nV (i := 0) rfl (Or.inl rfl) rfl rfl) gV_nil rfl) rfl rfl rfl) (gV kI gV_nil rfl) rfl) rfl rfl rfl) rfl)
  (ds_cons (ds_expr (xD C d_check (by decide) rfl (gV (xD C d_are_claims (by decide) rfl (gV (nV (i := 1) rfl (Or.inl rfl) rfl rfl) gV_nil rfl) rfl rfl rfl) (gV kI gV_nil rfl) rfl) rfl rfl rfl) rfl)
  (ds_one (ds_ret (xD C d_shared_by (by decide) rfl (gV (nV (i := 0) rfl (Or.inl rfl) rfl rfl) (gV (xD C d_frozen (by decide) rfl (gV (nV (i := 1) rfl (Or.inl rfl) rfl rfl) gV_nil rfl) rfl rfl rfl) gV_nil rfl) rfl) rfl rfl rfl)))))
theorem sc_filled : FnScope ["amount", "sums"] ["amount", "sums"] (defScope (top 36)) := ⟨rfl, rfl, rfl, by decide +kernel, rfl, by decide +kernel, by decide +kernel⟩
theorem ok_filled (T : Txt K mg base) (d_check : DefOk P w K mg base (gg K) 2 "check" ["holds", "at"] h_check) (d_is_amount : DefOk P w K mg base (gg K) 3 "is_amount" ["value"] h_is_amount) (d_are_amounts : DefOk P w K mg base (gg K) 4 "are_amounts" ["value", "most"] h_are_amounts) (d_filled_by : DefOk P w K mg base (gg K) 1 "filled_by" ["amount", "sums"] h_filled_by) : DefOk P w K mg base (gg K) 5 "filled" ["amount", "sums"] h_filled := by
  obtain ⟨fd, F⟩ := T.u_filled
  refine ⟨⟨fd, dfn_okC (k := 4) F sc_filled (fun cdv A outer s H F0 E cdE room => ?_), F.bindsN fun _ _ _ _ _ _ us hl => match us, hl with | [_, _], _ => rfl⟩, F.kp, T.g_filled⟩
  have nd := (sc_filled).nd
  have C : Ct (cxOf (L2.CX P w) P w K mg base ["amount", "sums"] "filled" (defScope (top 36)) (He.ga K "filled") cdv A outer s H E) (gg K) (fun cls dd _ H' => E cls dd H') 4 := ⟨rfl, rfl, room, takes_of rfl rfl rfl rfl⟩
  exact (ds_cons (ds_expr (xD C d_check (by decide) rfl (gV (xD C d_is_amount (by decide) rfl (gV (nV (i := 0) rfl (Or.inl rfl) rfl rfl) gV_nil rfl) rfl rfl rfl) (gV kI gV_nil rfl) rfl) rfl rfl rfl) rfl)
  (ds_cons (ds_expr (xD C d_check (by decide) rfl (gV (xD C d_are_amounts (by decide) rfl (gV (nV (i := 1) rfl (Or.inl rfl) rfl rfl) (gV (kG rfl T.i_MOST_WEIGHTS rfl) gV_nil rfl) rfl) rfl rfl rfl) (gV kI gV_nil rfl) rfl) rfl rfl rfl) rfl)
  (ds_one (ds_ret (xD C d_filled_by (by decide) rfl (gV (nV (i := 0) rfl (Or.inl rfl) rfl rfl) (gV (nV (i := 1) rfl (Or.inl rfl) rfl rfl) gV_nil rfl) rfl) rfl rfl rfl)))))
theorem sc__law_draws : FnScope ["script", "place", "many", "cell", "numbers", "rest", "k", "first"] ["script", "place", "many"] (defScope (top 38)) := ⟨rfl, rfl, rfl, by decide +kernel, rfl, by decide +kernel, by decide +kernel⟩
theorem ok__law_draws (T : Txt K mg base)  : DefOk P w K mg base (gg K) 1 "_law_draws" ["script", "place", "many"] h__law_draws := by
  obtain ⟨fd, F⟩ := T.u__law_draws
  refine ⟨⟨fd, dfn_okC (k := 0) F sc__law_draws (fun cdv A outer s H F0 E cdE room => ?_), F.bindsN fun _ _ _ _ _ _ us hl => match us, hl with | [_, _, _], _ => rfl⟩, F.kp, T.g__law_draws⟩
  have nd := (sc__law_draws).nd
  have C : Ct (cxOf (L2.CX P w) P w K mg base ["script", "place", "many", "cell", "numbers", "rest", "k", "first"] "_law_draws" (defScope (top 38)) (He.ga K "_law_draws") cdv A outer s H E) (gg K) (fun cls dd _ H' => E cls dd H') 0 := ⟨rfl, rfl, room, takes_of rfl rfl rfl rfl⟩
  exact (ds_cons (ds_set (i := 3) nd rfl (Or.inl rfl) (eIf C (cT (.ord .lt) C (nB (i := 1) rfl (Or.inl rfl) rfl rfl) (read (xLen C (gB (nB (i := 0) rfl (Or.inl rfl) rfl rfl) gB_nil rfl) rfl rfl rfl T.f_len)) rfl) (eIx C (nB (i := 0) rfl (Or.inl rfl) rfl rfl) (nB (i := 1) rfl (Or.inl rfl) rfl rfl) (fun _ _ => rfl)) (bAdd C (read (bMul C (read kI) (nB (i := 1) rfl (Or.inl rfl) rfl rfl))) (read kI))) rfl (Or.inl rfl))
  (ds_cons (ds_own (i := 4) nd rfl (Or.inl rfl) (eLst gV_nil) rfl (Or.inl rfl))
  (ds_cons (ds_set (i := 5) nd rfl (Or.inl rfl) (nV (i := 3) rfl (Or.inl rfl) rfl rfl) rfl (Or.inl rfl))
  (ds_cons (ds_for (T := (.nm 6)) (passes_of rfl) (Ct.calm C) (di_rng1 rfl T.f_range (nB (i := 2) rfl (Or.inl rfl) rfl rfl) rfl) (dg_name (i := 6) nd rfl (Or.inl rfl) (Or.inl rfl)) (ds_one (ds_if (cT (.ord .ge) C (nB (i := 3) rfl (Or.inl rfl) rfl rfl) (read (bPow C (read kI) (read kI))) rfl) (ds_cons (ds_app (i := 4) rfl (Or.inl rfl) rfl rfl (bMod C (read (xInt C (gB (nB (i := 5) rfl (Or.inl rfl) rfl rfl) gB_nil rfl) rfl rfl rfl T.f_int)) (read (bPow C (read kI) (read kI)))) rfl rfl rfl rfl)
  (ds_one (ds_set (i := 5) nd rfl (Or.inl rfl) (bDiv C (nB (i := 5) rfl (Or.inl rfl) rfl rfl) (read (bPow C (read kI) (read kI)))) rfl (Or.inl rfl)))) (ds_cons (ds_set (i := 7) nd rfl (Or.inl rfl) (bMod C (read (xInt C (gB (read (bAdd C (read (bAdd C (read (bMul C (read (xAbs C (gB (nB (i := 3) rfl (Or.inl rfl) rfl rfl) gB_nil rfl) rfl rfl rfl T.f_abs)) (read kI))) (read (bMul C (read (bAdd C (nB (i := 6) rfl (Or.inl rfl) rfl rfl) (read kI))) (read kI))))) (read (bMul C (nB (i := 1) rfl (Or.inl rfl) rfl rfl) (read kI))))) gB_nil rfl) rfl rfl rfl T.f_int)) (read kI)) rfl (Or.inl rfl))
  (ds_one (ds_app (i := 4) rfl (Or.inl rfl) rfl rfl (bMod C (read (bMod C (read (xInt C (gB (read (bAdd C (read (bMul C (nB (i := 7) rfl (Or.inl rfl) rfl rfl) (read kI))) (read (bMul C (read (bAdd C (nB (i := 6) rfl (Or.inl rfl) rfl rfl) (read kI))) (read kI))))) gB_nil rfl) rfl rfl rfl T.f_int)) (read kI))) (read (bPow C (read kI) (read kI)))) rfl rfl rfl rfl))))) (fun _ => rfl))
  (ds_one (ds_frz 4 (ds_ret (nV (i := 4) rfl (Or.inl rfl) rfl rfl))))))))
theorem sc__law_same : FnScope ["actual", "due", "k"] ["actual", "due"] (defScope (top 39)) := ⟨rfl, rfl, rfl, by decide +kernel, rfl, by decide +kernel, by decide +kernel⟩
theorem ok__law_same' (T : Txt K mg base)  {hself : List D → Res D} {k : Nat} (d_self : DefOk P w K mg base (gg K) k "_law_same" ["actual", "due"] hself) (hk : 0 ≤ k) : DefOk P w K mg base (gg K) (k + 1) "_law_same" ["actual", "due"] (fnD 2 3 (f__law_same hself)) := by
  obtain ⟨fd, F⟩ := T.u__law_same
  refine ⟨⟨fd, dfn_okC (k := k) F sc__law_same (fun cdv A outer s H F0 E cdE room => ?_), F.bindsN fun _ _ _ _ _ _ us hl => match us, hl with | [_, _], _ => rfl⟩, F.kp, T.g__law_same⟩
  have nd := (sc__law_same).nd
  have C : Ct (cxOf (L2.CX P w) P w K mg base ["actual", "due", "k"] "_law_same" (defScope (top 39)) (He.ga K "_law_same") cdv A outer s H E) (gg K) (fun cls dd _ H' => E cls dd H') k := ⟨rfl, rfl, room, takes_of rfl rfl rfl rfl⟩
  exact (ds_cons (ds_if (L2.PW.pt (wA (tV' C (read (xIsi (T := "tuple") C rfl T.f_isinstance (nB (i := 1) rfl (Or.inr (Or.inl rfl)) rfl rfl) (cTy rfl T.f_tuple PyProof.Rows.Boot.«tuple» (by decide) rfl) rfl rfl)) (fun _ => rfl)) (wA (tV' C (read (xIsi (T := "tuple") C rfl T.f_isinstance (nB (i := 0) rfl (Or.inr (Or.inl rfl)) rfl rfl) (cTy rfl T.f_tuple PyProof.Rows.Boot.«tuple» (by decide) rfl) rfl rfl)) (fun _ => rfl)) (wA1 (cT .eq C (read (xLen C (gB (nB (i := 0) rfl (Or.inr (Or.inl rfl)) rfl rfl) gB_nil rfl) rfl rfl rfl T.f_len)) (read (xLen C (gB (nB (i := 1) rfl (Or.inr (Or.inl rfl)) rfl rfl) gB_nil rfl) rfl rfl rfl T.f_len)) rfl))))) (ds_one (ds_ret (xAll C (gB (read (freeze (de_lc (own := [("k", 2)]) (T := (.nm 2)) (Ct.calm C) nd (thaw (di_rng1 rfl T.f_range (read (xLen C (gB (nB (i := 1) rfl (Or.inr (Or.inl rfl)) rfl rfl) gB_nil rfl) rfl rfl rfl T.f_len)) rfl)) (blkOk_by (by kernel_rfl)) (by decide +kernel) (fun _ _ _ _ _ => (dg_name (i := 2) nd rfl (Or.inl rfl) (Or.inr rfl))) (fun _ _ _ _ _ => lT_nil) (fun _ _ _ _ _ => (xD C.blk d_self (Nat.le_refl _) rfl (gV (eIx C.blk (nB (i := 0) rfl (Or.inr (Or.inl rfl)) rfl rfl) (nB (i := 2) rfl (Or.inl rfl) rfl rfl) (fun _ _ => rfl)) (gV (eIx C.blk (nB (i := 1) rfl (Or.inr (Or.inl rfl)) rfl rfl) (nB (i := 2) rfl (Or.inl rfl) rfl rfl) (fun _ _ => rfl)) gV_nil rfl) rfl) rfl rfl rfl)) (fun _ => rfl)))) gB_nil rfl) rfl rfl rfl T.f_all))) ds_nil)
  (ds_cons (ds_if (cT .is C (nB (i := 1) rfl (Or.inr (Or.inl rfl)) rfl rfl) (read kN) rfl) (ds_one (ds_ret (cV .is C (nB (i := 0) rfl (Or.inr (Or.inl rfl)) rfl rfl) (read kN) rfl))) ds_nil)
  (ds_cons (ds_if (L2.PW.pt (wO (cT .ne C (read (xIsi (T := "bool") C rfl T.f_isinstance (nB (i := 0) rfl (Or.inr (Or.inl rfl)) rfl rfl) (cTy rfl T.f_bool PyProof.Rows.Boot.«bool» (by decide) rfl) rfl rfl)) (read (xIsi (T := "bool") C rfl T.f_isinstance (nB (i := 1) rfl (Or.inr (Or.inl rfl)) rfl rfl) (cTy rfl T.f_bool PyProof.Rows.Boot.«bool» (by decide) rfl) rfl rfl)) rfl) (wO1 (cT .ne C (read (xIsi (T := "str") C rfl T.f_isinstance (nB (i := 0) rfl (Or.inr (Or.inl rfl)) rfl rfl) (cTy rfl T.f_str PyProof.Rows.Boot.«str» (by decide) rfl) rfl rfl)) (read (xIsi (T := "str") C rfl T.f_isinstance (nB (i := 1) rfl (Or.inr (Or.inl rfl)) rfl rfl) (cTy rfl T.f_str PyProof.Rows.Boot.«str» (by decide) rfl) rfl rfl)) rfl)))) (ds_one (ds_ret kB)) ds_nil)
  (ds_one (ds_ret (oAnd C (xIsiT (cs := ["int", "str"]) C (by decide) rfl T.f_isinstance (nB (i := 0) rfl (Or.inr (Or.inl rfl)) rfl rfl) (pcl_cons (cTy rfl T.f_int PyProof.Rows.Boot.«int» (by decide) rfl) (pcl_cons (cTy rfl T.f_str PyProof.Rows.Boot.«str» (by decide) rfl) pcl_nil rfl) rfl) rfl rfl) (de_one (cV .eq C (nB (i := 0) rfl (Or.inr (Or.inl rfl)) rfl rfl) (nB (i := 1) rfl (Or.inr (Or.inl rfl)) rfl rfl) rfl))))))))
theorem ok__law_same (T : Txt K mg base)  : DefOk P w K mg base (gg K) 4 "_law_same" ["actual", "due"] h__law_same := by
  obtain ⟨fd, F⟩ := T.u__law_same
  have d0 : DefOk P w K mg base (gg K) 0 "_law_same" ["actual", "due"] (h__law_same' 0) := ⟨⟨fd, fnOk_bad, F.bindsN fun _ _ _ _ _ _ us hl => match us, hl with | [_, _], _ => rfl⟩, F.kp, T.g__law_same⟩
  have d1 : DefOk P w K mg base (gg K) 1 "_law_same" ["actual", "due"] (h__law_same' 1) := ok__law_same' T  d0 (by decide)
  have d2 : DefOk P w K mg base (gg K) 2 "_law_same" ["actual", "due"] (h__law_same' 2) := ok__law_same' T  d1 (by decide)
  have d3 : DefOk P w K mg base (gg K) 3 "_law_same" ["actual", "due"] (h__law_same' 3) := ok__law_same' T  d2 (by decide)
  have d4 : DefOk P w K mg base (gg K) 4 "_law_same" ["actual", "due"] (h__law_same' 4) := ok__law_same' T  d3 (by decide)
  exact d4
theorem sc__law_divisor : FnScope ["one", "other", "k", "rest"] ["one", "other"] (defScope (top 40)) := ⟨rfl, rfl, rfl, by decide +kernel, rfl, by decide +kernel, by decide +kernel⟩
theorem ok__law_divisor (T : Txt K mg base)  : DefOk P w K mg base (gg K) 1 "_law_divisor" ["one", "other"] h__law_divisor := by
  obtain ⟨fd, F⟩ := T.u__law_divisor
  refine ⟨⟨fd, dfn_okC (k := 0) F sc__law_divisor (fun cdv A outer s H F0 E cdE room => ?_), F.bindsN fun _ _ _ _ _ _ us hl => match us, hl with | [_, _], _ => rfl⟩, F.kp, T.g__law_divisor⟩
  have nd := (sc__law_divisor).nd
  have C : Ct (cxOf (L2.CX P w) P w K mg base ["one", "other", "k", "rest"] "_law_divisor" (defScope (top 40)) (He.ga K "_law_divisor") cdv A outer s H E) (gg K) (fun cls dd _ H' => E cls dd H') 0 := ⟨rfl, rfl, room, takes_of rfl rfl rfl rfl⟩
  exact (ds_cons (ds_set (i := 0) nd rfl (Or.inl rfl) (xAbs C (gB (nB (i := 0) rfl (Or.inl rfl) rfl rfl) gB_nil rfl) rfl rfl rfl T.f_abs) rfl (Or.inl rfl))
  (ds_cons (ds_for (T := (.nm 2)) (passes_of rfl) (Ct.calm C) (di_rng1 rfl T.f_range (read kI) rfl) (dg_name (i := 2) nd rfl (Or.inl rfl) (Or.inl rfl)) (ds_cons (ds_if (cT .eq C (nB (i := 1) rfl (Or.inl rfl) rfl rfl) (read kI) rfl) (ds_one ds_break) ds_nil)
  (ds_cons (ds_set (i := 3) nd rfl (Or.inl rfl) (bMod C (read (xInt C (gB (nB (i := 0) rfl (Or.inl rfl) rfl rfl) gB_nil rfl) rfl rfl rfl T.f_int)) (nB (i := 1) rfl (Or.inl rfl) rfl rfl)) rfl (Or.inl rfl))
  (ds_cons (ds_set (i := 0) nd rfl (Or.inl rfl) (nV (i := 1) rfl (Or.inl rfl) rfl rfl) rfl (Or.inl rfl))
  (ds_one (ds_set (i := 1) nd rfl (Or.inl rfl) (nV (i := 3) rfl (Or.inl rfl) rfl rfl) rfl (Or.inl rfl)))))) (fun _ => rfl))
  (ds_one (ds_ret (nV (i := 0) rfl (Or.inl rfl) rfl rfl)))))
theorem sc__law_low : FnScope ["above", "below", "shares_of"] ["above", "below"] (defScope (top 41)) := ⟨rfl, rfl, rfl, by decide +kernel, rfl, by decide +kernel, by decide +kernel⟩
theorem ok__law_low (T : Txt K mg base) (d__law_divisor : DefOk P w K mg base (gg K) 1 "_law_divisor" ["one", "other"] h__law_divisor) : DefOk P w K mg base (gg K) 2 "_law_low" ["above", "below"] h__law_low := by
  obtain ⟨fd, F⟩ := T.u__law_low
  refine ⟨⟨fd, dfn_okC (k := 1) F sc__law_low (fun cdv A outer s H F0 E cdE room => ?_), F.bindsN fun _ _ _ _ _ _ us hl => match us, hl with | [_, _], _ => rfl⟩, F.kp, T.g__law_low⟩
  have nd := (sc__law_low).nd
  have C : Ct (cxOf (L2.CX P w) P w K mg base ["above", "below", "shares_of"] "_law_low" (defScope (top 41)) (He.ga K "_law_low") cdv A outer s H E) (gg K) (fun cls dd _ H' => E cls dd H') 1 := ⟨rfl, rfl, room, takes_of rfl rfl rfl rfl⟩
  exact (ds_cons (ds_set (i := 2) nd rfl (Or.inl rfl) (xD C d__law_divisor (by decide) rfl (gV (nV (i := 0) rfl (Or.inl rfl) rfl rfl) (gV (nV (i := 1) rfl (Or.inl rfl) rfl rfl) gV_nil rfl) rfl) rfl rfl rfl) rfl (Or.inl rfl))
  (ds_one (ds_ret (eTup (gV (bDiv C (nB (i := 0) rfl (Or.inl rfl) rfl rfl) (nB (i := 2) rfl (Or.inl rfl) rfl rfl)) (gV (bDiv C (nB (i := 1) rfl (Or.inl rfl) rfl rfl) (nB (i := 2) rfl (Or.inl rfl) rfl rfl)) gV_nil rfl) rfl)))))
theorem sc__law_names : FnScope ["numbers", "many", "letters", "words", "k", "word", "sort", "groups", "other", "more"] ["numbers", "many"] (defScope (top 42)) := ⟨rfl, rfl, rfl, by decide +kernel, rfl, by decide +kernel, by decide +kernel⟩
theorem ok__law_names (T : Txt K mg base)  : DefOk P w K mg base (gg K) 1 "_law_names" ["numbers", "many"] h__law_names := by
  obtain ⟨fd, F⟩ := T.u__law_names
  refine ⟨⟨fd, dfn_okC (k := 0) F sc__law_names (fun cdv A outer s H F0 E cdE room => ?_), F.bindsN fun _ _ _ _ _ _ us hl => match us, hl with | [_, _], _ => rfl⟩, F.kp, T.g__law_names⟩
  have nd := (sc__law_names).nd
  have C : Ct (cxOf (L2.CX P w) P w K mg base ["numbers", "many", "letters", "words", "k", "word", "sort", "groups", "other", "more"] "_law_names" (defScope (top 42)) (He.ga K "_law_names") cdv A outer s H E) (gg K) (fun cls dd _ H' => E cls dd H') 0 := ⟨rfl, rfl, room, takes_of rfl rfl rfl rfl⟩
  exact (ds_cons (ds_set (i := 2) nd rfl (Or.inl rfl) kS rfl (Or.inl rfl))
  (ds_cons (ds_own (i := 3) nd rfl (Or.inl rfl) (eLst gV_nil) rfl (Or.inl rfl))
  (ds_cons (ds_for (T := (.nm 4)) (passes_of rfl) (Ct.calm C) (di_rng1 rfl T.f_range (nB (i := 1) rfl (Or.inl rfl) rfl rfl) rfl) (dg_name (i := 4) nd rfl (Or.inl rfl) (Or.inl rfl)) (ds_cons (ds_set (i := 5) nd rfl (Or.inl rfl) (bAdd C (read (bRpS C (read (eIx C (nB (i := 2) rfl (Or.inl rfl) rfl rfl) (read (bMod C (read (xInt C (gB (read (eIx C (nB (i := 0) rfl (Or.inr (Or.inl rfl)) rfl rfl) (nB (i := 4) rfl (Or.inl rfl) rfl rfl) (fun _ _ => rfl))) gB_nil rfl) rfl rfl rfl T.f_int)) (read kI))) (fun _ _ => rfl))) (read (bMod C (read (xInt C (gB (read (bDiv C (read (eIx C (nB (i := 0) rfl (Or.inr (Or.inl rfl)) rfl rfl) (nB (i := 4) rfl (Or.inl rfl) rfl rfl) (fun _ _ => rfl))) (read kI))) gB_nil rfl) rfl rfl rfl T.f_int)) (read kI))))) (read (eIx C (nB (i := 2) rfl (Or.inl rfl) rfl rfl) (nB (i := 4) rfl (Or.inl rfl) rfl rfl) (fun _ _ => rfl)))) rfl (Or.inl rfl))
  (ds_one (ds_app (i := 3) rfl (Or.inl rfl) rfl rfl (nV (i := 5) rfl (Or.inl rfl) rfl rfl) rfl rfl rfl rfl))) (fun _ => rfl))
  (ds_cons (ds_set (i := 6) nd rfl (Or.inl rfl) (bMod C (read (xInt C (gB (read (eIx C (nB (i := 0) rfl (Or.inr (Or.inl rfl)) rfl rfl) (read kI) (fun _ _ => rfl))) gB_nil rfl) rfl rfl rfl T.f_int)) (read kI)) rfl (Or.inl rfl))
  (ds_cons (ds_if (cT .eq C (nB (i := 6) rfl (Or.inl rfl) rfl rfl) (read kI) rfl) (ds_one (ds_ret (freeze (de_lc (own := [("k", 4)]) (T := (.nm 4)) (Ct.calm C) nd (thaw (di_rng1 rfl T.f_range (nB (i := 1) rfl (Or.inl rfl) rfl rfl) rfl)) (blkOk_by (by kernel_rfl)) (by decide +kernel) (fun _ _ _ _ _ => (dg_name (i := 4) nd rfl (Or.inl rfl) (Or.inr rfl))) (fun _ _ _ _ _ => lT_nil) (fun _ _ _ _ _ => (bSub C.blk (read (bAdd C.blk (read (bMul C.blk (read (bMod C.blk (read (xInt C.blk (gB (read (eIx C.blk (nB (i := 0) rfl (Or.inr (Or.inl rfl)) rfl rfl) (nB (i := 4) rfl (Or.inl rfl) rfl rfl) (fun _ _ => rfl))) gB_nil rfl) rfl rfl rfl T.f_int)) (read kI))) (read kI))) (nB (i := 4) rfl (Or.inl rfl) rfl rfl))) (read kI))) (fun _ => rfl))))) ds_nil)
  (ds_cons (ds_if (cT .eq C (nB (i := 6) rfl (Or.inl rfl) rfl rfl) (read kI) rfl) (ds_one (ds_frz 3 (ds_ret (nV (i := 3) rfl (Or.inl rfl) rfl rfl)))) ds_nil)
  (ds_cons (ds_own (i := 7) nd rfl (Or.inl rfl) (eLst gV_nil) rfl (Or.inl rfl))
  (ds_cons (ds_frz 3 (ds_for (T := (.nm 5)) (passes_of rfl) (Ct.calm C) (wSeqF C (nV (i := 3) rfl (Or.inl rfl) rfl rfl)) (dg_name (i := 5) nd rfl (Or.inl rfl) (Or.inl rfl)) (ds_cons (ds_set (i := 8) nd rfl (Or.inl rfl) (eRev (nV (i := 5) rfl (Or.inl rfl) rfl rfl)) rfl (Or.inl rfl))
  (ds_cons (ds_set (i := 9) nd rfl (Or.inl rfl) (bAdd C (read kS) (read (eSlT C (nB (i := 8) rfl (Or.inl rfl) rfl rfl) xNo (xSo (read (bAdd C (read (bMod C (read (xInt C (gB (read (eIx C (nB (i := 0) rfl (Or.inr (Or.inl rfl)) rfl rfl) (read kI) (fun _ _ => rfl))) gB_nil rfl) rfl rfl rfl T.f_int)) (read kI))) (read kI))))))) rfl (Or.inl rfl))
  (ds_one (ds_app (i := 7) rfl (Or.inl rfl) rfl rfl (eIf C (cT .eq C (read (bMod C (read (xInt C (gB (read (bDiv C (read (eIx C (nB (i := 0) rfl (Or.inr (Or.inl rfl)) rfl rfl) (read kI) (fun _ _ => rfl))) (read (xLen C (gB (read (freeze (bCat C (nB (i := 7) rfl (Or.inl rfl) rfl rfl) (read (freeze (eLst (gV kI gV_nil rfl))))))) gB_nil rfl) rfl rfl rfl T.f_len)))) gB_nil rfl) rfl rfl rfl T.f_int)) (read kI))) (read kI) rfl) (eTup (gV (nV (i := 5) rfl (Or.inl rfl) rfl rfl) gV_nil rfl)) (xTup C (gB (read (freeze (xSrt C (gB (read (freeze (eLst (gV (nV (i := 5) rfl (Or.inl rfl) rfl rfl) (gV (nV (i := 9) rfl (Or.inl rfl) rfl rfl) gV_nil rfl) rfl)))) gB_nil rfl) rfl rfl rfl T.f_sorted))) gB_nil rfl) rfl rfl rfl T.f_tuple)) rfl rfl rfl rfl)))) (fun _ => rfl)))
  (ds_one (ds_frz 7 (ds_ret (eIf C (cT .eq C (read (xLenSet C rfl T.f_len rfl T.f_set (nB (i := 7) rfl (Or.inl rfl) rfl rfl) rfl)) (read (xLen C (gB (nB (i := 7) rfl (Or.inl rfl) rfl rfl) gB_nil rfl) rfl rfl rfl T.f_len)) rfl) (nV (i := 7) rfl (Or.inl rfl) rfl rfl) (freeze (de_lc (own := [("word", 5)]) (T := (.nm 5)) (Ct.calm C) nd (wSeq C (nB (i := 3) rfl (Or.inl rfl) rfl rfl)) (blkOk_by (by kernel_rfl)) (by decide +kernel) (fun _ _ _ _ _ => (dg_name (i := 5) nd rfl (Or.inl rfl) (Or.inr rfl))) (fun _ _ _ _ _ => lT_nil) (fun _ _ _ _ _ => (eTup (gV (nV (i := 5) rfl (Or.inl rfl) rfl rfl) gV_nil rfl))) (fun _ => rfl)))))))))))))))
theorem sc__law_weights : FnScope ["numbers", "many", "weights", "k", "number", "found", "weight"] ["numbers", "many"] (defScope (top 43)) := ⟨rfl, rfl, rfl, by decide +kernel, rfl, by decide +kernel, by decide +kernel⟩
theorem ok__law_weights (T : Txt K mg base) (d__law_low : DefOk P w K mg base (gg K) 2 "_law_low" ["above", "below"] h__law_low) : DefOk P w K mg base (gg K) 3 "_law_weights" ["numbers", "many"] h__law_weights := by
  obtain ⟨fd, F⟩ := T.u__law_weights
  refine ⟨⟨fd, dfn_okC (k := 2) F sc__law_weights (fun cdv A outer s H F0 E cdE room => ?_), F.bindsN fun _ _ _ _ _ _ us hl => match us, hl with | [_, _], _ => rfl⟩, F.kp, T.g__law_weights⟩
  have nd := (sc__law_weights).nd
  have C : Ct (cxOf (L2.CX P w) P w K mg base ["numbers", "many", "weights", "k", "number", "found", "weight"] "_law_weights" (defScope (top 43)) (He.ga K "_law_weights") cdv A outer s H E) (gg K) (fun cls dd _ H' => E cls dd H') 2 := ⟨rfl, rfl, room, takes_of rfl rfl rfl rfl⟩
  exact (ds_cons (ds_own (i := 2) nd rfl (Or.inl rfl) (eLst gV_nil) rfl (Or.inl rfl))
  (ds_cons (ds_for (T := (.nm 3)) (passes_of rfl) (Ct.calm C) (di_rng1 rfl T.f_range (nB (i := 1) rfl (Or.inl rfl) rfl rfl) rfl) (dg_name (i := 3) nd rfl (Or.inl rfl) (Or.inl rfl)) (ds_cons (ds_set (i := 4) nd rfl (Or.inl rfl) (xInt C (gB (read (eIx C (nB (i := 0) rfl (Or.inl rfl) rfl rfl) (read (bAdd C (read kI) (nB (i := 3) rfl (Or.inl rfl) rfl rfl))) (fun _ _ => rfl))) gB_nil rfl) rfl rfl rfl T.f_int) rfl (Or.inl rfl))
  (ds_one (ds_app (i := 2) rfl (Or.inl rfl) rfl rfl (eIx C (read (freeze (eLst (gV kI (gV (bMod C (nB (i := 4) rfl (Or.inl rfl) rfl rfl) (read kI)) (gV (eTup (gV (bAdd C (read kI) (read (bMod C (nB (i := 4) rfl (Or.inl rfl) rfl rfl) (read kI)))) (gV kI gV_nil rfl) rfl)) (gV (nV (i := 4) rfl (Or.inl rfl) rfl rfl) gV_nil rfl) rfl) rfl) rfl)))) (read (bMod C (read (bDiv C (nB (i := 4) rfl (Or.inl rfl) rfl rfl) (read kI))) (read kI))) (fun _ _ => rfl)) rfl rfl rfl rfl))) (fun _ => rfl))
  (ds_cons (ds_own (i := 5) nd rfl (Or.inl rfl) (eLst gV_nil) rfl (Or.inl rfl))
  (ds_cons (ds_frz 2 (ds_for (T := (.nm 6)) (passes_of rfl) (Ct.calm C) (wSeqF C (nV (i := 2) rfl (Or.inl rfl) rfl rfl)) (dg_name (i := 6) nd rfl (Or.inl rfl) (Or.inl rfl)) (ds_one (ds_app (i := 5) rfl (Or.inl rfl) rfl rfl (eIf C (tV' C (read (xIsi (T := "tuple") C rfl T.f_isinstance (nB (i := 6) rfl (Or.inl rfl) rfl rfl) (cTy rfl T.f_tuple PyProof.Rows.Boot.«tuple» (by decide) rfl) rfl rfl)) (fun _ => rfl)) (xD C d__law_low (by decide) rfl (gV (eIx C (nB (i := 6) rfl (Or.inl rfl) rfl rfl) (read kI) (fun _ _ => rfl)) (gV (eIx C (nB (i := 6) rfl (Or.inl rfl) rfl rfl) (read kI) (fun _ _ => rfl)) gV_nil rfl) rfl) rfl rfl rfl) (nV (i := 6) rfl (Or.inl rfl) rfl rfl)) rfl rfl rfl rfl)) (fun _ => rfl)))
  (ds_cons (ds_if (tN' (tV' C (read (freeze (de_lc (own := [("weight", 6)]) (T := (.nm 6)) (Ct.calm C) nd (wSeq C (nB (i := 5) rfl (Or.inl rfl) rfl rfl)) (blkOk_by (by kernel_rfl)) (by decide +kernel) (fun _ _ _ _ _ => (dg_name (i := 6) nd rfl (Or.inl rfl) (Or.inr rfl))) (fun _ _ _ _ _ => (lT_one (cT .ne C.blk (nB (i := 6) rfl (Or.inl rfl) rfl rfl) (read kI) rfl))) (fun _ _ _ _ _ => (nV (i := 6) rfl (Or.inl rfl) rfl rfl)) (fun _ => rfl)))) (fun _ => rfl))) (ds_one (ds_setIx (i := 5) rfl (Or.inl rfl) rfl rfl kI kI (fun _ => rfl) rfl rfl rfl)) ds_nil)
  (ds_one (ds_frz 5 (ds_ret (nV (i := 5) rfl (Or.inl rfl) rfl rfl)))))))))
theorem sc__law_turned : FnScope ["rows", "number", "rest", "found", "k"] ["rows", "number"] (defScope (top 44)) := ⟨rfl, rfl, rfl, by decide +kernel, rfl, by decide +kernel, by decide +kernel⟩
theorem ok__law_turned (T : Txt K mg base)  : DefOk P w K mg base (gg K) 1 "_law_turned" ["rows", "number"] h__law_turned := by
  obtain ⟨fd, F⟩ := T.u__law_turned
  refine ⟨⟨fd, dfn_okC (k := 0) F sc__law_turned (fun cdv A outer s H F0 E cdE room => ?_), F.bindsN fun _ _ _ _ _ _ us hl => match us, hl with | [_, _], _ => rfl⟩, F.kp, T.g__law_turned⟩
  have nd := (sc__law_turned).nd
  have C : Ct (cxOf (L2.CX P w) P w K mg base ["rows", "number", "rest", "found", "k"] "_law_turned" (defScope (top 44)) (He.ga K "_law_turned") cdv A outer s H E) (gg K) (fun cls dd _ H' => E cls dd H') 0 := ⟨rfl, rfl, room, takes_of rfl rfl rfl rfl⟩
  exact (ds_cons (ds_own (i := 2) nd rfl (Or.inl rfl) (xLst C (gB (nB (i := 0) rfl (Or.inl rfl) rfl rfl) gB_nil rfl) rfl rfl rfl T.f_list) rfl (Or.inl rfl))
  (ds_cons (ds_own (i := 3) nd rfl (Or.inl rfl) (eLst gV_nil) rfl (Or.inl rfl))
  (ds_cons (ds_for (T := (.nm 4)) (passes_of rfl) (Ct.calm C) (di_rng1 rfl T.f_range (read (xLen C (gB (nB (i := 0) rfl (Or.inl rfl) rfl rfl) gB_nil rfl) rfl rfl rfl T.f_len)) rfl) (dg_name (i := 4) nd rfl (Or.inl rfl) (Or.inl rfl)) (ds_one (ds_appPop (i := 3) (j := 2) rfl (Or.inl rfl) rfl rfl rfl (Or.inl rfl) rfl rfl (bMod C (read (xInt C (gB (read (bDiv C (nB (i := 1) rfl (Or.inl rfl) rfl rfl) (read (bAdd C (nB (i := 4) rfl (Or.inl rfl) rfl rfl) (read kI))))) gB_nil rfl) rfl rfl rfl T.f_int)) (read (xLen C (gB (nB (i := 2) rfl (Or.inl rfl) rfl rfl) gB_nil rfl) rfl rfl rfl T.f_len))) rfl rfl rfl rfl rfl rfl rfl)) (fun _ => rfl))
  (ds_one (ds_frz 3 (ds_ret (nV (i := 3) rfl (Or.inl rfl) rfl rfl)))))))
theorem sc__law_refused : FnScope ["amount", "claims", "spot", "error"] ["amount", "claims", "spot"] (defScope (top 45)) := ⟨rfl, rfl, rfl, by decide +kernel, rfl, by decide +kernel, by decide +kernel⟩
theorem ok__law_refused (T : Txt K mg base) (d_shared : DefOk P w K mg base (gg K) 7 "shared" ["amount", "claims"] h_shared) : DefOk P w K mg base (gg K) 8 "_law_refused" ["amount", "claims", "spot"] h__law_refused := by
  obtain ⟨fd, F⟩ := T.u__law_refused
  refine ⟨⟨fd, dfn_okC (k := 7) F sc__law_refused (fun cdv A outer s H F0 E cdE room => ?_), F.bindsN fun _ _ _ _ _ _ us hl => match us, hl with | [_, _, _], _ => rfl⟩, F.kp, T.g__law_refused⟩
  have nd := (sc__law_refused).nd
  have C : Ct (cxOf (L2.CX P w) P w K mg base ["amount", "claims", "spot", "error"] "_law_refused" (defScope (top 45)) (He.ga K "_law_refused") cdv A outer s H E) (gg K) (fun cls dd _ H' => E cls dd H') 7 := ⟨rfl, rfl, room, takes_of rfl rfl rfl rfl⟩
  exact (ds_cons (ds_tryAt (i := 3) (sb := sb0) (q := _) rfl rfl nd rfl rfl ⟨rfl, rfl, .inl T.gB⟩ (Ct.tk C) T.bad (fun _ _ => ⟨rfl, rfl⟩) (fun c h => (sb0_no h).elim) rfl (Ct.u1 C) (fun W' pn xe tk hp => (ds_one (ds_expr (xD (Ct.tr C tk) d_shared (by decide) rfl (gV (nV (i := 0) rfl (Or.inl rfl) rfl rfl) (gV (nV (i := 1) rfl (Or.inl rfl) rfl rfl) gV_nil rfl) rfl) rfl rfl rfl) rfl))) (fun a oe pn => (nV (i := 2) rfl (Or.inl rfl) rfl rfl)) rfl rfl rfl rfl)
  (ds_one (ds_ret kB)))
theorem sc__law_shared : FnScope ["numbers", "many", "names", "weights", "claims", "amount", "rows", "gets", "due", "turn", "k", "row"] ["numbers"] (defScope (top 46)) := ⟨rfl, rfl, rfl, by decide +kernel, rfl, by decide +kernel, by decide +kernel⟩
theorem ok__law_shared (T : Txt K mg base) (d_parted : DefOk P w K mg base (gg K) 6 "parted" ["amount", "weights"] h_parted) (d_shared : DefOk P w K mg base (gg K) 7 "shared" ["amount", "claims"] h_shared) (d__law_same : DefOk P w K mg base (gg K) 4 "_law_same" ["actual", "due"] h__law_same) (d__law_names : DefOk P w K mg base (gg K) 1 "_law_names" ["numbers", "many"] h__law_names) (d__law_weights : DefOk P w K mg base (gg K) 3 "_law_weights" ["numbers", "many"] h__law_weights) (d__law_turned : DefOk P w K mg base (gg K) 1 "_law_turned" ["rows", "number"] h__law_turned) (d__law_refused : DefOk P w K mg base (gg K) 8 "_law_refused" ["amount", "claims", "spot"] h__law_refused) : DefOk P w K mg base (gg K) 9 "_law_shared" ["numbers"] h__law_shared := by
  obtain ⟨fd, F⟩ := T.u__law_shared
  refine ⟨⟨fd, dfn_okC (k := 8) F sc__law_shared (fun cdv A outer s H F0 E cdE room => ?_), F.bindsN fun _ _ _ _ _ _ us hl => match us, hl with | [_], _ => rfl⟩, F.kp, T.g__law_shared⟩
  have nd := (sc__law_shared).nd
  have C : Ct (cxOf (L2.CX P w) P w K mg base ["numbers", "many", "names", "weights", "claims", "amount", "rows", "gets", "due", "turn", "k", "row"] "_law_shared" (defScope (top 46)) (He.ga K "_law_shared") cdv A outer s H E) (gg K) (fun cls dd _ H' => E cls dd H') 8 := ⟨rfl, rfl, room, takes_of rfl rfl rfl rfl⟩
  exact (ds_cons (ds_set (i := 1) nd rfl (Or.inl rfl) (bAdd C (read kI) (read (bMod C (read (xInt C (gB (read (eIx C (nB (i := 0) rfl (Or.inl rfl) rfl rfl) (read kI) (fun _ _ => rfl))) gB_nil rfl) rfl rfl rfl T.f_int)) (read kI)))) rfl (Or.inl rfl))
  (ds_cons (ds_set (i := 2) nd rfl (Or.inr rfl) (xD C d__law_names (by decide) rfl (gV (nV (i := 0) rfl (Or.inl rfl) rfl rfl) (gV (nV (i := 1) rfl (Or.inl rfl) rfl rfl) gV_nil rfl) rfl) rfl rfl rfl) rfl (Or.inl rfl))
  (ds_cons (ds_set (i := 3) nd rfl (Or.inr rfl) (xD C d__law_weights (by decide) rfl (gV (nV (i := 0) rfl (Or.inl rfl) rfl rfl) (gV (nV (i := 1) rfl (Or.inl rfl) rfl rfl) gV_nil rfl) rfl) rfl rfl rfl) rfl (Or.inl rfl))
  (ds_cons (ds_setLc (i := 4) (own := [("k", 10)]) (T := (.nm 10)) (Ct.calm C) nd rfl rfl rfl (thaw (di_rng1 rfl T.f_range (nB (i := 1) rfl (Or.inl rfl) rfl rfl) rfl)) (blkOk_by (by kernel_rfl)) (by decide +kernel) (fun _ _ _ _ _ => (dg_name (i := 10) nd rfl (Or.inl rfl) (Or.inr rfl))) (fun _ _ _ _ _ => lT_nil) (fun _ _ _ _ _ => (eTup (gV (eIx C.blk (nB (i := 2) rfl (Or.inr (Or.inl rfl)) rfl rfl) (nB (i := 10) rfl (Or.inl rfl) rfl rfl) (fun _ _ => rfl)) (gV (eIx C.blk (nB (i := 3) rfl (Or.inr (Or.inl rfl)) rfl rfl) (nB (i := 10) rfl (Or.inl rfl) rfl rfl) (fun _ _ => rfl)) gV_nil rfl) rfl))) (fun _ => rfl))
  (ds_cons (ds_set (i := 5) nd rfl (Or.inl rfl) (bMod C (read (xInt C (gB (read (bAdd C (read (bMul C (read (eIx C (nB (i := 0) rfl (Or.inl rfl) rfl rfl) (read kI) (fun _ _ => rfl))) (read kI))) (read (eIx C (nB (i := 0) rfl (Or.inl rfl) rfl rfl) (read kI) (fun _ _ => rfl))))) gB_nil rfl) rfl rfl rfl T.f_int)) (read (bAdd C (read (bPow C (read kI) (read kI))) (read kI)))) rfl (Or.inl rfl))
  (ds_cons (ds_set (i := 6) nd rfl (Or.inr rfl) (freeze (de_sortLam (N := ["claim"]) (fr := []) (js := []) (k := 0) rfl T.f_sorted rfl (C.room.mono (by decide)) (nB (i := 4) rfl (Or.inl rfl) rfl rfl) rfl T.tb__law_shared cdE (List.Mem.tail _ (List.Mem.tail _ (List.Mem.head _))) (fun p hp e => by
    simp only [gg, List.mem_cons, List.not_mem_nil, or_false] at hp
    rcases hp with rfl | rfl | rfl
    · exact absurd e T.n_parted_by__law_shared
    · exact absurd e T.n_shared_by__law_shared
    · rfl) (NdefX.nscope_by (by decide +kernel)) rfl (NdefX.ndef_free (fr := []) (by kernel_rfl)) (by decide +kernel) rfl (fun _ _ _ _ _ => rfl) (fun A s H f c' rm => (eIx ⟨rfl, rfl, rm, takes0⟩ (nB (i := 0) rfl (Or.inl rfl) rfl rfl) (read kI) (fun _ _ => rfl))))) rfl (Or.inl rfl))
  (ds_cons (ds_set (i := 7) nd rfl (Or.inr rfl) (xD C d_parted (by decide) rfl (gV (nV (i := 5) rfl (Or.inl rfl) rfl rfl) (gV (freeze (de_lc (own := [("row", 11)]) (T := (.nm 11)) (Ct.calm C) nd (wSeq C (nB (i := 6) rfl (Or.inr (Or.inl rfl)) rfl rfl)) (blkOk_by (by kernel_rfl)) (by decide +kernel) (fun _ _ _ _ _ => (dg_name (i := 11) nd rfl (Or.inl rfl) (Or.inr rfl))) (fun _ _ _ _ _ => lT_nil) (fun _ _ _ _ _ => (eIx C.blk (nB (i := 11) rfl (Or.inl rfl) rfl rfl) (read kI) (fun _ _ => rfl))) (fun _ => rfl))) gV_nil rfl) rfl) rfl rfl rfl) rfl (Or.inl rfl))
  (ds_cons (ds_set (i := 8) nd rfl (Or.inl rfl) (xTup C (gB (read (freeze (de_lc (own := [("k", 10)]) (T := (.nm 10)) (Ct.calm C) nd (thaw (di_rng1 rfl T.f_range (nB (i := 1) rfl (Or.inl rfl) rfl rfl) rfl)) (blkOk_by (by kernel_rfl)) (by decide +kernel) (fun _ _ _ _ _ => (dg_name (i := 10) nd rfl (Or.inl rfl) (Or.inr rfl))) (fun _ _ _ _ _ => lT_nil) (fun _ _ _ _ _ => (eTup (gV (eIx C.blk (read (eIx C.blk (nB (i := 6) rfl (Or.inr (Or.inl rfl)) rfl rfl) (nB (i := 10) rfl (Or.inl rfl) rfl rfl) (fun _ _ => rfl))) (read kI) (fun _ _ => rfl)) (gV (eIx C.blk (nB (i := 7) rfl (Or.inr (Or.inl rfl)) rfl rfl) (nB (i := 10) rfl (Or.inl rfl) rfl rfl) (fun _ _ => rfl)) gV_nil rfl) rfl))) (fun _ => rfl)))) gB_nil rfl) rfl rfl rfl T.f_tuple) rfl (Or.inl rfl))
  (ds_cons (ds_for (T := (.nm 9)) (passes_of rfl) (Ct.calm C) (wSeqF C (eTup (gV (eIx C (nB (i := 0) rfl (Or.inl rfl) rfl rfl) (read kI) (fun _ _ => rfl)) (gV (eIx C (nB (i := 0) rfl (Or.inl rfl) rfl rfl) (read kI) (fun _ _ => rfl)) gV_nil rfl) rfl))) (dg_name (i := 9) nd rfl (Or.inl rfl) (Or.inl rfl)) (ds_one (ds_if (tN' (tV' C (read (xD C d__law_same (by decide) rfl (gV (xD C d_shared (by decide) rfl (gV (nV (i := 5) rfl (Or.inl rfl) rfl rfl) (gV (xTup C (gB (read (xD C d__law_turned (by decide) rfl (gV (nV (i := 4) rfl (Or.inl rfl) rfl rfl) (gV (nV (i := 9) rfl (Or.inl rfl) rfl rfl) gV_nil rfl) rfl) rfl rfl rfl)) gB_nil rfl) rfl rfl rfl T.f_tuple) gV_nil rfl) rfl) rfl rfl rfl) (gV (nV (i := 8) rfl (Or.inl rfl) rfl rfl) gV_nil rfl) rfl) rfl rfl rfl)) (fun _ => rfl))) (ds_one (ds_ret kB)) ds_nil)) (fun _ => rfl))
  (ds_one (ds_ret (xD C d__law_refused (by decide) rfl (gV (nV (i := 5) rfl (Or.inl rfl) rfl rfl) (gV (freeze (bCat C (nB (i := 4) rfl (Or.inl rfl) rfl rfl) (read (freeze (eLst (gV (eIx C (nB (i := 4) rfl (Or.inl rfl) rfl rfl) (read kI) (fun _ _ => rfl)) gV_nil rfl)))))) (gV kI gV_nil rfl) rfl) rfl) rfl rfl rfl))))))))))))
theorem sc__law_filled : FnScope ["numbers", "many", "sums", "whole", "amount", "left", "gets", "one", "k"] ["numbers"] (defScope (top 47)) := ⟨rfl, rfl, rfl, by decide +kernel, rfl, by decide +kernel, by decide +kernel⟩
theorem ok__law_filled (T : Txt K mg base) (d_filled : DefOk P w K mg base (gg K) 5 "filled" ["amount", "sums"] h_filled) (d__law_same : DefOk P w K mg base (gg K) 4 "_law_same" ["actual", "due"] h__law_same) : DefOk P w K mg base (gg K) 6 "_law_filled" ["numbers"] h__law_filled := by
  obtain ⟨fd, F⟩ := T.u__law_filled
  refine ⟨⟨fd, dfn_okC (k := 5) F sc__law_filled (fun cdv A outer s H F0 E cdE room => ?_), F.bindsN fun _ _ _ _ _ _ us hl => match us, hl with | [_], _ => rfl⟩, F.kp, T.g__law_filled⟩
  have nd := (sc__law_filled).nd
  have C : Ct (cxOf (L2.CX P w) P w K mg base ["numbers", "many", "sums", "whole", "amount", "left", "gets", "one", "k"] "_law_filled" (defScope (top 47)) (He.ga K "_law_filled") cdv A outer s H E) (gg K) (fun cls dd _ H' => E cls dd H') 5 := ⟨rfl, rfl, room, takes_of rfl rfl rfl rfl⟩
  exact (ds_cons (ds_set (i := 1) nd rfl (Or.inl rfl) (bMod C (read (xInt C (gB (read (eIx C (nB (i := 0) rfl (Or.inr (Or.inl rfl)) rfl rfl) (read kI) (fun _ _ => rfl))) gB_nil rfl) rfl rfl rfl T.f_int)) (read kI)) rfl (Or.inl rfl))
  (ds_cons (ds_setLc (i := 2) (own := [("k", 8)]) (T := (.nm 8)) (Ct.calm C) nd rfl rfl rfl (thaw (di_rng1 rfl T.f_range (nB (i := 1) rfl (Or.inl rfl) rfl rfl) rfl)) (blkOk_by (by kernel_rfl)) (by decide +kernel) (fun _ _ _ _ _ => (dg_name (i := 8) nd rfl (Or.inl rfl) (Or.inr rfl))) (fun _ _ _ _ _ => lT_nil) (fun _ _ _ _ _ => (bMod C.blk (read (xInt C.blk (gB (read (eIx C.blk (nB (i := 0) rfl (Or.inr (Or.inl rfl)) rfl rfl) (nB (i := 8) rfl (Or.inl rfl) rfl rfl) (fun _ _ => rfl))) gB_nil rfl) rfl rfl rfl T.f_int)) (read (eIx C.blk (read (freeze (eLst (gV kI (gV kI (gV (bPow C.blk (read kI) (read kI)) gV_nil rfl) rfl) rfl)))) (read (bMod C.blk (read (xInt C.blk (gB (read (bDiv C.blk (read (eIx C.blk (nB (i := 0) rfl (Or.inr (Or.inl rfl)) rfl rfl) (nB (i := 8) rfl (Or.inl rfl) rfl rfl) (fun _ _ => rfl))) (read kI))) gB_nil rfl) rfl rfl rfl T.f_int)) (read kI))) (fun _ _ => rfl))))) (fun _ => rfl))
  (ds_cons (ds_set (i := 3) nd rfl (Or.inl rfl) (xSum C (gB (nB (i := 2) rfl (Or.inl rfl) rfl rfl) gB_nil rfl) rfl rfl rfl T.f_sum) rfl (Or.inl rfl))
  (ds_cons (ds_for (T := (.nm 4)) (passes_of rfl) (Ct.calm C) (wSeqF C (eTup (gV kI (gV (bDiv C (nB (i := 3) rfl (Or.inl rfl) rfl rfl) (read kI)) (gV (xMax C (gB (read kI) (gB (read (bSub C (nB (i := 3) rfl (Or.inl rfl) rfl rfl) (read kI))) gB_nil rfl) rfl) rfl rfl rfl T.f_max) (gV (nV (i := 3) rfl (Or.inl rfl) rfl rfl) (gV (bAdd C (nB (i := 3) rfl (Or.inl rfl) rfl rfl) (read kI)) (gV (bMod C (read (xInt C (gB (read (eIx C (nB (i := 0) rfl (Or.inr (Or.inl rfl)) rfl rfl) (read kI) (fun _ _ => rfl))) gB_nil rfl) rfl rfl rfl T.f_int)) (read (bAdd C (nB (i := 3) rfl (Or.inl rfl) rfl rfl) (read kI)))) gV_nil rfl) rfl) rfl) rfl) rfl) rfl))) (dg_name (i := 4) nd rfl (Or.inl rfl) (Or.inl rfl)) (ds_cons (ds_set (i := 5) nd rfl (Or.inl rfl) (nV (i := 4) rfl (Or.inl rfl) rfl rfl) rfl (Or.inl rfl))
  (ds_cons (ds_own (i := 6) nd rfl (Or.inl rfl) (eLst gV_nil) rfl (Or.inl rfl))
  (ds_cons (ds_for (T := (.nm 7)) (passes_of rfl) (Ct.calm C) (wSeqF C (nV (i := 2) rfl (Or.inl rfl) rfl rfl)) (dg_name (i := 7) nd rfl (Or.inl rfl) (Or.inl rfl)) (ds_cons (ds_app (i := 6) rfl (Or.inl rfl) rfl rfl (xMin C (gB (nB (i := 7) rfl (Or.inl rfl) rfl rfl) (gB (nB (i := 5) rfl (Or.inl rfl) rfl rfl) gB_nil rfl) rfl) rfl rfl rfl T.f_min) rfl rfl rfl rfl)
  (ds_one (ds_set (i := 5) nd rfl (Or.inl rfl) (bSub C (nB (i := 5) rfl (Or.inl rfl) rfl rfl) (read (eIx C (nB (i := 6) rfl (Or.inl rfl) rfl rfl) (read (uNeg C (read kI))) (fun _ _ => rfl)))) rfl (Or.inl rfl)))) (fun _ => rfl))
  (ds_one (ds_if (tN' (tV' C (read (xD C d__law_same (by decide) rfl (gV (xD C d_filled (by decide) rfl (gV (nV (i := 4) rfl (Or.inl rfl) rfl rfl) (gV (xTup C (gB (nB (i := 2) rfl (Or.inl rfl) rfl rfl) gB_nil rfl) rfl rfl rfl T.f_tuple) gV_nil rfl) rfl) rfl rfl rfl) (gV (eTup (gV (xTup C (gB (nB (i := 6) rfl (Or.inl rfl) rfl rfl) gB_nil rfl) rfl rfl rfl T.f_tuple) (gV (nV (i := 5) rfl (Or.inl rfl) rfl rfl) gV_nil rfl) rfl)) gV_nil rfl) rfl) rfl rfl rfl)) (fun _ => rfl))) (ds_one (ds_ret kB)) ds_nil))))) (fun _ => rfl))
  (ds_one (ds_ret kB))))))
theorem sc__law_wrong_filled : FnScope ["amount", "sums", "spot", "error"] ["amount", "sums", "spot"] (defScope (top 48)) := ⟨rfl, rfl, rfl, by decide +kernel, rfl, by decide +kernel, by decide +kernel⟩
theorem ok__law_wrong_filled (T : Txt K mg base) (d_filled : DefOk P w K mg base (gg K) 5 "filled" ["amount", "sums"] h_filled) : DefOk P w K mg base (gg K) 6 "_law_wrong_filled" ["amount", "sums", "spot"] h__law_wrong_filled := by
  obtain ⟨fd, F⟩ := T.u__law_wrong_filled
  refine ⟨⟨fd, dfn_okC (k := 5) F sc__law_wrong_filled (fun cdv A outer s H F0 E cdE room => ?_), F.bindsN fun _ _ _ _ _ _ us hl => match us, hl with | [_, _, _], _ => rfl⟩, F.kp, T.g__law_wrong_filled⟩
  have nd := (sc__law_wrong_filled).nd
  have C : Ct (cxOf (L2.CX P w) P w K mg base ["amount", "sums", "spot", "error"] "_law_wrong_filled" (defScope (top 48)) (He.ga K "_law_wrong_filled") cdv A outer s H E) (gg K) (fun cls dd _ H' => E cls dd H') 5 := ⟨rfl, rfl, room, takes_of rfl rfl rfl rfl⟩
  exact (ds_cons (ds_tryAt (i := 3) (sb := sb0) (q := _) rfl rfl nd rfl rfl ⟨rfl, rfl, .inl T.gB⟩ (Ct.tk C) T.bad (fun _ _ => ⟨rfl, rfl⟩) (fun c h => (sb0_no h).elim) rfl (Ct.u1 C) (fun W' pn xe tk hp => (ds_one (ds_expr (xD (Ct.tr C tk) d_filled (by decide) rfl (gV (nV (i := 0) rfl (Or.inl rfl) rfl rfl) (gV (nV (i := 1) rfl (Or.inl rfl) rfl rfl) gV_nil rfl) rfl) rfl rfl rfl) rfl))) (fun a oe pn => (nV (i := 2) rfl (Or.inl rfl) rfl rfl)) rfl rfl rfl rfl)
  (ds_one (ds_ret kB)))
theorem sc_law : FnScope ["script", "run", "numbers", "wrong"] ["script"] (defScope (top 49)) := ⟨rfl, rfl, rfl, by decide +kernel, rfl, by decide +kernel, by decide +kernel⟩
theorem fn_law (T : Txt K mg base) (d__law_draws : DefOk P w K mg base (gg K) 1 "_law_draws" ["script", "place", "many"] h__law_draws) (d__law_refused : DefOk P w K mg base (gg K) 8 "_law_refused" ["amount", "claims", "spot"] h__law_refused) (d__law_shared : DefOk P w K mg base (gg K) 9 "_law_shared" ["numbers"] h__law_shared) (d__law_filled : DefOk P w K mg base (gg K) 6 "_law_filled" ["numbers"] h__law_filled) (d__law_wrong_filled : DefOk P w K mg base (gg K) 6 "_law_wrong_filled" ["amount", "sums", "spot"] h__law_wrong_filled) {fd : FuncData} (F : FunD K "law" "law" (defArgs (top 49)) (defBody (top 49)) (defScope (top 49)) [] [] (He.ga K "law") fd) : FnOk P w K mg base (L2.CX P w) 10 (He.ga K "law") fd ["script"] (spD (gg K) h_law) := by
  refine dfn_okC (k := 9) F sc_law (fun cdv A outer s H F0 E cdE room => ?_)
  have nd := (sc_law).nd
  have C : Ct (cxOf (L2.CX P w) P w K mg base ["script", "run", "numbers", "wrong"] "law" (defScope (top 49)) (He.ga K "law") cdv A outer s H E) (gg K) (fun cls dd _ H' => E cls dd H') 9 := ⟨rfl, rfl, room, takes_of rfl rfl rfl rfl⟩
  exact (ds_cons (ds_for (T := (.nm 1)) (passes_of rfl) (Ct.calm C) (di_rng1 rfl T.f_range (read kI) rfl) (dg_name (i := 1) nd rfl (Or.inl rfl) (Or.inl rfl)) (ds_cons (ds_set (i := 2) nd rfl (Or.inl rfl) (xD C d__law_draws (by decide) rfl (gV (nV (i := 0) rfl (Or.inl rfl) rfl rfl) (gV (nV (i := 1) rfl (Or.inl rfl) rfl rfl) (gV kI gV_nil rfl) rfl) rfl) rfl rfl rfl) rfl (Or.inl rfl))
  (ds_one (ds_if (L2.PW.pt (wO (tN' (tV' C (read (xD C d__law_shared (by decide) rfl (gV (nV (i := 2) rfl (Or.inl rfl) rfl rfl) gV_nil rfl) rfl rfl rfl)) (fun _ => rfl))) (wO1 (tN' (tV' C (read (xD C d__law_filled (by decide) rfl (gV (nV (i := 2) rfl (Or.inl rfl) rfl rfl) gV_nil rfl) rfl rfl rfl)) (fun _ => rfl)))))) (ds_one (ds_ret kB)) ds_nil))) (fun _ => rfl))
  (ds_cons (ds_for (T := (.nm 3)) (passes_of rfl) (Ct.calm C) (wSeqF C (freeze (eLst (gV (eTup gV_nil) (gV (eTup (gV (eTup (gV kI (gV kI gV_nil rfl) rfl)) gV_nil rfl)) (gV (eTup (gV (eTup (gV kI (gV kI gV_nil rfl) rfl)) (gV (eTup (gV kS (gV kI gV_nil rfl) rfl)) gV_nil rfl) rfl)) (gV (eTup (gV (eTup (gV kS (gV kI gV_nil rfl) rfl)) (gV (eTup (gV (eTup (gV kS gV_nil rfl)) (gV kI gV_nil rfl) rfl)) gV_nil rfl) rfl)) (gV (eTup (gV (eTup (gV kI (gV kI gV_nil rfl) rfl)) (gV (eTup (gV kI (gV kI gV_nil rfl) rfl)) gV_nil rfl) rfl)) (gV (eTup (gV (eTup (gV kI gV_nil rfl)) gV_nil rfl)) (gV kI gV_nil rfl) rfl) rfl) rfl) rfl) rfl) rfl)))) (dg_name (i := 3) nd rfl (Or.inl rfl) (Or.inl rfl)) (ds_one (ds_if (tN' (tV' C (read (xD C d__law_refused (by decide) rfl (gV kI (gV (nV (i := 3) rfl (Or.inl rfl) rfl rfl) (gV kI gV_nil rfl) rfl) rfl) rfl rfl rfl)) (fun _ => rfl))) (ds_one (ds_ret kB)) ds_nil)) (fun _ => rfl))
  (ds_cons (ds_if (L2.PW.pt (wO (tN' (tV' C (read (xD C d__law_refused (by decide) rfl (gV (uNeg C (read kI)) (gV (eTup (gV (eTup (gV kI (gV kI gV_nil rfl) rfl)) gV_nil rfl)) (gV kI gV_nil rfl) rfl) rfl) rfl rfl rfl)) (fun _ => rfl))) (wO1 (tN' (tV' C (read (xD C d__law_refused (by decide) rfl (gV kI (gV (eTup (gV (eTup (gV (eTup (gV kS gV_nil rfl)) (gV kI gV_nil rfl) rfl)) (gV (eTup (gV (freeze (eLst (gV kS gV_nil rfl))) (gV kI gV_nil rfl) rfl)) gV_nil rfl) rfl)) (gV kI gV_nil rfl) rfl) rfl) rfl rfl rfl)) (fun _ => rfl)))))) (ds_one (ds_ret kB)) ds_nil)
  (ds_one (ds_ret (oAnd C (xD C d__law_wrong_filled (by decide) rfl (gV (uNeg C (read kI)) (gV (eTup (gV kI gV_nil rfl)) (gV kI gV_nil rfl) rfl) rfl) rfl rfl rfl) (oAnd C (xD C d__law_wrong_filled (by decide) rfl (gV kI (gV (eTup (gV kI (gV (uNeg C (read kI)) gV_nil rfl) rfl)) (gV kI gV_nil rfl) rfl) rfl) rfl rfl rfl) (de_one (xD C d__law_wrong_filled (by decide) rfl (gV kI (gV (freeze (bRep C (read (freeze (eLst (gV kI gV_nil rfl)))) (read kI))) (gV kI gV_nil rfl) rfl) rfl) rfl rfl rfl)))))))))
end
/-- what the head says, as we use it -/
theorem txt_of {K : PySem.W.Frag} {h : Heap} {mg : Str → Option Value} {base : Heap} (KX : K.In h) (G : h.Ns mainGlobals mg) (c : He.SaysD fa fn K) (m : ex K = true) (TB : ∀ p ∈ tf, LamX.TabB base mg (He.cT K p).1 (He.cT K p).2) : Txt K mg base := by
  obtain ⟨e0, m1⟩ := Bool.and_eq_true_iff.mp (show (_ && _) = true from m)
  obtain ⟨e1, m2⟩ := Bool.and_eq_true_iff.mp m1
  obtain ⟨e2, m3⟩ := Bool.and_eq_true_iff.mp m2
  obtain ⟨e3, m4⟩ := Bool.and_eq_true_iff.mp m3
  obtain ⟨e4, e5⟩ := Bool.and_eq_true_iff.mp m4
  obtain ⟨fi, FI⟩ := c.def_ 0 (d := dInit) rfl
  exact {
    g_is_int := He.glo_ok KX G (c.fact 0 (f := .glo "is_int") rfl)
    u_is_int := c.def_ 1 (d := defD 7 "is_int") rfl
    g_is_int_from := He.glo_ok KX G (c.fact 1 (f := .glo "is_int_from") rfl)
    u_is_int_from := c.def_ 2 (d := defD 8 "is_int_from") rfl
    g_is_sequence := He.glo_ok KX G (c.fact 2 (f := .glo "is_sequence") rfl)
    u_is_sequence := c.def_ 3 (d := defD 9 "is_sequence") rfl
    g_is_sequence_of := He.glo_ok KX G (c.fact 3 (f := .glo "is_sequence_of") rfl)
    u_is_sequence_of := c.def_ 4 (d := defD 10 "is_sequence_of") rfl
    g_frozen := He.glo_ok KX G (c.fact 4 (f := .glo "frozen") rfl)
    u_frozen := c.def_ 5 (d := defD 11 "frozen") rfl
    g_is_person := He.glo_ok KX G (c.fact 5 (f := .glo "is_person") rfl)
    u_is_person := c.def_ 6 (d := defD 12 "is_person") rfl
    g_is_ascending := He.glo_ok KX G (c.fact 6 (f := .glo "is_ascending") rfl)
    u_is_ascending := c.def_ 7 (d := defD 13 "is_ascending") rfl
    g_are_persons := He.glo_ok KX G (c.fact 7 (f := .glo "are_persons") rfl)
    u_are_persons := c.def_ 8 (d := defD 14 "are_persons") rfl
    g_is_group := He.glo_ok KX G (c.fact 8 (f := .glo "is_group") rfl)
    u_is_group := c.def_ 9 (d := defD 15 "is_group") rfl
    g_check := He.glo_ok KX G (c.fact 9 (f := .glo "check") rfl)
    u_check := c.def_ 10 (d := defD 16 "check") rfl
    g_is_amount := He.glo_ok KX G (c.fact 10 (f := .glo "is_amount") rfl)
    u_is_amount := c.def_ 11 (d := defD 21 "is_amount") rfl
    g_is_weight := He.glo_ok KX G (c.fact 11 (f := .glo "is_weight") rfl)
    u_is_weight := c.def_ 12 (d := defD 22 "is_weight") rfl
    g_is_some_weight := He.glo_ok KX G (c.fact 12 (f := .glo "is_some_weight") rfl)
    u_is_some_weight := c.def_ 13 (d := defD 23 "is_some_weight") rfl
    g_are_weights := He.glo_ok KX G (c.fact 13 (f := .glo "are_weights") rfl)
    u_are_weights := c.def_ 14 (d := defD 24 "are_weights") rfl
    g_are_amounts := He.glo_ok KX G (c.fact 14 (f := .glo "are_amounts") rfl)
    u_are_amounts := c.def_ 15 (d := defD 25 "are_amounts") rfl
    g_pair_of := He.glo_ok KX G (c.fact 15 (f := .glo "pair_of") rfl)
    u_pair_of := c.def_ 16 (d := defD 26 "pair_of") rfl
    g_whole_weights := He.glo_ok KX G (c.fact 16 (f := .glo "whole_weights") rfl)
    u_whole_weights := c.def_ 17 (d := defD 27 "whole_weights") rfl
    g_parted_by := He.glo_ok KX G (c.fact 17 (f := .glo "parted_by") rfl)
    u_parted_by := c.def_ 18 (d := defD 28 "parted_by") rfl
    g_filled_by := He.glo_ok KX G (c.fact 18 (f := .glo "filled_by") rfl)
    u_filled_by := c.def_ 19 (d := defD 29 "filled_by") rfl
    g_parted := He.glo_ok KX G (c.fact 19 (f := .glo "parted") rfl)
    u_parted := c.def_ 20 (d := defD 31 "parted") rfl
    g__are_names := He.glo_ok KX G (c.fact 20 (f := .glo "_are_names") rfl)
    u__are_names := c.def_ 21 (d := defD 32 "_are_names") rfl
    g_are_claims := He.glo_ok KX G (c.fact 21 (f := .glo "are_claims") rfl)
    u_are_claims := c.def_ 22 (d := defD 33 "are_claims") rfl
    g_shared_by := He.glo_ok KX G (c.fact 22 (f := .glo "shared_by") rfl)
    u_shared_by := c.def_ 23 (d := defD 34 "shared_by") rfl
    g_shared := He.glo_ok KX G (c.fact 23 (f := .glo "shared") rfl)
    u_shared := c.def_ 24 (d := defD 35 "shared") rfl
    g_filled := He.glo_ok KX G (c.fact 24 (f := .glo "filled") rfl)
    u_filled := c.def_ 25 (d := defD 36 "filled") rfl
    g__law_draws := He.glo_ok KX G (c.fact 25 (f := .glo "_law_draws") rfl)
    u__law_draws := c.def_ 26 (d := defD 38 "_law_draws") rfl
    g__law_same := He.glo_ok KX G (c.fact 26 (f := .glo "_law_same") rfl)
    u__law_same := c.def_ 27 (d := defD 39 "_law_same") rfl
    g__law_divisor := He.glo_ok KX G (c.fact 27 (f := .glo "_law_divisor") rfl)
    u__law_divisor := c.def_ 28 (d := defD 40 "_law_divisor") rfl
    g__law_low := He.glo_ok KX G (c.fact 28 (f := .glo "_law_low") rfl)
    u__law_low := c.def_ 29 (d := defD 41 "_law_low") rfl
    g__law_names := He.glo_ok KX G (c.fact 29 (f := .glo "_law_names") rfl)
    u__law_names := c.def_ 30 (d := defD 42 "_law_names") rfl
    g__law_weights := He.glo_ok KX G (c.fact 30 (f := .glo "_law_weights") rfl)
    u__law_weights := c.def_ 31 (d := defD 43 "_law_weights") rfl
    g__law_turned := He.glo_ok KX G (c.fact 31 (f := .glo "_law_turned") rfl)
    u__law_turned := c.def_ 32 (d := defD 44 "_law_turned") rfl
    g__law_refused := He.glo_ok KX G (c.fact 32 (f := .glo "_law_refused") rfl)
    u__law_refused := c.def_ 33 (d := defD 45 "_law_refused") rfl
    g__law_shared := He.glo_ok KX G (c.fact 33 (f := .glo "_law_shared") rfl)
    u__law_shared := c.def_ 34 (d := defD 46 "_law_shared") rfl
    g__law_filled := He.glo_ok KX G (c.fact 34 (f := .glo "_law_filled") rfl)
    u__law_filled := c.def_ 35 (d := defD 47 "_law_filled") rfl
    g__law_wrong_filled := He.glo_ok KX G (c.fact 35 (f := .glo "_law_wrong_filled") rfl)
    u__law_wrong_filled := c.def_ 36 (d := defD 48 "_law_wrong_filled") rfl
    g_law := He.glo_ok KX G (c.fact 36 (f := .glo "law") rfl)
    u_law := c.def_ 37 (d := defD 49 "law") rfl
    gB := He.glo_ok KX G (c.fact 37 (f := .glo "BadValue") rfl)
    i_MOST_GROUP := He.int_ok KX G (c.fact 38 (f := .int "MOST_GROUP" 6) rfl)
    i_MOST_AMOUNT := He.int_ok KX G (c.fact 39 (f := .int "MOST_AMOUNT" 1000000000000) rfl)
    i_MOST_IN_WEIGHT := He.int_ok KX G (c.fact 40 (f := .int "MOST_IN_WEIGHT" 1000000000000000000000000000000) rfl)
    i_MOST_WEIGHTS := He.int_ok KX G (c.fact 41 (f := .int "MOST_WEIGHTS" 300) rfl)
    i_LETTERS := He.str_ok KX G (c.fact 42 (f := .str "LETTERS" "abcdefghijklmnopqrstuvwxyz") rfl)
    f_len := He.free_ok KX G (c.fact 43 (f := .free "len") rfl)
    f_abs := He.free_ok KX G (c.fact 44 (f := .free "abs") rfl)
    f_sum := He.free_ok KX G (c.fact 45 (f := .free "sum") rfl)
    f_any := He.free_ok KX G (c.fact 46 (f := .free "any") rfl)
    f_all := He.free_ok KX G (c.fact 47 (f := .free "all") rfl)
    f_min := He.free_ok KX G (c.fact 48 (f := .free "min") rfl)
    f_max := He.free_ok KX G (c.fact 49 (f := .free "max") rfl)
    f_sorted := He.free_ok KX G (c.fact 50 (f := .free "sorted") rfl)
    f_tuple := He.free_ok KX G (c.fact 51 (f := .free "tuple") rfl)
    f_list := He.free_ok KX G (c.fact 52 (f := .free "list") rfl)
    f_int := He.free_ok KX G (c.fact 53 (f := .free "int") rfl)
    f_isinstance := He.free_ok KX G (c.fact 54 (f := .free "isinstance") rfl)
    f_range := He.free_ok KX G (c.fact 55 (f := .free "range") rfl)
    f_bool := He.free_ok KX G (c.fact 56 (f := .free "bool") rfl)
    f_str := He.free_ok KX G (c.fact 57 (f := .free "str") rfl)
    f_set := He.free_ok KX G (c.fact 58 (f := .free "set") rfl)
    f_zip := He.free_ok KX G (c.fact 59 (f := .free "zip") rfl)
    f_gcd := gloB_ok KX G e1
    f_lcm := gloB_ok KX G e2
    n_parted_by_shared_by := of_decide_eq_true e3
    n_parted_by__law_shared := of_decide_eq_true e4
    n_shared_by__law_shared := of_decide_eq_true e5
    tb_parted_by := TB ("parted_by", none) (by simp [tf])
    tb_shared_by := TB ("shared_by", none) (by simp [tf])
    tb__law_shared := TB ("_law_shared", none) (by simp [tf])
    bad := badB_ok e0 FI }
theorem law_ok {P : Program} {w : World} {K : PySem.W.Frag} {mg : Str → Option Value} {base : Heap} (T : Txt K mg base) {fd : FuncData} (F : FunD K "law" "law" (defArgs (top 49)) (defBody (top 49)) (defScope (top 49)) [] [] (He.ga K "law") fd) : FnOk P w K mg base (L2.CX P w) 10 (He.ga K "law") fd ["script"] (spD (gg K) h_law) := by
  have d_is_int : DefOk P w K mg base (gg K) 1 "is_int" ["value"] h_is_int := ok_is_int T 
  have d_is_int_from : DefOk P w K mg base (gg K) 2 "is_int_from" ["value", "low", "high"] h_is_int_from := ok_is_int_from T d_is_int
  have d_is_sequence : DefOk P w K mg base (gg K) 1 "is_sequence" ["value"] h_is_sequence := ok_is_sequence T 
  have d_is_sequence_of : DefOk P w K mg base (gg K) 2 "is_sequence_of" ["value", "many"] h_is_sequence_of := ok_is_sequence_of T d_is_sequence
  have d_frozen : DefOk P w K mg base (gg K) 5 "frozen" ["value"] h_frozen := ok_frozen T d_is_sequence
  have d_is_person : DefOk P w K mg base (gg K) 1 "is_person" ["value"] h_is_person := ok_is_person T 
  have d_is_ascending : DefOk P w K mg base (gg K) 1 "is_ascending" ["value"] h_is_ascending := ok_is_ascending T 
  have d_are_persons : DefOk P w K mg base (gg K) 2 "are_persons" ["value"] h_are_persons := ok_are_persons T d_is_sequence d_is_person d_is_ascending
  have d_is_group : DefOk P w K mg base (gg K) 3 "is_group" ["value"] h_is_group := ok_is_group T d_are_persons
  have d_check : DefOk P w K mg base (gg K) 2 "check" ["holds", "at"] h_check := ok_check T 
  have d_is_amount : DefOk P w K mg base (gg K) 3 "is_amount" ["value"] h_is_amount := ok_is_amount T d_is_int_from
  have d_is_weight : DefOk P w K mg base (gg K) 4 "is_weight" ["value"] h_is_weight := ok_is_weight T d_is_int d_is_sequence d_is_sequence_of d_is_amount
  have d_pair_of : DefOk P w K mg base (gg K) 2 "pair_of" ["weight"] h_pair_of := ok_pair_of T d_is_sequence
  have d_is_some_weight : DefOk P w K mg base (gg K) 3 "is_some_weight" ["weights"] h_is_some_weight := ok_is_some_weight T d_pair_of
  have d_are_weights : DefOk P w K mg base (gg K) 5 "are_weights" ["value"] h_are_weights := ok_are_weights T d_is_sequence d_is_weight d_is_some_weight
  have d_are_amounts : DefOk P w K mg base (gg K) 4 "are_amounts" ["value", "most"] h_are_amounts := ok_are_amounts T d_is_sequence d_is_amount
  have d_whole_weights : DefOk P w K mg base (gg K) 3 "whole_weights" ["weights"] h_whole_weights := ok_whole_weights T d_pair_of
  have d_parted_by : DefOk P w K mg base (gg K) 4 "parted_by" ["amount", "weights"] h_parted_by := ok_parted_by T d_whole_weights
  have d_filled_by : DefOk P w K mg base (gg K) 1 "filled_by" ["amount", "sums"] h_filled_by := ok_filled_by T 
  have d_parted : DefOk P w K mg base (gg K) 6 "parted" ["amount", "weights"] h_parted := ok_parted T d_check d_is_amount d_are_weights d_parted_by
  have d__are_names : DefOk P w K mg base (gg K) 4 "_are_names" ["names"] h__are_names := ok__are_names T d_is_int d_is_group
  have d_are_claims : DefOk P w K mg base (gg K) 6 "are_claims" ["value"] h_are_claims := ok_are_claims T d_is_int d_is_sequence d_is_sequence_of d_frozen d_is_group d_is_weight d_is_some_weight d__are_names
  have d_shared_by : DefOk P w K mg base (gg K) 5 "shared_by" ["amount", "claims"] h_shared_by := ok_shared_by T d_parted_by
  have d_shared : DefOk P w K mg base (gg K) 7 "shared" ["amount", "claims"] h_shared := ok_shared T d_frozen d_check d_is_amount d_are_claims d_shared_by
  have d_filled : DefOk P w K mg base (gg K) 5 "filled" ["amount", "sums"] h_filled := ok_filled T d_check d_is_amount d_are_amounts d_filled_by
  have d__law_draws : DefOk P w K mg base (gg K) 1 "_law_draws" ["script", "place", "many"] h__law_draws := ok__law_draws T 
  have d__law_same : DefOk P w K mg base (gg K) 4 "_law_same" ["actual", "due"] h__law_same := ok__law_same T 
  have d__law_divisor : DefOk P w K mg base (gg K) 1 "_law_divisor" ["one", "other"] h__law_divisor := ok__law_divisor T 
  have d__law_low : DefOk P w K mg base (gg K) 2 "_law_low" ["above", "below"] h__law_low := ok__law_low T d__law_divisor
  have d__law_names : DefOk P w K mg base (gg K) 1 "_law_names" ["numbers", "many"] h__law_names := ok__law_names T 
  have d__law_weights : DefOk P w K mg base (gg K) 3 "_law_weights" ["numbers", "many"] h__law_weights := ok__law_weights T d__law_low
  have d__law_turned : DefOk P w K mg base (gg K) 1 "_law_turned" ["rows", "number"] h__law_turned := ok__law_turned T 
  have d__law_refused : DefOk P w K mg base (gg K) 8 "_law_refused" ["amount", "claims", "spot"] h__law_refused := ok__law_refused T d_shared
  have d__law_shared : DefOk P w K mg base (gg K) 9 "_law_shared" ["numbers"] h__law_shared := ok__law_shared T d_parted d_shared d__law_same d__law_names d__law_weights d__law_turned d__law_refused
  have d__law_filled : DefOk P w K mg base (gg K) 6 "_law_filled" ["numbers"] h__law_filled := ok__law_filled T d_filled d__law_same
  have d__law_wrong_filled : DefOk P w K mg base (gg K) 6 "_law_wrong_filled" ["amount", "sums", "spot"] h__law_wrong_filled := ok__law_wrong_filled T d_filled
  exact fn_law T d__law_draws d__law_refused d__law_shared d__law_filled d__law_wrong_filled F
/-- the law holds if its reading says so -/
theorem holds_if (math : ∀ ns : List Int, ns.length ≤ 63 → (∀ z ∈ ns, Builtin.Int.intBits z ≤ 1048576) → h_law [.scr ns] = .ok (.bl true)) : PySem.Challenge.rw_landhold_k50_shared_and_filled.Holds := by
  w_on; o_law
  refine HandSHeadRun.head_imp (r := R) (q := vw) (H := hk) (ob := ob) (M := 3000) (loose := loose) (d := HandSHeadRun.topDef R.prog 49) (kwd := []) ob_eq run (by kernel_rfl) (by kernel_rfl) (by kernel_rfl) (by rfl) (by first | assumption | decide +kernel) (by decide +kernel) ⟨rfl, rfl, rfl, rfl, rfl, by decide +kernel⟩ ?hw ?hc
  case hw => w_witness2
  case hc =>
    refine LamX.walk_ofTsE (l := PySem.Challenge.rw_landhold_k50_shared_and_filled) (n := 63) (k := 10) (x := "script") (CX := fun w => L2.CX prog w) rfl (by decide) (by kernel_rfl) ⟨rfl, by decide, by decide⟩ ?F fun w H s e s' h => by
      obtain ⟨_, _, _, _, _, _, _, _, _, _, _, _, z⟩ := h
      exact z
    intro w mg fa' h Y G hmg0
    obtain ⟨K, KX, c⟩ := Y
    have hmg : mg ("law" : Str) = some (.ref fa') := by
      have e : (HandSHeadRun.topDef R.prog 49).name = ("law" : Str) := by kernel_rfl
      rw [← e]
      exact hmg0
    obtain ⟨fd, F⟩ := c.t.d.def_ 37 (d := defD 49 "law") rfl
    have e := hmg.symm.trans (He.glo_ok KX G (c.t.d.fact 36 (f := .glo "law") rfl))
    cases e
    have b := FunD.bindsA (ps := ["script"]) F fun _ _ _ _ _ _ us hl => match us, hl with | [_], _ => rfl
    refine ⟨K, KX, fd, tf.map (He.cT K), spD (gg K) h_law, fun p hp => ?_, fun p hp => ?_, fun p hp => ?_, fun s u => b s [u] rfl, fun H a ns hl hb hT hS => ?_, fun base KB GB TB => ?_⟩
    · obtain ⟨p0, h0, rfl⟩ := List.mem_map.mp hp
      exact c.empty p0 h0
    · obtain ⟨p0, h0, rfl⟩ := List.mem_map.mp hp
      exact c.out p0 h0
    · obtain ⟨p0, h0, rfl⟩ := List.mem_map.mp hp
      exact PySem.W.codeHd_of_K KX (c.hd p0 h0)
    · refine law_start (fun p hp => ?_) hS (math ns hl hb)
      simp only [gg, List.mem_cons, List.not_mem_nil, or_false] at hp
      rcases hp with rfl | rfl | rfl
      · exact LamX.TabS.nil (hT _ (List.mem_map.mpr ⟨("parted_by", none), by simp [tf], rfl⟩))
      · exact LamX.TabS.nil (hT _ (List.mem_map.mpr ⟨("shared_by", none), by simp [tf], rfl⟩))
      · exact LamX.TabS.nil (hT _ (List.mem_map.mpr ⟨("_law_shared", none), by simp [tf], rfl⟩))
    · exact law_ok (txt_of KX G c.t.d c.more fun p hp => TB _ (List.mem_map.mpr ⟨p, hp, rfl⟩)) F
end
end PL
namespace PL
open PySem PySem.Spec L2
/-! SH: the defs that k49 and k50 share -/
theorem r_is_int (n : Int) : h_is_int [.int n] = .ok (.bl true) := rfl
theorem r_is_int_from (n lo hi : Int) : h_is_int_from [.int n, .int lo, .int hi] = .ok (.bl (decide (lo ≤ n) && decide (n ≤ hi))) := by
  unfold h_is_int_from f_is_int_from
  by_cases h : lo ≤ n <;> simp [fnD, startE, sSeq, sSet, sE, sT, sIf, sRet, sOwn, sFrz, frz, sDrop, sRaise, sNx, s0, s1, s2, sN, aN, aC, sAnd, sOr, sNot, sIte, tD, tNt, tAn, tOr, eVar, eBor, truth, sIs, isiD, tyN, below, clsOk, Cm.h, ordD, addD, subD, mulD, fdivD, modD, negD, mkTup, mkLst, lenOk, asInt, oN, oS, sSl, iSeq, itemsD, intD, absD, Or4.ints, eqD_int, eqD_bl, chainD, r_is_int, h]
theorem r_is_amount (n : Int) : h_is_amount [.int n] = .ok (.bl (decide (0 ≤ n) && decide (n ≤ 1000000000000))) := by
  unfold h_is_amount f_is_amount
  simp [fnD, startE, sSeq, sSet, sE, sT, sIf, sRet, sOwn, sFrz, frz, sDrop, sRaise, sNx, s0, s1, s2, sN, aN, aC, sAnd, sOr, sNot, sIte, tD, tNt, tAn, tOr, eVar, eBor, truth, sIs, isiD, tyN, below, clsOk, Cm.h, ordD, addD, subD, mulD, fdivD, modD, negD, mkTup, mkLst, lenOk, asInt, oN, oS, sSl, iSeq, itemsD, intD, absD, Or4.ints, eqD_int, eqD_bl, chainD, r_is_int_from]
theorem r_seq_t (l : List D) : h_is_sequence [.tup l] = .ok (.bl true) := rfl
theorem r_seq_l (l : List D) : h_is_sequence [.lst l] = .ok (.bl true) := rfl
theorem r_seq_i (n : Int) : h_is_sequence [.int n] = .ok (.bl false) := rfl
theorem r_seq2 (a b : D) : h_is_sequence_of [.tup [a, b], .int 2] = .ok (.bl true) := by
  unfold h_is_sequence_of f_is_sequence_of
  simp [fnD, startE, sSeq, sSet, sE, sT, sIf, sRet, sOwn, sFrz, frz, sDrop, sRaise, sNx, s0, s1, s2, sN, aN, aC, sAnd, sOr, sNot, sIte, tD, tNt, tAn, tOr, eVar, eBor, truth, sIs, isiD, tyN, below, clsOk, Cm.h, ordD, addD, subD, mulD, fdivD, modD, negD, mkTup, mkLst, lenOk, asInt, oN, oS, sSl, iSeq, itemsD, intD, absD, Or4.ints, eqD_int, eqD_bl, chainD, r_seq_t, lenD]
theorem r_weight {w : Wt} (o : w.Ok) : h_is_weight [w.d] = .ok (.bl true) := by
  unfold h_is_weight f_is_weight
  cases w with
  | n a =>
    have h1 := o.lo
    have h2 := o.n a rfl
    simp only [Wt.num] at h1
    simp [fnD, startE, sSeq, sSet, sE, sT, sIf, sRet, sOwn, sFrz, frz, sDrop, sRaise, sNx, s0, s1, s2, sN, aN, aC, sAnd, sOr, sNot, sIte, tD, tNt, tAn, tOr, eVar, eBor, truth, sIs, isiD, tyN, below, clsOk, Cm.h, ordD, addD, subD, mulD, fdivD, modD, negD, mkTup, mkLst, lenOk, asInt, oN, oS, sSl, iSeq, itemsD, intD, absD, Or4.ints, eqD_int, eqD_bl, chainD, Wt.d, r_seq_i, r_is_amount]
    omega
  | p a b =>
    have h1 := o.lo
    have h2 := o.hi
    have h3 := o.d1
    have h4 := o.d2
    have h5 := o.g
    simp only [Wt.num, Wt.den] at h1 h2 h3 h4 h5
    have e1 : a ≤ 1000000000000000000000000000000 := by omega
    have e2 : b ≤ 1000000000000000000000000000000 := by omega
    simp [fnD, startE, sSeq, sSet, sE, sT, sIf, sRet, sOwn, sFrz, frz, sDrop, sRaise, sNx, s0, s1, s2, sN, aN, aC, sAnd, sOr, sNot, sIte, tD, tNt, tAn, tOr, eVar, eBor, truth, sIs, isiD, tyN, below, clsOk, Cm.h, ordD, addD, subD, mulD, fdivD, modD, negD, mkTup, mkLst, lenOk, asInt, oN, oS, sSl, iSeq, itemsD, intD, absD, Or4.ints, eqD_int, eqD_bl, chainD, Wt.d, r_seq_t, r_seq2, r_ix0, r_ix1, r_is_int, h1, e1, h3, e2, gcdD]
    exact_mod_cast h5
theorem r_pair (w : Wt) : h_pair_of [w.d] = .ok (.tup [.int w.num, .int w.den]) := by
  unfold h_pair_of f_pair_of
  cases w <;> simp [fnD, startE, sSeq, sSet, sE, sT, sIf, sRet, sOwn, sFrz, frz, sDrop, sRaise, sNx, s0, s1, s2, sN, aN, aC, sAnd, sOr, sNot, sIte, tD, tNt, tAn, tOr, eVar, eBor, truth, sIs, isiD, tyN, below, clsOk, Cm.h, ordD, addD, subD, mulD, fdivD, modD, negD, mkTup, mkLst, lenOk, asInt, oN, oS, sSl, iSeq, itemsD, intD, absD, Or4.ints, eqD_int, eqD_bl, chainD, Wt.d, r_seq_i, r_seq_t, Wt.num, Wt.den]
theorem r_divisor (m n : Nat) (h : n < 4000) : h__law_divisor [.int m, .int n] = .ok (.int (Nat.gcd m n : Nat)) := by
  unfold h__law_divisor f__law_divisor
  obtain ⟨x, y, e⟩ := div_loop (rgD 0 4000) m n .none .none (by rw [rg_len]; simpa using h)
  change fnD 2 4 (sSeq _ (sSeq (sFor (.nm 2) (rng1 (s0 (.int 4000))) divB) (sRet (eVar 0)))) _ = _
  have em : ¬ ((m : Int) < 0) := by omega
  simp [fnD, startE, sSeq, sSet, sE, sT, sIf, sRet, sOwn, sFrz, frz, sDrop, sRaise, sNx, s0, s1, s2, sN, aN, aC, sAnd, sOr, sNot, sIte, tD, tNt, tAn, tOr, eVar, eBor, truth, sIs, isiD, tyN, below, clsOk, Cm.h, ordD, addD, subD, mulD, fdivD, modD, negD, mkTup, mkLst, lenOk, asInt, oN, oS, sSl, iSeq, itemsD, intD, absD, Or4.ints, eqD_int, eqD_bl, chainD, sFor, sI, rng1, toI, rgIn, e, em]
theorem r_low (m n : Nat) (h : n < 4000) (h0 : 0 < Nat.gcd m n) (hb : Nat.gcd m n < 2 ^ 64) : h__law_low [.int m, .int n] = .ok (.tup [.int (m / Nat.gcd m n : Nat), .int (n / Nat.gcd m n : Nat)]) := by
  unfold h__law_low f__law_low
  have hl : (Nat.gcd m n).log2 < 9000 := by
    have : (Nat.gcd m n).log2 < 64 := (Nat.log2_lt (by omega)).mpr hb
    omega
  simp [fnD, startE, sSeq, sSet, sE, sT, sIf, sRet, sOwn, sFrz, frz, sDrop, sRaise, sNx, s0, s1, s2, sN, aN, aC, sAnd, sOr, sNot, sIte, tD, tNt, tAn, tOr, eVar, eBor, truth, sIs, isiD, tyN, below, clsOk, Cm.h, ordD, addD, subD, mulD, fdivD, modD, negD, mkTup, mkLst, lenOk, asInt, oN, oS, sSl, iSeq, itemsD, intD, absD, Or4.ints, eqD_int, eqD_bl, chainD, r_divisor m n h, h0, hl]
theorem r_wholes {ws : List Wt} {d : D} (o : ∀ w ∈ ws, w.Ok) (hl : ws.length ≤ 300) (hd : itemsD d = .ok (ws.map Wt.d)) (hd2 : ∀ l, d ≠ .scr l) : h_whole_weights [d] = .ok (.lst ((wholes ws).map D.int)) := by
  have dv := com_dvd ws 1 o (by decide)
  obtain ⟨cp, cl⟩ := pos_of_dvd dv
  have e1 : lcD (iSeq (eBor 0)) [4] (.nm 4) tYs (sN h_pair_of (aC (eVar 4) aN)) [.val d, .none, .none, .none, .none] = .ok (.lst (ws.map pairD)) :=
    lc_map (i := Wt.d) (o := pairD) ws hd (by omega) fun w hw => ⟨_, rfl, rfl, by simp [fnD, startE, sSeq, sSet, sE, sT, sIf, sRet, sOwn, sFrz, frz, sDrop, sRaise, sNx, s0, s1, s2, sN, aN, aC, sAnd, sOr, sNot, sIte, tD, tNt, tAn, tOr, eVar, eBor, truth, sIs, isiD, tyN, below, clsOk, Cm.h, ordD, addD, subD, mulD, fdivD, modD, negD, mkTup, mkLst, lenOk, asInt, oN, oS, sSl, iSeq, itemsD, intD, absD, Or4.ints, eqD_int, eqD_bl, chainD, wipeE, r_pair, pairD]⟩
  obtain ⟨ρ', e2, t, e3, e4⟩ := for_fold (i := pairD) (T := .nm 3) (step := fun c w => Nat.lcm c (nden w)) (P := fun c ρ => ∃ t, c ∣ LL ∧ ρ = [.val d, .val (.lst (ws.map pairD)), .val (.int (c : Nat)), t, .none])
    (body := sSet 2 (sN lcmD (aC (eBor 2) (aC (s2 ixD (eBor 3) (s0 (.int 1))) aN)))) ws 1 [.val d, .val (.lst (ws.map pairD)), .val (.int (1 : Nat)), .none, .none] (by
      rintro c w ρ hw ⟨t, hc, rfl⟩
      obtain ⟨c1, c2⟩ := pos_of_dvd hc
      have c2 : c ≤ 5342931457063200 := c2
      have ow := o w hw
      have b1 : c < 18446744073709551616 := by omega
      have b2 : w.den.natAbs < 18446744073709551616 := by have := ow.d1; have := ow.d2; omega
      refine ⟨_, _, rfl, ?_, .val (pairD w), Nat.lcm_dvd hc (dvd_LL _ ow.nd1 ow.nd2), rfl⟩
      simp [fnD, startE, sSeq, sSet, sE, sT, sIf, sRet, sOwn, sFrz, frz, sDrop, sRaise, sNx, s0, s1, s2, sN, aN, aC, sAnd, sOr, sNot, sIte, tD, tNt, tAn, tOr, eVar, eBor, truth, sIs, isiD, tyN, below, clsOk, Cm.h, ordD, addD, subD, mulD, fdivD, modD, negD, mkTup, mkLst, lenOk, asInt, oN, oS, sSl, iSeq, itemsD, intD, absD, Or4.ints, eqD_int, eqD_bl, chainD, pairD, r_ix1, lcmD, b1, b2, nden]) ⟨.none, by decide, rfl⟩
  change com ws ∣ LL at e3
  change ρ' = [.val d, .val (.lst (ws.map pairD)), .val (.int (com ws : Nat)), t, .none] at e4
  subst e4
  have e5 : lcD (iSeq (eBor 1)) [3] (.nm 3) tYs (s2 mulD (s2 ixD (eBor 3) (s0 (.int 0))) (s2 fdivD (eBor 2) (s2 ixD (eBor 3) (s0 (.int 1))))) [.val d, .val (.lst (ws.map pairD)), .val (.int (com ws : Nat)), t, .none] = .ok (.lst ((wholes ws).map D.int)) := by
    unfold wholes
    rw [List.map_map]
    refine lc_map (i := pairD) (o := D.int ∘ fun w => w.num * ((com ws : Int) / w.den)) ws rfl (by omega) fun w hw => ⟨_, rfl, rfl, ?_⟩
    have ow := o w hw
    have d1 : 0 < w.den := by have := ow.d1; omega
    have l9 : w.den.natAbs.log2 < 9000 := by
      have h6 : w.den.natAbs.log2 < 6 := (Nat.log2_lt (by omega)).mpr (by have := ow.d2; omega)
      omega
    have m1 : -18446744073709551616 < w.num := by have := ow.lo; omega
    have m2 : w.num < 18446744073709551616 := by have := ow.hi; omega
    simp [fnD, startE, sSeq, sSet, sE, sT, sIf, sRet, sOwn, sFrz, frz, sDrop, sRaise, sNx, s0, s1, s2, sN, aN, aC, sAnd, sOr, sNot, sIte, tD, tNt, tAn, tOr, eVar, eBor, truth, sIs, isiD, tyN, below, clsOk, Cm.h, ordD, addD, subD, mulD, fdivD, modD, negD, mkTup, mkLst, lenOk, asInt, oN, oS, sSl, iSeq, itemsD, intD, absD, Or4.ints, eqD_int, eqD_bl, chainD, wipeE, pairD, r_ix0, r_ix1, d1, l9, mulOk, m1, m2]
  unfold h_whole_weights f_whole_weights
  have e2' : forL (.nm 3) (sSet 2 (sN lcmD (aC (eBor 2) (aC (s2 ixD (eBor 3) (s0 (.int 1))) aN)))) (ws.map pairD) [.val d, .val (.lst (ws.map pairD)), .val (.int 1), .none, .none] = .nx [.val d, .val (.lst (ws.map pairD)), .val (.int (com ws : Nat)), t, .none] := e2
  generalize eb : sSet 2 (sN lcmD (aC (eBor 2) (aC (s2 ixD (eBor 3) (s0 (.int 1))) aN))) = bd at e2' ⊢
  generalize ec : lcD (iSeq (eBor 0)) [4] (.nm 4) tYs (sN h_pair_of (aC (eVar 4) aN)) = c1 at e1 ⊢
  generalize ed : lcD (iSeq (eBor 1)) [3] (.nm 3) tYs (s2 mulD (s2 ixD (eBor 3) (s0 (.int 0))) (s2 fdivD (eBor 2) (s2 ixD (eBor 3) (s0 (.int 1))))) = c2 at e5 ⊢
  simp [fnD, startE, sSeq, sSet, sE, sT, sIf, sRet, sOwn, sFrz, frz, sDrop, sRaise, sNx, s0, s1, s2, sN, aN, aC, sAnd, sOr, sNot, sIte, tD, tNt, tAn, tOr, eVar, eBor, truth, sIs, isiD, tyN, below, clsOk, Cm.h, ordD, addD, subD, mulD, fdivD, modD, negD, mkTup, mkLst, lenOk, asInt, oN, oS, sSl, iSeq, itemsD, intD, absD, Or4.ints, eqD_int, eqD_bl, chainD, e1, sFor, sI, e2', e5]
section
variable {a : Int} {ws : List Wt}
end
section
variable {a : Int} {ws : List Wt}
theorem r_parted_by (G : Given a ws) {d : D} (hd : itemsD d = .ok (ws.map Wt.d)) (hd2 : ∀ l, d ≠ .scr l) : h_parted_by [.int a, d] = .ok (.tup ((part a (wholes ws)).map D.int)) := by
  obtain ⟨l0, l1⟩ := left_range (a := a) G.pos
  have ew := r_wholes G.o G.l hd hd2
  have lw := G.wl
  have lcut : (cuts a (wholes ws)).length = (wholes ws).length := by unfold cuts; simp
  have lget : (gets a (wholes ws)).length = (wholes ws).length := by unfold gets; simp
  have e4 : lcD (iSeq (eBor 2)) [9] (.nm 9) tYs (s2 fdivD (s2 mulD (eBor 0) (eBor 9)) (eBor 3)) [.val (.int a), .val d, .val (.lst ((wholes ws).map D.int)), .val (.int (wholes ws).sum), .none, .none, .none, .none, .none, .none] = .ok (.lst ((gets a (wholes ws)).map D.int)) :=
    e_gets G rfl fun v => ⟨rfl, rfl, rfl⟩
  have e8 : lcD (iSeq (eBor 2)) [9] (.nm 9) tYs (s2 modD (s2 mulD (eBor 0) (eBor 9)) (eBor 3)) [.val (.int a), .val d, .val (.lst ((wholes ws).map D.int)), .val (.int (wholes ws).sum), .own ((gets a (wholes ws)).map D.int), .none, .none, .none, .none, .none] = .ok (.lst ((cuts a (wholes ws)).map D.int)) :=
    e_cuts G rfl fun v => by
      obtain ⟨a1, a2⟩ := G.am
      exact ⟨by simp [fnD, startE, sSeq, sSet, sE, sT, sIf, sRet, sOwn, sFrz, frz, sDrop, sRaise, sNx, s0, s1, s2, sN, aN, aC, sAnd, sOr, sNot, sIte, tD, tNt, tAn, tOr, eVar, eBor, truth, sIs, isiD, tyN, below, clsOk, Cm.h, ordD, addD, subD, mulD, fdivD, modD, negD, mkTup, mkLst, lenOk, asInt, oN, oS, sSl, itemsD, intD, absD, Or4.ints, eqD_int, eqD_bl, chainD, wipeE, mulOk, a1, a2], rfl⟩
  have e6 := e_places (cut := cuts a (wholes ws)) (ρ := [.val (.int a), .val d, .val (.lst ((wholes ws).map D.int)), .val (.int (wholes ws).sum), .own ((gets a (wholes ws)).map D.int), .val (.int (left a (wholes ws))), .none, .none, .val (.lst ((cuts a (wholes ws)).map D.int)), .none]) rfl (by
    rw [lcut]; simp [fnD, startE, sSeq, sSet, sE, sT, sIf, sRet, sOwn, sFrz, frz, sDrop, sRaise, sNx, s0, s1, s2, sN, aN, aC, sAnd, sOr, sNot, sIte, tD, tNt, tAn, tOr, eVar, eBor, truth, sIs, isiD, tyN, below, clsOk, Cm.h, ordD, addD, subD, mulD, fdivD, modD, negD, mkTup, mkLst, lenOk, asInt, oN, oS, sSl, itemsD, intD, absD, Or4.ints, eqD_int, eqD_bl, chainD, lenD]) (by omega)
  have e7 : ∃ t, forL (.nm 7) (sAugIx 4 (fun a b => a + b) (eVar 7) (s0 (.int 1))) (((places (cuts a (wholes ws))).take (left a (wholes ws)).toNat).map fun k => D.int (k : Nat))
      [.val (.int a), .val d, .val (.lst ((wholes ws).map D.int)), .val (.int (wholes ws).sum), .own ((gets a (wholes ws)).map D.int), .val (.int (left a (wholes ws))), .val (.lst ((places (cuts a (wholes ws))).map fun k => D.int (k : Nat))), .none, .val (.lst ((cuts a (wholes ws)).map D.int)), .none]
      = .nx [.val (.int a), .val d, .val (.lst ((wholes ws).map D.int)), .val (.int (wholes ws).sum), .own ((part a (wholes ws)).map D.int), .val (.int (left a (wholes ws))), .val (.lst ((places (cuts a (wholes ws))).map fun k => D.int (k : Nat))), t, .val (.lst ((cuts a (wholes ws)).map D.int)), .none] := by
    obtain ⟨ρ', e, t, e', _⟩ := for_fold (T := .nm 7) (i := fun k : Nat => D.int (k : Nat)) (step := bump) (body := sAugIx 4 (fun a b => a + b) (eVar 7) (s0 (.int 1)))
      (P := fun g ρ => ∃ t, ρ = [.val (.int a), .val d, .val (.lst ((wholes ws).map D.int)), .val (.int (wholes ws).sum), .own (g.map D.int), .val (.int (left a (wholes ws))), .val (.lst ((places (cuts a (wholes ws))).map fun k => D.int (k : Nat))), t, .val (.lst ((cuts a (wholes ws)).map D.int)), .none] ∧ g.length = (wholes ws).length)
      ((places (cuts a (wholes ws))).take (left a (wholes ws)).toNat) (gets a (wholes ws)) _ (by
        rintro g k ρ hk ⟨t, rfl, hg⟩
        have hkl : k < g.length := by rw [hg, ← lcut]; exact places_lt (List.mem_of_mem_take hk)
        refine ⟨_, _, rfl, ?_, .val (.int k), rfl, by rw [bump_len, hg]⟩
        simp only [sAugIx, sOwnAt, sE, eVar, s0]
        simp only [List.set_cons_succ, List.set_cons_zero, List.getElem?_cons_succ, List.getElem?_cons_zero, bump_D hkl]
        rw [← set_D]) ⟨.none, rfl, lget⟩
    refine ⟨t, ?_⟩
    rw [e, e']
    unfold part
    exact Eq.refl _
  obtain ⟨t, e7⟩ := e7
  have hcut : cutD ((places (cuts a (wholes ws))).map fun k => D.int (k : Nat)) none (some (left a (wholes ws))) = ((places (cuts a (wholes ws))).take (left a (wholes ws)).toNat).map fun k => D.int (k : Nat) := by
    have z := cut_to ((places (cuts a (wholes ws))).map fun k => D.int (k : Nat)) (left a (wholes ws)).toNat
    rw [Int.toNat_of_nonneg l0] at z
    rw [z, List.map_take]
  have hleft : a - (gets a (wholes ws)).sum = left a (wholes ws) := by unfold left; exact Eq.refl _
  unfold h_parted_by f_parted_by
  refine fnD_rt rfl ?_
  show sSeq _ _ [.val (.int a), .val d, .none, .none, .none, .none, .none, .none, .none, .none] = _
  rw [sSeq_nx (sSet_nx (sN1 (d := d) rfl ew)), sSeq_nx (sSet_nx (sN1 rfl (sum_lst _)))]
  show sSeq _ _ [.val (.int a), .val d, .val (.lst ((wholes ws).map D.int)), .val (.int (wholes ws).sum), .none, .none, .none, .none, .none, .none] = _
  rw [sSeq_nx (sOwn_nx e4)]
  show sSeq _ _ [.val (.int a), .val d, .val (.lst ((wholes ws).map D.int)), .val (.int (wholes ws).sum), .own ((gets a (wholes ws)).map D.int), .none, .none, .none, .none, .none] = _
  rw [sSeq_nx (sSet_nx e8)]
  show sSeq _ _ [.val (.int a), .val d, .val (.lst ((wholes ws).map D.int)), .val (.int (wholes ws).sum), .own ((gets a (wholes ws)).map D.int), .none, .none, .none, .val (.lst ((cuts a (wholes ws)).map D.int)), .none] = _
  have e5 : s2 subD (eBor 0) (sN sumD (aC (eBor 4) aN)) [.val (.int a), .val d, .val (.lst ((wholes ws).map D.int)), .val (.int (wholes ws).sum), .own ((gets a (wholes ws)).map D.int), .none, .none, .none, .val (.lst ((cuts a (wholes ws)).map D.int)), .none] = .ok (.int (left a (wholes ws))) := by
    have h1 : sN sumD (aC (eBor 4) aN) [.val (.int a), .val d, .val (.lst ((wholes ws).map D.int)), .val (.int (wholes ws).sum), .own ((gets a (wholes ws)).map D.int), .none, .none, .none, .val (.lst ((cuts a (wholes ws)).map D.int)), .none] = .ok (.int (gets a (wholes ws)).sum) := sN1 (d := .lst ((gets a (wholes ws)).map D.int)) rfl (sum_lst _)
    unfold s2
    rw [h1, ← hleft]
    rfl
  rw [sSeq_nx (sSet_nx e5)]
  show sSeq _ _ [.val (.int a), .val d, .val (.lst ((wholes ws).map D.int)), .val (.int (wholes ws).sum), .own ((gets a (wholes ws)).map D.int), .val (.int (left a (wholes ws))), .none, .none, .val (.lst ((cuts a (wholes ws)).map D.int)), .none] = _
  rw [sSeq_nx (sSet_nx e6)]
  show sSeq _ _ [.val (.int a), .val d, .val (.lst ((wholes ws).map D.int)), .val (.int (wholes ws).sum), .own ((gets a (wholes ws)).map D.int), .val (.int (left a (wholes ws))), .val (.lst ((places (cuts a (wholes ws))).map fun k => D.int (k : Nat))), .none, .val (.lst ((cuts a (wholes ws)).map D.int)), .none] = _
  have ei : iSeq (sSl slL (eBor 6) oN (oS (eBor 5))) [.val (.int a), .val d, .val (.lst ((wholes ws).map D.int)), .val (.int (wholes ws).sum), .own ((gets a (wholes ws)).map D.int), .val (.int (left a (wholes ws))), .val (.lst ((places (cuts a (wholes ws))).map fun k => D.int (k : Nat))), .none, .val (.lst ((cuts a (wholes ws)).map D.int)), .none]
      = .ok (((places (cuts a (wholes ws))).take (left a (wholes ws)).toNat).map fun k => D.int (k : Nat)) := by
    rw [← hcut]
    rfl
  rw [sSeq_nx ((sFor_of ei).trans e7)]
  exact sRet_rt (sN1 (d := .lst ((part a (wholes ws)).map D.int)) rfl rfl)
end
section
variable {a : Int} {ws : List Wt}
abbrev DB : Env → SO := sSet 3 (s2 fdivD (s2 mulD (eBor 3) (s2 ixD (eBor 4) (s0 (.int 1)))) (sN h__law_divisor (aC (eVar 3) (aC (s2 ixD (eBor 4) (s0 (.int 1))) aN))))
theorem lcm_step {w : Wt} (o : w.Ok) {c : Nat} (hc : c ∣ LL) {ρ : Env} (h3 : ρ[3]? = some (.val (.int (c : Nat)))) (h4 : ρ[4]? = some (.val (pairD w))) :
    DB ρ = .nx (ρ.set 3 (.val (.int (Nat.lcm c (nden w) : Nat)))) := by
  obtain ⟨c1, c2⟩ := pos_of_dvd hc
  have c2 : c ≤ 5342931457063200 := c2
  have n1 := o.nd1
  have n2 := o.nd2
  have ed : s2 ixD (eBor 4) (s0 (.int 1)) ρ = .ok (.int (nden w : Nat)) := by
    simp [fnD, startE, sSeq, sSet, sE, sT, sIf, sRet, sOwn, sFrz, frz, sDrop, sRaise, sNx, s0, s1, s2, sN, aN, aC, sAnd, sOr, sNot, sIte, tD, tNt, tAn, tOr, eVar, eBor, truth, sIs, isiD, tyN, below, clsOk, Cm.h, ordD, addD, subD, mulD, fdivD, modD, negD, mkTup, mkLst, lenOk, asInt, oN, oS, sSl, itemsD, intD, absD, Or4.ints, eqD_int, eqD_bl, chainD, h4, pairD, r_ix1, o.nd]
  have e3 : eBor 3 ρ = .ok (.int (c : Nat)) := by simp [fnD, startE, sSeq, sSet, sE, sT, sIf, sRet, sOwn, sFrz, frz, sDrop, sRaise, sNx, s0, s1, s2, sN, aN, aC, sAnd, sOr, sNot, sIte, tD, tNt, tAn, tOr, eVar, eBor, truth, sIs, isiD, tyN, below, clsOk, Cm.h, ordD, addD, subD, mulD, fdivD, modD, negD, mkTup, mkLst, lenOk, asInt, oN, oS, sSl, itemsD, intD, absD, Or4.ints, eqD_int, eqD_bl, chainD, h3]
  have v3 : eVar 3 ρ = .ok (.int (c : Nat)) := by simp [fnD, startE, sSeq, sSet, sE, sT, sIf, sRet, sOwn, sFrz, frz, sDrop, sRaise, sNx, s0, s1, s2, sN, aN, aC, sAnd, sOr, sNot, sIte, tD, tNt, tAn, tOr, eVar, eBor, truth, sIs, isiD, tyN, below, clsOk, Cm.h, ordD, addD, subD, mulD, fdivD, modD, negD, mkTup, mkLst, lenOk, asInt, oN, oS, sSl, itemsD, intD, absD, Or4.ints, eqD_int, eqD_bl, chainD, h3]
  have eg : sN h__law_divisor (aC (eVar 3) (aC (s2 ixD (eBor 4) (s0 (.int 1))) aN)) ρ = .ok (.int (Nat.gcd c (nden w) : Nat)) := sN2 v3 ed (r_divisor _ _ (by omega))
  have gp : 0 < Nat.gcd c (nden w) := Nat.gcd_pos_of_pos_left _ c1
  have gl : (Nat.gcd c (nden w)).log2 < 9000 := by
    have : Nat.gcd c (nden w) ≤ nden w := Nat.gcd_le_right _ (by omega)
    have h6 : (Nat.gcd c (nden w)).log2 < 6 := (Nat.log2_lt (by omega)).mpr (by omega)
    omega
  have m1 : (-18446744073709551616 : Int) < c := by omega
  have m2 : (c : Int) < 18446744073709551616 := by omega
  refine sSet_nx ?_
  have em : s2 mulD (eBor 3) (s2 ixD (eBor 4) (s0 (.int 1))) ρ = .ok (.int ((c * nden w : Nat) : Int)) := by
    rw [s2_eq e3 ed]
    simp [fnD, startE, sSeq, sSet, sE, sT, sIf, sRet, sOwn, sFrz, frz, sDrop, sRaise, sNx, s0, s1, s2, sN, aN, aC, sAnd, sOr, sNot, sIte, tD, tNt, tAn, tOr, eVar, eBor, truth, sIs, isiD, tyN, below, clsOk, Cm.h, ordD, addD, subD, mulD, fdivD, modD, negD, mkTup, mkLst, lenOk, asInt, oN, oS, sSl, itemsD, intD, absD, Or4.ints, eqD_int, eqD_bl, chainD, mulOk, m1, m2]
  rw [s2_eq em eg]
  unfold Nat.lcm
  generalize Nat.gcd c (nden w) = g at gp gl ⊢
  simp [fnD, startE, sSeq, sSet, sE, sT, sIf, sRet, sOwn, sFrz, frz, sDrop, sRaise, sNx, s0, s1, s2, sN, aN, aC, sAnd, sOr, sNot, sIte, tD, tNt, tAn, tOr, eVar, eBor, truth, sIs, isiD, tyN, below, clsOk, Cm.h, ordD, addD, subD, mulD, fdivD, modD, negD, mkTup, mkLst, lenOk, asInt, oN, oS, sSl, itemsD, intD, absD, Or4.ints, eqD_int, eqD_bl, chainD, gp, gl]
end
section
variable {a : Int} {ws : List Wt}
end
theorem r_check_t (d : D) : h_check [.bl true, d] = .ok .non := rfl
theorem r_check_f (k : Int) : h_check [.bl false, .int k] = .exc 0 (.int k) := rfl
theorem IsSq.sq {d : D} {l : List D} (h : IsSq d l) : h_is_sequence [d] = .ok (.bl true) := by cases h with | l h => rw [h]; rfl | t h => rw [h]; rfl
section
variable {a : Int} {ws : List Wt} {d : D}
theorem r_some (hd : IsSq d (ws.map Wt.d)) (hl : ws.length ≤ 300) : h_is_some_weight [d] = .ok (.bl (someW ws)) := by
  have e : lcD (iSeq (eBor 0)) [1] (.nm 1) tYs (s2 (Cm.h (.ord .gt)) (s2 ixD (sN h_pair_of (aC (eVar 1) aN)) (s0 (.int 0))) (s0 (.int 0))) [.val d, .none] = .ok (.lst ((ws.map fun w => decide (0 < w.num)).map D.bl)) := by
    rw [List.map_map]
    refine lc_map (i := Wt.d) (o := D.bl ∘ fun w => decide (0 < w.num)) ws (hd.bor rfl) (by omega) fun w _ => ⟨_, rfl, rfl, ?_⟩
    rw [s2_eq (s2_eq (sN1 (d := w.d) rfl (r_pair w)) (d' := .int 0) rfl) (d' := .int 0) rfl]
    exact gtD _ _
  have e2 := any_bls (ws.map fun w => decide (0 < w.num))
  rw [List.any_map] at e2
  unfold h_is_some_weight f_is_some_weight
  exact fnD_rt rfl (sRet_rt (sN1 e e2))
theorem r_are (o : ∀ w ∈ ws, w.Ok) (hd : IsSq d (ws.map Wt.d)) (hl : ws.length ≤ 300) (h1 : 1 ≤ ws.length) : h_are_weights [d] = .ok (.bl (someW ws)) := by
  have es : sN h_is_sequence (aC (eVar 0) aN) [.val d, .none] = .ok (.bl true) := sN1 (d := d) rfl hd.sq
  have ec : chainD (Cm.h (.ord .le)) (Cm.h (.ord .le)) (s0 (.int 1)) (sN lenD (aC (eBor 0) aN)) (s0 (.int (300))) [.val d, .none] = .ok (.bl true) := by
    rw [chain_ii (a := 1) (b := (ws.length : Int)) (c := 300) rfl (sN1 (d := d) rfl (by rw [hd.len, List.length_map])) rfl]
    have z1 : (1 : Int) ≤ ws.length := by omega
    have z2 : (ws.length : Int) ≤ 300 := by omega
    rw [decide_eq_true z1, decide_eq_true z2]; rfl
  have e : lcD (iSeq (eBor 0)) [1] (.nm 1) tYs (sN h_is_weight (aC (eVar 1) aN)) [.val d, .none] = .ok (.lst ((ws.map fun _ => true).map D.bl)) := by
    rw [List.map_map]
    exact lc_map (i := Wt.d) (o := D.bl ∘ fun _ => true) ws (hd.bor rfl) (by omega) fun w hw => ⟨_, rfl, rfl, sN1 (d := w.d) rfl (r_weight (o w hw))⟩
  have e2 := all_bls (ws.map fun _ => true)
  rw [show ((ws.map fun _ => true).all fun b => b) = true from by rw [List.all_map]; exact List.all_eq_true.mpr fun _ _ => rfl] at e2
  unfold h_are_weights f_are_weights
  refine fnD_rt rfl ?_
  show sSeq _ _ [.val d, .none] = _
  rw [sSeq_nx (sIf_skip ((tOr_f (tNt_ok (tD_bl es))).trans (tNt_ok (tD_bl ec))))]
  exact sRet_rt ((sAnd_t (sN1 e e2)).trans (sN1 (d := d) rfl (r_some hd hl)))
theorem r_amt (a0 : 0 ≤ a) (a1 : a ≤ 10 ^ 12) : h_is_amount [.int a] = .ok (.bl true) := by
  rw [r_is_amount, decide_eq_true a0, decide_eq_true (by omega : a ≤ 1000000000000)]; rfl
theorem r_parted (G : Given a ws) (hs : someW ws = true) (hd : IsSq d (ws.map Wt.d)) : h_parted [.int a, d] = .ok (.tup ((part a (wholes ws)).map D.int)) := by
  have e1 : sN h_check (aC (sN h_is_amount (aC (eVar 0) aN)) (aC (s0 (.int 1)) aN)) [.val (.int a), .val d] = .ok .non := sN2 (sN1 (d := .int a) rfl (r_amt G.a0 G.a1)) (d' := .int 1) rfl (r_check_t _)
  have e2 : sN h_check (aC (sN h_are_weights (aC (eVar 1) aN)) (aC (s0 (.int 2)) aN)) [.val (.int a), .val d] = .ok .non := sN2 (sN1 (d := d) rfl (r_are G.o hd G.l G.ne)) (d' := .int 2) rfl (by rw [hs]; exact r_check_t _)
  unfold h_parted f_parted
  refine fnD_rt rfl ?_
  show sSeq _ _ [.val (.int a), .val d] = _
  rw [sSeq_nx (sDrop_nx e1), sSeq_nx (sDrop_nx e2)]
  exact sRet_rt (sN2 (d := .int a) (d' := d) rfl rfl (r_parted_by G hd.it hd.ns))
theorem r_parted_no (o : ∀ w ∈ ws, w.Ok) (hl : ws.length ≤ 300) (h1 : 1 ≤ ws.length) (a0 : 0 ≤ a) (a1 : a ≤ 10 ^ 12) (hs : someW ws = false) (hd : IsSq d (ws.map Wt.d)) : h_parted [.int a, d] = .exc 0 (.int 2) := by
  have e1 : sN h_check (aC (sN h_is_amount (aC (eVar 0) aN)) (aC (s0 (.int 1)) aN)) [.val (.int a), .val d] = .ok .non := sN2 (sN1 (d := .int a) rfl (r_amt a0 a1)) (d' := .int 1) rfl (r_check_t _)
  have e2 : sN h_check (aC (sN h_are_weights (aC (eVar 1) aN)) (aC (s0 (.int 2)) aN)) [.val (.int a), .val d] = .exc 0 (.int 2) := sN2 (sN1 (d := d) rfl (r_are o hd hl h1)) (d' := .int 2) rfl (by rw [hs]; exact r_check_f _)
  unfold h_parted f_parted
  refine fnD_xc (ρ := [.val (.int a), .val d]) rfl ?_
  show sSeq _ _ [.val (.int a), .val d] = _
  rw [sSeq_nx (sDrop_nx e1), sSeq_xc (sDrop_xc e2)]
end
theorem same_u (k : Nat) (ds : List D) : h__law_same' (k + 1) ds = fnD 2 3 (f__law_same (h__law_same' k)) ds := rfl
theorem r_same_int (k : Nat) (x : Int) : h__law_same' (k + 1) [.int x, .int x] = .ok (.bl true) := by
  rw [same_u]
  unfold f__law_same
  refine fnD_rt rfl ?_
  show sSeq _ _ [.val (.int x), .val (.int x), .none] = _
  rw [sSeq_nx (sIf_skip rfl), sSeq_nx (sIf_skip rfl), sSeq_nx (sIf_skip rfl)]
  refine sRet_rt ((sAnd_t rfl).trans ?_)
  rw [s2_eq (d := .int x) (d' := .int x) rfl rfl]
  rw [eq_ints]
  simp
theorem low_w {m n : Nat} (hn : 1 ≤ n) (hn2 : n ≤ 40) : h__law_low [.int m, .int n] = .ok (Wt.p (m / Nat.gcd m n : Nat) (n / Nat.gcd m n : Nat)).d := by
  have gp : 0 < Nat.gcd m n := Nat.gcd_pos_of_pos_right _ hn
  have gl : Nat.gcd m n ≤ n := Nat.gcd_le_right _ hn
  exact r_low m n (by omega) gp (by omega)
end PL
namespace PL
open PySem PySem.Spec L2
/-! DR: draws; what is the same as itself -/
theorem ix_tup {l : List D} {k : Nat} {d : D} (h : l[k]? = some d) : ixD (.tup l) (.int (k : Int)) = .ok d := by
  dsimp only [ixD]
  rw [atI_nat h]
theorem ix_lst {l : List D} {k : Nat} {d : D} (h : l[k]? = some d) : ixD (.lst l) (.int (k : Int)) = .ok d := by
  dsimp only [ixD]
  rw [atI_nat h]
/-- what the draws are -/
def Drw (l : List Int) : Prop := ∀ x ∈ l, 0 ≤ x ∧ x < 1000000000
theorem drw_step {l : List Int} (hl : l.length < 1000) (hd : Drw l) {ns : List Int} {p c r k m : Int} {t7 : Slot} : ∃ x r' t7', Drw (l ++ [x]) ∧ DW [.val (.scr ns), .val (.int p), .val (.int m), .val (.int c), .own (l.map D.int), .val (.int r), .val (.int k), t7]
    = .nx [.val (.scr ns), .val (.int p), .val (.int m), .val (.int c), .own ((l ++ [x]).map D.int), .val (.int r'), .val (.int k), t7'] := by
  have more : ∀ z : Int, Drw (l ++ [z % 1000000000]) := fun z x hx => by
    rcases List.mem_append.mp hx with q | q
    · exact hd x q
    · rw [List.mem_singleton.mp q]
      exact ⟨Int.emod_nonneg _ (by decide), Int.emod_lt_of_pos _ (by decide)⟩
  have ll : (l.map D.int).length < 16777216 := by rw [List.length_map]; omega
  have ec : tD (s2 (Cm.h (.ord .ge)) (eBor 3) (s2 powD (s0 (.int 10)) (s0 (.int 18)))) [.val (.scr ns), .val (.int p), .val (.int m), .val (.int c), .own (l.map D.int), .val (.int r), .val (.int k), t7] = .ok (decide (1000000000000000000 ≤ c)) :=
    tD_bl ((s2_eq (d := .int c) rfl (pow18 _)).trans (ge_ints _ _))
  by_cases h : 1000000000000000000 ≤ c
  · rw [decide_eq_true h] at ec
    refine ⟨r % 1000000000, r / 1000000000, t7, more r, ?_⟩
    refine (sIf_t ec).trans ?_
    refine (sSeq_nx (sApp_nx (l := l.map D.int) rfl ((s2_eq (sN1 (d := .int r) rfl (int_i _)) (pow9 _)).trans (mod_ii (by decide))) ll)).trans ?_
    refine (sSet_nx ((s2_eq (d := .int r) rfl (pow9 _)).trans (fdiv_ii (by decide) (by decide)))).trans ?_
    rw [List.map_append]
    rfl
  · rw [decide_eq_false h] at ec
    obtain ⟨q, hq⟩ : ∃ q : Int, q = ((if c < 0 then -c else c) * 69069 + (k + 1) * 39916801 + p * 7919) % 2147483647 := ⟨_, rfl⟩
    have e1 : (s2 modD (sN intD (aC (s2 addD (s2 addD (s2 mulD (sN absD (aC (eBor 3) aN)) (s0 (.int 69069))) (s2 mulD (s2 addD (eBor 6) (s0 (.int 1))) (s0 (.int 39916801)))) (s2 mulD (eBor 1) (s0 (.int 7919)))) aN)) (s0 (.int 2147483647))) [.val (.scr ns), .val (.int p), .val (.int m), .val (.int c), .own (l.map D.int), .val (.int r), .val (.int k), t7] = .ok (.int q) := by
      have b1 := (s2_eq (op := mulD) (sN1 (f := eBor 3) (ρ := [.val (.scr ns), .val (.int p), .val (.int m), .val (.int c), .own (l.map D.int), .val (.int r), .val (.int k), t7]) (d := .int c) rfl (abs_i c)) (s0_ok (.int 69069) _)).trans (mul_r (by decide))
      have b2 := (s2_eq (op := mulD) ((s2_eq (op := addD) (f := eBor 6) (f' := s0 (.int 1)) (ρ := [.val (.scr ns), .val (.int p), .val (.int m), .val (.int c), .own (l.map D.int), .val (.int r), .val (.int k), t7]) (d := .int k) (d' := .int 1) rfl rfl).trans (add_ii _ _)) (s0_ok (.int 39916801) _)).trans (mul_r (by decide))
      have b3 := (s2_eq (op := mulD) (f := eBor 1) (f' := s0 (.int 7919)) (ρ := [.val (.scr ns), .val (.int p), .val (.int m), .val (.int c), .own (l.map D.int), .val (.int r), .val (.int k), t7]) (d := .int p) (d' := .int 7919) rfl rfl).trans (mul_r (by decide))
      rw [s2_eq (sN1 ((s2_eq ((s2_eq b1 b2).trans (add_ii _ _)) b3).trans (add_ii _ _)) (int_i _)) (s0_ok _ _), mod_ii (by decide), hq]
    have e2 : (s2 modD (s2 modD (sN intD (aC (s2 addD (s2 mulD (eBor 7) (s0 (.int 48271))) (s2 mulD (s2 addD (eBor 6) (s0 (.int 5))) (s0 (.int 16807)))) aN)) (s0 (.int 2147483629))) (s2 powD (s0 (.int 10)) (s0 (.int 9)))) [.val (.scr ns), .val (.int p), .val (.int m), .val (.int c), .own (l.map D.int), .val (.int r), .val (.int k), .val (.int q)]
        = .ok (.int ((q * 48271 + (k + 5) * 16807) % 2147483629 % 1000000000)) := by
      have b1 := (s2_eq (op := mulD) (f := eBor 7) (f' := s0 (.int 48271)) (ρ := [.val (.scr ns), .val (.int p), .val (.int m), .val (.int c), .own (l.map D.int), .val (.int r), .val (.int k), .val (.int q)]) (d := .int q) (d' := .int 48271) rfl rfl).trans (mul_r (by decide))
      have b2 := (s2_eq (op := mulD) ((s2_eq (op := addD) (f := eBor 6) (f' := s0 (.int 5)) (ρ := [.val (.scr ns), .val (.int p), .val (.int m), .val (.int c), .own (l.map D.int), .val (.int r), .val (.int k), .val (.int q)]) (d := .int k) (d' := .int 5) rfl rfl).trans (add_ii _ _)) (s0_ok (.int 16807) _)).trans (mul_r (by decide))
      rw [s2_eq ((s2_eq (sN1 ((s2_eq b1 b2).trans (add_ii _ _)) (int_i _)) (s0_ok _ _)).trans (mod_ii (by decide))) (pow9 _), mod_ii (by decide)]
    refine ⟨(q * 48271 + (k + 5) * 16807) % 2147483629 % 1000000000, r, .val (.int q), more _, (sIf_f ec).trans ?_⟩
    refine (sSeq_nx (sSet_nx e1)).trans ?_
    refine (sApp_nx (l := l.map D.int) rfl e2 ll).trans ?_
    rw [List.map_append]
    rfl
theorem drw_loop {ns : List Int} {p c m : Int} : ∀ (ks : List Nat) (l : List Int) (r : Int) (t6 t7 : Slot), Drw l → l.length + ks.length ≤ 1000 → ∃ l' : List Int, ∃ r' t6' t7', Drw l' ∧ l'.length = l.length + ks.length ∧
    forL (.nm 6) DW (ks.map fun k => D.int (k : Nat)) [.val (.scr ns), .val (.int p), .val (.int m), .val (.int c), .own (l.map D.int), .val (.int r), t6, t7]
    = .nx [.val (.scr ns), .val (.int p), .val (.int m), .val (.int c), .own (l'.map D.int), .val (.int r'), t6', t7']
  | [], l, r, t6, t7, hd, _ => ⟨l, r, t6, t7, hd, rfl, rfl⟩
  | k :: ks, l, r, t6, t7, hd, h => by
    rw [List.length_cons] at h
    obtain ⟨x, r1, s7, hd', e⟩ := drw_step (l := l) (by omega) hd (ns := ns) (p := p) (c := c) (r := r) (k := (k : Int)) (m := m) (t7 := t7)
    obtain ⟨l', r', t6', t7', hd2, hl, e'⟩ := drw_loop ks (l ++ [x]) r1 (.val (.int (k : Int))) s7 hd' (by rw [List.length_append]; simp; omega)
    refine ⟨l', r', t6', t7', hd2, by rw [hl, List.length_append, List.length_cons]; simp; omega, ?_⟩
    rw [List.map_cons]
    exact (forL_cons rfl e).trans e'
theorem drws (ns : List Int) (p m : Nat) (hm : m ≤ 1000) : ∃ l : List Int, l.length = m ∧ Drw l ∧ h__law_draws [.scr ns, .int (p : Int), .int (m : Int)] = .ok (.lst (l.map D.int)) := by
  have ec : ∃ c : Int, sIte (tD (s2 (Cm.h (.ord .lt)) (eBor 1) (sN lenD (aC (eBor 0) aN)))) (s2 ixD (eBor 0) (eBor 1)) (s2 addD (s2 mulD (s0 (.int 7)) (eBor 1)) (s0 (.int 3))) [.val (.scr ns), .val (.int (p : Int)), .val (.int (m : Int)), .none, .none, .none, .none, .none] = .ok (.int c) := by
    have e0 := tD_bl ((s2_eq (op := Cm.h (.ord .lt)) (f := eBor 1) (f' := sN lenD (aC (eBor 0) aN)) (ρ := [.val (.scr ns), .val (.int (p : Int)), .val (.int (m : Int)), .none, .none, .none, .none, .none]) (d := .int (p : Int)) rfl (sN1 (d := .scr ns) rfl (len_scr ns))).trans (lt_ints _ _))
    by_cases h : (p : Int) < (ns.length : Int)
    · rw [decide_eq_true h] at e0
      refine ⟨ns.getD p 0, (sIte_t e0).trans ?_⟩
      rw [s2_eq (d := .scr ns) (d' := .int (p : Int)) rfl rfl, ix_scr (by omega)]
    · rw [decide_eq_false h] at e0
      refine ⟨7 * (p : Int) + 3, (sIte_f e0).trans ?_⟩
      rw [s2_eq ((s2_eq (d := .int 7) (d' := .int (p : Int)) rfl rfl).trans (mul_l (by decide))) (s0_ok _ _), add_ii]
  obtain ⟨c, ec⟩ := ec
  obtain ⟨l, r', t6', t7', hd, hl, e⟩ := drw_loop (ns := ns) (p := p) (c := c) (m := m) (List.range m) [] c .none .none (fun x z => by cases z) (by simpa using hm)
  refine ⟨l, by rw [hl]; simp, hd, ?_⟩
  unfold h__law_draws f__law_draws
  refine fnD_rt rfl ?_
  show sSeq _ _ [.val (.scr ns), .val (.int (p : Int)), .val (.int (m : Int)), .none, .none, .none, .none, .none] = _
  rw [sSeq_nx (sSet_nx ec), sSeq_nx (sOwn_nx (l := []) rfl)]
  show sSeq _ _ [.val (.scr ns), .val (.int (p : Int)), .val (.int (m : Int)), .val (.int c), .own (([] : List Int).map D.int), .none, .none, .none] = _
  rw [sSeq_nx (sSet_nx (d := .int c) rfl)]
  show sSeq _ _ [.val (.scr ns), .val (.int (p : Int)), .val (.int (m : Int)), .val (.int c), .own (([] : List Int).map D.int), .val (.int c), .none, .none] = _
  have ei : rng1 (eBor 2) [.val (.scr ns), .val (.int (p : Int)), .val (.int (m : Int)), .val (.int c), .own (([] : List Int).map D.int), .val (.int c), .none, .none] = .ok ((List.range m).map fun k => D.int (k : Nat)) := rng1_eq rfl (by omega)
  rw [sSeq_nx ((sFor_of ei).trans e)]
  rw [sFrz_eq]
  exact sRet_rt (d := .lst (l.map D.int)) rfl
/-- data that _law_same compares, at most n deep -/
def sameOk : Nat → D → Bool
  | _ + 1, .int _ => true
  | _ + 1, .str x => PyData.strOk x
  | n + 1, .tup l => l.all (sameOk n) && decide (l.length ≤ 1000000)
  | _, _ => false
theorem same_self : ∀ (n : Nat) (d : D), sameOk n d = true → h__law_same' n [d, d] = .ok (.bl true)
  | 0, d, h => by cases d <;> cases h
  | n + 1, d, h => by
    rw [same_u]
    unfold f__law_same
    refine fnD_rt rfl ?_
    show sSeq _ _ [.val d, .val d, .none] = _
    cases d with
    | int x =>
      rw [sSeq_nx (sIf_skip rfl), sSeq_nx (sIf_skip rfl), sSeq_nx (sIf_skip rfl)]
      refine sRet_rt ((sAnd_t rfl).trans ?_)
      rw [s2_eq (d := .int x) (d' := .int x) rfl rfl, eq_ints]
      simp
    | str x =>
      rw [sSeq_nx (sIf_skip rfl), sSeq_nx (sIf_skip rfl), sSeq_nx (sIf_skip rfl)]
      refine sRet_rt ((sAnd_t rfl).trans ?_)
      rw [s2_eq (d := .str x) (d' := .str x) rfl rfl]
      show eqD false (.str x) (.str x) = _
      unfold eqD eqB shp
      have hx : PyData.strOk x = true := h
      simp [py, SeqAt.shaped, PyData.canLay0, PyData.depth, PyData.eqv, hx]
    | tup l =>
      have h1 : (l.all (sameOk n) && decide (l.length ≤ 1000000)) = true := h
      obtain ⟨h1, h2⟩ := Bool.and_eq_true_iff.mp h1
      have h2 := of_decide_eq_true h2
      have l1 : sN lenD (aC (eBor 1) aN) [.val (.tup l), .val (.tup l), .none] = .ok (.int (l.length : Nat)) := rfl
      have l0 : sN lenD (aC (eBor 0) aN) [.val (.tup l), .val (.tup l), .none] = .ok (.int (l.length : Nat)) := rfl
      have eq : s2 (Cm.h .eq) (sN lenD (aC (eBor 0) aN)) (sN lenD (aC (eBor 1) aN)) [.val (.tup l), .val (.tup l), .none] = .ok (.bl true) := by
        rw [s2_eq l0 l1, eq_ints]
        simp
      have e : lcD (rng1 (sN lenD (aC (eBor 1) aN))) [2] (.nm 2) tYs (sN (h__law_same' n) (aC (s2 ixD (eBor 0) (eBor 2)) (aC (s2 ixD (eBor 1) (eBor 2)) aN))) [.val (.tup l), .val (.tup l), .none] = .ok (.lst (((List.range l.length).map fun _ => true).map D.bl)) := by
        rw [List.map_map]
        refine lc_map (i := fun k : Nat => D.int (k : Int)) (o := D.bl ∘ fun _ => true) (List.range l.length) (rng1_eq l1 (by omega)) (by rw [List.length_range]; omega) fun k hk => ⟨_, rfl, rfl, ?_⟩
        have hk := List.mem_range.mp hk
        have ek := List.getElem?_eq_getElem hk
        exact sN2 ((s2_eq (d := .tup l) (d' := .int (k : Int)) rfl rfl).trans (ix_tup ek)) ((s2_eq (d := .tup l) (d' := .int (k : Int)) rfl rfl).trans (ix_tup ek)) (same_self n _ (List.all_eq_true.mp h1 _ (List.getElem_mem hk)))
      have e2 := all_bls ((List.range l.length).map fun _ => true)
      rw [show (((List.range l.length).map fun _ => true).all fun b => b) = true from by rw [List.all_map]; exact List.all_eq_true.mpr fun _ _ => rfl] at e2
      refine sSeq_rt ((sIf_t ((tAn_t rfl).trans ((tAn_t rfl).trans (tD_bl eq)))).trans (sRet_rt (sN1 e e2)))
    | _ => cases h
end PL
namespace PL
open PySem PySem.Spec L2
/-! N1: names of claims -/
theorem frozen_u (k : Nat) (ds : List D) : h_frozen' (k + 1) ds = fnD 1 2 (f_frozen (h_frozen' k)) ds := rfl
/-- what is frozen already stays -/
theorem frozen_self : ∀ (n : Nat) (d : D), sameOk n d = true → h_frozen' n [d] = .ok d
  | 0, d, h => by cases d <;> cases h
  | n + 1, d, h => by
    rw [frozen_u]
    unfold f_frozen
    refine fnD_rt rfl ?_
    show sSeq _ _ [.val d, .none] = _
    cases d with
    | int x => rw [sSeq_nx (sIf_skip rfl)]; rfl
    | str x => rw [sSeq_nx (sIf_skip rfl)]; rfl
    | tup l =>
      have h1 : (l.all (sameOk n) && decide (l.length ≤ 1000000)) = true := h
      obtain ⟨h1, h2⟩ := Bool.and_eq_true_iff.mp h1
      have h2 := of_decide_eq_true h2
      have e : lcD (iSeq (eBor 0)) [1] (.nm 1) tYs (sN (h_frozen' n) (aC (eVar 1) aN)) [.val (.tup l), .none] = .ok (.lst (l.map id)) :=
        lc_map (i := id) (o := id) l (by rw [List.map_id]; rfl) (by omega) fun x hx => ⟨_, rfl, rfl, sN1 (d := x) rfl (frozen_self n x (List.all_eq_true.mp h1 x hx))⟩
      rw [List.map_id] at e
      exact sSeq_rt ((sIf_t rfl).trans (sRet_rt (sN1 e rfl)))
    | _ => cases h
/-- a name: a number, a text, a group -/
inductive Nm where
  | i (n : Int) | w (x : Str) | g (xs : List Str)
  deriving DecidableEq
def Nm.d : Nm → D
  | .i n => .int n
  | .w x => .str x
  | .g xs => .tup (xs.map D.str)
def Nm.p : Nm → PyData
  | .i n => .int n
  | .w x => .str x
  | .g xs => .tuple (xs.map PyData.str)
def Nm.sort : Nm → Nat
  | .i _ => 0
  | .w _ => 1
  | .g _ => 2
/-- a text of one to eight small letters -/
def person (x : Str) : Bool := decide (1 ≤ x.cps.toList.length ∧ x.cps.toList.length ≤ 8) && x.cps.toList.all fun c => decide (97 ≤ c ∧ c ≤ 122)
def asc : List Str → Bool
  | x :: y :: l => decide (x.cps.toList < y.cps.toList) && asc (y :: l)
  | _ => true
def Nm.ok : Nm → Bool
  | .i _ => true
  | .w x => PyData.strOk x
  | .g xs => decide (1 ≤ xs.length ∧ xs.length ≤ 2) && xs.all person && asc xs
theorem person_ok {x : Str} (h : person x = true) : PyData.strOk x = true := by
  unfold person at h
  rw [Bool.and_eq_true] at h
  unfold PyData.strOk
  rw [← Array.all_toList, List.all_eq_true]
  intro c hc
  have z := of_decide_eq_true (List.all_eq_true.mp h.2 c hc)
  exact decide_eq_true (by omega)
theorem Nm.same {n : Nm} (h : n.ok = true) : sameOk 2 n.d = true := by
  cases n with
  | i n => rfl
  | w x => exact h
  | g xs =>
    have h : (decide (1 ≤ xs.length ∧ xs.length ≤ 2) && xs.all person && asc xs) = true := h
    rw [Bool.and_eq_true, Bool.and_eq_true] at h
    obtain ⟨⟨h1, h2⟩, _⟩ := h
    have h1 := of_decide_eq_true h1
    show ((xs.map D.str).all (sameOk 1) && decide ((xs.map D.str).length ≤ 1000000)) = true
    rw [Bool.and_eq_true]
    refine ⟨List.all_eq_true.mpr fun d hd => ?_, decide_eq_true (by rw [List.length_map]; omega)⟩
    obtain ⟨x, hx, rfl⟩ := List.mem_map.mp hd
    exact person_ok (List.all_eq_true.mp h2 x hx)
theorem py_name (n : Nm) : py n.d = some n.p := by
  cases n with
  | i n => rfl
  | w x => rfl
  | g xs =>
    have e : pyL (xs.map D.str) = some (xs.map PyData.str) := by
      induction xs with
      | nil => rfl
      | cons x xs ih => rw [List.map_cons, pyL_cons, ih]; rfl
    show py (.tup _) = _
    rw [py, e]
    rfl
theorem pyL_names : ∀ ns : List Nm, pyL (ns.map Nm.d) = some (ns.map Nm.p)
  | [] => rfl
  | n :: ns => by rw [List.map_cons, pyL_cons, py_name, pyL_names ns]; rfl
/-! ### a person, a group -/
def LET : Str := "abcdefghijklmnopqrstuvwxyz"
theorem let_mem {c : Nat} (h : 97 ≤ c ∧ c ≤ 122) : memD true (.str ⟨#[c]⟩) (.str LET) = .ok (.bl false) := by
  have e : c ∈ LET.cps.toList := by
    have : LET.cps.toList = (List.range 26).map (· + 97) := by decide +kernel
    rw [this]
    exact List.mem_map.mpr ⟨c - 97, List.mem_range.mpr (by omega), by omega⟩
  show (match (if True then some (decide (c ∈ LET.cps.toList)) else none) with | some k => Res.ok (D.bl (if true = true then !k else k)) | none => .bad) = _
  rw [decide_eq_true e]
  rfl
theorem len_str {x : Str} (h : x.cps.toList.length ≤ 16000000) : lenD [.str x] = .ok (.int (x.cps.toList.length : Nat)) := by
  have e : lenOk x.length = true := by
    unfold lenOk
    have : x.length = x.cps.toList.length := rfl
    exact decide_eq_true (by omega)
  unfold lenD
  dsimp only
  rw [if_pos e]
  rfl
theorem r_person {x : Str} (h : person x = true) : h_is_person [.str x] = .ok (.bl true) := by
  unfold person at h
  rw [Bool.and_eq_true] at h
  obtain ⟨h1, h2⟩ := h
  have h1 := of_decide_eq_true h1
  have el : lenD [.str x] = .ok (.int (x.cps.toList.length : Nat)) := len_str (by omega)
  have e2 : chainD (Cm.h (.ord .le)) (Cm.h (.ord .le)) (s0 (.int 1)) (sN lenD (aC (eBor 0) aN)) (s0 (.int 8)) [.val (.str x), .none] = .ok (.bl true) := by
    rw [chain_ii (a := 1) (b := (x.cps.toList.length : Int)) (c := 8) rfl (sN1 (d := .str x) rfl el) rfl]
    rw [decide_eq_true (by omega : (1 : Int) ≤ x.cps.toList.length), decide_eq_true (by omega : (x.cps.toList.length : Int) ≤ 8)]; rfl
  have e3 : iSeqS (eVar 0) [.val (.str x), .none] = .ok (signsD x) := rfl
  obtain ⟨t, e4⟩ := for_nop (i := 1) (body := sIf (tD (s2 (memD true) (eBor 1) (s0 (.str "abcdefghijklmnopqrstuvwxyz")))) (sRet (s0 (.bl false))) sNx) (signsD x) [.val (.str x), .none] fun d hd t => by
    obtain ⟨c, hc, rfl⟩ := List.mem_map.mp hd
    have z := of_decide_eq_true (List.all_eq_true.mp h2 c hc)
    exact sIf_skip (tD_bl ((s2_eq (d := .str ⟨#[c]⟩) (d' := .str LET) rfl rfl).trans (let_mem z)))
  unfold h_is_person f_is_person
  refine fnD_rt rfl ?_
  show sSeq _ _ [.val (.str x), .none] = _
  rw [sSeq_nx (sIf_skip ((tOr_f rfl).trans (tNt_ok (tD_bl e2))))]
  rw [sSeq_nx ((sFor_of e3).trans e4)]
  rfl
theorem shp_str {x : Str} (hx : PyData.strOk x = true) : shp (.str x) = some (.str x) := by
  unfold shp
  simp [py, SeqAt.shaped, PyData.canLay0, PyData.depth, hx]
theorem lt_strs (x y : Str) (hx : PyData.strOk x = true) (hy : PyData.strOk y = true) : Cm.h (.ord .lt) (.str x) (.str y) = .ok (.bl (decide (x.cps.toList < y.cps.toList))) := by
  show ordD .lt (.str x) (.str y) = _
  unfold ordD
  dsimp only
  rw [shp_str hx, shp_str hy]
  show Res.ok (D.bl (PySem.W.dataLt (.str x) (.str y))) = _
  rw [PySem.W.dataLt_str]
theorem oneTwo {α : Type} {xs : List α} (h : 1 ≤ xs.length ∧ xs.length ≤ 2) : (∃ x, xs = [x]) ∨ ∃ x y, xs = [x, y] := by
  cases xs with
  | nil => exact absurd h.1 (by simp)
  | cons x xs => cases xs with
    | nil => exact .inl ⟨x, rfl⟩
    | cons y xs => cases xs with
      | nil => exact .inr ⟨x, y, rfl⟩
      | cons z xs =>
        have z := h.2
        simp only [List.length_cons] at z
        omega
theorem r_asc {xs : List Str} (h1 : 1 ≤ xs.length ∧ xs.length ≤ 2) (hp : xs.all person = true) (ha : asc xs = true) : h_is_ascending [.tup (xs.map D.str)] = .ok (.bl true) := by
  unfold h_is_ascending f_is_ascending
  refine fnD_rt rfl ?_
  show sSeq _ _ [.val (.tup (xs.map D.str)), .none] = _
  have er : rng1 (s2 subD (sN lenD (aC (eBor 0) aN)) (s0 (.int 1))) [.val (.tup (xs.map D.str)), .none] = .ok ((List.range (xs.length - 1)).map fun k => D.int (k : Nat)) := by
    have hn : xs.length - 1 ≤ 16000000 := by omega
    refine rng1_eq ?_ hn
    have e0 : sN lenD (aC (eBor 0) aN) [.val (.tup (xs.map D.str)), .none] = .ok (.int ((xs.map D.str).length : Nat)) := rfl
    rw [s2_eq e0 (s0_ok _ _), List.length_map]
    exact congrArg (fun z : Int => Res.ok (D.int z)) (by omega)
  obtain ⟨t, ef⟩ := for_nop (i := 1) (body := sIf (tNt (tD (s2 (Cm.h (.ord .lt)) (s2 ixD (eBor 0) (eBor 1)) (s2 ixD (eBor 0) (s2 addD (eBor 1) (s0 (.int 1))))))) (sRet (s0 (.bl false))) sNx) ((List.range (xs.length - 1)).map fun k => D.int (k : Nat)) [.val (.tup (xs.map D.str)), .none] fun d hd t => by
    obtain ⟨k, hk, rfl⟩ := List.mem_map.mp hd
    have hk := List.mem_range.mp hk
    rcases oneTwo h1 with ⟨x, rfl⟩ | ⟨x, y, rfl⟩
    · exact absurd hk (Nat.not_lt_zero _)
    · have k0 : k = 0 := by
        have z : k < 1 := hk
        omega
      subst k0
      simp only [List.all_cons, List.all_nil, Bool.and_true, Bool.and_eq_true] at hp
      simp only [asc, Bool.and_true] at ha
      exact sIf_skip (tNt_ok (tD_bl ((s2_eq (d := .str x) (d' := .str y) rfl rfl).trans ((lt_strs x y (person_ok hp.1) (person_ok hp.2)).trans (by rw [ha])))))
  rw [sSeq_nx ((sFor_of er).trans ef)]
  rfl
theorem r_group {xs : List Str} (h1 : 1 ≤ xs.length ∧ xs.length ≤ 2) (hp : xs.all person = true) (ha : asc xs = true) : h_is_group [.tup (xs.map D.str)] = .ok (.bl true) := by
  have e : lcD (iSeq (eBor 0)) [1] (.nm 1) tYs (sN h_is_person (aC (eVar 1) aN)) [.val (.tup (xs.map D.str)), .none] = .ok (.lst (xs.map fun _ => D.bl true)) :=
    lc_map (i := D.str) (o := fun _ => D.bl true) xs rfl (by omega) fun x hx => ⟨_, rfl, rfl, sN1 (d := .str x) rfl (r_person (List.all_eq_true.mp hp x hx))⟩
  have p : h_are_persons [.tup (xs.map D.str)] = .ok (.bl true) := by
    unfold h_are_persons f_are_persons
    refine fnD_rt rfl (sRet_rt ((sAnd_t rfl).trans ((sAnd_t (sN1 e (all_true xs fun _ _ => rfl))).trans ?_)))
    exact sN1 (d := .tup (xs.map D.str)) rfl (r_asc h1 hp ha)
  unfold h_is_group f_is_group
  refine fnD_rt rfl (sRet_rt ((sAnd_t (sN1 (d := .tup (xs.map D.str)) rfl p)).trans ?_))
  rw [chain_ii (a := 1) (b := ((xs.map D.str).length : Nat)) (c := 6) rfl rfl rfl, List.length_map]
  rw [decide_eq_true (by omega : (1 : Int) ≤ xs.length), decide_eq_true (by omega : (xs.length : Int) ≤ 6)]
  rfl
end PL
namespace PL
open PySem PySem.Spec L2
/-! N2: names of one sort; claims -/
theorem sOr_t {f f' : Env → Res D} {ρ : Env} (h : f ρ = .ok (.bl true)) : sOr f f' ρ = .ok (.bl true) := by unfold sOr; rw [h]; rfl
theorem sOr_f {f f' : Env → Res D} {ρ : Env} (h : f ρ = .ok (.bl false)) : sOr f f' ρ = f' ρ := by unfold sOr; rw [h]; rfl
/-- names of the sort k -/
def Of (k : Nat) (ns : List Nm) : Prop := ∀ n ∈ ns, n.sort = k ∧ n.ok = true
def Nm.num : Nm → Int
  | .i n => n
  | _ => 0
def Nm.txt : Nm → Str
  | .w x => x
  | _ => ⟨#[]⟩
def Nm.key : Nm → NK
  | .g xs => .tup (xs.map NestedKey.text)
  | _ => .none
theorem keys_txt : ∀ xs : List Str, keysP (xs.map PyData.str) = some (xs.map NestedKey.text)
  | [] => by rw [List.map_nil, List.map_nil, keysP]
  | x :: xs => by rw [List.map_cons, keysP, keyP, keys_txt xs]; rfl
theorem depth_txt : ∀ xs : List Str, NestedKey.depthAll (xs.map NestedKey.text) = 0
  | [] => rfl
  | x :: xs => by rw [List.map_cons, NestedKey.depthAll, depth_txt xs]; rfl
theorem un_i : ∀ ns : List Nm, Of 0 ns → intsP (ns.map Nm.p) = some (ns.map Nm.num)
  | [], _ => rfl
  | n :: ns, h => by
    have e := un_i ns fun m hm => h m (List.mem_cons_of_mem _ hm)
    have z := (h n List.mem_cons_self).1
    cases n with
    | i n => rw [List.map_cons]; simp only [Nm.p, intsP, e]; rfl
    | w x => cases z
    | g xs => cases z
theorem un_w : ∀ ns : List Nm, Of 1 ns → strsP (ns.map Nm.p) = some (ns.map Nm.txt)
  | [], _ => rfl
  | n :: ns, h => by
    have e := un_w ns fun m hm => h m (List.mem_cons_of_mem _ hm)
    have z := (h n List.mem_cons_self).1
    cases n with
    | w n => rw [List.map_cons]; simp only [Nm.p, strsP, e]; rfl
    | i x => cases z
    | g xs => cases z
theorem un_g : ∀ ns : List Nm, Of 2 ns → tupsP (ns.map Nm.p) = some (ns.map Nm.key)
  | [], _ => rfl
  | n :: ns, h => by
    have e := un_g ns fun m hm => h m (List.mem_cons_of_mem _ hm)
    have z := (h n List.mem_cons_self).1
    cases n with
    | g xs =>
      rw [List.map_cons]
      have dp : (NestedKey.tup (xs.map NestedKey.text)).depth ≤ 8 := by rw [NestedKey.depth, depth_txt]; decide
      simp only [Nm.p, tupsP, keys_txt, e, if_pos dp]
      rfl
    | i x => cases z
    | w xs => cases z
theorem un_of {κ : Type} [DecidableEq κ] {ns : List Nm} (f : Nm → κ) (inj : ∀ a ∈ ns, ∀ b ∈ ns, f a = f b → a = b) : (ns.Nodup → (unl (ns.map f)).length = ns.length) ∧ ∀ m n, ns = m ++ [n] → n ∈ m → (unl (ns.map f)).length < ns.length := by
  refine ⟨fun h => ?_, fun m n e hm => ?_⟩
  · have nd : (ns.map f).Nodup := by
      unfold List.Nodup
      rw [List.pairwise_map]
      refine List.Pairwise.imp_of_mem (fun {a b} ha hb hne z => hne (inj a ha b hb z)) h
    rw [unl_nodup nd, List.length_map]
  · have z := unl_again (m.map f) (List.mem_map.mpr ⟨n, hm, rfl⟩)
    rw [e, List.map_append]
    simpa using z
theorem len_names {ns : List Nm} {k : Nat} (A : Of k ns) (h1 : ns ≠ []) (hl : ns.length < 64) : ∃ u : Nat, lenSetD (.lst (ns.map Nm.d)) = .ok (.int (u : Nat)) ∧ (ns.Nodup → u = ns.length) ∧ ∀ m n, ns = m ++ [n] → n ∈ m → u < ns.length := by
  have fin : ∀ u, unlN (ns.map Nm.p) = some u → lenSetD (.lst (ns.map Nm.d)) = .ok (.int (u : Nat)) := fun u e => by
    unfold lenSetD
    dsimp only
    rw [pyL_names]
    dsimp only
    rw [if_pos (by rw [List.length_map]; exact hl), e]
  cases ns with
  | nil => exact absurd rfl h1
  | cons n0 ns0 =>
    have z := (A n0 List.mem_cons_self).1
    cases n0 with
    | i x =>
      have A0 : Of 0 (.i x :: ns0) := by cases z; exact A
      obtain ⟨q1, q2⟩ := un_of (ns := .i x :: ns0) Nm.num fun a ha b hb e => by
        have z1 := (A0 a ha).1
        have z2 := (A0 b hb).1
        cases a <;> cases b <;> first | (cases z1; done) | (cases z2; done) | (exact congrArg Nm.i e)
      exact ⟨_, fin _ (by unfold unlN; rw [un_i _ A0]), q1, q2⟩
    | w x =>
      have A0 : Of 1 (.w x :: ns0) := by cases z; exact A
      obtain ⟨q1, q2⟩ := un_of (ns := .w x :: ns0) Nm.txt fun a ha b hb e => by
        have z1 := (A0 a ha).1
        have z2 := (A0 b hb).1
        cases a <;> cases b <;> first | (cases z1; done) | (cases z2; done) | (exact congrArg Nm.w e)
      exact ⟨_, fin _ (by unfold unlN; rw [show intsP ((Nm.w x :: ns0).map Nm.p) = none from by rw [List.map_cons]; simp only [Nm.p, intsP], un_w _ A0]), q1, q2⟩
    | g x =>
      have A0 : Of 2 (.g x :: ns0) := by cases z; exact A
      obtain ⟨q1, q2⟩ := un_of (ns := .g x :: ns0) Nm.key fun a ha b hb e => by
        have z1 := (A0 a ha).1
        have z2 := (A0 b hb).1
        have ti : ∀ p q : List Str, p.map NestedKey.text = q.map NestedKey.text → p = q := by
          intro p
          induction p with
          | nil => intro q h; cases q with | nil => rfl | cons _ _ => cases h
          | cons y p ih => intro q h; cases q with
            | nil => cases h
            | cons y' q => rw [List.map_cons, List.map_cons] at h; injection h with h1 h2; injection h1 with h1; rw [h1, ih q h2]
        cases a <;> cases b <;> first | (cases z1; done) | (cases z2; done) | (rw [show Nm.key (.g _) = NestedKey.tup _ from rfl, show Nm.key (.g _) = NestedKey.tup _ from rfl] at e; injection e with e; exact congrArg Nm.g (ti _ _ e))
      exact ⟨_, fin _ (by unfold unlN; rw [show intsP ((Nm.g x :: ns0).map Nm.p) = none from by rw [List.map_cons]; simp only [Nm.p, intsP], show strsP ((Nm.g x :: ns0).map Nm.p) = none from by rw [List.map_cons]; simp only [Nm.p, strsP], un_g _ A0]), q1, q2⟩
theorem int_name (n : Nm) : h_is_int [n.d] = .ok (.bl (n.sort == 0)) := by cases n <;> rfl
theorem str_name (n : Nm) : isiD n.d ["str"] = .ok (.bl (n.sort == 1)) := by cases n <;> rfl
theorem grp_name {n : Nm} (h : n.sort = 2) (o : n.ok = true) : h_is_group [n.d] = .ok (.bl true) := by
  cases n with
  | i x => cases h
  | w x => cases h
  | g xs =>
    have o : (decide (1 ≤ xs.length ∧ xs.length ≤ 2) && xs.all person && asc xs) = true := o
    rw [Bool.and_eq_true, Bool.and_eq_true] at o
    exact r_group (of_decide_eq_true o.1.1) o.1.2 o.2
theorem lc_nm {f : Env → Res D} {g : Nm → Bool} {ns : List Nm} {x : Slot} (hl : ns.length < 64) (h : ∀ n ∈ ns, ∀ x y : Slot, f [x, y, .val n.d] = .ok (.bl (g n))) : lcD (iSeq (eBor 0)) [2] (.nm 2) tYs f [.val (.lst (ns.map Nm.d)), x, .none] = .ok (.lst (ns.map fun n => D.bl (g n))) :=
  lc_map (i := Nm.d) (o := fun n => D.bl (g n)) ns rfl (by omega) fun n hn => ⟨_, rfl, rfl, h n hn _ _⟩
theorem r_names {ns : List Nm} {k : Nat} (A : Of k ns) (h1 : ns ≠ []) (hl : ns.length < 64) : ∃ b, h__are_names [.lst (ns.map Nm.d)] = .ok (.bl b) ∧ (ns.Nodup → b = true) ∧ ∀ m n, ns = m ++ [n] → n ∈ m → b = false := by
  obtain ⟨u, eu, u1, u2⟩ := len_names A h1 hl
  have last : ∀ x : Slot, sAnd (eVar 1) (s2 (Cm.h .eq) (s1 lenSetD (eBor 0)) (sN lenD (aC (eBor 0) aN))) [.val (.lst (ns.map Nm.d)), .val (.bl true), x] = .ok (.bl (decide ((u : Int) = (ns.length : Nat)))) := fun x => by
    refine (sAnd_t rfl).trans ?_
    rw [s2_eq ((s1_eq (d := .lst (ns.map Nm.d)) rfl).trans eu) (sN1 (d := .lst (ns.map Nm.d)) rfl (len_lst _)), eq_ints, List.length_map]
  refine ⟨decide ((u : Int) = (ns.length : Nat)), ?_, fun h => decide_eq_true (by rw [u1 h]), fun m n e hm => decide_eq_false (by have := u2 m n e hm; omega)⟩
  have e1 : ∀ x : Slot, lcD (iSeq (eBor 0)) [2] (.nm 2) tYs (sN h_is_int (aC (eVar 2) aN)) [.val (.lst (ns.map Nm.d)), x, .none] = .ok (.lst (ns.map fun n => D.bl (n.sort == 0))) := fun x => lc_nm hl fun n _ _ _ => sN1 (d := n.d) rfl (int_name n)
  have e2 : ∀ x : Slot, lcD (iSeq (eBor 0)) [2] (.nm 2) tYs (sIs ["str"] (eBor 2)) [.val (.lst (ns.map Nm.d)), x, .none] = .ok (.lst (ns.map fun n => D.bl (n.sort == 1))) := fun x => lc_nm hl fun n _ _ _ => (show (do let x ← eBor 2 _; isiD x ["str"]) = _ from str_name n)
  unfold h__are_names f__are_names
  refine fnD_rt rfl ?_
  show sSeq _ _ [.val (.lst (ns.map Nm.d)), .none, .none] = _
  have z0 : k = 0 ∨ k = 1 ∨ k = 2 := by
    cases ns with
    | nil => exact absurd rfl h1
    | cons n ns => rw [← (A n List.mem_cons_self).1]; cases n <;> simp [Nm.sort]
  rcases z0 with rfl | rfl | rfl
  · rw [sSeq_nx (sSet_nx (sN1 (e1 _) (all_true ns fun n hn => by rw [(A n hn).1]; rfl)))]
    show sSeq _ _ [.val (.lst (ns.map Nm.d)), .val (.bl true), .none] = _
    rw [sSeq_nx (sSet_nx (sOr_t rfl))]
    show sSeq _ _ [.val (.lst (ns.map Nm.d)), .val (.bl true), .none] = _
    rw [sSeq_nx (sSet_nx (sOr_t rfl))]
    exact sRet_rt (last _)
  · rw [sSeq_nx (sSet_nx (sN1 (e1 _) (all_false ns h1 fun n hn => by rw [(A n hn).1]; rfl)))]
    show sSeq _ _ [.val (.lst (ns.map Nm.d)), .val (.bl false), .none] = _
    rw [sSeq_nx (sSet_nx ((sOr_f rfl).trans (sN1 (e2 _) (all_true ns fun n hn => by rw [(A n hn).1]; rfl))))]
    show sSeq _ _ [.val (.lst (ns.map Nm.d)), .val (.bl true), .none] = _
    rw [sSeq_nx (sSet_nx (sOr_t rfl))]
    exact sRet_rt (last _)
  · have e3 : ∀ x : Slot, lcD (iSeq (eBor 0)) [2] (.nm 2) tYs (sN h_is_group (aC (eVar 2) aN)) [.val (.lst (ns.map Nm.d)), x, .none] = .ok (.lst (ns.map fun n => D.bl true)) := fun x => lc_nm (g := fun _ => true) hl fun n hn _ _ => sN1 (d := n.d) rfl (grp_name (A n hn).1 (A n hn).2)
    rw [sSeq_nx (sSet_nx (sN1 (e1 _) (all_false ns h1 fun n hn => by rw [(A n hn).1]; rfl)))]
    show sSeq _ _ [.val (.lst (ns.map Nm.d)), .val (.bl false), .none] = _
    rw [sSeq_nx (sSet_nx ((sOr_f rfl).trans (sN1 (e2 _) (all_false ns h1 fun n hn => by rw [(A n hn).1]; rfl))))]
    show sSeq _ _ [.val (.lst (ns.map Nm.d)), .val (.bl false), .none] = _
    rw [sSeq_nx (sSet_nx ((sOr_f rfl).trans (sN1 (e3 _) (all_true ns fun n hn => rfl))))]
    exact sRet_rt (last _)
end PL
namespace PL
open PySem PySem.Spec L2
/-! N3: claims; sorted by name -/
abbrev Cl := Nm × Wt
def Cl.d (c : Cl) : D := .tup [c.1.d, c.2.d]
theorem cl0 (c : Cl) : ixD (Cl.d c) (.int 0) = .ok c.1.d := rfl
theorem cl1 (c : Cl) : ixD (Cl.d c) (.int 1) = .ok c.2.d := rfl
structure Cls (k : Nat) (cs : List Cl) : Prop where
  n : Of k (cs.map (·.1))
  w : ∀ c ∈ cs, c.2.Ok
  l1 : cs ≠ []
  l2 : cs.length < 64
theorem Cls.nm {k : Nat} {cs : List Cl} (C : Cls k cs) {c : Cl} (h : c ∈ cs) : c.1.sort = k ∧ c.1.ok = true := C.n c.1 (List.mem_map.mpr ⟨c, h, rfl⟩)
theorem Cls.perm {k : Nat} {cs cs' : List Cl} (C : Cls k cs) (p : cs'.Perm cs) : Cls k cs' :=
  ⟨fun n hn => by
    obtain ⟨c, hc, rfl⟩ := List.mem_map.mp hn
    exact C.nm (p.mem_iff.mp hc), fun c hc => C.w c (p.mem_iff.mp hc), fun e => C.l1 (by subst e; exact p.nil_eq.symm), by rw [p.length_eq]; exact C.l2⟩
theorem wt_same (w : Wt) : sameOk 2 w.d = true := by cases w <;> rfl
theorem same_up : ∀ (n : Nat) (d : D), sameOk n d = true → sameOk (n + 1) d = true
  | 0, d, h => by cases d <;> cases h
  | n + 1, d, h => by
    cases d with
    | int x => rfl
    | str x => exact h
    | tup l =>
      have h1 : (l.all (sameOk n) && decide (l.length ≤ 1000000)) = true := h
      obtain ⟨h1, h2⟩ := Bool.and_eq_true_iff.mp h1
      show (l.all (sameOk (n + 1)) && decide (l.length ≤ 1000000)) = true
      rw [h2, Bool.and_true]
      exact List.all_eq_true.mpr fun x hx => same_up n x (List.all_eq_true.mp h1 x hx)
    | _ => cases h
theorem Cls.same {k : Nat} {cs : List Cl} (C : Cls k cs) {c : Cl} (h : c ∈ cs) : sameOk 3 (Cl.d c) = true := by
  have z := Nm.same (C.nm h).2
  have y := wt_same c.2
  show ([c.1.d, c.2.d].all (sameOk 2) && decide ([c.1.d, c.2.d].length ≤ 1000000)) = true
  simp [z, y]
theorem Cls.frz {k : Nat} {cs : List Cl} (C : Cls k cs) : h_frozen [.tup (cs.map Cl.d)] = .ok (.tup (cs.map Cl.d)) := by
  refine frozen_self 4 _ ?_
  show ((cs.map Cl.d).all (sameOk 3) && decide ((cs.map Cl.d).length ≤ 1000000)) = true
  rw [Bool.and_eq_true]
  refine ⟨List.all_eq_true.mpr fun d hd => ?_, decide_eq_true (by rw [List.length_map]; have := C.l2; omega)⟩
  obtain ⟨c, hc, rfl⟩ := List.mem_map.mp hd
  exact C.same hc
theorem r_seqof (c : Cl) : h_is_sequence_of [Cl.d c, .int 2] = .ok (.bl true) := r_seq2 _ _
theorem claim_name {n : Nm} (o : n.ok = true) {f : Env → Res D} {ρ : Env} (e : f ρ = .ok n.d) : sOr (sN h_is_int (aC f aN)) (sOr (sIs ["str"] f) (sN h_is_group (aC f aN))) ρ = .ok (.bl true) := by
  have e1 := sN1 e (int_name n)
  have e2 : sIs ["str"] f ρ = .ok (.bl (n.sort == 1)) := by
    unfold sIs; rw [e]; exact str_name n
  cases n with
  | i x => exact sOr_t e1
  | w x => exact (sOr_f e1).trans (sOr_t e2)
  | g xs => exact (sOr_f e1).trans ((sOr_f e2).trans (sN1 e (grp_name rfl o)))
theorem r_claims {k : Nat} {cs : List Cl} (C : Cls k cs) {d : D} (hd : IsSq d (cs.map Cl.d)) : ∃ b, h_are_claims [d] = .ok (.bl b) ∧ ((cs.map (·.1)).Nodup → someW (cs.map (·.2)) = true → b = true) ∧ ∀ m c, cs = m ++ [c] → c.1 ∈ m.map (·.1) → b = false := by
  have ne : cs.map (·.1) ≠ [] := fun e => C.l1 (List.map_eq_nil_iff.mp e)
  obtain ⟨b, eb, b1, b2⟩ := r_names C.n ne (by rw [List.length_map]; exact C.l2)
  have lc := C.l2
  have pos : 1 ≤ cs.length := by
    cases cs with
    | nil => exact absurd rfl C.l1
    | cons c cs => simp
  have some := r_some (d := .lst ((cs.map (·.2)).map Wt.d)) (.l rfl) (by rw [List.length_map]; omega)
  have ec : chainD (Cm.h (.ord .le)) (Cm.h (.ord .le)) (s0 (.int 1)) (sN lenD (aC (eBor 0) aN)) (s0 (.int (300))) [.val d, .none] = .ok (.bl true) := by
    rw [chain_ii (a := 1) (b := (cs.length : Int)) (c := 300) rfl (sN1 (d := d) rfl (by rw [hd.len, List.length_map])) rfl]
    rw [decide_eq_true (by omega : (1 : Int) ≤ cs.length), decide_eq_true (by omega : (cs.length : Int) ≤ 300)]; rfl
  have ix : ∀ (c : Cl) (j : Int) (z : D), ixD (Cl.d c) (.int j) = .ok z → s2 ixD (eBor 1) (s0 (.int j)) [.val d, .val (Cl.d c)] = .ok z := fun c j z e => (s2_eq (d := Cl.d c) rfl (s0_ok _ _)).trans e
  have q1 : lcD (iSeq (eBor 0)) [1] (.nm 1) tYs (sAnd (sN h_is_sequence_of (aC (eVar 1) (aC (s0 (.int 2)) aN))) (sN h_is_weight (aC (s2 ixD (eBor 1) (s0 (.int 1))) aN))) [.val d, .none] = .ok (.lst (cs.map fun _ => D.bl true)) :=
    lc_map (i := Cl.d) (o := fun _ => D.bl true) cs (hd.bor rfl) (by omega) fun c hc => ⟨_, rfl, rfl, (sAnd_t (sN2 (d := Cl.d c) (d' := .int 2) rfl rfl (r_seqof c))).trans (sN1 (ix c 1 _ (cl1 c)) (r_weight (C.w c hc)))⟩
  have q2 : lcD (iSeq (eBor 0)) [1] (.nm 1) tYs (sOr (sN h_is_int (aC (s2 ixD (eBor 1) (s0 (.int 0))) aN)) (sOr (sIs ["str"] (s2 ixD (eBor 1) (s0 (.int 0)))) (sN h_is_group (aC (s2 ixD (eBor 1) (s0 (.int 0))) aN)))) [.val d, .none] = .ok (.lst (cs.map fun _ => D.bl true)) :=
    lc_map (i := Cl.d) (o := fun _ => D.bl true) cs (hd.bor rfl) (by omega) fun c hc => ⟨_, rfl, rfl, claim_name (C.nm hc).2 (ix c 0 _ (cl0 c))⟩
  have q3 : lcD (iSeq (eBor 0)) [1] (.nm 1) tYs (sN h_frozen (aC (s2 ixD (eBor 1) (s0 (.int 0))) aN)) [.val d, .none] = .ok (.lst (cs.map fun c => c.1.d)) :=
    lc_map (i := Cl.d) (o := fun c => c.1.d) cs (hd.bor rfl) (by omega) fun c hc => ⟨_, rfl, rfl, sN1 (ix c 0 _ (cl0 c)) (frozen_self 4 _ (same_up 3 _ (same_up 2 _ (Nm.same (C.nm hc).2))))⟩
  have q4 : lcD (iSeq (eBor 0)) [1] (.nm 1) tYs (s2 ixD (eBor 1) (s0 (.int 1))) [.val d, .none] = .ok (.lst (cs.map fun c => c.2.d)) :=
    lc_map (i := Cl.d) (o := fun c => c.2.d) cs (hd.bor rfl) (by omega) fun c hc => ⟨_, rfl, rfl, ix c 1 _ (cl1 c)⟩
  have eb' : sN h__are_names (aC (lcD (iSeq (eBor 0)) [1] (.nm 1) tYs (sN h_frozen (aC (s2 ixD (eBor 1) (s0 (.int 0))) aN))) aN) [.val d, .none] = .ok (.bl b) := sN1 q3 (by rw [← eb, List.map_map]; rfl)
  have ew : sN h_is_some_weight (aC (lcD (iSeq (eBor 0)) [1] (.nm 1) tYs (s2 ixD (eBor 1) (s0 (.int 1)))) aN) [.val d, .none] = .ok (.bl (someW (cs.map (·.2)))) := sN1 q4 (by rw [← some, List.map_map]; rfl)
  refine ⟨b && someW (cs.map (·.2)), ?_, fun h1 h2 => by rw [b1 h1, h2]; rfl, fun m c e hm => by
    rw [b2 (m.map (·.1)) c.1 (by rw [e, List.map_append]; rfl) hm]; rfl⟩
  unfold h_are_claims f_are_claims
  refine fnD_rt rfl ?_
  show sSeq _ _ [.val d, .none] = _
  rw [sSeq_nx (sIf_skip ((tOr_f (tNt_ok (tD_bl (sN1 (d := d) rfl hd.sq)))).trans (tNt_ok (tD_bl ec))))]
  rw [sSeq_nx (sIf_skip (tNt_ok (tD_bl (sN1 q1 (all_true cs fun _ _ => rfl)))))]
  rw [sSeq_nx (sIf_skip (tNt_ok (tD_bl (sN1 q2 (all_true cs fun _ _ => rfl)))))]
  refine sRet_rt ?_
  cases b with
  | true => rw [sAnd_t eb', ew]; rfl
  | false => rw [sAnd_f eb']; rfl
/-! ### sorted -/
def sortC (cs : List Cl) : List Cl := cs.mergeSort (PySem.W.dataLe false fun c => c.1.p)
theorem sortC_perm (cs : List Cl) : (sortC cs).Perm cs := List.mergeSort_perm _ _
theorem alike_nm {m n : Nm} (h : m.sort = n.sort) : PySem.W.alike m.p n.p = true := by
  cases m <;> cases n <;> first | (cases h; done) | (simp [Nm.p, PySem.W.alike]; done) | skip
  rename_i xs ys
  have go : ∀ xs ys : List Str, PySem.W.alikeAll (xs.map PyData.str) (ys.map PyData.str) = true := by
    intro xs
    induction xs with
    | nil => intro ys; cases ys <;> simp [PySem.W.alikeAll]
    | cons x xs ih => intro ys; cases ys with
      | nil => simp [PySem.W.alikeAll]
      | cons y ys => simp [PySem.W.alikeAll, PySem.W.alike, ih ys]
  simp [Nm.p, PySem.W.alike, go xs ys]
theorem eqv_nm {m n : Nm} (h : m.sort = n.sort) (e : PyData.eqv m.p n.p = true) : m = n := by
  cases m <;> cases n <;> first | (cases h; done) | (simp [Nm.p, PyData.eqv] at e; rw [e]; done) | skip
  rename_i xs ys
  have go : ∀ xs ys : List Str, PyData.eqvAll (xs.map PyData.str) (ys.map PyData.str) = true → xs = ys := by
    intro xs
    induction xs with
    | nil => intro ys e; cases ys with
      | nil => rfl
      | cons y ys => simp [PyData.eqvAll] at e
    | cons x xs ih => intro ys e; cases ys with
      | nil => simp [PyData.eqvAll] at e
      | cons y ys =>
        simp [PyData.eqvAll, PyData.eqv] at e
        rw [e.1, ih ys e.2]
  simp only [Nm.p, PyData.eqv] at e
  rw [go xs ys e]
theorem sortC_eq {k : Nat} {cs cs' : List Cl} (C : Cls k cs) (nd : (cs.map (·.1)).Nodup) (p : cs'.Perm cs) : sortC cs' = sortC cs := by
  refine (sort_perm _ p.symm fun a ha b hb e => ?_).symm
  have sa := C.nm ha
  have sb := C.nm hb
  have q : a.1 = b.1 := eqv_nm (sa.1.trans sb.1.symm) (eqv_of_toks (alike_nm (sa.1.trans sb.1.symm)) e)
  by_cases z : a = b
  · exact z
  · exfalso
    have nd' : cs.Pairwise fun x y => x.1 ≠ y.1 := List.pairwise_map.mp nd
    have sym : cs.Pairwise fun x y => x.1 ≠ y.1 := nd'
    have key : ∀ (l : List Cl), l.Pairwise (fun x y => x.1 ≠ y.1) → a ∈ l → b ∈ l → False := by
      intro l
      induction l with
      | nil => intro _ h _; cases h
      | cons x l ih =>
        intro pw h1 h2
        obtain ⟨p1, p2⟩ := List.pairwise_cons.mp pw
        rcases List.mem_cons.mp h1 with e1 | e1
        · rcases List.mem_cons.mp h2 with e2 | e2
          · exact z (e1.trans e2.symm)
          · exact p1 b e2 (by rw [← e1]; exact q)
        · rcases List.mem_cons.mp h2 with e2 | e2
          · exact p1 a e1 (by rw [← e2]; exact q.symm)
          · exact ih p2 e1 e2
    exact key cs sym ha hb
theorem srtOk_nm {k : Nat} {cs : List Cl} (C : Cls k cs) : srtOk (cs.map fun c => c.1.p) = true := by
  unfold srtOk
  rw [Bool.and_eq_true, Bool.and_eq_true, Bool.or_eq_true]
  refine ⟨List.all_eq_true.mpr fun p hp => List.all_eq_true.mpr fun q hq => ?_, ?_, List.all_eq_true.mpr fun p hp => ?_⟩
  · obtain ⟨x, hx, rfl⟩ := List.mem_map.mp hp
    obtain ⟨y, hy, rfl⟩ := List.mem_map.mp hq
    exact alike_nm ((C.nm hx).1.trans (C.nm hy).1.symm)
  · have two : k = 2 ∨ k ≠ 2 := by omega
    rcases two with e | e
    · left
      refine List.all_eq_true.mpr fun p hp => ?_
      obtain ⟨x, hx, rfl⟩ := List.mem_map.mp hp
      have z := (C.nm hx).1
      cases hn : x.1 with
      | i n => rw [hn, e] at z; cases z
      | w n => rw [hn, e] at z; cases z
      | g xs =>
        have o : (decide (1 ≤ xs.length ∧ xs.length ≤ 2) && xs.all person && asc xs) = true := by have q := (C.nm hx).2; rw [hn] at q; exact q
        rw [Bool.and_eq_true, Bool.and_eq_true] at o
        rcases oneTwo (of_decide_eq_true o.1.1) with ⟨x, rfl⟩ | ⟨x, y, rfl⟩ <;> rfl
    · right
      refine List.all_eq_true.mpr fun p hp => ?_
      obtain ⟨x, hx, rfl⟩ := List.mem_map.mp hp
      have z := (C.nm hx).1
      cases hn : x.1 with
      | i n => rfl
      | w n => rfl
      | g xs => rw [hn] at z; exact absurd z.symm e
  · obtain ⟨x, hx, rfl⟩ := List.mem_map.mp hp
    refine decide_eq_true ?_
    have all : ∀ xs : List Str, PyData.depthAll (xs.map PyData.str) = 0 := by
      intro xs
      induction xs with
      | nil => rfl
      | cons x xs ih => rw [List.map_cons, PyData.depthAll, ih]; rfl
    cases hn : x.1 with
    | i n => show (PyData.int n).depth ≤ 64; simp [PyData.depth]
    | w n => show (PyData.str n).depth ≤ 64; simp [PyData.depth]
    | g xs => show (PyData.tuple (xs.map PyData.str)).depth ≤ 64; rw [PyData.depth, all]; omega
theorem srt_claims {k : Nat} {cs : List Cl} (C : Cls k cs) {fe : Env → Res D} {ρ : Env} (h : fe ρ = .ok (.lst (cs.map Cl.d))) : sKey 1 [] fe (s2 ixD (eBor 0) (s0 (.int 0))) ρ = .ok (.lst ((sortC cs).map Cl.d)) := by
  have kd : ∀ c : Cl, (fun d => s2 ixD (eBor 0) (s0 (.int 0)) (lamE 1 [] ρ d)) (Cl.d c) = .ok c.1.d := fun c => rfl
  unfold sKey
  rw [h]
  show sortKD (fun d => s2 ixD (eBor 0) (s0 (.int 0)) (lamE 1 [] ρ d)) (.lst (cs.map Cl.d)) = _
  generalize (fun d => s2 ixD (eBor 0) (s0 (.int 0)) (lamE 1 [] ρ d)) = K at kd
  have e1 : ((cs.map Cl.d).all fun d => isOk (K d)) = true := by
    rw [List.all_eq_true]
    intro d hd
    obtain ⟨c, hc, rfl⟩ := List.mem_map.mp hd
    rw [kd c]; rfl
  have e2 : (cs.map Cl.d).map (fun d => okOr (K d)) = (cs.map (·.1)).map Nm.d := by
    rw [List.map_map, List.map_map]
    refine List.map_congr_left fun c _ => ?_
    show okOr (K (Cl.d c)) = _
    rw [kd c]; rfl
  have e3 : (cs.map Cl.d).mergeSort (PySem.W.dataLe false fun d => pyD (okOr (K d))) = (sortC cs).map Cl.d := by
    unfold sortC
    refine (List.map_mergeSort fun x hx y hy => ?_).symm
    rw [PySem.W.dataLe_eq, PySem.W.dataLe_eq]
    show _ = !PySem.W.dataLt (pyD (okOr (K (Cl.d y)))) (pyD (okOr (K (Cl.d x))))
    rw [kd x, kd y]
    have pn : ∀ n : Nm, pyD n.d = n.p := fun n => by unfold pyD; rw [py_name]; rfl
    show _ = !PySem.W.dataLt (pyD y.1.d) (pyD x.1.d)
    rw [pn, pn]
    rfl
  have e4 : (cs.map (·.1)).map Nm.p = cs.map fun c => c.1.p := by rw [List.map_map]; rfl
  unfold sortKD
  simp only [e1, e2, e3, pyL_names, e4, srtOk_nm C, if_true]
end PL
namespace PL
open PySem PySem.Spec L2
/-! N4: shared; the claims turned about -/
theorem part_len (a : Int) (ws : List Int) : (part a ws).length = ws.length := by
  have gl : (gets a ws).length = ws.length := List.length_map _
  have cl : (cuts a ws).length = ws.length := List.length_map _
  have key : ∀ (l : List Nat) (g : List Int), (l.foldl bump g).length = g.length := by
    intro l
    induction l with
    | nil => intro g; rfl
    | cons k l ih => intro g; rw [List.foldl_cons, ih, bump_len]
  unfold part
  rw [key, gl]
theorem wholes_len (ws : List Wt) : (wholes ws).length = ws.length := List.length_map _
def wtsC (cs : List Cl) : List Wt := cs.map (·.2)
/-- what each gets -/
def getsC (a : Int) (cs : List Cl) : List Int := part a (wholes (wtsC (sortC cs)))
theorem getsC_len (a : Int) (cs : List Cl) : (getsC a cs).length = cs.length := by
  unfold getsC wtsC
  rw [part_len, wholes_len, List.length_map, (sortC_perm cs).length_eq]
def dueC (a : Int) (cs : List Cl) : D := .tup ((List.zip (sortC cs) (getsC a cs)).map fun z => .tup [z.1.1.d, .int z.2])
theorem someW_perm {ws ws' : List Wt} (p : ws.Perm ws') : someW ws = someW ws' := by
  unfold someW
  rw [Bool.eq_iff_iff, List.any_eq_true, List.any_eq_true]
  exact ⟨fun ⟨w, h1, h2⟩ => ⟨w, p.mem_iff.mp h1, h2⟩, fun ⟨w, h1, h2⟩ => ⟨w, p.mem_iff.mpr h1, h2⟩⟩
theorem Cls.given {k : Nat} {cs : List Cl} (C : Cls k cs) {a : Int} (a0 : 0 ≤ a) (a1 : a ≤ 10 ^ 12) (hs : someW (wtsC cs) = true) : Given a (wtsC (sortC cs)) := by
  have C' := C.perm (sortC_perm cs)
  refine given_of (fun w hw => ?_) ?_ a0 a1 ?_
  · obtain ⟨c, hc, rfl⟩ := List.mem_map.mp hw
    exact C'.w c hc
  · unfold wtsC; rw [List.length_map]; have := C'.l2; omega
  · rw [← hs]; exact someW_perm (ws := wtsC (sortC cs)) (ws' := wtsC cs) (List.Perm.map (fun c : Cl => c.2) (sortC_perm cs))
theorem zip_maps {α β : Type} (f : α → D) (g : β → D) : ∀ (l : List α) (m : List β), pairDs (l.map f) (m.map g) = (List.zip l m).map fun z => .tup [f z.1, g z.2]
  | [], _ => rfl
  | _ :: _, [] => rfl
  | x :: l, y :: m => by
    show D.tup [f x, g y] :: pairDs (l.map f) (m.map g) = _
    rw [zip_maps f g l m]; rfl
theorem r_shared_by {k : Nat} {cs : List Cl} (C : Cls k cs) {a : Int} (a0 : 0 ≤ a) (a1 : a ≤ 10 ^ 12) (hs : someW (wtsC cs) = true) : h_shared_by [.int a, .tup (cs.map Cl.d)] = .ok (dueC a cs) := by
  have G := C.given a0 a1 hs
  have lc := C.l2
  have sl : (sortC cs).length = cs.length := (sortC_perm cs).length_eq
  unfold h_shared_by f_shared_by
  refine fnD_rt rfl ?_
  show sSeq _ _ [.val (.int a), .val (.tup (cs.map Cl.d)), .none, .none, .none, .none, .none, .none] = _
  have e1 : sN listD (aC (eBor 1) aN) [.val (.int a), .val (.tup (cs.map Cl.d)), .none, .none, .none, .none, .none, .none] = .ok (.lst (cs.map Cl.d)) := rfl
  rw [sSeq_nx (sSet_nx (srt_claims C e1))]
  show sSeq _ _ [.val (.int a), .val (.tup (cs.map Cl.d)), .val (.lst ((sortC cs).map Cl.d)), .none, .none, .none, .none, .none] = _
  have e2 : lcD (iSeq (eBor 2)) [4, 5] (.tp [(.nm 4), (.nm 5)]) tYs (eVar 5) [.val (.int a), .val (.tup (cs.map Cl.d)), .val (.lst ((sortC cs).map Cl.d)), .none, .none, .none, .none, .none] = .ok (.lst ((sortC cs).map fun c => c.2.d)) :=
    lc_map (i := Cl.d) (o := fun c => c.2.d) (sortC cs) rfl (by rw [sl]; omega) fun c hc => ⟨_, rfl, rfl, rfl⟩
  have e3 : h_parted_by [.int a, .lst ((sortC cs).map fun c => c.2.d)] = .ok (.tup ((getsC a cs).map D.int)) :=
    r_parted_by G (d := .lst ((sortC cs).map fun c => c.2.d)) (by unfold wtsC; rw [List.map_map]; rfl) (fun l => nofun)
  rw [sSeq_nx (sSet_nx (sN2 (d := .int a) rfl e2 e3))]
  show sRet _ [.val (.int a), .val (.tup (cs.map Cl.d)), .val (.lst ((sortC cs).map Cl.d)), .val (.tup ((getsC a cs).map D.int)), .none, .none, .none, .none] = _
  have e4 : zipE (aC (eBor 2) (aC (eBor 3) aN)) [.val (.int a), .val (.tup (cs.map Cl.d)), .val (.lst ((sortC cs).map Cl.d)), .val (.tup ((getsC a cs).map D.int)), .none, .none, .none, .none] = .ok ((List.zip (sortC cs) (getsC a cs)).map fun z => .tup [Cl.d z.1, .int z.2]) := by
    show Res.ok (pairDs ((sortC cs).map Cl.d) ((getsC a cs).map D.int)) = _
    rw [zip_maps]
  have e5 : lcD (zipE (aC (eBor 2) (aC (eBor 3) aN))) [6, 7] (.tp [(.nm 6), (.nm 7)]) tYs (sN mkTup (aC (s2 ixD (eBor 6) (s0 (.int 0))) (aC (eVar 7) aN))) [.val (.int a), .val (.tup (cs.map Cl.d)), .val (.lst ((sortC cs).map Cl.d)), .val (.tup ((getsC a cs).map D.int)), .none, .none, .none, .none] = .ok (.lst ((List.zip (sortC cs) (getsC a cs)).map fun z => .tup [z.1.1.d, .int z.2])) :=
    lc_map (i := fun z : Cl × Int => .tup [Cl.d z.1, .int z.2]) (o := fun z : Cl × Int => .tup [z.1.1.d, .int z.2]) (List.zip (sortC cs) (getsC a cs)) e4 (by rw [List.length_zip, sl]; omega) fun z hz => ⟨_, rfl, rfl, rfl⟩
  exact sRet_rt (sN1 e5 rfl)
theorem r_shared {k : Nat} {cs : List Cl} (C : Cls k cs) (nd : (cs.map (·.1)).Nodup) {a : Int} (a0 : 0 ≤ a) (a1 : a ≤ 10 ^ 12) (hs : someW (wtsC cs) = true) : h_shared [.int a, .tup (cs.map Cl.d)] = .ok (dueC a cs) := by
  obtain ⟨b, eb, b1, _⟩ := r_claims C (.t rfl)
  rw [b1 nd hs] at eb
  have e1 : sN h_check (aC (sN h_is_amount (aC (eVar 0) aN)) (aC (s0 (.int 1)) aN)) [.val (.int a), .val (.tup (cs.map Cl.d))] = .ok .non := sN2 (sN1 (d := .int a) rfl (r_amt a0 a1)) (d' := .int 1) rfl (r_check_t _)
  have e2 : sN h_check (aC (sN h_are_claims (aC (eVar 1) aN)) (aC (s0 (.int 2)) aN)) [.val (.int a), .val (.tup (cs.map Cl.d))] = .ok .non := sN2 (sN1 (d := .tup (cs.map Cl.d)) rfl eb) (d' := .int 2) rfl (r_check_t _)
  unfold h_shared f_shared
  refine fnD_rt rfl ?_
  show sSeq _ _ [.val (.int a), .val (.tup (cs.map Cl.d))] = _
  rw [sSeq_nx (sDrop_nx e1), sSeq_nx (sDrop_nx e2)]
  exact sRet_rt (sN2 (d := .int a) rfl (sN1 (d := .tup (cs.map Cl.d)) rfl C.frz) (r_shared_by C a0 a1 hs))
theorem r_refused {k : Nat} {cs m : List Cl} {c : Cl} (C : Cls k cs) (e : cs = m ++ [c]) (hm : c.1 ∈ m.map (·.1)) {a : Int} (a0 : 0 ≤ a) (a1 : a ≤ 10 ^ 12) : h__law_refused [.int a, .lst (cs.map Cl.d), .int 2] = .ok (.bl true) := by
  obtain ⟨b, eb, _, b2⟩ := r_claims C (.l rfl)
  rw [b2 m c e hm] at eb
  have e1 : sN h_check (aC (sN h_is_amount (aC (eVar 0) aN)) (aC (s0 (.int 1)) aN)) [.val (.int a), .val (.lst (cs.map Cl.d))] = .ok .non := sN2 (sN1 (d := .int a) rfl (r_amt a0 a1)) (d' := .int 1) rfl (r_check_t _)
  have e2 : sN h_check (aC (sN h_are_claims (aC (eVar 1) aN)) (aC (s0 (.int 2)) aN)) [.val (.int a), .val (.lst (cs.map Cl.d))] = .exc 0 (.int 2) := sN2 (sN1 (d := .lst (cs.map Cl.d)) rfl eb) (d' := .int 2) rfl (r_check_f _)
  have e3 : h_shared [.int a, .lst (cs.map Cl.d)] = .exc 0 (.int 2) := by
    unfold h_shared f_shared
    refine fnD_xc (ρ := [.val (.int a), .val (.lst (cs.map Cl.d))]) rfl ?_
    show sSeq _ _ [.val (.int a), .val (.lst (cs.map Cl.d))] = _
    rw [sSeq_nx (sDrop_nx e1), sSeq_xc (sDrop_xc e2)]
  have e4 : sDrop (sN h_shared (aC (eVar 0) (aC (eVar 1) aN))) [.val (.int a), .val (.lst (cs.map Cl.d)), .val (.int 2), .none] = .xc 0 (.int 2) [.val (.int a), .val (.lst (cs.map Cl.d)), .val (.int 2), .none] :=
    sDrop_xc (sN2 (d := .int a) (d' := .lst (cs.map Cl.d)) rfl rfl e3)
  unfold h__law_refused f__law_refused
  refine fnD_rt rfl ?_
  show sSeq _ _ [.val (.int a), .val (.lst (cs.map Cl.d)), .val (.int 2), .none] = _
  refine sSeq_rt ?_
  unfold sTryAt sTry
  rw [e4]
  rfl
/-! ### turned about -/
theorem seqIx {k n : Nat} (h : k < n) : seqIndex? (k : Int) n = some k := by
  unfold seqIndex?
  have c : ¬ (k : Int) < 0 := by omega
  simp [c]
  omega
theorem sAppPop_nx {i j : Nat} {fi : Env → Res D} {ρ : Env} {l m : List D} {n : Nat} {d : D} (hij : i ≠ j) (h1 : ρ[i]? = some (.own l)) (h2 : ρ[j]? = some (.own m)) (hf : fi ρ = .ok (.int (n : Nat))) (hd : m[n]? = some d) (hn : n < 1000000) (hl : l.length < 1000000) :
    sAppPop i j fi ρ = .nx ((ρ.set j (.own (m.eraseIdx n))).set i (.own (l ++ [d]))) := by
  have hm : n < m.length := (List.getElem?_eq_some_iff.mp hd).1
  have b1 : -(2 ^ 63) ≤ (n : Int) := by omega
  have b2 : (n : Int) < 2 ^ 63 := by omega
  have b3 : lenOk (l.length + 1) = true := by unfold lenOk; exact decide_eq_true (by omega)
  unfold sAppPop
  rw [sOwnAt_ok h1, sOwnAt_ok h2, sE_ok hf]
  simp only [seqIx hm, hd]
  rw [if_pos ⟨hij, b1, b2, b3⟩]
theorem erase_perm {α : Type} : ∀ (l : List α) (n : Nat) (x : α), l[n]? = some x → (x :: l.eraseIdx n).Perm l
  | [], _, _, h => by cases h
  | y :: l, 0, x, h => by
    cases h
    exact List.Perm.refl _
  | y :: l, n + 1, x, h => (List.Perm.swap y x _).trans ((erase_perm l n x (by simpa using h)).cons y)
theorem map_erase {α β : Type} (f : α → β) : ∀ (l : List α) (n : Nat), (l.map f).eraseIdx n = (l.eraseIdx n).map f
  | [], _ => rfl
  | _ :: _, 0 => rfl
  | x :: l, n + 1 => congrArg (f x :: ·) (map_erase f l n)
theorem turn_loop {cs : List Cl} {number : Int} : ∀ (ks : List Nat) (rest found : List Cl) (t : Slot), rest.length = ks.length → (∀ k ∈ ks, k < 1000) → (found ++ rest).Perm cs → cs.length < 1000 → ∃ out : List Cl, ∃ t', out.Perm cs ∧
    forL (.nm 4) (sAppPop 3 2 (s2 modD (sN intD (aC (s2 fdivD (eBor 1) (s2 addD (eBor 4) (s0 (.int 1)))) aN)) (sN lenD (aC (eBor 2) aN)))) (ks.map fun k => D.int (k : Nat)) [.val (.lst (cs.map Cl.d)), .val (.int number), .own (rest.map Cl.d), .own (found.map Cl.d), t]
      = .nx [.val (.lst (cs.map Cl.d)), .val (.int number), .own [], .own (out.map Cl.d), t']
  | [], rest, found, t, hl, _, p, _ => by
    have z : rest = [] := List.eq_nil_of_length_eq_zero hl
    subst z
    rw [List.append_nil] at p
    exact ⟨found, t, p, rfl⟩
  | k :: ks, rest, found, t, hl, hk, p, lc => by
    have hp := p.length_eq
    rw [List.length_append] at hp
    rw [List.length_cons] at hl
    have k1 := hk k List.mem_cons_self
    have pos : (0 : Int) < (rest.length : Int) := by omega
    have z1 := Int.emod_nonneg (number / ((k : Int) + 1)) (by omega : (rest.length : Int) ≠ 0)
    have z2 := Int.emod_lt_of_pos (number / ((k : Int) + 1)) pos
    obtain ⟨j, hj⟩ := Int.eq_ofNat_of_zero_le z1
    have jl : j < rest.length := by omega
    have ej := List.getElem?_eq_getElem jl
    generalize rest[j] = c at ej
    have e1 : s2 modD (sN intD (aC (s2 fdivD (eBor 1) (s2 addD (eBor 4) (s0 (.int 1)))) aN)) (sN lenD (aC (eBor 2) aN)) [.val (.lst (cs.map Cl.d)), .val (.int number), .own (rest.map Cl.d), .own (found.map Cl.d), .val (.int (k : Int))] = .ok (.int (j : Nat)) := by
      have b1 := (s2_eq (op := addD) (f := eBor 4) (f' := s0 (.int 1)) (ρ := [.val (.lst (cs.map Cl.d)), .val (.int number), .own (rest.map Cl.d), .own (found.map Cl.d), .val (.int (k : Int))]) (d := .int k) (d' := .int 1) rfl rfl).trans (add_ii _ _)
      have b2 := (s2_eq (op := fdivD) (f := eBor 1) (d := .int number) rfl b1).trans (fdiv_ii (by omega) (log_of (by omega) (by omega)))
      have b3 : sN lenD (aC (eBor 2) aN) [.val (.lst (cs.map Cl.d)), .val (.int number), .own (rest.map Cl.d), .own (found.map Cl.d), .val (.int (k : Int))] = .ok (.int (rest.length : Nat)) := by
        refine sN1 (d := .lst (rest.map Cl.d)) rfl ?_
        rw [len_lst, List.length_map]
      rw [s2_eq (sN1 b2 (int_i _)) b3, mod_ii pos, hj]
    have e2 : (rest.map Cl.d)[j]? = some (Cl.d c) := by rw [List.getElem?_map, ej]; rfl
    have step := sAppPop_nx (i := 3) (j := 2) (ρ := [.val (.lst (cs.map Cl.d)), .val (.int number), .own (rest.map Cl.d), .own (found.map Cl.d), .val (.int (k : Int))]) (by decide) rfl rfl e1 e2 (by omega) (by rw [List.length_map]; omega)
    have q : ((found ++ [c]) ++ rest.eraseIdx j).Perm cs := by
      rw [List.append_assoc]
      exact ((erase_perm rest j c ej).append_left found).trans p
    have rl : (rest.eraseIdx j).length = ks.length := by
      rw [List.length_eraseIdx, if_pos jl]; omega
    obtain ⟨out, t', p', e'⟩ := turn_loop (number := number) ks (rest.eraseIdx j) (found ++ [c]) (.val (.int (k : Int))) rl (fun i hi => hk i (List.mem_cons_of_mem _ hi)) q lc
    refine ⟨out, t', p', ?_⟩
    rw [List.map_cons]
    refine (forL_cons rfl step).trans ?_
    rw [← e', map_erase, List.map_append]
    rfl
theorem r_turned {cs : List Cl} (lc : cs.length < 1000) (number : Int) : ∃ out : List Cl, out.Perm cs ∧ h__law_turned [.lst (cs.map Cl.d), .int number] = .ok (.lst (out.map Cl.d)) := by
  obtain ⟨out, t', p, e⟩ := turn_loop (number := number) (List.range cs.length) cs [] .none (by simp) (fun k hk => by have := List.mem_range.mp hk; omega) (by simp) lc
  refine ⟨out, p, ?_⟩
  unfold h__law_turned f__law_turned
  refine fnD_rt rfl ?_
  show sSeq _ _ [.val (.lst (cs.map Cl.d)), .val (.int number), .none, .none, .none] = _
  rw [sSeq_nx (sOwn_nx (l := cs.map Cl.d) rfl)]
  show sSeq _ _ [.val (.lst (cs.map Cl.d)), .val (.int number), .own (cs.map Cl.d), .none, .none] = _
  rw [sSeq_nx (sOwn_nx (l := []) rfl)]
  show sSeq _ _ [.val (.lst (cs.map Cl.d)), .val (.int number), .own (cs.map Cl.d), .own (([] : List Cl).map Cl.d), .none] = _
  have ei : rng1 (sN lenD (aC (eBor 0) aN)) [.val (.lst (cs.map Cl.d)), .val (.int number), .own (cs.map Cl.d), .own (([] : List Cl).map Cl.d), .none] = .ok ((List.range cs.length).map fun k => D.int (k : Nat)) := by
    refine rng1_eq ?_ (by omega)
    refine sN1 (d := .lst (cs.map Cl.d)) rfl ?_
    rw [len_lst, List.length_map]
  rw [sSeq_nx ((sFor_of ei).trans e)]
  rfl
end PL
namespace PL
open PySem PySem.Spec L2
/-! N5: the law's names -/
/-- b letters a, then the letter k -/
def word (a b k : Nat) : Str := ⟨(List.replicate b (97 + a) ++ [97 + k]).toArray⟩
theorem let_at {k : Nat} (h : k < 26) : ixD (.str LET) (.int (k : Int)) = .ok (.str ⟨#[97 + k]⟩) := by
  have e : LET.cps.toList = (List.range 26).map (97 + ·) := by decide +kernel
  have e2 : LET.cps.toList[k]? = some (97 + k) := by
    rw [e, List.getElem?_map, List.getElem?_range h]; rfl
  show (if lenOk LET.length = true then (match atI LET.cps.toList (k : Int) with | some c => Res.ok (D.str ⟨#[c]⟩) | none => .bad) else .bad) = _
  rw [if_pos (by decide +kernel), atI_nat e2]
theorem rep_letter (c : Nat) {b : Nat} (h : b < 3) : repS (.str ⟨#[c]⟩) (.int (b : Int)) = .ok (.str ⟨(List.replicate b c).toArray⟩) := by
  have three : b = 0 ∨ b = 1 ∨ b = 2 := by omega
  rcases three with rfl | rfl | rfl <;> rfl
theorem word_eq {a b k : Nat} (hb : b < 3) : addD (.str ⟨(List.replicate b (97 + a)).toArray⟩) (.str ⟨#[97 + k]⟩) = .ok (.str (word a b k)) := by
  have three : b = 0 ∨ b = 1 ∨ b = 2 := by omega
  rcases three with rfl | rfl | rfl <;> rfl
theorem word_len {a b k : Nat} : (word a b k).cps.toList.length = b + 1 := by unfold word; simp
theorem word_let {a b k : Nat} (ha : a < 3) (hk : k < 9) : ∀ c ∈ (word a b k).cps.toList, 97 ≤ c ∧ c ≤ 105 := by
  intro c hc
  unfold word at hc
  rcases List.mem_append.mp (show c ∈ List.replicate b (97 + a) ++ [97 + k] from by simpa using hc) with z | z
  · rw [(List.mem_replicate.mp z).2]; omega
  · rw [List.mem_singleton.mp z]; omega
theorem word_inj {a b k a' b' k' : Nat} (h : word a b k = word a' b' k') : k = k' := by
  have e : (List.replicate b (97 + a) ++ [97 + k]) = (List.replicate b' (97 + a') ++ [97 + k']) := by
    have z := congrArg (fun x : Str => x.cps.toList) h
    simpa [word] using z
  have l := congrArg List.getLast? e
  simp at l
  exact l
theorem word_person {a b k : Nat} (ha : a < 3) (hb : b < 3) (hk : k < 9) : person (word a b k) = true := by
  unfold person
  rw [word_len, Bool.and_eq_true]
  exact ⟨decide_eq_true (by omega), List.all_eq_true.mpr fun c hc => decide_eq_true (by have := word_let ha hk c hc; omega)⟩
/-- its reverse, cut, behind a z -/
def more (a b k m : Nat) : Str := ⟨(122 :: ((word a b k).cps.toList.reverse.take m)).toArray⟩
def wrev (a b k : Nat) : Str := ⟨((97 + k) :: List.replicate b (97 + a)).toArray⟩
theorem rev_of {z w : Str} {is : List Nat} (e : Builtin.Str.strSliceIndices none none (-1) z.length = is) (e2 : (is.filterMap (z.cps[·]?)).toArray = w.cps) (h : w.length ≤ 1000) : revD (.str z) = .ok (.str w) := by
  have r : revT z = w := by
    unfold revT
    rw [e, e2]
  show (if lenOk (revT z).length = true then Res.ok (D.str (revT z)) else .bad) = _
  rw [r, if_pos (by unfold lenOk; exact decide_eq_true (by omega))]
theorem rev_eq {a b k : Nat} (hb : b < 3) : revD (.str (word a b k)) = .ok (.str (wrev a b k)) := by
  have i1 : Builtin.Str.strSliceIndices none none (-1) 1 = [0] := by decide +kernel
  have i2 : Builtin.Str.strSliceIndices none none (-1) 2 = [1, 0] := by decide +kernel
  have i3 : Builtin.Str.strSliceIndices none none (-1) 3 = [2, 1, 0] := by decide +kernel
  have three : b = 0 ∨ b = 1 ∨ b = 2 := by omega
  rcases three with rfl | rfl | rfl
  · exact rev_of (is := [0]) i1 rfl (by show 1 ≤ 1000; omega)
  · exact rev_of (is := [1, 0]) i2 rfl (by show 2 ≤ 1000; omega)
  · exact rev_of (is := [2, 1, 0]) i3 rfl (by show 3 ≤ 1000; omega)
theorem more_eq' {a b k m : Nat} (hb : b < 3) (hm : m = 1 ∨ m = 2) : slT (.str (wrev a b k)) none (some ((m : Nat) : Int)) = .ok (.str ⟨((wrev a b k).cps.toList.take m).toArray⟩) := by
  have three : b = 0 ∨ b = 1 ∨ b = 2 := by omega
  rcases three with rfl | rfl | rfl <;> rcases hm with rfl | rfl <;> rfl
theorem more_add {a b k m : Nat} (hb : b < 3) (hm : m = 1 ∨ m = 2) : addD (.str "z") (.str ⟨((wrev a b k).cps.toList.take m).toArray⟩) = .ok (.str (more a b k m)) := by
  have three : b = 0 ∨ b = 1 ∨ b = 2 := by omega
  rcases three with rfl | rfl | rfl <;> rcases hm with rfl | rfl <;> rfl
theorem more_person {a b k m : Nat} (ha : a < 3) (hk : k < 9) (hm : m = 1 ∨ m = 2) : person (more a b k m) = true := by
  unfold person more
  rw [Bool.and_eq_true]
  refine ⟨decide_eq_true ?_, List.all_eq_true.mpr fun c hc => decide_eq_true ?_⟩
  · show 1 ≤ ((122 :: ((word a b k).cps.toList.reverse.take m)).length) ∧ (122 :: ((word a b k).cps.toList.reverse.take m)).length ≤ 8
    rw [List.length_cons, List.length_take]; omega
  · have hc : c ∈ 122 :: ((word a b k).cps.toList.reverse.take m) := by simpa using hc
    rcases List.mem_cons.mp hc with z | z
    · omega
    · have := word_let ha hk c (List.mem_reverse.mp (List.mem_of_mem_take z)); omega
theorem word_lt {a b k m : Nat} (ha : a < 3) (hk : k < 9) : (word a b k).cps.toList < (more a b k m).cps.toList := by
  have l := @word_len a b k
  have z := @word_let a b k ha hk
  show _ < 122 :: ((word a b k).cps.toList.reverse.take m)
  cases h : (word a b k).cps.toList with
  | nil => rw [h] at l; simp at l
  | cons c cs =>
    have c1 := z c (by rw [h]; exact List.mem_cons_self)
    exact List.Lex.rel (by omega)
theorem two_sorted {x y : Str} (hx : PyData.strOk x = true) (hy : PyData.strOk y = true) (h : x.cps.toList < y.cps.toList) : sortedD [.lst [.str x, .str y]] = .ok (.lst [.str x, .str y]) := by
  have e : [D.str x, D.str y].mergeSort leD = [D.str x, D.str y] := by
    refine List.mergeSort_of_pairwise ?_
    refine List.pairwise_cons.mpr ⟨fun d hd => ?_, List.pairwise_singleton _ _⟩
    rw [List.mem_singleton.mp hd]
    show (!PySem.W.dataLt (.str y) (.str x)) = true
    rw [PySem.W.dataLt_str, decide_eq_false (List.lt_asymm h)]; rfl
  have e2 : pyL [D.str x, D.str y] = some [.str x, .str y] := by
    rw [pyL_cons, pyL_cons]; rfl
  have e3 : srtOk [PyData.str x, PyData.str y] = true := by
    simp [srtOk, PySem.W.alike, otherB, tupB, PyData.depth]
  unfold sortedD sortL
  simp only [e2, e3, e]
  rfl
end PL
namespace PL
open PySem PySem.Spec L2
/-! N6: _law_names -/
def nuA (l : List Int) (k : Nat) : Nat := (l.getD k 0 % 3).toNat
def nuB (l : List Int) (k : Nat) : Nat := (l.getD k 0 / 26 % 3).toNat
def wd (l : List Int) (k : Nat) : Str := word (nuA l k) (nuB l k) k
theorem nuA_lt (l : List Int) (k : Nat) : nuA l k < 3 := by unfold nuA; omega
theorem nuB_lt (l : List Int) (k : Nat) : nuB l k < 3 := by unfold nuB; omega
def nuM (l : List Int) : Nat := (l.getD 10 0 % 2 + 1).toNat
theorem nuM_or (l : List Int) : nuM l = 1 ∨ nuM l = 2 := by unfold nuM; omega
theorem ix_at2 {l : List Int} {k : Nat} (hk : k < l.length) {f f' : Env → Res D} {ρ : Env} (h : f ρ = .ok (.lst (l.map D.int))) (h' : f' ρ = .ok (.int (k : Int))) : s2 ixD f f' ρ = .ok (.int (l.getD k 0)) := (s2_eq h h').trans (ix_nat hk)
def WB : Env → SO := (sSeq (sSet 5 (s2 addD (s2 repS (s2 ixD (eBor 2) (s2 modD (sN intD (aC (s2 ixD (eBor 0) (eBor 4)) aN)) (s0 (.int 3)))) (s2 modD (sN intD (aC (s2 fdivD (s2 ixD (eBor 0) (eBor 4)) (s0 (.int 26))) aN)) (s0 (.int 3)))) (s2 ixD (eBor 2) (eBor 4))))
  (sApp 3 (eVar 5)))
theorem word_step {l : List Int} (hl : l.length = 30) {k : Nat} (hk : k < 9) {m : Int} {ws : List Str} (hw : ws.length < 1000) {t5 : Slot} :
    WB [.val (.lst (l.map D.int)), .val (.int m), .val (.str LET), .own (ws.map D.str), .val (.int (k : Int)), t5, .none, .none, .none, .none]
      = .nx [.val (.lst (l.map D.int)), .val (.int m), .val (.str LET), .own ((ws ++ [wd l k]).map D.str), .val (.int (k : Int)), .val (.str (wd l k)), .none, .none, .none, .none] := by
  have ex : ∀ ρ : Env, ρ[0]? = some (.val (.lst (l.map D.int))) → ρ[4]? = some (.val (.int (k : Int))) → s2 ixD (eBor 0) (eBor 4) ρ = .ok (.int (l.getD k 0)) := fun ρ h0 h4 => ix_at2 (by omega) (bor_ok h0) (bor_ok h4)
  have ea : (l.getD k 0) % 3 = ((nuA l k : Nat) : Int) := by unfold nuA; omega
  have eb : (l.getD k 0) / 26 % 3 = ((nuB l k : Nat) : Int) := by unfold nuB; omega
  have e0 := ex [.val (.lst (l.map D.int)), .val (.int m), .val (.str LET), .own (ws.map D.str), .val (.int (k : Int)), t5, .none, .none, .none, .none] rfl rfl
  have e1 := (s2_eq (op := modD) (sN1 e0 (int_i _)) (s0_ok (.int 3) _)).trans (mod_ii (by decide))
  rw [ea] at e1
  have e2 := (s2_eq (op := modD) (sN1 ((s2_eq (op := fdivD) e0 (s0_ok (.int 26) _)).trans (fdiv_ii (by decide) (by decide))) (int_i _)) (s0_ok (.int 3) _)).trans (mod_ii (by decide))
  rw [eb] at e2
  have e3 := (s2_eq (op := ixD) (f := eBor 2) (d := .str LET) rfl e1).trans (let_at (by have := nuA_lt l k; omega))
  have e4 := (s2_eq (op := repS) e3 e2).trans (rep_letter _ (nuB_lt l k))
  have e5 := (s2_eq (op := ixD) (f := eBor 2) (f' := eBor 4) (ρ := [.val (.lst (l.map D.int)), .val (.int m), .val (.str LET), .own (ws.map D.str), .val (.int (k : Int)), t5, .none, .none, .none, .none]) (d := .str LET) (d' := .int (k : Int)) rfl rfl).trans (let_at (by omega))
  have e6 := (s2_eq (op := addD) e4 e5).trans (word_eq (nuB_lt l k))
  unfold WB
  refine (sSeq_nx (sSet_nx e6)).trans ?_
  refine (sApp_nx (l := ws.map D.str) (d := .str (wd l k)) rfl rfl (by rw [List.length_map]; omega)).trans ?_
  rw [List.map_append]
  rfl
theorem word_loop {l : List Int} (hl : l.length = 30) {m : Int} : ∀ (n s : Nat) (ws : List Str) (t4 t5 : Slot), s + n ≤ 9 → ws.length = s → ∃ t4' t5',
    forL (.nm 4) WB ((List.range' s n).map fun k => D.int (k : Nat)) [.val (.lst (l.map D.int)), .val (.int m), .val (.str LET), .own (ws.map D.str), t4, t5, .none, .none, .none, .none]
      = .nx [.val (.lst (l.map D.int)), .val (.int m), .val (.str LET), .own ((ws ++ (List.range' s n).map (wd l)).map D.str), t4', t5', .none, .none, .none, .none]
  | 0, s, ws, t4, t5, _, _ => ⟨t4, t5, by rw [List.range'_zero, List.map_nil, List.map_nil, List.append_nil]; rfl⟩
  | n + 1, s, ws, t4, t5, h, hw => by
    obtain ⟨t4', t5', e⟩ := word_loop hl (m := m) n (s + 1) (ws ++ [wd l s]) (.val (.int (s : Int))) (.val (.str (wd l s))) (by omega) (by rw [List.length_append, hw]; rfl)
    refine ⟨t4', t5', ?_⟩
    rw [List.range'_succ, List.map_cons]
    refine (forL_cons rfl (word_step hl (by omega) (by omega))).trans ?_
    refine e.trans ?_
    rw [List.map_cons, List.append_assoc]
    rfl
def grp (l : List Int) (k : Nat) : List Str := if l.getD 10 0 / ((k + 1 : Nat) : Int) % 2 = 0 then [wd l k] else [wd l k, more (nuA l k) (nuB l k) k (nuM l)]
def GB : Env → SO := (sSeq (sSet 8 (s1 revD (eVar 5)))
  (sSeq (sSet 9 (s2 addD (s0 (.str "z")) (sSl slT (eBor 8) oN (oS (s2 addD (s2 modD (sN intD (aC (s2 ixD (eBor 0) (s0 (.int 10))) aN)) (s0 (.int 2))) (s0 (.int 1)))))))
  (sApp 7 (sIte (tD (s2 (Cm.h .eq) (s2 modD (sN intD (aC (s2 fdivD (s2 ixD (eBor 0) (s0 (.int 10))) (sN lenD (aC (s2 catD (eBor 7) (sN mkLst (aC (s0 (.int 0)) aN))) aN))) aN)) (s0 (.int 2))) (s0 (.int 0)))) (sN mkTup (aC (eVar 5) aN)) (sN tupleD (aC (sN sortedD (aC (sN mkLst (aC (eVar 5) (aC (eVar 9) aN))) aN)) aN))))))
theorem grp_step {l : List Int} (hl : l.length = 30) {k : Nat} (hk : k < 9) {m : Int} {W : D} {gs : List (List Str)} (hg : gs.length = k) {t4 t6 t8 t9 : Slot} : ∃ t8' t9',
    GB [.val (.lst (l.map D.int)), .val (.int m), .val (.str LET), .val W, t4, .val (.str (wd l k)), t6, .own (gs.map fun g => D.tup (g.map D.str)), t8, t9]
      = .nx [.val (.lst (l.map D.int)), .val (.int m), .val (.str LET), .val W, t4, .val (.str (wd l k)), t6, .own ((gs ++ [grp l k]).map fun g => D.tup (g.map D.str)), t8', t9'] := by
  have hb := nuB_lt l k
  have ha := nuA_lt l k
  have hm := nuM_or l
  refine ⟨.val (.str (wrev (nuA l k) (nuB l k) k)), .val (.str (more (nuA l k) (nuB l k) k (nuM l))), ?_⟩
  have ten : ∀ ρ : Env, ρ[0]? = some (.val (.lst (l.map D.int))) → s2 ixD (eBor 0) (s0 (.int 10)) ρ = .ok (.int (l.getD 10 0)) := fun ρ h0 => ix_at2 (k := 10) (by omega) (bor_ok h0) rfl
  have em : l.getD 10 0 % 2 + 1 = ((nuM l : Nat) : Int) := by unfold nuM; omega
  have e1 : s1 revD (eVar 5) [.val (.lst (l.map D.int)), .val (.int m), .val (.str LET), .val W, t4, .val (.str (wd l k)), t6, .own (gs.map fun g => D.tup (g.map D.str)), t8, t9] = .ok (.str (wrev (nuA l k) (nuB l k) k)) := (s1_eq (d := .str (wd l k)) rfl).trans (rev_eq hb)
  unfold GB
  refine (sSeq_nx (sSet_nx e1)).trans ?_
  show sSeq _ _ [.val (.lst (l.map D.int)), .val (.int m), .val (.str LET), .val W, t4, .val (.str (wd l k)), t6, .own (gs.map fun g => D.tup (g.map D.str)), .val (.str (wrev (nuA l k) (nuB l k) k)), t9] = _
  have e2 : s2 addD (s0 (.str "z")) (sSl slT (eBor 8) oN (oS (s2 addD (s2 modD (sN intD (aC (s2 ixD (eBor 0) (s0 (.int 10))) aN)) (s0 (.int 2))) (s0 (.int 1))))) [.val (.lst (l.map D.int)), .val (.int m), .val (.str LET), .val W, t4, .val (.str (wd l k)), t6, .own (gs.map fun g => D.tup (g.map D.str)), .val (.str (wrev (nuA l k) (nuB l k) k)), t9] = .ok (.str (more (nuA l k) (nuB l k) k (nuM l))) := by
    have b1 := (s2_eq (op := addD) ((s2_eq (op := modD) (sN1 (ten [.val (.lst (l.map D.int)), .val (.int m), .val (.str LET), .val W, t4, .val (.str (wd l k)), t6, .own (gs.map fun g => D.tup (g.map D.str)), .val (.str (wrev (nuA l k) (nuB l k) k)), t9] rfl) (int_i _)) (s0_ok (.int 2) _)).trans (mod_ii (by decide))) (s0_ok (.int 1) _)).trans (add_ii _ _)
    rw [em] at b1
    have b2 : sSl slT (eBor 8) oN (oS (s2 addD (s2 modD (sN intD (aC (s2 ixD (eBor 0) (s0 (.int 10))) aN)) (s0 (.int 2))) (s0 (.int 1)))) [.val (.lst (l.map D.int)), .val (.int m), .val (.str LET), .val W, t4, .val (.str (wd l k)), t6, .own (gs.map fun g => D.tup (g.map D.str)), .val (.str (wrev (nuA l k) (nuB l k) k)), t9] = slT (.str (wrev (nuA l k) (nuB l k) k)) none (some ((nuM l : Nat) : Int)) := by
      unfold sSl oS
      rw [b1]
      rfl
    exact (s2_eq (op := addD) (s0_ok (.str "z") _) (b2.trans (more_eq' hb hm))).trans (more_add hb hm)
  refine (sSeq_nx (sSet_nx e2)).trans ?_
  show sApp 7 _ [.val (.lst (l.map D.int)), .val (.int m), .val (.str LET), .val W, t4, .val (.str (wd l k)), t6, .own (gs.map fun g => D.tup (g.map D.str)), .val (.str (wrev (nuA l k) (nuB l k) k)), .val (.str (more (nuA l k) (nuB l k) k (nuM l)))] = _
  have el : sN lenD (aC (s2 catD (eBor 7) (sN mkLst (aC (s0 (.int 0)) aN))) aN) [.val (.lst (l.map D.int)), .val (.int m), .val (.str LET), .val W, t4, .val (.str (wd l k)), t6, .own (gs.map fun g => D.tup (g.map D.str)), .val (.str (wrev (nuA l k) (nuB l k) k)), .val (.str (more (nuA l k) (nuB l k) k (nuM l)))] = .ok (.int ((k + 1 : Nat) : Int)) := by
    have c : s2 catD (eBor 7) (sN mkLst (aC (s0 (.int 0)) aN)) [.val (.lst (l.map D.int)), .val (.int m), .val (.str LET), .val W, t4, .val (.str (wd l k)), t6, .own (gs.map fun g => D.tup (g.map D.str)), .val (.str (wrev (nuA l k) (nuB l k) k)), .val (.str (more (nuA l k) (nuB l k) k (nuM l)))] = .ok (.lst ((gs.map fun g => D.tup (g.map D.str)) ++ [.int 0])) := by
      rw [s2_eq (d := .lst (gs.map fun g => D.tup (g.map D.str))) (d' := .lst [.int 0]) rfl rfl]
      show (if lenOk ((gs.map fun g => D.tup (g.map D.str)).length + 1) = true then Res.ok (D.lst ((gs.map fun g => D.tup (g.map D.str)) ++ [.int 0])) else .bad) = _
      rw [if_pos (by unfold lenOk; rw [List.length_map]; exact decide_eq_true (by omega))]
    refine sN1 c ?_
    rw [len_lst, List.length_append, List.length_map, hg]
    rfl
  have ec := (s2_eq (op := Cm.h .eq) ((s2_eq (op := modD) (sN1 ((s2_eq (op := fdivD) (ten _ rfl) el).trans (fdiv_ii (by omega) (log_of (by omega) (by omega)))) (int_i _)) (s0_ok (.int 2) _)).trans (mod_ii (by decide))) (s0_ok (.int 0) _)).trans (eq_ints _ _)
  have lw : (gs.map fun g => D.tup (g.map D.str)).length < 16777216 := by rw [List.length_map]; omega
  by_cases h : l.getD 10 0 / ((k + 1 : Nat) : Int) % 2 = 0
  · rw [decide_eq_true h] at ec
    refine (sApp_nx (d := .tup [.str (wd l k)]) rfl ((sIte_t (tD_bl ec)).trans rfl) lw).trans ?_
    unfold grp
    rw [if_pos h, List.map_append]
    rfl
  · rw [decide_eq_false h] at ec
    have ps : sortedD [.lst [.str (wd l k), .str (more (nuA l k) (nuB l k) k (nuM l))]] = .ok (.lst [.str (wd l k), .str (more (nuA l k) (nuB l k) k (nuM l))]) := two_sorted (person_ok (word_person ha hb hk)) (person_ok (more_person ha hk hm)) (word_lt ha hk)
    refine (sApp_nx (d := .tup [.str (wd l k), .str (more (nuA l k) (nuB l k) k (nuM l))]) rfl ((sIte_f (tD_bl ec)).trans (sN1 (sN1 (d := .lst [.str (wd l k), .str (more (nuA l k) (nuB l k) k (nuM l))]) rfl ps) rfl)) lw).trans ?_
    unfold grp
    rw [if_neg h, List.map_append]
    rfl
theorem grp_loop {l : List Int} (hl : l.length = 30) {m : Int} {W : D} {t4 t6 : Slot} : ∀ (n s : Nat) (gs : List (List Str)) (t5 t8 t9 : Slot), s + n ≤ 9 → gs.length = s → ∃ t5' t8' t9',
    forL (.nm 5) GB ((List.range' s n).map fun k => D.str (wd l k)) [.val (.lst (l.map D.int)), .val (.int m), .val (.str LET), .val W, t4, t5, t6, .own (gs.map fun g => D.tup (g.map D.str)), t8, t9]
      = .nx [.val (.lst (l.map D.int)), .val (.int m), .val (.str LET), .val W, t4, t5', t6, .own ((gs ++ (List.range' s n).map (grp l)).map fun g => D.tup (g.map D.str)), t8', t9']
  | 0, s, gs, t5, t8, t9, _, _ => ⟨t5, t8, t9, by rw [List.range'_zero, List.map_nil, List.map_nil, List.append_nil]; rfl⟩
  | n + 1, s, gs, t5, t8, t9, h, hw => by
    obtain ⟨u8, u9, e1⟩ := grp_step hl (k := s) (by omega) (m := m) (W := W) (t4 := t4) (t6 := t6) (t8 := t8) (t9 := t9) hw
    obtain ⟨t5', t8', t9', e⟩ := grp_loop hl (m := m) (W := W) (t4 := t4) (t6 := t6) n (s + 1) (gs ++ [grp l s]) (.val (.str (wd l s))) u8 u9 (by omega) (by rw [List.length_append, hw]; rfl)
    refine ⟨t5', t8', t9', ?_⟩
    rw [List.range'_succ, List.map_cons]
    refine (forL_cons rfl e1).trans ?_
    refine e.trans ?_
    rw [List.map_cons, List.append_assoc]
    rfl
end PL
namespace PL
open PySem PySem.Spec L2
/-! N7: _law_names gives good, unlike names of one sort -/
theorem grp_ok {l : List Int} {k : Nat} (hk : k < 9) : (Nm.g (grp l k)).ok = true := by
  have hb := nuB_lt l k
  have ha := nuA_lt l k
  have p1 : person (wd l k) = true := word_person ha hb hk
  have p2 : person (more (nuA l k) (nuB l k) k (nuM l)) = true := more_person ha hk (nuM_or l)
  show (decide (1 ≤ (grp l k).length ∧ (grp l k).length ≤ 2) && (grp l k).all person && asc (grp l k)) = true
  unfold grp
  split
  · simp [p1, asc]
  · have z : (wd l k).cps.toList < (more (nuA l k) (nuB l k) k (nuM l)).cps.toList := word_lt ha hk
    have y : asc [wd l k, more (nuA l k) (nuB l k) k (nuM l)] = true := by
      show (decide _ && true) = true
      rw [decide_eq_true z]; rfl
    rw [y]
    simp [p1, p2]
theorem grp_head (l : List Int) (k : Nat) : (grp l k).head? = some (wd l k) := by
  unfold grp
  split <;> rfl
theorem nodup_map {α β : Type} {f : α → β} {l : List α} (h : l.Nodup) (inj : ∀ a ∈ l, ∀ b ∈ l, f a = f b → a = b) : (l.map f).Nodup := by
  unfold List.Nodup
  rw [List.pairwise_map]
  exact List.Pairwise.imp_of_mem (fun {a b} ha hb hne z => hne (inj a ha b hb z)) h
theorem r_law_names {l : List Int} (hl : l.length = 30) {m : Nat} (h1 : 1 ≤ m) (h9 : m ≤ 9) : ∃ k ns, Of k ns ∧ ns.Nodup ∧ ns.length = m ∧ h__law_names [.lst (l.map D.int), .int (m : Int)] = .ok (.lst (ns.map Nm.d)) := by
  have rg : List.range m = List.range' 0 m := List.range_eq_range'
  have lt9 : ∀ k ∈ List.range m, k < 9 := fun k hk => by have := List.mem_range.mp hk; omega
  obtain ⟨t4, t5, el⟩ := word_loop hl (m := m) m 0 [] .none .none (by omega) rfl
  rw [← rg] at el
  rw [List.nil_append] at el
  -- the part up to the sort
  have nine : ∀ ρ : Env, ρ[0]? = some (.val (.lst (l.map D.int))) → s2 modD (sN intD (aC (s2 ixD (eBor 0) (s0 (.int 9))) aN)) (s0 (.int 3)) ρ = .ok (.int (l.getD 9 0 % 3)) := fun ρ h0 =>
    (s2_eq (op := modD) (sN1 (ix_at2 (k := 9) (by omega) (bor_ok h0) rfl) (int_i _)) (s0_ok (.int 3) _)).trans (mod_ii (by decide))
  generalize hs : l.getD 9 0 % 3 = sort at nine
  have pre : ∀ (res : D), (sSeq (sIf (tD (s2 (Cm.h .eq) (eBor 6) (s0 (.int 0)))) (sRet (lcD (rng1 (eBor 1)) [4] (.nm 4) tYs (s2 subD (s2 addD (s2 mulD (s2 modD (sN intD (aC (s2 ixD (eBor 0) (eBor 4)) aN)) (s0 (.int 1000))) (s0 (.int 10))) (eBor 4)) (s0 (.int 300))))) sNx)
      (sSeq (sIf (tD (s2 (Cm.h .eq) (eBor 6) (s0 (.int 1)))) (sFrz 3 (sRet (eVar 3))) sNx)
      (sSeq (sOwn 7 (sN mkLst aN))
      (sSeq (sFrz 3 (sFor (.nm 5) (iSeq (eVar 3)) GB))
      (sFrz 7 (sRet (sIte (tD (s2 (Cm.h .eq) (s1 lenSetD (eBor 7)) (sN lenD (aC (eBor 7) aN)))) (eVar 7) (lcD (iSeq (eBor 3)) [5] (.nm 5) tYs (sN mkTup (aC (eVar 5) aN)))))))))) 
        [.val (.lst (l.map D.int)), .val (.int (m : Int)), .val (.str LET), .own (((List.range m).map (wd l)).map D.str), t4, t5, .val (.int sort), .none, .none, .none] = .rt res → h__law_names [.lst (l.map D.int), .int (m : Int)] = .ok res := fun res hr => by
    unfold h__law_names f__law_names
    refine fnD_rt rfl ?_
    show sSeq _ _ [.val (.lst (l.map D.int)), .val (.int (m : Int)), .none, .none, .none, .none, .none, .none, .none, .none] = _
    rw [sSeq_nx (sSet_nx (d := .str LET) rfl)]
    show sSeq _ _ [.val (.lst (l.map D.int)), .val (.int (m : Int)), .val (.str LET), .none, .none, .none, .none, .none, .none, .none] = _
    rw [sSeq_nx (sOwn_nx (l := []) rfl)]
    show sSeq _ _ [.val (.lst (l.map D.int)), .val (.int (m : Int)), .val (.str LET), .own (([] : List Str).map D.str), .none, .none, .none, .none, .none, .none] = _
    have ei : rng1 (eBor 1) [.val (.lst (l.map D.int)), .val (.int (m : Int)), .val (.str LET), .own (([] : List Str).map D.str), .none, .none, .none, .none, .none, .none] = .ok ((List.range m).map fun k => D.int (k : Nat)) := rng1_eq rfl (by omega)
    refine (sSeq_nx ((sFor_of ei).trans el)).trans ?_
    rw [sSeq_nx (sSet_nx (nine _ rfl))]
    exact hr
  have s3 : sort = 0 ∨ sort = 1 ∨ sort = 2 := by omega
  rcases s3 with rfl | rfl | rfl
  · -- whole numbers
    refine ⟨0, (List.range m).map fun k => .i (l.getD k 0 % 1000 * 10 + (k : Int) - 300), fun n hn => ?_, nodup_map List.nodup_range fun a ha b hb e => ?_, by simp, ?_⟩
    · obtain ⟨k, hk, rfl⟩ := List.mem_map.mp hn
      exact ⟨rfl, rfl⟩
    · injection e with e
      have := lt9 a ha
      have := lt9 b hb
      omega
    · refine pre _ ?_
      have e : lcD (rng1 (eBor 1)) [4] (.nm 4) tYs (s2 subD (s2 addD (s2 mulD (s2 modD (sN intD (aC (s2 ixD (eBor 0) (eBor 4)) aN)) (s0 (.int 1000))) (s0 (.int 10))) (eBor 4)) (s0 (.int 300))) [.val (.lst (l.map D.int)), .val (.int (m : Int)), .val (.str LET), .own (((List.range m).map (wd l)).map D.str), t4, t5, .val (.int 0), .none, .none, .none] = .ok (.lst ((List.range m).map (Nm.d ∘ fun k => Nm.i (l.getD k 0 % 1000 * 10 + (k : Int) - 300)))) := by
        refine lc_map (i := fun k : Nat => D.int (k : Int)) (o := Nm.d ∘ fun k => Nm.i (l.getD k 0 % 1000 * 10 + (k : Int) - 300)) (List.range m) (rng1_eq rfl (by omega)) (by rw [List.length_range]; omega) fun k hk => ⟨_, rfl, rfl, ?_⟩
        have k9 := lt9 k hk
        have b0 := (s2_eq (op := mulD) ((s2_eq (op := modD) (sN1 (ix_at2 (k := k) (l := l) (by omega) (f := eBor 0) (f' := eBor 4) (ρ := [.val (.lst (l.map D.int)), .val (.int (m : Int)), .val (.str LET), .own (((List.range m).map (wd l)).map D.str), .val (.int (k : Int)), t5, .val (.int 0), .none, .none, .none]) rfl rfl) (int_i _)) (s0_ok (.int 1000) _)).trans (mod_ii (by decide))) (s0_ok (.int 10) _)).trans (mul_r (by decide))
        have b1 := (s2_eq (op := addD) b0 (f' := eBor 4) (d' := .int (k : Int)) rfl).trans (add_ii _ _)
        have b2 := s2_eq (op := subD) b1 (s0_ok (.int 300) _)
        exact b2
      exact sSeq_rt ((sIf_t rfl).trans (sRet_rt (e.trans (by rw [List.map_map]))))
  · -- texts
    refine ⟨1, (List.range m).map fun k => .w (wd l k), fun n hn => ?_, nodup_map List.nodup_range fun a ha b hb e => ?_, by simp, ?_⟩
    · obtain ⟨k, hk, rfl⟩ := List.mem_map.mp hn
      exact ⟨rfl, person_ok (word_person (nuA_lt l k) (nuB_lt l k) (lt9 k hk))⟩
    · injection e with e
      exact word_inj e
    · refine pre _ ?_
      rw [sSeq_nx (sIf_skip rfl)]
      refine sSeq_rt ((sIf_t rfl).trans ?_)
      rw [sFrz_eq]
      refine sRet_rt ?_
      rw [List.map_map, List.map_map]
      rfl
  · -- groups
    have A : Of 2 ((List.range m).map fun k => Nm.g (grp l k)) := fun n hn => by
      obtain ⟨k, hk, rfl⟩ := List.mem_map.mp hn
      exact ⟨rfl, grp_ok (lt9 k hk)⟩
    have nd : ((List.range m).map fun k => Nm.g (grp l k)).Nodup := nodup_map List.nodup_range fun a ha b hb e => by
      injection e with e
      have h := grp_head l a
      rw [e, grp_head l b] at h
      exact (word_inj (Option.some.inj h)).symm
    have ln : ((List.range m).map fun k => Nm.g (grp l k)).length = m := by simp
    refine ⟨2, _, A, nd, ln, ?_⟩
    refine pre _ ?_
    rw [sSeq_nx (sIf_skip rfl), sSeq_nx (sIf_skip rfl), sSeq_nx (sOwn_nx (l := []) rfl)]
    obtain ⟨u5, u8, u9, eg⟩ := grp_loop hl (m := m) (W := .lst (((List.range m).map (wd l)).map D.str)) (t4 := t4) (t6 := .val (.int 2)) m 0 [] t5 .none .none (by omega) rfl
    rw [← rg, List.nil_append] at eg
    have ei : iSeq (eVar 3) [.val (.lst (l.map D.int)), .val (.int (m : Int)), .val (.str LET), .val (.lst (((List.range m).map (wd l)).map D.str)), t4, t5, .val (.int 2), .own (([] : List (List Str)).map fun g => D.tup (g.map D.str)), .none, .none] = .ok ((List.range m).map fun k => D.str (wd l k)) := by
      show Res.ok (((List.range m).map (wd l)).map D.str) = _
      rw [List.map_map]; rfl
    have e3 : sFrz 3 (sFor (.nm 5) (iSeq (eVar 3)) GB) [.val (.lst (l.map D.int)), .val (.int (m : Int)), .val (.str LET), .own (((List.range m).map (wd l)).map D.str), t4, t5, .val (.int 2), .own [], .none, .none] = _ := (sFor_of ei).trans eg
    show sSeq _ _ [.val (.lst (l.map D.int)), .val (.int (m : Int)), .val (.str LET), .own (((List.range m).map (wd l)).map D.str), t4, t5, .val (.int 2), .own [], .none, .none] = _
    rw [sSeq_nx e3, sFrz_eq]
    obtain ⟨u, eu, u1, _⟩ := len_names A (by intro z; rw [z] at ln; simp at ln; omega) (by omega)
    have um : u = m := (u1 nd).trans ln
    have same : ((List.range m).map (grp l)).map (fun g => D.tup (g.map D.str)) = ((List.range m).map fun k => Nm.g (grp l k)).map Nm.d := by
      rw [List.map_map, List.map_map]; rfl
    rw [same]
    show sRet _ [.val (.lst (l.map D.int)), .val (.int (m : Int)), .val (.str LET), .val (.lst (((List.range m).map (wd l)).map D.str)), t4, u5, .val (.int 2), .val (.lst (((List.range m).map fun k => Nm.g (grp l k)).map Nm.d)), u8, u9] = _
    generalize ((List.range m).map fun k => Nm.g (grp l k)) = ns at eu ln
    have ec := (s2_eq (op := Cm.h .eq) ((s1_eq (op := lenSetD) (f := eBor 7) (ρ := [.val (.lst (l.map D.int)), .val (.int (m : Int)), .val (.str LET), .val (.lst (((List.range m).map (wd l)).map D.str)), t4, u5, .val (.int 2), .val (.lst (ns.map Nm.d)), u8, u9]) (d := .lst (ns.map Nm.d)) rfl).trans eu) (f' := sN lenD (aC (eBor 7) aN)) (sN1 (d := .lst (ns.map Nm.d)) rfl (len_lst _))).trans (eq_ints _ _)
    rw [List.length_map, um, ln, decide_eq_true rfl] at ec
    exact sRet_rt ((sIte_t (tD_bl ec)).trans rfl)
end PL
namespace PL
open PySem PySem.Spec L2
/-! N8: _law_weights -/
def rawW (n : Int) : Wt := if n / 1000 % 4 = 0 then .n 0 else if n / 1000 % 4 = 1 then .n (n % 30) else if n / 1000 % 4 = 2 then .p (1 + n % 7) 8 else .n n
def lowW : Wt → Wt
  | .n a => .n a
  | .p a b => .p (a.toNat / Nat.gcd a.toNat b.toNat : Nat) (b.toNat / Nat.gcd a.toNat b.toNat : Nat)
def RB : Env → SO := (sSeq (sSet 4 (sN intD (aC (s2 ixD (eBor 0) (s2 addD (s0 (.int 12)) (eBor 3))) aN)))
  (sApp 2 (s2 ixD (sN mkLst (aC (s0 (.int 0)) (aC (s2 modD (eBor 4) (s0 (.int 30))) (aC (sN mkTup (aC (s2 addD (s0 (.int 1)) (s2 modD (eBor 4) (s0 (.int 7)))) (aC (s0 (.int 8)) aN))) (aC (eVar 4) aN))))) (s2 modD (s2 fdivD (eBor 4) (s0 (.int 1000))) (s0 (.int 4))))))
theorem mk4 {f1 f2 f3 f4 : Env → Res D} {ρ : Env} {a b c d : D} (h1 : f1 ρ = .ok a) (h2 : f2 ρ = .ok b) (h3 : f3 ρ = .ok c) (h4 : f4 ρ = .ok d) : sN mkLst (aC f1 (aC f2 (aC f3 (aC f4 aN)))) ρ = .ok (.lst [a, b, c, d]) := by
  unfold sN aC aN; rw [h1, h2, h3, h4]; rfl
theorem ix4 {f : Env → Res D} {ρ : Env} {a b c d : D} {g : Env → Res D} {r : Int} (h : f ρ = .ok (.lst [a, b, c, d])) (hr : g ρ = .ok (.int r)) (h0 : 0 ≤ r) (h4 : r < 4) : s2 ixD f g ρ = .ok (if r = 0 then a else if r = 1 then b else if r = 2 then c else d) := by
  obtain ⟨k, rfl⟩ := Int.eq_ofNat_of_zero_le h0
  have four : k = 0 ∨ k = 1 ∨ k = 2 ∨ k = 3 := by omega
  rw [s2_eq h hr]
  rcases four with rfl | rfl | rfl | rfl <;> exact ix_lst rfl
theorem raw_step {l : List Int} (hl : l.length = 30) {k : Nat} (hk : k < 9) {m : Int} {ws : List Wt} (hw : ws.length < 1000) {t4 t5 t6 : Slot} : ∃ t4',
    RB [.val (.lst (l.map D.int)), .val (.int m), .own (ws.map Wt.d), .val (.int (k : Int)), t4, t5, t6]
      = .nx [.val (.lst (l.map D.int)), .val (.int m), .own ((ws ++ [rawW (l.getD (12 + k) 0)]).map Wt.d), .val (.int (k : Int)), t4', t5, t6] := by
  refine ⟨.val (.int (l.getD (12 + k) 0)), ?_⟩
  have e1 : sN intD (aC (s2 ixD (eBor 0) (s2 addD (s0 (.int 12)) (eBor 3))) aN) [.val (.lst (l.map D.int)), .val (.int m), .own (ws.map Wt.d), .val (.int (k : Int)), t4, t5, t6] = .ok (.int (l.getD (12 + k) 0)) :=
    sN1 (ix_at2 (k := 12 + k) (by omega) rfl (addk (j := 12) (k := k) rfl rfl)) (int_i _)
  unfold RB
  refine (sSeq_nx (sSet_nx e1)).trans ?_
  generalize l.getD (12 + k) 0 = n
  show sApp 2 _ [.val (.lst (l.map D.int)), .val (.int m), .own (ws.map Wt.d), .val (.int (k : Int)), .val (.int n), t5, t6] = _
  have b (c : Int) (h : 0 < c) : s2 modD (eBor 4) (s0 (.int c)) [.val (.lst (l.map D.int)), .val (.int m), .own (ws.map Wt.d), .val (.int (k : Int)), .val (.int n), t5, t6] = .ok (.int (n % c)) := (s2_eq (d := .int n) (d' := .int c) rfl rfl).trans (mod_ii h)
  have e4 := mk4 (f1 := s0 (.int 0)) (ρ := [.val (.lst (l.map D.int)), .val (.int m), .own (ws.map Wt.d), .val (.int (k : Int)), .val (.int n), t5, t6]) (s0_ok _ _) (b 30 (by decide)) (sN2 (h := mkTup) (r := .ok (.tup [.int (1 + n % 7), .int 8])) ((s2_eq (op := addD) (s0_ok (.int 1) _) (b 7 (by decide))).trans (add_ii _ _)) (s0_ok (.int 8) _) rfl) (f4 := eVar 4) (d := .int n) rfl
  have er : s2 modD (s2 fdivD (eBor 4) (s0 (.int 1000))) (s0 (.int 4)) [.val (.lst (l.map D.int)), .val (.int m), .own (ws.map Wt.d), .val (.int (k : Int)), .val (.int n), t5, t6] = .ok (.int (n / 1000 % 4)) :=
    (s2_eq (op := modD) ((s2_eq (d := .int n) (d' := .int 1000) rfl rfl).trans (fdiv_ii (by decide) (by decide))) (s0_ok (.int 4) _)).trans (mod_ii (by decide))
  have e5 := ix4 e4 er (Int.emod_nonneg _ (by decide)) (Int.emod_lt_of_pos _ (by decide))
  have e6 : (if n / 1000 % 4 = 0 then D.int 0 else if n / 1000 % 4 = 1 then .int (n % 30) else if n / 1000 % 4 = 2 then .tup [.int (1 + n % 7), .int 8] else .int n) = (rawW n).d := by
    unfold rawW
    split
    · rfl
    · split
      · rfl
      · split <;> rfl
  rw [e6] at e5
  refine (sApp_nx rfl e5 (by rw [List.length_map]; omega)).trans ?_
  rw [List.map_append]
  rfl
theorem raw_loop {l : List Int} (hl : l.length = 30) {m : Int} {t5 t6 : Slot} : ∀ (n s : Nat) (ws : List Wt) (t3 t4 : Slot), s + n ≤ 9 → ws.length = s → ∃ t3' t4',
    forL (.nm 3) RB ((List.range' s n).map fun k => D.int (k : Nat)) [.val (.lst (l.map D.int)), .val (.int m), .own (ws.map Wt.d), t3, t4, t5, t6]
      = .nx [.val (.lst (l.map D.int)), .val (.int m), .own ((ws ++ (List.range' s n).map fun k => rawW (l.getD (12 + k) 0)).map Wt.d), t3', t4', t5, t6]
  | 0, s, ws, t3, t4, _, _ => ⟨t3, t4, by rw [List.range'_zero, List.map_nil, List.map_nil, List.append_nil]; rfl⟩
  | n + 1, s, ws, t3, t4, h, hw => by
    obtain ⟨u4, e1⟩ := raw_step hl (k := s) (by omega) (m := m) (ws := ws) (by omega) (t4 := t4) (t5 := t5) (t6 := t6)
    obtain ⟨t3', t4', e⟩ := raw_loop hl (m := m) (t5 := t5) (t6 := t6) n (s + 1) (ws ++ [rawW (l.getD (12 + s) 0)]) (.val (.int (s : Int))) u4 (by omega) (by rw [List.length_append, hw]; rfl)
    refine ⟨t3', t4', ?_⟩
    rw [List.range'_succ, List.map_cons]
    refine (forL_cons rfl e1).trans ?_
    refine e.trans ?_
    rw [List.map_cons, List.append_assoc]
    rfl
/-- what is drawn, in lowest terms, is a weight as the law draws them -/
theorem low_dr {n : Int} (h0 : 0 ≤ n) (h1 : n < 1000000000) : (lowW (rawW n)).Dr := by
  unfold rawW
  split
  · exact dr_n (by omega) (by omega)
  · split
    · exact dr_n (by omega) (by omega)
    · split
      · obtain ⟨m, hm⟩ := Int.eq_ofNat_of_zero_le (show 0 ≤ 1 + n % 7 by omega)
        rw [hm]
        have m1 : 1 ≤ m := by omega
        have gp : 0 < Nat.gcd m 8 := Nat.gcd_pos_of_pos_right _ (by omega)
        have mq : 1 ≤ m / Nat.gcd m 8 := (Nat.one_le_div_iff gp).mpr (Nat.gcd_le_left _ m1)
        have mq2 : m / Nat.gcd m 8 ≤ 40 := Nat.le_trans (Nat.div_le_self _ _) (by omega)
        refine ⟨low_ok (by omega) (by omega) (by omega), ?_, ?_⟩
        · show ((m / Nat.gcd m 8 : Nat) : Int) ≤ 10 ^ 12
          omega
        · intro a b hab
          cases hab
          show (0 : Int) < ((m / Nat.gcd m 8 : Nat) : Int)
          omega
      · exact dr_n (by omega) (by omega)
def LB : Env → SO := (sApp 5 (sIte (tD (sIs ["tuple"] (eBor 6))) (sN h__law_low (aC (s2 ixD (eBor 6) (s0 (.int 0))) (aC (s2 ixD (eBor 6) (s0 (.int 1))) aN))) (eVar 6)))
theorem low_step {N M W : D} {n : Int} (h0 : 0 ≤ n) {ws : List Wt} (hw : ws.length < 1000) {t3 t4 : Slot} :
    LB [.val N, .val M, .val W, t3, t4, .own (ws.map Wt.d), .val (rawW n).d] = .nx [.val N, .val M, .val W, t3, t4, .own ((ws ++ [lowW (rawW n)]).map Wt.d), .val (rawW n).d] := by
  have e : (sIte (tD (sIs ["tuple"] (eBor 6))) (sN h__law_low (aC (s2 ixD (eBor 6) (s0 (.int 0))) (aC (s2 ixD (eBor 6) (s0 (.int 1))) aN))) (eVar 6)) [.val N, .val M, .val W, t3, t4, .own (ws.map Wt.d), .val (rawW n).d] = .ok (lowW (rawW n)).d := by
    unfold rawW
    split
    · rfl
    · split
      · rfl
      · split
        · obtain ⟨m, hm⟩ := Int.eq_ofNat_of_zero_le (show 0 ≤ 1 + n % 7 by omega)
          rw [hm]
          refine (sIte_t rfl).trans ?_
          exact sN2 (d := .int (m : Int)) (d' := .int ((8 : Nat) : Int)) rfl rfl (low_w (by omega) (by omega))
        · rfl
  unfold LB
  refine (sApp_nx rfl e (by rw [List.length_map]; omega)).trans ?_
  rw [List.map_append]
  rfl
theorem low_loop {N M W : D} {t3 t4 : Slot} : ∀ (ns : List Int) (ws : List Wt) (t6 : Slot), (∀ n ∈ ns, 0 ≤ n) → ws.length + ns.length < 1000 → ∃ t6',
    forL (.nm 6) LB (ns.map fun n => (rawW n).d) [.val N, .val M, .val W, t3, t4, .own (ws.map Wt.d), t6]
      = .nx [.val N, .val M, .val W, t3, t4, .own ((ws ++ ns.map fun n => lowW (rawW n)).map Wt.d), t6']
  | [], ws, t6, _, _ => ⟨t6, by rw [List.map_nil, List.map_nil, List.append_nil]; rfl⟩
  | n :: ns, ws, t6, h, hw => by
    rw [List.length_cons] at hw
    obtain ⟨t6', e⟩ := low_loop (N := N) (M := M) (W := W) (t3 := t3) (t4 := t4) ns (ws ++ [lowW (rawW n)]) (.val (rawW n).d) (fun x hx => h x (List.mem_cons_of_mem _ hx)) (by rw [List.length_append, List.length_singleton]; omega)
    refine ⟨t6', ?_⟩
    rw [List.map_cons]
    refine (forL_cons rfl (low_step (h n List.mem_cons_self) (by omega))).trans ?_
    refine e.trans ?_
    rw [List.map_cons, List.append_assoc]
    rfl
theorem r_law_weights {l : List Int} (hl : l.length = 30) (hd : Drw l) {m : Nat} (h1 : 1 ≤ m) (h9 : m ≤ 9) : ∃ ws : List Wt, ws.length = m ∧ (∀ w ∈ ws, w.Ok) ∧ someW ws = true ∧ h__law_weights [.lst (l.map D.int), .int (m : Int)] = .ok (.lst (ws.map Wt.d)) := by
  have rg : List.range m = List.range' 0 m := List.range_eq_range'
  have nn : ∀ k ∈ List.range m, 0 ≤ l.getD (12 + k) 0 ∧ l.getD (12 + k) 0 < 1000000000 := fun k hk => by
    have := List.mem_range.mp hk
    have lt : 12 + k < l.length := by omega
    rw [List.getD_eq_getElem?_getD, List.getElem?_eq_getElem lt]
    exact hd _ (List.getElem_mem lt)
  obtain ⟨t3, t4, e1⟩ := raw_loop hl (m := m) (t5 := .none) (t6 := .none) m 0 [] .none .none (by omega) rfl
  rw [← rg, List.nil_append] at e1
  obtain ⟨t6, e2⟩ := low_loop (N := .lst (l.map D.int)) (M := .int (m : Int)) (W := .lst (((List.range m).map fun k => rawW (l.getD (12 + k) 0)).map Wt.d)) (t3 := t3) (t4 := t4) ((List.range m).map fun k => l.getD (12 + k) 0) [] .none (fun n hn => by
    obtain ⟨k, hk, rfl⟩ := List.mem_map.mp hn
    exact (nn k hk).1) (by simp; omega)
  rw [List.nil_append] at e2
  obtain ⟨fs, hfs⟩ : ∃ fs, fs = ((List.range m).map fun k => l.getD (12 + k) 0).map fun n => lowW (rawW n) := ⟨_, rfl⟩
  rw [← hfs] at e2
  have fl : fs.length = m := by rw [hfs]; simp
  have dr : ∀ w ∈ fs, w.Dr := fun w hw => by
    rw [hfs] at hw
    obtain ⟨n, hn, rfl⟩ := List.mem_map.mp hw
    obtain ⟨k, hk, rfl⟩ := List.mem_map.mp hn
    exact low_dr (nn k hk).1 (nn k hk).2
  have ec : tD (lcD (iSeq (eBor 5)) [6] (.nm 6) (tD (s2 (Cm.h .ne) (eBor 6) (s0 (.int 0)))) (eVar 6)) [.val (.lst (l.map D.int)), .val (.int (m : Int)), .val (.lst (((List.range m).map fun k => rawW (l.getD (12 + k) 0)).map Wt.d)), t3, t4, .own (fs.map Wt.d), t6] = .ok (someW fs) := by
    have c : lcD (iSeq (eBor 5)) [6] (.nm 6) (tD (s2 (Cm.h .ne) (eBor 6) (s0 (.int 0)))) (eVar 6) [.val (.lst (l.map D.int)), .val (.int (m : Int)), .val (.lst (((List.range m).map fun k => rawW (l.getD (12 + k) 0)).map Wt.d)), t3, t4, .own (fs.map Wt.d), t6] = .ok (.lst ((fs.filter Wt.nz).map Wt.d)) :=
      lc_filter (i := Wt.d) (o := Wt.d) fs rfl (by omega) fun w hw => ⟨_, rfl, tD_bl ((s2_eq (d := w.d) (d' := .int 0) rfl rfl).trans (nz_eq w)), rfl⟩
    rw [tD_of c]
    exact truth_filter dr
  -- all the way
  have run : ∀ ws : List Wt, sIf (tNt (tD (lcD (iSeq (eBor 5)) [6] (.nm 6) (tD (s2 (Cm.h .ne) (eBor 6) (s0 (.int 0)))) (eVar 6)))) (sSetIx 5 (s0 (.int 0)) (s0 (.int 1))) sNx [.val (.lst (l.map D.int)), .val (.int (m : Int)), .val (.lst (((List.range m).map fun k => rawW (l.getD (12 + k) 0)).map Wt.d)), t3, t4, .own (fs.map Wt.d), t6]
      = .nx [.val (.lst (l.map D.int)), .val (.int (m : Int)), .val (.lst (((List.range m).map fun k => rawW (l.getD (12 + k) 0)).map Wt.d)), t3, t4, .own (ws.map Wt.d), t6] → h__law_weights [.lst (l.map D.int), .int (m : Int)] = .ok (.lst (ws.map Wt.d)) := fun ws h => by
    unfold h__law_weights f__law_weights
    refine fnD_rt rfl ?_
    show sSeq _ _ [.val (.lst (l.map D.int)), .val (.int (m : Int)), .none, .none, .none, .none, .none] = _
    rw [sSeq_nx (sOwn_nx (l := []) rfl)]
    show sSeq _ _ [.val (.lst (l.map D.int)), .val (.int (m : Int)), .own (([] : List Wt).map Wt.d), .none, .none, .none, .none] = _
    have ei : rng1 (eBor 1) [.val (.lst (l.map D.int)), .val (.int (m : Int)), .own (([] : List Wt).map Wt.d), .none, .none, .none, .none] = .ok ((List.range m).map fun k => D.int (k : Nat)) := rng1_eq rfl (by omega)
    refine (sSeq_nx ((sFor_of ei).trans e1)).trans ?_
    rw [sSeq_nx (sOwn_nx (l := []) rfl)]
    have ei2 : iSeq (eVar 2) [.val (.lst (l.map D.int)), .val (.int (m : Int)), .val (.lst (((List.range m).map fun k => rawW (l.getD (12 + k) 0)).map Wt.d)), t3, t4, .own (([] : List Wt).map Wt.d), .none] = .ok (((List.range m).map fun k => l.getD (12 + k) 0).map fun n => (rawW n).d) := by
      show Res.ok (((List.range m).map fun k => rawW (l.getD (12 + k) 0)).map Wt.d) = _
      rw [List.map_map, List.map_map]; rfl
    have e3 : sFrz 2 (sFor (.nm 6) (iSeq (eVar 2)) LB) [.val (.lst (l.map D.int)), .val (.int (m : Int)), .own (((List.range m).map fun k => rawW (l.getD (12 + k) 0)).map Wt.d), t3, t4, .own [], .none] = _ := (sFor_of ei2).trans e2
    refine (sSeq_nx e3).trans ?_
    rw [sSeq_nx h, sFrz_eq]
    exact sRet_rt rfl
  cases hs : someW fs with
  | true =>
    rw [hs] at ec
    exact ⟨fs, fl, fun w hw => (dr w hw).o, hs, run fs (sIf_skip (tNt_ok ec))⟩
  | false =>
    rw [hs] at ec
    cases fs with
    | nil => simp at fl; omega
    | cons f0 fs0 =>
      refine ⟨.n 1 :: fs0, fl, fun w hw => ?_, ?_, run (.n 1 :: fs0) ((sIf_t (tNt_ok ec)).trans ?_)⟩
      · rcases List.mem_cons.mp hw with z | z
        · rw [z]; exact (dr_n (by omega) (by omega)).o
        · exact (dr w (List.mem_cons_of_mem _ z)).o
      · unfold someW
        rw [List.any_cons]
        rfl
      · refine (sSetIx_nx (d := .int 1) (l := f0.d :: fs0.map Wt.d) (k := 0) (j := 0) rfl rfl rfl (by rw [List.length_cons]; exact ixN_nat (Nat.succ_pos _))).trans ?_
        rfl
end PL
namespace PL
open PySem PySem.Spec L2
/-! N9: _law_shared -/
theorem range_getD {α : Type} (l : List α) (d : α) : (List.range l.length).map (fun k => l.getD k d) = l := by
  apply List.ext_getElem
  · simp
  · intro i h1 h2
    simp [List.getElem?_eq_getElem h2]
theorem same_due {k : Nat} {cs : List Cl} (C : Cls k cs) (a : Int) : h__law_same [dueC a cs, dueC a cs] = .ok (.bl true) := by
  refine same_self 4 _ ?_
  unfold dueC
  show (((List.zip (sortC cs) (getsC a cs)).map fun z : Cl × Int => D.tup [z.1.1.d, .int z.2]).all (sameOk 3) && decide (((List.zip (sortC cs) (getsC a cs)).map fun z : Cl × Int => D.tup [z.1.1.d, .int z.2]).length ≤ 1000000)) = true
  rw [Bool.and_eq_true]
  constructor
  · refine List.all_eq_true.mpr fun d hd => ?_
    obtain ⟨z, hz, rfl⟩ := List.mem_map.mp hd
    have hz1 : z.1 ∈ sortC cs := (List.of_mem_zip hz).1
    have hz2 := (sortC_perm cs).mem_iff.mp hz1
    have q := Nm.same (C.nm hz2).2
    show ([z.1.1.d, D.int z.2].all (sameOk 2) && decide ([z.1.1.d, D.int z.2].length ≤ 1000000)) = true
    simp [q, sameOk]
  · refine decide_eq_true ?_
    have := C.l2
    rw [List.length_map, List.length_zip, (sortC_perm cs).length_eq]
    omega
theorem due_perm {k : Nat} {cs out : List Cl} (C : Cls k cs) (nd : (cs.map (·.1)).Nodup) (p : out.Perm cs) (a : Int) : dueC a out = dueC a cs := by
  unfold dueC getsC
  rw [sortC_eq C nd p]
theorem r_law_shared {l : List Int} (hl : l.length = 30) (hd : Drw l) : h__law_shared [.lst (l.map D.int)] = .ok (.bl true) := by
  obtain ⟨m, hm⟩ := Int.eq_ofNat_of_zero_le (show 0 ≤ 1 + l.getD 8 0 % 9 by omega)
  have m1 : 1 ≤ m := by omega
  have m9 : m ≤ 9 := by omega
  obtain ⟨k, ns, A, nd, nl, en⟩ := r_law_names hl m1 m9
  obtain ⟨ws, wl, wo, hs, ew⟩ := r_law_weights hl hd m1 m9
  obtain ⟨cs, hcs⟩ : ∃ cs, cs = List.zip ns ws := ⟨_, rfl⟩
  have cl : cs.length = m := by rw [hcs, List.length_zip, nl, wl]; omega
  have c1 : cs.map (·.1) = ns := by rw [hcs]; exact List.map_fst_zip (by omega)
  have c2 : cs.map (·.2) = ws := by rw [hcs]; exact List.map_snd_zip (by omega)
  have C : Cls k cs := ⟨by rw [c1]; exact A, fun c hc => wo c.2 (by rw [← c2]; exact List.mem_map.mpr ⟨c, hc, rfl⟩), fun z => by rw [z] at cl; simp at cl; omega, by omega⟩
  have ND : (cs.map (·.1)).Nodup := by rw [c1]; exact nd
  have HS : someW (wtsC cs) = true := by unfold wtsC; rw [c2]; exact hs
  obtain ⟨a, ha⟩ : ∃ a, a = (l.getD 21 0 * 997 + l.getD 22 0) % 1000000000001 := ⟨_, rfl⟩
  have a0 : 0 ≤ a := by omega
  have a1 : a ≤ 10 ^ 12 := by omega
  unfold h__law_shared f__law_shared
  refine fnD_rt rfl ?_
  show sSeq _ _ [.val (.lst (l.map D.int)), .none, .none, .none, .none, .none, .none, .none, .none, .none, .none, .none] = _
  have e1 : (s2 addD (s0 (.int 1)) (s2 modD (sN intD (aC (s2 ixD (eBor 0) (s0 (.int 8))) aN)) (s0 (.int 9)))) [.val (.lst (l.map D.int)), .none, .none, .none, .none, .none, .none, .none, .none, .none, .none, .none] = .ok (.int (m : Int)) := by
    rw [s2_eq (s0_ok _ _) ((s2_eq (op := modD) (sN1 (ix_at2 (k := 8) (l := l) (by omega) rfl rfl) (int_i _)) (s0_ok (.int 9) _)).trans (mod_ii (by decide))), add_ii, hm]
  rw [sSeq_nx (sSet_nx e1)]
  show sSeq _ _ [.val (.lst (l.map D.int)), .val (.int (m : Int)), .none, .none, .none, .none, .none, .none, .none, .none, .none, .none] = _
  rw [sSeq_nx (sSet_nx (sN2 (d := .lst (l.map D.int)) (d' := .int (m : Int)) rfl rfl en))]
  show sSeq _ _ [.val (.lst (l.map D.int)), .val (.int (m : Int)), .val (.lst (ns.map Nm.d)), .none, .none, .none, .none, .none, .none, .none, .none, .none] = _
  rw [sSeq_nx (sSet_nx (sN2 (d := .lst (l.map D.int)) (d' := .int (m : Int)) rfl rfl ew))]
  show sSeq _ _ [.val (.lst (l.map D.int)), .val (.int (m : Int)), .val (.lst (ns.map Nm.d)), .val (.lst (ws.map Wt.d)), .none, .none, .none, .none, .none, .none, .none, .none] = _
  have e4 : lcD (rng1 (eBor 1)) [10] (.nm 10) tYs (sN mkTup (aC (s2 ixD (eBor 2) (eBor 10)) (aC (s2 ixD (eBor 3) (eBor 10)) aN))) [.val (.lst (l.map D.int)), .val (.int (m : Int)), .val (.lst (ns.map Nm.d)), .val (.lst (ws.map Wt.d)), .none, .none, .none, .none, .none, .none, .none, .none] = .ok (.lst (cs.map Cl.d)) := by
    have z := lc_map (ρ := [.val (.lst (l.map D.int)), .val (.int (m : Int)), .val (.lst (ns.map Nm.d)), .val (.lst (ws.map Wt.d)), .none, .none, .none, .none, .none, .none, .none, .none]) (fi := rng1 (eBor 1)) (vs := [10]) (T := .nm 10) (fc := tYs) (fe := sN mkTup (aC (s2 ixD (eBor 2) (eBor 10)) (aC (s2 ixD (eBor 3) (eBor 10)) aN))) (i := fun k : Nat => D.int (k : Int)) (o := fun k : Nat => (cs.map Cl.d).getD k .non) (List.range m) (rng1_eq rfl (by omega)) (by rw [List.length_range]; omega) fun j hj => by
      have hj := List.mem_range.mp hj
      have j1 : j < ns.length := by omega
      have j2 : j < ws.length := by omega
      have j3 : j < cs.length := by omega
      refine ⟨_, rfl, rfl, ?_⟩
      have x1 := (s2_eq (op := ixD) (f := eBor 2) (f' := eBor 10) (ρ := [.val (.lst (l.map D.int)), .val (.int (m : Int)), .val (.lst (ns.map Nm.d)), .val (.lst (ws.map Wt.d)), .none, .none, .none, .none, .none, .none, .val (.int (j : Int)), .none]) (d := .lst (ns.map Nm.d)) (d' := .int (j : Int)) rfl rfl).trans (ix_lst (d := (ns[j]).d) (by rw [List.getElem?_map, List.getElem?_eq_getElem j1]; rfl))
      have x2 := (s2_eq (op := ixD) (f := eBor 3) (f' := eBor 10) (ρ := [.val (.lst (l.map D.int)), .val (.int (m : Int)), .val (.lst (ns.map Nm.d)), .val (.lst (ws.map Wt.d)), .none, .none, .none, .none, .none, .none, .val (.int (j : Int)), .none]) (d := .lst (ws.map Wt.d)) (d' := .int (j : Int)) rfl rfl).trans (ix_lst (d := (ws[j]).d) (by rw [List.getElem?_map, List.getElem?_eq_getElem j2]; rfl))
      refine (sN2 (h := mkTup) (r := .ok (.tup [(ns[j]).d, (ws[j]).d])) x1 x2 rfl).trans ?_
      have ec : cs[j]? = some (ns[j], ws[j]) := by
        rw [hcs, List.getElem?_zip_eq_some]
        exact ⟨List.getElem?_eq_getElem j1, List.getElem?_eq_getElem j2⟩
      have eg : (cs.map Cl.d).getD j .non = Cl.d (ns[j], ws[j]) := by
        rw [List.getD_eq_getElem?_getD, List.getElem?_map, ec]; rfl
      show _ = Res.ok ((cs.map Cl.d).getD j .non)
      rw [eg]; rfl
    have y := range_getD (cs.map Cl.d) D.non
    rw [List.length_map, cl] at y
    rw [y] at z
    exact z
  rw [sSeq_nx (sSet_nx e4)]
  show sSeq _ _ [.val (.lst (l.map D.int)), .val (.int (m : Int)), .val (.lst (ns.map Nm.d)), .val (.lst (ws.map Wt.d)), .val (.lst (cs.map Cl.d)), .none, .none, .none, .none, .none, .none, .none] = _
  have e5 : (s2 modD (sN intD (aC (s2 addD (s2 mulD (s2 ixD (eBor 0) (s0 (.int 21))) (s0 (.int 997))) (s2 ixD (eBor 0) (s0 (.int 22)))) aN)) (s2 addD (s2 powD (s0 (.int 10)) (s0 (.int 12))) (s0 (.int 1)))) [.val (.lst (l.map D.int)), .val (.int (m : Int)), .val (.lst (ns.map Nm.d)), .val (.lst (ws.map Wt.d)), .val (.lst (cs.map Cl.d)), .none, .none, .none, .none, .none, .none, .none] = .ok (.int a) := by
    have x1 := (s2_eq (op := mulD) (ix_at2 (k := 21) (l := l) (by omega) (f := eBor 0) (f' := s0 (.int 21)) (ρ := [.val (.lst (l.map D.int)), .val (.int (m : Int)), .val (.lst (ns.map Nm.d)), .val (.lst (ws.map Wt.d)), .val (.lst (cs.map Cl.d)), .none, .none, .none, .none, .none, .none, .none]) rfl rfl) (s0_ok (.int 997) _)).trans (mul_r (by decide))
    have x2 := ix_at2 (k := 22) (l := l) (by omega) (f := eBor 0) (f' := s0 (.int 22)) (ρ := [.val (.lst (l.map D.int)), .val (.int (m : Int)), .val (.lst (ns.map Nm.d)), .val (.lst (ws.map Wt.d)), .val (.lst (cs.map Cl.d)), .none, .none, .none, .none, .none, .none, .none]) rfl rfl
    have x3 := (s2_eq (op := addD) (pow12 [.val (.lst (l.map D.int)), .val (.int (m : Int)), .val (.lst (ns.map Nm.d)), .val (.lst (ws.map Wt.d)), .val (.lst (cs.map Cl.d)), .none, .none, .none, .none, .none, .none, .none]) (s0_ok (.int 1) _)).trans (add_ii _ _)
    refine (s2_eq (sN1 ((s2_eq x1 x2).trans (add_ii _ _)) (int_i _)) x3).trans ((mod_ii (by decide)).trans ?_)
    rw [ha]; rfl
  rw [sSeq_nx (sSet_nx e5)]
  show sSeq _ _ [.val (.lst (l.map D.int)), .val (.int (m : Int)), .val (.lst (ns.map Nm.d)), .val (.lst (ws.map Wt.d)), .val (.lst (cs.map Cl.d)), .val (.int a), .none, .none, .none, .none, .none, .none] = _
  rw [sSeq_nx (sSet_nx (srt_claims C (fe := eBor 4) rfl))]
  show sSeq _ _ [.val (.lst (l.map D.int)), .val (.int (m : Int)), .val (.lst (ns.map Nm.d)), .val (.lst (ws.map Wt.d)), .val (.lst (cs.map Cl.d)), .val (.int a), .val (.lst ((sortC cs).map Cl.d)), .none, .none, .none, .none, .none] = _
  have sl : (sortC cs).length = m := by rw [(sortC_perm cs).length_eq, cl]
  have e7 : lcD (iSeq (eBor 6)) [11] (.nm 11) tYs (s2 ixD (eBor 11) (s0 (.int 1))) [.val (.lst (l.map D.int)), .val (.int (m : Int)), .val (.lst (ns.map Nm.d)), .val (.lst (ws.map Wt.d)), .val (.lst (cs.map Cl.d)), .val (.int a), .val (.lst ((sortC cs).map Cl.d)), .none, .none, .none, .none, .none] = .ok (.lst ((wtsC (sortC cs)).map Wt.d)) := by
    have z := lc_map (ρ := [.val (.lst (l.map D.int)), .val (.int (m : Int)), .val (.lst (ns.map Nm.d)), .val (.lst (ws.map Wt.d)), .val (.lst (cs.map Cl.d)), .val (.int a), .val (.lst ((sortC cs).map Cl.d)), .none, .none, .none, .none, .none]) (fi := iSeq (eBor 6)) (vs := [11]) (T := .nm 11) (fc := tYs) (fe := s2 ixD (eBor 11) (s0 (.int 1))) (i := Cl.d) (o := fun c => c.2.d) (sortC cs) rfl (by omega) fun c hc => ⟨_, rfl, rfl, rfl⟩
    rw [z]
    unfold wtsC
    rw [List.map_map]; rfl
  have G := C.given a0 a1 HS
  have HS2 : someW (wtsC (sortC cs)) = true := by rw [← HS]; exact someW_perm (ws := wtsC (sortC cs)) (ws' := wtsC cs) (List.Perm.map (fun c : Cl => c.2) (sortC_perm cs))
  have e8 : h_parted [.int a, .lst ((wtsC (sortC cs)).map Wt.d)] = .ok (.tup ((getsC a cs).map D.int)) := r_parted G HS2 (.l rfl)
  rw [sSeq_nx (sSet_nx (sN2 (d := .int a) rfl e7 e8))]
  show sSeq _ _ [.val (.lst (l.map D.int)), .val (.int (m : Int)), .val (.lst (ns.map Nm.d)), .val (.lst (ws.map Wt.d)), .val (.lst (cs.map Cl.d)), .val (.int a), .val (.lst ((sortC cs).map Cl.d)), .val (.tup ((getsC a cs).map D.int)), .none, .none, .none, .none] = _
  have gl : (getsC a cs).length = m := by rw [getsC_len, cl]
  have e9 : sN tupleD (aC (lcD (rng1 (eBor 1)) [10] (.nm 10) tYs (sN mkTup (aC (s2 ixD (s2 ixD (eBor 6) (eBor 10)) (s0 (.int 0))) (aC (s2 ixD (eBor 7) (eBor 10)) aN)))) aN) [.val (.lst (l.map D.int)), .val (.int (m : Int)), .val (.lst (ns.map Nm.d)), .val (.lst (ws.map Wt.d)), .val (.lst (cs.map Cl.d)), .val (.int a), .val (.lst ((sortC cs).map Cl.d)), .val (.tup ((getsC a cs).map D.int)), .none, .none, .none, .none] = .ok (dueC a cs) := by
    obtain ⟨zl, hzl⟩ : ∃ zl : List D, zl = (List.zip (sortC cs) (getsC a cs)).map fun z => .tup [z.1.1.d, .int z.2] := ⟨_, rfl⟩
    have zn : zl.length = m := by rw [hzl, List.length_map, List.length_zip, sl, gl]; omega
    have z := lc_map (ρ := [.val (.lst (l.map D.int)), .val (.int (m : Int)), .val (.lst (ns.map Nm.d)), .val (.lst (ws.map Wt.d)), .val (.lst (cs.map Cl.d)), .val (.int a), .val (.lst ((sortC cs).map Cl.d)), .val (.tup ((getsC a cs).map D.int)), .none, .none, .none, .none]) (fi := rng1 (eBor 1)) (vs := [10]) (T := .nm 10) (fc := tYs) (fe := sN mkTup (aC (s2 ixD (s2 ixD (eBor 6) (eBor 10)) (s0 (.int 0))) (aC (s2 ixD (eBor 7) (eBor 10)) aN))) (i := fun k : Nat => D.int (k : Int)) (o := fun k : Nat => zl.getD k .non) (List.range m) (rng1_eq rfl (by omega)) (by rw [List.length_range]; omega) fun j hj => by
      have hj := List.mem_range.mp hj
      have j1 : j < (sortC cs).length := by omega
      have j2 : j < (getsC a cs).length := by omega
      refine ⟨_, rfl, rfl, ?_⟩
      have x1 := (s2_eq (op := ixD) (f := eBor 6) (f' := eBor 10) (ρ := [.val (.lst (l.map D.int)), .val (.int (m : Int)), .val (.lst (ns.map Nm.d)), .val (.lst (ws.map Wt.d)), .val (.lst (cs.map Cl.d)), .val (.int a), .val (.lst ((sortC cs).map Cl.d)), .val (.tup ((getsC a cs).map D.int)), .none, .none, .val (.int (j : Int)), .none]) (d := .lst ((sortC cs).map Cl.d)) (d' := .int (j : Int)) rfl rfl).trans (ix_lst (d := Cl.d (sortC cs)[j]) (by rw [List.getElem?_map, List.getElem?_eq_getElem j1]; rfl))
      have x2 := (s2_eq (op := ixD) (f := eBor 7) (f' := eBor 10) (ρ := [.val (.lst (l.map D.int)), .val (.int (m : Int)), .val (.lst (ns.map Nm.d)), .val (.lst (ws.map Wt.d)), .val (.lst (cs.map Cl.d)), .val (.int a), .val (.lst ((sortC cs).map Cl.d)), .val (.tup ((getsC a cs).map D.int)), .none, .none, .val (.int (j : Int)), .none]) (d := .tup ((getsC a cs).map D.int)) (d' := .int (j : Int)) rfl rfl).trans (ix_tup (d := .int (getsC a cs)[j]) (by rw [List.getElem?_map, List.getElem?_eq_getElem j2]; rfl))
      refine (sN2 (h := mkTup) (r := .ok (.tup [((sortC cs)[j]).1.d, .int (getsC a cs)[j]])) ((s2_eq x1 (s0_ok (.int 0) _)).trans (cl0 _)) x2 rfl).trans ?_
      have ec : zl[j]? = some (.tup [((sortC cs)[j]).1.d, .int (getsC a cs)[j]]) := by
        rw [hzl, List.getElem?_map, (List.getElem?_zip_eq_some (z := ((sortC cs)[j], (getsC a cs)[j]))).mpr ⟨List.getElem?_eq_getElem j1, List.getElem?_eq_getElem j2⟩]
        rfl
      show _ = Res.ok (zl.getD j .non)
      rw [List.getD_eq_getElem?_getD, ec]; rfl
    have y := range_getD zl D.non
    rw [zn] at y
    rw [y] at z
    refine (sN1 z rfl).trans ?_
    rw [hzl]; rfl
  rw [sSeq_nx (sSet_nx e9)]
  show sSeq _ _ [.val (.lst (l.map D.int)), .val (.int (m : Int)), .val (.lst (ns.map Nm.d)), .val (.lst (ws.map Wt.d)), .val (.lst (cs.map Cl.d)), .val (.int a), .val (.lst ((sortC cs).map Cl.d)), .val (.tup ((getsC a cs).map D.int)), .val (dueC a cs), .none, .none, .none] = _
  have body : ∀ (n : Int) (t : Slot), sIf (tNt (tD (sN h__law_same (aC (sN h_shared (aC (eVar 5) (aC (sN tupleD (aC (sN h__law_turned (aC (eVar 4) (aC (eVar 9) aN))) aN)) aN))) (aC (eVar 8) aN))))) (sRet (s0 (.bl false))) sNx [.val (.lst (l.map D.int)), .val (.int (m : Int)), .val (.lst (ns.map Nm.d)), .val (.lst (ws.map Wt.d)), .val (.lst (cs.map Cl.d)), .val (.int a), .val (.lst ((sortC cs).map Cl.d)), .val (.tup ((getsC a cs).map D.int)), .val (dueC a cs), .val (.int n), .none, .none]
      = .nx [.val (.lst (l.map D.int)), .val (.int (m : Int)), .val (.lst (ns.map Nm.d)), .val (.lst (ws.map Wt.d)), .val (.lst (cs.map Cl.d)), .val (.int a), .val (.lst ((sortC cs).map Cl.d)), .val (.tup ((getsC a cs).map D.int)), .val (dueC a cs), .val (.int n), .none, .none] := fun n t => by
    obtain ⟨out, p, et⟩ := r_turned (cs := cs) (by omega) n
    have C2 := C.perm p
    have nd2 : (out.map (·.1)).Nodup := (List.Perm.map (fun c : Cl => c.1) p).nodup_iff.mpr ND
    have hs2 : someW (wtsC out) = true := by rw [← HS]; exact someW_perm (ws := wtsC out) (ws' := wtsC cs) (List.Perm.map (fun c : Cl => c.2) p)
    have x1 := r_shared C2 nd2 a0 a1 hs2
    rw [due_perm C ND p a] at x1
    exact sIf_skip (tNt_ok (tD_bl (sN2 (sN2 (d := .int a) rfl (sN1 (sN2 (d := .lst (cs.map Cl.d)) (d' := .int n) rfl rfl et) rfl) x1) (d' := dueC a cs) rfl (same_due C a))))
  have ei : iSeq (sN mkTup (aC (s2 ixD (eBor 0) (s0 (.int 23))) (aC (s2 ixD (eBor 0) (s0 (.int 24))) aN))) [.val (.lst (l.map D.int)), .val (.int (m : Int)), .val (.lst (ns.map Nm.d)), .val (.lst (ws.map Wt.d)), .val (.lst (cs.map Cl.d)), .val (.int a), .val (.lst ((sortC cs).map Cl.d)), .val (.tup ((getsC a cs).map D.int)), .val (dueC a cs), .none, .none, .none] = .ok [.int (l.getD 23 0), .int (l.getD 24 0)] := by
    rw [iSeq_of (sN2 (h := mkTup) (r := .ok (.tup [.int (l.getD 23 0), .int (l.getD 24 0)])) (ix_at2 (k := 23) (l := l) (by omega) rfl rfl) (ix_at2 (k := 24) (l := l) (by omega) rfl rfl) rfl)]
    rfl
  refine (sSeq_nx ((sFor_of ei).trans ((forL_cons rfl (body _ .none)).trans ((forL_cons rfl (body _ .none)).trans rfl)))).trans ?_
  show sRet _ [.val (.lst (l.map D.int)), .val (.int (m : Int)), .val (.lst (ns.map Nm.d)), .val (.lst (ws.map Wt.d)), .val (.lst (cs.map Cl.d)), .val (.int a), .val (.lst ((sortC cs).map Cl.d)), .val (.tup ((getsC a cs).map D.int)), .val (dueC a cs), .val (.int (l.getD 24 0)), .none, .none] = _
  obtain ⟨c0, cs0, hc0⟩ : ∃ c0 cs0, cs = c0 :: cs0 := by
    cases hq : cs with
    | nil => rw [hq] at cl; simp at cl; omega
    | cons c0 cs0 => exact ⟨c0, cs0, rfl⟩
  have mem : c0 ∈ cs := by rw [hc0]; exact List.mem_cons_self
  have C3 : Cls k (cs ++ [c0]) := by
    refine ⟨fun n hn => ?_, fun c hc => ?_, by simp, by rw [List.length_append, List.length_singleton]; omega⟩
    · obtain ⟨c, hc, rfl⟩ := List.mem_map.mp hn
      rcases List.mem_append.mp hc with q | q
      · exact C.nm q
      · rw [List.mem_singleton.mp q]; exact C.nm mem
    · rcases List.mem_append.mp hc with q | q
      · exact C.w c q
      · rw [List.mem_singleton.mp q]; exact C.w c0 mem
  have x1 := r_refused C3 rfl (List.mem_map.mpr ⟨c0, mem, rfl⟩) a0 a1
  have i0 : ixD (.lst (cs.map Cl.d)) (.int 0) = .ok (Cl.d c0) := by rw [hc0]; exact ix_hd _ _
  have x2 : s2 catD (eBor 4) (sN mkLst (aC (s2 ixD (eBor 4) (s0 (.int 0))) aN)) [.val (.lst (l.map D.int)), .val (.int (m : Int)), .val (.lst (ns.map Nm.d)), .val (.lst (ws.map Wt.d)), .val (.lst (cs.map Cl.d)), .val (.int a), .val (.lst ((sortC cs).map Cl.d)), .val (.tup ((getsC a cs).map D.int)), .val (dueC a cs), .val (.int (l.getD 24 0)), .none, .none] = .ok (.lst ((cs ++ [c0]).map Cl.d)) := by
    rw [s2_eq (d := .lst (cs.map Cl.d)) (d' := .lst [Cl.d c0]) rfl (sN1 ((s2_eq (d := .lst (cs.map Cl.d)) (d' := .int 0) rfl rfl).trans i0) rfl), List.map_append]
    show (if lenOk ((cs.map Cl.d).length + 1) = true then Res.ok (D.lst (cs.map Cl.d ++ [Cl.d c0])) else .bad) = _
    rw [if_pos (by unfold lenOk; rw [List.length_map]; exact decide_eq_true (by omega))]
    rfl
  exact sRet_rt (sN3 (d := .int a) rfl x2 (d'' := .int 2) rfl x1)
end PL
namespace PL
open PySem PySem.Spec L2
/-! N10: filled; the law -/
theorem for_inv {T : Tg} {body : Env → SO} {P : Env → Prop} : ∀ (ds : List D) (ρ : Env), (∀ d ∈ ds, ∀ ρ, P ρ → ∃ ρ1 ρ2, bindT T d ρ = .ok ρ1 ∧ body ρ1 = .nx ρ2 ∧ P ρ2) → P ρ → ∃ ρ', forL T body ds ρ = .nx ρ' ∧ P ρ'
  | [], ρ, _, p => ⟨ρ, rfl, p⟩
  | d :: ds, ρ, h, p => by
    obtain ⟨ρ1, ρ2, e1, e2, p2⟩ := h d List.mem_cons_self ρ p
    obtain ⟨ρ', e, p'⟩ := for_inv ds ρ2 (fun x hx => h x (List.mem_cons_of_mem _ hx)) p2
    exact ⟨ρ', (forL_cons e1 e2).trans e, p'⟩
def mn (p left : Int) : Int := if left < p then left else p
/-- what each gets of the sums in their sequence, and what is left -/
def fillG (left : Int) : List Int → List Int
  | [] => []
  | p :: ps => mn p left :: fillG (left - mn p left) ps
def fillR (left : Int) : List Int → Int
  | [] => left
  | p :: ps => fillR (left - mn p left) ps
theorem fillG_len : ∀ (ps : List Int) (left : Int), (fillG left ps).length = ps.length
  | [], _ => rfl
  | p :: ps, left => congrArg Nat.succ (fillG_len ps _)
theorem min_i (p left : Int) : min2D [.int p, .int left] = .ok (.int (mn p left)) := rfl
theorem fb_loop {a : Int} {S : D} : ∀ (ps gs : List Int) (left : Int) (t4 t5 : Slot), gs.length + ps.length < 1000 → ∃ t4' t5',
    forL (.nm 4) (sSeq (sSet 5 (sN min2D (aC (eBor 4) (aC (eBor 3) aN)))) (sSeq (sAug 3 (fun a b => a - b) (eVar 5)) (sApp 2 (eVar 5)))) (ps.map D.int) [.val (.int a), .val S, .own (gs.map D.int), .val (.int left), t4, t5]
      = .nx [.val (.int a), .val S, .own ((gs ++ fillG left ps).map D.int), .val (.int (fillR left ps)), t4', t5']
  | [], gs, left, t4, t5, _ => ⟨t4, t5, by rw [fillG, List.append_nil]; rfl⟩
  | p :: ps, gs, left, t4, t5, h => by
    rw [List.length_cons] at h
    obtain ⟨t4', t5', e⟩ := fb_loop (a := a) (S := S) ps (gs ++ [mn p left]) (left - mn p left) (.val (.int p)) (.val (.int (mn p left))) (by rw [List.length_append, List.length_singleton]; omega)
    refine ⟨t4', t5', ?_⟩
    rw [List.map_cons]
    have b : (sSeq (sSet 5 (sN min2D (aC (eBor 4) (aC (eBor 3) aN)))) (sSeq (sAug 3 (fun a b => a - b) (eVar 5)) (sApp 2 (eVar 5)))) [.val (.int a), .val S, .own (gs.map D.int), .val (.int left), .val (.int p), t5]
        = .nx [.val (.int a), .val S, .own ((gs ++ [mn p left]).map D.int), .val (.int (left - mn p left)), .val (.int p), .val (.int (mn p left))] := by
      refine (sSeq_nx (sSet_nx (sN2 (d := .int p) (d' := .int left) rfl rfl (min_i p left)))).trans ?_
      have z : sAug 3 (fun a b => a - b) (eVar 5) [.val (.int a), .val S, .own (gs.map D.int), .val (.int left), .val (.int p), .val (.int (mn p left))] = .nx [.val (.int a), .val S, .own (gs.map D.int), .val (.int (left - mn p left)), .val (.int p), .val (.int (mn p left))] := rfl
      refine (sSeq_nx z).trans ?_
      refine (sApp_nx (d := .int (mn p left)) rfl rfl (by rw [List.length_map]; omega)).trans ?_
      rw [List.map_append]
      rfl
    refine (forL_cons rfl b).trans ?_
    refine e.trans ?_
    rw [List.append_assoc]
    rfl
/-- sums, and an amount -/
structure Sums (a : Int) (ps : List Int) : Prop where
  a0 : 0 ≤ a
  a1 : a ≤ 10 ^ 12
  p : ∀ x ∈ ps, 0 ≤ x ∧ x ≤ 10 ^ 12
  l : ps.length < 100
theorem r_amounts {a : Int} {ps : List Int} (h : Sums a ps) : h_are_amounts [.tup (ps.map D.int), .int 300] = .ok (.bl true) := by
  have hl := h.l
  have e : lcD (iSeq (eBor 0)) [2] (.nm 2) tYs (sN h_is_amount (aC (eVar 2) aN)) [.val (.tup (ps.map D.int)), .val (.int 300), .none] = .ok (.lst (ps.map fun _ => D.bl true)) :=
    lc_map (i := D.int) (o := fun _ => D.bl true) ps rfl (by omega) fun x hx => ⟨_, rfl, rfl, sN1 (d := .int x) rfl (r_amt (h.p x hx).1 (h.p x hx).2)⟩
  have e2 := (s2_eq (op := Cm.h (.ord .le)) (f := sN lenD (aC (eBor 0) aN)) (f' := eBor 1) (ρ := [.val (.tup (ps.map D.int)), .val (.int 300), .none]) (sN1 (d := .tup (ps.map D.int)) rfl (len_tup ps)) (d' := .int 300) rfl).trans (leD' _ _)
  rw [decide_eq_true (by omega : (ps.length : Int) ≤ 300)] at e2
  unfold h_are_amounts f_are_amounts
  exact fnD_rt rfl (sRet_rt ((sAnd_t rfl).trans ((sAnd_t e2).trans (sN1 e (all_true ps fun _ _ => rfl)))))
theorem r_filled {a : Int} {ps : List Int} (h : Sums a ps) : h_filled [.int a, .tup (ps.map D.int)] = .ok (.tup [.tup ((fillG a ps).map D.int), .int (fillR a ps)]) := by
  have hl := h.l
  have fb : h_filled_by [.int a, .tup (ps.map D.int)] = .ok (.tup [.tup ((fillG a ps).map D.int), .int (fillR a ps)]) := by
    obtain ⟨t4, t5, e⟩ := fb_loop (a := a) (S := .tup (ps.map D.int)) ps [] a .none .none (by simp; omega)
    rw [List.nil_append] at e
    unfold h_filled_by f_filled_by
    refine fnD_rt rfl ?_
    show sSeq _ _ [.val (.int a), .val (.tup (ps.map D.int)), .none, .none, .none, .none] = _
    rw [sSeq_nx (sOwn_nx (l := []) rfl)]
    show sSeq _ _ [.val (.int a), .val (.tup (ps.map D.int)), .own (([] : List Int).map D.int), .none, .none, .none] = _
    rw [sSeq_nx (sSet_nx (d := .int a) rfl)]
    show sSeq _ _ [.val (.int a), .val (.tup (ps.map D.int)), .own (([] : List Int).map D.int), .val (.int a), .none, .none] = _
    rw [sSeq_nx ((sFor_of (ds := ps.map D.int) rfl).trans e)]
    exact sRet_rt (sN2 (h := mkTup) (d := .tup ((fillG a ps).map D.int)) (d' := .int (fillR a ps)) rfl rfl rfl)
  have e1 : sN h_check (aC (sN h_is_amount (aC (eVar 0) aN)) (aC (s0 (.int 1)) aN)) [.val (.int a), .val (.tup (ps.map D.int))] = .ok .non := sN2 (sN1 (d := .int a) rfl (r_amt h.a0 h.a1)) (d' := .int 1) rfl (r_check_t _)
  have e2 : sN h_check (aC (sN h_are_amounts (aC (eVar 1) (aC (s0 (.int (300))) aN))) (aC (s0 (.int 2)) aN)) [.val (.int a), .val (.tup (ps.map D.int))] = .ok .non := sN2 (sN2 (d := .tup (ps.map D.int)) (d' := .int 300) rfl rfl (r_amounts h)) (d' := .int 2) rfl (r_check_t _)
  unfold h_filled f_filled
  refine fnD_rt rfl ?_
  show sSeq _ _ [.val (.int a), .val (.tup (ps.map D.int))] = _
  rw [sSeq_nx (sDrop_nx e1), sSeq_nx (sDrop_nx e2)]
  exact sRet_rt (sN2 (d := .int a) (d' := .tup (ps.map D.int)) rfl rfl fb)
theorem same_fill (g : List Int) (r : Int) (h : g.length ≤ 1000) : h__law_same [.tup [.tup (g.map D.int), .int r], .tup [.tup (g.map D.int), .int r]] = .ok (.bl true) := by
  refine same_self 4 _ ?_
  have z : sameOk 3 (.tup (g.map D.int)) = true := by
    show ((g.map D.int).all (sameOk 2) && decide ((g.map D.int).length ≤ 1000000)) = true
    rw [Bool.and_eq_true]
    refine ⟨List.all_eq_true.mpr fun d hd => ?_, decide_eq_true (by rw [List.length_map]; omega)⟩
    obtain ⟨x, _, rfl⟩ := List.mem_map.mp hd
    rfl
  show ([D.tup (g.map D.int), D.int r].all (sameOk 3) && decide ([D.tup (g.map D.int), D.int r].length ≤ 1000000)) = true
  rw [List.all_cons, z]
  rfl
def OB : Env → SO := (sSeq (sApp 6 (sN min2D (aC (eBor 7) (aC (eBor 5) aN))))
  (sSet 5 (s2 subD (eBor 5) (s2 ixD (eBor 6) (s1 negD (s0 (.int 1)))))))
theorem ix_last (l : List D) (d : D) : ixD (.lst (l ++ [d])) (.int (-1)) = .ok d := by
  dsimp only [ixD]
  have e : atI (l ++ [d]) (-1) = some d := by
    unfold atI ixN
    simp
    rw [if_pos (by omega), show (-1 + ((l.length : Int) + 1)).toNat = l.length by omega]
    simp
  rw [e]
theorem ob_loop {N M S W A t8 : Slot} : ∀ (ps gs : List Int) (left : Int) (t7 : Slot), gs.length + ps.length < 1000 → ∃ t7',
    forL (.nm 7) OB (ps.map D.int) [N, M, S, W, A, .val (.int left), .own (gs.map D.int), t7, t8]
      = .nx [N, M, S, W, A, .val (.int (fillR left ps)), .own ((gs ++ fillG left ps).map D.int), t7', t8]
  | [], gs, left, t7, _ => ⟨t7, by rw [fillG, List.append_nil]; rfl⟩
  | p :: ps, gs, left, t7, h => by
    rw [List.length_cons] at h
    obtain ⟨t7', e⟩ := ob_loop (N := N) (M := M) (S := S) (W := W) (A := A) (t8 := t8) ps (gs ++ [mn p left]) (left - mn p left) (.val (.int p)) (by rw [List.length_append, List.length_singleton]; omega)
    refine ⟨t7', ?_⟩
    rw [List.map_cons]
    have b : OB [N, M, S, W, A, .val (.int left), .own (gs.map D.int), .val (.int p), t8] = .nx [N, M, S, W, A, .val (.int (left - mn p left)), .own ((gs ++ [mn p left]).map D.int), .val (.int p), t8] := by
      unfold OB
      refine (sSeq_nx (sApp_nx (l := gs.map D.int) rfl (sN2 (d := .int p) (d' := .int left) rfl rfl (min_i p left)) (by rw [List.length_map]; omega))).trans ?_
      have z := (s2_eq (op := ixD) (f := eBor 6) (f' := s1 negD (s0 (.int 1))) (ρ := [N, M, S, W, A, .val (.int left), .own (gs.map D.int ++ [.int (mn p left)]), .val (.int p), t8]) (d := .lst (gs.map D.int ++ [.int (mn p left)])) (d' := .int (-1)) rfl rfl).trans (ix_last _ _)
      have y := s2_eq (op := subD) (f := eBor 5) (d := .int left) rfl z
      refine (sSet_nx (d := .int (left - mn p left)) y).trans ?_
      rw [List.map_append]
      rfl
    refine (forL_cons rfl b).trans ?_
    refine e.trans ?_
    rw [List.append_assoc]
    rfl
def smd (n : Int) : Int := if n / 50 % 3 = 0 then 1 else if n / 50 % 3 = 1 then 50 else 1000000000
theorem smd_pos (n : Int) : 1 ≤ smd n ∧ smd n ≤ 1000000000 := by unfold smd; split <;> first | omega | (split <;> omega)
theorem mk3 {f1 f2 f3 : Env → Res D} {ρ : Env} {a b c : D} (h1 : f1 ρ = .ok a) (h2 : f2 ρ = .ok b) (h3 : f3 ρ = .ok c) : sN mkLst (aC f1 (aC f2 (aC f3 aN))) ρ = .ok (.lst [a, b, c]) := by
  unfold sN aC aN; rw [h1, h2, h3]; rfl
theorem ix3 {f : Env → Res D} {ρ : Env} {a b c : D} {g : Env → Res D} {r : Int} (h : f ρ = .ok (.lst [a, b, c])) (hr : g ρ = .ok (.int r)) (h0 : 0 ≤ r) (h4 : r < 3) : s2 ixD f g ρ = .ok (if r = 0 then a else if r = 1 then b else c) := by
  obtain ⟨k, rfl⟩ := Int.eq_ofNat_of_zero_le h0
  have three : k = 0 ∨ k = 1 ∨ k = 2 := by omega
  rw [s2_eq h hr]
  rcases three with rfl | rfl | rfl <;> exact ix_lst rfl
theorem sum_le {B : Int} : ∀ ps : List Int, (∀ x ∈ ps, 0 ≤ x ∧ x ≤ B) → 0 ≤ ps.sum ∧ ps.sum ≤ ps.length * B := fun ps h => sum_bound ps h
theorem mk6 {f1 f2 f3 f4 f5 f6 : Env → Res D} {ρ : Env} {a b c d e f : D} (h1 : f1 ρ = .ok a) (h2 : f2 ρ = .ok b) (h3 : f3 ρ = .ok c) (h4 : f4 ρ = .ok d) (h5 : f5 ρ = .ok e) (h6 : f6 ρ = .ok f) : sN mkTup (aC f1 (aC f2 (aC f3 (aC f4 (aC f5 (aC f6 aN)))))) ρ = .ok (.tup [a, b, c, d, e, f]) := by
  unfold sN aC aN; rw [h1, h2, h3, h4, h5, h6]; rfl
theorem r_law_filled {l : List Int} (hl : l.length = 30) (hd : Drw l) : h__law_filled [.lst (l.map D.int)] = .ok (.bl true) := by
  obtain ⟨m, hm⟩ := Int.eq_ofNat_of_zero_le (show 0 ≤ l.getD 8 0 % 10 by omega)
  have m9 : m ≤ 9 := by omega
  obtain ⟨ps, hps⟩ : ∃ ps : List Int, ps = (List.range m).map fun k => l.getD k 0 % smd (l.getD k 0) := ⟨_, rfl⟩
  have pl : ps.length = m := by rw [hps]; simp
  have pb : ∀ x ∈ ps, 0 ≤ x ∧ x ≤ 1000000000 := fun x hx => by
    rw [hps] at hx
    obtain ⟨k, _, rfl⟩ := List.mem_map.mp hx
    obtain ⟨s1, s2⟩ := smd_pos (l.getD k 0)
    have z1 := Int.emod_nonneg (l.getD k 0) (by omega : smd (l.getD k 0) ≠ 0)
    have z2 := Int.emod_lt_of_pos (l.getD k 0) (by omega : 0 < smd (l.getD k 0))
    omega
  obtain ⟨w0, w1⟩ := sum_bound (B := 1000000000) ps pb
  obtain ⟨w, hw⟩ : ∃ w, w = ps.sum := ⟨_, rfl⟩
  rw [← hw] at w0 w1
  have w2 : w ≤ 9000000000 := by rw [pl] at w1; have : (m : Int) ≤ 9 := by omega
                                 omega
  have ok : ∀ a : Int, 0 ≤ a → a ≤ w + 5 → Sums a ps := fun a h0 h1 => ⟨h0, by omega, fun x hx => ⟨(pb x hx).1, by have := (pb x hx).2; omega⟩, by omega⟩
  unfold h__law_filled f__law_filled
  refine fnD_rt rfl ?_
  show sSeq _ _ [.val (.lst (l.map D.int)), .none, .none, .none, .none, .none, .none, .none, .none] = _
  have e1 : (s2 modD (sN intD (aC (s2 ixD (eBor 0) (s0 (.int 8))) aN)) (s0 (.int 10))) [.val (.lst (l.map D.int)), .none, .none, .none, .none, .none, .none, .none, .none] = .ok (.int (m : Int)) := by
    refine ((s2_eq (op := modD) (sN1 (ix_at2 (k := 8) (l := l) (by omega) rfl rfl) (int_i _)) (s0_ok (.int 10) _)).trans (mod_ii (by decide))).trans ?_
    rw [hm]
  rw [sSeq_nx (sSet_nx e1)]
  show sSeq _ _ [.val (.lst (l.map D.int)), .val (.int (m : Int)), .none, .none, .none, .none, .none, .none, .none] = _
  have e2 : lcD (rng1 (eBor 1)) [8] (.nm 8) tYs (s2 modD (sN intD (aC (s2 ixD (eBor 0) (eBor 8)) aN)) (s2 ixD (sN mkLst (aC (s0 (.int 1)) (aC (s0 (.int 50)) (aC (s2 powD (s0 (.int 10)) (s0 (.int 9))) aN)))) (s2 modD (sN intD (aC (s2 fdivD (s2 ixD (eBor 0) (eBor 8)) (s0 (.int 50))) aN)) (s0 (.int 3))))) [.val (.lst (l.map D.int)), .val (.int (m : Int)), .none, .none, .none, .none, .none, .none, .none] = .ok (.lst (ps.map D.int)) := by
    have z := lc_map (ρ := [.val (.lst (l.map D.int)), .val (.int (m : Int)), .none, .none, .none, .none, .none, .none, .none]) (fi := rng1 (eBor 1)) (vs := [8]) (T := .nm 8) (fc := tYs) (fe := s2 modD (sN intD (aC (s2 ixD (eBor 0) (eBor 8)) aN)) (s2 ixD (sN mkLst (aC (s0 (.int 1)) (aC (s0 (.int 50)) (aC (s2 powD (s0 (.int 10)) (s0 (.int 9))) aN)))) (s2 modD (sN intD (aC (s2 fdivD (s2 ixD (eBor 0) (eBor 8)) (s0 (.int 50))) aN)) (s0 (.int 3))))) (i := fun k : Nat => D.int (k : Int)) (o := fun k : Nat => D.int (l.getD k 0 % smd (l.getD k 0))) (List.range m) (rng1_eq rfl (by omega)) (by rw [List.length_range]; omega) fun k hk => by
      have hk := List.mem_range.mp hk
      refine ⟨_, rfl, rfl, ?_⟩
      have x0 := ix_at2 (k := k) (l := l) (by omega) (f := eBor 0) (f' := eBor 8) (ρ := [.val (.lst (l.map D.int)), .val (.int (m : Int)), .none, .none, .none, .none, .none, .none, .val (.int (k : Int))]) rfl rfl
      have x1 := (s2_eq (op := modD) (sN1 ((s2_eq (op := fdivD) x0 (s0_ok (.int 50) _)).trans (fdiv_ii (by decide) (by decide))) (int_i _)) (s0_ok (.int 3) _)).trans (mod_ii (by decide))
      have x2 := ix3 (mk3 (s0_ok (.int 1) _) (s0_ok (.int 50) _) (pow9 _)) x1 (Int.emod_nonneg _ (by decide)) (Int.emod_lt_of_pos _ (by decide))
      have x3 : (if l.getD k 0 / 50 % 3 = 0 then D.int 1 else if l.getD k 0 / 50 % 3 = 1 then .int 50 else .int 1000000000) = .int (smd (l.getD k 0)) := by
        unfold smd
        split
        · rfl
        · split <;> rfl
      rw [x3] at x2
      exact (s2_eq (op := modD) (sN1 x0 (int_i _)) x2).trans (mod_ii (by have := smd_pos (l.getD k 0); omega))
    rw [hps, List.map_map]
    exact z
  rw [sSeq_nx (sSet_nx e2)]
  show sSeq _ _ [.val (.lst (l.map D.int)), .val (.int (m : Int)), .val (.lst (ps.map D.int)), .none, .none, .none, .none, .none, .none] = _
  have e3 : sN sumD (aC (eBor 2) aN) [.val (.lst (l.map D.int)), .val (.int (m : Int)), .val (.lst (ps.map D.int)), .none, .none, .none, .none, .none, .none] = .ok (.int w) := by
    refine sN1 (d := .lst (ps.map D.int)) rfl ?_
    rw [sum_lst, hw]
  rw [sSeq_nx (sSet_nx e3)]
  show sSeq _ _ [.val (.lst (l.map D.int)), .val (.int (m : Int)), .val (.lst (ps.map D.int)), .val (.int w), .none, .none, .none, .none, .none] = _
  have e4 : iSeq (sN mkTup (aC (s0 (.int 0)) (aC (s2 fdivD (eBor 3) (s0 (.int 2))) (aC (sN max2D (aC (s0 (.int 0)) (aC (s2 subD (eBor 3) (s0 (.int 1))) aN))) (aC (eVar 3) (aC (s2 addD (eBor 3) (s0 (.int 5))) (aC (s2 modD (sN intD (aC (s2 ixD (eBor 0) (s0 (.int 25))) aN)) (s2 addD (eBor 3) (s0 (.int 1)))) aN))))))) [.val (.lst (l.map D.int)), .val (.int (m : Int)), .val (.lst (ps.map D.int)), .val (.int w), .none, .none, .none, .none, .none]
      = .ok ([0, w / 2, (if w - 1 > 0 then w - 1 else 0), w, w + 5, l.getD 25 0 % (w + 1)].map D.int) := by
    have x2 : s2 fdivD (eBor 3) (s0 (.int 2)) [.val (.lst (l.map D.int)), .val (.int (m : Int)), .val (.lst (ps.map D.int)), .val (.int w), .none, .none, .none, .none, .none] = .ok (.int (w / 2)) := (s2_eq (d := .int w) (d' := .int 2) rfl rfl).trans (fdiv_ii (by decide) (by decide))
    have x3 : sN max2D (aC (s0 (.int 0)) (aC (s2 subD (eBor 3) (s0 (.int 1))) aN)) [.val (.lst (l.map D.int)), .val (.int (m : Int)), .val (.lst (ps.map D.int)), .val (.int w), .none, .none, .none, .none, .none] = .ok (.int (if w - 1 > 0 then w - 1 else 0)) := sN2 (d := .int 0) (d' := .int (w - 1)) rfl (s2_eq (op := subD) (d := .int w) (d' := .int 1) rfl rfl) rfl
    have x5 : s2 addD (eBor 3) (s0 (.int 5)) [.val (.lst (l.map D.int)), .val (.int (m : Int)), .val (.lst (ps.map D.int)), .val (.int w), .none, .none, .none, .none, .none] = .ok (.int (w + 5)) := (s2_eq (d := .int w) (d' := .int 5) rfl rfl).trans (add_ii _ _)
    have x6 : s2 modD (sN intD (aC (s2 ixD (eBor 0) (s0 (.int 25))) aN)) (s2 addD (eBor 3) (s0 (.int 1))) [.val (.lst (l.map D.int)), .val (.int (m : Int)), .val (.lst (ps.map D.int)), .val (.int w), .none, .none, .none, .none, .none] = .ok (.int (l.getD 25 0 % (w + 1))) :=
      (s2_eq (op := modD) (sN1 (ix_at2 (k := 25) (l := l) (by omega) rfl rfl) (int_i _)) ((s2_eq (op := addD) (d := .int w) (d' := .int 1) rfl rfl).trans (add_ii _ _))).trans (mod_ii (by omega))
    rw [iSeq_of (mk6 (s0_ok (.int 0) _) x2 x3 (f4 := eVar 3) (d := .int w) rfl x5 x6)]
    rfl
  have am : ∀ a ∈ [0, w / 2, (if w - 1 > 0 then w - 1 else 0), w, w + 5, l.getD 25 0 % (w + 1)], Sums a ps := fun a ha => by
    have z1 := Int.emod_nonneg (l.getD 25 0) (by omega : w + 1 ≠ 0)
    have z2 := Int.emod_lt_of_pos (l.getD 25 0) (by omega : 0 < w + 1)
    simp only [List.mem_cons, List.not_mem_nil, or_false] at ha
    rcases ha with rfl | rfl | rfl | rfl | rfl | rfl
    · exact ok _ (by omega) (by omega)
    · exact ok _ (by omega) (by omega)
    · split
      · exact ok _ (by omega) (by omega)
      · exact ok _ (by omega) (by omega)
    · exact ok _ (by omega) (by omega)
    · exact ok _ (by omega) (by omega)
    · exact ok _ z1 (by omega)
  generalize [0, w / 2, (if w - 1 > 0 then w - 1 else 0), w, w + 5, l.getD 25 0 % (w + 1)] = as at e4 am
  obtain ⟨ρ', ef, t4, t5, t6, t7, t8, rfl⟩ := for_inv (T := .nm 4) (body := (sSeq (sSet 5 (eVar 4))
    (sSeq (sOwn 6 (sN mkLst aN))
    (sSeq (sFor (.nm 7) (iSeq (eVar 2)) OB)
    (sIf (tNt (tD (sN h__law_same (aC (sN h_filled (aC (eVar 4) (aC (sN tupleD (aC (eBor 2) aN)) aN))) (aC (sN mkTup (aC (sN tupleD (aC (eBor 6) aN)) (aC (eVar 5) aN))) aN))))) (sRet (s0 (.bl false))) sNx)))))
    (P := fun ρ => ∃ t4 t5 t6 t7 t8, ρ = [.val (.lst (l.map D.int)), .val (.int (m : Int)), .val (.lst (ps.map D.int)), .val (.int w), t4, t5, t6, t7, t8]) (as.map D.int) [.val (.lst (l.map D.int)), .val (.int (m : Int)), .val (.lst (ps.map D.int)), .val (.int w), .none, .none, .none, .none, .none] (fun d hd ρ ⟨t4, t5, t6, t7, t8, e⟩ => by
      obtain ⟨a, ha, rfl⟩ := List.mem_map.mp hd
      subst e
      have S := am a ha
      obtain ⟨u7, eo⟩ := ob_loop (N := .val (.lst (l.map D.int))) (M := .val (.int (m : Int))) (S := .val (.lst (ps.map D.int))) (W := .val (.int w)) (A := .val (.int a)) (t8 := t8) ps [] a t7 (by simp; omega)
      rw [List.nil_append] at eo
      refine ⟨[.val (.lst (l.map D.int)), .val (.int (m : Int)), .val (.lst (ps.map D.int)), .val (.int w), .val (.int a), t5, t6, t7, t8], [.val (.lst (l.map D.int)), .val (.int (m : Int)), .val (.lst (ps.map D.int)), .val (.int w), .val (.int a), .val (.int (fillR a ps)), .own ((fillG a ps).map D.int), u7, t8], rfl, ?_, _, _, _, _, _, rfl⟩
      rw [sSeq_nx (sSet_nx (d := .int a) rfl)]
      show sSeq _ _ [.val (.lst (l.map D.int)), .val (.int (m : Int)), .val (.lst (ps.map D.int)), .val (.int w), .val (.int a), .val (.int a), t6, t7, t8] = _
      rw [sSeq_nx (sOwn_nx (l := []) rfl)]
      show sSeq _ _ [.val (.lst (l.map D.int)), .val (.int (m : Int)), .val (.lst (ps.map D.int)), .val (.int w), .val (.int a), .val (.int a), .own (([] : List Int).map D.int), t7, t8] = _
      rw [sSeq_nx ((sFor_of (ds := ps.map D.int) rfl).trans eo)]
      have sf := same_fill (fillG a ps) (fillR a ps) (by rw [fillG_len]; omega)
      exact sIf_skip (tNt_ok (tD_bl (sN2 (sN2 (d := .int a) (d' := .tup (ps.map D.int)) rfl rfl (r_filled S)) (sN2 (h := mkTup) (d := .tup ((fillG a ps).map D.int)) (d' := .int (fillR a ps)) rfl rfl rfl) sf))))
    ⟨_, _, _, _, _, rfl⟩
  refine (sSeq_nx ((sFor_of e4).trans ef)).trans ?_
  rfl
end PL
namespace PL
open PySem PySem.Spec L2
/-! N11: the law -/
def WR : List D := [.tup [], .tup [.tup [.int 1, .int 0]], .tup [.tup [.int 1, .int 1], .tup [.str "a", .int 1]], .tup [.tup [.str "ann", .int 1], .tup [.tup [.str "ann"], .int 1]], .tup [.tup [.int 1, .int 1], .tup [.int 1, .int 2]], .tup [.tup [.int 1]], .int 3]
theorem wr_ok : ∀ d ∈ WR, h__law_refused [.int 5, d, .int 2] = .ok (.bl true) := by
  intro d hd
  unfold WR at hd
  rcases List.mem_cons.mp hd with rfl | hd
  · kernel_rfl
  rcases List.mem_cons.mp hd with rfl | hd
  · kernel_rfl
  rcases List.mem_cons.mp hd with rfl | hd
  · kernel_rfl
  rcases List.mem_cons.mp hd with rfl | hd
  · kernel_rfl
  rcases List.mem_cons.mp hd with rfl | hd
  · kernel_rfl
  rcases List.mem_cons.mp hd with rfl | hd
  · kernel_rfl
  rcases List.mem_cons.mp hd with rfl | hd
  · kernel_rfl
  cases hd
theorem last1 : h__law_refused [.int (-1), .tup [.tup [.int 1, .int 1]], .int 1] = .ok (.bl true) := by kernel_rfl
theorem last2 : h__law_refused [.int 5, .tup [.tup [.tup [.str "ann"], .int 1], .tup [.lst [.str "ann"], .int 1]], .int 2] = .ok (.bl true) := by kernel_rfl
theorem last3 : h__law_wrong_filled [.int (-1), .tup [.int 1], .int 1] = .ok (.bl true) := by kernel_rfl
theorem last4 : h__law_wrong_filled [.int 1, .tup [.int 1, .int (-1)], .int 2] = .ok (.bl true) := by kernel_rfl
theorem last5 : h__law_wrong_filled [.int 1, .lst (List.replicate 301 (.int 0)), .int 2] = .ok (.bl true) := by kernel_rfl
theorem law_true (ns : List Int) : h_law [.scr ns] = .ok (.bl true) := by
  unfold h_law f_law
  refine fnD_rt rfl ?_
  show sSeq _ _ [.val (.scr ns), .none, .none, .none] = _
  have ei : rng1 (s0 (.int 6)) [.val (.scr ns), .none, .none, .none] = .ok ((List.range 6).map fun k => D.int (k : Nat)) := rng1_eq rfl (by omega)
  obtain ⟨ρ', e1, t1, t2, rfl⟩ := for_inv (T := .nm 1) (body := (sSeq (sSet 2 (sN h__law_draws (aC (eVar 0) (aC (eVar 1) (aC (s0 (.int 30)) aN)))))
    (sIf (tOr (tNt (tD (sN h__law_shared (aC (eVar 2) aN)))) (tNt (tD (sN h__law_filled (aC (eVar 2) aN))))) (sRet (s0 (.bl false))) sNx)))
    (P := fun ρ => ∃ t1 t2, ρ = [.val (.scr ns), t1, t2, .none]) ((List.range 6).map fun k => D.int (k : Nat)) [.val (.scr ns), .none, .none, .none] (fun d hd ρ ⟨t1, t2, e⟩ => by
      obtain ⟨k, hk, rfl⟩ := List.mem_map.mp hd
      subst e
      obtain ⟨l, hl, hdr, ed⟩ := drws ns k 30 (by omega)
      refine ⟨[.val (.scr ns), .val (.int (k : Int)), t2, .none], [.val (.scr ns), .val (.int (k : Int)), .val (.lst (l.map D.int)), .none], rfl, ?_, _, _, rfl⟩
      rw [sSeq_nx (sSet_nx (sN3 (d := .scr ns) (d' := .int (k : Int)) (d'' := .int 30) rfl rfl rfl ed))]
      show sIf _ _ _ [.val (.scr ns), .val (.int (k : Int)), .val (.lst (l.map D.int)), .none] = _
      exact sIf_skip ((tOr_f (tNt_ok (tD_bl (sN1 (d := .lst (l.map D.int)) rfl (r_law_shared hl hdr))))).trans (tNt_ok (tD_bl (sN1 (d := .lst (l.map D.int)) rfl (r_law_filled hl hdr))))))
    ⟨_, _, rfl⟩
  refine (sSeq_nx ((sFor_of ei).trans e1)).trans ?_
  obtain ⟨t3, e2⟩ := for_nop (i := 3) (body := sIf (tNt (tD (sN h__law_refused (aC (s0 (.int 5)) (aC (eVar 3) (aC (s0 (.int 2)) aN)))))) (sRet (s0 (.bl false))) sNx) WR [.val (.scr ns), t1, t2, .none] fun d hd t =>
    sIf_skip (tNt_ok (tD_bl (sN3 (d := .int 5) (d' := d) (d'' := .int 2) rfl rfl rfl (wr_ok d hd))))
  refine (sSeq_nx ((sFor_of (ds := WR) rfl).trans e2)).trans ?_
  show sSeq _ _ [.val (.scr ns), t1, t2, t3] = _
  rw [sSeq_nx (sIf_skip ((tOr_f (tNt_ok (tD_bl (sN3 (d := .int (-1)) (d' := .tup [.tup [.int 1, .int 1]]) (d'' := .int 1) rfl rfl rfl last1)))).trans (tNt_ok (tD_bl (sN3 (d := .int 5) (d' := .tup [.tup [.tup [.str "ann"], .int 1], .tup [.lst [.str "ann"], .int 1]]) (d'' := .int 2) rfl rfl rfl last2)))))]
  have r301 : s2 repD (sN mkLst (aC (s0 (.int 0)) aN)) (s0 (.int 301)) [.val (.scr ns), t1, t2, t3] = .ok (.lst (List.replicate 301 (.int 0))) := by kernel_rfl
  refine sRet_rt ((sAnd_t (sN3 (d := .int (-1)) (d' := .tup [.int 1]) (d'' := .int 1) rfl rfl rfl last3)).trans ((sAnd_t (sN3 (d := .int 1) (d' := .tup [.int 1, .int (-1)]) (d'' := .int 2) rfl rfl rfl last4)).trans (sN3 (d := .int 1) (d'' := .int 2) rfl r301 rfl last5)))
theorem math : ∀ ns : List Int, ns.length ≤ 63 → (∀ z ∈ ns, Builtin.Int.intBits z ≤ 1048576) → h_law [.scr ns] = .ok (.bl true) := fun ns _ _ => law_true ns
end PL
theorem PySem.Challenge.cw_landhold_k50_shared_and_filled_holds : PySem.Challenge.rw_landhold_k50_shared_and_filled.Holds := by
  exact PL.holds_if PL.math
