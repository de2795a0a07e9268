import PyProof.Rows.All
import Wide.All
import OpenK.AllK
import Wide.FinOn
import KE.KStateDown
import HandS.ForMost
import HandS.Exc
import HandS.ExcOwn
import HandS.WordsExc
import HandS.CallSlots
import HandS.Defaults
import HandS.TupAny
import HandS.Deep
import HandS.TupMul
import HandS.Style
import HandS.IsInst
import HandS.Ends
import HandS.Conv
import HandS.SortInts
import HandS.HeadEnd
import HandS.HeadHook1
import HandS.HeadHook2
import HandS.Head2
import HandS.Iter
import KE.GoesEnum
import HandS.Dict
import HandS.More
import HandS.TupLe
import HandS.Star
import HandS.DictComp
import HandS.DictTup
import KE.DataMinMax
import HandS.SortRule
import HandS.NamedTupSort
import HandS.Text
import HandS.FStr
import HandS.Comp
import HandS.Head0
import HandS.Head1
import PySem.Challenge.RW_lastofkind_k27_faults_of_orders
set_option Elab.async false
set_option linter.all false
set_option maxRecDepth 100000
set_option maxHeartbeats 4000000
/-! VL: a layer by values over the hand layer: data D, a store of changeable objects, results R; every rule is a judgement PE, PS .. whose reading is rdE, rdS .. of a Lean function. -/
namespace VL
open PySem PySem.Spec PyProof.Rows L2

/-- data: tuples and lists that nobody changes are values; obj n is the n-th changeable object -/
inductive D where
  | non | bl (b : Bool) | int (i : Int) | str (x : Str) | tup (ds : List D) | lst (ds : List D) | scr (ds : List D) | obj (n : Nat) | glo (x : Str) | ty (n : String)

inductive O where
  | lst (ds : List D) | dct (kvs : List (D × D)) | dctT (kvs : List (D × D)) | dctL (kvs : List (D × D)) | dctTL (kvs : List (D × D)) | ins (c : Str) (fs : List (Str × D))

abbrev S := List O
abbrev Ev := List (Option D)

inductive R (α : Type) where
  | ok (a : α) (s : S) | exn (c : Str) (fs : Option (List (Str × D))) (ρ : Ev) (s : S) | bad

def R.bnd {α β : Type} (r : R α) (f : α → S → R β) : R β := match r with
  | .ok a s => f a s
  | .exn c fs ρ s => .exn c fs ρ s
  | .bad => .bad
@[simp] theorem R.bnd_ok {α β : Type} (a : α) (s : S) (f : α → S → R β) : (R.ok a s).bnd f = f a s := rfl
@[simp] theorem R.bnd_exn {α β : Type} (c fs ρ) (s : S) (f : α → S → R β) : (R.exn c fs ρ s : R α).bnd f = .exn c fs ρ s := rfl
@[simp] theorem R.bnd_bad {α β : Type} (f : α → S → R β) : (R.bad : R α).bnd f = .bad := rfl

abbrev ME := Ev → S → R D
abbrev MA := Ev → S → R (List D)
abbrev MT := Ev → S → R Bool
inductive Fl where
  | nx (ρ : Ev) | ret (d : D) | bk (ρ : Ev) | ct (ρ : Ev)
abbrev MS := Ev → S → R Fl

structure Cg where
  K : PySem.W.Frag
  mg : Str → Option Value
abbrev cg (X : Cx) : Cg := ⟨X.K, X.mg⟩

def noH : Hp := fun _ => none
/-- where the changeable objects stand; the addresses of lists and dicts that are being made -/
structure Z where
  ad : List Addr
  res : List Addr
def Z.off (z : Z) (a : Addr) : Prop := a ∉ z.ad ∧ a ∉ z.res
def Z.push (z : Z) (a : Addr) : Z := ⟨z.ad ++ [a], z.res⟩
def Z.keep (z : Z) (a : Addr) : Z := ⟨z.ad, a :: z.res⟩
def TupAt (_ : Cg) (ι : Z) (H : Hp) (a : Addr) (xs : List V) : Prop := ι.off a ∧ H a = some (.tup xs)
def LstAt (ι : Z) (H : Hp) (a : Addr) (xs : List V) : Prop := ι.off a ∧ H a = some (.lst xs)
def ScrAt (G : Cg) (ι : Z) (H : Hp) (a : Addr) (xs : List V) : Prop := (ι.off a ∧ Rd H a (.lst xs)) ∨ SqL G.K noH a xs

mutual
def RelD (G : Cg) (ι : Z) (H : Hp) : D → V → Prop
  | .non, v => v = .non
  | .bl b, v => v = .bl b
  | .int i, v => v = .int i
  | .str x, v => v = .str x
  | .tup ds, v => ∃ a xs, v = .ref a ∧ TupAt G ι H a xs ∧ RelDs G ι H ds xs
  | .lst ds, v => ∃ a xs, v = .ref a ∧ LstAt ι H a xs ∧ RelDs G ι H ds xs
  | .scr ds, v => ∃ a xs, v = .ref a ∧ ScrAt G ι H a xs ∧ RelDs G ι H ds xs
  | .obj n, v => ∃ a, v = .ref a ∧ ι.ad[n]? = some a
  | .glo x, v => ∃ a, v = .ref a ∧ G.mg x = some (.ref a)
  | .ty n, v => v = .ty n
def RelDs (G : Cg) (ι : Z) (H : Hp) : List D → List V → Prop
  | [], xs => xs = []
  | d :: ds, xs => ∃ x r, xs = x :: r ∧ RelD G ι H d x ∧ RelDs G ι H ds r
end

theorem rd_noH {a : Addr} {o : HO} : ¬ Rd noH a o := fun h => by
  rcases h with h | ⟨_, h⟩ <;> cases h
theorem sqT_noH {K : PySem.W.Frag} {H : Hp} {a : Addr} {xs : List V} (h : SqT K noH a xs) : SqT K H a xs := by
  rcases h with h | h
  · exact absurd h rd_noH
  · exact .inr h
theorem sqL_noH {K : PySem.W.Frag} {H : Hp} {a : Addr} {xs : List V} (h : SqL K noH a xs) : SqL K H a xs := by
  rcases h with h | h
  · exact absurd h rd_noH
  · exact .inr h
theorem TupAt.sq {G : Cg} {ι H a xs} (h : TupAt G ι H a xs) : SqT G.K H a xs := .inl (.inl h.2)
theorem LstAt.sq {G : Cg} {ι H a xs} (h : LstAt ι H a xs) : SqL G.K H a xs := .inl (.inl h.2)
theorem ScrAt.sq {G : Cg} {ι H a xs} (h : ScrAt G ι H a xs) : SqL G.K H a xs := by
  rcases h with ⟨_, h⟩ | h
  · exact .inl h
  · exact sqL_noH h

/-- what nobody changes any more -/
def fixO : HO → Bool
  | .tup _ => true
  | .frz _ _ => true
  | _ => false
theorem nfix {H : Hp} {a : Addr} {o : HO} (h : H a = some o) (k : fixO o = false) : ∀ o', H a = some o' → fixO o' = false := fun o' e => by
  rw [h] at e
  cases e
  exact k
/-- what has become of the heap, seen by data -/
structure ExtW (ι : Z) (H : Hp) (ι' : Z) (H' : Hp) : Prop where
  get : ∀ (n : Nat) (a : Addr), ι.ad[n]? = some a → ι'.ad[n]? = some a
  off : ∀ a, ι.off a → H a ≠ none → ι'.off a
  keep : ∀ a o, ι.off a → H a = some o → H' a = some o
  fix : ∀ a o, fixO o = true → H a = some o → H' a = some o
/-- .. what a piece of the program does: everything tracked that is no changeable object stands as it stood -/
structure Ext (ι : Z) (H : Hp) (ι' : Z) (H' : Hp) : Prop where
  more : ∃ μ, ι'.ad = ι.ad ++ μ ∧ ∀ a ∈ μ, H a = none
  res : ι'.res = ι.res
  keep : ∀ a o, a ∉ ι.ad → H a = some o → H' a = some o
  dom : ∀ a, H a ≠ none → H' a ≠ none
  fix : ∀ a o, fixO o = true → H a = some o → H' a = some o

theorem Ext.refl (ι H) : Ext ι H ι H := ⟨⟨[], by simp, by simp⟩, rfl, fun _ _ _ h => h, fun _ h => h, fun _ _ _ h => h⟩
theorem Ext.trans {ι H ι1 H1 ι2 H2} (e : Ext ι H ι1 H1) (f : Ext ι1 H1 ι2 H2) : Ext ι H ι2 H2 := by
  obtain ⟨μ, e1, e2⟩ := e.more
  obtain ⟨ν, f1, f2⟩ := f.more
  refine ⟨⟨μ ++ ν, by rw [f1, e1, List.append_assoc], fun a ha => ?_⟩, f.res.trans e.res, fun a o n h => ?_, fun a h => f.dom a (e.dom a h), fun a o k h => f.fix a o k (e.fix a o k h)⟩
  · rcases List.mem_append.mp ha with h | h
    · exact e2 a h
    · have := f2 a h
      cases q : H a with
      | none => rfl
      | some o => exact absurd this (e.dom a (by rw [q]; simp))
  · refine f.keep a o (fun z => ?_) (e.keep a o n h)
    rw [e1] at z
    rcases List.mem_append.mp z with z | z
    · exact n z
    · rw [e2 a z] at h; cases h
theorem Ext.new {ι H p o} (h : H p = none) : Ext ι H ι (upd H p o) :=
  ⟨⟨[], by simp, by simp⟩, rfl, fun a u _ q => by rw [upd_ne (ne_of_none q h)]; exact q, fun a q => by
    by_cases e : a = p
    · subst e; exact absurd h q
    · rw [upd_ne e]; exact q, fun a u _ q => by rw [upd_ne (ne_of_none q h)]; exact q⟩
theorem Ext.newObj {ι : Z} {H p o} (h : H p = none) : Ext ι H (ι.push p) (upd H p o) :=
  ⟨⟨[p], rfl, fun a ha => by rw [List.mem_singleton.mp ha]; exact h⟩, rfl, (Ext.new (ι := ι) h).keep, (Ext.new (ι := ι) h).dom, (Ext.new (ι := ι) h).fix⟩
theorem Ext.write {ι : Z} {H a o} (h : a ∈ ι.ad) (hn : ∀ o', H a = some o' → fixO o' = false) : Ext ι H ι (upd H a o) :=
  ⟨⟨[], by simp, by simp⟩, rfl, fun b u n q => by rw [upd_ne (show b ≠ a from fun e => n (by rw [e]; exact h))]; exact q, fun b q => by
    by_cases e : b = a
    · subst e; rw [upd_same]; simp
    · rw [upd_ne e]; exact q, fun b u k q => by
    rw [upd_ne (show b ≠ a from fun e => by
      subst e
      have := hn u q
      rw [k] at this
      cases this)]
    exact q⟩
theorem Ext.mem {ι H ι' H'} (e : Ext ι H ι' H') {a} (h : a ∈ ι.ad) : a ∈ ι'.ad := by
  obtain ⟨μ, e1, _⟩ := e.more
  rw [e1]; exact List.mem_append_left _ h
theorem Ext.get {ι H ι' H'} (e : Ext ι H ι' H') {n : Nat} {a : Addr} (h : ι.ad[n]? = some a) : ι'.ad[n]? = some a := by
  obtain ⟨μ, e1, _⟩ := e.more
  rw [e1, List.getElem?_append_left (List.getElem?_eq_some_iff.mp h).1]; exact h
theorem Ext.nin {ι H ι' H'} (e : Ext ι H ι' H') {a} (n : a ∉ ι.ad) (h : H a ≠ none) : a ∉ ι'.ad := by
  obtain ⟨μ, e1, e2⟩ := e.more
  rw [e1]
  intro z
  rcases List.mem_append.mp z with z | z
  · exact n z
  · exact h (e2 a z)
theorem Ext.w {ι H ι' H'} (e : Ext ι H ι' H') : ExtW ι H ι' H' := ⟨fun _ _ h => e.get h, fun a n h => ⟨e.nin n.1 h, by rw [e.res]; exact n.2⟩, fun a o n h => e.keep a o n.1 h, e.fix⟩
theorem ExtW.trans {ι H ι1 H1 ι2 H2} (e : ExtW ι H ι1 H1) (f : ExtW ι1 H1 ι2 H2) : ExtW ι H ι2 H2 :=
  ⟨fun n a h => f.get n a (e.get n a h), fun a n h => f.off a (e.off a n h) (by
    cases q : H a with
    | none => exact absurd q h
    | some o => rw [e.keep a o n q]; simp), fun a o n h => f.keep a o (e.off a n (by rw [h]; simp)) (e.keep a o n h), fun a o k h => f.fix a o k (e.fix a o k h)⟩
theorem ExtW.rd {ι H ι' H'} (e : ExtW ι H ι' H') {a o} (n : ι.off a) (h : Rd H a o) : Rd H' a o := by
  rcases h with h | ⟨u, h⟩
  · exact .inl (e.keep a _ n h)
  · exact .inr ⟨u, e.keep a _ n h⟩
theorem rd_ne {H : Hp} {a o} (h : Rd H a o) : H a ≠ none := by
  rcases h with h | ⟨_, h⟩ <;> (rw [h]; simp)
theorem TupAt.monoW {G ι H ι' H' a xs} (e : ExtW ι H ι' H') (h : TupAt G ι H a xs) : TupAt G ι' H' a xs :=
  ⟨e.off _ h.1 (by rw [h.2]; simp), e.keep a _ h.1 h.2⟩
theorem LstAt.monoW {ι H ι' H' a xs} (e : ExtW ι H ι' H') (h : LstAt ι H a xs) : LstAt ι' H' a xs :=
  ⟨e.off _ h.1 (by rw [h.2]; simp), e.keep a _ h.1 h.2⟩
theorem ScrAt.monoW {G ι H ι' H' a xs} (e : ExtW ι H ι' H') (h : ScrAt G ι H a xs) : ScrAt G ι' H' a xs := by
  rcases h with ⟨n, h⟩ | h
  · exact .inl ⟨e.off _ n (rd_ne h), e.rd n h⟩
  · exact .inr h
mutual
theorem RelD.monoW {G ι H ι' H'} (e : ExtW ι H ι' H') : ∀ (d : D) {v : V}, RelD G ι H d v → RelD G ι' H' d v
  | .non, v, h => by simpa only [RelD] using h
  | .bl b, v, h => by simpa only [RelD] using h
  | .int i, v, h => by simpa only [RelD] using h
  | .str x, v, h => by simpa only [RelD] using h
  | .tup ds, v, h => by
    simp only [RelD] at h ⊢
    obtain ⟨a, xs, h1, h2, h3⟩ := h
    exact ⟨a, xs, h1, h2.monoW e, RelDs.monoW e ds h3⟩
  | .lst ds, v, h => by
    simp only [RelD] at h ⊢
    obtain ⟨a, xs, h1, h2, h3⟩ := h
    exact ⟨a, xs, h1, h2.monoW e, RelDs.monoW e ds h3⟩
  | .scr ds, v, h => by
    simp only [RelD] at h ⊢
    obtain ⟨a, xs, h1, h2, h3⟩ := h
    exact ⟨a, xs, h1, h2.monoW e, RelDs.monoW e ds h3⟩
  | .obj n, v, h => by
    simp only [RelD] at h ⊢
    obtain ⟨a, h1, h2⟩ := h
    exact ⟨a, h1, e.get _ _ h2⟩
  | .glo x, v, h => by simpa only [RelD] using h
  | .ty n, v, h => by simpa only [RelD] using h
theorem RelDs.monoW {G ι H ι' H'} (e : ExtW ι H ι' H') : ∀ (ds : List D) {vs : List V}, RelDs G ι H ds vs → RelDs G ι' H' ds vs
  | [], vs, h => by simpa only [RelDs] using h
  | d :: ds, vs, h => by
    simp only [RelDs] at h ⊢
    obtain ⟨x, r, h1, h2, h3⟩ := h
    exact ⟨x, r, h1, RelD.monoW e d h2, RelDs.monoW e ds h3⟩
end
theorem TupAt.mono {G ι H ι' H' a xs} (e : Ext ι H ι' H') (h : TupAt G ι H a xs) : TupAt G ι' H' a xs := h.monoW e.w
theorem LstAt.mono {ι H ι' H' a xs} (e : Ext ι H ι' H') (h : LstAt ι H a xs) : LstAt ι' H' a xs := h.monoW e.w
theorem ScrAt.mono {G ι H ι' H' a xs} (e : Ext ι H ι' H') (h : ScrAt G ι H a xs) : ScrAt G ι' H' a xs := h.monoW e.w
theorem RelD.mono {G ι H ι' H'} (e : Ext ι H ι' H') {d : D} {v : V} (h : RelD G ι H d v) : RelD G ι' H' d v := RelD.monoW e.w d h
theorem RelDs.mono {G ι H ι' H'} (e : Ext ι H ι' H') {ds : List D} {vs : List V} (h : RelDs G ι H ds vs) : RelDs G ι' H' ds vs := RelDs.monoW e.w ds h
section
variable {G : Cg} {ι : Z} {H : Hp}
theorem RelDs.len : ∀ {ds : List D} {vs : List V}, RelDs G ι H ds vs → vs.length = ds.length
  | [], vs, h => by simp only [RelDs] at h; subst h; rfl
  | d :: ds, vs, h => by
    simp only [RelDs] at h
    obtain ⟨x, r, rfl, _, h3⟩ := h
    simp [RelDs.len h3]
theorem RelDs.get : ∀ {ds : List D} {vs : List V} {i : Nat} {d : D}, RelDs G ι H ds vs → ds[i]? = some d → ∃ v, vs[i]? = some v ∧ RelD G ι H d v
  | [], vs, i, d, h, e => by simp at e
  | x :: ds, vs, 0, d, h, e => by
    simp only [RelDs] at h
    obtain ⟨y, r, rfl, h2, h3⟩ := h
    simp at e; subst e
    exact ⟨y, rfl, h2⟩
  | x :: ds, vs, i + 1, d, h, e => by
    simp only [RelDs] at h
    obtain ⟨y, r, rfl, h2, h3⟩ := h
    obtain ⟨v, e1, e2⟩ := RelDs.get (i := i) h3 (by simpa using e)
    exact ⟨v, by simpa using e1, e2⟩
theorem RelDs.get' : ∀ {ds : List D} {vs : List V} {i : Nat} {v : V}, RelDs G ι H ds vs → vs[i]? = some v → ∃ d, ds[i]? = some d ∧ RelD G ι H d v
  | [], vs, i, v, h, e => by simp only [RelDs] at h; subst h; simp at e
  | x :: ds, vs, 0, v, h, e => by
    simp only [RelDs] at h
    obtain ⟨y, r, rfl, h2, h3⟩ := h
    simp at e; subst e
    exact ⟨x, rfl, h2⟩
  | x :: ds, vs, i + 1, v, h, e => by
    simp only [RelDs] at h
    obtain ⟨y, r, rfl, h2, h3⟩ := h
    obtain ⟨d, e1, e2⟩ := RelDs.get' (i := i) h3 (by simpa using e)
    exact ⟨d, by simpa using e1, e2⟩
theorem RelDs.app : ∀ {ds es : List D} {vs ws : List V}, RelDs G ι H ds vs → RelDs G ι H es ws → RelDs G ι H (ds ++ es) (vs ++ ws)
  | [], es, vs, ws, h, k => by simp only [RelDs] at h; subst h; exact k
  | d :: ds, es, vs, ws, h, k => by
    simp only [RelDs] at h
    obtain ⟨x, r, rfl, h2, h3⟩ := h
    have := RelDs.app h3 k
    simp only [List.cons_append, RelDs]
    exact ⟨x, r ++ ws, rfl, h2, this⟩
theorem RelDs.one {d : D} {v : V} (h : RelD G ι H d v) : RelDs G ι H [d] [v] := by
  simp only [RelDs]; exact ⟨v, [], rfl, h, rfl⟩
theorem RelDs.cons {d : D} {v : V} {ds vs} (h : RelD G ι H d v) (k : RelDs G ι H ds vs) : RelDs G ι H (d :: ds) (v :: vs) := by
  simp only [RelDs]; exact ⟨v, vs, rfl, h, k⟩
theorem RelDs.nil : RelDs G ι H [] [] := by simp only [RelDs]
theorem RelDs.take : ∀ (n : Nat) {ds : List D} {vs : List V}, RelDs G ι H ds vs → RelDs G ι H (ds.take n) (vs.take n)
  | 0, ds, vs, _ => by simp only [List.take_zero]; exact .nil
  | n + 1, [], vs, h => by simp only [RelDs] at h; subst h; simp only [List.take_nil]; exact .nil
  | n + 1, d :: ds, vs, h => by
    simp only [RelDs] at h
    obtain ⟨x, r, rfl, h2, h3⟩ := h
    simp only [List.take_succ_cons]
    exact .cons h2 (RelDs.take n h3)
theorem RelDs.drop : ∀ (n : Nat) {ds : List D} {vs : List V}, RelDs G ι H ds vs → RelDs G ι H (ds.drop n) (vs.drop n)
  | 0, ds, vs, h => h
  | n + 1, [], vs, h => by simp only [RelDs] at h; subst h; simp only [List.drop_nil]; exact .nil
  | n + 1, d :: ds, vs, h => by
    simp only [RelDs] at h
    obtain ⟨x, r, rfl, h2, h3⟩ := h
    simp only [List.drop_succ_cons]
    exact RelDs.drop n h3
theorem RelDs.set {d : D} {v : V} (k : RelD G ι H d v) : ∀ (n : Nat) {ds : List D} {vs : List V}, RelDs G ι H ds vs → RelDs G ι H (ds.set n d) (vs.set n v)
  | _, [], vs, h => by simp only [RelDs] at h; subst h; exact .nil
  | 0, x :: ds, vs, h => by
    simp only [RelDs] at h
    obtain ⟨y, r, rfl, h2, h3⟩ := h
    exact .cons k h3
  | n + 1, x :: ds, vs, h => by
    simp only [RelDs] at h
    obtain ⟨y, r, rfl, h2, h3⟩ := h
    exact .cons h2 (RelDs.set k n h3)
theorem RelDs.rev {ds : List D} {vs : List V} (h : RelDs G ι H ds vs) : RelDs G ι H ds.reverse vs.reverse := by
  induction ds generalizing vs with
  | nil => simp only [RelDs] at h; subst h; exact .nil
  | cons d ds ih =>
    simp only [RelDs] at h
    obtain ⟨x, r, rfl, h2, h3⟩ := h
    simp only [List.reverse_cons]
    exact (ih h3).app (.one h2)
theorem RelDs.ints {ns : List Int} : ∀ {vs : List V}, RelDs G ι H (ns.map D.int) vs → vs = ns.map V.int := by
  induction ns with
  | nil => intro vs h; simpa only [RelDs, List.map_nil] using h
  | cons n ns ih =>
    intro vs h
    simp only [List.map_cons, RelDs, RelD] at h
    obtain ⟨x, r, rfl, rfl, h3⟩ := h
    rw [ih h3]; rfl
theorem RelDs.ofInts {ns : List Int} : RelDs G ι H (ns.map D.int) (ns.map V.int) := by
  induction ns with
  | nil => exact .nil
  | cons n ns ih => exact .cons (by simp only [RelD]) ih
end

/-- keys of dicts -/
def keyD : D → Option Key
  | .int i => some (.inl i)
  | .str x => some (.inr x)
  | _ => none
def keyDs : List D → Option (List Key)
  | [] => some []
  | d :: ds => match keyD d, keyDs ds with
    | some k, some ks => some (k :: ks)
    | _, _ => none
def keyT : D → Option (List Key)
  | .tup ds => keyDs ds
  | _ => none

def RelO (G : Cg) (ι : Z) (H : Hp) (a : Addr) : O → Prop
  | .lst ds => ∃ xs, H a = some (.lst xs) ∧ RelDs G ι H ds xs
  | .dct kvs => ∃ ks : List (Key × V), H a = some (.dK ks) ∧ Paired (fun (p : D × D) q => keyD p.1 = some q.1 ∧ RelD G ι H p.2 q.2) kvs ks
  | .dctT kvs => ∃ ks : List (List Key × V), H a = some (.dT ks) ∧ Paired (fun (p : D × D) q => keyT p.1 = some q.1 ∧ RelD G ι H p.2 q.2) kvs ks
  | .dctL kvs => ∃ o, ∃ ks : List (Key × V), H a = some (.frz o (.dK ks)) ∧ Paired (fun (p : D × D) q => keyD p.1 = some q.1 ∧ RelD G ι H p.2 q.2) kvs ks
  | .dctTL kvs => ∃ o, ∃ ks : List (List Key × V), H a = some (.frz o (.dT ks)) ∧ Paired (fun (p : D × D) q => keyT p.1 = some q.1 ∧ RelD G ι H p.2 q.2) kvs ks
  | .ins c fs => ∃ C dx gs, G.mg c = some (.ref C) ∧ H a = some (.ins C dx gs) ∧ Paired (fun (p : Str × D) q => p.1 = q.1 ∧ RelD G ι H p.2 q.2) fs gs

theorem RelO.tr {G ι H a o} (h : RelO G ι H a o) : H a ≠ none := by
  cases o with
  | lst ds => obtain ⟨xs, h, _⟩ := h; rw [h]; simp
  | dct kvs => obtain ⟨xs, h, _⟩ := h; rw [h]; simp
  | dctT kvs => obtain ⟨xs, h, _⟩ := h; rw [h]; simp
  | dctL kvs => obtain ⟨o, xs, h, _⟩ := h; rw [h]; simp
  | dctTL kvs => obtain ⟨o, xs, h, _⟩ := h; rw [h]; simp
  | ins c fs => obtain ⟨C, dx, gs, _, h, _⟩ := h; rw [h]; simp
theorem RelO.monoW {G ι H ι' H' a o} (e : ExtW ι H ι' H') (k : H' a = H a) (h : RelO G ι H a o) : RelO G ι' H' a o := by
  cases o with
  | lst ds => obtain ⟨xs, h, r⟩ := h; exact ⟨xs, k.trans h, RelDs.monoW e _ r⟩
  | dct kvs =>
    obtain ⟨xs, h, r⟩ := h
    exact ⟨xs, k.trans h, Paired.mapP r fun _ _ z => ⟨z.1, RelD.monoW e _ z.2⟩⟩
  | dctT kvs =>
    obtain ⟨xs, h, r⟩ := h
    exact ⟨xs, k.trans h, Paired.mapP r fun _ _ z => ⟨z.1, RelD.monoW e _ z.2⟩⟩
  | dctL kvs =>
    obtain ⟨o, xs, h, r⟩ := h
    exact ⟨o, xs, k.trans h, Paired.mapP r fun _ _ z => ⟨z.1, RelD.monoW e _ z.2⟩⟩
  | dctTL kvs =>
    obtain ⟨o, xs, h, r⟩ := h
    exact ⟨o, xs, k.trans h, Paired.mapP r fun _ _ z => ⟨z.1, RelD.monoW e _ z.2⟩⟩
  | ins c fs =>
    obtain ⟨C, dx, gs, h1, h, r⟩ := h
    exact ⟨C, dx, gs, h1, k.trans h, Paired.mapP r fun _ _ z => ⟨z.1, RelD.monoW e _ z.2⟩⟩

theorem RelO.mono {G ι H ι' H' a o} (e : Ext ι H ι' H') (k : H' a = H a) (h : RelO G ι H a o) : RelO G ι' H' a o := h.monoW e.w k

structure Sim (G : Cg) (ι : Z) (H : Hp) (s : S) : Prop where
  len : ι.ad.length = s.length
  nd : ι.ad.Nodup
  at_ : ∀ (n : Nat) (o : O) (a : Addr), s[n]? = some o → ι.ad[n]? = some a → RelO G ι H a o
  rs : ∀ a ∈ ι.res, (∃ o, H a = some o ∧ fixO o = false) ∧ a ∉ ι.ad
section
variable {G : Cg} {ι : Z} {H : Hp} {s : S}
theorem Sim.addr (q : Sim G ι H s) {n : Nat} {o : O} (h : s[n]? = some o) : ∃ a, ι.ad[n]? = some a ∧ a ∈ ι.ad ∧ RelO G ι H a o := by
  have hl : n < ι.ad.length := by rw [q.len]; exact (List.getElem?_eq_some_iff.mp h).1
  exact ⟨ι.ad[n], List.getElem?_eq_getElem hl, List.getElem_mem hl, q.at_ n o _ h (List.getElem?_eq_getElem hl)⟩
theorem Sim.tr (q : Sim G ι H s) {a : Addr} (h : a ∈ ι.ad) : H a ≠ none := by
  obtain ⟨n, hn, e⟩ := List.getElem_of_mem h
  have hl : n < s.length := by rw [← q.len]; exact hn
  exact (q.at_ n s[n] a (List.getElem?_eq_getElem hl) (by rw [List.getElem?_eq_getElem hn, e])).tr
theorem Sim.off (q : Sim G ι H s) {a : Addr} (h : H a = none) : ι.off a := ⟨fun z => q.tr z h, fun z => by
  obtain ⟨o, e, _⟩ := (q.rs a z).1
  rw [h] at e
  cases e⟩
theorem Sim.rsn (q : Sim G ι H s) {a : Addr} (h : a ∈ ι.res) : ∀ o', H a = some o' → fixO o' = false := by
  obtain ⟨o, e, k⟩ := (q.rs a h).1
  exact nfix e k
theorem RelO.ntup {a : Addr} {o : O} (h : RelO G ι H a o) (xs : List V) : H a ≠ some (.tup xs) := by
  cases o with
  | lst ds => obtain ⟨xs, h, _⟩ := h; rw [h]; simp
  | dct kvs => obtain ⟨xs, h, _⟩ := h; rw [h]; simp
  | dctT kvs => obtain ⟨xs, h, _⟩ := h; rw [h]; simp
  | dctL kvs => obtain ⟨o, xs, h, _⟩ := h; rw [h]; simp
  | dctTL kvs => obtain ⟨o, xs, h, _⟩ := h; rw [h]; simp
  | ins c fs => obtain ⟨C, dx, gs, _, h, _⟩ := h; rw [h]; simp
theorem Sim.tup_off (q : Sim G ι H s) {a : Addr} {xs : List V} (h : H a = some (.tup xs)) : ι.off a := ⟨fun z => by
  obtain ⟨n, hn, e⟩ := List.getElem_of_mem z
  have hl : n < s.length := by rw [← q.len]; exact hn
  exact (q.at_ n s[n] a (List.getElem?_eq_getElem hl) (by rw [List.getElem?_eq_getElem hn, e])).ntup xs h, fun z => by
  have := q.rsn z _ h
  cases this⟩
theorem Sim.ext {H' : Hp} (q : Sim G ι H s) (e : Ext ι H ι H') (k : ∀ a ∈ ι.ad, H' a = H a) : Sim G ι H' s :=
  ⟨q.len, q.nd, fun n o a h1 h2 => (q.at_ n o a h1 h2).mono e (k a (List.mem_of_getElem? h2)), fun a h => by
    obtain ⟨⟨o, e1, e2⟩, n⟩ := q.rs a h
    exact ⟨⟨o, e.keep a o n e1, e2⟩, n⟩⟩
theorem Sim.new {p : Addr} {o : HO} (q : Sim G ι H s) (h : H p = none) : Sim G ι (upd H p o) s :=
  q.ext (.new h) fun a ha => upd_ne fun e => q.tr ha (e ▸ h)
/-- a new object joins, its address new to the changeable ones -/
theorem Sim.join {ι' : Z} {H' : Hp} {p : Addr} {o : O} (q : Sim G ι H s) (hp : p ∉ ι.ad) (ha : ι'.ad = ι.ad ++ [p]) (hr : ∀ a ∈ ι'.res, a ∈ ι.res ∧ a ≠ p) (e : ExtW ι H ι' H') (k : ∀ a ∈ ι.ad, H' a = H a) (kr : ∀ a ∈ ι'.res, H' a = H a) (r : RelO G ι' H' p o) :
    Sim G ι' H' (s ++ [o]) := by
  refine ⟨by rw [ha]; simp [q.len], by rw [ha]; exact List.nodup_append.mpr ⟨q.nd, by simp, fun a ha b hb e => hp (by rw [← List.mem_singleton.mp hb, ← e]; exact ha)⟩, fun n u a h1 h2 => ?_, fun a h => ?_⟩
  · rw [ha] at h2
    by_cases hn : n < s.length
    · rw [List.getElem?_append_left hn] at h1
      rw [List.getElem?_append_left (by rw [q.len]; exact hn)] at h2
      exact (q.at_ n u a h1 h2).monoW e (k a (List.mem_of_getElem? h2))
    · have hn2 : n = s.length := by
        have := (List.getElem?_eq_some_iff.mp h1).1
        simp at this; omega
      subst hn2
      rw [List.getElem?_append_right (Nat.le_refl _)] at h1
      rw [List.getElem?_append_right (by rw [q.len]; exact Nat.le_refl _), q.len] at h2
      simp at h1 h2
      subst h1 h2
      exact r
  · obtain ⟨h1, h2⟩ := hr a h
    refine ⟨by rw [kr a h]; exact (q.rs a h1).1, ?_⟩
    rw [ha]
    intro z
    rcases List.mem_append.mp z with z | z
    · exact (q.rs a h1).2 z
    · exact h2 (List.mem_singleton.mp z)
theorem Sim.newObj {p : Addr} {ho : HO} {o : O} (q : Sim G ι H s) (h : H p = none) (r : RelO G (ι.push p) (upd H p ho) p o) : Sim G (ι.push p) (upd H p ho) (s ++ [o]) :=
  q.join (q.off h).1 rfl (fun a ha => ⟨ha, fun e => (q.off h).2 (e ▸ ha)⟩) (Ext.newObj h).w (fun a ha => upd_ne fun e => q.tr ha (e ▸ h)) (fun a ha => upd_ne fun e => (q.off h).2 (e ▸ ha)) r
theorem Sim.write {n : Nat} {a : Addr} {ho : HO} {o : O} (q : Sim G ι H s) (h : ι.ad[n]? = some a) (hn : ∀ o', H a = some o' → fixO o' = false) (r : RelO G ι (upd H a ho) a o) : Sim G ι (upd H a ho) (s.set n o) := by
  refine ⟨by simp [q.len], q.nd, fun m u b h1 h2 => ?_, fun b h2 => by
    obtain ⟨⟨u, e1, e2⟩, n2⟩ := q.rs b h2
    exact ⟨⟨u, by rw [upd_ne (show b ≠ a from fun e => n2 (by rw [e]; exact List.mem_of_getElem? h))]; exact e1, e2⟩, n2⟩⟩
  by_cases hm : m = n
  · subst hm
    have hl : m < s.length := by rw [← q.len]; exact (List.getElem?_eq_some_iff.mp h).1
    rw [List.getElem?_set_self hl] at h1
    rw [h] at h2
    cases h1; cases h2
    exact r
  · rw [List.getElem?_set_ne (Ne.symm hm)] at h1
    have hb : b ≠ a := fun e => by
      subst e
      obtain ⟨l1, e1⟩ := List.getElem?_eq_some_iff.mp h
      obtain ⟨l2, e2⟩ := List.getElem?_eq_some_iff.mp h2
      exact hm ((List.getElem_inj q.nd).mp (e2.trans e1.symm))
    exact (q.at_ m u b h1 h2).mono (.write (List.mem_of_getElem? h) hn) (upd_ne hb)
/-- a list that is being made -/
theorem Ext.toKeep {p : Addr} {ho : HO} (q : Sim G ι H s) (h : H p = none) : ExtW ι H (ι.keep p) (upd H p ho) :=
  ⟨fun _ _ h => h, fun a n k => ⟨n.1, fun z => by
    rcases List.mem_cons.mp z with e | z
    · exact k (e ▸ h)
    · exact n.2 z⟩, fun a o n k => by rw [upd_ne (ne_of_none k h)]; exact k, fun a o _ k => by rw [upd_ne (ne_of_none k h)]; exact k⟩
theorem Sim.toKeep {p : Addr} {ho : HO} (q : Sim G ι H s) (h : H p = none) (hf : fixO ho = false) : Sim G (ι.keep p) (upd H p ho) s :=
  ⟨q.len, q.nd, fun n o a h1 h2 => (q.at_ n o a h1 h2).monoW (Ext.toKeep q h) (upd_ne fun e => q.tr (List.mem_of_getElem? h2) (e ▸ h)), fun a ha => by
    rcases List.mem_cons.mp ha with e | z
    · subst e; exact ⟨⟨ho, upd_same, hf⟩, (q.off h).1⟩
    · obtain ⟨⟨u, e1, e2⟩, n2⟩ := q.rs a z
      exact ⟨⟨u, by rw [upd_ne (ne_of_none e1 h)]; exact e1, e2⟩, n2⟩⟩
theorem ExtW.inKeep {p : Addr} {ho : HO} (h : p ∈ ι.res) (hn : ∀ o', H p = some o' → fixO o' = false) : ExtW ι H ι (upd H p ho) :=
  ⟨fun _ _ h => h, fun _ n _ => n, fun a o n k => by rw [upd_ne (show a ≠ p from fun e => n.2 (by rw [e]; exact h))]; exact k, fun b u k q => by
    rw [upd_ne (show b ≠ p from fun e => by
      subst e
      have := hn u q
      rw [k] at this
      cases this)]
    exact q⟩
theorem Sim.inKeep {p : Addr} {ho : HO} (q : Sim G ι H s) (h : p ∈ ι.res) (hf : fixO ho = false) : Sim G ι (upd H p ho) s :=
  ⟨q.len, q.nd, fun n o a h1 h2 => (q.at_ n o a h1 h2).monoW (.inKeep h (q.rsn h)) (upd_ne fun e => (q.rs p h).2 (e ▸ List.mem_of_getElem? h2)), fun a ha => ⟨by
    by_cases e : a = p
    · subst e; exact ⟨ho, upd_same, hf⟩
    · rw [upd_ne e]; exact (q.rs a ha).1, (q.rs a ha).2⟩⟩
/-- it is made -/
theorem ExtW.ofKeep {p : Addr} {r : List Addr} (hr : ι.res = p :: r) : ExtW ι H ⟨ι.ad, r⟩ H :=
  ⟨fun _ _ h => h, fun _ n _ => ⟨n.1, fun z => n.2 (by rw [hr]; exact List.mem_cons_of_mem _ z)⟩, fun _ _ _ k => k, fun _ _ _ k => k⟩
theorem Sim.ofKeep {p : Addr} {r : List Addr} (q : Sim G ι H s) (hr : ι.res = p :: r) : Sim G ⟨ι.ad, r⟩ H s :=
  ⟨q.len, q.nd, fun n o a h1 h2 => (q.at_ n o a h1 h2).monoW (.ofKeep hr) rfl, fun a ha => q.rs a (by rw [hr]; exact List.mem_cons_of_mem _ ha)⟩
/-- .. and is a changeable object from here on -/
theorem ExtW.adopt {p : Addr} {r : List Addr} (hr : ι.res = p :: r) : ExtW ι H ⟨ι.ad ++ [p], r⟩ H :=
  ⟨fun n a h => by
    show (ι.ad ++ [p])[n]? = _
    rw [List.getElem?_append_left (List.getElem?_eq_some_iff.mp h).1]; exact h, fun a n _ => ⟨fun z => by
    rcases List.mem_append.mp z with z | z
    · exact n.1 z
    · exact n.2 (by rw [hr, List.mem_singleton.mp z]; exact List.mem_cons_self ..), fun z => n.2 (by rw [hr]; exact List.mem_cons_of_mem _ z)⟩, fun _ _ _ k => k, fun _ _ _ k => k⟩
theorem Sim.adopt {p : Addr} {r : List Addr} {o : O} (q : Sim G ι H s) (hr : ι.res = p :: r) (hn : p ∉ r) (ro : RelO G ⟨ι.ad ++ [p], r⟩ H p o) : Sim G ⟨ι.ad ++ [p], r⟩ H (s ++ [o]) :=
  q.join (q.rs p (by rw [hr]; exact List.mem_cons_self ..)).2 rfl (fun a ha => ⟨by rw [hr]; exact List.mem_cons_of_mem _ ha, fun e => hn (e ▸ ha)⟩) (.adopt hr) (fun _ _ => rfl) (fun _ _ => rfl) ro
end

/-- the frame's slots -/
def EnvR (G : Cg) (ι : Z) (H : Hp) (σ : L2.St) (ρ : Ev) : Prop := σ.length = ρ.length ∧ ∀ (i : Nat) (d : D), ρ[i]? = some (some d) → ∃ v, σ[i]? = some (some v) ∧ RelD G ι H d v
section
variable {G : Cg} {ι ι' : Z} {H H' : Hp} {σ : L2.St} {ρ : Ev}
theorem EnvR.monoW (e : ExtW ι H ι' H') (h : EnvR G ι H σ ρ) : EnvR G ι' H' σ ρ := ⟨h.1, fun i d q => let ⟨v, a, b⟩ := h.2 i d q; ⟨v, a, RelD.monoW e _ b⟩⟩
theorem EnvR.mono (e : Ext ι H ι' H') (h : EnvR G ι H σ ρ) : EnvR G ι' H' σ ρ := h.monoW e.w
theorem EnvR.set {i : Nat} {d : D} {v : V} (h : EnvR G ι H σ ρ) (r : RelD G ι H d v) : EnvR G ι H (σ.set i (some v)) (ρ.set i (some d)) := by
  refine ⟨by simp [h.1], fun j e q => ?_⟩
  by_cases hj : i = j
  · subst hj
    have hl : i < ρ.length := by
      have := (List.getElem?_eq_some_iff.mp q).1
      simpa using this
    rw [List.getElem?_set_self hl] at q
    cases q
    exact ⟨v, List.getElem?_set_self (by rw [h.1]; exact hl), r⟩
  · rw [List.getElem?_set_ne hj] at q ⊢
    exact h.2 j e q
theorem EnvR.unset {i : Nat} (h : EnvR G ι H σ ρ) : EnvR G ι H (σ.set i none) (ρ.set i none) := by
  refine ⟨by simp [h.1], fun j e q => ?_⟩
  by_cases hj : i = j
  · subst hj
    have hl : i < ρ.length := by
      have := (List.getElem?_eq_some_iff.mp q).1
      simpa using this
    rw [List.getElem?_set_self hl] at q
    cases q
  · rw [List.getElem?_set_ne hj] at q ⊢
    exact h.2 j e q
end

def ExD (G : Cg) (ι : Z) (H : Hp) (dx : Option Addr) : Option (List (Str × D)) → Prop
  | none => dx = none
  | some fs => ∃ dd gs, dx = some dd ∧ H dd = some (.xd gs) ∧ Paired (fun (p : Str × D) q => p.1 = q.1 ∧ RelD G ι H p.2 q.2) fs gs

/-- what is wanted behind a result -/
def Post {α : Type} (G : Cg) (W : WX) (ι : Z) (H : Hp) (P : α → Z → Hp → S → Prop) : R α → Prop
  | .ok a s => ∀ ι' H', Ext ι H ι' H' → Sim G ι' H' s → P a ι' H' s
  | .exn c fs ρ s => ∀ ι' H' C dx σ, Ext ι H ι' H' → Sim G ι' H' s → G.mg c = some (.ref C) → ExD G ι' H' dx fs → EnvR G ι' H' σ ρ → W (.ref C) dx σ H'
  | .bad => False
section
variable {α β : Type} {G : Cg} {W : WX} {ι ι' : Z} {H H' : Hp} {P : α → Z → Hp → S → Prop}
theorem Post.imp {P' : α → Z → Hp → S → Prop} {r : R α} (h : Post G W ι H P r) (k : ∀ a ι' H' s, P a ι' H' s → P' a ι' H' s) : Post G W ι H P' r := by
  cases r with
  | ok a s => exact fun ι' H' e q => k _ _ _ _ (h ι' H' e q)
  | exn c fs ρ s => exact h
  | bad => exact h
theorem Post.mono {r : R α} (e : Ext ι H ι' H') (h : Post G W ι H P r) : Post G W ι' H' P r := by
  cases r with
  | ok a s => exact fun ι2 H2 e2 q => h ι2 H2 (e.trans e2) q
  | exn c fs ρ s => exact fun ι2 H2 C dx σ e2 => h ι2 H2 C dx σ (e.trans e2)
  | bad => exact h
theorem Post.bnd {r : R α} {f : α → S → R β} {P : β → Z → Hp → S → Prop} (h : Post G W ι H P (r.bnd f)) :
    Post G W ι H (fun a ι' H' s => Ext ι H ι' H' ∧ Sim G ι' H' s ∧ Post G W ι' H' P (f a s)) r := by
  cases r with
  | ok a s => exact fun ι' H' e q => ⟨e, q, Post.mono e h⟩
  | exn c fs ρ s => exact h
  | bad => exact h
/-- the result is here -/
theorem Post.here {a : α} {s : S} (h : Post G W ι H P (.ok a s)) (q : Sim G ι H s) : P a ι H s := h ι H (.refl ι H) q
end

/-! ### readings -/
def rdE (G : Cg) (W : WX) (m : ME) : TE := fun σ H Q => ∃ ι s ρ, Sim G ι H s ∧ EnvR G ι H σ ρ ∧ Post G W ι H (fun d ι' H' _ => ∀ v, RelD G ι' H' d v → Q v H') (m ρ s)
def rdA (G : Cg) (W : WX) (m : MA) : TA := fun σ H Q => ∃ ι s ρ, Sim G ι H s ∧ EnvR G ι H σ ρ ∧ Post G W ι H (fun ds ι' H' _ => ∀ vs, RelDs G ι' H' ds vs → Q vs H') (m ρ s)
def rdT (G : Cg) (W : WX) (m : MT) : TT := fun σ H Q => ∃ ι s ρ, Sim G ι H s ∧ EnvR G ι H σ ρ ∧ Post G W ι H (fun b _ H' _ => Q b H') (m ρ s)
def EndsP (G : Cg) (Dn : Ends) : Fl → Z → Hp → S → Prop := fun fl ι' H' _ => match fl with
  | .nx ρ' => ∀ σ', EnvR G ι' H' σ' ρ' → Dn.nx σ' H'
  | .ret d => ∀ v, RelD G ι' H' d v → Dn.rt v H'
  | .bk ρ' => ∀ σ', EnvR G ι' H' σ' ρ' → Dn.bk σ' H'
  | .ct ρ' => ∀ σ', EnvR G ι' H' σ' ρ' → Dn.ct σ' H'
def rdS (G : Cg) (W : WX) (m : MS) : TS := fun Dn σ H => ∃ ι s ρ, Sim G ι H s ∧ EnvR G ι H σ ρ ∧ Post G W ι H (EndsP G Dn) (m ρ s)

abbrev VE (X : Cx) (W : WX) (e : Expr) (m : ME) : Prop := PE X e (rdE (cg X) W m)
abbrev VA (X : Cx) (W : WX) (es : List Expr) (m : MA) : Prop := PA X es (rdA (cg X) W m)
abbrev VT (X : Cx) (W : WX) (e : Expr) (m : MT) : Prop := PT X e (rdT (cg X) W m)
abbrev VW (X : Cx) (W : WX) (e : Expr) (m : MT) : Prop := PW X e (rdT (cg X) W m)
abbrev VS (X : Cx) (W : WX) (st : Stmt) (m : MS) : Prop := PS X st (rdS (cg X) W m)
abbrev VSs (X : Cx) (W : WX) (st : List Stmt) (m : MS) : Prop := PSs X st (rdS (cg X) W m)

theorem pe_imp {X : Cx} {e : Expr} {t t' : TE} (h : PE X e t) (k : ∀ σ H Q, t' σ H Q → t σ H Q) : PE X e t' := ⟨fun pins s σ H Q I q => h.run pins s σ H Q I (k σ H Q q)⟩
theorem pt_imp {X : Cx} {e : Expr} {t t' : TT} (h : PT X e t) (k : ∀ σ H Q, t' σ H Q → t σ H Q) : PT X e t' := ⟨fun pins s σ H Q I q => h.run pins s σ H Q I (k σ H Q q)⟩
theorem pw_imp {X : Cx} {e : Expr} {t t' : TT} (h : PW X e t) (k : ∀ σ H Q, t' σ H Q → t σ H Q) : PW X e t' := ⟨fun wh pins s σ H Q I q => h.run wh pins s σ H Q I (k σ H Q q)⟩
theorem pa_imp {X : Cx} {e : List Expr} {t t' : TA} (h : PA X e t) (k : ∀ σ H Q, t' σ H Q → t σ H Q) : PA X e t' := ⟨fun pos pins s σ H Q I q => h.run pos pins s σ H Q I (k σ H Q q)⟩
theorem ps_imp {X : Cx} {e : Stmt} {t t' : TS} (h : PS X e t) (k : ∀ Dn σ H, t' Dn σ H → t Dn σ H) : PS X e t' := ⟨fun pins s σ H Dn I q => h.run pins s σ H Dn I (k Dn σ H q)⟩
theorem pss_imp {X : Cx} {e : List Stmt} {t t' : TS} (h : PSs X e t) (k : ∀ Dn σ H, t' Dn σ H → t Dn σ H) : PSs X e t' := ⟨fun pins s σ H Dn I q => h.run pins s σ H Dn I (k Dn σ H q)⟩

/-- an expression's reading, read on -/
theorem rdE_on {G : Cg} {W : WX} {m : ME} {σ : L2.St} {H : Hp} {ι s ρ} {β : Type} {P : β → Z → Hp → S → Prop} {f : D → S → R β} {Q : VK} (q : Sim G ι H s) (e : EnvR G ι H σ ρ) (h : Post G W ι H P ((m ρ s).bnd f))
    (k : ∀ d v ι' H' s', Ext ι H ι' H' → Sim G ι' H' s' → RelD G ι' H' d v → Post G W ι' H' P (f d s') → Q v H') : rdE G W m σ H Q :=
  ⟨ι, s, ρ, q, e, h.bnd.imp fun d ι' H' s' ⟨e1, q1, h1⟩ v r => k d v ι' H' s' e1 q1 r h1⟩
theorem rdA_on {G : Cg} {W : WX} {m : MA} {σ : L2.St} {H : Hp} {ι s ρ} {β : Type} {P : β → Z → Hp → S → Prop} {f : List D → S → R β} {Q : List V → Hp → Prop} (q : Sim G ι H s) (e : EnvR G ι H σ ρ) (h : Post G W ι H P ((m ρ s).bnd f))
    (k : ∀ d v ι' H' s', Ext ι H ι' H' → Sim G ι' H' s' → RelDs G ι' H' d v → Post G W ι' H' P (f d s') → Q v H') : rdA G W m σ H Q :=
  ⟨ι, s, ρ, q, e, h.bnd.imp fun d ι' H' s' ⟨e1, q1, h1⟩ v r => k d v ι' H' s' e1 q1 r h1⟩
theorem rdT_on {G : Cg} {W : WX} {m : MT} {σ : L2.St} {H : Hp} {ι s ρ} {β : Type} {P : β → Z → Hp → S → Prop} {f : Bool → S → R β} {Q : Bool → Hp → Prop} (q : Sim G ι H s) (e : EnvR G ι H σ ρ) (h : Post G W ι H P ((m ρ s).bnd f))
    (k : ∀ b ι' H' s', Ext ι H ι' H' → Sim G ι' H' s' → Post G W ι' H' P (f b s') → Q b H') : rdT G W m σ H Q :=
  ⟨ι, s, ρ, q, e, h.bnd.imp fun d ι' H' s' ⟨e1, q1, h1⟩ => k d ι' H' s' e1 q1 h1⟩
end VL
namespace VL
open PySem PySem.Spec PyProof.Rows L2

def LIM : Nat := 1000000
theorem LIM_le : LIM ≤ sizeLine := by rw [sizeLine_eq]; decide
theorem le_LIM {n : Nat} (h : n ≤ LIM) : n ≤ sizeLine := Nat.le_trans h LIM_le
theorem lt_LIM {n : Nat} (h : n < LIM) : n < sizeLine := Nat.lt_of_lt_of_le h LIM_le

/-! ### new values -/
section
variable {G : Cg} {W : WX} {ι : Z} {H : Hp} {s : S} {Q : VK}
abbrev QE (G : Cg) (Q : VK) : D → Z → Hp → S → Prop := fun d ι' H' _ => ∀ v, RelD G ι' H' d v → Q v H'
theorem Post.val {d : D} {v : V} (h : Post G W ι H (QE G Q) (.ok d s)) (q : Sim G ι H s) (r : RelD G ι H d v) : Q v H := h.here q v r
theorem Post.newT {ds : List D} {xs : List V} {p : Addr} (h : Post G W ι H (QE G Q) (.ok (.tup ds) s)) (q : Sim G ι H s) (r : RelDs G ι H ds xs) (n : H p = none) : Q (.ref p) (upd H p (.tup xs)) :=
  h ι _ (.new n) (q.new n) (.ref p) (by
    simp only [RelD]
    exact ⟨p, xs, rfl, ⟨q.off n, upd_same⟩, r.mono (.new n)⟩)
theorem Post.newL {ds : List D} {xs : List V} {p : Addr} (h : Post G W ι H (QE G Q) (.ok (.lst ds) s)) (q : Sim G ι H s) (r : RelDs G ι H ds xs) (n : H p = none) : Q (.ref p) (upd H p (.lst xs)) :=
  h ι _ (.new n) (q.new n) (.ref p) (by
    simp only [RelD]
    exact ⟨p, xs, rfl, ⟨q.off n, upd_same⟩, r.mono (.new n)⟩)
theorem Post.newLO {ds : List D} {xs : List V} {p : Addr} (h : Post G W ι H (QE G Q) (.ok (.obj s.length) (s ++ [.lst ds]))) (q : Sim G ι H s) (r : RelDs G ι H ds xs) (n : H p = none) : Q (.ref p) (upd H p (.lst xs)) :=
  h (ι.push p) _ (.newObj n) (q.newObj n ⟨xs, upd_same, r.mono (.newObj n)⟩) (.ref p) (by
    simp only [RelD]
    exact ⟨p, rfl, by rw [← q.len]; simp [Z.push]⟩)
end

/-! ### names, constants -/
def mVar (i : Nat) : ME := fun ρ s => match ρ[i]? with
  | some (some d) => .ok d s
  | _ => .bad
def mC (d : D) : ME := fun _ s => .ok d s
section
variable {X : Cx} {W : WX}
theorem ve_v (i : Nat) {x : Str} {pos : Pos} (hN : X.N[i]? = some x := by rfl) (hv : Vis X.env.scope x := by first | exact Or.inl rfl | exact Or.inr (Or.inl rfl) | exact Or.inr (Or.inr rfl)) (hd : (x == ("__debug__" : Str)) = false := by decide)
    (hcd : (x == ("__classdict__" : Str)) = false := by decide) : VE X W (.Name x pos) (mVar i) := by
  refine pe_imp (pe_var hN hv hd hcd) fun σ H Q h => ?_
  obtain ⟨ι, s, ρ, q, e, h⟩ := h
  unfold mVar at h
  split at h
  · rename_i d hd
    obtain ⟨v, h1, h2⟩ := e.2 i d hd
    exact ⟨v, h1, h.val q h2⟩
  · exact h.elim
theorem rdC {G : Cg} {d : D} {v : V} (r : ∀ ι H, RelD G ι H d v) {σ H Q} (h : rdE G W (mC d) σ H Q) : tC v σ H Q := by
  obtain ⟨ι, s, ρ, q, e, h⟩ := h
  exact Post.val h q (r ι H)
theorem ve_int {i j pos} : VE X W (.Constant (.int i) j pos) (mC (.int i)) := pe_imp pe_int fun _ _ _ h => rdC (v := .int i) (fun _ _ => by simp only [RelD]) h
theorem ve_bl {b j pos} : VE X W (.Constant (.bool b) j pos) (mC (.bl b)) := pe_imp pe_bl fun _ _ _ h => rdC (v := .bl b) (fun _ _ => by simp only [RelD]) h
theorem ve_non {j pos} : VE X W (.Constant .none j pos) (mC .non) := pe_imp pe_non fun _ _ _ h => rdC (v := .non) (fun _ _ => by simp only [RelD]) h
theorem ve_str {x j pos} : VE X W (.Constant (.str x) j pos) (mC (.str x)) := pe_imp pe_str fun _ _ _ h => rdC (v := .str x) (fun _ _ => by simp only [RelD]) h
theorem ve_gint {x : Str} {i : Int} {t : Tok} {pos : Pos} (hg : Gl X x) (hm : X.mg x = some (.int i t)) (hd : (x == ("__debug__" : Str)) = false := by decide) : VE X W (.Name x pos) (mC (.int i)) :=
  pe_imp (pe_glob hg hm (v := .int i) ⟨t, rfl⟩ hd) fun _ _ _ h => rdC (v := .int i) (fun _ _ => by simp only [RelD]) h
theorem ve_gstr {x z : Str} {t : Tok} {pos : Pos} (hg : Gl X x) (hm : X.mg x = some (.str z t)) (hd : (x == ("__debug__" : Str)) = false := by decide) : VE X W (.Name x pos) (mC (.str z)) :=
  pe_imp (pe_glob hg hm (v := .str z) ⟨t, rfl⟩ hd) fun _ _ _ h => rdC (v := .str z) (fun _ _ => by simp only [RelD]) h
theorem ve_glo {x : Str} {a : Addr} {pos : Pos} (hg : Gl X x) (hm : X.mg x = some (.ref a)) (hd : (x == ("__debug__" : Str)) = false := by decide) : VE X W (.Name x pos) (mC (.glo x)) :=
  pe_imp (pe_glob hg hm (v := .ref a) rfl hd) fun _ _ _ h => rdC (v := .ref a) (fun _ _ => by simp only [RelD]; exact ⟨a, rfl, hm⟩) h
theorem ve_ty {x : Str} {n : String} {pos : Pos} (hg : Gl X x) (hm : X.mg x = none) (hv : bootBuiltins x = some (.type n)) (hn : x ≠ "__name__" := by decide) (hd : (x == ("__debug__" : Str)) = false := by decide) : VE X W (.Name x pos) (mC (.ty n)) :=
  pe_imp (pe_bltn hg hm hv (v := .ty n) rfl hn hd) fun _ _ _ h => rdC (v := .ty n) (fun _ _ => by simp only [RelD]) h
end

/-! ### operators by values -/
abbrev F2 := D → D → S → R D
def OpV (G : Cg) (W : WX) (r : R2) (f : F2) : Prop := ∀ (ι : Z) (H : Hp) (s : S) (x y : D) (v u : V) (Q : VK), Sim G ι H s → RelD G ι H x v → RelD G ι H y u → Post G W ι H (QE G Q) (f x y s) → r v u H Q
def mBin (f : F2) (ma mb : ME) : ME := fun ρ s => (ma ρ s).bnd fun x s1 => (mb ρ s1).bnd fun y s2 => f x y s2
abbrev F1 := D → S → R D
def UnV (G : Cg) (W : WX) (r : V → Hp → VK → Prop) (f : F1) : Prop := ∀ (ι : Z) (H : Hp) (s : S) (x : D) (v : V) (Q : VK), Sim G ι H s → RelD G ι H x v → Post G W ι H (QE G Q) (f x s) → r v H Q
def mUn (f : F1) (ma : ME) : ME := fun ρ s => (ma ρ s).bnd fun x s1 => f x s1
abbrev FA := List D → S → R D
def CallV (G : Cg) (W : WX) (r : List V → Hp → VK → Prop) (f : FA) : Prop := ∀ (ι : Z) (H : Hp) (s : S) (xs : List D) (vs : List V) (Q : VK), Sim G ι H s → RelDs G ι H xs vs → Post G W ι H (QE G Q) (f xs s) → r vs H Q
def mCall (f : FA) (ma : MA) : ME := fun ρ s => (ma ρ s).bnd fun xs s1 => f xs s1

section
variable {X : Cx} {W : WX} {a b c : Expr} {ma mb mc : ME} {pos p apos : Pos}
theorem rd_bin {r : R2} {f : F2} {ta tb : TE} (hr : OpV (cg X) W r f) (ka : ∀ σ H Q, rdE (cg X) W ma σ H Q → ta σ H Q) (kb : ∀ σ H Q, rdE (cg X) W mb σ H Q → tb σ H Q) (σ : L2.St) (H : Hp) (Q : VK) (h : rdE (cg X) W (mBin f ma mb) σ H Q) : tOp r ta tb σ H Q := by
  obtain ⟨ι, s, ρ, q, e, h⟩ := h
  refine ka _ _ _ (rdE_on q e h fun x v ι1 H1 s1 e1 q1 r1 h1 => kb _ _ _ (rdE_on q1 (e.mono e1) h1 fun y u ι2 H2 s2 e2 q2 r2 h2 => ?_))
  exact hr ι2 H2 s2 x y v u Q q2 (r1.mono e2) r2 h2
theorem ve_op {op : Operator} {r : R2} {f : F2} (ho : OpR X (binaryOp op) r) (hr : OpV (cg X) W r f) (ha : VE X W a ma) (hb : VE X W b mb) : VE X W (.BinOp a op b pos) (mBin f ma mb) :=
  pe_imp (pe_op ho ha hb) (rd_bin hr (fun _ _ _ h => h) fun _ _ _ h => h)
theorem ve_un {op : UnaryOp} {r : V → Hp → VK → Prop} {f : F1} (ho : UnR X (unaryOp op) r) (hr : UnV (cg X) W r f) (ha : VE X W a ma) : VE X W (.UnaryOp op a pos) (mUn f ma) := by
  refine pe_imp (pe_un ho ha) fun σ H Q h => ?_
  obtain ⟨ι, s, ρ, q, e, h⟩ := h
  exact rdE_on q e h fun x v ι1 H1 s1 e1 q1 r1 h1 => hr ι1 H1 s1 x v Q q1 r1 h1
theorem ve_cmp {op : CmpOp} {r : R2} {f : F2} (ho : OpR X (compareOp op) r) (hr : OpV (cg X) W r f) (ha : VE X W a ma) (hb : VE X W b mb) (hm : behindInMarks op b = false) : VE X W (.Compare a [op] [b] pos) (mBin f ma mb) :=
  pe_imp (pe_cmpR ho ha hb hm) (rd_bin hr (fun _ _ _ h => h) fun _ _ _ h => h)
/-- a value as a test: a bool -/
def asB (r : R D) : R Bool := r.bnd fun d s => match d with
  | .bl b => .ok b s
  | _ => .bad
def mB (m : ME) : MT := fun ρ s => asB (m ρ s)
theorem relB {G : Cg} {ι H b v} (h : RelD G ι H (.bl b) v) : v = .bl b := by simpa only [RelD] using h
theorem relI {G : Cg} {ι H b v} (h : RelD G ι H (.int b) v) : v = .int b := by simpa only [RelD] using h
theorem relS {G : Cg} {ι H b v} (h : RelD G ι H (.str b) v) : v = .str b := by simpa only [RelD] using h
theorem relN {G : Cg} {ι H v} (h : RelD G ι H .non v) : v = .non := by simpa only [RelD] using h
theorem rdB {G : Cg} {m : ME} {σ : L2.St} {H : Hp} {Q : Bool → Hp → Prop} (h : rdT G W (mB m) σ H Q) : rdE G W m σ H fun x H1 => ∃ k, x = .bl k ∧ Q k H1 := by
  obtain ⟨ι, s, ρ, q, e, h⟩ := h
  refine rdE_on q e h fun d v ι1 H1 s1 e1 q1 r1 h1 => ?_
  cases d with
  | bl b => exact ⟨b, relB r1, h1.here q1⟩
  | _ => exact h1.elim
theorem vt_val {e : Expr} {m : ME} (h : VE X W e m) (he : ∀ whole, isTrue e X.env whole = (do let v ← whole; standAt e.pos; holding [v] (truthy v)) := by intro _; rfl) : VT X W e (mB m) :=
  pt_imp (pt_val h he) fun _ _ _ q => rdB q
theorem vt_cmp {op : CmpOp} {r : R2} {f : F2} (ho : OpR X (compareOp op) r) (hr : OpV (cg X) W r f) (ha : VE X W a ma) (hb : VE X W b mb) (hm : behindInMarks op b = false) : VT X W (.Compare a [op] [b] pos) (mB (mBin f ma mb)) :=
  pt_imp (pt_cmpR ho ha hb hm) fun σ H Q q => rd_bin hr (fun _ _ _ h => h) (fun _ _ _ h => h) σ H _ (rdB q)
/-- a < b < c -/
def mChn (f g : F2) (ma mb mc : ME) : ME := fun ρ s => (ma ρ s).bnd fun x s1 => (mb ρ s1).bnd fun y s2 => (f x y s2).bnd fun z s3 => match z with
  | .bl true => (mc ρ s3).bnd fun w s4 => g y w s4
  | .bl false => .ok (.bl false) s3
  | _ => .bad
/-- a comparison that changes nothing, whose wish may be read on -/
def OpK (G : Cg) (W : WX) (r : R2) (f : F2) : Prop := ∀ (ι : Z) (H : Hp) (s : S) (x y : D) (v u : V) (P : D → Z → Hp → S → Prop) (Q : VK), Sim G ι H s → RelD G ι H x v → RelD G ι H y u → Post G W ι H P (f x y s) →
  (∀ d w, f x y s = .ok d s → RelD G ι H d w → P d ι H s → Q w H) → r v u H Q
theorem OpK.v {G : Cg} {W : WX} {r : R2} {f : F2} (h : OpK G W r f) : OpV G W r f := fun ι H s x y v u Q q r1 r2 p => h ι H s x y v u (QE G Q) Q q r1 r2 p fun d w _ r3 k => k w r3
theorem ve_chain {op op' : CmpOp} {r r' : R2} {f g : F2} (ho : OpR X (compareOp op) r) (ho' : OpR X (compareOp op') r') (hr : OpK (cg X) W r f) (hr' : OpV (cg X) W r' g) (ha : VE X W a ma) (hb : VE X W b mb) (hc : VE X W c mc)
    (hm : lastMarks [op, op'] [b, c] = false := by rfl) : VE X W (.Compare a [op, op'] [b, c] pos) (mChn f g ma mb mc) := by
  refine pe_imp (pe_chain ho ho' ha hb hc hm) fun σ H Q h => ?_
  obtain ⟨ι, s, ρ, q, e, h⟩ := h
  refine rdE_on q e h fun x v ι1 H1 s1 e1 q1 r1 h1 => rdE_on q1 (e.mono e1) h1 fun y u ι2 H2 s2 e2 q2 r2 h2 => ?_
  refine hr ι2 H2 s2 x y v u _ _ q2 (r1.mono e2) r2 h2.bnd fun z w ez rz hz => ?_
  obtain ⟨_, _, h3⟩ := hz
  cases z with
  | bl k =>
    refine ⟨k, relB rz, ?_⟩
    cases k with
    | true =>
      rw [if_pos rfl]
      exact rdE_on q2 ((e.mono e1).mono e2) h3 fun w' t ι3 H3 s3 e3 q3 r3 h4 => hr' ι3 H3 s3 y w' u t Q q3 (r2.mono e3) r3 h4
    | false =>
      rw [if_neg Bool.false_ne_true]
      exact h3.val q2 (by simp only [RelD])
  | _ => exact h3.elim
end

/-! ### and, or, not, if -/
def mAndT (a b : MT) : MT := fun ρ s => (a ρ s).bnd fun k s1 => if k = true then b ρ s1 else .ok false s1
def mOrT (a b : MT) : MT := fun ρ s => (a ρ s).bnd fun k s1 => if k = true then .ok true s1 else b ρ s1
def mNotT (a : MT) : MT := fun ρ s => (a ρ s).bnd fun k s1 => .ok (!k) s1
def mAndV (a b : ME) : ME := fun ρ s => (asB (a ρ s)).bnd fun k s1 => if k = true then b ρ s1 else .ok (.bl false) s1
def mOrV (a b : ME) : ME := fun ρ s => (asB (a ρ s)).bnd fun k s1 => if k = true then .ok (.bl true) s1 else b ρ s1
def mNotV (a : ME) : ME := fun ρ s => (asB (a ρ s)).bnd fun k s1 => .ok (.bl (!k)) s1
def mIf (t : MT) (a b : ME) : ME := fun ρ s => (t ρ s).bnd fun k s1 => if k = true then a ρ s1 else b ρ s1
section
variable {X : Cx} {W : WX} {a b c : Expr} {ta tb : MT} {ma mb : ME} {rest : List Expr} {pos : Pos}
theorem vw_and1 (h : VT X W a ta) : VW X W (.BoolOp .And [a] pos) ta := pw_and1 h
theorem vw_or1 (h : VT X W a ta) : VW X W (.BoolOp .Or [a] pos) ta := pw_or1 h
theorem rdT_if {G : Cg} {t : MT} {f : Bool → S → R Bool} {σ : L2.St} {H : Hp} {ι s ρ} {Q : Bool → Hp → Prop} {Q' : Bool → Hp → Prop} (q : Sim G ι H s) (e : EnvR G ι H σ ρ) (h : Post G W ι H (fun b _ H' _ => Q' b H') ((t ρ s).bnd f))
    (k : ∀ b ι' H' s', EnvR G ι' H' σ ρ → Sim G ι' H' s' → Post G W ι' H' (fun b _ H' _ => Q' b H') (f b s') → Q b H') : rdT G W t σ H Q :=
  rdT_on q e h fun b ι' H' s' e1 q1 h1 => k b ι' H' s' (e.mono e1) q1 h1
theorem vw_and (h1 : VT X W a ta) (h2 : VW X W (.BoolOp .And (b :: rest) pos) tb) : VW X W (.BoolOp .And (a :: b :: rest) pos) (mAndT ta tb) := by
  refine pw_imp (pw_and h1 h2) fun σ H Q h => ?_
  obtain ⟨ι, s, ρ, q, e, h⟩ := h
  refine rdT_on q e h fun k ι1 H1 s1 e1 q1 h1 => ?_
  cases k with
  | true => rw [if_pos rfl] at h1 ⊢; exact ⟨ι1, s1, ρ, q1, e.mono e1, h1⟩
  | false => rw [if_neg Bool.false_ne_true] at h1 ⊢; exact h1.here q1
theorem vw_or (h1 : VT X W a ta) (h2 : VW X W (.BoolOp .Or (b :: rest) pos) tb) : VW X W (.BoolOp .Or (a :: b :: rest) pos) (mOrT ta tb) := by
  refine pw_imp (pw_or h1 h2) fun σ H Q h => ?_
  obtain ⟨ι, s, ρ, q, e, h⟩ := h
  refine rdT_on q e h fun k ι1 H1 s1 e1 q1 h1 => ?_
  cases k with
  | false => rw [if_neg Bool.false_ne_true] at h1 ⊢; exact ⟨ι1, s1, ρ, q1, e.mono e1, h1⟩
  | true => rw [if_pos rfl] at h1 ⊢; exact h1.here q1
theorem vt_not (h : VT X W a ta) : VT X W (.UnaryOp .Not a pos) (mNotT ta) := by
  refine pt_imp (pt_not h) fun σ H Q h => ?_
  obtain ⟨ι, s, ρ, q, e, h⟩ := h
  exact rdT_on q e h fun k ι1 H1 s1 e1 q1 h1 => h1.here q1
theorem ve_one {op} {m : ME} (h : VE X W a m) : VE X W (.BoolOp op [a] pos) m := pe_one h
theorem rd_asB {G : Cg} {m : ME} {f : Bool → S → R D} {σ : L2.St} {H : Hp} {ι s ρ} {Q Q' : VK} (q : Sim G ι H s) (e : EnvR G ι H σ ρ) (h : Post G W ι H (QE G Q') ((asB (m ρ s)).bnd f))
    (k : ∀ b ι' H' s', EnvR G ι' H' σ ρ → Sim G ι' H' s' → Post G W ι' H' (QE G Q') (f b s') → Q (.bl b) H') : rdE G W m σ H Q := by
  have h' : Post G W ι H (QE G Q') ((m ρ s).bnd fun d s1 => match d with | .bl b => f b s1 | _ => .bad) := by
    unfold asB at h
    cases hm : m ρ s with
    | ok d s1 =>
      rw [hm] at h
      cases d <;> exact h
    | exn c fs ρ s => rw [hm] at h; exact h
    | bad => rw [hm] at h; exact h
  refine rdE_on q e h' fun d v ι1 H1 s1 e1 q1 r1 h1 => ?_
  cases d with
  | bl b => rw [relB r1]; exact k b ι1 H1 s1 (e.mono e1) q1 h1
  | _ => exact h1.elim
theorem ve_and (h1 : VE X W a ma) (h2 : VE X W (.BoolOp .And (b :: rest) pos) mb) : VE X W (.BoolOp .And (a :: b :: rest) pos) (mAndV ma mb) := by
  refine pe_imp (pe_and h1 h2) fun σ H Q h => ?_
  obtain ⟨ι, s, ρ, q, e, h⟩ := h
  refine rd_asB q e h fun k ι1 H1 s1 e1 q1 h1 => ⟨k, rfl, ?_⟩
  cases k with
  | true => rw [if_pos rfl] at h1 ⊢; exact ⟨ι1, s1, ρ, q1, e1, h1⟩
  | false => rw [if_neg Bool.false_ne_true] at h1 ⊢; exact h1.val q1 (by simp only [RelD])
theorem ve_or (h1 : VE X W a ma) (h2 : VE X W (.BoolOp .Or (b :: rest) pos) mb) : VE X W (.BoolOp .Or (a :: b :: rest) pos) (mOrV ma mb) := by
  refine pe_imp (pe_or h1 h2) fun σ H Q h => ?_
  obtain ⟨ι, s, ρ, q, e, h⟩ := h
  refine rd_asB q e h fun k ι1 H1 s1 e1 q1 h1 => ⟨k, rfl, ?_⟩
  cases k with
  | false => rw [if_neg Bool.false_ne_true] at h1 ⊢; exact ⟨ι1, s1, ρ, q1, e1, h1⟩
  | true => rw [if_pos rfl] at h1 ⊢; exact h1.val q1 (by simp only [RelD])
theorem ve_not (h1 : VE X W a ma) : VE X W (.UnaryOp .Not a pos) (mNotV ma) := by
  refine pe_imp (pe_not h1) fun σ H Q h => ?_
  obtain ⟨ι, s, ρ, q, e, h⟩ := h
  exact rd_asB q e h fun k ι1 H1 s1 e1 q1 h1 => ⟨k, rfl, h1.val q1 (by simp only [RelD])⟩
theorem ve_if (hc : VT X W c ta) (h1 : VE X W a ma) (h2 : VE X W b mb) : VE X W (.IfExp c a b pos) (mIf ta ma mb) := by
  refine pe_imp (pe_ifExp hc h1 h2) fun σ H Q h => ?_
  obtain ⟨ι, s, ρ, q, e, h⟩ := h
  refine rdT_on q e h fun k ι1 H1 s1 e1 q1 h1 => ?_
  cases k with
  | true => rw [if_pos rfl] at h1 ⊢; exact ⟨ι1, s1, ρ, q1, e.mono e1, h1⟩
  | false => rw [if_neg Bool.false_ne_true] at h1 ⊢; exact ⟨ι1, s1, ρ, q1, e.mono e1, h1⟩
end

/-! ### argument lists, displays -/
def mNil : MA := fun _ s => .ok [] s
def mCons (m : ME) (ms : MA) : MA := fun ρ s => (m ρ s).bnd fun x s1 => (ms ρ s1).bnd fun xs s2 => .ok (x :: xs) s2
def mTup (m : MA) : ME := fun ρ s => (m ρ s).bnd fun xs s1 => if xs.length ≤ LIM then .ok (.tup xs) s1 else .bad
def mLst (m : MA) : ME := fun ρ s => (m ρ s).bnd fun xs s1 => if xs.length ≤ LIM then .ok (.lst xs) s1 else .bad
def mLstO (m : MA) : ME := fun ρ s => (m ρ s).bnd fun xs s1 => if xs.length ≤ LIM then .ok (.obj s1.length) (s1 ++ [.lst xs]) else .bad
section
variable {X : Cx} {W : WX} {e : Expr} {es : List Expr} {m : ME} {ms : MA} {pos : Pos}
theorem va_nil : VA X W [] mNil := pa_imp pa_nil fun σ H Q ⟨ι, s, ρ, q, e, h⟩ => h.here q [] .nil
theorem va_cons (h1 : VE X W e m) (h2 : VA X W es ms) (hs : starEach (e :: es) X.env = (false, eval e X.env) :: starEach es X.env := by rfl) : VA X W (e :: es) (mCons m ms) := by
  refine pa_imp (pa_cons h1 h2 hs) fun σ H Q h => ?_
  obtain ⟨ι, s, ρ, q, e, h⟩ := h
  refine rdE_on q e h fun x v ι1 H1 s1 e1 q1 r1 h1 => rdA_on q1 (e.mono e1) h1 fun xs vs ι2 H2 s2 e2 q2 r2 h2 => ?_
  exact h2.here q2 (v :: vs) (.cons (r1.mono e2) r2)
theorem ve_tup {k} (h : VA X W es ms) : VE X W (.Tuple es k pos) (mTup ms) := by
  refine pe_imp (pe_tup h) fun σ H Q h => ?_
  obtain ⟨ι, s, ρ, q, e, h⟩ := h
  refine rdA_on q e h fun xs vs ι1 H1 s1 e1 q1 r1 h1 => ?_
  split at h1
  · rename_i hl
    exact ⟨by rw [r1.len]; exact le_LIM hl, fun p hp => h1.newT q1 r1 hp⟩
  · exact h1.elim
theorem ve_lst (h : VA X W es ms) : VE X W (.List es pos) (mLst ms) := by
  refine pe_imp (pe_lst h) fun σ H Q h => ?_
  obtain ⟨ι, s, ρ, q, e, h⟩ := h
  refine rdA_on q e h fun xs vs ι1 H1 s1 e1 q1 r1 h1 => ?_
  split at h1
  · rename_i hl
    exact ⟨by rw [r1.len]; exact le_LIM hl, fun p hp => h1.newL q1 r1 hp⟩
  · exact h1.elim
theorem ve_lstO (h : VA X W es ms) : VE X W (.List es pos) (mLstO ms) := by
  refine pe_imp (pe_lst h) fun σ H Q h => ?_
  obtain ⟨ι, s, ρ, q, e, h⟩ := h
  refine rdA_on q e h fun xs vs ι1 H1 s1 e1 q1 r1 h1 => ?_
  split at h1
  · rename_i hl
    exact ⟨by rw [r1.len]; exact le_LIM hl, fun p hp => h1.newLO q1 r1 hp⟩
  · exact h1.elim
/-! built-ins called -/
theorem rd_call {r : List V → Hp → VK → Prop} {f : FA} (hr : CallV (cg X) W r f) (σ : L2.St) (H : Hp) (Q : VK) (h : rdE (cg X) W (mCall f ms) σ H Q) : tCB r (rdA (cg X) W ms) σ H Q := by
  obtain ⟨ι, s, ρ, q, e, h⟩ := h
  exact rdA_on q e h fun xs vs ι1 H1 s1 e1 q1 r1 h1 => hr ι1 H1 s1 xs vs Q q1 r1 h1
theorem ve_callB {id : String} {x : Str} {p : Pos} {r : List V → Hp → VK → Prop} {f : FA} (hc : CallR X (.builtin id) r) (hr : CallV (cg X) W r f) (hg : Gl X x) (hm : X.mg x = none) (hv : bootBuiltins x = some (.builtin id)) (ha : VA X W (e :: es) ms) (hn : x ≠ "__name__" := by decide) (hdb : (x == ("__debug__" : Str)) = false := by decide)
    (he : starEach (e :: es) X.env = (false, eval e X.env) :: starEach es X.env := by rfl) (hpl : (backTo pos (starEach es X.env)).any (·.1) = false := by rfl) : VE X W (.Call (.Name x p) (e :: es) [] pos) (mCall f ms) :=
  pe_imp (pe_callB hc hg hm hv ha hn hdb he hpl) (rd_call hr)
theorem ve_callTy {T : String} {x : Str} {p : Pos} {r : List V → Hp → VK → Prop} {f : FA} (hc : CallR X (.type T) r) (hr : CallV (cg X) W r f) (hg : Gl X x) (hm : X.mg x = none) (hv : bootBuiltins x = some (.type T)) (ha : VA X W (e :: es) ms) (hn : x ≠ "__name__" := by decide) (hdb : (x == ("__debug__" : Str)) = false := by decide)
    (he : starEach (e :: es) X.env = (false, eval e X.env) :: starEach es X.env := by rfl) (hpl : (backTo pos (starEach es X.env)).any (·.1) = false := by rfl) : VE X W (.Call (.Name x p) (e :: es) [] pos) (mCall f ms) :=
  pe_imp (pe_callTy hc hg hm hv ha hn hdb he hpl) (rd_call hr)
end
end VL
namespace VL
open PySem PySem.Spec PyProof.Rows L2

/-! ### data as the library's data -/
mutual
def toPy : D → Option PyData
  | .non => some .none
  | .bl b => some (.bool b)
  | .int i => some (.int i)
  | .str x => some (.str x)
  | .tup ds => (toPys ds).map .tuple
  | .lst ds => (toPys ds).map .list
  | .scr ds => (toPys ds).map .list
  | _ => none
def toPys : List D → Option (List PyData)
  | [] => some []
  | d :: ds => match toPy d, toPys ds with
    | some p, some ps => some (p :: ps)
    | _, _ => none
end
/-- a list, by its items: asL to read, asX exact -/
def asX (s : S) : D → Option (List D)
  | .lst ds => some ds
  | .obj n => match s[n]? with
    | some (.lst ds) => some ds
    | _ => none
  | _ => none
def asL (s : S) : D → Option (List D)
  | .scr ds => some ds
  | d => asX s d
def toPyS (s : S) (d : D) : Option PyData := match d with
  | .obj n => (match s[n]? with
    | some (.lst ds) => (toPys ds).map .list
    | _ => none)
  | d => toPy d
section
variable {G : Cg} {W : WX} {ι : Z} {H : Hp} {s : S}
theorem asX_at (q : Sim G ι H s) {d : D} {v : V} {ds : List D} (r : RelD G ι H d v) (h : asX s d = some ds) : ∃ a xs, v = .ref a ∧ H a = some (.lst xs) ∧ RelDs G ι H ds xs := by
  cases d with
  | lst es =>
    simp only [asX, Option.some.injEq] at h
    subst h
    simp only [RelD] at r
    obtain ⟨a, xs, h1, h2, h3⟩ := r
    exact ⟨a, xs, h1, h2.2, h3⟩
  | obj n =>
    simp only [asX] at h
    split at h
    · rename_i es he
      cases h
      obtain ⟨a, h1, h2, xs, h3, h4⟩ := q.addr he
      simp only [RelD] at r
      obtain ⟨b, rfl, e⟩ := r
      rw [h1] at e; cases e
      exact ⟨a, xs, rfl, h3, h4⟩
    · cases h
  | _ => simp [asX] at h
theorem asL_at (q : Sim G ι H s) {d : D} {v : V} {ds : List D} (r : RelD G ι H d v) (h : asL s d = some ds) : ∃ a xs, v = .ref a ∧ SqL G.K H a xs ∧ RelDs G ι H ds xs := by
  cases d with
  | scr es =>
    simp only [asL, Option.some.injEq] at h
    subst h
    simp only [RelD] at r
    obtain ⟨a, xs, h1, h2, h3⟩ := r
    exact ⟨a, xs, h1, h2.sq, h3⟩
  | lst es => obtain ⟨a, xs, h1, h2, h3⟩ := asX_at q r (show asX s _ = some ds from h); exact ⟨a, xs, h1, .inl (.inl h2), h3⟩
  | obj n => obtain ⟨a, xs, h1, h2, h3⟩ := asX_at q r (show asX s _ = some ds from h); exact ⟨a, xs, h1, .inl (.inl h2), h3⟩
  | _ => simp [asL, asX] at h
mutual
theorem dp_of : ∀ (d : D) {v : V} {p : PyData}, RelD G ι H d v → toPy d = some p → Dp G.K H v p
  | .non, v, p, r, h => by simp only [toPy, Option.some.injEq] at h; subst h; rw [relN r]; exact .non
  | .bl b, v, p, r, h => by simp only [toPy, Option.some.injEq] at h; subst h; rw [relB r]; exact .bl b
  | .int b, v, p, r, h => by simp only [toPy, Option.some.injEq] at h; subst h; rw [relI r]; exact .int b
  | .str b, v, p, r, h => by simp only [toPy, Option.some.injEq] at h; subst h; rw [relS r]; exact .str b
  | .tup ds, v, p, r, h => by
    simp only [toPy, Option.map_eq_some_iff] at h
    obtain ⟨ps, hp, rfl⟩ := h
    simp only [RelD] at r
    obtain ⟨a, xs, rfl, h2, h3⟩ := r
    exact .tup h2.sq (dps_of ds h3 hp)
  | .lst ds, v, p, r, h => by
    simp only [toPy, Option.map_eq_some_iff] at h
    obtain ⟨ps, hp, rfl⟩ := h
    simp only [RelD] at r
    obtain ⟨a, xs, rfl, h2, h3⟩ := r
    exact .lst h2.sq (dps_of ds h3 hp)
  | .scr ds, v, p, r, h => by
    simp only [toPy, Option.map_eq_some_iff] at h
    obtain ⟨ps, hp, rfl⟩ := h
    simp only [RelD] at r
    obtain ⟨a, xs, rfl, h2, h3⟩ := r
    exact .lst h2.sq (dps_of ds h3 hp)
  | .obj n, v, p, r, h => by simp [toPy] at h
  | .glo n, v, p, r, h => by simp [toPy] at h
  | .ty n, v, p, r, h => by simp [toPy] at h
theorem dps_of : ∀ (ds : List D) {vs : List V} {ps : List PyData}, RelDs G ι H ds vs → toPys ds = some ps → DpAll G.K H vs ps
  | [], vs, ps, r, h => by simp only [toPys, Option.some.injEq] at h; subst h; simp only [RelDs] at r; subst r; exact .nil
  | d :: ds, vs, ps, r, h => by
    simp only [toPys] at h
    split at h
    · rename_i p qs h1 h2
      cases h
      simp only [RelDs] at r
      obtain ⟨x, t, rfl, r1, r2⟩ := r
      exact .cons (dp_of d r1 h1) (dps_of ds r2 h2)
    · cases h
end
theorem dp_ofS (q : Sim G ι H s) {d : D} {v : V} {p : PyData} (r : RelD G ι H d v) (h : toPyS s d = some p) : Dp G.K H v p := by
  cases d with
  | obj n =>
    simp only [toPyS] at h
    split at h
    · rename_i ds hd
      obtain ⟨ps, hp, rfl⟩ := Option.map_eq_some_iff.mp h
      obtain ⟨a, xs, rfl, h2, h3⟩ := asX_at q r (ds := ds) (by simp [asX, hd])
      exact .lst (.inl (.inl h2)) (dps_of ds h3 hp)
    · cases h
  | _ => exact dp_of _ r h
end

/-! ### == and != of data -/
def opEqP (f : Bool → Bool) : F2 := fun x y s => match toPyS s x, toPyS s y with
  | some p, some q => if SeqAt.shaped p = true ∧ SeqAt.shaped q = true then .ok (.bl (f (PyData.eqv p q))) s else .bad
  | _, _ => .bad
def bothS : D → D → Option (Str × Str)
  | .str a, .str b => some (a, b)
  | _, _ => none
def opEqF (f : Bool → Bool) : F2 := fun x y s => match bothS x y with
  | some (a, b) => .ok (.bl (f (decide (a = b)))) s
  | none => opEqP f x y s
abbrev opEq : F2 := opEqF fun b => b
abbrev opNe : F2 := opEqF fun b => !b
def isNonD : D → Bool
  | .non => true
  | _ => false
def opIsN : F2 := fun x y s => match y with
  | .non => .ok (.bl (isNonD x)) s
  | _ => .bad
def opNotN : F2 := fun x y s => match y with
  | .non => .ok (.bl (!isNonD x)) s
  | _ => .bad
def opI (g : Int → Int → D) (c : Int → Int → Prop) [∀ i j, Decidable (c i j)] : F2 := fun x y s => match x, y with
  | .int i, .int j => if c i j then .ok (g i j) s else .bad
  | _, _ => .bad
abbrev opLt : F2 := opI (fun i j => .bl (decide (i < j))) fun _ _ => True
abbrev opLe : F2 := opI (fun i j => .bl (decide (i ≤ j))) fun _ _ => True
abbrev opGt : F2 := opI (fun i j => .bl (decide (j < i))) fun _ _ => True
abbrev opGe : F2 := opI (fun i j => .bl (decide (j ≤ i))) fun _ _ => True
section
variable {G : Cg} {W : WX}
theorem relNon {ι H} {x : D} {v : V} (r : RelD G ι H x v) : decide (v = .non) = isNonD x := by
  cases x with
  | non => rw [relN r]; rfl
  | bl b => rw [relB r]; rfl
  | int b => rw [relI r]; rfl
  | str b => rw [relS r]; rfl
  | tup ds => simp only [RelD] at r; obtain ⟨a, xs, rfl, _⟩ := r; rfl
  | lst ds => simp only [RelD] at r; obtain ⟨a, xs, rfl, _⟩ := r; rfl
  | scr ds => simp only [RelD] at r; obtain ⟨a, xs, rfl, _⟩ := r; rfl
  | obj n => simp only [RelD] at r; obtain ⟨a, rfl, _⟩ := r; rfl
  | glo n => simp only [RelD] at r; obtain ⟨a, rfl, _⟩ := r; rfl
  | ty n => simp only [RelD] at r; subst r; rfl
theorem k_isN : OpK G W (fun x y H Q => y = .non ∧ Q (.bl (decide (x = .non))) H) opIsN := fun ι H s x y v u P Q q r1 r2 h k => by
  cases y with
  | non => exact ⟨relN r2, k _ _ rfl (by simp only [RelD]; rw [relNon r1]) (h.here q)⟩
  | _ => exact h.elim
theorem k_notN : OpK G W (fun x y H Q => y = .non ∧ Q (.bl (!decide (x = .non))) H) opNotN := fun ι H s x y v u P Q q r1 r2 h k => by
  cases y with
  | non => exact ⟨relN r2, k _ _ rfl (by simp only [RelD]; rw [relNon r1]) (h.here q)⟩
  | _ => exact h.elim
abbrev rEqA (K : PySem.W.Frag) : R2 := fun x y H Q => rEq x y H Q ∨ rEqD K x y H Q
abbrev rNeA (K : PySem.W.Frag) : R2 := fun x y H Q => rNe x y H Q ∨ rNeD K x y H Q
theorem op_eqA {X : Cx} (hu : X.A.units + 64 < cLine) : OpR X (compareOp .Eq) (rEqA X.K) := op_eq.or (op_eqD hu)
theorem op_neA {X : Cx} (hu : X.A.units + 64 < cLine) : OpR X (compareOp .NotEq) (rNeA X.K) := op_ne.or (op_neD hu)
theorem k_eqF {f : Bool → Bool} {ι : Z} {H : Hp} {s : S} {x y : D} {v u : V} {P : D → Z → Hp → S → Prop} {Q : VK} (q : Sim G ι H s) (r1 : RelD G ι H x v) (r2 : RelD G ι H y u) (h : Post G W ι H P (opEqF f x y s))
    (k : ∀ d w, opEqF f x y s = .ok d s → RelD G ι H d w → P d ι H s → Q w H) :
    (scal v u = true ∧ Q (.bl (f (decide (v = u)))) H) ∨ (∃ d e, Dp G.K H v d ∧ Dp G.K H u e ∧ SeqAt.shaped d = true ∧ SeqAt.shaped e = true ∧ Q (.bl (f (PyData.eqv d e))) H) := by
  unfold opEqF at h k
  split at h
  · rename_i a b hab
    left
    unfold bothS at hab
    split at hab
    · rename_i a' b'
      cases hab
      rw [relS r1, relS r2]
      refine ⟨rfl, ?_⟩
      have e : decide (V.str a = V.str b) = decide (a = b) := by
        by_cases z : a = b
        · subst z; simp
        · rw [decide_eq_false z, decide_eq_false (fun e => z (V.str.inj e))]
      rw [e]
      exact k _ _ rfl (by simp only [RelD]) (h.here q)
    · cases hab
  · rename_i hab
    right
    rw [hab] at k
    unfold opEqP at h k
    split at h
    · rename_i a b ha hb
      split at h
      · rename_i hs
        refine ⟨a, b, dp_ofS q r1 ha, dp_ofS q r2 hb, hs.1, hs.2, k _ _ ?_ (by simp only [RelD]) (h.here q)⟩
        simp only [ha, hb, if_pos hs]
      · exact h.elim
    · exact h.elim
theorem k_eq : OpK G W (rEqA G.K) opEq := fun ι H s x y v u P Q q r1 r2 h k => k_eqF q r1 r2 h k
theorem k_ne : OpK G W (rNeA G.K) opNe := fun ι H s x y v u P Q q r1 r2 h k => k_eqF q r1 r2 h k
theorem k_int {g : Int → Int → D} {gV : Int → Int → V} {c : Int → Int → Prop} [∀ i j, Decidable (c i j)] (hg : ∀ ι H i j, RelD G ι H (g i j) (gV i j)) : OpK G W (rI c gV) (opI g c) := fun ι H s x y v u P Q q r1 r2 h k => by
  cases x with
  | int i =>
    cases y with
    | int j =>
      simp only [opI] at h k
      split at h
      · rename_i hc
        exact ⟨i, j, relI r1, relI r2, hc, k _ _ (if_pos hc) (hg ι H i j) (h.here q)⟩
      · exact h.elim
    | _ => exact h.elim
  | _ => exact h.elim
theorem k_int0 {g : Int → Int → D} {gV : Int → Int → V} (hg : ∀ ι H i j, RelD G ι H (g i j) (gV i j)) : OpK G W (rI0 gV) (opI g fun _ _ => True) := fun ι H s x y v u P Q q r1 r2 h k => by
  obtain ⟨i, j, a, b, _, c⟩ := k_int (c := fun _ _ => True) hg ι H s x y v u P Q q r1 r2 h k
  exact ⟨i, j, a, b, c⟩
theorem rb {ι H} (b : Bool) : RelD G ι H (.bl b) (.bl b) := by simp only [RelD]
theorem ri {ι H} (b : Int) : RelD G ι H (.int b) (.int b) := by simp only [RelD]
theorem k_lt : OpK G W (rI0 fun i j => .bl (decide (i < j))) opLt := k_int0 fun _ _ _ _ => rb _
theorem k_le : OpK G W (rI0 fun i j => .bl (decide (i ≤ j))) opLe := k_int0 fun _ _ _ _ => rb _
theorem k_gt : OpK G W (rI0 fun i j => .bl (decide (j < i))) opGt := k_int0 fun _ _ _ _ => rb _
theorem k_ge : OpK G W (rI0 fun i j => .bl (decide (j ≤ i))) opGe := k_int0 fun _ _ _ _ => rb _
end

/-! ### arithmetic, + of texts, tuples, lists -/
def opAdd : F2 := fun x y s => match x, y with
  | .int i, .int j => .ok (.int (i + j)) s
  | .str i, .str j => if i.length + j.length ≤ LIM then .ok (.str (i ++ j)) s else .bad
  | .tup xs, .tup ys => if xs.length + ys.length ≤ LIM then .ok (.tup (xs ++ ys)) s else .bad
  | x, y => match asX s x, asX s y with
    | some xs, some ys => if xs.length + ys.length ≤ LIM then .ok (.lst (xs ++ ys)) s else .bad
    | _, _ => .bad
abbrev opSub : F2 := opI (fun i j => .int (i - j)) fun _ _ => True
def CMulD (i j : Int) : Prop := (-(2 ^ 64) < i ∧ i < 2 ^ 64) ∨ (-(2 ^ 64) < j ∧ j < 2 ^ 64)
noncomputable instance (i j : Int) : Decidable (CMulD i j) := Classical.propDecidable _
noncomputable def opMul : F2 := fun x y s => match x, y with
  | .int i, .int j => if CMulD i j then .ok (.int (i * j)) s else .bad
  | .tup xs, .int k => if xs ≠ [] ∧ 2 ≤ k ∧ k ≤ 1000 ∧ xs.length ≤ 1000 then .ok (.tup (List.replicate k.toNat xs).flatten) s else .bad
  | x, .int k => match asX s x with
    | some xs => if 0 ≤ k ∧ k ≤ 1000 ∧ xs.length ≤ 1000 then .ok (.lst (List.replicate k.toNat xs).flatten) s else .bad
    | none => .bad
  | _, _ => .bad
abbrev opMod : F2 := opI (fun i j => .int (i % j)) fun _ j => 0 < j
noncomputable instance (i j : Int) : Decidable (CDiv i j) := Classical.propDecidable _
noncomputable instance (i j : Int) : Decidable (CPow i j) := Classical.propDecidable _
noncomputable abbrev opDiv : F2 := opI (fun i j => .int (i / j)) CDiv
noncomputable abbrev opPow : F2 := opI (fun i j => .int (i ^ j.toNat)) CPow
theorem emptyD : ∀ {xs : List D}, xs = [] ↔ xs.length = 0 := List.length_eq_zero_iff.symm
theorem RelDs.nil_iff {G ι H ds xs} (r : RelDs G ι H ds xs) : xs = [] ↔ ds = [] := by
  rw [← List.length_eq_zero_iff, ← List.length_eq_zero_iff, r.len]
section
variable {G : Cg} {W : WX} {X : Cx}
abbrev rAddA (K : PySem.W.Frag) : R2 := fun x y H Q => (rI0 fun i j => .int (i + j)) x y H Q ∨ (∃ i j, x = .str i ∧ y = .str j ∧ i.length + j.length ≤ sizeLine ∧ Q (.str (i ++ j)) H) ∨ rCatA K x y H Q ∨ rCat x y H Q
theorem op_addA : OpR X (binaryOp .Add) (rAddA X.K) := op_add.or (op_add_str.or (op_catA.or op_cat))
theorem v_cat {ι H s x y v u Q} (q : Sim G ι H s) (r1 : RelD G ι H x v) (r2 : RelD G ι H y u) (h : Post G W ι H (QE G Q) (match asX s x, asX s y with
    | some xs, some ys => if xs.length + ys.length ≤ LIM then .ok (.lst (xs ++ ys)) s else .bad
    | _, _ => .bad)) : rCat v u H Q := by
  split at h
  · rename_i xs ys h1 h2
    split at h
    · rename_i hl
      obtain ⟨a, vs, rfl, e1, k1⟩ := asX_at q r1 h1
      obtain ⟨b, ws, rfl, e2, k2⟩ := asX_at q r2 h2
      exact ⟨a, b, vs, ws, rfl, rfl, e1, e2, by rw [k1.len, k2.len]; exact le_LIM hl, fun p hp => h.newL q (k1.app k2) hp⟩
    · exact h.elim
  · exact h.elim
theorem v_add : OpV G W (rAddA G.K) opAdd := fun ι H s x y v u Q q r1 r2 h => by
  unfold opAdd at h
  split at h
  · rename_i i j
    exact .inl ⟨i, j, relI r1, relI r2, h.val q (ri _)⟩
  · rename_i i j
    split at h
    · rename_i hl
      exact .inr (.inl ⟨i, j, relS r1, relS r2, le_LIM hl, h.val q (by simp only [RelD])⟩)
    · exact h.elim
  · rename_i xs ys
    split at h
    · rename_i hl
      have r1' := r1; have r2' := r2
      simp only [RelD] at r1 r2
      obtain ⟨a, vs, rfl, t1, k1⟩ := r1
      obtain ⟨b, ws, rfl, t2, k2⟩ := r2
      refine .inr (.inr (.inl ⟨a, b, vs, ws, rfl, rfl, t1.sq, t2.sq, by rw [k1.len, k2.len]; exact le_LIM hl, fun e => ?_, fun _ e => ?_, fun _ _ p hp => h.newT q (k1.app k2) hp⟩))
      · rw [k1.nil_iff] at e
        subst e
        exact h.val q r2'
      · rw [k2.nil_iff] at e
        subst e
        rw [List.append_nil] at h
        exact h.val q r1'
    · exact h.elim
  · exact .inr (.inr (.inr (v_cat q r1 r2 h)))
theorem v_sub : OpV G W (rI0 fun i j => .int (i - j)) opSub := (k_int0 fun _ _ _ _ => ri _).v
abbrev rMulA (K : PySem.W.Frag) : R2 := fun x y H Q => (rI CMul fun i j => .int (i * j)) x y H Q ∨ rRepT K x y H Q ∨ rRep x y H Q
theorem op_mulA : OpR X (binaryOp .Mult) (rMulA X.K) := op_mul.or (op_repT.or op_rep)
theorem RelDs.rep {ι H} {xs : List D} {vs : List V} (r : RelDs G ι H xs vs) : ∀ n, RelDs G ι H (List.replicate n xs).flatten (List.replicate n vs).flatten
  | 0 => by simp only [List.replicate_zero, List.flatten_nil]; exact .nil
  | n + 1 => by
    simp only [List.replicate_succ, List.flatten_cons]
    exact r.app (RelDs.rep r n)
theorem v_mul : OpV G W (rMulA G.K) opMul := fun ι H s x y v u Q q r1 r2 h => by
  unfold opMul at h
  split at h
  · rename_i i j
    split at h
    · rename_i hc
      exact .inl ⟨i, j, relI r1, relI r2, hc, h.val q (ri _)⟩
    · exact h.elim
  · rename_i xs k
    split at h
    · rename_i hc
      simp only [RelD] at r1
      obtain ⟨a, vs, rfl, t1, k1⟩ := r1
      exact .inr (.inl ⟨a, k, vs, rfl, relI r2, t1.sq, fun e => hc.1 (k1.nil_iff.mp e), hc.2.1, hc.2.2.1, by rw [k1.len]; exact hc.2.2.2, fun p hp => h.newT q (k1.rep _) hp⟩)
    · exact h.elim
  · rename_i x k _ _
    split at h
    · rename_i xs hx
      split at h
      · rename_i hc
        obtain ⟨a, vs, rfl, e1, k1⟩ := asX_at q r1 hx
        refine .inr (.inr ⟨a, k, vs, rfl, relI r2, e1, by omega, by omega, ?_, fun p hp => h.newL q (k1.rep _) hp⟩)
        rw [k1.len]
        have a1 : xs.length * k.toNat ≤ 1000 * 1000 := Nat.mul_le_mul (by omega) (by omega)
        exact Nat.le_trans a1 LIM_le
      · exact h.elim
    · exact h.elim
  · exact h.elim
theorem v_mod : OpV G W (rI (fun _ j => 0 < j) fun i j => .int (i % j)) opMod := (k_int fun _ _ _ _ => ri _).v
theorem v_div : OpV G W (rI CDiv fun i j => .int (i / j)) opDiv := (k_int fun _ _ _ _ => ri _).v
theorem v_pow : OpV G W (rI CPow fun i j => .int (i ^ j.toNat)) opPow := (k_int fun _ _ _ _ => ri _).v
def opNeg : F1 := fun x s => match x with
  | .int i => .ok (.int (-i)) s
  | _ => .bad
theorem v_neg : UnV G W (rU fun i => .int (-i)) opNeg := fun ι H s x v Q q r h => by
  cases x with
  | int i => exact ⟨i, relI r, h.val q (ri _)⟩
  | _ => exact h.elim
end

/-! ### in, not in -/
def flatD : D → Bool
  | .non | .bl _ | .int _ | .str _ => true
  | _ => false
def eqF : D → D → Bool
  | .non, .non => true
  | .bl a, .bl b => a == b
  | .bl a, .int b => (if a then 1 else 0) == b
  | .int a, .bl b => a == (if b then 1 else 0)
  | .int a, .int b => a == b
  | .str a, .str b => a == b
  | _, _ => false
def anyF (x : D) (ys : List D) : Bool := ys.any fun y => eqF y x
def opInB (f : Bool → Bool) : F2 := fun x y s => match y with
  | .tup ys => if flatD x = true ∧ ys.all flatD = true then .ok (.bl (f (anyF x ys))) s else .bad
  | y => match toPyS s x, toPyS s y with
    | some d, some (.list ds) => if SeqAt.shaped d = true ∧ SeqAt.shaped (.list ds) = true then .ok (.bl (f (ds.any fun z => PyData.eqv z d))) s else .bad
    | _, _ => .bad
abbrev opIn : F2 := opInB fun b => b
abbrev opNotIn : F2 := opInB fun b => !b
section
variable {G : Cg} {W : WX} {X : Cx} {ι : Z} {H : Hp}
theorem flat_rel {x : D} {v : V} (r : RelD G ι H x v) (h : flatD x = true) : flatV v = true := by
  cases x with
  | non => rw [relN r]; rfl
  | bl b => rw [relB r]; rfl
  | int b => rw [relI r]; rfl
  | str b => rw [relS r]; rfl
  | _ => cases h
theorem eqF_rel {x y : D} {v u : V} (r1 : RelD G ι H x v) (r2 : RelD G ι H y u) (h1 : flatD x = true) (h2 : flatD y = true) : eqV v u = eqF x y := by
  cases x with
  | non => rw [relN r1]; (cases y <;> first | exact Bool.noConfusion h2 | (first | rw [relN r2] | rw [relB r2] | rw [relI r2] | rw [relS r2]) <;> rfl)
  | bl b => rw [relB r1]; (cases y <;> first | exact Bool.noConfusion h2 | (first | rw [relN r2] | rw [relB r2] | rw [relI r2] | rw [relS r2]) <;> rfl)
  | int b => rw [relI r1]; (cases y <;> first | exact Bool.noConfusion h2 | (first | rw [relN r2] | rw [relB r2] | rw [relI r2] | rw [relS r2]) <;> rfl)
  | str b => rw [relS r1]; (cases y <;> first | exact Bool.noConfusion h2 | (first | rw [relN r2] | rw [relB r2] | rw [relI r2] | rw [relS r2]) <;> rfl)
  | _ => cases h1
theorem anyF_rel {x : D} {v : V} (r1 : RelD G ι H x v) (h1 : flatD x = true) : ∀ {ys : List D} {us : List V}, RelDs G ι H ys us → ys.all flatD = true → us.all flatV = true ∧ inV v us = anyF x ys
  | [], us, r2, _ => by simp only [RelDs] at r2; subst r2; exact ⟨rfl, rfl⟩
  | y :: ys, us, r2, h2 => by
    simp only [RelDs] at r2
    obtain ⟨u, us', rfl, k1, k2⟩ := r2
    simp only [List.all_cons, Bool.and_eq_true] at h2
    obtain ⟨i1, i2⟩ := anyF_rel r1 h1 k2 h2.2
    refine ⟨by simp only [List.all_cons, Bool.and_eq_true]; exact ⟨flat_rel k1 h2.1, i1⟩, ?_⟩
    unfold inV anyF at i2 ⊢
    simp only [List.any_cons]
    rw [eqF_rel k1 r1 h2.1 h1, i2]
abbrev rInA (K : PySem.W.Frag) : R2 := fun x y H Q => rIn K false x y H Q ∨ rInD K x y H Q
abbrev rNotInA (K : PySem.W.Frag) : R2 := fun x y H Q => rIn K true x y H Q ∨ rNotInD K x y H Q
theorem op_inA (hu : X.A.units + 65 < cLine) : OpR X (compareOp .In) (rInA X.K) := op_in_seq.or (op_inD hu)
theorem op_notInA (hu : X.A.units + 65 < cLine) : OpR X (compareOp .NotIn) (rNotInA X.K) := op_notIn_seq.or (op_notInD hu)
theorem v_inB {f : Bool → Bool} {s : S} {x y : D} {v u : V} {Q : VK} (q : Sim G ι H s) (r1 : RelD G ι H x v) (r2 : RelD G ι H y u) (h : Post G W ι H (QE G Q) (opInB f x y s)) :
    (∃ p xs, u = .ref p ∧ SqT G.K H p xs ∧ flatV v = true ∧ xs.all flatV = true ∧ Q (.bl (f (inV v xs))) H) ∨
      (∃ d ds, Dp G.K H v d ∧ Dp G.K H u (.list ds) ∧ SeqAt.shaped d = true ∧ SeqAt.shaped (.list ds) = true ∧ Q (.bl (f (ds.any fun z => PyData.eqv z d))) H) := by
  unfold opInB at h
  split at h
  · rename_i ys
    split at h
    · rename_i hc
      simp only [RelD] at r2
      obtain ⟨a, us, rfl, t, k⟩ := r2
      obtain ⟨i1, i2⟩ := anyF_rel r1 hc.1 k hc.2
      exact .inl ⟨a, us, rfl, t.sq, flat_rel r1 hc.1, i1, by rw [i2]; exact h.val q (rb _)⟩
    · exact h.elim
  · split at h
    · rename_i d ds h1 h2
      split at h
      · rename_i hc
        exact .inr ⟨d, ds, dp_ofS q r1 h1, dp_ofS q r2 h2, hc.1, hc.2, h.val q (rb _)⟩
      · exact h.elim
    · exact h.elim
theorem v_in : OpV G W (rInA G.K) opIn := fun ι H s x y v u Q q r1 r2 h => by
  rcases v_inB q r1 r2 h with ⟨p, xs, e, t, f1, f2, k⟩ | h
  · exact .inl ⟨p, xs, e, .inr t, f1, f2, k⟩
  · exact .inr h
theorem v_notIn : OpV G W (rNotInA G.K) opNotIn := fun ι H s x y v u Q q r1 r2 h => by
  rcases v_inB q r1 r2 h with ⟨p, xs, e, t, f1, f2, k⟩ | h
  · exact .inl ⟨p, xs, e, .inr t, f1, f2, k⟩
  · exact .inr h
end

/-! ### items, slices -/
def opIx : F2 := fun x y s => match x, y with
  | .tup xs, .int i => (match atI xs i with
    | some d => .ok d s
    | none => .bad)
  | .str z, .int i => if z.length ≤ LIM then (match atI z.cps.toList i with
    | some c => .ok (.str ⟨#[c]⟩) s
    | none => .bad) else .bad
  | x, .int i => (match asL s x with
    | some xs => (match atI xs i with
      | some d => .ok d s
      | none => .bad)
    | none => .bad)
  | _, _ => .bad
section
variable {G : Cg} {W : WX} {X : Cx} {ι : Z} {H : Hp}
theorem at_rel {xs : List D} {vs : List V} (r : RelDs G ι H xs vs) {i : Int} {d : D} (h : atI xs i = some d) : ∃ v, atI vs i = some v ∧ RelD G ι H d v := by
  unfold atI at h ⊢
  rw [r.len]
  cases hj : ixN xs.length i with
  | none => rw [hj] at h; cases h
  | some j =>
    rw [hj] at h
    exact r.get (i := j) h
theorem v_ix : OpV G W (rIx G.K) opIx := fun ι H s x y v u Q q r1 r2 h => by
  unfold opIx at h
  split at h
  · rename_i xs i
    split at h
    · rename_i d hd
      simp only [RelD] at r1
      obtain ⟨a, us, rfl, t, k⟩ := r1
      obtain ⟨w, hw, rw'⟩ := at_rel k hd
      exact .inr (.inl ⟨a, us, i, w, rfl, relI r2, t.sq, hw, h.val q rw'⟩)
    · exact h.elim
  · rename_i z i
    split at h
    · rename_i hl
      split at h
      · rename_i c hc
        exact .inr (.inr ⟨z, i, c, relS r1, relI r2, le_LIM hl, hc, h.val q (by simp only [RelD])⟩)
      · exact h.elim
    · exact h.elim
  · rename_i x i _ _
    split at h
    · rename_i xs hx
      split at h
      · rename_i d hd
        obtain ⟨a, vs, rfl, t, k⟩ := asL_at q r1 hx
        obtain ⟨w, hw, rw'⟩ := at_rel k hd
        exact .inl ⟨a, vs, i, w, rfl, relI r2, t, hw, h.val q rw'⟩
      · exact h.elim
    · exact h.elim
  · exact h.elim
theorem ve_ix {a b : Expr} {ma mb : ME} {pos : Pos} (ha : VE X W a ma) (hb : VE X W b mb) (hs : PlainIx b := by exact fun _ _ => rfl) : VE X W (.Subscript a b pos) (mBin opIx ma mb) :=
  pe_imp (pe_ix ix_seq ha hb hs) (rd_bin v_ix (fun _ _ _ h => h) fun _ _ _ h => h)

def cutD (xs : List D) (lo hi : Option Int) : List D := (xs.drop (HT.sIx xs.length 0 lo)).take (HT.sIx xs.length xs.length hi - HT.sIx xs.length 0 lo)
theorem cut_rel {xs : List D} {vs : List V} (r : RelDs G ι H xs vs) (lo hi : Option Int) : RelDs G ι H (cutD xs lo hi) (cutV vs lo hi) := by
  unfold cutD cutV
  rw [r.len]
  exact (r.drop _).take _
def opSl (x : D) (lo hi : Option Int) (s : S) : R D := match x with
  | .tup xs => .ok (.tup (cutD xs lo hi)) s
  | .str z => if z.length ≤ LIM then .ok (.str (cutS z lo hi)) s else .bad
  | x => match asL s x with
    | some xs => .ok (.lst (cutD xs lo hi)) s
    | none => .bad
abbrev MO := Ev → S → R (Option Int)
def rdO (G : Cg) (W : WX) (m : MO) : TO := fun σ H Q => ∃ ι s ρ, Sim G ι H s ∧ EnvR G ι H σ ρ ∧ Post G W ι H (fun o _ H' _ => Q o H') (m ρ s)
abbrev VO (X : Cx) (W : WX) (e : Option Expr) (m : MO) : Prop := PO X e (rdO (cg X) W m)
def mNo : MO := fun _ s => .ok none s
def mPart (m : ME) : MO := fun ρ s => (m ρ s).bnd fun d s1 => match d with
  | .int i => .ok (some i) s1
  | _ => .bad
theorem po_imp {e : Option Expr} {t t' : TO} (h : PO X e t) (k : ∀ σ H Q, t' σ H Q → t σ H Q) : PO X e t' := ⟨fun pins s σ H Q I q => h.run pins s σ H Q I (k σ H Q q)⟩
theorem vo_no : VO X W none mNo := po_imp po_none fun σ H Q ⟨ι, s, ρ, q, e, h⟩ => h.here q
theorem vo_some {e : Expr} {m : ME} (h : VE X W e m) : VO X W (some e) (mPart m) := by
  refine po_imp (po_some h) fun σ H Q h => ?_
  obtain ⟨ι, s, ρ, q, e, h⟩ := h
  refine rdE_on q e h fun d v ι1 H1 s1 e1 q1 r1 h1 => ?_
  cases d with
  | int i => exact ⟨i, relI r1, h1.here q1⟩
  | _ => exact h1.elim
def mSl (m : ME) (lo hi : MO) : ME := fun ρ s => (m ρ s).bnd fun x s1 => (lo ρ s1).bnd fun l s2 => (hi ρ s2).bnd fun h s3 => opSl x l h s3
abbrev rSlU (K : PySem.W.Frag) : V → Option Int → Option Int → Hp → VK → Prop := fun x lo hi H Q => rSlA K x lo hi H Q ∨ rSlS x lo hi H Q ∨ rSlL K x lo hi H Q
theorem sl_any : SlR X (rSlU X.K) := sl_tupA.or (sl_str.or sl_list)
theorem v_sl {s : S} {x : D} {v : V} {lo hi : Option Int} {Q : VK} (q : Sim G ι H s) (r : RelD G ι H x v) (h : Post G W ι H (QE G Q) (opSl x lo hi s)) : rSlU G.K v lo hi H Q := by
  unfold opSl at h
  split at h
  · rename_i xs
    have r' := r
    simp only [RelD] at r
    obtain ⟨a, us, rfl, t, k⟩ := r
    refine .inl ⟨a, us, rfl, t.sq, fun hw => ?_, fun _ p hp => h.newT q (cut_rel k lo hi) hp⟩
    rw [k.len] at hw
    have e : cutD xs lo hi = xs := by
      unfold cutD
      rw [hw.1, hw.2, List.drop_zero, Nat.sub_zero, List.take_length]
    rw [e] at h
    exact h.val q r'
  · rename_i z
    split at h
    · rename_i hl
      exact .inr (.inl ⟨z, relS r, le_LIM hl, h.val q (by simp only [RelD])⟩)
    · exact h.elim
  · split at h
    · rename_i xs hx
      obtain ⟨a, vs, rfl, t, k⟩ := asL_at q r hx
      exact .inr (.inr ⟨a, vs, rfl, t, fun p hp => h.newL q (cut_rel k lo hi) hp⟩)
    · exact h.elim
theorem ve_sl {e : Expr} {lo hi : Option Expr} {m : ME} {ml mh : MO} {p2 pos : Pos} (he : VE X W e m) (hl : VO X W lo ml) (hh : VO X W hi mh) : VE X W (.Subscript e (.Slice lo hi none p2) pos) (mSl m ml mh) := by
  refine pe_imp (pe_slice sl_any he hl hh) fun σ H Q h => ?_
  obtain ⟨ι, s, ρ, q, e, h⟩ := h
  refine rdE_on q e h fun d v ι1 H1 s1 e1 q1 r1 h1 => ⟨ι1, s1, ρ, q1, e.mono e1, h1.bnd.imp fun l ι2 H2 s2 ⟨e2, q2, h2⟩ => ⟨ι2, s2, ρ, q2, (e.mono e1).mono e2, h2.bnd.imp fun u ι3 H3 s3 ⟨e3, q3, h3⟩ => ?_⟩⟩
  exact v_sl q3 ((r1.mono e2).mono e3) h3
end
end VL
namespace VL
open PySem PySem.Spec PyProof.Rows L2

/-! ### statements -/
def mSkip : MS := fun ρ s => .ok (.nx ρ) s
def mSeq (a b : MS) : MS := fun ρ s => (a ρ s).bnd fun fl s1 => match fl with
  | .nx ρ1 => b ρ1 s1
  | fl => .ok fl s1
def mRet (m : ME) : MS := fun ρ s => (m ρ s).bnd fun d s1 => .ok (.ret d) s1
def mRetN : MS := fun _ s => .ok (.ret .non) s
def mDrop (m : ME) : MS := fun ρ s => (m ρ s).bnd fun _ s1 => .ok (.nx ρ) s1
def mIfS (t : MT) (a b : MS) : MS := fun ρ s => (t ρ s).bnd fun k s1 => if k = true then a ρ s1 else b ρ s1
def mBad : MS := fun _ _ => .bad
def mBreak : MS := fun ρ s => .ok (.bk ρ) s
def mCont : MS := fun ρ s => .ok (.ct ρ) s
section
variable {X : Cx} {W : WX} {st : Stmt} {rest sts : List Stmt} {a b : MS} {e c : Expr} {m : ME} {t : MT} {pos : Pos}
theorem vss_nil : VSs X W [] mSkip := pss_imp pss_nil fun Dn σ H ⟨ι, s, ρ, q, e, h⟩ => h.here q σ e
theorem EndsP_of {G : Cg} {Dn Dn' : Ends} {fl : Fl} {ι H s} (h : EndsP G Dn fl ι H s) (hn : ∀ σ H, Dn.nx σ H → Dn'.nx σ H) (hr : Dn'.rt = Dn.rt) (hb : Dn'.bk = Dn.bk) (hc : Dn'.ct = Dn.ct) : EndsP G Dn' fl ι H s := by
  cases fl with
  | nx ρ => exact fun σ e => hn _ _ (h σ e)
  | ret d => exact fun v r => by rw [hr]; exact h v r
  | bk ρ => exact fun σ e => by rw [hb]; exact h σ e
  | ct ρ => exact fun σ e => by rw [hc]; exact h σ e
theorem rd_seq {G : Cg} {Dn : Ends} {σ : L2.St} {H : Hp} (h : rdS G W (mSeq a b) Dn σ H) : rdS G W a { Dn with nx := rdS G W b Dn } σ H := by
  obtain ⟨ι, s, ρ, q, e, h⟩ := h
  refine ⟨ι, s, ρ, q, e, h.bnd.imp fun fl ι1 H1 s1 ⟨e1, q1, h1⟩ => ?_⟩
  cases fl with
  | nx ρ1 => exact fun σ' e' => ⟨ι1, s1, ρ1, q1, e', h1⟩
  | ret d => exact h1.here q1
  | bk ρ1 => exact h1.here q1
  | ct ρ1 => exact h1.here q1
theorem vss_cons (h1 : VS X W st a) (h2 : VSs X W rest b) : VSs X W (st :: rest) (mSeq a b) := pss_imp (pss_cons h1 h2) fun _ _ _ h => rd_seq h
theorem vss_one (h1 : VS X W st a) : VSs X W [st] a := pss_one h1
theorem vs_ret (h : VE X W e m) : VS X W (.Return (some e) pos) (mRet m) := by
  refine ps_imp (ps_ret h) fun Dn σ H h => ?_
  obtain ⟨ι, s, ρ, q, e, h⟩ := h
  exact rdE_on q e h fun d v ι1 H1 s1 e1 q1 r1 h1 => h1.here q1 v r1
theorem vs_retN : VS X W (.Return none pos) mRetN := ps_imp ps_retN fun Dn σ H ⟨ι, s, ρ, q, e, h⟩ => h.here q .non (by simp only [RelD])
theorem vs_expr (h : VE X W e m) (hs : swapsWith e none pos.line X.env = pure false := by rfl) : VS X W (.Expr e pos) (mDrop m) := by
  refine ps_imp (ps_expr h hs) fun Dn σ H h => ?_
  obtain ⟨ι, s, ρ, q, e, h⟩ := h
  exact rdE_on q e h fun d v ι1 H1 s1 e1 q1 r1 h1 => h1.here q1 σ (e.mono e1)
theorem vs_if (hc : VT X W c t) (h1 : VSs X W sts a) (h2 : VSs X W rest b) : VS X W (.If c sts rest pos) (mIfS t a b) := by
  refine ps_imp (ps_if hc h1 h2) fun Dn σ H h => ?_
  obtain ⟨ι, s, ρ, q, e, h⟩ := h
  refine rdT_on q e h fun k ι1 H1 s1 e1 q1 h1 => ?_
  cases k with
  | true => rw [if_pos rfl] at h1 ⊢; exact ⟨ι1, s1, ρ, q1, e.mono e1, h1⟩
  | false => rw [if_neg Bool.false_ne_true] at h1 ⊢; exact ⟨ι1, s1, ρ, q1, e.mono e1, h1⟩
theorem vs_never : VS X W st mBad := ps_imp ps_never fun Dn σ H ⟨ι, s, ρ, q, e, h⟩ => h.elim
theorem vss_never : VSs X W sts mBad := pss_imp pss_never fun Dn σ H ⟨ι, s, ρ, q, e, h⟩ => h.elim
theorem vs_pass : VS X W (.Pass pos) mSkip := ps_imp ps_pass fun Dn σ H ⟨ι, s, ρ, q, e, h⟩ => h.here q σ e
theorem vs_break : VS X W (.Break pos) mBreak := ps_imp ps_break fun Dn σ H ⟨ι, s, ρ, q, e, h⟩ => h.here q σ e
theorem vs_continue : VS X W (.Continue pos) mCont := ps_imp ps_continue fun Dn σ H ⟨ι, s, ρ, q, e, h⟩ => h.here q σ e
end

/-! ### targets -/
abbrev MG := D → Ev → S → R Ev
abbrev MGs := List D → Ev → S → R Ev
def rdG (G : Cg) (W : WX) (m : MG) : TG := fun v σ H Q => ∃ ι s ρ d, Sim G ι H s ∧ EnvR G ι H σ ρ ∧ RelD G ι H d v ∧ Post G W ι H (fun ρ' ι' H' _ => ∀ σ', EnvR G ι' H' σ' ρ' → Q σ' H') (m d ρ s)
def rdGs (G : Cg) (W : WX) (m : MGs) : TGs := fun vs σ H Q => ∃ ι s ρ ds, Sim G ι H s ∧ EnvR G ι H σ ρ ∧ RelDs G ι H ds vs ∧ Post G W ι H (fun ρ' ι' H' _ => ∀ σ', EnvR G ι' H' σ' ρ' → Q σ' H') (m ds ρ s)
abbrev VG (X : Cx) (W : WX) (tg : Expr) (m : MG) : Prop := PG X tg (rdG (cg X) W m)
abbrev VGs (X : Cx) (W : WX) (tgs : List Expr) (m : MGs) : Prop := PGs X tgs (rdGs (cg X) W m)
theorem pg_imp {X : Cx} {e : Expr} {t t' : TG} (h : PG X e t) (k : ∀ v σ H Q, t' v σ H Q → t v σ H Q) : PG X e t' := ⟨fun pins s σ H v u Q I r q => h.run pins s σ H v u Q I r (k v σ H Q q)⟩
theorem pgs_imp {X : Cx} {e : List Expr} {t t' : TGs} (h : PGs X e t) (k : ∀ v σ H Q, t' v σ H Q → t v σ H Q) : PGs X e t' := ⟨fun pins s σ H v u Q I r q => h.run pins s σ H v u Q I r (k v σ H Q q)⟩
def gN (i : Nat) : MG := fun d ρ s => .ok (ρ.set i (some d)) s
def gNilM : MGs := fun ds ρ s => match ds with
  | [] => .ok ρ s
  | _ => .bad
def gConsM (g : MG) (gs : MGs) : MGs := fun ds ρ s => match ds with
  | d :: ds => (g d ρ s).bnd fun ρ1 s1 => gs ds ρ1 s1
  | [] => .bad
def gT (n : Nat) (gs : MGs) : MG := fun d ρ s => match d with
  | .tup ds => if ds.length = n then gs ds ρ s else .bad
  | _ => .bad
section
variable {X : Cx} {W : WX} {pos : Pos}
theorem vg_n (i : Nat) {x : Str} (hN : X.N.Nodup) (hi : X.N[i]? = some x := by rfl) (hx : Loc X.env.scope x := by first | exact Or.inl rfl | exact Or.inr rfl) (hf : X.fn x = true ∨ X.env.scope.names.lookup x = some .local := by first | exact .inl rfl | exact .inr rfl | assumption) : VG X W (.Name x pos) (gN i) :=
  pg_imp (pg_name hN hi hx hf) fun v σ H Q ⟨ι, s, ρ, d, q, e, r, h⟩ => h.here q _ (e.set r)
theorem vgs_nil : VGs X W [] gNilM := pgs_imp pgs_nil fun v σ H Q ⟨ι, s, ρ, d, q, e, r, h⟩ => by
  cases d with
  | nil => simp only [RelDs] at r; exact ⟨r, h.here q σ e⟩
  | cons d ds => exact h.elim
theorem vgs_cons {e : Expr} {es : List Expr} {g : MG} {gs : MGs} (h1 : VG X W e g) (h2 : VGs X W es gs) (hs : (assignEach (e :: es) X.env).map (·.2) = assign e X.env :: (assignEach es X.env).map (·.2) := by rfl) : VGs X W (e :: es) (gConsM g gs) :=
  pgs_imp (pgs_cons h1 h2 hs) fun vs σ H Q ⟨ι, s, ρ, ds, q, e, r, h⟩ => by
    cases ds with
    | nil => exact h.elim
    | cons d ds =>
      simp only [RelDs] at r
      obtain ⟨v, vr, rfl, r1, r2⟩ := r
      exact ⟨v, vr, rfl, ι, s, ρ, d, q, e, r1, h.bnd.imp fun ρ1 ι1 H1 s1 ⟨e1, q1, h1⟩ σ' e' => ⟨ι1, s1, ρ1, ds, q1, e', r2.mono e1, h1⟩⟩
theorem vg_t {es : List Expr} {k : Nat} {gs : MGs} (n : Nat) (h : VGs X W es gs) (hc : X.calm = true := by rfl) (hn : (assignEach es X.env).length = n := by rfl) (hst : (assignEach es X.env).findIdx? (·.1) = none := by rfl) : VG X W (.Tuple es k pos) (gT n gs) :=
  pg_imp (pg_tup hc h hn hst) fun v σ H Q ⟨ι, s, ρ, d, q, e, r, h⟩ => by
    unfold gT at h
    split at h
    · rename_i ds
      split at h
      · rename_i hl
        simp only [RelD] at r
        obtain ⟨a, xs, rfl, t, k⟩ := r
        exact ⟨a, xs, rfl, t.sq, by rw [k.len]; exact hl, ι, s, ρ, ds, q, e, k, h⟩
      · exact h.elim
    · exact h.elim
/-- xs[i] = v -/
def setIx (o i v : D) (s : S) : Option S := match o, i with
  | .obj n, .int k => (match s[n]? with
    | some (.lst ds) => (match ixN ds.length k with
      | some j => some (s.set n (.lst (ds.set j v)))
      | none => none)
    | _ => none)
  | _, _ => none
def gIx (mo mi : ME) : MG := fun d ρ s => (mo ρ s).bnd fun o s1 => (mi ρ s1).bnd fun i s2 => match setIx o i d s2 with
  | some s3 => .ok ρ s3
  | none => .bad
theorem vg_ix {o i : Expr} {mo mi : ME} (ho : VE X W o mo) (hi : VE X W i mi) (ha : ∀ v, assign (.Subscript o i pos) X.env v = (do
      let ov ← holding [v] (eval o X.env)
      let iv ← holding [v, ov] (eval i X.env)
      standAt pos
      holding [v, ov, iv] (setItem ov iv v)
      release [v, ov, iv] []) := by intro _; rfl) : VG X W (.Subscript o i pos) (gIx mo mi) :=
  pg_imp (pg_sub ho hi set_list ha) fun v σ H Q ⟨ι, s, ρ, d, q, e, r, h⟩ => by
    refine rdE_on q e h fun x w ι1 H1 s1 e1 q1 r1 h1 => rdE_on q1 (e.mono e1) h1 fun y u ι2 H2 s2 e2 q2 r2 h2 => ?_
    split at h2
    · rename_i s3 hs
      unfold setIx at hs
      split at hs
      · rename_i n k
        split at hs
        · rename_i ds hd
          split at hs
          · rename_i j hj
            cases hs
            obtain ⟨a, g1, g2, xs, g3, g4⟩ := q2.addr hd
            have r1' := r1.mono e2
            simp only [RelD] at r1'
            obtain ⟨b, rfl, eb⟩ := r1'
            rw [g1] at eb; cases eb
            refine ⟨a, xs, k, j, rfl, relI r2, g3, by rw [g4.len]; exact hj, ?_⟩
            refine h2 ι2 _ (.write g2 (nfix g3 rfl)) (q2.write g1 (nfix g3 rfl) ⟨_, upd_same, ?_⟩) σ (((e.mono e1).mono e2).mono (.write g2 (nfix g3 rfl)))
            exact RelDs.set ((((r.mono e1).mono e2)).mono (.write g2 (nfix g3 rfl))) j (g4.mono (.write g2 (nfix g3 rfl)))
          · cases hs
        · cases hs
      · cases hs
    · exact h2.elim
/-- target = value -/
def mAsg (m : ME) (g : MG) : MS := fun ρ s => (m ρ s).bnd fun d s1 => (g d ρ s1).bnd fun ρ1 s2 => .ok (.nx ρ1) s2
theorem rd_asg {m : ME} {g : MG} {tm : TE} (km : ∀ σ H Q, rdE (cg X) W m σ H Q → tm σ H Q) {Dn : Ends} {σ : L2.St} {H : Hp} (h : rdS (cg X) W (mAsg m g) Dn σ H) : tAsg tm (rdG (cg X) W g) Dn σ H := by
  obtain ⟨ι, s, ρ, q, e, h⟩ := h
  refine km _ _ _ (rdE_on q e h fun x v ι1 H1 s1 e1 q1 r1 h1 => ⟨ι1, s1, ρ, x, q1, e.mono e1, r1, h1.bnd.imp fun ρ2 ι2 H2 s2 ⟨e2, q2, h2⟩ σ' e' => h2.here q2 σ' e'⟩)
theorem vs_asg {tg e : Expr} {m : ME} {g : MG} (he : VE X W e m) (hg : VG X W tg g) (hs : swapsWithSole [tg] e pos.line X.env = pure false := by rfl) (hw : swappedStores [tg] e X.env = pure none := by rfl)
    (h1 : (assignEach [tg] X.env).map (·.2) = [assign tg X.env] := by rfl) : VS X W (.Assign [tg] e pos) (mAsg m g) :=
  ps_imp (ps_asg he hg hs hw h1) fun _ _ _ h => rd_asg (fun _ _ _ h => h) h
/-- a, b = e1, e2 -/
def mPar (i j : Nat) (ms : MA) : MS := fun ρ s => (ms ρ s).bnd fun ds s1 => match ds with
  | [x, y] => .ok (.nx ((ρ.set i (some x)).set j (some y))) s1
  | _ => .bad
def mPar3 (i j k : Nat) (ms : MA) : MS := fun ρ s => (ms ρ s).bnd fun ds s1 => match ds with
  | [x, y, z] => .ok (.nx (((ρ.set i (some x)).set j (some y)).set k (some z))) s1
  | _ => .bad
theorem vs_par {i j : Nat} {x y : Str} {a b : Expr} {ms : MA} {px py pt : Pos} {kt k2 pt2} (hN : X.N.Nodup) (ha : VA X W [a, b] ms) (hi : X.N[i]? = some x := by rfl) (hj : X.N[j]? = some y := by rfl) (hij : i ≠ j := by decide)
    (hx : X.env.scope.names.lookup x = some .local := by rfl) (hy : X.env.scope.names.lookup y = some .local := by rfl) (hc : X.calm = true := by rfl)
    (hw : swappedStores [.Tuple [.Name x px, .Name y py] kt pt] (.Tuple [a, b] k2 pt2) X.env = pure (some [x, y]) := by rfl)
    (hs : swapsWithSole [.Tuple [.Name x px, .Name y py] kt pt] (.Tuple [a, b] k2 pt2) pos.line X.env = pure false := by rfl) :
    VS X W (.Assign [.Tuple [.Name x px, .Name y py] kt pt] (.Tuple [a, b] k2 pt2) pos) (mPar i j ms) :=
  ps_imp (ps_par hc hN hi hj hij hx hy ha hw hs) fun Dn σ H ⟨ι, s, ρ, q, e, h⟩ => by
    refine rdA_on q e h fun xs vs ι1 H1 s1 e1 q1 r1 h1 => ?_
    split at h1
    · rename_i x y
      simp only [RelDs] at r1
      obtain ⟨v, _, rfl, r1, w, _, rfl, r2, rfl⟩ := r1
      exact ⟨v, w, rfl, h1.here q1 _ (((e.mono e1).set r1).set r2)⟩
    · exact h1.elim
end

/-! ### loops -/
inductive Src where
  | fix (xs : List D) | live (n : Nat) | enl (n : Nat)
def enumD (xs : List D) : List D := xs.zipIdx.map fun p => .tup [.int (p.2 : Nat), p.1]
def srcAt (s : S) : Src → Option (List D)
  | .fix xs => some xs
  | .live n => match s[n]? with
    | some (.lst ds) => some ds
    | _ => none
  | .enl n => match s[n]? with
    | some (.lst ds) => some (enumD ds)
    | _ => none
/-- the iterator gives the items, whatever has become of the heap -/
def ItOk (G : Cg) (ι₀ : Z) (H₀ : Hp) (src : Src) (J : It) : Prop := ∀ (ι : Z) (H : Hp) (s : S) (xs : List D), ExtW ι₀ H₀ ι H → Sim G ι H s → srcAt s src = some xs → ∀ i,
  (∀ d, xs[i]? = some d → J.go i H ∧ ∀ x H', J.yld i H x H' → Ext ι H ι H' ∧ (∀ a ∈ ι.ad, H' a = H a) ∧ RelD G ι H' d x) ∧ (xs.length ≤ i → J.stop i H)
theorem ItOk.mono {G : Cg} {ι H ι' H' src J} (e : ExtW ι H ι' H') (h : ItOk G ι H src J) : ItOk G ι' H' src J := fun ι2 H2 s xs e2 => h ι2 H2 s xs (e.trans e2)
abbrev MI := Ev → S → R Src
def rdI (G : Cg) (W : WX) (m : MI) : TI := fun σ H Rr => ∃ ι s ρ, Sim G ι H s ∧ EnvR G ι H σ ρ ∧ Post G W ι H (fun src ι' H' _ => ∀ J, ItOk G ι' H' src J → Rr J H') (m ρ s)
abbrev VI (X : Cx) (W : WX) (tg iter : Expr) (m : MI) : Prop := PI X tg iter (rdI (cg X) W m)
theorem pi_imp {X : Cx} {tg e : Expr} {t t' : TI} (h : PI X tg e t) (k : ∀ σ H Q, t' σ H Q → t σ H Q) : PI X tg e t' := ⟨fun pins s σ H Q I q => h.run pins s σ H Q I (k σ H Q q)⟩
/-- the rest of a loop: n turns are left, i are done -/
def mLoop (src : Src) (g : MG) (body : MS) : Nat → Nat → MS
  | 0, i, ρ, s => (match srcAt s src with
    | some xs => if xs.length = i then .ok (.nx ρ) s else .bad
    | none => .bad)
  | n + 1, i, ρ, s => (match srcAt s src with
    | some xs => (match xs[i]? with
      | some d => (g d ρ s).bnd fun ρ1 s1 => (body ρ1 s1).bnd fun fl s2 => match fl with
        | .nx ρ2 => mLoop src g body n (i + 1) ρ2 s2
        | .ct ρ2 => mLoop src g body n (i + 1) ρ2 s2
        | .bk ρ2 => .ok (.nx ρ2) s2
        | .ret d => .ok (.ret d) s2
      | none => .bad)
    | none => .bad)
def mFor (it : MI) (g : MG) (body : MS) : MS := fun ρ s => (it ρ s).bnd fun src s1 => match srcAt s1 src with
  | some xs => mLoop src g body xs.length 0 ρ s1
  | none => .bad
section
variable {X : Cx} {W : WX} {pos : Pos}
theorem vs_for {tg iter : Expr} {body : List Stmt} {it : MI} {g : MG} {b : MS} (hp : PassesOwn (model X.prog X.w) X.A X.env X.xe) (hi : VI X W tg iter it) (hg : VG X W tg g) (hb : VSs X W body b) (hc : X.calm = true := by rfl)
    (hs : ∀ x, foldedSetIterable iter X.env x = pure x := by intro _; rfl) : VS X W (.For tg iter body [] pos) (mFor it g b) := by
  refine ps_imp (ps_for hp hc hi hg hb hs) fun Dn σ H h => ?_
  obtain ⟨ι, s, ρ, q, e, h⟩ := h
  refine ⟨ι, s, ρ, q, e, h.bnd.imp fun src ι1 H1 s1 ⟨e1, q1, h1⟩ J hJ => ?_⟩
  split at h1
  · rename_i xs hx
    refine ⟨fun i m σ' H' => ∃ ι' s' ρ', Ext ι1 H1 ι' H' ∧ Sim (cg X) ι' H' s' ∧ EnvR (cg X) ι' H' σ' ρ' ∧ Post (cg X) W ι' H' (EndsP (cg X) Dn) (mLoop src g b m i ρ' s'),
      ⟨xs.length, ι1, s1, ρ, .refl _ _, q1, e.mono e1, h1⟩, fun i m σ' H' hW => ?_⟩
    obtain ⟨ι', s', ρ', x', q', e', p'⟩ := hW
    cases m with
    | zero =>
      simp only [mLoop] at p'
      split at p'
      · rename_i ys hy
        split at p'
        · rename_i hl
          exact .inl ⟨(hJ ι' H' s' ys x'.w q' hy i).2 (Nat.le_of_eq hl), p'.here q' σ' e'⟩
        · exact p'.elim
      · exact p'.elim
    | succ m =>
      simp only [mLoop] at p'
      split at p'
      · rename_i ys hy
        split at p'
        · rename_i d hd
          obtain ⟨go, yl⟩ := (hJ ι' H' s' ys x'.w q' hy i).1 d hd
          refine .inr ⟨go, fun σ2 H2 => ∃ ι2 s2 ρ2, Ext ι1 H1 ι2 H2 ∧ Sim (cg X) ι2 H2 s2 ∧ EnvR (cg X) ι2 H2 σ2 ρ2 ∧ Post (cg X) W ι2 H2 (EndsP (cg X) Dn) (mLoop src g b m (i + 1) ρ2 s2), fun σ2 H2 n2 => ⟨m, Nat.lt_succ_self m, n2⟩, fun x H2 hy2 => ?_⟩
          obtain ⟨y1, y2, y3⟩ := yl x H2 hy2
          have q2 : Sim (cg X) ι' H2 s' := q'.ext y1 y2
          refine ⟨ι', s', ρ', d, q2, e'.mono y1, y3, (p'.mono y1).bnd.imp fun ρ3 ι3 H3 s3 ⟨x3, q3, p3⟩ σ3 e3 => ⟨ι3, s3, ρ3, q3, e3, p3.bnd.imp fun fl ι4 H4 s4 ⟨x4, q4, p4⟩ => ?_⟩⟩
          cases fl with
          | nx ρ4 => exact fun σ4 e4 => ⟨ι4, s4, ρ4, ((x'.trans y1).trans x3).trans x4, q4, e4, p4⟩
          | ct ρ4 => exact fun σ4 e4 => ⟨ι4, s4, ρ4, ((x'.trans y1).trans x3).trans x4, q4, e4, p4⟩
          | bk ρ4 => exact fun σ4 e4 => p4.here q4 σ4 e4
          | ret d => exact p4.here q4
        · exact p'.elim
      · exact p'.elim
  · exact h1.elim
/-- while, at most n turns -/
def mWhile (t : MT) (body : MS) : Nat → MS
  | 0, _, _ => .bad
  | n + 1, ρ, s => (t ρ s).bnd fun k s1 => if k = true then (body ρ s1).bnd fun fl s2 => match fl with
      | .nx ρ2 => mWhile t body n ρ2 s2
      | .ct ρ2 => mWhile t body n ρ2 s2
      | .bk ρ2 => .ok (.nx ρ2) s2
      | .ret d => .ok (.ret d) s2
    else .ok (.nx ρ) s1
theorem vs_while {c : Expr} {body : List Stmt} {t : MT} {b : MS} (n : Nat) (hp : PassesOwn (model X.prog X.w) X.A X.env X.xe) (ht : VT X W c t) (hb : VSs X W body b) : VS X W (.While c body [] pos) (mWhile t b n) := by
  refine ps_imp (ps_while hp ht hb) fun Dn σ H h => ?_
  obtain ⟨ι, s, ρ, q, e, h⟩ := h
  refine ⟨fun m σ' H' => ∃ ι' s' ρ', Sim (cg X) ι' H' s' ∧ EnvR (cg X) ι' H' σ' ρ' ∧ Post (cg X) W ι' H' (EndsP (cg X) Dn) (mWhile t b m ρ' s'), ⟨n, ι, s, ρ, q, e, h⟩, fun m σ' H' hW => ?_⟩
  obtain ⟨ι', s', ρ', q', e', p'⟩ := hW
  cases m with
  | zero => exact p'.elim
  | succ m =>
    refine rdT_on q' e' p' fun k ι1 H1 s1 e1 q1 h1 => ?_
    cases k with
    | true =>
      rw [if_pos rfl] at h1
      refine ⟨fun σ2 H2 => ∃ ι2 s2 ρ2, Sim (cg X) ι2 H2 s2 ∧ EnvR (cg X) ι2 H2 σ2 ρ2 ∧ Post (cg X) W ι2 H2 (EndsP (cg X) Dn) (mWhile t b m ρ2 s2), fun σ2 H2 n2 => ⟨m, Nat.lt_succ_self m, n2⟩, ?_⟩
      refine ⟨ι1, s1, ρ', q1, e'.mono e1, h1.bnd.imp fun fl ι4 H4 s4 ⟨x4, q4, p4⟩ => ?_⟩
      cases fl with
      | nx ρ4 => exact fun σ4 e4 => ⟨ι4, s4, ρ4, q4, e4, p4⟩
      | ct ρ4 => exact fun σ4 e4 => ⟨ι4, s4, ρ4, q4, e4, p4⟩
      | bk ρ4 => exact fun σ4 e4 => p4.here q4 σ4 e4
      | ret d => exact p4.here q4
    | false =>
      rw [if_neg Bool.false_ne_true] at h1
      exact h1.here q1 σ' (e'.mono e1)
end
end VL
namespace VL
open PySem PySem.Spec PyProof.Rows L2

/-! ### what is walked -/
def mSrc (m : ME) : MI := fun ρ s => (m ρ s).bnd fun d s1 => match d with
  | .tup xs => .ok (.fix xs) s1
  | .lst xs => .ok (.fix xs) s1
  | .scr xs => .ok (.fix xs) s1
  | .obj n => (match s1[n]? with
    | some (.lst _) => .ok (.live n) s1
    | _ => .bad)
  | _ => .bad
section
variable {X : Cx} {W : WX}
theorem itok_tup {G : Cg} {ι H xs a vs} (t : TupAt G ι H a vs) (r : RelDs G ι H xs vs) : ItOk G ι H (.fix xs) (Itt G.K a) := fun ι1 H1 s ys e q hy i => by
  simp only [srcAt, Option.some.injEq] at hy
  subst hy
  have t1 := (t.monoW e).sq
  have r1 := RelDs.monoW e _ r
  refine ⟨fun d hd => ?_, fun hl => ⟨vs, t1, by rw [r1.len]; exact hl⟩⟩
  obtain ⟨v, hv, rv⟩ := r1.get hd
  refine ⟨⟨vs, v, t1, hv⟩, fun x H' hy => ?_⟩
  obtain ⟨rfl, hx⟩ := hy
  have := hx vs t1
  rw [hv] at this; cases this
  exact ⟨.refl _ _, fun _ _ => rfl, rv⟩
theorem itok_sq {G : Cg} {ι H xs a vs} (t : ∀ ι' H', ExtW ι H ι' H' → SqL G.K H' a vs) (r : RelDs G ι H xs vs) : ItOk G ι H (.fix xs) (Itl G.K a) := fun ι1 H1 s ys e q hy i => by
  simp only [srcAt, Option.some.injEq] at hy
  subst hy
  have t1 := t _ _ e
  have r1 := RelDs.monoW e _ r
  refine ⟨fun d hd => ?_, fun hl => ⟨vs, t1, by rw [r1.len]; exact hl⟩⟩
  obtain ⟨v, hv, rv⟩ := r1.get hd
  refine ⟨⟨vs, v, t1, hv⟩, fun x H' hy => ?_⟩
  obtain ⟨rfl, hx⟩ := hy
  have := hx vs t1
  rw [hv] at this; cases this
  exact ⟨.refl _ _, fun _ _ => rfl, rv⟩
theorem itok_live {G : Cg} {ι H n a} (t : ι.ad[n]? = some a) : ItOk G ι H (.live n) (Itl G.K a) := fun ι1 H1 s ys e q hy i => by
  simp only [srcAt] at hy
  split at hy
  · rename_i ds hd
    cases hy
    obtain ⟨b, g1, g2, vs, g3, r1⟩ := q.addr hd
    rw [e.get _ _ t] at g1; cases g1
    have t1 : SqL G.K H1 a vs := .inl (.inl g3)
    refine ⟨fun d hd => ?_, fun hl => ⟨vs, t1, by rw [r1.len]; exact hl⟩⟩
    obtain ⟨v, hv, rv⟩ := r1.get hd
    refine ⟨⟨vs, v, t1, hv⟩, fun x H' hy => ?_⟩
    obtain ⟨rfl, hx⟩ := hy
    have := hx vs t1
    rw [hv] at this; cases this
    exact ⟨.refl _ _, fun _ _ => rfl, rv⟩
  · cases hy
theorem pi_or {tg e : Expr} {t t' : TI} (h : PI X tg e t) (h' : PI X tg e t') : PI X tg e (fun σ H Rr => t σ H Rr ∨ t' σ H Rr) :=
  ⟨fun pins s σ H Q I q => q.elim (fun q => h.run pins s σ H Q I q) fun q => h'.run pins s σ H Q I q⟩
theorem vi_seq {tg e : Expr} {m : ME} (h : VE X W e m) : VI X W tg e (mSrc m) :=
  pi_imp (pi_or (pi_list h) (pi_tup h)) fun σ H Rr ⟨ι, s, ρ, q, e, h⟩ => by
    unfold mSrc at h
    cases hm : m ρ s with
    | bad => rw [hm] at h; exact h.elim
    | exn c fs ρ' s' =>
      rw [hm] at h
      refine .inl ⟨ι, s, ρ, q, e, ?_⟩
      rw [hm]
      exact h
    | ok d s' =>
      rw [hm] at h
      cases d with
      | tup xs =>
        refine .inr ⟨ι, s, ρ, q, e, ?_⟩
        rw [hm]
        intro ι1 H1 e1 q1 v r
        have h1 := h ι1 H1 e1 q1
        simp only [RelD] at r
        obtain ⟨a, vs, rfl, t, k⟩ := r
        exact ⟨a, rfl, ⟨vs, t.sq⟩, h1 _ (itok_tup t k)⟩
      | lst xs =>
        refine .inl ⟨ι, s, ρ, q, e, ?_⟩
        rw [hm]
        intro ι1 H1 e1 q1 v r
        have h1 := h ι1 H1 e1 q1
        simp only [RelD] at r
        obtain ⟨a, vs, rfl, t, k⟩ := r
        exact ⟨a, rfl, ⟨vs, .inl (.inl t.2)⟩, h1 _ (itok_sq (fun ι' H' e => .inl (.inl (t.monoW e).2)) k)⟩
      | scr xs =>
        refine .inl ⟨ι, s, ρ, q, e, ?_⟩
        rw [hm]
        intro ι1 H1 e1 q1 v r
        have h1 := h ι1 H1 e1 q1
        simp only [RelD] at r
        obtain ⟨a, vs, rfl, t, k⟩ := r
        exact ⟨a, rfl, ⟨vs, t.sq⟩, h1 _ (itok_sq (fun ι' H' e => (t.monoW e).sq) k)⟩
      | obj n =>
        simp only [R.bnd_ok] at h
        split at h
        · rename_i ds hd
          refine .inl ⟨ι, s, ρ, q, e, ?_⟩
          rw [hm]
          intro ι1 H1 e1 q1 v r
          have h1 := h ι1 H1 e1 q1
          simp only [RelD] at r
          obtain ⟨a, rfl, ha⟩ := r
          obtain ⟨b, g1, g2, vs, g3, r1⟩ := q1.addr hd
          rw [ha] at g1; cases g1
          exact ⟨a, rfl, ⟨vs, .inl (.inl g3)⟩, h1 _ (itok_live ha)⟩
        · exact h.elim
      | _ => exact h.elim
def rngD (lo : Int) (n : Nat) : List D := (List.range n).map fun k => .int (lo + (k : Nat))
theorem rngD_get {lo : Int} {n i : Nat} {d : D} (h : (rngD lo n)[i]? = some d) : i < n ∧ d = .int (lo + (i : Nat)) := by
  unfold rngD at h
  rw [List.getElem?_map] at h
  obtain ⟨k, h1, h2⟩ := Option.map_eq_some_iff.mp h
  obtain ⟨h3, h4⟩ := List.getElem?_eq_some_iff.mp h1
  rw [List.getElem_range] at h4
  subst h4
  exact ⟨by simpa using h3, h2.symm⟩
theorem rngD_len {lo : Int} {n : Nat} : (rngD lo n).length = n := by unfold rngD; simp
theorem itok_rng {G : Cg} {ι H lo n} : ItOk G ι H (.fix (rngD lo n)) (Itr lo n) := fun ι1 H1 s ys e q hy i => by
  simp only [srcAt, Option.some.injEq] at hy
  subst hy
  refine ⟨fun d hd => ?_, fun hl => by rw [rngD_len] at hl; exact hl⟩
  obtain ⟨h1, rfl⟩ := rngD_get hd
  refine ⟨h1, fun x H' hy => ?_⟩
  obtain ⟨rfl, rfl⟩ := hy
  exact ⟨.refl _ _, fun _ _ => rfl, by simp only [RelD]⟩
def inR (j : Int) : Prop := -(2 ^ 62) ≤ j ∧ j < 2 ^ 62
noncomputable instance (j : Int) : Decidable (inR j) := Classical.propDecidable _
noncomputable def mRng1 (ms : MA) : MI := fun ρ s => (ms ρ s).bnd fun ds s1 => match ds with
  | [.int j] => if inR j then .ok (.fix (rngD 0 j.toNat)) s1 else .bad
  | _ => .bad
noncomputable def mRng2 (ms : MA) : MI := fun ρ s => (ms ρ s).bnd fun ds s1 => match ds with
  | [.int i, .int j] => if inR i ∧ inR j then .ok (.fix (rngD i (j - i).toNat)) s1 else .bad
  | _ => .bad
theorem vi_rng1 {tg a : Expr} {ms : MA} {p pos : Pos} (hg : Gl X "range") (hm : X.mg "range" = none) (ha : VA X W [a] ms) (hs : starEach [a] X.env = [(false, eval a X.env)] := by rfl) : VI X W tg (.Call (.Name "range" p) [a] [] pos) (mRng1 ms) :=
  pi_imp (pi_range1 hg hm ha hs) fun σ H Rr ⟨ι, s, ρ, q, e, h⟩ => by
    refine rdA_on q e h fun ds vs ι1 H1 s1 e1 q1 r1 h1 => ?_
    split at h1
    · rename_i j
      split at h1
      · rename_i hj
        simp only [RelDs, RelD] at r1
        obtain ⟨v, _, rfl, rfl, rfl⟩ := r1
        exact ⟨j, rfl, hj.1, hj.2, h1.here q1 _ itok_rng⟩
      · exact h1.elim
    · exact h1.elim
theorem vi_rng2 {tg a b : Expr} {ms : MA} {p pos : Pos} (hg : Gl X "range") (hm : X.mg "range" = none) (ha : VA X W [a, b] ms) (hs : starEach [a, b] X.env = [(false, eval a X.env), (false, eval b X.env)] := by rfl) (hs2 : starEach [b] X.env = [(false, eval b X.env)] := by rfl) :
    VI X W tg (.Call (.Name "range" p) [a, b] [] pos) (mRng2 ms) :=
  pi_imp (pi_range2 hg hm ha hs hs2) fun σ H Rr ⟨ι, s, ρ, q, e, h⟩ => by
    refine rdA_on q e h fun ds vs ι1 H1 s1 e1 q1 r1 h1 => ?_
    split at h1
    · rename_i i j
      split at h1
      · rename_i hj
        simp only [RelDs, RelD] at r1
        obtain ⟨v, _, rfl, rfl, w, _, rfl, rfl, rfl⟩ := r1
        exact ⟨i, j, rfl, ⟨hj.1.1, hj.1.2, hj.2.1, hj.2.2⟩, h1.here q1 _ itok_rng⟩
      · exact h1.elim
    · exact h1.elim
end

/-! ### comprehensions -/
inductive Tg where
  | one (i : Nat) | many (is : List Nat)
def Tg.slots : Tg → List Nat
  | .one i => [i]
  | .many is => is
def gsL : List Nat → TGs
  | [] => gNil
  | i :: is => gCons (gName i) (gsL is)
def tgL (K : PySem.W.Frag) : Tg → TG
  | .one i => gName i
  | .many is => gTup K is.length (gsL is)
def setAll : List Nat → List D → Ev → Ev
  | i :: is, d :: ds, ρ => setAll is ds (ρ.set i (some d))
  | _, _, ρ => ρ
def tgM : Tg → D → Ev → Option Ev
  | .one i, d, ρ => some (ρ.set i (some d))
  | .many is, .tup ds, ρ => if ds.length = is.length then some (setAll is ds ρ) else none
  | .many _, _, _ => none
theorem wipe_get {i : Nat} : ∀ (vs : List Nat) (σ : L2.St), (wipe σ vs)[i]? = if i ∈ vs ∧ i < σ.length then some none else σ[i]?
  | [], σ => by simp [wipe]
  | v :: vs, σ => by
    unfold wipe
    by_cases hv : i = v
    · subst hv
      rw [List.getElem?_set]
      simp only [if_true, wipe_length, List.mem_cons, true_or, true_and]
      by_cases hl : i < σ.length
      · rw [if_pos hl, if_pos hl]
      · rw [if_neg hl, if_neg hl, List.getElem?_eq_none (by omega)]
    · rw [List.getElem?_set_ne (Ne.symm hv), wipe_get vs σ]
      simp [hv]
theorem wipe_set {σ : L2.St} {vs : List Nat} {i : Nat} {x : Option V} (h : i ∈ vs) : wipe (σ.set i x) vs = wipe σ vs := by
  apply List.ext_getElem?
  intro k
  rw [wipe_get, wipe_get, List.length_set]
  by_cases hk : k ∈ vs ∧ k < σ.length
  · rw [if_pos hk, if_pos hk]
  · rw [if_neg hk, if_neg hk]
    by_cases e : i = k
    · subst e
      have : ¬ i < σ.length := fun z => hk ⟨h, z⟩
      rw [List.getElem?_eq_none (by simpa using this), List.getElem?_eq_none (by omega)]
    · rw [List.getElem?_set_ne e]
theorem wipe_wipe {σ : L2.St} {vs : List Nat} : wipe (wipe σ vs) vs = wipe σ vs := by
  apply List.ext_getElem?
  intro k
  rw [wipe_get, wipe_length, wipe_get]
  by_cases hk : k ∈ vs ∧ k < σ.length
  · simp only [if_pos hk]
  · simp only [if_neg hk]
def wipeD (ρ : Ev) : List Nat → Ev
  | [] => ρ
  | v :: vs => (wipeD ρ vs).set v none
theorem EnvR.wipe {G ι H σ ρ} (e : EnvR G ι H σ ρ) : ∀ vs : List Nat, EnvR G ι H (wipe σ vs) (wipeD ρ vs)
  | [] => e
  | v :: vs => by
    unfold wipeD L2.wipe
    exact (e.wipe vs).unset
theorem gsL_ok {G : Cg} {ι H} {Q : L2.St → Hp → Prop} {vs : List Nat} : ∀ {is : List Nat} {ds : List D} {xs : List V} {σ : L2.St} {ρ : Ev}, EnvR G ι H σ ρ → RelDs G ι H ds xs → ds.length = is.length → (∀ i ∈ is, i ∈ vs) →
    (∀ σ', EnvR G ι H σ' (setAll is ds ρ) → L2.wipe σ' vs = L2.wipe σ vs → Q σ' H) → gsL is xs σ H Q
  | [], ds, xs, σ, ρ, e, r, hl, hs, k => by
    have : ds = [] := List.length_eq_zero_iff.mp hl
    subst this
    simp only [RelDs] at r
    exact ⟨r, k σ e rfl⟩
  | i :: is, [], xs, σ, ρ, e, r, hl, hs, k => by simp at hl
  | i :: is, d :: ds, xs, σ, ρ, e, r, hl, hs, k => by
    simp only [RelDs] at r
    obtain ⟨v, ws, rfl, r1, r2⟩ := r
    refine ⟨v, ws, rfl, ?_⟩
    show gsL is ws (σ.set i (some v)) H Q
    refine gsL_ok (e.set r1) r2 (by simpa using hl) (fun j hj => hs j (List.mem_cons_of_mem _ hj)) fun σ' e' w => k σ' e' ?_
    rw [w, wipe_set (hs i (List.mem_cons_self ..))]
theorem tgL_ok {G : Cg} {ι H} {Q : L2.St → Hp → Prop} {vs : List Nat} {t : Tg} {d : D} {v : V} {σ : L2.St} {ρ ρ' : Ev} (e : EnvR G ι H σ ρ) (r : RelD G ι H d v) (h : tgM t d ρ = some ρ') (hs : ∀ i ∈ t.slots, i ∈ vs)
    (k : ∀ σ', EnvR G ι H σ' ρ' → L2.wipe σ' vs = L2.wipe σ vs → Q σ' H) : tgL G.K t v σ H Q := by
  cases t with
  | one i =>
    simp only [tgM, Option.some.injEq] at h
    subst h
    exact k _ (e.set r) (wipe_set (hs i (by simp [Tg.slots])))
  | many is =>
    unfold tgM at h
    split at h
    · rename_i he
      cases he
    · rename_i ds _ he
      cases he
      split at h
      · rename_i hl
        cases h
        simp only [RelD] at r
        obtain ⟨a, xs, rfl, t, k1⟩ := r
        exact ⟨a, xs, rfl, t.sq, by rw [k1.len]; exact hl, gsL_ok e k1 hl hs k⟩
      · cases h
    · cases h
/-- nothing is raised -/
def noX {α : Type} (r : R α) : R α := match r with
  | .ok a s => .ok a s
  | _ => .bad
def W0 : WX := fun _ _ _ _ => False
theorem Post.noX {α β : Type} {G : Cg} {W : WX} {ι H} {r : R α} {f : α → S → R β} {P : β → Z → Hp → S → Prop} (h : Post G W ι H P ((VL.noX r).bnd f)) :
    Post G W0 ι H (fun a ι' H' s => Ext ι H ι' H' ∧ Sim G ι' H' s ∧ Post G W ι' H' P (f a s)) r := by
  cases r with
  | ok a s => exact fun ι' H' e q => ⟨e, q, Post.mono e h⟩
  | exn c fs ρ s => exact h.elim
  | bad => exact h
def mYes : MT := fun _ s => .ok true s
def mLcGo (src : Src) (t : Tg) (tt : MT) (el : ME) (ρw : Ev) : Nat → Nat → List D → S → R (List D)
  | 0, i, acc, s => (match srcAt s src with
    | some xs => if xs.length = i then .ok acc s else .bad
    | none => .bad)
  | n + 1, i, acc, s => (match srcAt s src with
    | some xs => (match xs[i]? with
      | some d => (match tgM t d ρw with
        | some ρ1 => (noX (tt ρ1 s)).bnd fun k s1 => if k = true then (noX (el ρ1 s1)).bnd fun y s2 => mLcGo src t tt el ρw n (i + 1) (acc ++ [y]) s2 else mLcGo src t tt el ρw n (i + 1) acc s1
        | none => .bad)
      | none => .bad)
    | none => .bad)
def mLc0 (it : MI) (t : Tg) (tt : MT) (el : ME) (vs : List Nat) : MA := fun ρ s => (it ρ s).bnd fun src s1 => match srcAt s1 src with
  | some xs => if xs.length ≤ LIM ∧ (∀ i ∈ t.slots, i ∈ vs) then mLcGo src t tt el (wipeD ρ vs) xs.length 0 [] s1 else .bad
  | none => .bad
def mLcF (fin : List D → S → R D) (it : MI) (t : Tg) (tt : MT) (el : ME) (vs : List Nat) : ME := fun ρ s => (mLc0 it t tt el vs ρ s).bnd fin
def finL : List D → S → R D := fun xs s => .ok (.lst xs) s
def finO : List D → S → R D := fun xs s => .ok (.obj s.length) (s ++ [.lst xs])
abbrev mLc := mLcF finL
abbrev mLcO := mLcF finO
theorem noX_bnd {α β : Type} {G : Cg} {W : WX} {ι H} {r : R α} {f : α → S → R β} {P : β → Z → Hp → S → Prop} (h : Post G W ι H P ((VL.noX r).bnd f)) : ∃ a s, r = .ok a s ∧ Post G W ι H P (f a s) := by
  cases r with
  | ok a s => exact ⟨a, s, rfl, h⟩
  | exn c fs ρ s => exact h.elim
  | bad => exact h.elim
theorem bnd_assoc {α β γ : Type} (r : R α) (f : α → S → R β) (g : β → S → R γ) : (r.bnd f).bnd g = r.bnd fun a s => (f a s).bnd g := by cases r <;> rfl
structure LcI (G : Cg) (ι1 : Z) (H1 : Hp) (p : Addr) (ι' : Z) (H' : Hp) (s' : S) : Prop where
  w : ExtW ι1 H1 ι' H'
  x : Ext ι1 H1 ⟨ι'.ad, ι1.res⟩ H'
  q : Sim G ι' H' s'
  r : ι'.res = p :: ι1.res
section
variable {G : Cg} {ι1 ι' : Z} {H1 H' : Hp} {p : Addr} {s1 s' : S}
theorem LcI.start (q : Sim G ι1 H1 s1) (h : H1 p = none) {o : HO} (hf : fixO o = false := by rfl) : LcI G ι1 H1 p (ι1.keep p) (upd H1 p o) s1 :=
  ⟨Ext.toKeep q h, Ext.new (ι := ι1) h, q.toKeep h hf, rfl⟩
theorem LcI.step (I : LcI G ι1 H1 p ι' H' s') {ι2 H2 s2} (e : Ext ι' H' ι2 H2) (q : Sim G ι2 H2 s2) : LcI G ι1 H1 p ι2 H2 s2 := by
  refine ⟨I.w.trans e.w, ?_, q, e.res.trans I.r⟩
  have : Ext ⟨ι'.ad, ι1.res⟩ H' ⟨ι2.ad, ι1.res⟩ H2 := ⟨e.more, rfl, e.keep, e.dom, e.fix⟩
  exact I.x.trans this
theorem LcI.write (I : LcI G ι1 H1 p ι' H' s') (h : H1 p = none) {o : HO} (hf : fixO o = false := by rfl) : LcI G ι1 H1 p ι' (upd H' p o) s' := by
  have hm : p ∈ ι'.res := by rw [I.r]; exact List.mem_cons_self ..
  have np := I.q.rs p hm
  refine ⟨I.w.trans (.inKeep hm (I.q.rsn hm)), ⟨I.x.more, I.x.res, fun a u n k => ?_, fun a k => ?_, fun a u n k => ?_⟩, I.q.inKeep hm hf, I.r⟩
  · rw [upd_ne (ne_of_none k h)]; exact I.x.keep a u n k
  · by_cases e : a = p
    · subst e; rw [upd_same]; simp
    · rw [upd_ne e]; exact I.x.dom a k
  · rw [upd_ne (ne_of_none k h)]; exact I.x.fix a u n k
end
def FinOk (G : Cg) (W : WX) (fin : List D → S → R D) : Prop := ∀ (ι1 : Z) (H1 : Hp) (p : Addr) (ι' : Z) (H' : Hp) (s' : S) (xs : List D) (vs : List V) (Q : VK), LcI G ι1 H1 p ι' H' s' → RelDs G ι' H' xs vs → H' p = some (.lst vs) → p ∉ ι1.res →
  Post G W ι1 H1 (QE G Q) (fin xs s') → Q (.ref p) H'
theorem finL_ok {G : Cg} {W : WX} : FinOk G W finL := fun ι1 H1 p ι' H' s' xs vs Q I r hp hn h => by
  refine h _ H' I.x (I.q.ofKeep I.r) _ ?_
  simp only [RelD]
  exact ⟨p, vs, rfl, ⟨⟨(I.q.rs p (by rw [I.r]; exact List.mem_cons_self ..)).2, hn⟩, hp⟩, RelDs.monoW (.ofKeep I.r) _ r⟩
theorem finO_ok {G : Cg} {W : WX} : FinOk G W finO := fun ι1 H1 p ι' H' s' xs vs Q I r hp hn h => by
  have hfree : H1 p = none ∨ ¬ H1 p = none := Classical.em _
  refine h ⟨ι'.ad ++ [p], ι1.res⟩ H' ⟨?_, rfl, I.x.keep, I.x.dom, I.x.fix⟩ (I.q.adopt I.r hn ⟨vs, hp, RelDs.monoW (.adopt I.r) _ r⟩) _ ?_
  · obtain ⟨μ, e1, e2⟩ := I.x.more
    refine ⟨μ ++ [p], by show ι'.ad ++ [p] = _; rw [show ι'.ad = ι1.ad ++ μ from e1, List.append_assoc], fun a ha => ?_⟩
    rcases List.mem_append.mp ha with z | z
    · exact e2 a z
    · rw [List.mem_singleton.mp z]
      rcases hfree with f | f
      · exact f
      · have hoff : ι1.off p := ⟨fun z => (I.q.rs p (by rw [I.r]; exact List.mem_cons_self ..)).2 (by
          show p ∈ ι'.ad
          rw [show ι'.ad = ι1.ad ++ μ from e1]; exact List.mem_append_left _ z), hn⟩
        exact absurd (by rw [I.r]; exact List.mem_cons_self ..) (I.w.off p hoff f).2
  · simp only [RelD]
    refine ⟨p, rfl, ?_⟩
    show (ι'.ad ++ [p])[s'.length]? = _
    rw [← I.q.len]; simp
section
variable {X : Cx} {W : WX}
theorem rd_lc {G : Cg} {fin : List D → S → R D} (hf : FinOk G W fin) {it : MI} {t : Tg} {tt : MT} {el : ME} {vs : List Nat} {tI : TI} (kI : ∀ σ H Rr, rdI G W it σ H Rr → tI σ H Rr) {σ : L2.St} {H : Hp} {Q : VK} (h : rdE G W (mLcF fin it t tt el vs) σ H Q) :
    tLc tI (tgL G.K t) (rdT G W0 tt) (rdE G W0 el) vs σ H Q := by
  obtain ⟨ι, s, ρ, q, e, h⟩ := h
  unfold mLcF mLc0 at h
  rw [bnd_assoc] at h
  refine kI _ _ _ ⟨ι, s, ρ, q, e, h.bnd.imp fun src ι1 H1 s1 ⟨e1, q1, h1⟩ J hJ p hp => ?_⟩
  split at h1
  · rename_i xs hx
    split at h1
    · rename_i hl
      have ew : EnvR G (ι1.keep p) (upd H1 p (.lst [])) (L2.wipe σ vs) (wipeD ρ vs) := ((e.mono e1).wipe vs).monoW (Ext.toKeep q1 hp)
      have npr : p ∉ ι1.res := (q1.off hp).2
      refine ⟨fun i m H' => ∃ ι' s' acc av, LcI G ι1 H1 p ι' H' s' ∧ EnvR G ι' H' (L2.wipe σ vs) (wipeD ρ vs) ∧ RelDs G ι' H' acc av ∧ H' p = some (.lst av) ∧ acc.length ≤ i ∧ i + m ≤ LIM ∧
        Post G W ι1 H1 (QE G Q) ((mLcGo src t tt el (wipeD ρ vs) m i acc s').bnd fin),
        ⟨xs.length, ι1.keep p, s1, [], [], .start q1 hp, ew, .nil, upd_same, Nat.le_refl _, by rw [Nat.zero_add]; exact hl.1, h1⟩, fun i m H' hW => ?_⟩
      obtain ⟨ι', s', acc, av, I, e', ra, hpa, hle, hlim, h'⟩ := hW
      cases m with
      | zero =>
        simp only [mLcGo] at h'
        split at h'
        · rename_i ys hy
          split at h'
          · rename_i hyl
            exact .inl ⟨(hJ ι' H' s' ys I.w I.q hy i).2 (Nat.le_of_eq hyl), hf ι1 H1 p ι' H' s' acc av Q I ra hpa npr h'⟩
          · exact h'.elim
        · exact h'.elim
      | succ m =>
        simp only [mLcGo] at h'
        split at h'
        · rename_i ys hy
          split at h'
          · rename_i d hd
            split at h'
            · rename_i ρ1 hρ
              rw [bnd_assoc] at h'
              obtain ⟨k, s2, hk, h2⟩ := noX_bnd h'
              obtain ⟨go, yl⟩ := (hJ ι' H' s' ys I.w I.q hy i).1 d hd
              refine .inr ⟨go, fun H2 => ∃ ι' s' acc av, LcI G ι1 H1 p ι' H2 s' ∧ EnvR G ι' H2 (L2.wipe σ vs) (wipeD ρ vs) ∧ RelDs G ι' H2 acc av ∧ H2 p = some (.lst av) ∧ acc.length ≤ i + 1 ∧ (i + 1) + m ≤ LIM ∧
                Post G W ι1 H1 (QE G Q) ((mLcGo src t tt el (wipeD ρ vs) m (i + 1) acc s').bnd fin), fun H2 n2 => ⟨m, Nat.lt_succ_self m, n2⟩, fun x H2 hy2 => ?_⟩
              obtain ⟨y1, y2, y3⟩ := yl x H2 hy2
              have I2 : LcI G ι1 H1 p ι' H2 s' := I.step y1 (I.q.ext y1 y2)
              have np : p ∉ ι'.ad := (I.q.rs p (by rw [I.r]; exact List.mem_cons_self ..)).2
              have hp2 : H2 p = some (.lst av) := y1.keep p _ np hpa
              refine tgL_ok (vs := vs) (e'.mono y1) y3 hρ hl.2 fun σ3 e3 w3 => ⟨by rw [w3, wipe_wipe], ι', s', ρ1, I2.q, e3, ?_⟩
              rw [hk]
              intro ι3 H3 x3 q3
              have I3 := I2.step x3 q3
              have hp3 : H3 p = some (.lst av) := x3.keep p _ np hp2
              cases k with
              | false =>
                rw [if_neg Bool.false_ne_true] at h2
                refine L2.iteF ?_
                exact ⟨ι3, s2, acc, av, I3, (e'.mono y1).mono x3, (ra.mono y1).mono x3, hp3, by omega, by omega, h2⟩
              | true =>
                rw [if_pos rfl] at h2
                refine L2.iteT ?_
                rw [bnd_assoc] at h2
                obtain ⟨y, s4, hy4, h4⟩ := noX_bnd h2
                refine ⟨ι3, s2, ρ1, q3, e3.mono x3, ?_⟩
                rw [hy4]
                intro ι4 H4 x4 q4 v rv
                have I4 := I3.step x4 q4
                have np3 : p ∉ ι3.ad := (I3.q.rs p (by rw [I3.r]; exact List.mem_cons_self ..)).2
                have hp4 : H4 p = some (.lst av) := x4.keep p _ np3 hp3
                have ra4 := ((ra.mono y1).mono x3).mono x4
                refine ⟨av, hp4, by rw [ra4.len]; exact lt_LIM (by omega), ?_⟩
                have hm4 : p ∈ ι4.res := by rw [I4.r]; exact List.mem_cons_self ..
                refine ⟨ι4, s4, acc ++ [y], av ++ [v], I4.write hp, (((e'.mono y1).mono x3).mono x4).monoW (.inKeep hm4 (I4.q.rsn hm4)), ?_, upd_same, by simp; omega, by omega, h4⟩
                exact RelDs.monoW (.inKeep hm4 (I4.q.rsn hm4)) _ (ra4.app (.one rv))
            · exact h'.elim
          · exact h'.elim
        · exact h'.elim
    · exact h1.elim
  · exact h1.elim
/-- a comprehension's block -/
theorem ve_lcF {fin : List D → S → R D} (hf : FinOk (cg X) W fin) {elt tg iter : Expr} {ifs : List Expr} {scope : Scope} {own : List (Str × Nat)} {pos : Pos} {it : MI} {t : Tg} {tt : MT} {el : ME} (hN : X.N.Nodup) (hi : VI X W tg iter it)
    (ok : BlkOk X.N X.env.scope scope own) (hg : ∀ (s : Shared) (H : Hp) (C : Addr) (cl : List (Str × Addr)) (fp : List Addr), PG (X.blk s H scope (compEnvC scope cl C X.env) fp) tg (tgL X.K t))
    (ht : ∀ (s : Shared) (H : Hp) (C : Addr) (cl : List (Str × Addr)) (fp : List Addr), PTs (X.blk s H scope (compEnvC scope cl C X.env) fp) ifs (rdT (cg X) W0 tt))
    (he : ∀ (s : Shared) (H : Hp) (C : Addr) (cl : List (Str × Addr)) (fp : List Addr), PE (X.blk s H scope (compEnvC scope cl C X.env) fp) elt (rdE (cg X) W0 el)) (hc : X.calm = true := by rfl) (hs : ∀ x, foldedSetIterable iter X.env x = pure x := by intro _; rfl) :
    VE X W (.ListComp elt [⟨tg, iter, ifs, 0⟩] scope pos) (mLcF fin it t tt el (own.map (·.2))) :=
  pe_imp (pe_lc hc hN hi ok hg ht he hs) fun _ _ _ h => rd_lc hf (fun _ _ _ h => h) h
theorem vs_setLcF {fin : List D → S → R D} (hf : FinOk (cg X) W fin) {i : Nat} {y : Str} {py : Pos} {elt tg iter : Expr} {ifs : List Expr} {scope : Scope} {own : List (Str × Nat)} {pos spos : Pos} {it : MI} {t : Tg} {tt : MT} {el : ME} (hN : X.N.Nodup) (hi : VI X W tg iter it)
    (ok : BlkOk X.N X.env.scope scope own) (hg : ∀ (s : Shared) (H : Hp) (C : Addr) (cl : List (Str × Addr)) (fp : List Addr), PG (X.blk s H scope (compEnvC scope cl C X.env) fp) tg (tgL X.K t))
    (ht : ∀ (s : Shared) (H : Hp) (C : Addr) (cl : List (Str × Addr)) (fp : List Addr), PTs (X.blk s H scope (compEnvC scope cl C X.env) fp) ifs (rdT (cg X) W0 tt))
    (he : ∀ (s : Shared) (H : Hp) (C : Addr) (cl : List (Str × Addr)) (fp : List Addr), PE (X.blk s H scope (compEnvC scope cl C X.env) fp) elt (rdE (cg X) W0 el))
    (hsw : swapsWith (.ListComp elt [⟨tg, iter, ifs, 0⟩] scope pos) (some (.Name y py)) spos.line X.env = pure true)
    (hy : X.N[i]? = some y := by rfl) (hyl : X.env.scope.names.lookup y = some .local := by rfl) (hc : X.calm = true := by rfl) (hs : ∀ x, foldedSetIterable iter X.env x = pure x := by intro _; rfl) :
    VS X W (.Assign [.Name y py] (.ListComp elt [⟨tg, iter, ifs, 0⟩] scope pos) spos) (mAsg (mLcF fin it t tt el (own.map (·.2))) (gN i)) :=
  ps_imp (ps_setLc hc hN hy hyl hsw hi ok hg ht he hs) fun Dn σ H h => by
    obtain ⟨ι, s, ρ, q, e, h⟩ := h
    refine rd_lc hf (fun _ _ _ h => h) (Q := fun x H1 => gName i x σ H1 Dn.nx) (rdE_on q e h fun d v ι1 H1 s1 e1 q1 r1 h1 => ?_)
    exact h1.here q1 _ ((e.mono e1).set r1)
end
end VL
namespace VL
open PySem PySem.Spec PyProof.Rows L2

/-! ### defs: what they promise, where no repr runs around -/
structure RoomG (k : Nat) (A : Around) : Prop where
  r : Room k A
  g : A.guards = some []
theorem RoomG.mono {j k : Nat} {A : Around} (r : RoomG k A) (h : j ≤ k) : RoomG j A := ⟨r.r.mono h, r.g⟩
structure FnG (P : Program) (w : World) (K : PySem.W.Frag) (mg : Str → Option Value) (base : Heap) (k : Nat) (f : Addr) (fd : FuncData) (ps : List Str) (sp : Sp) : Prop where
  len : ∀ vs H Q E, sp vs H Q E → vs.length = ps.length
  run : ∀ (A : Around) (outer : List Env) (st : Shared) (H : Hp) (args : Args) (us : List Value) (vs : List V) (Q : VK) (E : XK), RoomG k A → Env0 P w K mg base A outer st H → BindsTo st fd args (ps.zip us) → Vals vs us → sp vs H Q E →
    codeAny (model P w) A (.call (.ref f) args) (CR (L2.CX P w) outer P w H st Q E) st
def WD (E : XK) : WX := fun c d _ H => E c d H
abbrev FM := List D → S → R D
def spG (G : Cg) (n : Nat) (m : FM) : Sp := fun vs H Q E => ∃ ι s ds, vs.length = n ∧ Sim G ι H s ∧ RelDs G ι H ds vs ∧ Post G (WD E) ι H (QE G Q) (m ds s)
/-- a def's body as a function -/
def initE (N : Nat) (ds : List D) : Ev := ds.map some ++ List.replicate (N - ds.length) none
def mFn (N : Nat) (body : MS) : FM := fun ds s => match body (initE N ds) s with
  | .ok (.nx _) s1 => .ok .non s1
  | .ok (.ret d) s1 => .ok d s1
  | .ok _ _ => .bad
  | .exn c fs _ s1 => .exn c fs [] s1
  | .bad => .bad
theorem start_get {N : List Str} {vs : List V} {i : Nat} {v : V} (h : vs[i]? = some v) : (L2.start N vs)[i]? = some (some v) := by
  unfold L2.start
  have hl := (List.getElem?_eq_some_iff.mp h).1
  rw [List.getElem?_append_left (by simpa using hl), List.getElem?_map, h]; rfl
theorem envR_start {G : Cg} {ι H} {N : List Str} {ds : List D} {vs : List V} (r : RelDs G ι H ds vs) : EnvR G ι H (L2.start N vs) (initE N.length ds) := by
  refine ⟨by simp [L2.start, initE, r.len], fun i d h => ?_⟩
  unfold initE at h
  by_cases hi : i < ds.length
  · rw [List.getElem?_append_left (by simpa using hi), List.getElem?_map] at h
    cases hd : ds[i]? with
    | none => rw [hd] at h; cases h
    | some e =>
      rw [hd] at h
      cases h
      obtain ⟨v, h1, h2⟩ := r.get hd
      exact ⟨v, start_get h1, h2⟩
  · rw [List.getElem?_append_right (by simpa using hi), List.getElem?_replicate] at h
    split at h <;> cases h
section
variable {P : Program} {w : World} {K : PySem.W.Frag} {mg : Str → Option Value} {base : Heap}
theorem fnG {x qual : Str} {params : Arguments} {body : List Stmt} {scope : Scope} {f : Addr} {fd : FuncData} {N ps : List Str} {k : Nat} {b : MS} (F : FunD K x qual params body scope [] [] f fd) (C : FnScope N ps scope)
    (hbody : ∀ (cdv : Value) (A : Around) (outer : List Env) (st : Shared) (H : Hp) (E : XK), RoomG k (A.deeper (envOfC qual scope st.heap.objs.size f cdv)) →
      PassesOwn (model P w) (A.deeper (envOfC qual scope st.heap.objs.size f cdv)) (envOfC qual scope st.heap.objs.size f cdv) (cxOf (L2.CX P w) P w K mg base N qual scope f cdv A outer st H E).xe →
      Takes (cxOf (L2.CX P w) P w K mg base N qual scope f cdv A outer st H E) (WD E) → VSs (cxOf (L2.CX P w) P w K mg base N qual scope f cdv A outer st H E) (WD E) body b) : FnG P w K mg base (k + 1) f fd ps (spG ⟨K, mg⟩ ps.length (mFn N.length b)) := by
  obtain ⟨oc, od, dV, kV, doc, pm, an, cdv, ct, osl, rfl, lk, hcd, hD, hK⟩ := F.ex
  refine ⟨fun vs H Q E ⟨ι, s, ds, h, _⟩ => h, fun A outer st H args us vs Q E hr e0 hb r hsp => ?_⟩
  have hl : vs.length = ps.length := hsp.choose_spec.choose_spec.choose_spec.1
  have kh : K.In st.heap := e0.mod.kin.keeps fun b o e => (e0.bs b o e).1
  have nl : st.heap.NoLimit := e0.mod.nolimit.keeps fun b o e => (e0.bs b o e).1
  refine codeAny_call_function hr.r.depth (kh _ _ lk) rfl C.co C.gen rfl (PySem.W.codeRec_of kh hcd) (hb _ _ _ _ ?_)
  refine wpAny_newFunctionEnv_cells C.kind (fun y hy => ?_) fun env he s1 x1 => ?_
  · obtain ⟨n, v⟩ := y
    rcases C.par n (List.of_mem_zip hy).1 with q | q
    · exact .inl q
    · exact .inr ⟨q, PySem.W.cellsFrom_some _ _ _ (.inl q)⟩
  · subst he
    refine ⟨nl.keeps x1.toInCall.keep, codeAny_func ?_⟩
    have I : Inv (cxOf (L2.CX P w) P w K mg base N qual scope f cdv A outer st H E) [] (L2.start N vs) H s1 := inv_start C hr.r.hd e0 hl r x1
    obtain ⟨ι, s, ds, _, q, rd, hp⟩ := hsp
    have hq : rdS ⟨K, mg⟩ (WD E) b { nx := fun _ H' => Q .non H', rt := Q } (L2.start N vs) H := by
      refine ⟨ι, s, initE N.length ds, q, envR_start rd, ?_⟩
      unfold mFn at hp
      cases hb : b (initE N.length ds) s with
      | ok fl s' =>
        rw [hb] at hp
        cases fl with
        | nx ρ => exact fun ι' H' e q σ _ => hp ι' H' e q .non (by simp only [RelD])
        | ret d => exact fun ι' H' e q v r => hp ι' H' e q v r
        | bk ρ => exact hp.elim
        | ct ρ => exact hp.elim
      | exn c fs ρ s' =>
        rw [hb] at hp
        exact fun ι' H' C dx σ e q hC hD _ => hp ι' H' C dx [] e q hC hD ⟨rfl, fun i d h => by simp at h⟩
      | bad => rw [hb] at hp; exact hp.elim
    have fin : ∀ {s' : Shared} {σ' : L2.St} {H' : Hp} {v : V} {u : Value}, Inv (cxOf (L2.CX P w) P w K mg base N qual scope f cdv A outer st H E) [] σ' H' s' → RelV v u → Q v H' → CE outer P w H st Q u s' :=
      fun {s' σ' H' v u} J rv q => ⟨v, H', J.os, J.bare, J.base, J.hok, rv, q⟩
    have room : RoomG k (A.deeper (envOfC qual scope st.heap.objs.size f cdv)) := ⟨hr.r.deeper _, hr.g⟩
    refine wpAny_mono ((hbody cdv A outer st H E room (passes_of (X := cxOf (L2.CX P w) P w K mg base N qual scope f cdv A outer st H E) rfl) (takes_of rfl rfl rfl rfl)).run [] s1 (L2.start N vs) H _ I hq) (fun fl s' hs => ?_) fun e s' hs => hs
    cases fl with
    | ret u => obtain ⟨v, σ', H', J, rv, q⟩ := hs; exact fin J rv q
    | next => obtain ⟨σ', H', J, q⟩ := hs; exact fin (v := V.non) (u := Value.none) J rfl q
    | brk => obtain ⟨_, _, _, q⟩ := hs; exact q.elim
    | cont => obtain ⟨_, _, _, q⟩ := hs; exact q.elim
end
/-- a def that may be called by its name -/
structure Cl (P : Program) (w : World) (K : PySem.W.Frag) (mg : Str → Option Value) (base : Heap) (k : Nat) (x : Str) (n : Nat) (m : FM) : Prop where
  ex : ∃ (f : Addr) (fd : FuncData) (ps : List Str), FnG P w K mg base k f fd ps (spG ⟨K, mg⟩ n m) ∧ mg x = some (.ref f) ∧ PySem.W.keepIn K (.ref f) = true ∧ Binds K fd ps []
/-- what it hands on to a caller -/
def retag (ρ : Ev) : R D → R D
  | .exn c fs _ s => .exn c fs ρ s
  | r => r
def mUser (m : FM) (ms : MA) : ME := fun ρ s => (ms ρ s).bnd fun ds s1 => retag ρ (m ds s1)
section
variable {X : Cx} {W : WX} {k j n : Nat} {x : Str} {p pos : Pos} {e : Expr} {es : List Expr} {ms : MA} {m : FM}
theorem runG {f : Addr} {fd : FuncData} {ps : List Str} {sp : Sp} {E : XK} {pins : List (Addr × Obj)} {σ : L2.St} {H : Hp} {st : Shared} {Q : VK} {us : List Value} {vs : List V} (F : FnG X.prog X.w X.K X.mg X.base k f fd ps sp) (hr : RoomG k X.A)
    (hb : Binds X.K fd ps []) (hx : PassesAt (L2.CX X.prog X.w) X σ E) (I : Inv X pins σ H st) (r : Vals vs us) (h : sp vs H Q E) : wpAny (model X.prog X.w) X.A (call (.ref f) us) (EP X pins σ Q) X.xe st := by
  have hl : us.length = ps.length := by rw [← r.length]; exact F.len _ _ _ _ h
  have hbt := hb st us I.kIn (by rw [List.append_nil]; exact hl)
  rw [List.append_nil] at hbt
  refine wpAny_call (codeAny_mono (F.run X.A X.stack st H ⟨us, []⟩ us vs Q E hr I.env0 hbt r h) fun rr s' hq => ?_)
  cases rr with
  | error e => exact hx pins H st e s' I hq
  | ok fl => cases fl with
    | ret u => exact I.after hq
    | next => exact hq.elim
    | brk => exact hq.elim
    | cont => exact hq.elim
/-- the promise from a caller's result -/
theorem spG_of {G : Cg} {ι H s ds vs Q σ ρ} (hn : vs.length = n) (q : Sim G ι H s) (r : RelDs G ι H ds vs) (e : EnvR G ι H σ ρ) (h : Post G W ι H (QE G Q) (retag ρ (m ds s))) : spG G n m vs H Q (WE W σ) := by
  refine ⟨ι, s, ds, hn, q, r, ?_⟩
  cases hm : m ds s with
  | ok d s1 => rw [hm] at h; exact h
  | bad => rw [hm] at h; exact h
  | exn c fs ρ' s1 =>
    rw [hm] at h
    exact fun ι' H' C dx σ' x' q' hC hD _ => h ι' H' C dx σ x' q' hC hD (e.mono x')
theorem ve_user (c : Cl X.prog X.w X.K X.mg X.base k x n m) (tk : Takes X W) (hr : RoomG j X.A) (hk : k ≤ j) (hg : Gl X x) (ha : VA X W (e :: es) ms) (hlen : ∀ ρ s ds s', ms ρ s = .ok ds s' → ds.length = n) (hdb : (x == ("__debug__" : Str)) = false := by decide)
    (he : starEach (e :: es) X.env = (false, eval e X.env) :: starEach es X.env := by rfl) (hpl : (backTo pos (starEach es X.env)).any (·.1) = false := by rfl) : VE X W (.Call (.Name x p) (e :: es) [] pos) (mUser m ms) := by
  obtain ⟨f, fd, ps, F, gf, kp, bd⟩ := c.ex
  refine ⟨fun pins st σ H Q I h => ?_⟩
  obtain ⟨ι, s, ρ, q, en, h⟩ := h
  refine wpAny_Call_Name_kw (ld_glob I hg gf ?_ hdb)
  have hA : rdA (cg X) W ms σ H fun vs H1 => spG (cg X) n m vs H1 Q (WE W σ) := by
    refine ⟨ι, s, ρ, q, en, ?_⟩
    have h2 := Post.bnd h
    cases hm : ms ρ s with
    | bad => rw [hm] at h2; exact h2
    | exn c fs ρ' s1 => rw [hm] at h2; exact h2
    | ok ds s1 =>
      rw [hm] at h2
      intro ι1 H1 e1 q1 vs r1
      obtain ⟨_, _, h3⟩ := h2 ι1 H1 e1 q1
      exact spG_of (by rw [r1.len]; exact hlen ρ s ds s1 hm) q1 r1 (en.mono e1) h3
  refine PySem.W.callWith_K (h₀ := X.base) I.ok.mod.kin kp (thn (ha.run pos pins st σ H _ I hA) fun us s1 ⟨vs, H1, I1, r, q1⟩ => ⟨I1.kIn, ?_⟩) he hpl
  exact runG F (hr.mono hk) bd (passAt tk σ) I1 r q1
theorem ve_user0 (c : Cl X.prog X.w X.K X.mg X.base k x 0 m) (tk : Takes X W) (hr : RoomG j X.A) (hk : k ≤ j) (hg : Gl X x) (hdb : (x == ("__debug__" : Str)) = false := by decide) : VE X W (.Call (.Name x p) [] [] pos) (mUser m mNil) := by
  obtain ⟨f, fd, ps, F, gf, kp, bd⟩ := c.ex
  refine ⟨fun pins st σ H Q I h => ?_⟩
  obtain ⟨ι, s, ρ, q, en, h⟩ := h
  refine wpAny_Call_Name_kw (ld_glob I hg gf ?_ hdb)
  exact PySem.W.callWith_K0 I.kIn kp (runG (us := []) F (hr.mono hk) bd (passAt tk σ) I .nil (spG_of rfl q .nil en h))
theorem len_nil {ρ s ds s'} (h : mNil ρ s = .ok ds s') : ds.length = 0 := by cases h; rfl
theorem len_cons {m : ME} {ms : MA} {n : Nat} (k : ∀ ρ s ds s', ms ρ s = .ok ds s' → ds.length = n) : ∀ ρ s ds s', mCons m ms ρ s = .ok ds s' → ds.length = n + 1 := by
  intro ρ s ds s' h
  unfold mCons at h
  cases h1 : m ρ s with
  | ok d s1 =>
    rw [h1] at h
    simp only [R.bnd_ok] at h
    cases h2 : ms ρ s1 with
    | ok es s2 => rw [h2] at h; cases h; simp [k _ _ _ _ h2]
    | exn c fs ρ' s2 => rw [h2] at h; cases h
    | bad => rw [h2] at h; cases h
  | exn c fs ρ' s2 => rw [h1] at h; cases h
  | bad => rw [h1] at h; cases h
/-- where nothing is let out (a comprehension's block) -/
theorem takes_W0 {X : Cx} : Takes X W0 := fun u s' h => by
  obtain ⟨_, _, _, _, _, _, _, _, _, _, _, _, _, _, _, _, z⟩ := h
  exact z.elim
end
end VL
namespace VL
open PySem PySem.Spec PyProof.Rows L2

/-! ### built-ins -/
def fLen : FA := fun xs s => match xs with
  | [.tup ds] => .ok (.int (ds.length : Nat)) s
  | [.str z] => if z.length ≤ LIM then .ok (.int (z.length : Nat)) s else .bad
  | [x] => (match asL s x with
    | some ds => .ok (.int (ds.length : Nat)) s
    | none => .bad)
  | _ => .bad
def fMax2 : FA := fun xs s => match xs with
  | [.int i, .int j] => .ok (.int (if j > i then j else i)) s
  | _ => .bad
def fMin2 : FA := fun xs s => match xs with
  | [.int i, .int j] => .ok (.int (if j < i then j else i)) s
  | _ => .bad
def toI : List D → Option (List Int)
  | [] => some []
  | .int i :: ds => (toI ds).map (i :: ·)
  | _ => none
def toB : List D → Option (List Bool)
  | [] => some []
  | .bl i :: ds => (toB ds).map (i :: ·)
  | _ => none
def fSum : FA := fun xs s => match xs with
  | [x] => (match (asL s x).bind toI with
    | some ns => .ok (.int ns.sum) s
    | none => .bad)
  | _ => .bad
def fAll : FA := fun xs s => match xs with
  | [x] => (match (asL s x).bind toB with
    | some bs => .ok (.bl (bs.all id)) s
    | none => .bad)
  | _ => .bad
def fAny : FA := fun xs s => match xs with
  | [x] => (match (asL s x).bind toB with
    | some bs => .ok (.bl (bs.any id)) s
    | none => .bad)
  | _ => .bad
def fTuple : FA := fun xs s => match xs with
  | [.tup ds] => .ok (.tup ds) s
  | [x] => (match asL s x with
    | some ds => .ok (.tup ds) s
    | none => .bad)
  | _ => .bad
def fList : FA := fun xs s => match xs with
  | [.tup ds] => .ok (.lst ds) s
  | [x] => (match asL s x with
    | some ds => .ok (.lst ds) s
    | none => .bad)
  | _ => .bad
def fListO : FA := fun xs s => match xs with
  | [.tup ds] => .ok (.obj s.length) (s ++ [.lst ds])
  | [x] => (match asL s x with
    | some ds => .ok (.obj s.length) (s ++ [.lst ds])
    | none => .bad)
  | _ => .bad
def isort (ns : List Int) : List Int := ns.mergeSort (fun a b => decide (a ≤ b))
def fSorted : FA := fun xs s => match xs with
  | [x] => (match (asL s x).bind toI with
    | some ns => .ok (.lst ((isort ns).map .int)) s
    | none => .bad)
  | _ => .bad
def fRepr : FA := fun xs s => match xs with
  | [x] => (match toPyS s x with
    | some p => if p.showable = true ∧ p.shown.length ≤ sizeLine ∧ p.hasDict = false ∧ p.depth ≤ 60 then .ok (.str p.shown) s else .bad
    | none => .bad)
  | _ => .bad
/-! isinstance: the type's name of plain data -/
def tyOf (s : S) : D → Option String
  | .non => some "NoneType"
  | .bl _ => some "bool"
  | .int _ => some "int"
  | .str _ => some "str"
  | .tup _ => some "tuple"
  | .lst _ => some "list"
  | .obj n => (match s[n]? with
    | some (.lst _) => some "list"
    | some (.dct _) => some "dict"
    | some (.dctT _) => some "dict"
    | _ => none)
  | _ => none
def isT (T t : String) : Bool := t == T || (t == "bool" && T == "int")
def fIsi : FA := fun xs s => match xs with
  | [x, .ty T] => if T = "int" ∨ T = "bool" ∨ T = "tuple" ∨ T = "str" then (match tyOf s x with
    | some t => .ok (.bl (isT T t)) s
    | none => .bad) else .bad
  | _ => .bad
section
variable {G : Cg} {W : WX} {X : Cx} {ι : Z} {H : Hp}
theorem rel1 {x : D} {vs : List V} (r : RelDs G ι H [x] vs) : ∃ v, vs = [v] ∧ RelD G ι H x v := by
  simp only [RelDs] at r
  obtain ⟨v, _, rfl, r1, rfl⟩ := r
  exact ⟨v, rfl, r1⟩
theorem rel2 {x y : D} {vs : List V} (r : RelDs G ι H [x, y] vs) : ∃ v u, vs = [v, u] ∧ RelD G ι H x v ∧ RelD G ι H y u := by
  simp only [RelDs] at r
  obtain ⟨v, _, rfl, r1, u, _, rfl, r2, rfl⟩ := r
  exact ⟨v, u, rfl, r1, r2⟩
theorem relTup {ds : List D} {v : V} (r : RelD G ι H (.tup ds) v) : ∃ a xs, v = .ref a ∧ SqT G.K H a xs ∧ RelDs G ι H ds xs := by
  simp only [RelD] at r
  obtain ⟨a, xs, h1, h2, h3⟩ := r
  exact ⟨a, xs, h1, h2.sq, h3⟩
abbrev rLenA (K : PySem.W.Frag) : List V → Hp → VK → Prop := fun xs H Q => (∃ p ys, xs = [.ref p] ∧ (SqL K H p ys ∨ SqT K H p ys) ∧ Q (.int ys.length) H) ∨ (∃ z, xs = [.str z] ∧ z.length ≤ sizeLine ∧ Q (.int z.length) H)
theorem c_len : CallR X (.builtin "len") (rLenA X.K) := call_len_seq.or call_len_str
theorem v_len : CallV G W (rLenA G.K) fLen := fun ι H s xs vs Q q r h => by
  unfold fLen at h
  split at h
  · rename_i ds
    obtain ⟨v, rfl, r1⟩ := rel1 r
    obtain ⟨a, ys, rfl, t, k⟩ := relTup r1
    exact .inl ⟨a, ys, rfl, .inr t, by rw [k.len]; exact h.val q (ri _)⟩
  · rename_i z
    split at h
    · rename_i hl
      obtain ⟨v, rfl, r1⟩ := rel1 r
      exact .inr ⟨z, by rw [relS r1], le_LIM hl, h.val q (ri _)⟩
    · exact h.elim
  · rename_i x _ _
    split at h
    · rename_i ds hd
      obtain ⟨v, rfl, r1⟩ := rel1 r
      obtain ⟨a, ys, rfl, t, k⟩ := asL_at q r1 hd
      exact .inl ⟨a, ys, rfl, .inl t, by rw [k.len]; exact h.val q (ri _)⟩
    · exact h.elim
  · exact h.elim
theorem v_max2 : CallV G W (fun xs H Q => ∃ i j, xs = [.int i, .int j] ∧ Q (.int (if j > i then j else i)) H) fMax2 := fun ι H s xs vs Q q r h => by
  unfold fMax2 at h
  split at h
  · rename_i i j
    obtain ⟨v, u, rfl, r1, r2⟩ := rel2 r
    exact ⟨i, j, by rw [relI r1, relI r2], h.val q (ri _)⟩
  · exact h.elim
theorem v_min2 : CallV G W (fun xs H Q => ∃ i j, xs = [.int i, .int j] ∧ Q (.int (if j < i then j else i)) H) fMin2 := fun ι H s xs vs Q q r h => by
  unfold fMin2 at h
  split at h
  · rename_i i j
    obtain ⟨v, u, rfl, r1, r2⟩ := rel2 r
    exact ⟨i, j, by rw [relI r1, relI r2], h.val q (ri _)⟩
  · exact h.elim
theorem toI_rel : ∀ {ds : List D} {ns : List Int} {vs : List V}, toI ds = some ns → RelDs G ι H ds vs → vs = ns.map V.int
  | [], ns, vs, h, r => by simp only [toI, Option.some.injEq] at h; subst h; simp only [RelDs] at r; exact r
  | d :: ds, ns, vs, h, r => by
    cases d with
    | int i =>
      simp only [toI] at h
      obtain ⟨ms, h1, rfl⟩ := Option.map_eq_some_iff.mp h
      simp only [RelDs] at r
      obtain ⟨v, ws, rfl, r1, r2⟩ := r
      rw [relI r1, toI_rel h1 r2]; rfl
    | _ => simp [toI] at h
theorem toB_rel : ∀ {ds : List D} {ns : List Bool} {vs : List V}, toB ds = some ns → RelDs G ι H ds vs → vs = ns.map V.bl
  | [], ns, vs, h, r => by simp only [toB, Option.some.injEq] at h; subst h; simp only [RelDs] at r; exact r
  | d :: ds, ns, vs, h, r => by
    cases d with
    | bl i =>
      simp only [toB] at h
      obtain ⟨ms, h1, rfl⟩ := Option.map_eq_some_iff.mp h
      simp only [RelDs] at r
      obtain ⟨v, ws, rfl, r1, r2⟩ := r
      rw [relB r1, toB_rel h1 r2]; rfl
    | _ => simp [toB] at h
theorem seqI {s : S} {x : D} {v : V} {ns : List Int} (q : Sim G ι H s) (r : RelD G ι H x v) (h : (asL s x).bind toI = some ns) : ∃ a, v = .ref a ∧ SqL G.K H a (ns.map V.int) := by
  obtain ⟨ds, h1, h2⟩ := Option.bind_eq_some_iff.mp h
  obtain ⟨a, ys, rfl, t, k⟩ := asL_at q r h1
  rw [toI_rel h2 k] at t
  exact ⟨a, rfl, t⟩
theorem seqB {s : S} {x : D} {v : V} {ns : List Bool} (q : Sim G ι H s) (r : RelD G ι H x v) (h : (asL s x).bind toB = some ns) : ∃ a, v = .ref a ∧ SqL G.K H a (ns.map V.bl) := by
  obtain ⟨ds, h1, h2⟩ := Option.bind_eq_some_iff.mp h
  obtain ⟨a, ys, rfl, t, k⟩ := asL_at q r h1
  rw [toB_rel h2 k] at t
  exact ⟨a, rfl, t⟩
theorem v_sum : CallV G W (rSum G.K) fSum := fun ι H s xs vs Q q r h => by
  unfold fSum at h
  split at h
  · split at h
    · rename_i ns hn
      obtain ⟨v, rfl, r1⟩ := rel1 r
      obtain ⟨a, rfl, t⟩ := seqI q r1 hn
      exact ⟨a, ns, rfl, t, h.val q (ri _)⟩
    · exact h.elim
  · exact h.elim
theorem v_all : CallV G W (rAll G.K) fAll := fun ι H s xs vs Q q r h => by
  unfold fAll at h
  split at h
  · split at h
    · rename_i ns hn
      obtain ⟨v, rfl, r1⟩ := rel1 r
      obtain ⟨a, rfl, t⟩ := seqB q r1 hn
      exact ⟨a, ns, rfl, t, h.val q (rb _)⟩
    · exact h.elim
  · exact h.elim
theorem v_any : CallV G W (rAny G.K) fAny := fun ι H s xs vs Q q r h => by
  unfold fAny at h
  split at h
  · split at h
    · rename_i ns hn
      obtain ⟨v, rfl, r1⟩ := rel1 r
      obtain ⟨a, rfl, t⟩ := seqB q r1 hn
      exact ⟨a, ns, rfl, t, h.val q (rb _)⟩
    · exact h.elim
  · exact h.elim
theorem v_tuple : CallV G W (fun xs H Q => ∃ p ys, xs = [.ref p] ∧ ((SqL G.K H p ys ∧ ∀ l, H l = none → Q (.ref l) (upd H l (.tup ys))) ∨ (SqT G.K H p ys ∧ Q (.ref p) H))) fTuple := fun ι H s xs vs Q q r h => by
  unfold fTuple at h
  split at h
  · rename_i ds
    obtain ⟨v, rfl, r1⟩ := rel1 r
    obtain ⟨a, ys, e, t, k⟩ := relTup r1
    exact ⟨a, ys, by rw [e], .inr ⟨t, by rw [← e]; exact h.val q r1⟩⟩
  · split at h
    · rename_i ds hd
      obtain ⟨v, rfl, r1⟩ := rel1 r
      obtain ⟨a, ys, rfl, t, k⟩ := asL_at q r1 hd
      exact ⟨a, ys, rfl, .inl ⟨t, fun p hp => h.newT q k hp⟩⟩
    · exact h.elim
  · exact h.elim
abbrev rListA (K : PySem.W.Frag) : List V → Hp → VK → Prop := fun xs H Q => ∃ p ys, xs = [.ref p] ∧ (SqL K H p ys ∨ SqT K H p ys) ∧ ∀ l, H l = none → Q (.ref l) (upd H l (.lst ys))
theorem v_list : CallV G W (rListA G.K) fList := fun ι H s xs vs Q q r h => by
  unfold fList at h
  split at h
  · rename_i ds
    obtain ⟨v, rfl, r1⟩ := rel1 r
    obtain ⟨a, ys, rfl, t, k⟩ := relTup r1
    exact ⟨a, ys, rfl, .inr t, fun p hp => h.newL q k hp⟩
  · split at h
    · rename_i ds hd
      obtain ⟨v, rfl, r1⟩ := rel1 r
      obtain ⟨a, ys, rfl, t, k⟩ := asL_at q r1 hd
      exact ⟨a, ys, rfl, .inl t, fun p hp => h.newL q k hp⟩
    · exact h.elim
  · exact h.elim
theorem v_listO : CallV G W (rListA G.K) fListO := fun ι H s xs vs Q q r h => by
  unfold fListO at h
  split at h
  · rename_i ds
    obtain ⟨v, rfl, r1⟩ := rel1 r
    obtain ⟨a, ys, rfl, t, k⟩ := relTup r1
    exact ⟨a, ys, rfl, .inr t, fun p hp => h.newLO q k hp⟩
  · split at h
    · rename_i ds hd
      obtain ⟨v, rfl, r1⟩ := rel1 r
      obtain ⟨a, ys, rfl, t, k⟩ := asL_at q r1 hd
      exact ⟨a, ys, rfl, .inl t, fun p hp => h.newLO q k hp⟩
    · exact h.elim
  · exact h.elim
theorem isort_perm (ns : List Int) : (isort ns).Perm ns := List.mergeSort_perm ..
theorem isort_pw (ns : List Int) : (isort ns).Pairwise (· ≤ ·) := by
  have := List.pairwise_mergeSort (le := fun a b : Int => decide (a ≤ b)) (fun a b c h1 h2 => by simp at h1 h2 ⊢; omega) (fun a b => by simp; omega) ns
  exact this.imp fun h => by simpa using h
theorem isort_of {ns ms : List Int} (p : ms.Perm ns) (w : ms.Pairwise (· ≤ ·)) : ms = isort ns :=
  (p.trans (isort_perm ns).symm).eq_of_pairwise (fun a b _ _ h1 h2 => by omega) w (isort_pw ns)
theorem v_sorted : CallV G W (rSortedI G.K) fSorted := fun ι H s xs vs Q q r h => by
  unfold fSorted at h
  split at h
  · split at h
    · rename_i ns hn
      obtain ⟨v, rfl, r1⟩ := rel1 r
      obtain ⟨a, rfl, t⟩ := seqI q r1 hn
      exact ⟨a, ns, rfl, t, fun ms p pm pw hp => by rw [isort_of pm pw]; exact h.newL q RelDs.ofInts hp⟩
    · exact h.elim
  · exact h.elim
/-! repr of data -/
def rReprD (K : PySem.W.Frag) : List V → Hp → VK → Prop := fun xs H Q => ∃ x p, xs = [x] ∧ Dp K H x p ∧ p.showable = true ∧ p.shown.length ≤ sizeLine ∧ p.hasDict = false ∧ p.depth ≤ 60 ∧ Q (.str p.shown) H
theorem c_repr (hg : X.A.guards = some []) (hu : X.A.units + 64 < cLine) : CallR X (.builtin "repr") (rReprD X.K) := by
  intro pins st σ H xs us Q I r h
  obtain ⟨x, p, rfl, hp, hs, hz, hd, hdp, k⟩ := h
  obtain ⟨u, rfl, ru⟩ := vals1 r
  obtain ⟨as, hr⟩ := Dp.reads I p x u hp ru
  have fin : ∀ (h' : Heap) (t : Tok) (tk : Nat), (∀ b o, st.heap.get? b = some o → h'.get? b = some o) → EP X pins σ Q (.str p.shown t) { st with heap := h', toks := tk } := fun h' t tk hk => ⟨.str p.shown, H, I.kept hk, ⟨t, rfl⟩, k⟩
  cases x with
  | ref a =>
    obtain rfl : u = Value.ref a := ru
    exact repr_of_reads' hr hs (fun z => by rw [hd] at z; cases z) hg (by omega) (fun _ _ e => e) (fun h' u tk hk => fin h' u tk hk) hz
  | non =>
    cases hp
    obtain rfl : u = Value.none := ru
    exact PySem.P.repr_of_none (fin st.heap _ _ fun _ _ e => e)
  | bl b =>
    cases hp
    obtain rfl : u = Value.bool b := ru
    have := fin st.heap st.toks (st.toks + 1) fun _ _ e => e
    simp only [PyData.shown] at this
    exact PySem.P.repr_of_bool this
  | int i =>
    cases hp
    obtain ⟨t, rfl⟩ := ru
    have := fin st.heap st.toks (st.toks + 1) fun _ _ e => e
    simp only [PyData.shown] at this
    exact PySem.P.repr_of_int (by simpa [PyData.showable] using hs) this
  | str z =>
    cases hp
    obtain ⟨t, rfl⟩ := ru
    have := fin st.heap st.toks (st.toks + 1) fun _ _ e => e
    simp only [PyData.shown] at this
    exact PySem.P.repr_of_str this (by simpa only [PyData.shown] using hz)
  | _ => cases hp
theorem v_repr : CallV G W (rReprD G.K) fRepr := fun ι H s xs vs Q q r h => by
  unfold fRepr at h
  split at h
  · split at h
    · rename_i p hp
      split at h
      · rename_i hc
        obtain ⟨v, rfl, r1⟩ := rel1 r
        exact ⟨v, p, rfl, dp_ofS q r1 hp, hc.1, hc.2.1, hc.2.2.1, hc.2.2.2, h.val q (by simp only [RelD])⟩
      · exact h.elim
    · exact h.elim
  · exact h.elim
theorem kit_all {K : PySem.W.Frag} {T t : String} (hT : T = "int" ∨ T = "bool" ∨ T = "tuple" ∨ T = "str") (ht : t = "NoneType" ∨ t = "bool" ∨ t = "int" ∨ t = "str" ∨ t = "tuple" ∨ t = "list" ∨ t = "dict") : PySem.W.kitOne K (.type t) (.type T) = some (isT T t) := by
  rcases hT with rfl | rfl | rfl | rfl <;> rcases ht with rfl | rfl | rfl | rfl | rfl | rfl | rfl <;> exact kit_ty (by decide +kernel)
theorem v_isi : CallV G W (rIsi G.K) fIsi := fun ι H s xs vs Q q r h => by
  unfold fIsi at h
  split at h
  · rename_i x T
    split at h
    · rename_i hT
      split at h
      · rename_i t ht
        obtain ⟨v, u, rfl, r1, r2⟩ := rel2 r
        have eu : u = .ty T := by simpa only [RelD] using r2
        subst eu
        have key : (t = "NoneType" ∨ t = "bool" ∨ t = "int" ∨ t = "str" ∨ t = "tuple" ∨ t = "list" ∨ t = "dict") ∧ TyX G.K H v (.type t) := by
          cases x with
          | non => cases ht; rw [relN r1]; exact ⟨.inl rfl, .base .non⟩
          | bl b => cases ht; rw [relB r1]; exact ⟨.inr (.inl rfl), .base (.bl b)⟩
          | int b => cases ht; rw [relI r1]; exact ⟨.inr (.inr (.inl rfl)), .base (.int b)⟩
          | str b => cases ht; rw [relS r1]; exact ⟨.inr (.inr (.inr (.inl rfl))), .base (.str b)⟩
          | tup ds =>
            cases ht
            refine ⟨.inr (.inr (.inr (.inr (.inl rfl)))), ?_⟩
            simp only [RelD] at r1
            obtain ⟨a, ys, rfl, tt, k⟩ := r1
            exact .base (.tup tt.2)
          | lst ds =>
            cases ht
            refine ⟨.inr (.inr (.inr (.inr (.inr (.inl rfl))))), ?_⟩
            simp only [RelD] at r1
            obtain ⟨a, ys, rfl, tt, k⟩ := r1
            exact .base (.lst tt.2)
          | obj n =>
            simp only [tyOf] at ht
            split at ht
            · rename_i ds hd
              cases ht
              obtain ⟨a, g1, _, ys, g3, _⟩ := q.addr hd
              simp only [RelD] at r1
              obtain ⟨b, rfl, eb⟩ := r1
              rw [g1] at eb; cases eb
              exact ⟨.inr (.inr (.inr (.inr (.inr (.inl rfl))))), .base (.lst g3)⟩
            · rename_i ds hd
              cases ht
              obtain ⟨a, g1, _, g3⟩ := q.addr hd
              simp only [RelD] at r1
              obtain ⟨b, rfl, eb⟩ := r1
              rw [g1] at eb; cases eb
              obtain ⟨ks, g3, _⟩ := g3
              exact ⟨.inr (.inr (.inr (.inr (.inr (.inr rfl))))), .base (.dK g3)⟩
            · rename_i ds hd
              cases ht
              obtain ⟨a, g1, _, g3⟩ := q.addr hd
              simp only [RelD] at r1
              obtain ⟨b, rfl, eb⟩ := r1
              rw [g1] at eb; cases eb
              obtain ⟨ks, g3, _⟩ := g3
              exact ⟨.inr (.inr (.inr (.inr (.inr (.inr rfl))))), .base (.dT g3)⟩
            · cases ht
          | _ => simp [tyOf] at ht
        exact ⟨v, .ty T, .type t, .type T, isT T t, rfl, .ty T, key.2, kit_all hT key.1, h.val q (rb _)⟩
      · exact h.elim
    · exact h.elim
  · exact h.elim
/-! range as a list, a tuple -/
def rgOkD (j : Int) : Prop := -(2 ^ 62) ≤ j ∧ j ≤ 1000
noncomputable instance (j : Int) : Decidable (rgOkD j) := Classical.propDecidable _
noncomputable def mListRg (m : ME) : ME := fun ρ s => (m ρ s).bnd fun d s1 => match d with
  | .int j => if rgOkD j then .ok (.lst (rngD 0 j.toNat)) s1 else .bad
  | _ => .bad
noncomputable def mTupRg (m : ME) : ME := fun ρ s => (m ρ s).bnd fun d s1 => match d with
  | .int j => if rgOkD j then .ok (.tup (rngD 0 j.toNat)) s1 else .bad
  | _ => .bad
theorem rgV_rel {j : Int} : RelDs G ι H (rngD 0 j.toNat) (rgV 0 j) := by
  have : ∀ l : List Nat, RelDs G ι H (l.map fun k => D.int (0 + (k : Nat))) (l.map fun i => V.int (0 + (i : Nat))) := by
    intro l
    induction l with
    | nil => exact .nil
    | cons a l ih => exact .cons (ri _) ih
  unfold rngD rgV
  rw [show j - 0 = j by omega]
  exact this _
theorem ve_listRg {a : Expr} {m : ME} {p p2 pos pos2 : Pos} (h : VE X W a m) (hg : Gl X "list") (hm : X.mg "list" = none) (hg2 : Gl X "range") (hm2 : X.mg "range" = none) (hc : X.calm = true := by rfl)
    (na2 : starEach [a] X.env = (false, eval a X.env) :: starEach [] X.env := by rfl) (na : starEach [.Call (.Name "range" p2) [a] [] pos2] X.env = (false, eval (.Call (.Name "range" p2) [a] [] pos2) X.env) :: starEach [] X.env := by rfl) :
    VE X W (.Call (.Name "list" p) [.Call (.Name "range" p2) [a] [] pos2] [] pos) (mListRg m) :=
  pe_imp (pe_listRg hc hg hm (prg_1 hg2 hm2 h na2) na) fun σ H Q ⟨ι, s, ρ, q, e, h⟩ => by
    refine rdE_on q e h fun d v ι1 H1 s1 e1 q1 r1 h1 => ?_
    split at h1
    · rename_i j
      split at h1
      · rename_i hj
        exact ⟨j, relI r1, ⟨by omega, by omega, hj.1, by have := hj.2; omega, by have := hj.2; omega⟩, fun p hp => h1.newL q1 rgV_rel hp⟩
      · exact h1.elim
    · exact h1.elim
theorem ve_tupRg {a : Expr} {m : ME} {p p2 pos pos2 : Pos} (h : VE X W a m) (hg : Gl X "tuple") (hm : X.mg "tuple" = none) (hg2 : Gl X "range") (hm2 : X.mg "range" = none) (hc : X.calm = true := by rfl)
    (na2 : starEach [a] X.env = (false, eval a X.env) :: starEach [] X.env := by rfl) (na : starEach [.Call (.Name "range" p2) [a] [] pos2] X.env = (false, eval (.Call (.Name "range" p2) [a] [] pos2) X.env) :: starEach [] X.env := by rfl) :
    VE X W (.Call (.Name "tuple" p) [.Call (.Name "range" p2) [a] [] pos2] [] pos) (mTupRg m) :=
  pe_imp (pe_tupRg hc hg hm (prg_1 hg2 hm2 h na2) na) fun σ H Q ⟨ι, s, ρ, q, e, h⟩ => by
    refine rdE_on q e h fun d v ι1 H1 s1 e1 q1 r1 h1 => ?_
    split at h1
    · rename_i j
      split at h1
      · rename_i hj
        exact ⟨j, relI r1, ⟨by omega, by omega, hj.1, by have := hj.2; omega, by have := hj.2; omega⟩, fun p hp => h1.newT q1 rgV_rel hp⟩
      · exact h1.elim
    · exact h1.elim
/-! methods of lists -/
def isLstO (s : S) (x : D) : Bool := match x with
  | .obj n => (match s[n]? with
    | some (.lst _) => true
    | _ => false)
  | _ => false
def fAppend (x : D) (y : D) (s : S) : R D := match x with
  | .obj n => (match s[n]? with
    | some (.lst ds) => if ds.length < LIM then .ok .non (s.set n (.lst (ds ++ [y]))) else .bad
    | _ => .bad)
  | _ => .bad
def mAppend (mo me : ME) : ME := fun ρ s => (mo ρ s).bnd fun x s1 => if isLstO s1 x = true then (me ρ s1).bnd fun y s2 => fAppend x y s2 else .bad
theorem ve_append {o e : Expr} {mo me : ME} {apos cpos : Pos} (ho : VE X W o mo) (he : VE X W e me)
    (hbase : attributeBase o "append" X.env (eval o X.env) = eval o X.env := by rfl)
    (hfew : ((backTo cpos (starEach [e] X.env)).all (fun x => !x.1) && (backToKw cpos (keywordEach [] X.env)).all (fun x => x.1.isSome)
      && decide ([e].length + ([] : List Keyword).length + (if ([] : List Keyword).isEmpty then 0 else 1) < 30)) = true := by rfl)
    (hline : (apos.endLine == cpos.line) = true := by rfl) (hs : starEach [e] X.env = (false, eval e X.env) :: starEach [] X.env := by rfl) (hplain : (backTo cpos (starEach [] X.env)).any (·.1) = false := by rfl) :
    VE X W (.Call (.Attribute o "append" apos) [e] [] cpos) (mAppend mo me) :=
  pe_imp (pe_bm PySem.F.plainAttrs_list PySem.F.slot_list_append PySem.F.type_list_append mt_append ho (pa_cons he pa_nil hs) hbase hfew hline hs hplain) fun σ H Q ⟨ι, s, ρ, q, e, h⟩ => by
    refine rdE_on q e h fun x v ι1 H1 s1 e1 q1 r1 h1 => ?_
    split at h1
    · rename_i hi
      cases x with
      | obj n =>
        simp only [isLstO] at hi
        split at hi
        · rename_i ds hd
          obtain ⟨a, g1, g2, ys, g3, _⟩ := q1.addr hd
          have r1' := r1
          simp only [RelD] at r1
          obtain ⟨b, rfl, eb⟩ := r1
          rw [g1] at eb; cases eb
          refine ⟨.inl ⟨rfl, ys, .inl (.inl g3)⟩, rdE_on q1 (e.mono e1) h1 fun y w ι2 H2 s2 e2 q2 r2 h2 => ?_⟩
          unfold fAppend at h2
          simp only at h2
          split at h2
          · rename_i es he
            split at h2
            · rename_i hl
              obtain ⟨a', k1, k2, zs, k3, k4⟩ := q2.addr he
              rw [e2.get g1] at k1; cases k1
              refine ⟨a, zs, w, rfl, rfl, k3, by rw [k4.len]; exact lt_LIM hl, ?_⟩
              refine h2 ι2 _ (.write k2 (nfix k3 rfl)) (q2.write (e2.get g1) (nfix k3 rfl) ⟨_, upd_same, ?_⟩) .non (by simp only [RelD])
              exact (k4.app (.one r2)).mono (.write k2 (nfix k3 rfl))
            · exact h2.elim
          · exact h2.elim
        · cases hi
      | _ => simp [isLstO] at hi
    · exact h1.elim
end
end VL
namespace VL
open PySem PySem.Spec PyProof.Rows L2

/-- the law's call at the heap behind the top -/
theorem law_callG {P : Program} {w : World} {K : PySem.W.Frag} {mg mb : Str → Option Value} {k : Nat} {fa a : Addr} {fd : FuncData} {x : Str} {m : FM} {s1 : Shared} {us : List Value} {ns : List Int}
    (kin : K.In s1.heap) (hns : s1.heap.Ns mainGlobals mg) (hb : s1.heap.Ns builtinsNs mb) (hbb : ∀ x : Str, x ≠ "__name__" → mb x = bootBuiltins x) (nl : s1.heap.NoLimit) (hg : s1.gens = #[])
    (ha : s1.heap.get? a = some { cls := .type "list", data := .seq us.toArray }) (hi : IntsAre us ns) (hl : ns.length ≤ sizeLine) (hr : RoomG k callerA)
    (F : ∀ base : Heap, K.In base → base.Ns mainGlobals mg → FnG P w K mg base k fa fd [x] (spG ⟨K, mg⟩ 1 m)) (hbind : ∀ (st : Shared) (u : Value), BindsTo st fd ⟨[u], []⟩ [(x, u)])
    (hm : ∃ s', m [.scr (ns.map D.int)] [] = .ok (.bl true) s') :
    codeAny (model P w) callerA (.call (.ref fa) ⟨[.ref a], []⟩) (fun r s' => r = .ok (.ret (.bool true)) ∧ OldK s1.heap s'.heap ∧ s'.os = s1.os ∧ AllBare s'.gens) s1 := by
  have rv : Vals (ns.map V.int) us := vals_ints hi
  have lu := hi.length
  have core : ∀ H : Hp, (∀ b u, H b = some u → b = a ∧ K.lookup a = none ∧ u = .frz { cls := .type "list", data := .seq us.toArray } (.lst (ns.map V.int))) → ScrAt ⟨K, mg⟩ ⟨[], []⟩ H a (ns.map V.int) → HOk P w H s1.heap →
      codeAny (model P w) callerA (.call (.ref fa) ⟨[.ref a], []⟩) (fun r s' => r = .ok (.ret (.bool true)) ∧ OldK s1.heap s'.heap ∧ s'.os = s1.os ∧ AllBare s'.gens) s1 := by
    intro H only hS hok
    have hid : ∀ {b : Addr} {o : Obj}, s1.heap.get? b = some o → H b = none → (hidT s1.heap H).get? b = some o := fun e n => hidT_get e n
    have isd : ∀ {b : Addr} {o : Obj} {es : Array DictEntry} {ep : Nat}, s1.heap.get? b = some o → o.data = .dict es ep → H b = none := fun {b o es ep} e d => by
      cases q : H b with
      | none => rfl
      | some u =>
        obtain ⟨rfl, _, _⟩ := only b u q
        rw [ha] at e; cases e
        exact absurd d (by intro z; cases z)
    have nsk : ∀ {b : Addr} {mm : Str → Option Value}, s1.heap.Ns b mm → (hidT s1.heap H).Ns b mm := fun {b mm} ⟨o, es, ep, e, d, r⟩ => ⟨o, es, ep, hid e (isd e d), d, r⟩
    have kb : K.In (hidT s1.heap H) := fun b o e => hid (kin b o e) (by
      cases q : H b with
      | none => rfl
      | some u =>
        obtain ⟨rfl, z, _⟩ := only b u q
        rw [z] at e; cases e)
    have md : Mod K mg (hidT s1.heap H) := ⟨kb, nsk hns, ⟨mb, nsk hb, hbb⟩, let ⟨mc, h1, h2⟩ := nl; ⟨mc, nsk h1, h2⟩⟩
    have e0 : Env0 P w K mg (hidT s1.heap H) callerA [] s1 H := ⟨rfl, md, fun b o e => of_hidT e, Nat.le_of_eq (hidT_size _ _), trivial, fun b z => absurd (show b ∈ ([] : List Addr) from z) (by simp), hok, .of_eq hg⟩
    obtain ⟨s', hm⟩ := hm
    have sp : spG ⟨K, mg⟩ 1 m [.ref a] H (fun v _ => v = .bl true) (fun _ _ _ => False) := by
      refine ⟨⟨[], []⟩, [], [.scr (ns.map D.int)], rfl, ⟨rfl, List.nodup_nil, fun n o b h => by simp at h, fun b z => absurd (show b ∈ ([] : List Addr) from z) (by simp)⟩, .one (by simp only [RelD]; exact ⟨a, _, rfl, hS, RelDs.ofInts⟩), ?_⟩
      rw [hm]
      intro ι' H' e q v r
      exact relB r
    refine codeAny_mono ((F _ kb (nsk hns)).run callerA [] s1 H ⟨[.ref a], []⟩ [.ref a] [.ref a] _ _ hr e0 (hbind s1 (.ref a)) (.cons rfl .nil) sp) fun r s2 h => ?_
    cases r with
    | error e =>
      obtain ⟨_, _, _, _, _, _, _, _, _, _, _, _, z⟩ := h
      exact z.elim
    | ok fl =>
      cases fl with
      | next => exact h.elim
      | brk => exact h.elim
      | cont => exact h.elim
      | ret u =>
        obtain ⟨v, H', os, bare, un, hok', r', q⟩ := h
        have q' : v = .bl true := q
        subst q'
        obtain rfl : u = Value.bool true := r'
        refine ⟨rfl, OldK.of_keep fun b o e => ?_, os, bare⟩
        cases q : H b with
        | none => exact un.keep b o e q (by intro z; exact absurd (show b ∈ ([] : List Addr) from z) (by simp)) (by simp)
        | some u =>
          obtain ⟨rfl, _, rfl⟩ := only b u q
          have z2 := un.frzs b _ _ q
          obtain ⟨e2, _⟩ := hok' b _ z2
          rw [ha] at e; cases e
          exact e2
  cases hk : K.lookup a with
  | some o =>
    have e := kin a o hk
    rw [ha] at e
    cases e
    exact core (fun _ => none) (fun b u z => by have z' : (none : Option HO) = some u := z; cases z') (.inr (.inr ⟨_, us.toArray, _, hk, rfl, rfl, rfl, by rw [List.size_toArray, lu]; exact hl, by simpa using rv⟩)) fun b u z => by
      have z' : (none : Option HO) = some u := z; cases z'
  | none =>
    refine core (fun b => if b = a then some (.frz { cls := .type "list", data := .seq us.toArray } (.lst (ns.map V.int))) else none) (fun b u z => ?_) (.inl ⟨⟨by simp, by simp⟩, .inr ⟨_, if_pos rfl⟩⟩) (fun b u z => ?_)
    · by_cases hb : b = a
      · exact ⟨hb, hk, by have z' := (if_pos hb).symm.trans z; cases z'; rfl⟩
      · have z' := (if_neg hb).symm.trans z
        cases z'
    · by_cases hb : b = a
      · have z' := (if_pos hb).symm.trans z
        cases z'
        subst hb
        exact ⟨ha, by rw [List.length_map]; exact hl, us, _, rv, ha⟩
      · have z' := (if_neg hb).symm.trans z
        cases z'
theorem walk_ofG {l : PySem.W.OpenLaw} {n k : Nat} {q : Program} {loose : List Str} {XP : (Str → Option Value) → Heap → Prop} {YP : World → Heap → Prop} {d : DefRec} {x : Str}
    (hn : l.most = some n) (hn2 : n ≤ sizeLine) (hdf : d.params.defaults = []) (hr : RoomG k callerA)
    (F : ∀ (w : World) (mg : Str → Option Value) (fa : Addr) (h : Heap), YP w h → h.Ns mainGlobals mg → mg d.name = some (.ref fa) →
      ∃ (K : PySem.W.Frag) (fd : FuncData) (m : FM), K.In h ∧ (∀ (s : Shared) (u : Value), BindsTo s fd ⟨[u], []⟩ [(x, u)]) ∧ (∀ ns : List Int, ns.length ≤ n → ∃ s', m [.scr (ns.map D.int)] [] = .ok (.bl true) s') ∧
        ∀ base : Heap, K.In base → base.Ns mainGlobals mg → FnG l.prog w K mg base k fa fd [x] (spG ⟨K, mg⟩ 1 m)) :
    PySem.W.WalkO q loose XP YP l.row.toRowW d [] (fun f vs => PySem.call f vs) := by
  refine Att.attach_call hn hdf fun w s0 s1 mg mb fa o pm cd doc a us ns G Y ho hd hcd hmg hobj hints hlen hg => ?_
  obtain ⟨K, fd, m, KX, hb, hm, hF⟩ := F w mg fa _ Y G.T.g hmg
  exact law_callG KX G.T.g G.T.b G.T.builtins G.T.nolimit hg hobj hints (Nat.le_trans hlen hn2) hr hF hb (hm ns hlen)
end VL
namespace VL
open PySem PySem.Spec PyProof.Rows L2
section
variable {X : Cx} {W : WX} {a b c : Expr} {ma mb mc : ME} {pos : Pos}
theorem hu64 {k : Nat} {A : Around} (r : RoomG k A) : A.units + 64 < cLine := r.r.units
theorem hu65 {k : Nat} {A : Around} (r : RoomG k A) : A.units + 65 < cLine := by have := r.r.un; omega
theorem vts_nil : PTs X [] (rdT (cg X) W mYes) := ⟨fun pins s σ H Q I h => pts_nil.run pins s σ H Q I (by
  obtain ⟨ι, s, ρ, q, e, h⟩ := h
  exact h.here q)⟩
theorem vts_one {t : MT} (h : VT X W c t) : PTs X [c] (rdT (cg X) W t) := pts_one h
theorem vt_chain {op op' : CmpOp} {r r' : R2} {f g : F2} (ho : OpR X (compareOp op) r) (ho' : OpR X (compareOp op') r') (hr : OpK (cg X) W r f) (hr' : OpV (cg X) W r' g) (ha : VE X W a ma) (hb : VE X W b mb) (hc : VE X W c mc)
    (hm : lastMarks [op, op'] [b, c] = false := by with_unfolding_all rfl) : VT X W (.Compare a [op, op'] [b, c] pos) (mB (mChn f g ma mb mc)) := by
  refine pt_imp (pt_chain ho ho' ha hb hc hm) fun σ H Q h => ?_
  obtain ⟨ι, s, ρ, q, e, h⟩ := rdB h
  refine rdE_on q e h fun x v ι1 H1 s1 e1 q1 r1 h1 => rdE_on q1 (e.mono e1) h1 fun y u ι2 H2 s2 e2 q2 r2 h2 => ?_
  refine hr ι2 H2 s2 x y v u _ _ q2 (r1.mono e2) r2 h2.bnd fun z w ez rz hz => ?_
  obtain ⟨_, _, h3⟩ := hz
  cases z with
  | bl k =>
    refine ⟨k, relB rz, ?_⟩
    cases k with
    | true =>
      refine L2.iteT ?_
      exact rdE_on q2 ((e.mono e1).mono e2) h3 fun w' t ι3 H3 s3 e3 q3 r3 h4 => hr' ι3 H3 s3 y w' u t _ q3 (r2.mono e3) r3 h4
    | false =>
      refine L2.iteF ?_
      exact h3.val q2 (by simp only [RelD])
  | _ => exact h3.elim
theorem len_nilF : ∀ (ρ : Ev) (s : S) (ds : List D) (s' : S), mNil ρ s = .ok ds s' → ds.length = 0 := fun ρ s ds s' h => len_nil h
/-- the free built-in names -/
structure Bl (mg : Str → Option Value) : Prop where
  all : mg "all" = none
  any : mg "any" = none
  dict : mg "dict" = none
  enumerate : mg "enumerate" = none
  int : mg "int" = none
  bool : mg "bool" = none
  isinstance : mg "isinstance" = none
  len : mg "len" = none
  list : mg "list" = none
  max : mg "max" = none
  min : mg "min" = none
  range : mg "range" = none
  repr : mg "repr" = none
  set : mg "set" = none
  sorted : mg "sorted" = none
  str : mg "str" = none
  sum : mg "sum" = none
  tuple : mg "tuple" = none
  zip : mg "zip" = none
  ValueError : mg "ValueError" = none
/-- a def as a name that may be called -/
theorem clG {P : Program} {w : World} {K : PySem.W.Frag} {mg : Str → Option Value} {base : Heap} {k n : Nat} {x : Str} {m : FM} {f : Addr} {fd : FuncData} {ps : List Str} {params : Arguments} {body : List Stmt} {scope : Scope} (F : FunD K x x params body scope [] [] f fd) (gf : mg x = some (.ref f)) (b : Binds K fd ps [])
    (h : FnG P w K mg base k f fd ps (spG ⟨K, mg⟩ ps.length m)) (hn : ps.length = n) : Cl P w K mg base k x n m := by
  subst hn
  exact ⟨f, fd, ps, h, gf, F.kp, b⟩
end
end VL
namespace VL
open PySem PySem.Spec PyProof.Rows L2

/-! ### enumerate over a tuple: the hand layer's rule is for lists alone -/
theorem meets_enum1 {v : Value} {o : Obj} {H : Heap → Prop} (B : Begins v o H) :
    Meets (Builtin.«enumerate.__new__» ⟨[.type "enumerate", v], []⟩) (fun _ R s => H s.heap ∧
      R (.ok (.ret (.ref (s.heap.push o).objs.size))) { s with heap := (s.heap.push o).push { cls := .type "enumerate", data := .fields #[.none, .bool false, .ref s.heap.objs.size, rawInt 0, .none, .none] } }) :=
  .of_wp fun prog w A R s h => by
    obtain ⟨hp, g, d, tk, os⟩ := s; obtain ⟨h1, h⟩ := h
    have hsub := sub_enumerate
    have q1 : ∀ {A' : Around} {E : Value → Shared → Prop} {Q : Value → Shared → Prop}, Q (.ref hp.objs.size) ⟨hp.push o, g, d, tk, os⟩ → wpAny (model prog w) A' (pyIter v) Q E ⟨hp, g, d, tk, os⟩ :=
      fun q => B.iter prog w _ _ ⟨hp, g, d, tk, os⟩ _ h1 q
    wp_walk using q1
    refine wpAny_stack_any fun st => wpAny_pure ?_
    split
    · rename_i c _ _ _ _ _
      cases (c == Value.type "enumerate")
      · wp_walk using q1
        exact ⟨_, rfl, h⟩
      · wp_walk using q1
        exact ⟨_, rfl, h⟩
    · wp_walk using q1
      exact ⟨_, rfl, h⟩
section
variable {prog : Program} {w : World} {A : Around} {E : Value → Shared → Prop} {s : Shared}
theorem call_enum1 {v : Value} {o : Obj} {H : Heap → Prop} {Q : Value → Shared → Prop} (B : Begins v o H) (h1 : H s.heap)
    (h : ∀ h', IsEnum h' (s.heap.objs.size + 1) s.heap.objs.size 0 .none → h'.get? s.heap.objs.size = some o → h'.objs.size = s.heap.objs.size + 2 →
      (∀ b o, s.heap.get? b = some o → h'.get? b = some o) → Q (.ref (s.heap.objs.size + 1)) { s with heap := h' }) :
    wpAny (model prog w) A (call (.type "enumerate") [v]) Q E s := by
  refine callType_new F.called_enumerate (by decide) (F.typeCall_enumerate_1 _) (F.newCall_enumerate_1 _) (fun obj => F.args_object_init_2 obj _) F.entry_enumerate_new
    (meets_enum1 B) ⟨h1, ?_⟩
  have hz : (s.heap.push o).objs.size = s.heap.objs.size + 1 := Heap.size_push ..
  show _ ∧ _
  rw [hz]
  have he : IsEnum ((s.heap.push o).push { cls := .type "enumerate", data := .fields #[.none, .bool false, .ref s.heap.objs.size, rawInt 0, .none, .none] }) (s.heap.objs.size + 1) s.heap.objs.size 0 .none := by
    have := Heap.get?_push_size (s.heap.push o) (o := { cls := .type "enumerate", data := .fields #[.none, .bool false, .ref s.heap.objs.size, rawInt 0, .none, .none] }) rfl
    rw [hz] at this; exact this
  refine ⟨⟨_, he, rfl⟩, h _ he (Heap.get?_push_of_some _ (Heap.get?_push_size _ B.free)) (by rw [Heap.size_push, hz]) fun b o x => Heap.get?_push_of_some _ (Heap.get?_push_of_some _ x)⟩
end
/-- the tuple at a, each item in a new pair -/
def IteT (K : PySem.W.Frag) (a : Addr) : It :=
  ⟨fun i H => ∃ (xs : List V) (x : V), SqT K H a xs ∧ xs[i]? = some x, fun i H v H' => ∃ T x, v = .ref T ∧ H T = none ∧ H' = upd H T (.tup [.int (i : Nat), x]) ∧ ∀ xs, SqT K H a xs → xs[i]? = some x, fun i H => ∃ xs : List V, SqT K H a xs ∧ xs.length ≤ i⟩
theorem turn_enumT {P : Program} {w : World} {K : PySem.W.Frag} {elts : List Expr} {kk : Nat} {tpos : Pos} (a e it : Addr) :
    Turn P w K (.Tuple elts kk tpos) (IteT K a) [e, it] e (fun i h => (∃ old, IsEnum h e it ((i : Nat) : Int) old) ∧ h.IsTupleIter it a i ∧ e ≠ it ∧ a ≠ it ∧ a ≠ e) where
  mem := by simp
  obj := fun i h st b hb => by
    obtain ⟨⟨old, he⟩, ⟨o, ho, hc, hd⟩, _⟩ := st
    have e' : b = e ∨ b = it := by simpa using hb
    rcases e' with z | z
    · rw [z]; exact ⟨_, he, fun v q => nomatch q⟩
    · rw [z]; exact ⟨o, ho, fun v q => by rw [hd] at q; cases q⟩
  keep := fun i h h' st k => let ⟨⟨old, he⟩, hi, hne⟩ := st; ⟨⟨old, k e (by simp) _ he⟩, hi.at fun o q => k it (by simp) o q, hne⟩
  item := by
    intro X hP hw hK hc i pins s σ H E I hf st hg
    subst hP hw hK
    obtain ⟨⟨old, he⟩, hit, hne, hai, hae⟩ := st
    obtain ⟨xs, x, hq, hx⟩ := hg
    obtain ⟨its, rv, p, hz⟩ := I.tuple hq
    obtain ⟨u, hu, ru⟩ := rv.get hx
    have hel : e < s.heap.objs.size := Heap.lt_size he
    have hil : it < s.heap.objs.size := by obtain ⟨_, q, _⟩ := hit; exact Heap.lt_size q
    have hh : X.A.in1.handled = none := I.ok.hd hc
    have D := Draws.tuple (prog := X.prog) (w := X.w) (A := X.A.in1) hh it a hai its.toArray
    have hlt : i < its.toArray.size := by
      have := (List.getElem?_eq_some_iff.mp hu).1
      simpa using this
    have hef : e ∉ [it, a] := by
      simp only [List.mem_cons, List.not_mem_nil, or_false, not_or]
      exact ⟨hne, fun z => hae z.symm⟩
    refine wpAny_pyNext_enum_itemD D he ⟨hit, p⟩ hlt hne hef fun y h' tk hy ho st' hT hsz hk => ?_
    have hyu : y = u := by
      have hu' : its.toArray[i]? = some u := by simpa using hu
      rw [hu'] at hy
      exact (Option.some.inj hy).symm
    subst hyu
    refine ⟨_, rfl, wpAny_letOwnedTupleGo_enum (s := { s with heap := h', toks := tk + 1 }) ho fun h'' he' sb => ?_⟩
    have hT2 : h''.get? s.heap.objs.size = some { cls := .type "tuple", data := .seq #[.int i tk, y] } := (sb.2 _ (Nat.ne_of_gt hel)).trans hT
    have new : ObjOk X.prog X.w (upd H s.heap.objs.size (.tup [.int (i : Nat), x])) h'' s.heap.objs.size (.tup [.int (i : Nat), x]) :=
      ⟨by show 2 ≤ sizeLine; decide, [.int i tk, y], .cons ⟨_, rfl⟩ (.cons ru .nil), ⟨_, hT2, rfl, _, rfl⟩⟩
    have I1 : Inv X pins σ (upd H s.heap.objs.size (.tup [.int (i : Nat), x])) { s with heap := h'', toks := tk + 1 } :=
      I.turnedNew (ch := [e, it]) (fun b ob hb q => (sb.2 b (fun z => hb (by simp [z]))).trans (hk b ob (fun z => hb (by simp [z])) (fun z => hb (by simp [z])) q)) hf (Nat.le_refl _) new
    refine ⟨.ref s.heap.objs.size, _, I1, rfl, ⟨_, x, rfl, I.hok.fresh (Nat.le_refl _), rfl, fun ys hy => by rw [I.tuple_inj hy hq]; exact hx⟩, ⟨⟨y, ?_⟩, st'.1.at fun o q => (sb.2 it (Ne.symm hne)).trans q, hne, hai, hae⟩, fun b hb => ?_⟩
    · have e1 : ((i + 1 : Nat) : Int) = (i : Int) + 1 := by omega
      rw [e1]; exact he'
    · have hb' : b < s.heap.objs.size := by
        have e' : b = e ∨ b = it := by simpa using hb
        rcases e' with z | z
        · rw [z]; exact hel
        · rw [z]; exact hil
      rw [upd_ne (Nat.ne_of_lt hb')]
      exact (hf b hb).1
  done := by
    intro X hP hw hK hc i pins s σ H E I hf st hg
    subst hP hw hK
    obtain ⟨⟨old, he⟩, hit, hne, hai, hae⟩ := st
    obtain ⟨xs, hq, hx⟩ := hg
    obtain ⟨its, rv, p, hz⟩ := I.tuple hq
    obtain ⟨f0, f1, f2, f3, f4, f5⟩ := hf it (by simp)
    have hl := rv.length
    have hh : X.A.in1.handled = none := I.ok.hd hc
    have hT : s.TypeIs (.ref e) "enumerate" := ⟨_, he, rfl⟩
    unfold pyNext
    refine wpAny_bind (wpAny_attempt (wpAny_callSpecial?_slot (name := Str.ofString "__next__") hT F.slot_enumerate_next
      (wpAny_call_entry F.slot_enumerate_next hT F.entry_enumerate_next ?_ (F.args_enumerate_next_1 _))))
    show wpAny _ _ (field (.ref e) 2 >>= _) _ _ _
    refine wpAny_bind (wpAny_field he rfl (x := .ref it) rfl ?_)
    refine wpAny_bind (wpAny_nextOf_tuple_end hh hit p (by simp; omega) fun h' x he' hx' => ?_)
    obtain ⟨o, ho, hc⟩ := hx'
    refine wpAny_bind (wpAny_isInstance (T := "StopIteration") (b := true) ⟨o, ho, hc⟩ isSubtype_stop ?_)
    exact wpAny_pure ⟨rfl, I.turned (t' := s.toks) (fun b o hb q => he' b o hb q) f0 f1 f3 f4 f5⟩
  self := fun A i s Q E st h => let ⟨⟨_, he⟩, _⟩ := st; wpAny_pyIter_enum he h
def iEnumT (K : PySem.W.Frag) (ta : TA) : TI := fun σ H R => ta σ H fun vs H1 => ∃ a xs, vs = [.ref a] ∧ SqT K H1 a xs ∧ R (IteT K a) H1
theorem pi_enumT {X : Cx} {e : Expr} {ta : TA} {p pos tpos : Pos} {elts : List Expr} {kk : Nat} (hg : Gl X "enumerate") (hm : X.mg "enumerate" = none) (ha : PA X [e] ta) (hs : starEach [e] X.env = [(false, eval e X.env)] := by rfl) :
    PI X (.Tuple elts kk tpos) (.Call (.Name "enumerate" p) [e] [] pos) (iEnumT X.K ta) := by
  refine ⟨fun pins s σ H R I h => ?_⟩
  refine Call_ (ld_blt I hg hm boot_enumerate (PyProof.Rows.callWith_type1 (thn (ha.run pos pins s σ H _ I h) fun us s1 ⟨vs, H1, I1, r1, q1⟩ => ?_) hs rfl))
  obtain ⟨a, xs, ex, hq, q⟩ := q1
  subst ex
  cases r1 with
  | cons r rr =>
    cases rr
    cases r
    obtain ⟨its, rv, p', hz⟩ := I1.tuple hq
    have hal : a < s1.heap.objs.size := by obtain ⟨_, z, _⟩ := id p'; exact Heap.lt_size z
    refine call_enum1 (begins_tuple a its.toArray) p' fun h' he hit hsz hk => wpAny_pyIter_enum he ?_
    have I2 : Inv X pins σ H1 { s1 with heap := h' } := I1.kept (t' := s1.toks) hk
    refine ⟨s1.heap.objs.size + 1, [s1.heap.objs.size + 1, s1.heap.objs.size], _, _, H1, rfl, I2, turn_enumT a (s1.heap.objs.size + 1) s1.heap.objs.size, ⟨⟨.none, he⟩, ⟨_, hit, rfl, rfl⟩, Nat.succ_ne_self _, Nat.ne_of_lt hal, Nat.ne_of_lt (Nat.lt_succ_of_lt hal)⟩, fun b hb => ?_, q⟩
    have e' : b = s1.heap.objs.size + 1 ∨ b = s1.heap.objs.size := by simpa using hb
    have hle : s1.heap.objs.size ≤ b := by
      rcases e' with z | z
      · rw [z]; exact Nat.le_add_right _ _
      · rw [z]; exact Nat.le_refl _
    exact I1.fpOk hle (I1.hok.fresh hle)

/-! ### .. by values -/
theorem enumD_get {xs : List D} {i : Nat} : (enumD xs)[i]? = xs[i]?.map fun d => .tup [.int (i : Nat), d] := by
  unfold enumD
  rw [List.getElem?_map, List.getElem?_zipIdx]
  cases xs[i]? <;> simp
theorem enumD_len {xs : List D} : (enumD xs).length = xs.length := by simp [enumD]
def enumF : List D → S → R Src := fun ds s1 => match ds with
  | [.tup xs] => .ok (.fix (enumD xs)) s1
  | [.lst xs] => .ok (.fix (enumD xs)) s1
  | [.scr xs] => .ok (.fix (enumD xs)) s1
  | [.obj n] => (match s1[n]? with
    | some (.lst _) => .ok (.enl n) s1
    | _ => .bad)
  | _ => .bad
def mEnum (ms : MA) : MI := fun ρ s => (ms ρ s).bnd enumF
section
variable {G : Cg} {ι : Z} {H : Hp} {xs : List D} {vs : List V} {a : Addr}
theorem itok_pair {J : It} {Sq : Hp → Prop} (hgo : ∀ ι1 H1 i v, ExtW ι H ι1 H1 → vs[i]? = some v → J.go i H1) (hstop : ∀ ι1 H1 i, ExtW ι H ι1 H1 → vs.length ≤ i → J.stop i H1)
    (hy : ∀ ι1 H1 i v H', ExtW ι H ι1 H1 → J.yld i H1 v H' → ∃ T x, v = .ref T ∧ H1 T = none ∧ H' = upd H1 T (.tup [.int (i : Nat), x]) ∧ vs[i]? = some x) (r : RelDs G ι H xs vs) : ItOk G ι H (.fix (enumD xs)) J := fun ι1 H1 s ys e q hys i => by
  simp only [srcAt, Option.some.injEq] at hys
  subst hys
  have r1 := RelDs.monoW e _ r
  refine ⟨fun d hd => ?_, fun hl => hstop ι1 H1 i e (by rw [r1.len]; rw [enumD_len] at hl; exact hl)⟩
  rw [enumD_get] at hd
  obtain ⟨d0, hd0, rfl⟩ := Option.map_eq_some_iff.1 hd
  obtain ⟨v, hv, rv⟩ := r1.get hd0
  refine ⟨hgo ι1 H1 i v e hv, fun x H' hyy => ?_⟩
  obtain ⟨T, u, rfl, hT, rfl, hu⟩ := hy ι1 H1 i x H' e hyy
  rw [hv] at hu; cases hu
  refine ⟨.new hT, fun b hb => upd_ne fun z => q.tr hb (z ▸ hT), ?_⟩
  simp only [RelD]
  refine ⟨T, _, rfl, ⟨q.off hT, upd_same⟩, ?_⟩
  simp only [RelDs]
  exact ⟨_, _, rfl, by simp only [RelD], _, _, rfl, rv.mono (.new hT), rfl⟩
theorem itok_enumT (t : TupAt G ι H a vs) (r : RelDs G ι H xs vs) : ItOk G ι H (.fix (enumD xs)) (IteT G.K a) :=
  itok_pair (Sq := fun _ => True) (fun ι1 H1 i v e hv => ⟨vs, v, (t.monoW e).sq, hv⟩) (fun ι1 H1 i e hl => ⟨vs, (t.monoW e).sq, hl⟩) (fun ι1 H1 i v H' e ⟨T, x, h1, h2, h3, h4⟩ => ⟨T, x, h1, h2, h3, h4 vs (t.monoW e).sq⟩) r
theorem itok_enumL (t : ∀ ι' H', ExtW ι H ι' H' → SqL G.K H' a vs) (r : RelDs G ι H xs vs) : ItOk G ι H (.fix (enumD xs)) (Ite G.K a) :=
  itok_pair (Sq := fun _ => True) (fun ι1 H1 i v e hv => ⟨vs, v, t _ _ e, hv⟩) (fun ι1 H1 i e hl => ⟨vs, t _ _ e, hl⟩) (fun ι1 H1 i v H' e ⟨T, x, h1, h2, h3, h4⟩ => ⟨T, x, h1, h2, h3, h4 vs (t _ _ e)⟩) r
end
theorem itok_enl {G : Cg} {ι : Z} {H : Hp} {n : Nat} {a : Addr} (ha : ι.ad[n]? = some a) : ItOk G ι H (.enl n) (Ite G.K a) := fun ι1 H1 s ys e q hys i => by
  simp only [srcAt] at hys
  split at hys
  · rename_i ds hds
    cases hys
    obtain ⟨b, g1, _, us, g3, r1⟩ := q.addr hds
    rw [e.get _ _ ha] at g1; cases g1
    have sq : SqL G.K H1 a us := .inl (.inl g3)
    refine ⟨fun d hd => ?_, fun hl => ⟨us, sq, by rw [r1.len]; rw [enumD_len] at hl; exact hl⟩⟩
    rw [enumD_get] at hd
    obtain ⟨d0, hd0, rfl⟩ := Option.map_eq_some_iff.1 hd
    obtain ⟨v, hv, rv⟩ := r1.get hd0
    refine ⟨⟨us, v, sq, hv⟩, fun x H' hyy => ?_⟩
    obtain ⟨T, u, rfl, hT, rfl, hu⟩ := hyy
    have hu := hu us sq
    rw [hv] at hu; cases hu
    refine ⟨.new hT, fun b hb => upd_ne fun z => q.tr hb (z ▸ hT), ?_⟩
    simp only [RelD]
    refine ⟨T, _, rfl, ⟨q.off hT, upd_same⟩, ?_⟩
    simp only [RelDs]
    exact ⟨_, _, rfl, by simp only [RelD], _, _, rfl, rv.mono (.new hT), rfl⟩
  · cases hys
section
variable {X : Cx} {W : WX}
theorem vi_enum {e : Expr} {ms : MA} {p pos tpos : Pos} {elts : List Expr} {kk : Nat} (hg : Gl X "enumerate") (hm : X.mg "enumerate" = none) (ha : VA X W [e] ms) (hs : starEach [e] X.env = [(false, eval e X.env)] := by rfl) :
    VI X W (.Tuple elts kk tpos) (.Call (.Name "enumerate" p) [e] [] pos) (mEnum ms) :=
  pi_imp (pi_or (pi_enum hg hm ha hs) (pi_enumT hg hm ha hs)) fun σ H Rr ⟨ι, s, ρ, q, e, h⟩ => by
    unfold mEnum at h
    cases hm : ms ρ s with
    | bad => rw [hm] at h; exact h.elim
    | exn c fs ρ' s' =>
      rw [hm] at h
      refine .inl ⟨ι, s, ρ, q, e, ?_⟩
      rw [hm]
      exact h
    | ok ds s' =>
      rw [hm] at h
      simp only [R.bnd_ok] at h
      unfold enumF at h
      split at h
      · refine .inr ⟨ι, s, ρ, q, e, ?_⟩
        rw [hm]
        intro ι1 H1 e1 q1 vs r
        have h1 := h ι1 H1 e1 q1
        simp only [RelDs, RelD] at r
        obtain ⟨_, _, rfl, ⟨a, us, rfl, t, k⟩, rfl⟩ := r
        exact ⟨a, us, rfl, t.sq, h1 _ (itok_enumT t k)⟩
      · refine .inl ⟨ι, s, ρ, q, e, ?_⟩
        rw [hm]
        intro ι1 H1 e1 q1 vs r
        have h1 := h ι1 H1 e1 q1
        simp only [RelDs, RelD] at r
        obtain ⟨_, _, rfl, ⟨a, us, rfl, t, k⟩, rfl⟩ := r
        exact ⟨a, us, rfl, .inl (.inl t.2), h1 _ (itok_enumL (fun ι' H' e => .inl (.inl (t.monoW e).2)) k)⟩
      · refine .inl ⟨ι, s, ρ, q, e, ?_⟩
        rw [hm]
        intro ι1 H1 e1 q1 vs r
        have h1 := h ι1 H1 e1 q1
        simp only [RelDs, RelD] at r
        obtain ⟨_, _, rfl, ⟨a, us, rfl, t, k⟩, rfl⟩ := r
        exact ⟨a, us, rfl, t.sq, h1 _ (itok_enumL (fun ι' H' e => (t.monoW e).sq) k)⟩
      · split at h
        · rename_i n ds hds
          refine .inl ⟨ι, s, ρ, q, e, ?_⟩
          rw [hm]
          intro ι1 H1 e1 q1 vs r
          have h1 := h ι1 H1 e1 q1
          simp only [RelDs, RelD] at r
          obtain ⟨_, _, rfl, ⟨a, rfl, ha⟩, rfl⟩ := r
          obtain ⟨b, g1, _, us, g3, _⟩ := q1.addr hds
          rw [ha] at g1; cases g1
          exact ⟨a, us, rfl, .inl (.inl g3), h1 _ (itok_enl ha)⟩
        · exact h.elim
      · exact h.elim
end
end VL
namespace VL
open PySem PySem.Spec PyProof.Rows L2

/-! ### dicts by values -/
section
variable {κ : Type} [DecidableEq κ]
def look (kf : D → Option κ) (kvs : List (D × D)) (k : κ) : Option D := (kvs.find? fun p => decide (kf p.1 = some k)).map (·.2)
def put (kf : D → Option κ) (kvs : List (D × D)) (kd : D) (k : κ) (v : D) : List (D × D) :=
  if (kvs.any fun p => decide (kf p.1 = some k)) = true then kvs.map (fun p => if kf p.1 = some k then (p.1, v) else p) else kvs ++ [(kd, v)]
abbrev PR (G : Cg) (ι : Z) (H : Hp) (kf : D → Option κ) (kvs : List (D × D)) (ks : List (κ × V)) : Prop := Paired (fun (p : D × D) q => kf p.1 = some q.1 ∧ RelD G ι H p.2 q.2) kvs ks
def OptR (G : Cg) (ι : Z) (H : Hp) : Option D → Option V → Prop
  | some d, some v => RelD G ι H d v
  | none, none => True
  | _, _ => False
variable {G : Cg} {ι : Z} {H : Hp} {kf : D → Option κ}
theorem look_rel {k : κ} : ∀ {kvs : List (D × D)} {ks : List (κ × V)}, PR G ι H kf kvs ks → OptR G ι H (look kf kvs k) (valV ks k)
  | _, _, .nil => trivial
  | _, _, .cons (a := a) (b := b) (l₁ := l1) (l₂ := l2) h t => by
    by_cases e : b.1 = k
    · rw [valV_pos e]
      have : look kf (a :: l1) k = some a.2 := by simp [look, List.find?_cons, h.1, e]
      rw [this]
      exact h.2
    · rw [valV_neg e]
      have e' : ¬ kf a.1 = some k := by rw [h.1]; exact fun z => e (Option.some.inj z)
      have : look kf (a :: l1) k = look kf l1 k := by simp [look, List.find?_cons, e']
      rw [this]
      exact look_rel t
theorem pr_any {k : κ} : ∀ {kvs : List (D × D)} {ks : List (κ × V)}, PR G ι H kf kvs ks → (kvs.any fun p => decide (kf p.1 = some k)) = ks.any fun q => decide (q.1 = k)
  | _, _, .nil => rfl
  | _, _, .cons (a := a) (b := b) h t => by
    have ih := pr_any (k := k) t
    simp only [List.any_cons, ih, h.1, Option.some.injEq]
theorem pr_map {k : κ} {v : V} {d : D} (r : RelD G ι H d v) : ∀ {kvs : List (D × D)} {ks : List (κ × V)}, PR G ι H kf kvs ks → PR G ι H kf (kvs.map fun p => if kf p.1 = some k then (p.1, d) else p) (ks.map fun q => if q.1 = k then (q.1, v) else q)
  | _, _, .nil => .nil
  | _, _, .cons (a := a) (b := b) h t => by
    refine .cons ?_ (pr_map r t)
    by_cases e : b.1 = k
    · have e' : kf a.1 = some k := by rw [h.1, e]
      simp only [if_pos e, if_pos e']
      exact ⟨h.1, r⟩
    · have e' : ¬ kf a.1 = some k := by rw [h.1]; exact fun z => e (Option.some.inj z)
      simp only [if_neg e, if_neg e']
      exact h
theorem put_rel {kd : D} {k : κ} {v : V} {d : D} (hk : kf kd = some k) (r : RelD G ι H d v) {kvs : List (D × D)} {ks : List (κ × V)} (h : PR G ι H kf kvs ks) : PR G ι H kf (put kf kvs kd k d) (putK ks k v) := by
  unfold put putK
  rw [pr_any h]
  split
  · exact pr_map r h
  · exact Paired.snoc h ⟨hk, r⟩
theorem pr_len {kvs : List (D × D)} {ks : List (κ × V)} (h : PR G ι H kf kvs ks) : kvs.length = ks.length := Paired.length h
end
theorem key_rel {G : Cg} {ι H y u k} (r : RelD G ι H y u) (h : keyD y = some k) : u = kV k := by
  cases y with
  | int i => simp only [keyD, Option.some.injEq] at h; subst h; exact relI r
  | str x => simp only [keyD, Option.some.injEq] at h; subst h; exact relS r
  | _ => cases h
theorem keys_rel {G : Cg} {ι H} : ∀ {ds : List D} {us : List V} {ks : List Key}, RelDs G ι H ds us → keyDs ds = some ks → us = ks.map kV
  | [], us, ks, r, h => by simp only [RelDs] at r; subst r; simp only [keyDs, Option.some.injEq] at h; subst h; rfl
  | d :: ds, us, ks, r, h => by
    simp only [RelDs] at r
    obtain ⟨x, t, rfl, r1, r2⟩ := r
    simp only [keyDs] at h
    split at h
    · rename_i k ks' h1 h2
      cases h
      rw [key_rel r1 h1, keys_rel r2 h2]
      rfl
    · cases h
theorem keyT_rel {G : Cg} {ι H y u k} (r : RelD G ι H y u) (h : keyT y = some k) : ∃ b, u = .ref b ∧ H b = some (.tup (k.map kV)) := by
  cases y with
  | tup ds =>
    simp only [RelD] at r
    obtain ⟨a, xs, rfl, t, rr⟩ := r
    have := keys_rel rr (show keyDs ds = some k from h)
    subst this
    exact ⟨a, rfl, t.2⟩
  | _ => cases h
/-- what stands in the dict n at y; none: no such dict, no such key -/
def dgetD (s : S) (x y : D) : Option (Option D) := match x with
  | .obj n => (match s[n]? with
    | some (.dct kvs) => (keyD y).map (look keyD kvs)
    | some (.dctL kvs) => (keyD y).map (look keyD kvs)
    | some (.dctT kvs) => (keyT y).map (look keyT kvs)
    | some (.dctTL kvs) => (keyT y).map (look keyT kvs)
    | _ => none)
  | _ => none
section
variable {G : Cg} {W : WX} {X : Cx} {ι : Z} {H : Hp}
theorem dget_ok {s : S} (q : Sim G ι H s) {x y : D} {w u : V} {o : Option D} (h : dgetD s x y = some o) (r1 : RelD G ι H x w) (r2 : RelD G ι H y u) : ∃ a r, w = .ref a ∧ DGet H a u r ∧ OptR G ι H o r := by
  unfold dgetD at h
  split at h
  · rename_i n
    simp only [RelD] at r1
    obtain ⟨a, rfl, ha⟩ := r1
    split at h
    · rename_i kvs hs
      obtain ⟨b, g1, _, ks, g3, g4⟩ := q.addr hs
      rw [ha] at g1; cases g1
      obtain ⟨k, hk, rfl⟩ := Option.map_eq_some_iff.1 h
      rw [key_rel r2 hk]
      exact ⟨a, _, rfl, .k g3, look_rel g4⟩
    · rename_i kvs hs
      obtain ⟨b, g1, _, f, ks, g3, g4⟩ := q.addr hs
      rw [ha] at g1; cases g1
      obtain ⟨k, hk, rfl⟩ := Option.map_eq_some_iff.1 h
      rw [key_rel r2 hk]
      exact ⟨a, _, rfl, .inl ⟨ks, k, .inr ⟨f, g3⟩, rfl, rfl⟩, look_rel g4⟩
    · rename_i kvs hs
      obtain ⟨b, g1, _, ks, g3, g4⟩ := q.addr hs
      rw [ha] at g1; cases g1
      obtain ⟨k, hk, rfl⟩ := Option.map_eq_some_iff.1 h
      obtain ⟨c, rfl, hc⟩ := keyT_rel r2 hk
      exact ⟨a, _, rfl, .t g3 hc, look_rel g4⟩
    · rename_i kvs hs
      obtain ⟨b, g1, _, f, ks, g3, g4⟩ := q.addr hs
      rw [ha] at g1; cases g1
      obtain ⟨k, hk, rfl⟩ := Option.map_eq_some_iff.1 h
      obtain ⟨c, rfl, hc⟩ := keyT_rel r2 hk
      exact ⟨a, _, rfl, .inr ⟨ks, k, c, .inr ⟨f, g3⟩, rfl, hc, rfl⟩, look_rel g4⟩
    · cases h
  · cases h
/-! d[k] -/
def opIxU : F2 := fun x y s => match dgetD s x y with
  | some (some d) => .ok d s
  | some none => .bad
  | none => opIx x y s
abbrev rIxU (K : PySem.W.Frag) : R2 := fun x y H Q => (∃ a v, x = .ref a ∧ DGet H a y (some v) ∧ Q v H) ∨ rIx K x y H Q
theorem ix_dict (hu : X.A.units + 64 < cLine) : IxR X (fun x y H Q => ∃ a v, x = .ref a ∧ DGet H a y (some v) ∧ Q v H) := by
  intro value slice pins s σ H x y v u Q I rx ry h hs
  obtain ⟨a, w, rfl, g, q⟩ := h
  cases rx
  exact tail_any (dict_typeIs I g) PySem.F.slot_dict_getitem.lookup (d_getItem (by omega) I g ry fun w' s3 I3 rw' => ⟨w, H, I3, rw', q⟩) hs
theorem v_ixU : OpV G W (rIxU G.K) opIxU := fun ι H s x y v u Q q r1 r2 h => by
  unfold opIxU at h
  split at h
  · rename_i d hd
    obtain ⟨a, r, rfl, g, o⟩ := dget_ok q hd r1 r2
    cases r with
    | none => exact o.elim
    | some w => exact .inl ⟨a, w, rfl, g, h.val q o⟩
  · exact h.elim
  · exact .inr (v_ix ι H s x y v u Q q r1 r2 h)
theorem ve_ixU {a b : Expr} {ma mb : ME} {pos : Pos} (hu : X.A.units + 64 < cLine) (ha : VE X W a ma) (hb : VE X W b mb) (hs : PlainIx b := by exact fun _ _ => rfl) : VE X W (.Subscript a b pos) (mBin opIxU ma mb) :=
  pe_imp (pe_ix ((ix_dict hu).or ix_seq) ha hb hs) (rd_bin v_ixU (fun _ _ _ h => h) fun _ _ _ h => h)
/-! k in d -/
def opInU (f : Bool → Bool) : F2 := fun x y s => match dgetD s y x with
  | some o => .ok (.bl (f o.isSome)) s
  | none => opInB f x y s
abbrev opInD : F2 := opInU fun b => b
abbrev opNotInD : F2 := opInU fun b => !b
def rDI (f : Bool → Bool) : R2 := fun y x H Q => ∃ a o, x = .ref a ∧ DGet H a y o ∧ Q (.bl (f o.isSome)) H
theorem op_din (hu : X.A.units + 65 < cLine) : OpR X (compareOp .In) (rDI fun b => b) := by
  intro pins s σ H y x u v Q I ry rx h
  obtain ⟨a, o, rfl, g, q⟩ := h
  cases rx
  exact d_in (by omega) I g ry fun s3 I3 => ⟨.bl o.isSome, H, I3, rfl, q⟩
theorem op_dnotin (hu : X.A.units + 65 < cLine) : OpR X (compareOp .NotIn) (rDI fun b => !b) := by
  intro pins s σ H y x u v Q I ry rx h
  obtain ⟨a, o, rfl, g, q⟩ := h
  cases rx
  exact d_notIn (by omega) I g ry fun s3 I3 => ⟨.bl (!o.isSome), H, I3, rfl, q⟩
theorem opt_some {o : Option D} {r : Option V} (h : OptR G ι H o r) : o.isSome = r.isSome := by
  cases o <;> cases r <;> first | rfl | exact h.elim
theorem op_inU (hu : X.A.units + 65 < cLine) : OpR X (compareOp .In) (fun x y H Q => rDI (fun b => b) x y H Q ∨ rInA X.K x y H Q) := (op_din hu).or (op_inA hu)
theorem op_notInU (hu : X.A.units + 65 < cLine) : OpR X (compareOp .NotIn) (fun x y H Q => rDI (fun b => !b) x y H Q ∨ rNotInA X.K x y H Q) := (op_dnotin hu).or (op_notInA hu)
theorem v_inU : OpV G W (fun x y H Q => rDI (fun b => b) x y H Q ∨ rInA G.K x y H Q) opInD := fun ι H s x y v u Q q r1 r2 h => by
  unfold opInD opInU at h
  split at h
  · rename_i o hd
    obtain ⟨a, r, rfl, g, oo⟩ := dget_ok q hd r2 r1
    exact .inl ⟨a, r, rfl, g, by rw [← opt_some oo]; exact h.val q (rb _)⟩
  · exact .inr (v_in ι H s x y v u Q q r1 r2 h)
theorem v_notInU : OpV G W (fun x y H Q => rDI (fun b => !b) x y H Q ∨ rNotInA G.K x y H Q) opNotInD := fun ι H s x y v u Q q r1 r2 h => by
  unfold opNotInD opInU at h
  split at h
  · rename_i o hd
    obtain ⟨a, r, rfl, g, oo⟩ := dget_ok q hd r2 r1
    exact .inl ⟨a, r, rfl, g, by rw [← opt_some oo]; exact h.val q (rb _)⟩
  · exact .inr (v_notIn ι H s x y v u Q q r1 r2 h)
/-! d[k] = v -/
def dputD (s : S) (x y v : D) : Option S := match x with
  | .obj n => (match s[n]? with
    | some (.dct kvs) => (keyD y).bind fun k => if kvs.length < LIM then some (s.set n (.dct (put keyD kvs y k v))) else none
    | some (.dctT kvs) => (keyT y).bind fun k => if kvs.length < LIM then some (s.set n (.dctT (put keyT kvs y k v))) else none
    | _ => none)
  | _ => none
theorem dput_ok {s s' : S} (q : Sim G ι H s) {x y d : D} {w u v : V} (h : dputD s x y d = some s') (r1 : RelD G ι H x w) (r2 : RelD G ι H y u) (r3 : RelD G ι H d v) :
    ∃ a H', w = .ref a ∧ DPut H a u v H' ∧ Ext ι H ι H' ∧ Sim G ι H' s' := by
  unfold dputD at h
  split at h
  · rename_i n
    simp only [RelD] at r1
    obtain ⟨a, rfl, ha⟩ := r1
    split at h
    · rename_i kvs hs
      obtain ⟨b, g1, g2, ks, g3, g4⟩ := q.addr hs
      rw [ha] at g1; cases g1
      obtain ⟨k, hk, h⟩ := Option.bind_eq_some_iff.1 h
      split at h
      · rename_i hl
        cases h
        rw [key_rel r2 hk]
        have hl2 : ks.length < sizeLine := by rw [← pr_len g4, sizeLine_eq]; have := hl; rw [show LIM = 1000000 from rfl] at this; omega
        refine ⟨a, _, rfl, .k g3 hl2, .write g2 (nfix g3 rfl), q.write ha (nfix g3 rfl) ⟨_, upd_same, ?_⟩⟩
        exact Paired.mapP (put_rel hk r3 g4) fun _ _ z => ⟨z.1, RelD.mono (.write g2 (nfix g3 rfl)) z.2⟩
      · cases h
    · rename_i kvs hs
      obtain ⟨b, g1, g2, ks, g3, g4⟩ := q.addr hs
      rw [ha] at g1; cases g1
      obtain ⟨k, hk, h⟩ := Option.bind_eq_some_iff.1 h
      split at h
      · rename_i hl
        cases h
        obtain ⟨c, rfl, hc⟩ := keyT_rel r2 hk
        have hl2 : ks.length < sizeLine := by rw [← pr_len g4, sizeLine_eq]; have := hl; rw [show LIM = 1000000 from rfl] at this; omega
        refine ⟨a, _, rfl, .t g3 hc hl2, .write g2 (nfix g3 rfl), q.write ha (nfix g3 rfl) ⟨_, upd_same, ?_⟩⟩
        exact Paired.mapP (put_rel hk r3 g4) fun _ _ z => ⟨z.1, RelD.mono (.write g2 (nfix g3 rfl)) z.2⟩
      · cases h
    · cases h
  · cases h
def rSetD : V → V → V → Hp → (Hp → Prop) → Prop := fun o i v H Q => ∃ a H', o = .ref a ∧ DPut H a i v H' ∧ Q H'
theorem set_dict (hu : X.A.units + 64 < cLine) : PSet X rSetD := by
  intro pins s σ H o i v ov iv u Q I ro ri rv h
  obtain ⟨a, H', rfl, g, q⟩ := h
  cases ro
  exact d_setItem (by omega) I g ri rv fun s' I' => ⟨H', I', q⟩
theorem set_or {t t' : TSet} (h : PSet X t) (h' : PSet X t') : PSet X (fun o i v H Q => t o i v H Q ∨ t' o i v H Q) := by
  intro pins s σ H o i v ov iv u Q I ro ri rv z
  exact z.elim (h pins s σ H o i v ov iv u Q I ro ri rv) (h' pins s σ H o i v ov iv u Q I ro ri rv)
def setIxU (o i v : D) (s : S) : Option S := match dputD s o i v with
  | some s' => some s'
  | none => setIx o i v s
def gIxU (mo mi : ME) : MG := fun d ρ s => (mo ρ s).bnd fun o s1 => (mi ρ s1).bnd fun i s2 => match setIxU o i d s2 with
  | some s3 => .ok ρ s3
  | none => .bad
theorem vg_ixU {o i : Expr} {mo mi : ME} {pos : Pos} (hu : X.A.units + 64 < cLine) (ho : VE X W o mo) (hi : VE X W i mi) (ha : ∀ v, assign (.Subscript o i pos) X.env v = (do
      let ov ← holding [v] (eval o X.env)
      let iv ← holding [v, ov] (eval i X.env)
      standAt pos
      holding [v, ov, iv] (setItem ov iv v)
      release [v, ov, iv] []) := by intro _; rfl) : VG X W (.Subscript o i pos) (gIxU mo mi) :=
  pg_imp (pg_sub ho hi (set_or (set_dict hu) set_list) ha) fun v σ H Q ⟨ι, s, ρ, d, q, e, r, h⟩ => by
    refine rdE_on q e h fun x w ι1 H1 s1 e1 q1 r1 h1 => rdE_on q1 (e.mono e1) h1 fun y u ι2 H2 s2 e2 q2 r2 h2 => ?_
    split at h2
    · rename_i s3 hs
      unfold setIxU at hs
      split at hs
      · rename_i s4 hd
        cases hs
        obtain ⟨a, H', rfl, g, ex, q3⟩ := dput_ok q2 hd (r1.mono e2) r2 ((r.mono e1).mono e2)
        exact .inl ⟨a, H', rfl, g, h2 ι2 _ ex q3 σ (((e.mono e1).mono e2).mono ex)⟩
      · refine .inr ?_
        unfold setIx at hs
        split at hs
        · rename_i n k hnone
          split at hs
          · rename_i ds hd
            split at hs
            · rename_i j hj
              cases hs
              obtain ⟨a, g1, g2, xs, g3, g4⟩ := q2.addr hd
              have r1' := r1.mono e2
              simp only [RelD] at r1'
              obtain ⟨b, rfl, eb⟩ := r1'
              rw [g1] at eb; cases eb
              refine ⟨a, xs, k, j, rfl, relI r2, g3, by rw [g4.len]; exact hj, ?_⟩
              refine h2 ι2 _ (.write g2 (nfix g3 rfl)) (q2.write g1 (nfix g3 rfl) ⟨_, upd_same, ?_⟩) σ (((e.mono e1).mono e2).mono (.write g2 (nfix g3 rfl)))
              exact RelDs.set ((((r.mono e1).mono e2)).mono (.write g2 (nfix g3 rfl))) j (g4.mono (.write g2 (nfix g3 rfl)))
            · cases hs
          · cases hs
        · cases hs
    · exact h2.elim
/-! {} -/
def mNewK : ME := fun _ s => .ok (.obj s.length) (s ++ [.dct []])
def mNewT : ME := fun _ s => .ok (.obj s.length) (s ++ [.dctT []])
theorem ve_newK {pos : Pos} : VE X W (.Dict [] [] pos) mNewK := pe_imp pe_dnewK fun σ H Q ⟨ι, s, ρ, q, e, h⟩ p n => by
  refine h (ι.push p) _ (.newObj n) (q.newObj n ⟨[], upd_same, .nil⟩) (.ref p) ?_
  simp only [RelD]
  exact ⟨p, rfl, by rw [← q.len]; simp [Z.push]⟩
theorem ve_newT {pos : Pos} : VE X W (.Dict [] [] pos) mNewT := pe_imp pe_dnewT fun σ H Q ⟨ι, s, ρ, q, e, h⟩ p n => by
  refine h (ι.push p) _ (.newObj n) (q.newObj n ⟨[], upd_same, .nil⟩) (.ref p) ?_
  simp only [RelD]
  exact ⟨p, rfl, by rw [← q.len]; simp [Z.push]⟩
end
end VL
namespace VL
open PySem PySem.Spec PyProof.Rows L2

/-! ### {k: v} -/
def mDisp1 (mk mv : ME) : ME := fun ρ s => (noX (mk ρ s)).bnd fun k s1 => (noX (mv ρ s1)).bnd fun v s2 => if (keyD k).isSome = true then .ok (.obj s2.length) (s2 ++ [.dct [(k, v)]]) else .bad
section
variable {X : Cx} {W : WX} {pos : Pos}
theorem disp_end {G : Cg} {ι1 : Z} {H1 : Hp} {p : Addr} {ι' : Z} {H' : Hp} {s' : S} {o : O} {ho : HO} {Q : VK} (hf : fixO ho = false) (I : LcI G ι1 H1 p ι' H' s') (hn : H1 p = none) (np : p ∉ ι1.res) (ro : RelO G ⟨ι'.ad ++ [p], ι1.res⟩ (upd H' p ho) p o)
    (h : Post G W ι1 H1 (QE G Q) (.ok (.obj s'.length) (s' ++ [o]))) : Q (.ref p) (upd H' p ho) := by
  have J := I.write (o := ho) hn hf
  refine h ⟨ι'.ad ++ [p], ι1.res⟩ _ ⟨?_, rfl, J.x.keep, J.x.dom, J.x.fix⟩ (J.q.adopt J.r np ro) _ ?_
  · obtain ⟨μ, e1, e2⟩ := J.x.more
    refine ⟨μ ++ [p], by show ι'.ad ++ [p] = _; rw [show ι'.ad = ι1.ad ++ μ from e1, List.append_assoc], fun a ha => ?_⟩
    rcases List.mem_append.mp ha with z | z
    · exact e2 a z
    · rw [List.mem_singleton.mp z]; exact hn
  · simp only [RelD]
    refine ⟨p, rfl, ?_⟩
    show (ι'.ad ++ [p])[s'.length]? = _
    rw [← J.q.len]; simp
theorem ve_disp1 {k v : Expr} {mk mv : ME} (hk : VE X W0 k mk) (hv : VE X W0 v mv) : VE X W (.Dict [some k] [v] pos) (mDisp1 mk mv) :=
  pe_imp (pe_disp (pps_cons hk hv pps_nil) rfl rfl (by simp) (by simp)) fun σ H Q ⟨ι, s, ρ, q, e, h⟩ p hn => by
    unfold mDisp1 at h
    obtain ⟨kd, s1, ek, h⟩ := noX_bnd h
    obtain ⟨vd, s2, ev, h⟩ := noX_bnd h
    have npr : p ∉ ι.res := (q.off hn).2
    have I0 : LcI (cg X) ι H p (ι.keep p) (upd H p (.dK [])) s := .start q hn
    have e0 : EnvR (cg X) (ι.keep p) (upd H p (.dK [])) σ ρ := e.monoW (Ext.toKeep q hn)
    have hp0 : (upd H p (.dK [])) p = some (.dK []) := upd_same
    refine ⟨ι.keep p, s, ρ, I0.q, e0, ?_⟩
    rw [ek]
    intro ι1 H1 x1 q1 w1 r1
    have I1 := I0.step x1 q1
    have np1 : p ∉ (ι.keep p).ad := (I0.q.rs p (by rw [I0.r]; exact List.mem_cons_self ..)).2
    have hp1 : H1 p = some (.dK []) := x1.keep p _ np1 hp0
    refine ⟨ι1, s1, ρ, q1, e0.mono x1, ?_⟩
    rw [ev]
    intro ι2 H2 x2 q2 w2 r2
    have I2 := I1.step x2 q2
    have np2 : p ∉ ι1.ad := (I1.q.rs p (by rw [I1.r]; exact List.mem_cons_self ..)).2
    have hp2 : H2 p = some (.dK []) := x2.keep p _ np2 hp1
    split at h
    · rename_i hs
      obtain ⟨ky, hky⟩ := Option.isSome_iff_exists.1 hs
      refine ⟨hp2, [(ky, w2)], ?_, by simp, ?_⟩
      · rw [key_rel r1 hky]; rfl
      · refine disp_end rfl I2 hn npr ?_ h
        refine ⟨_, upd_same, .cons ⟨hky, ?_⟩ .nil⟩
        have J := I2.write (o := .dK (mergeK [] [(ky, w2)])) hn
        have hm : p ∈ ι2.res := by rw [I2.r]; exact List.mem_cons_self ..
        exact RelD.monoW (ExtW.adopt J.r) _ (RelD.monoW (ExtW.inKeep hm (I2.q.rsn hm)) _ r2)
    · exact h.elim
/-! ### x += n -/
def mAugAdd (i : Nat) (m : ME) : MS := fun ρ s => match ρ[i]? with
  | some (some (.int a)) => (m ρ s).bnd fun d s1 => (match d with
    | .int b => .ok (.nx (ρ.set i (some (.int (a + b))))) s1
    | _ => .bad)
  | _ => .bad
theorem vs_augAdd (i : Nat) {x : Str} {e : Expr} {m : ME} {pos' : Pos} (hN : X.N.Nodup) (he : VE X W e m) (hi : X.N[i]? = some x := by rfl) (hx : Loc X.env.scope x := by exact .inl rfl) (hf : X.fn x = true ∨ X.env.scope.names.lookup x = some .local := by first | exact .inl rfl | exact .inr rfl | assumption) :
    VS X W (.AugAssign (.Name x pos') .Add e pos) (mAugAdd i m) :=
  ps_imp (ps_aug hN hi hx he ip_add hf) fun Dn σ H h => by
    obtain ⟨ι, s, ρ, q, e, h⟩ := h
    unfold mAugAdd at h
    split at h
    · rename_i a ha
      obtain ⟨v, hv, rv⟩ := e.2 i _ ha
      refine ⟨v, hv, rdE_on q e h fun d w ι1 H1 s1 e1 q1 r1 h1 => ?_⟩
      split at h1
      · rename_i b
        refine ⟨a, b, relI rv, relI r1, ?_⟩
        exact h1.here q1 _ ((e.mono e1).set (by simp only [RelD]))
      · exact h1.elim
    · exact h.elim
/-! ### sorted(d), len(d) -/
def keyI : List (D × D) → Option (List Int)
  | [] => some []
  | (.int i, _) :: r => (keyI r).map (i :: ·)
  | _ => none
def fSortedU : FA := fun xs s => match xs with
  | [.obj n] => (match s[n]? with
    | some (.dct kvs) => (match keyI kvs with
      | some ks => if ks.length < 64 then .ok (.lst ((isort ks).map .int)) s else .bad
      | none => .bad)
    | _ => fSorted [.obj n] s)
  | xs => fSorted xs s
theorem keyI_rel {G : Cg} {ι : Z} {H : Hp} : ∀ {kvs : List (D × D)} {ks : List (Key × V)} {is : List Int}, PR G ι H keyD kvs ks → keyI kvs = some is → ks.map (·.1) = is.map Sum.inl
  | _, _, _, .nil, h => by simp only [keyI, Option.some.injEq] at h; subst h; rfl
  | _, _, _, .cons (a := a) (b := b) h t, hk => by
    obtain ⟨x, y⟩ := a
    cases x with
    | int i =>
      simp only [keyI, Option.map_eq_some_iff] at hk
      obtain ⟨is, h1, rfl⟩ := hk
      have e := h.1
      simp only [keyD, Option.some.injEq] at e
      simp only [List.map_cons, keyI_rel t h1, ← e]
    | _ => simp [keyI] at hk
abbrev rSortedD : List V → Hp → VK → Prop := fun xs H Q => ∃ (a : Addr) (kvs : List (Key × V)) (ks : List Int), xs = [.ref a] ∧ Rd H a (.dK kvs) ∧ kvs.map (·.1) = ks.map Sum.inl ∧ ks.length < 64 ∧
    ∀ (ys : List Int) (p : Addr), ys.Perm ks → ys.Pairwise (· ≤ ·) → H p = none → Q (.ref p) (upd H p (.lst (ys.map V.int)))
theorem cr_or {f : Value} {r r' : List V → Hp → VK → Prop} (h : CallR X f r) (h' : CallR X f r') : CallR X f (fun xs H Q => r xs H Q ∨ r' xs H Q) := by
  intro pins s σ H xs us Q I rv z
  exact z.elim (h pins s σ H xs us Q I rv) (h' pins s σ H xs us Q I rv)
theorem cr_sortedU (hc : X.calm = true) : CallR X (.builtin "sorted") (fun xs H Q => rSortedD xs H Q ∨ rSortedI X.K xs H Q) := cr_or (call_sortedDI hc) cr_sortedI
theorem v_sortedU {G : Cg} : CallV G W (fun xs H Q => rSortedD xs H Q ∨ rSortedI G.K xs H Q) fSortedU := fun ι H s xs vs Q q r h => by
  unfold fSortedU at h
  split at h
  · rename_i n
    split at h
    · rename_i kvs hs
      split at h
      · rename_i is hi
        split at h
        · rename_i h64
          obtain ⟨v, rfl, r1⟩ := rel1 r
          simp only [RelD] at r1
          obtain ⟨a, rfl, ha⟩ := r1
          obtain ⟨b, g1, _, ks, g3, g4⟩ := q.addr hs
          rw [ha] at g1; cases g1
          exact .inl ⟨a, ks, is, rfl, .inl g3, keyI_rel g4 hi, h64, fun ms p pm pw hp => by rw [isort_of pm pw]; exact h.newL q RelDs.ofInts hp⟩
        · exact h.elim
      · exact h.elim
    · exact .inr (v_sorted ι H s _ vs Q q r h)
  · exact .inr (v_sorted ι H s _ vs Q q r h)
end
end VL
namespace VL
open PySem PySem.Spec PyProof.Rows L2

/-! ### list comprehensions of any number of clauses: what follows a clause's tests is handed on -/
def testsOf (ifs : List Expr) (env : Env) : Sem Bool :=
  forIn ifs true fun q r => if r = true then do
    let b ← isTrue q env (eval q env)
    pure (ForInStep.yield b)
  else pure (ForInStep.yield r)
def turnOf (t i : Expr) (ifs : List Expr) (rest : Sem PySem.Fin → Sem PySem.Fin) (c : Code) (it : Value) (env : Env) : Sem PySem.Fin :=
  standAt i.pos >>= fun _ => pyNext it >>= fun r => match r with
    | none => pure (.done .next)
    | some v => letOwnedTupleGo t it v >>= fun _ => assign t env v >>= fun _ => testsOf ifs env >>= fun ok => if ok = true then rest (again c) else again c
def restApp (elt : Expr) (acc : Value) (env : Env) : Sem PySem.Fin → Sem PySem.Fin := fun k =>
  (eval elt env >>= fun x => call (.builtin "list.append") [acc, x] >>= fun _ => pure PUnit.unit) >>= fun _ => k
def restIn (i1 : Expr) (e : Expr) (n : Nat) (acc : Value) (env : Env) : Sem PySem.Fin → Sem PySem.Fin := fun k =>
  eval i1 env >>= fun x => standAt i1.pos >>= fun _ => foldedSetIterable i1 env x >>= fun y => holding [y] (pyIter y) >>= fun z => runOwn (.compStart e n z acc env) env >>= fun _ => k
section
variable {prog : Program} {w : World} {A : Around} {s : Shared} {elt t0 i0 t1 i1 t2 i2 : Expr} {ifs0 ifs1 ifs2 : List Expr} {scope : Scope} {pos : Pos} {it acc : Value} {env : Env}
theorem turn3_0 : compTurn (.ListComp elt [⟨t0, i0, ifs0, 0⟩, ⟨t1, i1, ifs1, 0⟩, ⟨t2, i2, ifs2, 0⟩] scope pos) 0 it acc env =
    turnOf t0 i0 ifs0 (restIn i1 (.ListComp elt [⟨t0, i0, ifs0, 0⟩, ⟨t1, i1, ifs1, 0⟩, ⟨t2, i2, ifs2, 0⟩] scope pos) 1 acc env) (.compLoop (.ListComp elt [⟨t0, i0, ifs0, 0⟩, ⟨t1, i1, ifs1, 0⟩, ⟨t2, i2, ifs2, 0⟩] scope pos) 0 it acc env) it env := by rfl
theorem turn3_1 : compTurn (.ListComp elt [⟨t0, i0, ifs0, 0⟩, ⟨t1, i1, ifs1, 0⟩, ⟨t2, i2, ifs2, 0⟩] scope pos) 1 it acc env =
    turnOf t1 i1 ifs1 (restIn i2 (.ListComp elt [⟨t0, i0, ifs0, 0⟩, ⟨t1, i1, ifs1, 0⟩, ⟨t2, i2, ifs2, 0⟩] scope pos) 2 acc env) (.compLoop (.ListComp elt [⟨t0, i0, ifs0, 0⟩, ⟨t1, i1, ifs1, 0⟩, ⟨t2, i2, ifs2, 0⟩] scope pos) 1 it acc env) it env := by rfl
theorem turn3_2 : compTurn (.ListComp elt [⟨t0, i0, ifs0, 0⟩, ⟨t1, i1, ifs1, 0⟩, ⟨t2, i2, ifs2, 0⟩] scope pos) 2 it acc env =
    turnOf t2 i2 ifs2 (restApp elt acc env) (.compLoop (.ListComp elt [⟨t0, i0, ifs0, 0⟩, ⟨t1, i1, ifs1, 0⟩, ⟨t2, i2, ifs2, 0⟩] scope pos) 2 it acc env) it env := by rfl
theorem turn2_0 : compTurn (.ListComp elt [⟨t0, i0, ifs0, 0⟩, ⟨t1, i1, ifs1, 0⟩] scope pos) 0 it acc env =
    turnOf t0 i0 ifs0 (restIn i1 (.ListComp elt [⟨t0, i0, ifs0, 0⟩, ⟨t1, i1, ifs1, 0⟩] scope pos) 1 acc env) (.compLoop (.ListComp elt [⟨t0, i0, ifs0, 0⟩, ⟨t1, i1, ifs1, 0⟩] scope pos) 0 it acc env) it env := by rfl
theorem turn2_1 : compTurn (.ListComp elt [⟨t0, i0, ifs0, 0⟩, ⟨t1, i1, ifs1, 0⟩] scope pos) 1 it acc env =
    turnOf t1 i1 ifs1 (restApp elt acc env) (.compLoop (.ListComp elt [⟨t0, i0, ifs0, 0⟩, ⟨t1, i1, ifs1, 0⟩] scope pos) 1 it acc env) it env := by rfl
/-- nothing is raised -/
abbrev Fls : Value → Shared → Prop := fun _ _ => False
theorem loopN {gens : List Comprehension} {n : Nat} {t i : Expr} {ifs : List Expr} {rest : Sem PySem.Fin → Sem PySem.Fin} {R : Result → Shared → Prop}
    (hT : compTurn (.ListComp elt gens scope pos) n it acc env = turnOf t i ifs rest (.compLoop (.ListComp elt gens scope pos) n it acc env) it env) (I : Nat → Shared → Prop)
    (turn : ∀ m s, I m s → wpAny (model prog w) A (pyNext it) (fun r s1 => match r with
      | none => R (.ok .next) s1
      | some v => wpAny (model prog w) A (letOwnedTupleGo t it v) (fun _ s2 => wpAny (model prog w) A (assign t env v) (fun _ s3 => wpAny (model prog w) A (testsOf ifs env) (fun ok s4 =>
          wpAny (model prog w) A (if ok = true then rest (again (.compLoop (.ListComp elt gens scope pos) n it acc env)) else again (.compLoop (.ListComp elt gens scope pos) n it acc env)) (fun fin s' => match fin with
            | .done f => R (.ok f) s'
            | .again c' => c' = (.compLoop (.ListComp elt gens scope pos) n it acc env) ∧ ∃ j, j < m ∧ I j s') Fls s4) Fls s3) Fls s2) Fls s1) Fls s)
    (m : Nat) (h : I m s) : codeAny (model prog w) A (.compLoop (.ListComp elt gens scope pos) n it acc env) R s := by
  refine codeAny_loop rfl I (fun m s hI => ?_) m h
  show wpAny _ A ((compTurn (.ListComp elt gens scope pos) n it acc env).onRaise (fun x => do
    noteFrame x env
    theTreesLotGoes x)) _ _ s
  refine wpAny_noted ?_
  rw [hT]
  refine wpAny_bind (wpAny_standAt (wpAny_bind (thnF (turn m s hI) fun r s1 h1 => ?_)))
  cases r with
  | none => exact wpAny_pure h1
  | some v => exact wpAny_bind (thnF h1 fun _ s2 h2 => wpAny_bind (thnF h2 fun _ s3 h3 => wpAny_bind (thnF h3 fun ok s4 h4 => thnF h4 fun _ _ z => z)))
theorem startN {gens : List Comprehension} {n : Nat} {t i : Expr} {ifs : List Expr} {R : Result → Shared → Prop} (hk : gens[n]? = some ⟨t, i, ifs, 0⟩)
    (h0 : codeAny (model prog w) A (.compLoop (.ListComp elt gens scope pos) n it acc env) R s)
    (h : wpAny (model prog w) A (pyIter it) (fun z s' => codeAny (model prog w) A (.compLoop (.ListComp elt gens scope pos) n z acc env) R s') Fls s) :
    codeAny (model prog w) A (.compStart (.ListComp elt gens scope pos) n it acc env) R s := by
  refine codeAny_of_tree ?_
  show wpAny _ _ ((compStart (.ListComp elt gens scope pos) n it acc env).onRaise (fun x => do
    noteFrame x env
    standAt theWindowsPlace)) _ _ s
  refine wpAny_notedAt ?_
  unfold compStart
  rw [show (clausesOf (.ListComp elt gens scope pos))[n]? = some ⟨t, i, ifs, 0⟩ from hk]
  show wpAny _ _ (ask >>= _) _ _ s
  refine wpAny_bind (wpAny_askSetting (wpAny_ite ?_))
  split
  · first
      | exact wpAny_bind (wpAny_pure (wpAny_pure (And.intro rfl h0)))
      | exact wpAny_pure (And.intro rfl h0)
  · refine wpAny_bind (wpAny_rule ?_)
    show wpAny _ _ (standAt i.pos >>= _) _ _ s
    exact wpAny_bind (wpAny_standAt (wpAny_bind (thnF h fun z s' q => wpAny_pure (And.intro rfl q))))
end

/-- what follows the tests: from tb it comes to Nx, the slots vs forgotten -/
def BO (X : Cx) (vs : List Nat) (rest : Sem PySem.Fin → Sem PySem.Fin) (tb : L2.St → Hp → (Hp → Prop) → Prop) : Prop :=
  ∀ (pins : List (Addr × Obj)) (s : Shared) (σ : L2.St) (H : Hp) (Nx : Hp → Prop) (k : Sem PySem.Fin) (Q : PySem.Fin → Shared → Prop), Inv X pins σ H s → tb σ H Nx →
    (∀ s' H', Inv X pins (L2.wipe σ vs) H' s' → Nx H' → wpAny (model X.prog X.w) X.A k Q Fls s') → wpAny (model X.prog X.w) X.A (rest k) Q Fls s
section
variable {X : Cx}
def tApp (D : Addr) (te : TE) : L2.St → Hp → (Hp → Prop) → Prop := fun σ H Nx => te σ H fun y H1 => ∃ acc, H1 D = some (.lst acc) ∧ acc.length < sizeLine ∧ Nx (upd H1 D (.lst (acc ++ [y])))
theorem bo_app {elt : Expr} {te : TE} {D : Addr} (hx : X.xe = Fls) (he : PE X elt te) : BO X [] (restApp elt (.ref D) X.env) (tApp D te) := by
  intro pins s σ H Nx k Q I h hk
  refine wpAny_bind (wpAny_bind ?_)
  have h1 := he.run pins s σ H _ I h
  rw [hx] at h1
  refine thnF h1 fun z s1 ⟨yv, H1, I1, r1, acc, hD, hz, nx⟩ => wpAny_bind ?_
  exact app_ok I1 hD hz r1 fun s2 I2 => wpAny_pure (hk s2 _ I2 nx)
def tIn (wi : TI) (g : TG) (tt : TT) (tb : L2.St → Hp → (Hp → Prop) → Prop) (vs : List Nat) : L2.St → Hp → (Hp → Prop) → Prop := fun σ H Nx => wi σ H fun J H1 => ∃ W : Nat → Nat → Hp → Prop, (∃ m, W 0 m H1) ∧ ∀ j m H, W j m H →
  (J.stop j H ∧ Nx H) ∨ (J.go j H ∧ ∃ Ny : Hp → Prop, (∀ H', Ny H' → ∃ m', m' < m ∧ W (j + 1) m' H') ∧ ∀ x H', J.yld j H x H' → g x (L2.wipe σ vs) H' fun σ2 H2 => L2.wipe σ2 vs = L2.wipe σ vs ∧ tt σ2 H2 fun b H3 => if b = true then tb σ2 H3 Ny else Ny H3)
theorem bo_in {elt t i : Expr} {ifs : List Expr} {gens : List Comprehension} {scope : Scope} {pos : Pos} {n : Nat} {D : Addr} {wi : TI} {g : TG} {tt : TT} {tb : L2.St → Hp → (Hp → Prop) → Prop} {rest : Sem PySem.Fin → Sem PySem.Fin} {vs vsb : List Nat}
    (hx : X.xe = Fls) (hc : X.calm = true) (pi : PI X t i wi) (pg : PG X t g) (pt : PTs X ifs tt) (hb : BO X vsb rest tb) (hs : ∀ x, foldedSetIterable i X.env x = pure x) (hk : gens[n]? = some ⟨t, i, ifs, 0⟩)
    (hT : ∀ it, compTurn (.ListComp elt gens scope pos) n it (.ref D) X.env = turnOf t i ifs rest (.compLoop (.ListComp elt gens scope pos) n it (.ref D) X.env) it X.env) (hv : ∀ i ∈ vsb, i ∈ vs) :
    BO X vs (restIn i (.ListComp elt gens scope pos) n (.ref D) X.env) (tIn wi g tt tb vs) := by
  intro pins s σ H Nx k Q I h hkk
  refine wpAny_bind ?_
  have h1 := pi.run pins s σ H _ I h
  rw [hx] at h1
  refine thnF h1 fun xv s1 hx1 => ?_
  refine wpAny_bind (wpAny_standAt (wpAny_bind (wpAny_of_eq (hs xv) (wpAny_bind (wpAny_holding (thnF hx1 fun itv s2 h2 => ?_))))))
  obtain ⟨it, fp, tn, J, H2, e2, I2, T, st2, f2, W, ⟨m0, w0⟩, turn⟩ := h2
  subst e2
  refine wpAny_bind (wpAny_runOwn ?_)
  rw [Around.mark_none]
  have stat : ∀ {H' : Hp}, (∀ b ∈ fp, H' b = none) → ∀ b ∈ fp, FpOk X pins H' b := fun hn b hb => ⟨hn b hb, (f2 b hb).2⟩
  have loop : codeAny (model X.prog X.w) X.A (.compLoop (.ListComp elt gens scope pos) n (.ref it) (.ref D) X.env) (fun r s' => match r with
      | .ok _ => wpAny (model X.prog X.w) X.A k Q Fls s'
      | .error _ => False) s2 := by
    refine loopN (hT _) (fun m s' => ∃ j H', Inv X pins (L2.wipe σ vs) H' s' ∧ tn j s'.heap ∧ (∀ b ∈ fp, H' b = none) ∧ W j m H') ?_ m0 ⟨0, H2, I2.weak (wipe_length _ _) (fun j v e => (wipe_some e).1), st2, fun b hb => (f2 b hb).1, w0⟩
    rintro m s3 ⟨j, H3, I3, st3, n3, w3⟩
    rcases turn j m H3 w3 with ⟨stop, nx⟩ | ⟨go, Ny, hNy, step⟩
    · refine thnF (T.done X rfl rfl rfl hc j _ s3 _ H3 Fls I3 (stat n3) st3 stop) fun r s4 ⟨hr, I4⟩ => ?_
      subst hr
      exact hkk s4 H3 I4 nx
    · refine thnF (T.item X rfl rfl rfl hc j _ s3 _ H3 Fls I3 (stat n3) st3 go) fun r s4 ⟨u, hr, h4⟩ => ?_
      subst hr
      refine thnF h4 fun _ s5 ⟨x, H5, I5, r5, y5, st5, n5⟩ => ?_
      have I5' := I5.pinned (stat n5) (T.obj _ _ st5)
      have h6 := pg.run _ s5 _ H5 x u _ I5' r5 (step x H5 y5)
      rw [hx] at h6
      refine thnF h6 fun _ s6 ⟨σ6, H6, I6, hw, q6⟩ => ?_
      have h7 := pt.run _ s6 σ6 H6 _ I6 q6
      rw [hx] at h7
      refine thnF h7 fun b s7 ⟨H7, I7, q7⟩ => ?_
      have fin : ∀ {σ' : L2.St} {s' : Shared} {H' : Hp}, Inv X (pins ++ pinsAt fp s5.heap) σ' H' s' → (L2.wipe σ vs).length = σ'.length → (∀ (a : Nat) v, (L2.wipe σ vs)[a]? = some (some v) → σ'[a]? = some (some v)) → Ny H' →
          ∃ m', m' < m ∧ ∃ j H', Inv X pins (L2.wipe σ vs) H' s' ∧ tn j s'.heap ∧ (∀ b ∈ fp, H' b = none) ∧ W j m' H' := fun {σ' s' H'} I' hl hkn nx => by
        obtain ⟨m', hm, w'⟩ := hNy H' nx
        have pin' : ∀ b ∈ fp, ∀ o, s5.heap.get? b = some o → s'.heap.get? b = some o ∧ H' b = none := fun b hb o e => by
          have z := I'.pin (b, o) (List.mem_append_right _ (List.mem_append_right _ (mem_pinsAt hb e)))
          exact ⟨z.1, z.2.1⟩
        refine ⟨m', hm, j + 1, H', I'.unpinned.weak hl hkn, T.keep _ _ _ st5 fun b hb o e => (pin' b hb o e).1, fun b hb => ?_, w'⟩
        obtain ⟨o, e, _⟩ := T.obj _ _ st5 b hb
        exact (pin' b hb o e).2
      have hl6 : (L2.wipe σ vs).length = σ6.length := by rw [← hw, wipe_length]
      cases b with
      | false =>
        rw [if_neg Bool.false_ne_true] at q7 ⊢
        exact wpAny_pure ⟨rfl, fin I7 hl6 (fun a v e => by rw [← hw] at e; exact (wipe_some e).1) q7⟩
      | true =>
        rw [if_pos rfl] at q7 ⊢
        refine hb _ s7 σ6 H7 Ny _ _ I7 q7 fun s8 H8 I8 nx => wpAny_pure ⟨rfl, fin I8 (hl6.trans (wipe_length σ6 vsb).symm) (fun a v e => ?_) nx⟩
        rw [← hw] at e
        obtain ⟨e1, e2⟩ := wipe_some e
        rw [wipe_out fun z => e2 (hv a z)]
        exact e1
  refine codeAny_mono (startN hk loop (T.self X.A 0 _ _ _ st2 loop)) fun r s' hr => ?_
  cases r with
  | ok f => exact thnF hr fun _ _ z => z
  | error e => exact hr.elim
/-- the whole -/
def tLcN (wi : TI) (g : TG) (tt : TT) (tb : Addr → L2.St → Hp → (Hp → Prop) → Prop) (vs : List Nat) : TE := fun σ H Q => wi σ H fun J H1 => ∀ D, H1 D = none → ∃ W : Nat → Nat → Hp → Prop, (∃ m, W 0 m (upd H1 D (.lst []))) ∧ ∀ j m H, W j m H →
  (J.stop j H ∧ Q (.ref D) H) ∨ (J.go j H ∧ ∃ Ny : Hp → Prop, (∀ H', Ny H' → ∃ m', m' < m ∧ W (j + 1) m' H') ∧ ∀ x H', J.yld j H x H' → g x (L2.wipe σ vs) H' fun σ2 H2 => L2.wipe σ2 vs = L2.wipe σ vs ∧ tt σ2 H2 fun b H3 => if b = true then tb D σ2 H3 Ny else Ny H3)
theorem lcN_core {pins : List (Addr × Obj)} {s : Shared} {σ : L2.St} {H : Hp} {Q : VK} {elt t i : Expr} {ifs : List Expr} {gs : List Comprehension} {scope : Scope} {own : List (Str × Nat)} {pos pos' : Pos} {wi : TI} {g : TG} {tt : TT} {tb : Addr → L2.St → Hp → (Hp → Prop) → Prop} {rest : Value → Env → Sem PySem.Fin → Sem PySem.Fin} {vsb : List Nat} {use : Option (Value → Sem Unit)} {Qf : Value → Shared → Prop}
    (hc : X.calm = true) (hN : X.N.Nodup) (I : Inv X pins σ H s) (hi : PI X t i wi) (ok : BlkOk X.N X.env.scope scope own)
    (hg : ∀ (s : Shared) (H : Hp) (C : Addr) (cl : List (Str × Addr)) (fp : List Addr), PG (X.blk s H scope (compEnvC scope cl C X.env) fp) t g)
    (ht : ∀ (s : Shared) (H : Hp) (C : Addr) (cl : List (Str × Addr)) (fp : List Addr), PTs (X.blk s H scope (compEnvC scope cl C X.env) fp) ifs tt)
    (hb : ∀ (s : Shared) (H : Hp) (C : Addr) (cl : List (Str × Addr)) (fp : List Addr) (D : Addr), BO (X.blk s H scope (compEnvC scope cl C X.env) fp) vsb (rest (.ref D) (compEnvC scope cl C X.env)) (tb D))
    (hv : ∀ i ∈ vsb, i ∈ own.map (·.2)) (hs : ∀ x, foldedSetIterable i X.env x = pure x)
    (hT : ∀ it acc env, compTurn (.ListComp elt (⟨t, i, ifs, 0⟩ :: gs) scope pos) 0 it acc env = turnOf t i ifs (rest acc env) (.compLoop (.ListComp elt (⟨t, i, ifs, 0⟩ :: gs) scope pos) 0 it acc env) it env)
    (h : tLcN wi g tt tb (own.map (·.2)) σ H Q)
    (hR : ∀ D C s' m H', Inv X pins σ H' s' → Q (.ref D) H' → s'.heap.Ns C m → FpOk X pins H' C → compPost (model X.prog X.w) X.A X.xe use Qf (.ref D) C (.ok .next) s') :
    wpAny (model X.prog X.w) X.A (comprehension (.ListComp elt (⟨t, i, ifs, 0⟩ :: gs) scope pos) scope X.env pos' (newList []) false (eval i X.env) use) Qf X.xe s := by
  have hfr : ∀ y ∈ scope.names, y.2 = .free → ∃ c, X.env.cells.lookup y.1 = some c := fun y hy e => by
    rcases ok.free y hy e with z | z
    · exact I.ok.has _ (.inl z)
    · exact I.ok.has _ (.inr z)
  refine wpAny_comprehension_free (use := use) rfl hs (closure_ok hfr) ok.kind (fun y hy e => by rw [ok.uniq y hy, e]) (thn (hi.run pins s σ H _ I h) fun xv s1 hx => thn hx fun itv s2 h2 => ?_)
  obtain ⟨it, fp, tn, J, H2, e2, I2, T, st2, f2, q⟩ := h2
  subst e2
  refine wpAny_newObj_type (newEnv_comp ?_) (by show 0 ≤ sizeLine; decide)
  generalize hD : s2.heap.objs.size = D
  obtain ⟨W, ⟨m0, w0⟩, turn⟩ := q D (I2.hok.fresh (Nat.le_of_eq hD))
  generalize hs3 : ({ s2 with heap := s2.heap.push { cls := .type "list", data := .seq ([] : List Value).toArray } } : Shared) = s3
  have I3 : Inv X pins σ (upd H2 D (.lst [])) s3 := by
    subst hs3
    refine I2.laid (t' := s2.toks) (fun b o e => Heap.get?_push_of_some _ e) (Nat.le_of_eq hD) ⟨Nat.zero_le _, [], 0, .nil, ?_⟩
    subst hD
    exact Heap.get?_push_size _ rfl
  have h3 : s3.heap = s2.heap.push { cls := .type "list", data := .seq ([] : List Value).toArray } := by subst hs3; rfl
  have f3 : ∀ b ∈ fp, FpOk X pins (upd H2 D (.lst [])) b ∧ b < s3.heap.objs.size := fun b hb => by
    obtain ⟨o, e, _⟩ := T.obj _ _ st2 b hb
    have hlt := Heap.lt_size e
    refine ⟨⟨?_, (f2 b hb).2⟩, by rw [h3, Heap.size_push]; exact Nat.lt_succ_of_lt hlt⟩
    rw [upd_ne (Nat.ne_of_lt (by subst hD; exact hlt))]
    exact (f2 b hb).1
  have st3 : tn 0 s3.heap := T.keep _ _ _ st2 fun b _ o e => by
    rw [h3]
    exact Heap.get?_push_of_some _ e
  have I4 := block_start I3 ok hN f3
  have pg := hg s3 (upd H2 D (.lst [])) s3.heap.objs.size (cellsFrom (s3.heap.objs.size + 1) scope.names (cloFrom X.env.cells scope.names [])) fp
  have pt := ht s3 (upd H2 D (.lst [])) s3.heap.objs.size (cellsFrom (s3.heap.objs.size + 1) scope.names (cloFrom X.env.cells scope.names [])) fp
  have pb := hb s3 (upd H2 D (.lst [])) s3.heap.objs.size (cellsFrom (s3.heap.objs.size + 1) scope.names (cloFrom X.env.cells scope.names [])) fp D
  have hN4 : ∀ b ∈ fp, (upd H2 D (.lst [])) b = none := fun b hb => (f3 b hb).1.1
  show codeAny _ _ (.compStart (.ListComp elt (⟨t, i, ifs, 0⟩ :: gs) scope pos) 0 (.ref it) (.ref D) (compEnvC scope (cellsFrom (s3.heap.objs.size + 1) scope.names (cloFrom X.env.cells scope.names [])) s3.heap.objs.size X.env)) (compPost (model X.prog X.w) X.A X.xe use Qf (.ref D) s3.heap.objs.size)
    { s3 with heap := pushCells (s3.heap.push { cls := .type "dict", data := .dict #[] }) scope.names }
  generalize hce : compEnvC scope (cellsFrom (s3.heap.objs.size + 1) scope.names (cloFrom X.env.cells scope.names [])) s3.heap.objs.size X.env = ce at I4 pg pt pb ⊢
  have cL : ce.locals = s3.heap.objs.size := by subst hce; rfl
  generalize hH3 : upd H2 D (.lst []) = H3 at I3 I4 pg pt pb w0 hN4 f3
  generalize hs4 : ({ s3 with heap := pushCells (s3.heap.push { cls := .type "dict", data := .dict #[] }) scope.names } : Shared) = s4 at I4 ⊢
  have st4 : tn 0 s4.heap := T.keep _ _ _ st3 fun b _ o e => by
    subst hs4
    exact pushCells_keeps _ _ _ _ (Heap.get?_push_of_some _ e)
  have stat : ∀ {σ' : L2.St} {H' : Hp} {s' : Shared}, Inv (X.blk s3 H3 scope ce fp) [] σ' H' s' → (∀ b ∈ fp, H' b = none) → ∀ b ∈ fp, FpOk (X.blk s3 H3 scope ce fp) [] H' b := fun {σ' H' s'} I' hn b hb =>
    ⟨hn b hb, (I'.ok.exf b hb).1, I'.ok.exfs b hb, .inl hb, fun x c e => (I'.ok.exf b hb).2 x c e, fun p hp => by
      have hp' : p ∈ ([] : List (Addr × Obj)) ++ [] := hp
      simp at hp'⟩
  have loop : codeAny (model X.prog X.w) X.A (.compLoop (.ListComp elt (⟨t, i, ifs, 0⟩ :: gs) scope pos) 0 (.ref it) (.ref D) ce) (compPost (model X.prog X.w) X.A X.xe use Qf (.ref D) s3.heap.objs.size) s4 := by
    refine loopN (hT _ _ _) (fun m s' => ∃ j H', Inv (X.blk s3 H3 scope ce fp) [] (L2.wipe σ (own.map (·.2))) H' s' ∧ tn j s'.heap ∧ (∀ b ∈ fp, H' b = none) ∧ W j m H') ?_ m0 ⟨0, H3, I4, st4, hN4, w0⟩
    rintro m s5 ⟨j, H5, I5, st5, n5, w5⟩
    rcases turn j m H5 w5 with ⟨stop, qq⟩ | ⟨go, Ny, hNy, step⟩
    · refine thnF (T.done (X.blk s3 H3 scope ce fp) rfl rfl rfl hc j [] s5 _ H5 Fls I5 (stat I5 n5) st5 stop) fun r s6 ⟨hr, I6⟩ => ?_
      subst hr
      have I7 : Inv X pins σ H5 s6 := I3.call' (ch := fp) I6.os I6.base I6.hok I6.bare fun b hb => by
        have z := (f3 b hb).1.2
        exact ⟨z.2.2.1, z.1, z.2.2.2.1, z.2.2.2.2⟩
      have nC : H5 s3.heap.objs.size = none := by
        rw [← cL]
        exact I6.free
      obtain ⟨mm, hn, _⟩ := I6.loc
      have hn' : s6.heap.Ns ce.locals mm := hn
      rw [cL] at hn'
      exact hR D s3.heap.objs.size s6 mm H5 I7 qq hn' (I3.fpOk (Nat.le_refl _) nC)
    · refine thnF (T.item (X.blk s3 H3 scope ce fp) rfl rfl rfl hc j [] s5 _ H5 Fls I5 (stat I5 n5) st5 go) fun r s6 ⟨u, hr, h6⟩ => ?_
      subst hr
      refine thnF h6 fun _ s7 ⟨x, H7, I7, r7, y7, st7, n7⟩ => ?_
      have I7' := I7.pinned (stat I7 n7) (T.obj _ _ st7)
      refine thnF (pg.run _ s7 _ H7 x u _ I7' r7 (step x H7 y7)) fun _ s8 ⟨σ8, H8, I8, hw, q8⟩ => thnF (pt.run _ s8 σ8 H8 _ I8 q8) fun b s9 ⟨H9, I9, q9⟩ => ?_
      have fin : ∀ {σ' : L2.St} {s' : Shared} {H' : Hp}, Inv (X.blk s3 H3 scope ce fp) ([] ++ pinsAt fp s7.heap) σ' H' s' → (L2.wipe σ (own.map (·.2))).length = σ'.length → (∀ (a : Nat) v, (L2.wipe σ (own.map (·.2)))[a]? = some (some v) → σ'[a]? = some (some v)) → Ny H' →
          ∃ m', m' < m ∧ ∃ j H', Inv (X.blk s3 H3 scope ce fp) [] (L2.wipe σ (own.map (·.2))) H' s' ∧ tn j s'.heap ∧ (∀ b ∈ fp, H' b = none) ∧ W j m' H' := fun {σ' s' H'} I' hl hkn nx => by
        obtain ⟨m', hm, w'⟩ := hNy H' nx
        have pin' : ∀ b ∈ fp, ∀ o, s7.heap.get? b = some o → s'.heap.get? b = some o ∧ H' b = none := fun b hb o e => by
          have z := I'.pin (b, o) (List.mem_append_right _ (List.mem_append_right _ (mem_pinsAt hb e)))
          exact ⟨z.1, z.2.1⟩
        refine ⟨m', hm, j + 1, H', (I'.unpinned (pins := [])).weak hl hkn, T.keep _ _ _ st7 fun b hb o e => (pin' b hb o e).1, fun b hb => ?_, w'⟩
        obtain ⟨o, e, _⟩ := T.obj _ _ st7 b hb
        exact (pin' b hb o e).2
      have hl8 : (L2.wipe σ (own.map (·.2))).length = σ8.length := by rw [← hw, wipe_length]
      cases b with
      | false =>
        rw [if_neg Bool.false_ne_true] at q9 ⊢
        exact wpAny_pure ⟨rfl, fin I9 hl8 (fun a v e => by rw [← hw] at e; exact (wipe_some e).1) q9⟩
      | true =>
        rw [if_pos rfl] at q9 ⊢
        refine pb _ s9 σ8 H9 Ny _ _ I9 q9 fun s10 H10 I10 nx => wpAny_pure ⟨rfl, fin I10 (hl8.trans (wipe_length σ8 vsb).symm) (fun a v e => ?_) nx⟩
        rw [← hw] at e
        obtain ⟨e1, e2⟩ := wipe_some e
        rw [wipe_out fun z => e2 (hv a z)]
        exact e1
  exact startN rfl loop (T.self X.A 0 _ _ _ st4 loop)
end
end VL
namespace VL
open PySem PySem.Spec PyProof.Rows L2

abbrev MB := Ev → List D → S → R (List D)
def bApp (el : ME) : MB := fun ρ acc s => (noX (el ρ s)).bnd fun y s1 => if acc.length < LIM then .ok (acc ++ [y]) s1 else .bad
def bGo (src : Src) (t : Tg) (tt : MT) (b : MB) (ρw : Ev) : Nat → Nat → List D → S → R (List D)
  | 0, i, acc, s => (match srcAt s src with
    | some xs => if xs.length = i then .ok acc s else .bad
    | none => .bad)
  | n + 1, i, acc, s => (match srcAt s src with
    | some xs => (match xs[i]? with
      | some d => (match tgM t d ρw with
        | some ρ1 => (noX (tt ρ1 s)).bnd fun k s1 => if k = true then (noX (b ρ1 acc s1)).bnd fun acc' s2 => bGo src t tt b ρw n (i + 1) acc' s2 else bGo src t tt b ρw n (i + 1) acc s1
        | none => .bad)
      | none => .bad)
    | none => .bad)
def bIn (it : MI) (t : Tg) (tt : MT) (b : MB) (vs : List Nat) : MB := fun ρ acc s => (noX (it ρ s)).bnd fun src s1 => match srcAt s1 src with
  | some xs => if (∀ i ∈ t.slots, i ∈ vs) then bGo src t tt b (wipeD ρ vs) xs.length 0 acc s1 else .bad
  | none => .bad
def mLcN (fin : List D → S → R D) (it : MI) (t : Tg) (tt : MT) (b : MB) (vs : List Nat) : ME := fun ρ s => ((it ρ s).bnd fun src s1 => match srcAt s1 src with
  | some xs => if (∀ i ∈ t.slots, i ∈ vs) then bGo src t tt b (wipeD ρ vs) xs.length 0 [] s1 else .bad
  | none => .bad).bnd fin
/-- a body's reading: from here it reaches Nx, the list at p made longer -/
def rdMB (G : Cg) (b : MB) (p : Addr) : L2.St → Hp → (Hp → Prop) → Prop := fun σ H Nx => ∃ ι1 H1 ι s ρ acc av, LcI G ι1 H1 p ι H s ∧ EnvR G ι H σ ρ ∧ RelDs G ι H acc av ∧ H p = some (.lst av) ∧ H1 p = none ∧
  ∃ acc' s', b ρ acc s = .ok acc' s' ∧ ∀ ι' H' av', LcI G ι1 H1 p ι' H' s' → ExtW ι H ι' H' → RelDs G ι' H' acc' av' → H' p = some (.lst av') → Nx H'
theorem noX_ok_iff {α β : Type} {r : R α} {f : α → S → R β} {c : β} {s' : S} (h : (noX r).bnd f = .ok c s') : ∃ a s1, r = .ok a s1 ∧ f a s1 = .ok c s' := by
  cases r with
  | ok a s1 => exact ⟨a, s1, rfl, h⟩
  | exn c fs ρ s => cases h
  | bad => cases h
theorem rd_bApp {G : Cg} {el : ME} {p : Addr} {σ : L2.St} {H : Hp} {Nx : Hp → Prop} (h : rdMB G (bApp el) p σ H Nx) : tApp p (rdE G W0 el) σ H Nx := by
  obtain ⟨ι1, H1, ι, s, ρ, acc, av, I, e, ra, hp, hn, acc', s', hb, k⟩ := h
  unfold bApp at hb
  obtain ⟨y, s1, he, hb⟩ := noX_ok_iff hb
  split at hb
  · rename_i hl
    cases hb
    refine ⟨ι, s, ρ, I.q, e, ?_⟩
    rw [he]
    intro ι2 H2 x2 q2 v rv
    have I2 := I.step x2 q2
    have np : p ∉ ι.ad := (I.q.rs p (by rw [I.r]; exact List.mem_cons_self ..)).2
    have hp2 : H2 p = some (.lst av) := x2.keep p _ np hp
    have ra2 := ra.mono x2
    have hm2 : p ∈ ι2.res := by rw [I2.r]; exact List.mem_cons_self ..
    refine ⟨av, hp2, by rw [ra2.len]; exact lt_LIM hl, ?_⟩
    exact k ι2 _ _ (I2.write hn) (x2.w.trans (.inKeep hm2 (I2.q.rsn hm2))) (RelDs.monoW (.inKeep hm2 (I2.q.rsn hm2)) _ (ra2.app (.one rv))) upd_same
  · cases hb
/-- a walk over a clause's source -/
theorem rd_bGo {G : Cg} {src : Src} {t : Tg} {tt : MT} {b : MB} {vs : List Nat} {p : Addr} {J : It} {ι0 : Z} {H0 : Hp} {σw : L2.St} {ρw : Ev} {ι1 : Z} {H1 : Hp} {tb : L2.St → Hp → (Hp → Prop) → Prop} (hJ : ItOk G ι0 H0 src J) (hs : ∀ i ∈ t.slots, i ∈ vs) (hn : H1 p = none) (hw : L2.wipe σw vs = σw)
    (kb : ∀ σ H Nx, rdMB G b p σ H Nx → tb σ H Nx) {Fin : Hp → Prop} {m j : Nat} {H : Hp} {ι : Z} {s : S} {acc : List D} {av : List V}
    (x0 : ExtW ι0 H0 ι H) (I : LcI G ι1 H1 p ι H s) (e : EnvR G ι H σw ρw) (ra : RelDs G ι H acc av) (hp : H p = some (.lst av)) {acc' : List D} {s' : S} (hgo : bGo src t tt b ρw m j acc s = .ok acc' s')
    (k : ∀ ι' H' av', LcI G ι1 H1 p ι' H' s' → ExtW ι H ι' H' → RelDs G ι' H' acc' av' → H' p = some (.lst av') → Fin H') :
    (J.stop j H ∧ Fin H) ∨ (J.go j H ∧ ∃ Ny : Hp → Prop, (∀ H', Ny H' → ∃ m', m' < m ∧ ∃ ι2 s2 acc2 av2, ExtW ι H ι2 H' ∧ LcI G ι1 H1 p ι2 H' s2 ∧ EnvR G ι2 H' σw ρw ∧ RelDs G ι2 H' acc2 av2 ∧ H' p = some (.lst av2) ∧ bGo src t tt b ρw m' (j + 1) acc2 s2 = .ok acc' s') ∧
      ∀ x H', J.yld j H x H' → tgL G.K t x (L2.wipe σw vs) H' fun σ2 H2 => L2.wipe σ2 vs = L2.wipe σw vs ∧ rdT G W0 tt σ2 H2 fun b H3 => if b = true then tb σ2 H3 Ny else Ny H3) := by
  cases m with
  | zero =>
    simp only [bGo] at hgo
    split at hgo
    · rename_i ys hy
      split at hgo
      · rename_i hl
        cases hgo
        exact .inl ⟨(hJ ι H s ys x0 I.q hy j).2 (Nat.le_of_eq hl), k ι H av I ⟨fun _ _ h => h, fun _ h _ => h, fun _ _ _ h => h, fun _ _ _ h => h⟩ ra hp⟩
      · cases hgo
    · cases hgo
  | succ m =>
    simp only [bGo] at hgo
    split at hgo
    · rename_i ys hy
      split at hgo
      · rename_i d hd
        split at hgo
        · rename_i ρ1 hρ
          obtain ⟨c, s1, hc, hgo⟩ := noX_ok_iff hgo
          obtain ⟨go, yl⟩ := (hJ ι H s ys x0 I.q hy j).1 d hd
          refine .inr ⟨go, fun H' => ∃ ι2 s2 acc2 av2, ExtW ι H ι2 H' ∧ LcI G ι1 H1 p ι2 H' s2 ∧ EnvR G ι2 H' σw ρw ∧ RelDs G ι2 H' acc2 av2 ∧ H' p = some (.lst av2) ∧ bGo src t tt b ρw m (j + 1) acc2 s2 = .ok acc' s', fun H' n' => ⟨m, Nat.lt_succ_self m, n'⟩, fun x H2 hy2 => ?_⟩
          obtain ⟨y1, y2, y3⟩ := yl x H2 hy2
          have I2 : LcI G ι1 H1 p ι H2 s := I.step y1 (I.q.ext y1 y2)
          have np : p ∉ ι.ad := (I.q.rs p (by rw [I.r]; exact List.mem_cons_self ..)).2
          have hp2 : H2 p = some (.lst av) := y1.keep p _ np hp
          rw [hw]
          refine tgL_ok (vs := vs) (e.mono y1) y3 hρ hs fun σ3 e3 w3 => ⟨by rw [w3, hw], ι, s, ρ1, I2.q, e3, ?_⟩
          rw [hc]
          intro ι3 H3 x3 q3
          have I3 := I2.step x3 q3
          have hp3 : H3 p = some (.lst av) := x3.keep p _ np hp2
          have w13 : ExtW ι H ι3 H3 := (y1.trans x3).w
          cases c with
          | false =>
            rw [if_neg Bool.false_ne_true] at hgo
            refine L2.iteF ?_
            exact ⟨ι3, s1, acc, av, w13, I3, (e.mono y1).mono x3, (ra.mono y1).mono x3, hp3, hgo⟩
          | true =>
            rw [if_pos rfl] at hgo
            refine L2.iteT ?_
            obtain ⟨acc2, s2, hb2, hgo⟩ := noX_ok_iff hgo
            refine kb _ _ _ ⟨ι1, H1, ι3, s1, ρ1, acc, av, I3, e3.mono x3, (ra.mono y1).mono x3, hp3, hn, acc2, s2, hb2, fun ι4 H4 av4 I4 x4 r4 h4 => ?_⟩
            exact ⟨ι4, s2, acc2, av4, w13.trans x4, I4, ((e.mono y1).mono x3).monoW x4, r4, h4, hgo⟩
        · cases hgo
      · cases hgo
    · cases hgo
theorem ExtW.refl (ι : Z) (H : Hp) : ExtW ι H ι H := ⟨fun _ _ h => h, fun _ h _ => h, fun _ _ _ h => h, fun _ _ _ h => h⟩
theorem rd_bIn {G : Cg} {it : MI} {t : Tg} {tt : MT} {b : MB} {vs : List Nat} {p : Addr} {σ : L2.St} {H : Hp} {Nx : Hp → Prop} {tb : L2.St → Hp → (Hp → Prop) → Prop} (kb : ∀ σ H Nx, rdMB G b p σ H Nx → tb σ H Nx) (h : rdMB G (bIn it t tt b vs) p σ H Nx) :
    tIn (rdI G W0 it) (tgL G.K t) (rdT G W0 tt) tb vs σ H Nx := by
  obtain ⟨ι1, H1, ι, s, ρ, acc, av, I, e, ra, hp, hn, acc', s', hb, k⟩ := h
  unfold bIn at hb
  obtain ⟨src, s1, hi, hb⟩ := noX_ok_iff hb
  refine ⟨ι, s, ρ, I.q, e, ?_⟩
  rw [hi]
  intro ι2 H2 x2 q2 J hJ
  split at hb
  · rename_i xs hx
    split at hb
    · rename_i hs
      have np : p ∉ ι.ad := (I.q.rs p (by rw [I.r]; exact List.mem_cons_self ..)).2
      refine ⟨fun j m H' => ∃ ι3 s3 acc3 av3, ExtW ι2 H2 ι3 H' ∧ LcI G ι1 H1 p ι3 H' s3 ∧ EnvR G ι3 H' (L2.wipe σ vs) (wipeD ρ vs) ∧ RelDs G ι3 H' acc3 av3 ∧ H' p = some (.lst av3) ∧ bGo src t tt b (wipeD ρ vs) m j acc3 s3 = .ok acc' s',
        ⟨xs.length, ι2, s1, acc, av, .refl _ _, I.step x2 q2, (e.mono x2).wipe vs, ra.mono x2, x2.keep p _ np hp, hb⟩, fun j m H3 hW => ?_⟩
      obtain ⟨ι3, s3, acc3, av3, w3, I3, e3, r3, h3, hgo⟩ := hW
      rcases rd_bGo (σw := L2.wipe σ vs) (vs := vs) (tb := tb) hJ hs hn wipe_wipe kb w3 I3 e3 r3 h3 hgo (Fin := Nx) (fun ι' H' av' I' w' r' hp' => k ι' H' av' I' (x2.w.trans (w3.trans w')) r' hp') with z | ⟨go, Ny, hNy, step⟩
      · exact .inl z
      · refine .inr ⟨go, Ny, fun H' n' => ?_, fun x H' hy => ?_⟩
        · obtain ⟨m', hm, ι4, s4, acc4, av4, w4, rest⟩ := hNy H' n'
          exact ⟨m', hm, ι4, s4, acc4, av4, w3.trans w4, rest⟩
        · have z := step x H' hy
          rw [wipe_wipe] at z
          exact z
    · cases hb
  · cases hb
section
variable {X : Cx} {W : WX}
theorem bo_imp {vs : List Nat} {rest : Sem PySem.Fin → Sem PySem.Fin} {tb tb' : L2.St → Hp → (Hp → Prop) → Prop} (h : BO X vs rest tb) (k : ∀ σ H Nx, tb' σ H Nx → tb σ H Nx) : BO X vs rest tb' := fun pins s σ H Nx kk Q I q hk => h pins s σ H Nx kk Q I (k σ H Nx q) hk
abbrev VB (X : Cx) (vs : List Nat) (rest : Value → Env → Sem PySem.Fin → Sem PySem.Fin) (b : MB) : Prop := ∀ D : Addr, BO X vs (rest (.ref D) X.env) (rdMB (cg X) b D)
theorem vb_app {elt : Expr} {el : ME} (hx : X.xe = Fls) (he : VE X W0 elt el) : VB X [] (restApp elt) (bApp el) := fun D => bo_imp (bo_app hx he) fun σ H Nx h => rd_bApp h
theorem vb_in {elt t i : Expr} {ifs : List Expr} {gens : List Comprehension} {scope : Scope} {pos : Pos} {n : Nat} {it : MI} {tg : Tg} {tt : MT} {b : MB} {rest : Value → Env → Sem PySem.Fin → Sem PySem.Fin} {vs vsb : List Nat} (hx : X.xe = Fls) (hc : X.calm = true)
    (pi : VI X W0 t i it) (pg : PG X t (tgL X.K tg)) (pt : PTs X ifs (rdT (cg X) W0 tt)) (hb : VB X vsb rest b) (hs : ∀ x, foldedSetIterable i X.env x = pure x) (hk : gens[n]? = some ⟨t, i, ifs, 0⟩)
    (hT : ∀ it acc env, compTurn (.ListComp elt gens scope pos) n it acc env = turnOf t i ifs (rest acc env) (.compLoop (.ListComp elt gens scope pos) n it acc env) it env) (hv : ∀ i ∈ vsb, i ∈ vs) :
    VB X vs (restIn i (.ListComp elt gens scope pos) n) (bIn it tg tt b vs) := fun D =>
  bo_imp (bo_in hx hc pi pg pt (hb D) hs hk (fun it => hT it _ _) hv) fun σ H Nx h => rd_bIn (fun _ _ _ z => z) h
theorem rd_lcN {G : Cg} {fin : List D → S → R D} (hf : FinOk G W fin) {it : MI} {t : Tg} {tt : MT} {b : MB} {vs : List Nat} {tI : TI} (kI : ∀ σ H Rr, rdI G W it σ H Rr → tI σ H Rr) {σ : L2.St} {H : Hp} {Q : VK} (h : rdE G W (mLcN fin it t tt b vs) σ H Q) :
    tLcN tI (tgL G.K t) (rdT G W0 tt) (fun D => rdMB G b D) vs σ H Q := by
  obtain ⟨ι, s, ρ, q, e, h⟩ := h
  unfold mLcN at h
  rw [bnd_assoc] at h
  refine kI _ _ _ ⟨ι, s, ρ, q, e, h.bnd.imp fun src ι1 H1 s1 ⟨e1, q1, h1⟩ J hJ p hp => ?_⟩
  split at h1
  · rename_i xs hx
    split at h1
    · rename_i hs
      have ew : EnvR G (ι1.keep p) (upd H1 p (.lst [])) (L2.wipe σ vs) (wipeD ρ vs) := ((e.mono e1).wipe vs).monoW (Ext.toKeep q1 hp)
      have npr : p ∉ ι1.res := (q1.off hp).2
      cases hgo : bGo src t tt b (wipeD ρ vs) xs.length 0 [] s1 with
      | bad => rw [hgo] at h1; exact h1.elim
      | exn c fs ρ' s' =>
        exfalso
        have : ∀ (m j : Nat) (acc : List D) (s0 : S), bGo src t tt b (wipeD ρ vs) m j acc s0 ≠ .exn c fs ρ' s' := by
          intro m
          induction m with
          | zero =>
            intro j acc s0 z
            simp only [bGo] at z
            split at z
            · split at z <;> cases z
            · cases z
          | succ m ih =>
            intro j acc s0 z
            simp only [bGo] at z
            split at z
            · split at z
              · split at z
                · rename_i ρ1 _
                  cases ht : tt ρ1 s0 with
                  | ok k s2 =>
                    rw [ht] at z
                    simp only [noX, R.bnd_ok] at z
                    split at z
                    · cases hb : b ρ1 acc s2 with
                      | ok a s3 => rw [hb] at z; simp only [R.bnd_ok] at z; exact ih _ _ _ z
                      | exn _ _ _ _ => rw [hb] at z; cases z
                      | bad => rw [hb] at z; cases z
                    · exact ih _ _ _ z
                  | exn _ _ _ _ => rw [ht] at z; cases z
                  | bad => rw [ht] at z; cases z
                · cases z
              · cases z
            · cases z
        exact this _ _ _ _ hgo
      | ok acc' s' =>
        rw [hgo] at h1
        refine ⟨fun j m H' => ∃ ι3 s3 acc3 av3, ExtW (ι1.keep p) (upd H1 p (.lst [])) ι3 H' ∧ LcI G ι1 H1 p ι3 H' s3 ∧ EnvR G ι3 H' (L2.wipe σ vs) (wipeD ρ vs) ∧ RelDs G ι3 H' acc3 av3 ∧ H' p = some (.lst av3) ∧ bGo src t tt b (wipeD ρ vs) m j acc3 s3 = .ok acc' s',
          ⟨xs.length, ι1.keep p, s1, [], [], .refl _ _, .start q1 hp, ew, .nil, upd_same, hgo⟩, fun j m H3 hW => ?_⟩
        obtain ⟨ι3, s3, acc3, av3, w3, I3, e3, r3, h3, hg⟩ := hW
        rcases rd_bGo (σw := L2.wipe σ vs) (vs := vs) (tb := rdMB G b p) (hJ.mono (Ext.toKeep q1 hp)) hs hp wipe_wipe (fun _ _ _ z => z) w3 I3 e3 r3 h3 hg (Fin := Q (.ref p)) (fun ι' H' av' I' w' r' hp' => hf ι1 H1 p ι' H' s' acc' av' Q I' r' hp' npr h1) with z | ⟨go, Ny, hNy, step⟩
        · exact .inl z
        · refine .inr ⟨go, Ny, fun H' n' => ?_, fun x H' hy => ?_⟩
          · obtain ⟨m', hm, ι4, s4, acc4, av4, w4, rest⟩ := hNy H' n'
            exact ⟨m', hm, ι4, s4, acc4, av4, w3.trans w4, rest⟩
          · have z := step x H' hy
            rw [wipe_wipe] at z
            exact z
    · exact h1.elim
  · exact h1.elim
/-- the block's rule, for any clauses -/
theorem ve_lcN {fin : List D → S → R D} (hf : FinOk (cg X) W fin) {elt t i : Expr} {ifs : List Expr} {gs : List Comprehension} {scope : Scope} {own : List (Str × Nat)} {pos : Pos} {it : MI} {tg : Tg} {tt : MT} {b : MB} {rest : Value → Env → Sem PySem.Fin → Sem PySem.Fin} {vsb : List Nat} (hN : X.N.Nodup) (hi : VI X W t i it)
    (ok : BlkOk X.N X.env.scope scope own) (hg : ∀ (s : Shared) (H : Hp) (C : Addr) (cl : List (Str × Addr)) (fp : List Addr), PG (X.blk s H scope (compEnvC scope cl C X.env) fp) t (tgL X.K tg))
    (ht : ∀ (s : Shared) (H : Hp) (C : Addr) (cl : List (Str × Addr)) (fp : List Addr), PTs (X.blk s H scope (compEnvC scope cl C X.env) fp) ifs (rdT (cg X) W0 tt))
    (hb : ∀ (s : Shared) (H : Hp) (C : Addr) (cl : List (Str × Addr)) (fp : List Addr), VB (X.blk s H scope (compEnvC scope cl C X.env) fp) vsb rest b) (hv : ∀ i ∈ vsb, i ∈ own.map (·.2))
    (hT : ∀ it acc env, compTurn (.ListComp elt (⟨t, i, ifs, 0⟩ :: gs) scope pos) 0 it acc env = turnOf t i ifs (rest acc env) (.compLoop (.ListComp elt (⟨t, i, ifs, 0⟩ :: gs) scope pos) 0 it acc env) it env) (hc : X.calm = true := by rfl) (hs : ∀ x, foldedSetIterable i X.env x = pure x := by intro _; rfl) :
    VE X W (.ListComp elt (⟨t, i, ifs, 0⟩ :: gs) scope pos) (mLcN fin it tg tt b (own.map (·.2))) := by
  refine ⟨fun pins s σ H Q I h => ?_⟩
  rw [eval_ListComp]
  refine lcN_core (tb := fun D => rdMB (cg X) b D) hc hN I hi ok hg ht (fun s H C cl fp D => hb s H C cl fp D) hv hs hT (rd_lcN hf (fun _ _ _ z => z) h) fun D C s' m H' I' q hn f => ⟨m, hn, fun h'' sb => ?_⟩
  obtain ⟨f0, f1, f2, f3, f4, f5⟩ := f
  exact ⟨.ref D, H', I'.turned (t' := s'.toks) (fun b o hb e => (sb.2 b hb).trans e) f0 f1 f3 f4 f5, rfl, q⟩
end
end VL
namespace VL
open PySem PySem.Spec PyProof.Rows L2
section
variable {X : Cx} {W : WX}
/-- name = [.. for .. for ..] on one line -/
theorem vs_setLcN {fin : List D → S → R D} (hf : FinOk (cg X) W fin) {j : Nat} {y : Str} {py : Pos} {elt t i : Expr} {ifs : List Expr} {gs : List Comprehension} {scope : Scope} {own : List (Str × Nat)} {pos spos : Pos} {it : MI} {tg : Tg} {tt : MT} {b : MB} {rest : Value → Env → Sem PySem.Fin → Sem PySem.Fin} {vsb : List Nat} (hN : X.N.Nodup) (hi : VI X W t i it)
    (ok : BlkOk X.N X.env.scope scope own) (hg : ∀ (s : Shared) (H : Hp) (C : Addr) (cl : List (Str × Addr)) (fp : List Addr), PG (X.blk s H scope (compEnvC scope cl C X.env) fp) t (tgL X.K tg))
    (ht : ∀ (s : Shared) (H : Hp) (C : Addr) (cl : List (Str × Addr)) (fp : List Addr), PTs (X.blk s H scope (compEnvC scope cl C X.env) fp) ifs (rdT (cg X) W0 tt))
    (hb : ∀ (s : Shared) (H : Hp) (C : Addr) (cl : List (Str × Addr)) (fp : List Addr), VB (X.blk s H scope (compEnvC scope cl C X.env) fp) vsb rest b) (hv : ∀ i ∈ vsb, i ∈ own.map (·.2))
    (hT : ∀ it acc env, compTurn (.ListComp elt (⟨t, i, ifs, 0⟩ :: gs) scope pos) 0 it acc env = turnOf t i ifs (rest acc env) (.compLoop (.ListComp elt (⟨t, i, ifs, 0⟩ :: gs) scope pos) 0 it acc env) it env)
    (hsw : swapsWith (.ListComp elt (⟨t, i, ifs, 0⟩ :: gs) scope pos) (some (.Name y py)) spos.line X.env = pure true)
    (hy : X.N[j]? = some y := by rfl) (hyl : X.env.scope.names.lookup y = some .local := by rfl) (hc : X.calm = true := by rfl) (hs : ∀ x, foldedSetIterable i X.env x = pure x := by intro _; rfl) :
    VS X W (.Assign [.Name y py] (.ListComp elt (⟨t, i, ifs, 0⟩ :: gs) scope pos) spos) (mAsg (mLcN fin it tg tt b (own.map (·.2))) (gN j)) := by
  refine ⟨fun pins s σ H Dn I h => ?_⟩
  rw [exec_Assign_Name_used _ _ _ _ hsw]
  refine wpAny_bind (wpAny_standAt (wpAny_bind ?_))
  show wpAny _ X.A (do
    let _ ← comprehension (.ListComp elt (⟨t, i, ifs, 0⟩ :: gs) scope pos) scope X.env (firstIterPos (⟨t, i, ifs, 0⟩ :: gs) pos) (newList []) false (eval i X.env) (some (assign (.Name y py) X.env))) _ _ s
  have h1 : rdE (cg X) W (mLcN fin it tg tt b (own.map (·.2))) σ H fun x H1 => gName j x σ H1 Dn.nx := by
    obtain ⟨ι, s0, ρ, q, e, h⟩ := h
    refine rdE_on q e h fun d v ι1 H1 s1 e1 q1 r1 h1 => ?_
    exact h1.here q1 _ ((e.mono e1).set r1)
  refine wpAny_bind (thn (lcN_core (Qf := fun _ s' => SP X pins Dn .next s') (tb := fun D => rdMB (cg X) b D) hc hN I hi ok hg ht (fun s H C cl fp D => hb s H C cl fp D) hv hs hT (rd_lcN hf (fun _ _ _ z => z) h1) fun L C s' m H' I' q hn f => ?_) fun _ s' hq => wpAny_pure (wpAny_pure hq))
  show wpAny _ _ (assign (.Name y py) X.env (.ref L)) _ _ _
  refine wpAny_assign_Name (store_ok2 (v := V.ref L) I' hN hy (.inl hyl) rfl (fun s2 I2 ⟨a, sb, ha⟩ => ?_) (.inr hyl))
  obtain ⟨f0, f1, f2, f3, f4, f5⟩ := f
  have ne : C ≠ a := by
    rcases ha with z | z
    · subst z; exact f1
    · exact fun e => f4 y a z e.symm
  refine ⟨m, hn.sameBut sb ne, fun h3 sb3 => ⟨_, H', I2.turned (t' := s2.toks) (fun b o hb e => (sb3.2 b hb).trans e) f0 f1 f3 f4 f5, q⟩⟩
/-! xs.extend(ys) -/
def fExtend (x : D) (y : D) (s : S) : R D := match x, asX s y with
  | .obj n, some zs => (match s[n]? with
    | some (.lst ds) => if ds.length + zs.length ≤ LIM then .ok .non (s.set n (.lst (ds ++ zs))) else .bad
    | _ => .bad)
  | _, _ => .bad
def mExtend (mo me : ME) : ME := fun ρ s => (mo ρ s).bnd fun x s1 => if isLstO s1 x = true then (me ρ s1).bnd fun y s2 => fExtend x y s2 else .bad
theorem ve_extend {o e : Expr} {mo me : ME} {apos cpos : Pos} (ho : VE X W o mo) (he : VE X W e me)
    (hbase : attributeBase o "extend" X.env (eval o X.env) = eval o X.env := by rfl)
    (hfew : ((backTo cpos (starEach [e] X.env)).all (fun x => !x.1) && (backToKw cpos (keywordEach [] X.env)).all (fun x => x.1.isSome)
      && decide ([e].length + ([] : List Keyword).length + (if ([] : List Keyword).isEmpty then 0 else 1) < 30)) = true := by rfl)
    (hline : (apos.endLine == cpos.line) = true := by rfl) (hs : starEach [e] X.env = (false, eval e X.env) :: starEach [] X.env := by rfl) (hplain : (backTo cpos (starEach [] X.env)).any (·.1) = false := by rfl) :
    VE X W (.Call (.Attribute o "extend" apos) [e] [] cpos) (mExtend mo me) :=
  pe_imp (pe_bm PySem.F.plainAttrs_list PySem.F.slot_list_extend PySem.F.type_list_extend mt_extend ho (pa_cons he pa_nil hs) hbase hfew hline hs hplain) fun σ H Q ⟨ι, s, ρ, q, e, h⟩ => by
    refine rdE_on q e h fun x v ι1 H1 s1 e1 q1 r1 h1 => ?_
    split at h1
    · rename_i hi
      cases x with
      | obj n =>
        simp only [isLstO] at hi
        split at hi
        · rename_i ds hd
          obtain ⟨a, g1, g2, ys, g3, _⟩ := q1.addr hd
          simp only [RelD] at r1
          obtain ⟨b, rfl, eb⟩ := r1
          rw [g1] at eb; cases eb
          refine ⟨.inl ⟨rfl, ys, .inl (.inl g3)⟩, rdE_on q1 (e.mono e1) h1 fun y w ι2 H2 s2 e2 q2 r2 h2 => ?_⟩
          unfold fExtend at h2
          split at h2
          · rename_i n' zs hnn hz
            cases hnn
            split at h2
            · rename_i es he
              split at h2
              · rename_i hl
                obtain ⟨a', k1, k2, us, k3, k4⟩ := q2.addr he
                rw [e2.get g1] at k1; cases k1
                obtain ⟨c, ws, rfl, t1, t2⟩ := asX_at q2 r2 hz
                refine ⟨a, c, us, ws, rfl, rfl, k3, t1, by rw [k4.len, t2.len]; exact le_LIM hl, ?_⟩
                refine h2 ι2 _ (.write k2 (nfix k3 rfl)) (q2.write (e2.get g1) (nfix k3 rfl) ⟨_, upd_same, ?_⟩) .non (by simp only [RelD])
                exact (k4.app t2).mono (.write k2 (nfix k3 rfl))
              · exact h2.elim
            · exact h2.elim
          · exact h2.elim
        · cases hi
      | _ => simp [isLstO] at hi
    · exact h1.elim
/-! x is True, x is not True -/
def opIsB : F2 := fun x y s => match x, y with
  | .bl a, .bl b => .ok (.bl (decide (a = b))) s
  | _, _ => .bad
def opNotB : F2 := fun x y s => match x, y with
  | .bl a, .bl b => .ok (.bl (!decide (a = b))) s
  | _, _ => .bad
variable {G : Cg}
theorem k_isB : OpK G W (fun x y H Q => ∃ a b, x = .bl a ∧ y = .bl b ∧ Q (.bl (decide (a = b))) H) opIsB := fun ι H s x y v u P Q q r1 r2 h k => by
  unfold opIsB at h k
  split at h
  · rename_i a b
    exact ⟨a, b, relB r1, relB r2, k _ _ rfl (by simp only [RelD]) (h.here q)⟩
  · exact h.elim
theorem k_notB : OpK G W (fun x y H Q => ∃ a b, x = .bl a ∧ y = .bl b ∧ Q (.bl (!decide (a = b))) H) opNotB := fun ι H s x y v u P Q q r1 r2 h k => by
  unfold opNotB at h k
  split at h
  · rename_i a b
    exact ⟨a, b, relB r1, relB r2, k _ _ rfl (by simp only [RelD]) (h.here q)⟩
  · exact h.elim
end
end VL
namespace VL
open PySem PySem.Spec PyProof.Rows L2

/-! ### instances of own classes -/
theorem RoomG.make {k : Nat} {A : Around} (r : RoomG (k + 1) A) (C : Addr) (us : List Value) (kw : List (Str × Value)) : RoomG k (A.under (.builtin "type.__call__" ⟨.ref C :: us, kw⟩)) :=
  ⟨r.r.make C us kw, by simp [Around.under, Code.guards, Code.isGuard, guardIds, pushGuards, r.g]⟩
def fldG (fs : List (Str × D)) (f : Str) : Option D := fs.lookup f
def putFD (f : Str) (v : D) : List (Str × D) → List (Str × D)
  | [] => [(f, v)]
  | (g, x) :: r => if g = f then (g, v) :: r else (g, x) :: putFD f v r
abbrev FR (G : Cg) (ι : Z) (H : Hp) (fs : List (Str × D)) (gs : List (Str × V)) : Prop := Paired (fun (p : Str × D) q => p.1 = q.1 ∧ RelD G ι H p.2 q.2) fs gs
theorem fr_lookup {G : Cg} {ι : Z} {H : Hp} {f : Str} {d : D} : ∀ {fs : List (Str × D)} {gs : List (Str × V)}, FR G ι H fs gs → fs.lookup f = some d → ∃ v, gs.lookup f = some v ∧ RelD G ι H d v
  | _, _, .nil, h => by cases h
  | _, _, .cons (a := a) (b := b) (l₁ := l1) (l₂ := l2) h t, e => by
    obtain ⟨x, dx⟩ := a
    obtain ⟨y, vy⟩ := b
    obtain ⟨h1, h2⟩ := h
    simp only at h1 h2
    subst h1
    simp only [List.lookup_cons] at e ⊢
    split at e
    · cases e
      exact ⟨vy, rfl, h2⟩
    · exact fr_lookup t e
theorem fr_none {G : Cg} {ι : Z} {H : Hp} {f : Str} : ∀ {fs : List (Str × D)} {gs : List (Str × V)}, FR G ι H fs gs → fs.lookup f = none → gs.lookup f = none
  | _, _, .nil, h => rfl
  | _, _, .cons (a := a) (b := b) h t, e => by
    obtain ⟨x, dx⟩ := a
    obtain ⟨y, vy⟩ := b
    obtain ⟨h1, h2⟩ := h
    simp only at h1 h2
    subst h1
    simp only [List.lookup_cons] at e ⊢
    split at e
    · cases e
    · exact fr_none t e
theorem fr_put {G : Cg} {ι : Z} {H : Hp} {f : Str} {d : D} {v : V} (r : RelD G ι H d v) : ∀ {fs : List (Str × D)} {gs : List (Str × V)}, FR G ι H fs gs → FR G ι H (putFD f d fs) (putF f v gs)
  | _, _, .nil => .cons ⟨rfl, r⟩ .nil
  | _, _, .cons (a := a) (b := b) h t => by
    obtain ⟨x, dx⟩ := a
    obtain ⟨y, vy⟩ := b
    obtain ⟨h1, h2⟩ := h
    simp only at h1 h2
    subst h1
    simp only [putFD, putF]
    split
    · exact .cons ⟨rfl, r⟩ t
    · exact .cons ⟨rfl, h2⟩ (fr_put r t)
/-- the class of an instance, its fields -/
def insOf (s : S) : D → Option (Str × List (Str × D))
  | .obj n => match s[n]? with
    | some (.ins c fs) => some (c, fs)
    | _ => none
  | _ => none
theorem insOf_at {G : Cg} {ι : Z} {H : Hp} {s : S} (q : Sim G ι H s) {d : D} {v : V} {c : Str} {fs : List (Str × D)} (r : RelD G ι H d v) (h : insOf s d = some (c, fs)) : ∃ n a C dx gs, d = .obj n ∧ s[n]? = some (.ins c fs) ∧ v = .ref a ∧ ι.ad[n]? = some a ∧ a ∈ ι.ad ∧ G.mg c = some (.ref C) ∧ H a = some (.ins C dx gs) ∧ FR G ι H fs gs := by
  unfold insOf at h
  split at h
  · rename_i n
    split at h
    · rename_i c' fs' hs
      cases h
      obtain ⟨a, g1, g2, C, dx, gs, g3, g4, g5⟩ := q.addr hs
      simp only [RelD] at r
      obtain ⟨b, rfl, eb⟩ := r
      rw [g1] at eb; cases eb
      exact ⟨n, a, C, dx, gs, rfl, hs, rfl, g1, g2, g3, g4, g5⟩
    · cases h
  · cases h
/-- a class whose instances have plain fields of these names -/
structure FldOk (K : PySem.W.Frag) (mg : Str → Option Value) (cs : List Str) (f : Str) : Prop where
  ok : ∀ c ∈ cs, ∀ C, mg c = some (.ref C) → Cls K C ∧ NoAttr K C f
def mFld (cs : List Str) (f : Str) (m : ME) : ME := fun ρ s => (m ρ s).bnd fun d s1 => match insOf s1 d with
  | some (c, fs) => if c ∈ cs then (match fs.lookup f with
    | some v => .ok v s1
    | none => .bad) else .bad
  | none => .bad
def mSetFld (cs : List Str) (f : Str) (mo mv : ME) : MS := fun ρ s => (mv ρ s).bnd fun v s1 => (mo ρ s1).bnd fun o s2 => match o with
  | .obj n => (match s2[n]? with
    | some (.ins c fs) => if c ∈ cs ∧ fs.length < 1000 then .ok (.nx ρ) (s2.set n (.ins c (putFD f v fs))) else .bad
    | _ => .bad)
  | _ => .bad
/-- C(..) -/
structure ClN (P : Program) (w : World) (K : PySem.W.Frag) (mg : Str → Option Value) (base : Heap) (k : Nat) (x : Str) (n : Nat) (m : FM) : Prop where
  ex : ∃ (C f : Addr) (fd : FuncData) (ps : List Str), mg x = some (.ref C) ∧ Mk K C f ∧ FnG P w K mg base k f fd ps (spG ⟨K, mg⟩ (n + 1) m) ∧ Binds K fd ps []
def mNew (c : Str) (m : FM) (ms : MA) : ME := fun ρ s => (ms ρ s).bnd fun ds s1 => (retag ρ (m (.obj s1.length :: ds) (s1 ++ [.ins c []]))).bnd fun d s2 => match d with
  | .non => .ok (.obj s1.length) s2
  | _ => .bad
/-- an instance that may be called -/
structure ClI (P : Program) (w : World) (K : PySem.W.Frag) (mg : Str → Option Value) (base : Heap) (k : Nat) (x : Str) (n : Nat) (m : FM) : Prop where
  ex : ∀ C, mg x = some (.ref C) → ∃ (f : Addr) (fd : FuncData) (ps : List Str), StX.CallO K C f ∧ FnG P w K mg base k f fd ps (spG ⟨K, mg⟩ (n + 1) m) ∧ Binds K fd ps []
def isObjD : D → Bool
  | .obj _ => true
  | _ => false
def mCallI (cs : List (Str × FM)) (mf : ME) (ms : MA) : ME := fun ρ s => (mf ρ s).bnd fun d s1 => if isObjD d = true then (ms ρ s1).bnd fun ds s2 => (match insOf s2 d with
  | some (c, _) => (match cs.lookup c with
    | some m => retag ρ (m (d :: ds) s2)
    | none => .bad)
  | none => .bad) else .bad
/-- o.meth(..) -/
structure ClM (P : Program) (w : World) (K : PySem.W.Frag) (mg : Str → Option Value) (base : Heap) (k : Nat) (x meth : Str) (n : Nat) (m : FM) : Prop where
  ex : ∀ C, mg x = some (.ref C) → ∃ (f : Addr) (fd : FuncData) (ps : List Str), Cls K C ∧ Meth K C meth f ∧ FnG P w K mg base k f fd ps (spG ⟨K, mg⟩ (n + 1) m) ∧ Binds K fd ps []
def mMeth (cs : List (Str × FM)) (meth : Str) (mo : ME) (ms : MA) : ME := fun ρ s => (mo ρ s).bnd fun d s1 => match insOf s1 d with
  | some (c, fs) => (match cs.lookup c with
    | some m => if fs.lookup meth = none then (ms ρ s1).bnd fun ds s2 => retag ρ (m (d :: ds) s2) else .bad
    | none => .bad)
  | none => .bad
section
variable {X : Cx} {W : WX} {k j n : Nat} {x f : Str} {p pos pos' apos cpos : Pos} {e o fe : Expr} {es : List Expr} {mo mv mf : ME} {ms : MA} {m : FM} {cs : List Str}
theorem ve_fld (F : FldOk X.K X.mg cs f) (he : VE X W e mo) (hb : attributeBase e f X.env (eval e X.env) = eval e X.env := by rfl) : VE X W (.Attribute e f pos) (mFld cs f mo) :=
  pe_imp (pe_fld he hb) fun σ H Q ⟨ι, s, ρ, q, en, h⟩ => by
    refine rdE_on q en h fun d v ι1 H1 s1 e1 q1 r1 h1 => ?_
    split at h1
    · rename_i c fs hi
      split at h1
      · rename_i hc
        split at h1
        · rename_i u hu
          obtain ⟨n, a, C, dx, gs, rfl, hs, rfl, g1, g2, g3, g4, g5⟩ := insOf_at q1 r1 hi
          obtain ⟨w, hw, rw'⟩ := fr_lookup g5 hu
          obtain ⟨c1, c2⟩ := F.ok c hc C g3
          exact ⟨a, C, dx, gs, w, rfl, g4, c1, c2, hw, h1.val q1 rw'⟩
        · exact h1.elim
      · exact h1.elim
    · exact h1.elim
theorem vs_fld (F : FldOk X.K X.mg cs f) (ho : VE X W o mo) (hv : VE X W e mv) (hs : swapsWith e (some (.Attribute o f pos')) pos.line X.env = pure false := by rfl) : VS X W (.Assign [.Attribute o f pos'] e pos) (mSetFld cs f mo mv) :=
  ps_imp (ps_fld ho hv hs) fun Dn σ H ⟨ι, s, ρ, q, en, h⟩ => by
    refine rdE_on q en h fun v w ι1 H1 s1 e1 q1 r1 h1 => rdE_on q1 (en.mono e1) h1 fun ob u ι2 H2 s2 e2 q2 r2 h2 => ?_
    split at h2
    · rename_i n
      split at h2
      · rename_i c fs hs
        split at h2
        · rename_i hc
          obtain ⟨n', a, C, dx, gs, en', hs', rfl, g1, g2, g3, g4, g5⟩ := insOf_at q2 r2 (show insOf s2 (.obj n) = some (c, fs) by simp [insOf, hs])
          cases en'
          obtain ⟨c1, c2⟩ := F.ok c hc.1 C g3
          refine ⟨a, C, dx, gs, rfl, g4, c1, c2, by rw [← Paired.length g5]; exact hc.2, ?_⟩
          refine h2 ι2 _ (.write g2 (nfix g4 rfl)) (q2.write g1 (nfix g4 rfl) ⟨C, dx, _, g3, upd_same, ?_⟩) _ (((en.mono e1).mono e2).mono (.write g2 (nfix g4 rfl)))
          exact Paired.mapP (fr_put (r1.mono e2) g5) fun _ _ z => ⟨z.1, RelD.mono (.write g2 (nfix g4 rfl)) z.2⟩
        · exact h2.elim
      · exact h2.elim
    · exact h2.elim
/-- where the callee stands -/
theorem runGc {f : Addr} {fd : FuncData} {ps : List Str} {sp : Sp} {E : XK} {pins : List (Addr × Obj)} {σ : L2.St} {H : Hp} {st : Shared} {Q : VK} {us : List Value} {vs : List V} (F : FnG X.prog X.w X.K X.mg X.base k f fd ps sp) (hr : RoomG k X.A)
    (hb : Binds X.K fd ps []) (hx : PassesAt (L2.CX X.prog X.w) X σ E) (I : Inv X pins σ H st) (r : Vals vs us) (h : sp vs H Q E) :
    codeAny (model X.prog X.w) X.A (.call (.ref f) ⟨us, []⟩) (fun r s' => match r with
      | .ok (.ret v) => EP X pins σ Q v s'
      | .ok _ => False
      | .error e => X.xe e s') st := by
  have hl : us.length = ps.length := by rw [← r.length]; exact F.len _ _ _ _ h
  have hbt := hb st us I.kIn (by rw [List.append_nil]; exact hl)
  rw [List.append_nil] at hbt
  refine codeAny_mono (F.run X.A X.stack st H ⟨us, []⟩ us vs Q E hr I.env0 hbt r h) fun rr s' hq => ?_
  cases rr with
  | error e => exact hx pins H st e s' I hq
  | ok fl => cases fl with
    | ret u => exact I.after hq
    | next => exact hq.elim
    | brk => exact hq.elim
    | cont => exact hq.elim
theorem run_makeG {C f : Addr} {fd : FuncData} {ps : List Str} {sp : Sp} {E : XK} {pins : List (Addr × Obj)} {σ : L2.St} {H : Hp} {st : Shared} {Q : VK} {us : List Value} {vs : List V} (M : Mk X.K C f) (F : FnG X.prog X.w X.K X.mg X.base k f fd ps sp) (hr : RoomG (k + 1) X.A)
    (hb : Binds X.K fd ps []) (hx : PassesAt (L2.CX X.prog X.w) X σ E) (I : Inv X pins σ H st) (r : Vals vs us)
    (h : ∀ x dx, H x = none → H dx = none → dx ≠ x → sp (.ref x :: vs) (upd (upd H dx (.own x)) x (.ins C dx [])) (fun v H2 => v = .non ∧ Q (.ref x) H2) E) :
    wpAny (model X.prog X.w) X.A (call (.ref C) us) (EP X pins σ Q) X.xe st := by
  have hq := h (st.heap.objs.size + 1) st.heap.objs.size (I.hok.fresh (Nat.le_succ _)) (I.hok.fresh (Nat.le_refl _)) (Nat.ne_of_lt (Nat.lt_succ_self _))
  have I2 := Inv.made (C := C) I
  have r2 : Vals (V.ref (st.heap.objs.size + 1) :: vs) (Value.ref (st.heap.objs.size + 1) :: us) := .cons rfl r
  have hl : (Value.ref (st.heap.objs.size + 1) :: us).length = ps.length := by rw [← r2.length]; exact F.len _ _ _ _ hq
  have hbt := hb _ (Value.ref (st.heap.objs.size + 1) :: us) I2.kIn (by rw [List.append_nil]; exact hl)
  rw [List.append_nil] at hbt
  refine wpAny_call (make_map (f := f) I.kIn M.makes M.init (beq_iff_eq.mp M.fn) (codeAny_mono (F.run _ X.stack _ _ ⟨Value.ref (st.heap.objs.size + 1) :: us, []⟩ _ _ _ E (hr.make C us []) (I2.env0.make C us []) hbt r2 hq) fun rr s' hq' => ?_))
  cases rr with
  | error e => exact hx pins _ _ e s' I2 hq'
  | ok fl =>
    cases fl with
    | ret u =>
      obtain ⟨v, H', I3, rv, ev, q3⟩ := I2.after hq'
      subst ev
      exact ⟨rv, ⟨V.ref (st.heap.objs.size + 1), H', I3, rfl, q3⟩⟩
    | next => exact hq'.elim
    | brk => exact hq'.elim
    | cont => exact hq'.elim
theorem ve_new (c : ClN X.prog X.w X.K X.mg X.base k x n m) (tk : Takes X W) (hr : RoomG j X.A) (hk : k + 1 ≤ j) (hg : Gl X x) (ha : VA X W (e :: es) ms) (hlen : ∀ ρ s ds s', ms ρ s = .ok ds s' → ds.length = n) (hdb : (x == ("__debug__" : Str)) = false := by decide)
    (he : starEach (e :: es) X.env = (false, eval e X.env) :: starEach es X.env := by rfl) (hpl : (backTo pos (starEach es X.env)).any (·.1) = false := by rfl) : VE X W (.Call (.Name x p) (e :: es) [] pos) (mNew x m ms) := by
  obtain ⟨C, f, fd, ps, gf, M, F, bd⟩ := c.ex
  refine ⟨fun pins st σ H Q I h => ?_⟩
  obtain ⟨ι, s, ρ, q, en, h⟩ := h
  refine wpAny_Call_Name_kw (ld_glob I hg gf ?_ hdb)
  have hA : rdA (cg X) W ms σ H fun vs H1 => ∀ z dx, H1 z = none → H1 dx = none → dx ≠ z → spG (cg X) (n + 1) m (.ref z :: vs) (upd (upd H1 dx (.own z)) z (.ins C dx [])) (fun v H2 => v = .non ∧ Q (.ref z) H2) (WE W σ) := by
    refine ⟨ι, s, ρ, q, en, ?_⟩
    have h2 := Post.bnd h
    cases hm : ms ρ s with
    | bad => rw [hm] at h2; exact h2
    | exn c fs ρ' s1 => rw [hm] at h2; exact h2
    | ok ds s1 =>
      rw [hm] at h2
      intro ι1 H1 e1 q1 vs r1 z dx hz hdx hne
      obtain ⟨_, _, h3⟩ := h2 ι1 H1 e1 q1
      have q2 : Sim (cg X) ι1 (upd H1 dx (.own z)) s1 := q1.new hdx
      have hz2 : upd H1 dx (.own z) z = none := by rw [upd_ne (Ne.symm hne)]; exact hz
      have x2 : Ext ι1 H1 (ι1.push z) (upd (upd H1 dx (.own z)) z (.ins C dx [])) := (Ext.new hdx).trans (.newObj hz2)
      have q3 : Sim (cg X) (ι1.push z) (upd (upd H1 dx (.own z)) z (.ins C dx [])) (s1 ++ [.ins x []]) := q2.newObj hz2 ⟨C, dx, [], gf, upd_same, .nil⟩
      have rz : RelD (cg X) (ι1.push z) (upd (upd H1 dx (.own z)) z (.ins C dx [])) (.obj s1.length) (.ref z) := by
        simp only [RelD]
        exact ⟨z, rfl, by rw [← q1.len]; simp [Z.push]⟩
      refine spG_of (by simp only [List.length_cons, r1.len, hlen ρ s ds s1 hm]) q3 (.cons rz (r1.mono x2)) ((en.mono e1).mono x2) ?_
      have h4 := Post.bnd (Post.mono x2 h3)
      refine h4.imp fun d ι4 H4 s4 ⟨e4, q4, h5⟩ => ?_
      split at h5
      · intro v rv
        rw [relN rv]
        refine ⟨rfl, h5.val q4 ?_⟩
        exact RelD.mono e4 rz
      · exact h5.elim
  refine PySem.W.callWith_K (h₀ := X.base) I.ok.mod.kin M.kp (thn (ha.run pos pins st σ H _ I hA) fun us s1 ⟨vs, H1, I1, r, q1⟩ => ⟨I1.kIn, ?_⟩) he hpl
  exact run_makeG M F (hr.mono hk) bd (passAt tk σ) I1 r q1
theorem ve_callI {tab : List (Str × FM)} (c : ∀ c m, (c, m) ∈ tab → ClI X.prog X.w X.K X.mg X.base k c n m) (tk : Takes X W) (hr : RoomG j X.A) (hk : k ≤ j) (hf : VE X W fe mf) (ha : VA X W (e :: es) ms) (hlen : ∀ ρ s ds s', ms ρ s = .ok ds s' → ds.length = n)
    (ht : eval (.Call fe (e :: es) [] pos) X.env = (do callWith pos (← eval fe X.env) [] (backTo pos (starEach (e :: es) X.env)) (backToKw pos (keywordEach [] X.env))) := by rfl)
    (he : starEach (e :: es) X.env = (false, eval e X.env) :: starEach es X.env := by rfl) (hpl : (backTo pos (starEach es X.env)).any (·.1) = false := by rfl) : VE X W (.Call fe (e :: es) [] pos) (mCallI tab mf ms) := by
  refine ⟨fun pins st σ H Q I h => ?_⟩
  obtain ⟨ι, s, ρ, q, en, h⟩ := h
  have hF : rdE (cg X) W mf σ H fun y H1 => ∃ a, y = V.ref a ∧ rdA (cg X) W ms σ H1 fun vs H2 => ∃ C f fd ps m, StX.CallO X.K C f ∧ FnG X.prog X.w X.K X.mg X.base k f fd ps (spG (cg X) (n + 1) m) ∧ Binds X.K fd ps [] ∧ StX.InsC X H2 a C ∧ spG (cg X) (n + 1) m (V.ref a :: vs) H2 Q (WE W σ) := by
    refine rdE_on q en h fun d v ι1 H1 s1 e1 q1 r1 h1 => ?_
    split at h1
    · rename_i hd
      cases d with
      | obj i =>
        have r1' := r1
        simp only [RelD] at r1
        obtain ⟨a, rfl, ea⟩ := r1
        refine ⟨a, rfl, ι1, s1, ρ, q1, en.mono e1, ?_⟩
        have h2 := Post.bnd h1
        cases hm : ms ρ s1 with
        | bad => rw [hm] at h2; exact h2
        | exn c fs ρ' s1 => rw [hm] at h2; exact h2
        | ok ds s2 =>
          rw [hm] at h2
          intro ι2 H2 e2 q2 vs r2
          obtain ⟨_, _, h3⟩ := h2 ι2 H2 e2 q2
          split at h3
          · rename_i c' fs hi
            split at h3
            · rename_i m' hm'
              obtain ⟨n', a', C, dx, gs, en', hs', ea', g1, g2, g3, g4, g5⟩ := insOf_at q2 (r1'.mono e2) hi
              cases ea'
              obtain ⟨f, fd, ps, c1, F, bd⟩ := (c c' m' (PySem.mem_of_lookup hm')).ex C g3
              exact ⟨C, f, fd, ps, m', c1, F, bd, .inr ⟨dx, gs, g4⟩, spG_of (by simp only [List.length_cons, r2.len, hlen ρ s1 ds s2 hm]) q2 (.cons (r1'.mono e2) r2) ((en.mono e1).mono e2) h3⟩
            · exact h3.elim
          · exact h3.elim
      | _ => cases hd
    · exact h1.elim
  refine Call_ (thn (hf.run pins st σ H _ I hF) fun u s1 ⟨y, H1, I1, ry, a, ey, q1⟩ => ?_) ht
  subst ey
  obtain rfl : u = Value.ref a := ry
  refine StX.callO_with (thn (ha.run pos pins s1 σ H1 _ I1 q1) fun us s2 ⟨vs, H2, I2, r, C, f, fd, ps, m, c1, F, bd, hi, sp⟩ => ?_) he hpl
  obtain ⟨ox, od, J, hd⟩ := StX.insC_at I2 hi
  refine ⟨⟨C, ox, od, J, hd⟩, wpAny_call (PySem.W.kco_code I2.kIn J hd c1.at_ c1.fn c1.fi ?_)⟩
  exact runGc (us := .ref a :: us) (vs := .ref a :: vs) F (hr.mono hk) bd (passAt tk σ) I2 (.cons rfl r) sp
end
end VL
namespace VL
open PySem PySem.Spec PyProof.Rows L2

/-! ### {k: v for .. in ..}, keys tuples -/
theorem d_putT {X : Cx} {pins : List (Addr × Obj)} {σ : L2.St} {H : Hp} {s : Shared} {E : Value → Shared → Prop} {D b : Addr} {kvs : List (List Key × V)} {k : List Key} {v : V} {r : Value} {Q : Unit → Shared → Prop} (hu : X.A.units < cLine) (I : Inv X pins σ H s) (hD : H D = some (.dT kvs)) (hz : kvs.length < sizeLine)
    (eb : H b = some (.tup (k.map kV))) (rv : RelV v r) (h : ∀ s', Inv X pins σ (upd H D (.dT (putK kvs k v))) s' → Q () s') : wpAny (model X.prog X.w) X.A (dictSet D (.ref b) r) Q E s := by
  obtain ⟨z, hd, xs, rel, dd⟩ := dt_of I.hok hD
  have hzx : xs.length ≤ sizeLine := by rw [← Paired.length rel]; exact z
  have hl : (putK kvs k v).length ≤ sizeLine := Nat.le_trans (length_putK kvs k v) hz
  have hroom : (tupleKind (mixKind X.prog X.w)).room X.A := hu
  refine wpAny_dictSet_heap (hsz := hzx) hroom (key_of I.hok eb) dd fun h' dd' hs => h _ ?_
  obtain ⟨q, es, ep, hq, h2, h3, h4, _, h5⟩ := dd'
  refine d_write I (by rw [hD]; exact True.intro) hs ⟨q, hq⟩ ⟨hl, hd, _, (rel.put k eb rv).keeps fun c ys ec => ?_, q, es, ep, hq, h2, h3, h4, h5⟩
  rw [upd_ne (ne_of ec hD fun z => nomatch z)]
  exact ec
def tDcT (wi : TI) (g : TG) (tt : TT) (tk tv : TE) (vs : List Nat) : TE := fun σ H Q => wi σ H fun J H1 => ∀ D, H1 D = none → ∃ Wd : Nat → Nat → Hp → Prop, (∃ m, Wd 0 m (upd H1 D (.dT []))) ∧ ∀ j m H, Wd j m H →
  (J.stop j H ∧ Q (.ref D) H) ∨ (J.go j H ∧ ∃ Ny : Hp → Prop, (∀ H', Ny H' → ∃ m', m' < m ∧ Wd (j + 1) m' H') ∧ ∀ x H', J.yld j H x H' → g x (L2.wipe σ vs) H' fun σ2 H2 => L2.wipe σ2 vs = L2.wipe σ vs ∧ tt σ2 H2 fun b H3 =>
    if b = true then tk σ2 H3 fun y H4 => tv σ2 H4 fun z H5 => ∃ kvs k b, y = .ref b ∧ H5 b = some (.tup (k.map kV)) ∧ H5 D = some (.dT kvs) ∧ kvs.length < sizeLine ∧ Ny (upd H5 D (.dT (putK kvs k z))) else Ny H3)
section
variable {X : Cx}
theorem dcT_core {pins : List (Addr × Obj)} {s : Shared} {σ : L2.St} {H : Hp} {Q : VK} {kx vx t i : Expr} {ifs : List Expr} {scope : Scope} {own : List (Str × Nat)} {pos pos' : Pos} {wi : TI} {g : TG} {tt : TT} {tk tv : TE} {use : Option (Value → Sem Unit)} {Qf : Value → Shared → Prop}
    (hu : X.A.units < cLine) (hc : X.calm = true) (hN : X.N.Nodup) (I : Inv X pins σ H s) (hi : PI X t i wi) (ok : BlkOk X.N X.env.scope scope own)
    (hg : ∀ (s : Shared) (H : Hp) (C : Addr) (cl : List (Str × Addr)) (fp : List Addr), PG (X.blk s H scope (compEnvC scope cl C X.env) fp) t g)
    (ht : ∀ (s : Shared) (H : Hp) (C : Addr) (cl : List (Str × Addr)) (fp : List Addr), PTs (X.blk s H scope (compEnvC scope cl C X.env) fp) ifs tt)
    (hk : ∀ (s : Shared) (H : Hp) (C : Addr) (cl : List (Str × Addr)) (fp : List Addr), PE (X.blk s H scope (compEnvC scope cl C X.env) fp) kx tk)
    (he : ∀ (s : Shared) (H : Hp) (C : Addr) (cl : List (Str × Addr)) (fp : List Addr), PE (X.blk s H scope (compEnvC scope cl C X.env) fp) vx tv) (hs : ∀ x, foldedSetIterable i X.env x = pure x)
    (h : tDcT wi g tt tk tv (own.map (·.2)) σ H Q)
    (hR : ∀ D C s' m H', Inv X pins σ H' s' → Q (.ref D) H' → s'.heap.Ns C m → FpOk X pins H' C → compPost (model X.prog X.w) X.A X.xe use Qf (.ref D) C (.ok .next) s') :
    wpAny (model X.prog X.w) X.A (comprehension (.DictComp kx vx [⟨t, i, ifs, 0⟩] scope pos) scope X.env pos' newDict false (eval i X.env) use) Qf X.xe s := by
  have hfr : ∀ y ∈ scope.names, y.2 = .free → ∃ c, X.env.cells.lookup y.1 = some c := fun y hy e => by
    rcases ok.free y hy e with z | z
    · exact I.ok.has _ (.inl z)
    · exact I.ok.has _ (.inr z)
  refine wpAny_comprehension_free (use := use) rfl hs (closure_ok hfr) ok.kind (fun y hy e => by rw [ok.uniq y hy, e]) (thn (hi.run pins s σ H _ I h) fun xv s1 hx => thn hx fun itv s2 h2 => ?_)
  obtain ⟨it, fp, tn, J, H2, e2, I2, T, st2, f2, q⟩ := h2
  subst e2
  refine wpAny_newObj_type (newEnv_comp ?_)
  generalize hD : s2.heap.objs.size = D
  obtain ⟨Wd, ⟨m0, w0⟩, turn⟩ := q D (I2.hok.fresh (Nat.le_of_eq hD))
  generalize hs3 : ({ s2 with heap := s2.heap.push { cls := .type "dict", data := .dict #[] } } : Shared) = s3
  have I3 : Inv X pins σ (upd H2 D (.dT [])) s3 := by
    subst hs3
    refine I2.laid (t' := s2.toks) (fun b o e => Heap.get?_push_of_some _ e) (Nat.le_of_eq hD) ?_
    subst hD
    exact dt_empty s2.heap I2.big
  have h3 : s3.heap = s2.heap.push { cls := .type "dict", data := .dict #[] } := by subst hs3; rfl
  have f3 : ∀ b ∈ fp, FpOk X pins (upd H2 D (.dT [])) b ∧ b < s3.heap.objs.size := fun b hb => by
    obtain ⟨o, e, _⟩ := T.obj _ _ st2 b hb
    have hlt := Heap.lt_size e
    refine ⟨⟨?_, (f2 b hb).2⟩, by rw [h3, Heap.size_push]; exact Nat.lt_succ_of_lt hlt⟩
    rw [upd_ne (Nat.ne_of_lt (by subst hD; exact hlt))]
    exact (f2 b hb).1
  have st3 : tn 0 s3.heap := T.keep _ _ _ st2 fun b _ o e => by
    rw [h3]
    exact Heap.get?_push_of_some _ e
  have I4 := block_start I3 ok hN f3
  have pg := hg s3 (upd H2 D (.dT [])) s3.heap.objs.size (cellsFrom (s3.heap.objs.size + 1) scope.names (cloFrom X.env.cells scope.names [])) fp
  have pt := ht s3 (upd H2 D (.dT [])) s3.heap.objs.size (cellsFrom (s3.heap.objs.size + 1) scope.names (cloFrom X.env.cells scope.names [])) fp
  have pk := hk s3 (upd H2 D (.dT [])) s3.heap.objs.size (cellsFrom (s3.heap.objs.size + 1) scope.names (cloFrom X.env.cells scope.names [])) fp
  have pe := he s3 (upd H2 D (.dT [])) s3.heap.objs.size (cellsFrom (s3.heap.objs.size + 1) scope.names (cloFrom X.env.cells scope.names [])) fp
  have hN4 : ∀ b ∈ fp, (upd H2 D (.dT [])) b = none := fun b hb => (f3 b hb).1.1
  show codeAny _ _ (.compStart (.DictComp kx vx [⟨t, i, ifs, 0⟩] scope pos) 0 (.ref it) (.ref D) (compEnvC scope (cellsFrom (s3.heap.objs.size + 1) scope.names (cloFrom X.env.cells scope.names [])) s3.heap.objs.size X.env)) (compPost (model X.prog X.w) X.A X.xe use Qf (.ref D) s3.heap.objs.size)
    { s3 with heap := pushCells (s3.heap.push { cls := .type "dict", data := .dict #[] }) scope.names }
  generalize hce : compEnvC scope (cellsFrom (s3.heap.objs.size + 1) scope.names (cloFrom X.env.cells scope.names [])) s3.heap.objs.size X.env = ce at I4 pg pt pk pe ⊢
  have cL : ce.locals = s3.heap.objs.size := by subst hce; rfl
  generalize hH3 : upd H2 D (.dT []) = H3 at I3 I4 pg pt pk pe w0 hN4 f3
  generalize hs4 : ({ s3 with heap := pushCells (s3.heap.push { cls := .type "dict", data := .dict #[] }) scope.names } : Shared) = s4 at I4 ⊢
  have st4 : tn 0 s4.heap := T.keep _ _ _ st3 fun b _ o e => by
    subst hs4
    exact pushCells_keeps _ _ _ _ (Heap.get?_push_of_some _ e)
  have stat : ∀ {σ' : L2.St} {H' : Hp} {s' : Shared}, Inv (X.blk s3 H3 scope ce fp) [] σ' H' s' → (∀ b ∈ fp, H' b = none) → ∀ b ∈ fp, FpOk (X.blk s3 H3 scope ce fp) [] H' b := fun {σ' H' s'} I' hn b hb =>
    ⟨hn b hb, (I'.ok.exf b hb).1, I'.ok.exfs b hb, .inl hb, fun x c e => (I'.ok.exf b hb).2 x c e, fun p hp => by
      have hp' : p ∈ ([] : List (Addr × Obj)) ++ [] := hp
      simp at hp'⟩
  have loop : codeAny (model X.prog X.w) X.A (.compLoop (.DictComp kx vx [⟨t, i, ifs, 0⟩] scope pos) 0 (.ref it) (.ref D) ce) (compPost (model X.prog X.w) X.A X.xe use Qf (.ref D) s3.heap.objs.size) s4 := by
    refine compLoop_anyD (fun m s' => ∃ j H', Inv (X.blk s3 H3 scope ce fp) [] (L2.wipe σ (own.map (·.2))) H' s' ∧ tn j s'.heap ∧ (∀ b ∈ fp, H' b = none) ∧ Wd j m H') ?_ m0 ⟨0, H3, I4, st4, hN4, w0⟩
    rintro m s5 ⟨j, H5, I5, st5, n5, w5⟩
    rcases turn j m H5 w5 with ⟨stop, qq⟩ | ⟨go, Ny, hNy, step⟩
    · refine thnF (T.done (X.blk s3 H3 scope ce fp) rfl rfl rfl hc j [] s5 _ H5 Fls I5 (stat I5 n5) st5 stop) fun r s6 ⟨hr, I6⟩ => ?_
      subst hr
      have I7 : Inv X pins σ H5 s6 := I3.call' (ch := fp) I6.os I6.base I6.hok I6.bare fun b hb => by
        have z := (f3 b hb).1.2
        exact ⟨z.2.2.1, z.1, z.2.2.2.1, z.2.2.2.2⟩
      have nC : H5 s3.heap.objs.size = none := by
        rw [← cL]
        exact I6.free
      obtain ⟨mm, hn, _⟩ := I6.loc
      have hn' : s6.heap.Ns ce.locals mm := hn
      rw [cL] at hn'
      exact hR D s3.heap.objs.size s6 mm H5 I7 qq hn' (I3.fpOk (Nat.le_refl _) nC)
    · refine thnF (T.item (X.blk s3 H3 scope ce fp) rfl rfl rfl hc j [] s5 _ H5 Fls I5 (stat I5 n5) st5 go) fun r s6 ⟨u, hr, h6⟩ => ?_
      subst hr
      refine thnF h6 fun _ s7 ⟨x, H7, I7, r7, y7, st7, n7⟩ => ?_
      have I7' := I7.pinned (stat I7 n7) (T.obj _ _ st7)
      refine thnF (pg.run _ s7 _ H7 x u _ I7' r7 (step x H7 y7)) fun _ s8 ⟨σ8, H8, I8, hw, q8⟩ => thnF (pt.run _ s8 σ8 H8 _ I8 q8) fun b s9 ⟨H9, I9, q9⟩ => ?_
      have fin : ∀ {σ' : L2.St} {s' : Shared} {H' : Hp}, Inv (X.blk s3 H3 scope ce fp) ([] ++ pinsAt fp s7.heap) σ' H' s' → (L2.wipe σ (own.map (·.2))).length = σ'.length → (∀ (a : Nat) v, (L2.wipe σ (own.map (·.2)))[a]? = some (some v) → σ'[a]? = some (some v)) → Ny H' →
          ∃ m', m' < m ∧ ∃ j H', Inv (X.blk s3 H3 scope ce fp) [] (L2.wipe σ (own.map (·.2))) H' s' ∧ tn j s'.heap ∧ (∀ b ∈ fp, H' b = none) ∧ Wd j m' H' := fun {σ' s' H'} I' hl hkn nx => by
        obtain ⟨m', hm, w'⟩ := hNy H' nx
        have pin' : ∀ b ∈ fp, ∀ o, s7.heap.get? b = some o → s'.heap.get? b = some o ∧ H' b = none := fun b hb o e => by
          have z := I'.pin (b, o) (List.mem_append_right _ (List.mem_append_right _ (mem_pinsAt hb e)))
          exact ⟨z.1, z.2.1⟩
        refine ⟨m', hm, j + 1, H', (I'.unpinned (pins := [])).weak hl hkn, T.keep _ _ _ st7 fun b hb o e => (pin' b hb o e).1, fun b hb => ?_, w'⟩
        obtain ⟨o, e, _⟩ := T.obj _ _ st7 b hb
        exact (pin' b hb o e).2
      have hl8 : (L2.wipe σ (own.map (·.2))).length = σ8.length := by rw [← hw, wipe_length]
      have hk8 : ∀ (a : Nat) v, (L2.wipe σ (own.map (·.2)))[a]? = some (some v) → σ8[a]? = some (some v) := fun a v e => by
        rw [← hw] at e
        exact (wipe_some e).1
      cases b with
      | false =>
        rw [if_neg Bool.false_ne_true] at q9 ⊢
        exact fin I9 hl8 hk8 q9
      | true =>
        rw [if_pos rfl] at q9 ⊢
        refine thnF (pk.run _ s9 σ8 H9 _ I9 q9) fun z s10 ⟨yk, H10, I10, r10, q10⟩ => thnF (pe.run _ s10 σ8 H10 _ I10 q10) fun z2 s11 ⟨yv, H11, I11, r11, kvs, k, b, ek, eb, hD11, hz11, nx⟩ => ?_
        subst ek
        cases (show z = Value.ref b from r10)
        exact d_putT (X := X.blk s3 H3 scope ce fp) hu I11 hD11 hz11 eb r11 fun s12 I12 => fin I12 hl8 hk8 nx
  exact codeAny_compStart_dict loop (T.self X.A 0 _ _ _ st4 loop)
end
/-! its mirror -/
def dcGo (src : Src) (t : Tg) (tt : MT) (mk mv : ME) (ρw : Ev) : Nat → Nat → List (D × D) → S → R (List (D × D))
  | 0, i, acc, s => (match srcAt s src with
    | some xs => if xs.length = i then .ok acc s else .bad
    | none => .bad)
  | n + 1, i, acc, s => (match srcAt s src with
    | some xs => (match xs[i]? with
      | some d => (match tgM t d ρw with
        | some ρ1 => (noX (tt ρ1 s)).bnd fun k s1 => if k = true then (noX (mk ρ1 s1)).bnd fun kd s2 => (noX (mv ρ1 s2)).bnd fun vd s3 => (match keyT kd with
            | some ky => if acc.length < LIM then dcGo src t tt mk mv ρw n (i + 1) (put keyT acc kd ky vd) s3 else .bad
            | none => .bad) else dcGo src t tt mk mv ρw n (i + 1) acc s1
        | none => .bad)
      | none => .bad)
    | none => .bad)
def finT (acc : List (D × D)) (s : S) : R D := .ok (.obj s.length) (s ++ [.dctT acc])
def mDcT (it : MI) (t : Tg) (tt : MT) (mk mv : ME) (vs : List Nat) : ME := fun ρ s => ((it ρ s).bnd fun src s1 => match srcAt s1 src with
  | some xs => if (∀ i ∈ t.slots, i ∈ vs) then dcGo src t tt mk mv (wipeD ρ vs) xs.length 0 [] s1 else .bad
  | none => .bad).bnd finT
theorem LcI.adoptT {G : Cg} {W : WX} {ι1 ι' : Z} {H1 H' : Hp} {p : Addr} {s' : S} {acc : List (D × D)} {av : List (List Key × V)} {Q : VK} (I : LcI G ι1 H1 p ι' H' s') (hn : p ∉ ι1.res) (hf : H1 p = none) (r : PR G ι' H' keyT acc av) (hp : H' p = some (.dT av))
    (h : Post G W ι1 H1 (QE G Q) (finT acc s')) : Q (.ref p) H' := by
  refine h ⟨ι'.ad ++ [p], ι1.res⟩ H' ⟨?_, rfl, I.x.keep, I.x.dom, I.x.fix⟩ (I.q.adopt I.r hn ⟨av, hp, Paired.mapP r fun _ _ z => ⟨z.1, RelD.monoW (.adopt I.r) _ z.2⟩⟩) _ ?_
  · obtain ⟨μ, e1, e2⟩ := I.x.more
    refine ⟨μ ++ [p], by show ι'.ad ++ [p] = _; rw [show ι'.ad = ι1.ad ++ μ from e1, List.append_assoc], fun a ha => ?_⟩
    rcases List.mem_append.mp ha with z | z
    · exact e2 a z
    · rw [List.mem_singleton.mp z]; exact hf
  · simp only [RelD]
    refine ⟨p, rfl, ?_⟩
    show (ι'.ad ++ [p])[s'.length]? = _
    rw [← I.q.len]; simp
theorem put_len {κ : Type} [DecidableEq κ] (kf : D → Option κ) (kvs : List (D × D)) (kd : D) (k : κ) (v : D) : (put kf kvs kd k v).length ≤ kvs.length + 1 := by
  unfold put
  split <;> simp
section
variable {X : Cx} {W : WX}
theorem rd_dc {G : Cg} {it : MI} {t : Tg} {tt : MT} {mk mv : ME} {vs : List Nat} {tI : TI} (kI : ∀ σ H Rr, rdI G W it σ H Rr → tI σ H Rr) {σ : L2.St} {H : Hp} {Q : VK} (h : rdE G W (mDcT it t tt mk mv vs) σ H Q) :
    tDcT tI (tgL G.K t) (rdT G W0 tt) (rdE G W0 mk) (rdE G W0 mv) vs σ H Q := by
  obtain ⟨ι, s, ρ, q, e, h⟩ := h
  unfold mDcT at h
  rw [bnd_assoc] at h
  refine kI _ _ _ ⟨ι, s, ρ, q, e, h.bnd.imp fun src ι1 H1 s1 ⟨e1, q1, h1⟩ J hJ p hp => ?_⟩
  split at h1
  · rename_i xs hx
    split at h1
    · rename_i hl
      have ew : EnvR G (ι1.keep p) (upd H1 p (.dT [])) (L2.wipe σ vs) (wipeD ρ vs) := ((e.mono e1).wipe vs).monoW (Ext.toKeep q1 hp)
      have npr : p ∉ ι1.res := (q1.off hp).2
      refine ⟨fun i m H' => ∃ ι' s' acc av, LcI G ι1 H1 p ι' H' s' ∧ EnvR G ι' H' (L2.wipe σ vs) (wipeD ρ vs) ∧ PR G ι' H' keyT acc av ∧ H' p = some (.dT av) ∧
        Post G W ι1 H1 (QE G Q) ((dcGo src t tt mk mv (wipeD ρ vs) m i acc s').bnd finT),
        ⟨xs.length, ι1.keep p, s1, [], [], .start q1 hp, ew, .nil, upd_same, h1⟩, fun i m H' hW => ?_⟩
      obtain ⟨ι', s', acc, av, I, e', ra, hpa, h'⟩ := hW
      cases m with
      | zero =>
        simp only [dcGo] at h'
        split at h'
        · rename_i ys hy
          split at h'
          · rename_i hyl
            exact .inl ⟨(hJ ι' H' s' ys I.w I.q hy i).2 (Nat.le_of_eq hyl), I.adoptT npr hp ra hpa h'⟩
          · exact h'.elim
        · exact h'.elim
      | succ m =>
        simp only [dcGo] at h'
        split at h'
        · rename_i ys hy
          split at h'
          · rename_i d hd
            split at h'
            · rename_i ρ1 hρ
              rw [bnd_assoc] at h'
              obtain ⟨k, s2, hk, h2⟩ := noX_bnd h'
              obtain ⟨go, yl⟩ := (hJ ι' H' s' ys I.w I.q hy i).1 d hd
              refine .inr ⟨go, fun H2 => ∃ ι' s' acc av, LcI G ι1 H1 p ι' H2 s' ∧ EnvR G ι' H2 (L2.wipe σ vs) (wipeD ρ vs) ∧ PR G ι' H2 keyT acc av ∧ H2 p = some (.dT av) ∧
                Post G W ι1 H1 (QE G Q) ((dcGo src t tt mk mv (wipeD ρ vs) m (i + 1) acc s').bnd finT), fun H2 n2 => ⟨m, Nat.lt_succ_self m, n2⟩, fun x H2 hy2 => ?_⟩
              obtain ⟨y1, y2, y3⟩ := yl x H2 hy2
              have I2 : LcI G ι1 H1 p ι' H2 s' := I.step y1 (I.q.ext y1 y2)
              have np : p ∉ ι'.ad := (I.q.rs p (by rw [I.r]; exact List.mem_cons_self ..)).2
              have hp2 : H2 p = some (.dT av) := y1.keep p _ np hpa
              refine tgL_ok (vs := vs) (e'.mono y1) y3 hρ hl fun σ3 e3 w3 => ⟨by rw [w3, wipe_wipe], ι', s', ρ1, I2.q, e3, ?_⟩
              rw [hk]
              intro ι3 H3 x3 q3
              have I3 := I2.step x3 q3
              have hp3 : H3 p = some (.dT av) := x3.keep p _ np hp2
              have ra3 : PR G ι3 H3 keyT acc av := Paired.mapP ra fun _ _ z => ⟨z.1, (z.2.mono y1).mono x3⟩
              cases k with
              | false =>
                rw [if_neg Bool.false_ne_true] at h2
                refine L2.iteF ?_
                exact ⟨ι3, s2, acc, av, I3, (e'.mono y1).mono x3, ra3, hp3, h2⟩
              | true =>
                rw [if_pos rfl] at h2
                refine L2.iteT ?_
                rw [bnd_assoc] at h2
                obtain ⟨kd, s4, hkd, h3⟩ := noX_bnd h2
                rw [bnd_assoc] at h3
                obtain ⟨vd, s5, hvd, h4⟩ := noX_bnd h3
                refine ⟨ι3, s2, ρ1, q3, e3.mono x3, ?_⟩
                rw [hkd]
                intro ι4 H4 x4 q4 v4 r4
                refine ⟨ι4, s4, ρ1, q4, (e3.mono x3).mono x4, ?_⟩
                rw [hvd]
                intro ι5 H5 x5 q5 v5 r5
                have I4 := I3.step x4 q4
                have I5 := I4.step x5 q5
                have np3 : p ∉ ι3.ad := (I3.q.rs p (by rw [I3.r]; exact List.mem_cons_self ..)).2
                have np4 : p ∉ ι4.ad := (I4.q.rs p (by rw [I4.r]; exact List.mem_cons_self ..)).2
                have hp4 : H4 p = some (.dT av) := x4.keep p _ np3 hp3
                have hp5 : H5 p = some (.dT av) := x5.keep p _ np4 hp4
                have ra5 : PR G ι5 H5 keyT acc av := Paired.mapP ra3 fun _ _ z => ⟨z.1, (z.2.mono x4).mono x5⟩
                split at h4
                · rename_i ky hky
                  split at h4
                  · rename_i hlim
                    obtain ⟨b, rfl, hb⟩ := keyT_rel (r4.mono x5) hky
                    have hm5 : p ∈ ι5.res := by rw [I5.r]; exact List.mem_cons_self ..
                    refine ⟨av, ky, b, rfl, hb, hp5, by rw [← pr_len ra5]; exact lt_LIM hlim, ?_⟩
                    refine ⟨ι5, s5, _, _, I5.write hp, ((((e'.mono y1).mono x3).mono x4).mono x5).monoW (.inKeep hm5 (I5.q.rsn hm5)), ?_, upd_same, h4⟩
                    exact Paired.mapP (put_rel hky r5 ra5) fun _ _ z => ⟨z.1, RelD.monoW (.inKeep hm5 (I5.q.rsn hm5)) _ z.2⟩
                  · exact h4.elim
                · exact h4.elim
            · exact h'.elim
          · exact h'.elim
        · exact h'.elim
    · exact h1.elim
  · exact h1.elim
variable {kx vx tg iter : Expr} {ifs : List Expr} {scope : Scope} {own : List (Str × Nat)} {pos spos : Pos} {it : MI} {t : Tg} {tt : MT} {mk mv : ME}
theorem ve_dcT (hu : X.A.units + 64 < cLine) (hN : X.N.Nodup) (hi : VI X W tg iter it)
    (ok : BlkOk X.N X.env.scope scope own) (hg : ∀ (s : Shared) (H : Hp) (C : Addr) (cl : List (Str × Addr)) (fp : List Addr), PG (X.blk s H scope (compEnvC scope cl C X.env) fp) tg (tgL X.K t))
    (ht : ∀ (s : Shared) (H : Hp) (C : Addr) (cl : List (Str × Addr)) (fp : List Addr), PTs (X.blk s H scope (compEnvC scope cl C X.env) fp) ifs (rdT (cg X) W0 tt))
    (hk : ∀ (s : Shared) (H : Hp) (C : Addr) (cl : List (Str × Addr)) (fp : List Addr), PE (X.blk s H scope (compEnvC scope cl C X.env) fp) kx (rdE (cg X) W0 mk))
    (he : ∀ (s : Shared) (H : Hp) (C : Addr) (cl : List (Str × Addr)) (fp : List Addr), PE (X.blk s H scope (compEnvC scope cl C X.env) fp) vx (rdE (cg X) W0 mv)) (hc : X.calm = true := by rfl) (hs : ∀ x, foldedSetIterable iter X.env x = pure x := by intro _; rfl) :
    VE X W (.DictComp kx vx [⟨tg, iter, ifs, 0⟩] scope pos) (mDcT it t tt mk mv (own.map (·.2))) := by
  refine ⟨fun pins s σ H Q I h => ?_⟩
  rw [arm_eval_DictComp]
  refine dcT_core (by omega) hc hN I hi ok hg ht hk he hs (rd_dc (fun _ _ _ z => z) h) fun D C s' m H' I' q hn f => ⟨m, hn, fun h'' sb => ?_⟩
  obtain ⟨f0, f1, f2, f3, f4, f5⟩ := f
  exact ⟨.ref D, H', I'.turned (t' := s'.toks) (fun b o hb e => (sb.2 b hb).trans e) f0 f1 f3 f4 f5, rfl, q⟩
theorem vs_setDcT (hu : X.A.units + 64 < cLine) {j : Nat} {y : Str} {py : Pos} (hN : X.N.Nodup) (hi : VI X W tg iter it)
    (ok : BlkOk X.N X.env.scope scope own) (hg : ∀ (s : Shared) (H : Hp) (C : Addr) (cl : List (Str × Addr)) (fp : List Addr), PG (X.blk s H scope (compEnvC scope cl C X.env) fp) tg (tgL X.K t))
    (ht : ∀ (s : Shared) (H : Hp) (C : Addr) (cl : List (Str × Addr)) (fp : List Addr), PTs (X.blk s H scope (compEnvC scope cl C X.env) fp) ifs (rdT (cg X) W0 tt))
    (hk : ∀ (s : Shared) (H : Hp) (C : Addr) (cl : List (Str × Addr)) (fp : List Addr), PE (X.blk s H scope (compEnvC scope cl C X.env) fp) kx (rdE (cg X) W0 mk))
    (he : ∀ (s : Shared) (H : Hp) (C : Addr) (cl : List (Str × Addr)) (fp : List Addr), PE (X.blk s H scope (compEnvC scope cl C X.env) fp) vx (rdE (cg X) W0 mv))
    (hsw : swapsWith (.DictComp kx vx [⟨tg, iter, ifs, 0⟩] scope pos) (some (.Name y py)) spos.line X.env = pure true)
    (hy : X.N[j]? = some y := by rfl) (hyl : X.env.scope.names.lookup y = some .local := by rfl) (hc : X.calm = true := by rfl) (hs : ∀ x, foldedSetIterable iter X.env x = pure x := by intro _; rfl) :
    VS X W (.Assign [.Name y py] (.DictComp kx vx [⟨tg, iter, ifs, 0⟩] scope pos) spos) (mAsg (mDcT it t tt mk mv (own.map (·.2))) (gN j)) := by
  refine ⟨fun pins s σ H Dn I h => ?_⟩
  rw [exec_Assign_Name_used _ _ _ _ hsw]
  refine wpAny_bind (wpAny_standAt (wpAny_bind ?_))
  show wpAny _ X.A (do
    let _ ← comprehension (.DictComp kx vx [⟨tg, iter, ifs, 0⟩] scope pos) scope X.env (firstIterPos [⟨tg, iter, ifs, 0⟩] pos) newDict false (eval iter X.env) (some (assign (.Name y py) X.env))) _ _ s
  have h1 : rdE (cg X) W (mDcT it t tt mk mv (own.map (·.2))) σ H fun x H1 => gName j x σ H1 Dn.nx := by
    obtain ⟨ι, s0, ρ, q, e, h⟩ := h
    refine rdE_on q e h fun d v ι1 H1 s1 e1 q1 r1 h1 => ?_
    exact h1.here q1 _ ((e.mono e1).set r1)
  refine wpAny_bind (thn (dcT_core (Qf := fun _ s' => SP X pins Dn .next s') (by omega) hc hN I hi ok hg ht hk he hs (rd_dc (fun _ _ _ z => z) h1) fun L C s' m H' I' q hn f => ?_) fun _ s' hq => wpAny_pure (wpAny_pure hq))
  show wpAny _ _ (assign (.Name y py) X.env (.ref L)) _ _ _
  refine wpAny_assign_Name (store_ok2 (v := V.ref L) I' hN hy (.inl hyl) rfl (fun s2 I2 ⟨a, sb, ha⟩ => ?_) (.inr hyl))
  obtain ⟨f0, f1, f2, f3, f4, f5⟩ := f
  have ne : C ≠ a := by
    rcases ha with z | z
    · subst z; exact f1
    · exact fun e => f4 y a z e.symm
  refine ⟨m, hn.sameBut sb ne, fun h3 sb3 => ⟨_, H', I2.turned (t' := s2.toks) (fun b o hb e => (sb3.2 b hb).trans e) f0 f1 f3 f4 f5, q⟩⟩
end
theorem sw_trueD {kx vx : Expr} {gs : List Comprehension} {scope : Scope} {pos py : Pos} {y : Str} {l : Nat} {env : Env} (hk : env.scope.kind = .function) (hy : env.scope.names.lookup y = some .local) (hl : (py.line == pos.line) = true)
    (ha : (scope.names.any fun (n, k) => n == y && (k == .local || k == .cell)) = false) : swapsWith (.DictComp kx vx gs scope pos) (some (.Name y py)) l env = pure true := by
  have ky : env.kindOf y = some .local := hy
  have hb : env.blockKind = .function := by unfold Env.blockKind; rw [hk]; rfl
  unfold swapsWith
  simp only [hb, ky, ha, Expr.pos, hl]
  rfl
end VL
namespace VL
open PySem PySem.Spec PyProof.Rows L2

/-! ### min of a list of ints -/
def fMinL : FA := fun xs s => match xs with
  | [x] => (match (asL s x).bind toI with
    | some (n :: ns) => .ok (.int (ns.foldl min n)) s
    | _ => .bad)
  | _ => .bad
theorem foldl_min_le : ∀ (ns : List Int) (n : Int), ns.foldl min n ≤ n ∧ ∀ y ∈ ns, ns.foldl min n ≤ y
  | [], n => ⟨Int.le_refl _, by simp⟩
  | m :: ns, n => by
    obtain ⟨h1, h2⟩ := foldl_min_le ns (min n m)
    have e1 : min n m ≤ n := Int.min_le_left ..
    have e2 : min n m ≤ m := Int.min_le_right ..
    simp only [List.foldl_cons]
    refine ⟨by omega, fun y hy => ?_⟩
    rcases List.mem_cons.mp hy with rfl | hy
    · omega
    · exact h2 y hy
theorem foldl_min_mem : ∀ (ns : List Int) (n : Int), ns.foldl min n ∈ n :: ns
  | [], n => by simp
  | m :: ns, n => by
    have h := foldl_min_mem ns (min n m)
    simp only [List.foldl_cons]
    rcases List.mem_cons.mp h with h | h
    · rw [h]
      rcases Int.le_total n m with z | z
      · rw [Int.min_eq_left z]; simp
      · rw [Int.min_eq_right z]; simp
    · simp [h]
theorem v_minL {G : Cg} {W : WX} : CallV G W (rMin G.K) fMinL := fun ι H s xs vs Q q r h => by
  unfold fMinL at h
  split at h
  · split at h
    · rename_i n ns hn
      obtain ⟨v, rfl, r1⟩ := rel1 r
      obtain ⟨a, rfl, t⟩ := seqI q r1 hn
      refine ⟨a, n :: ns, rfl, t, by simp, fun m h1 h2 => ?_⟩
      have e : m = ns.foldl min n := by
        have l1 := h2 _ (foldl_min_mem ns n)
        have l2 : ns.foldl min n ≤ m := by
          obtain ⟨z1, z2⟩ := foldl_min_le ns n
          rcases List.mem_cons.mp h1 with rfl | z
          · exact z1
          · exact z2 _ z
        omega
      subst e
      exact h.val q (ri _)
    · exact h.elim
  · exact h.elim
/-! ### list(d), keys tuples -/
def dkeys (s : S) : D → Option (List D)
  | .obj n => match s[n]? with
    | some (.dctT kvs) => some (kvs.map (·.1))
    | some (.dctTL kvs) => some (kvs.map (·.1))
    | _ => none
  | _ => none
def fListOU : FA := fun xs s => match xs with
  | [x] => (match dkeys s x with
    | some ds => .ok (.obj s.length) (s ++ [.lst ds])
    | none => fListO [x] s)
  | _ => .bad
section
variable {G : Cg} {W : WX} {ι : Z} {H : Hp} {s : S}
theorem keyD_back {d : D} {k : Key} (h : keyD d = some k) : RelD G ι H d (kV k) := by
  cases d with
  | int i => simp only [keyD, Option.some.injEq] at h; subst h; exact ri i
  | str x => simp only [keyD, Option.some.injEq] at h; subst h; simp only [RelD]; rfl
  | _ => cases h
theorem keyDs_back : ∀ {ds : List D} {ks : List Key}, keyDs ds = some ks → RelDs G ι H ds (ks.map kV)
  | [], ks, h => by simp only [keyDs, Option.some.injEq] at h; subst h; simp only [List.map_nil, RelDs]
  | d :: ds, ks, h => by
    simp only [keyDs] at h
    split at h
    · rename_i k ks' h1 h2
      cases h
      simp only [List.map_cons, RelDs]
      exact ⟨_, _, rfl, keyD_back h1, keyDs_back h2⟩
    · cases h
theorem keyT_back (q : Sim G ι H s) {d : D} {k : List Key} {b : Addr} (h : keyT d = some k) (hb : H b = some (.tup (k.map kV))) : RelD G ι H d (.ref b) := by
  cases d with
  | tup ds =>
    simp only [RelD]
    exact ⟨b, _, rfl, ⟨q.tup_off hb, hb⟩, keyDs_back h⟩
  | _ => cases h
theorem keys_back (q : Sim G ι H s) : ∀ {kvs : List (D × D)} {ks : List (List Key × V)} {bs : List Addr}, PR G ι H keyT kvs ks → IsKeys H ks bs → RelDs G ι H (kvs.map (·.1)) (bs.map V.ref)
  | _, _, _, .nil, .nil => by simp only [List.map_nil, RelDs]
  | _, _, _, .cons h t, .cons hb tb => by
    simp only [List.map_cons, RelDs]
    exact ⟨_, _, rfl, keyT_back q h.1 hb, keys_back q t tb⟩
theorem dkeys_at (q : Sim G ι H s) {x : D} {v : V} {ds : List D} (r : RelD G ι H x v) (h : dkeys s x = some ds) : ∃ a kvs ks, v = .ref a ∧ Rd H a (.dT ks) ∧ PR G ι H keyT kvs ks ∧ ds = kvs.map (·.1) := by
  unfold dkeys at h
  split at h
  · rename_i n
    simp only [RelD] at r
    obtain ⟨a, rfl, ha⟩ := r
    split at h
    · rename_i kvs hs
      cases h
      obtain ⟨b, g1, _, ks, g3, g4⟩ := q.addr hs
      rw [ha] at g1; cases g1
      exact ⟨a, kvs, ks, rfl, .inl g3, g4, rfl⟩
    · rename_i kvs hs
      cases h
      obtain ⟨b, g1, _, f, ks, g3, g4⟩ := q.addr hs
      rw [ha] at g1; cases g1
      exact ⟨a, kvs, ks, rfl, .inr ⟨f, g3⟩, g4, rfl⟩
    · cases h
  · cases h
abbrev rListDT : List V → Hp → VK → Prop := fun xs H Q => ∃ d kvs, xs = [V.ref d] ∧ Rd H d (.dT kvs) ∧ ∀ p bs, H p = none → IsKeys H kvs bs → Q (.ref p) (upd H p (.lst (bs.map V.ref)))
theorem v_listOU : CallV G W (fun xs H Q => rListDT xs H Q ∨ rListA G.K xs H Q) fListOU := fun ι H s xs vs Q q r h => by
  unfold fListOU at h
  split at h
  · split at h
    · rename_i ds hd
      obtain ⟨v, rfl, r1⟩ := rel1 r
      obtain ⟨a, kvs, ks, rfl, g1, g2, rfl⟩ := dkeys_at q r1 hd
      exact .inl ⟨a, ks, rfl, g1, fun p bs hp hb => h.newLO q (keys_back q g2 hb) hp⟩
    · exact .inr (v_listO ι H s _ vs Q q r h)
  · exact h.elim
theorem call_listU {X : Cx} (hc : X.calm = true) : CallR X (.type "list") (fun xs H Q => rListDT xs H Q ∨ rListA X.K xs H Q) := (call_list_dT hc).or call_list_of
end
/-! ### d.get(k, x) -/
def isDO (s : S) : D → Bool
  | .obj n => match s[n]? with
    | some (.dct _) => true
    | some (.dctT _) => true
    | some (.dctL _) => true
    | some (.dctTL _) => true
    | _ => false
  | _ => false
theorem isDO_at {G : Cg} {ι : Z} {H : Hp} {s : S} (q : Sim G ι H s) {x : D} {v : V} (r : RelD G ι H x v) (h : isDO s x = true) : ∃ a, v = .ref a ∧ IsD H a := by
  unfold isDO at h
  split at h
  · rename_i n
    simp only [RelD] at r
    obtain ⟨a, rfl, ha⟩ := r
    refine ⟨a, rfl, ?_⟩
    split at h
    · rename_i kvs hs
      obtain ⟨b, g1, _, ks, g3, g4⟩ := q.addr hs
      rw [ha] at g1; cases g1
      exact .inl ⟨ks, .inl g3⟩
    · rename_i kvs hs
      obtain ⟨b, g1, _, ks, g3, g4⟩ := q.addr hs
      rw [ha] at g1; cases g1
      exact .inr ⟨ks, .inl g3⟩
    · rename_i kvs hs
      obtain ⟨b, g1, _, f, ks, g3, g4⟩ := q.addr hs
      rw [ha] at g1; cases g1
      exact .inl ⟨ks, .inr ⟨f, g3⟩⟩
    · rename_i kvs hs
      obtain ⟨b, g1, _, f, ks, g3, g4⟩ := q.addr hs
      rw [ha] at g1; cases g1
      exact .inr ⟨ks, .inr ⟨f, g3⟩⟩
    · cases h
  · cases h
def mGet2 (mo mk md : ME) : ME := fun ρ s => (mo ρ s).bnd fun x s1 => if isDO s1 x = true then (mk ρ s1).bnd fun y s2 => (md ρ s2).bnd fun z s3 => (match dgetD s3 x y with
  | some o => .ok (o.getD z) s3
  | none => .bad) else .bad
section
variable {X : Cx} {W : WX} {o e f : Expr} {mo mk md : ME} {apos cpos : Pos}
theorem ve_get2 (hu : X.A.units + 64 < cLine) (ho : VE X W o mo) (he : VE X W e mk) (hf : VE X W f md)
    (hbase : attributeBase o "get" X.env (eval o X.env) = eval o X.env := by rfl)
    (hfew : ((backTo cpos (starEach [e, f] X.env)).all (fun x => !x.1) && (backToKw cpos (keywordEach [] X.env)).all (fun x => x.1.isSome)
      && decide (([e, f] : List Expr).length + ([] : List Keyword).length + (if ([] : List Keyword).isEmpty then 0 else 1) < 30)) = true := by rfl)
    (hline : (apos.endLine == cpos.line) = true := by rfl) (htrees : backTo cpos (starEach [e, f] X.env) = [(false, eval e X.env), (false, eval f X.env)] := by rfl) :
    VE X W (.Call (.Attribute o "get" apos) [e, f] [] cpos) (mGet2 mo mk md) :=
  pe_imp (pe_dget2 (by omega) ho he hf ⟨hbase, hfew, hline, htrees⟩) fun σ H Q ⟨ι, s, ρ, q, en, h⟩ => by
    refine rdE_on q en h fun x v ι1 H1 s1 e1 q1 r1 h1 => ?_
    split at h1
    · rename_i hi
      obtain ⟨a, rfl, hd⟩ := isDO_at q1 r1 hi
      refine ⟨a, rfl, hd, rdE_on q1 (en.mono e1) h1 fun y w ι2 H2 s2 e2 q2 r2 h2 => rdE_on q2 ((en.mono e1).mono e2) h2 fun z u ι3 H3 s3 e3 q3 r3 h3 => ?_⟩
      split at h3
      · rename_i ov hov
        obtain ⟨a', r, ea, g, oo⟩ := dget_ok q3 hov ((r1.mono e2).mono e3) (r2.mono e3)
        cases ea
        refine ⟨r, g, h3.val q3 ?_⟩
        cases ov <;> cases r <;> first | exact oo.elim | exact r3 | exact oo
      · exact h3.elim
    · exact h1.elim
end
/-! tables of classes whose instances are called -/
def mst (s : Stmt) (j : Nat) : Stmt := match s with
  | .ClassDef _ _ _ body _ _ _ _ _ _ _ => body.getD j (.Pass ⟨0, 0, 0, 0⟩)
  | _ => .Pass ⟨0, 0, 0, 0⟩
section
variable {P : Program} {w : World} {K : PySem.W.Frag} {mg : Str → Option Value} {base : Heap} {k n : Nat}
theorem tab_nil : ∀ c m, (c, m) ∈ ([] : List (Str × FM)) → ClI P w K mg base k c n m := fun _ _ h => by cases h
theorem tab_cons {x : Str} {mx : FM} {t : List (Str × FM)} (h : ClI P w K mg base k x n mx) (ht : ∀ c m, (c, m) ∈ t → ClI P w K mg base k c n m) : ∀ c m, (c, m) ∈ (x, mx) :: t → ClI P w K mg base k c n m := fun c m hm => by
  rcases List.mem_cons.mp hm with e | hm
  · cases e; exact h
  · exact ht c m hm
theorem fldOk1 {x f : Str} {C : Addr} (g : mg x = some (.ref C)) (c : Cls K C) (n : NoAttr K C f) : FldOk K mg [x] f := ⟨fun y hy C' g' => by
  rcases List.mem_cons.mp hy with rfl | hy
  · rw [g] at g'; cases g'; exact ⟨c, n⟩
  · cases hy⟩
theorem clN_of {x : Str} {C f : Addr} {fd : FuncData} {ps : List Str} {m : FM} (g : mg x = some (.ref C)) (M : Mk K C f) (F : FnG P w K mg base k f fd ps (spG ⟨K, mg⟩ (n + 1) m)) (b : Binds K fd ps []) : ClN P w K mg base k x n m := ⟨C, f, fd, ps, g, M, F, b⟩
theorem clI_of {x : Str} {C f : Addr} {fd : FuncData} {ps : List Str} {m : FM} {y qual : Str} {params : Arguments} {body : List Stmt} {scope : Scope} (g : mg x = some (.ref C)) (M : Meth K C "__call__" f) (D : FunD K y qual params body scope [] [] f fd) (F : FnG P w K mg base k f fd ps (spG ⟨K, mg⟩ (n + 1) m)) (b : Binds K fd ps []) : ClI P w K mg base k x n m :=
  ⟨fun C' g' => by
    rw [g] at g'; cases g'
    refine ⟨f, fd, ps, ⟨M.at_, M.fn, ?_⟩, F, b⟩
    obtain ⟨oc, od, dV, kV, doc, pm, an, cdv, ct, osl, _, hl, _⟩ := D.ex
    unfold PySem.W.fnIn
    rw [hl]⟩
end
end VL
namespace VL
open PySem PySem.Spec PyProof.Rows L2

/-! ### for (..), v in d.items(), keys tuples: the dict is locked for good -/
def Itit (d : Addr) (o : Obj) (kvs : List (List Key × V)) : It :=
  ⟨fun i H => H d = some (.frz o (.dT kvs)) ∧ i < kvs.length, fun i H x H' => ∃ (T q : Addr) (k : List Key) (v : V), kvs[i]? = some (k, v) ∧ x = .ref T ∧ H T = none ∧ H q = some (.tup (k.map kV)) ∧ H' = upd H T (.tup [.ref q, v]), fun i H => H d = some (.frz o (.dT kvs)) ∧ kvs.length ≤ i⟩
theorem frz_items {X : Cx} {pins : List (Addr × Obj)} {σ : L2.St} {H : Hp} {s : Shared} {d : Addr} {o : Obj} {kvs : List (List Key × V)} (I : Inv X pins σ H s) (h : H d = some (.frz o (.dT kvs))) :
    (d == sysModules) = false ∧ s.heap.get? d = some o ∧ o.ExactDict ∧ ∃ (es : Array DictEntry) (ep : Nat), o.data = .dict es ep ∧ es.size = kvs.length ∧
      ∀ (i : Nat) (k : List Key) (v : V), kvs[i]? = some (k, v) → ∃ (en : DictEntry) (q : Addr), es[i]? = some en ∧ en.key = .ref q ∧ H q = some (.tup (k.map kV)) ∧ RelV v en.val := by
  obtain ⟨hd, z, hs, xs, pr, o', es, ep, ho, hx, hdt, he, _⟩ := I.hok d _ h
  rw [hd] at ho
  cases ho
  refine ⟨hs, hd, hx, es, ep, hdt, ?_, fun i k v e => ?_⟩
  · have l1 : es.size = xs.length := size_of_entries he
    have l2 : kvs.length = xs.length := Paired.length pr
    omega
  · obtain ⟨b, hb, e1, e2, e3⟩ := paired_get pr e
    have q := entry_at he i
    rw [hb] at q
    exact ⟨_, b.2.1, q, rfl, e2, e3⟩
section
variable {P : Program} {w : World} {K : PySem.W.Frag} {d : Addr} {o : Obj} {es : Array DictEntry} {ep : Nat}
theorem turn_itemsT {kvs : List (List Key × V)} {elts : List Expr} {kk : Nat} {tpos : Pos} (it : Addr) (hod : o.data = .dict es ep) :
    Turn P w K (.Tuple elts kk tpos) (Itit d o kvs) [it] it (fun i h => ∃ ok ov, PySem.IsItemIter h it d i es.size ep ok ov) where
  mem := by simp
  obj := fun i h st b hb => by
    have e : b = it := by simpa using hb
    subst e
    obtain ⟨ok, ov, e⟩ := st
    exact ⟨_, e, fun v z => nomatch z⟩
  keep := fun i h h' st k => let ⟨ok, ov, e⟩ := st; ⟨ok, ov, k it (by simp) _ e⟩
  item := by
    intro X hP hw hK hc i pins s σ H E I hf st hg
    subst hP hw hK
    obtain ⟨hd, hi⟩ := hg
    obtain ⟨hs, hgd, hx, es', ep', hdt, hsz, ent⟩ := frz_items I hd
    obtain ⟨rfl, rfl⟩ := dict_ep hod hdt
    obtain ⟨⟨k, v⟩, hkv⟩ : ∃ p, kvs[i]? = some p := ⟨kvs[i], List.getElem?_eq_getElem hi⟩
    obtain ⟨en, q, hen, hkey, hq, rv⟩ := ent i k v hkv
    obtain ⟨ok, ov, he⟩ := st
    have hlt : it < s.heap.objs.size := Heap.lt_size he
    have hi2 : i < es'.size := by omega
    have een : es'[i] = en := by
      rw [Array.getElem?_eq_getElem hi2] at hen
      exact Option.some.inj hen
    refine DT.nextI he ⟨o, hgd, hx, hdt⟩ hi2 fun h' ho hT hz hk => ?_
    rw [een] at ho hT
    refine ⟨_, rfl, wpAny_letOwnedTupleGo_items (s := { s with heap := h' }) ho fun h'' he' sb => ?_⟩
    have hT2 : h''.get? s.heap.objs.size = some { cls := .type "tuple", data := .seq #[en.key, en.val] } := (sb.2 _ (Nat.ne_of_gt hlt)).trans hT
    have new : ObjOk X.prog X.w (upd H s.heap.objs.size (.tup [.ref q, v])) h'' s.heap.objs.size (.tup [.ref q, v]) :=
      ⟨by show 2 ≤ sizeLine; decide, [en.key, en.val], .cons hkey (.cons rv .nil), ⟨_, hT2, rfl, _, rfl⟩⟩
    have I1 : Inv X pins σ (upd H s.heap.objs.size (.tup [.ref q, v])) { s with heap := h'' } :=
      I.turnedNew (t' := s.toks) (ch := [it]) (fun b ob hb e => (sb.2 b (by simpa using hb)).trans (hk b ob (by simpa using hb) e)) hf (Nat.le_refl _) new
    refine ⟨.ref s.heap.objs.size, _, I1, rfl, ⟨_, q, k, v, hkv, rfl, I.hok.fresh (Nat.le_refl _), hq, rfl⟩, ⟨_, _, he'⟩, fun b hb => ?_⟩
    have e : b = it := by simpa using hb
    rw [e, upd_ne (Nat.ne_of_lt hlt)]
    exact (hf it (by simp)).1
  done := by
    intro X hP hw hK hc i pins s σ H E I hf st hg
    subst hP hw hK
    obtain ⟨hd, hi⟩ := hg
    obtain ⟨f0, f1, f2, f3, f4, f5⟩ := hf it (by simp)
    obtain ⟨hs, hgd, hx, es', ep', hdt, hsz, ent⟩ := frz_items I hd
    obtain ⟨rfl, rfl⟩ := dict_ep hod hdt
    obtain ⟨ok, ov, he⟩ := st
    exact DT.endI (I.ok.hd hc) he ⟨o, hgd, hx, hdt⟩ (by omega) fun h' eb => ⟨rfl, I.turned (t' := s.toks) (fun b ob hb e => eb b ob hb e) f0 f1 f3 f4 f5⟩
  self := fun A i s Q E st h => let ⟨_, _, e⟩ := st; PySem.W.kcp_self e h
end
def iItemsT (td : TE) : TI := fun σ H R => td σ H fun x H1 => ∃ d kvs, x = .ref d ∧ ((H1 d = some (.dT kvs) ∧ ∀ o, R (Itit d o kvs) (upd H1 d (.frz o (.dT kvs)))) ∨ ∃ o, H1 d = some (.frz o (.dT kvs)) ∧ R (Itit d o kvs) H1)
section
variable {X : Cx} {W : WX} {e : Expr} {td : TE} {apos cpos tpos : Pos} {elts : List Expr} {kk : Nat}
theorem pi_itemsT (he : PE X e td) (hbase : attributeBase e "items" X.env (eval e X.env) = eval e X.env := by rfl) (hline : (apos.endLine == cpos.line) = true := by rfl) :
    PI X (.Tuple elts kk tpos) (.Call (.Attribute e "items" apos) [] [] cpos) (iItemsT td) := by
  refine ⟨fun pins s σ H R I h => ?_⟩
  refine wpAny_Call_method (T := "dict") (id := "dict.items") hbase rfl hline PySem.F.plainAttrs_dict PySem.F.slot_dict_items PySem.F.type_dict_items (thn (he.run pins s σ H _ I h) fun u s1 ⟨x, H1, I1, rx, d, kvs, ex, q⟩ => ?_)
  subst ex
  obtain rfl : u = Value.ref d := rx
  obtain ⟨o, H2, I2, hd2, q2⟩ : ∃ o H2, Inv X pins σ H2 s1 ∧ H2 d = some (.frz o (.dT kvs)) ∧ R (Itit d o kvs) H2 := by
    rcases q with ⟨hd, q⟩ | ⟨o, hd, q⟩
    · obtain ⟨o, I2⟩ := I1.lock hd True.intro
      exact ⟨o, _, I2, upd_same, q o⟩
    · exact ⟨o, _, I1, hd, q⟩
  obtain ⟨hs, hgd, hx, es, ep, hdt, hsz, ent⟩ := frz_items I2 hd2
  have raw : DT.Raw s1.heap d es ep := ⟨o, hgd, hx, hdt⟩
  refine ⟨raw.typeIs, fun b eb => ?_, ?_⟩
  · cases eb
    exact ⟨o, hgd, hx.2.1⟩
  have I3 : Inv X pins σ H2 { s1 with heap := s1.heap.push { cls := .type "dict_items", data := .fields #[.ref d] } } := I2.kept (t' := s1.toks) fun b ob q => Heap.get?_push_of_some _ q
  have fin : wpAny (model X.prog X.w) X.A (pyIter (.ref s1.heap.objs.size)) (PIE X pins σ (.Tuple elts kk tpos) R) X.xe { s1 with heap := s1.heap.push { cls := .type "dict_items", data := .fields #[.ref d] } } :=
    DT.iterI (d := d) ⟨_, Heap.get?_push_size _ rfl, rfl, rfl⟩ (raw.push _) (pi_one (tk := s1.toks) I3 _ (turn_itemsT _ hdt) ⟨.none, .none, Heap.get?_push_size _ rfl⟩ q2)
  show wpAny _ _ (callWith cpos (.builtin "dict.items") [.ref d] [] []) _ X.xe s1
  exact method_meetsIn PySem.F.slot_dict_items PySem.F.entry_dict_items rfl (PySem.evalArgs_none ⟨rfl, raw.typeIs, PySem.F.args_dict_items_1 _, _, DT.meetsItems hs, ⟨raw, fin⟩⟩)
end
def mItems (mo : ME) : MI := fun ρ s => (mo ρ s).bnd fun x s1 => match x with
  | .obj n => (match s1[n]? with
    | some (.dctT kvs) => .ok (.fix (kvs.map fun p => .tup [p.1, p.2])) (s1.set n (.dctTL kvs))
    | some (.dctTL kvs) => .ok (.fix (kvs.map fun p => .tup [p.1, p.2])) s1
    | _ => .bad)
  | _ => .bad
theorem itok_items {G : Cg} {ι : Z} {H : Hp} {d : Addr} {o : Obj} {kvs : List (D × D)} {ks : List (List Key × V)} (hd : H d = some (.frz o (.dT ks))) (r : PR G ι H keyT kvs ks) : ItOk G ι H (.fix (kvs.map fun p => .tup [p.1, p.2])) (Itit d o ks) := fun ι1 H1 s ys e q hys i => by
  simp only [srcAt, Option.some.injEq] at hys
  subst hys
  have hd1 : H1 d = some (.frz o (.dT ks)) := e.fix d _ rfl hd
  have hlen := pr_len r
  refine ⟨fun x hx => ?_, fun hl => ⟨hd1, by rw [List.length_map] at hl; omega⟩⟩
  rw [List.getElem?_map] at hx
  obtain ⟨p, hp, rfl⟩ := Option.map_eq_some_iff.1 hx
  have hil : i < kvs.length := (List.getElem?_eq_some_iff.1 hp).1
  refine ⟨⟨hd1, by omega⟩, fun x H' hy => ?_⟩
  obtain ⟨T, qa, k, v, hkv, rfl, hT, hq, rfl⟩ := hy
  obtain ⟨b, hb, e1, e2⟩ := paired_get r hp
  rw [hb] at hkv
  cases hkv
  refine ⟨.new hT, fun b hb => upd_ne fun z => q.tr hb (z ▸ hT), ?_⟩
  have k1 := keyT_back q e1 hq
  have v1 := RelD.monoW e _ e2
  simp only [RelD]
  refine ⟨T, _, rfl, ⟨q.off hT, upd_same⟩, ?_⟩
  simp only [RelDs]
  exact ⟨_, _, rfl, k1.mono (.new hT), _, _, rfl, v1.mono (.new hT), rfl⟩
section
variable {X : Cx} {W : WX} {e : Expr} {mo : ME} {apos cpos tpos : Pos} {elts : List Expr} {kk : Nat}
theorem vi_items (he : VE X W e mo) (hbase : attributeBase e "items" X.env (eval e X.env) = eval e X.env := by rfl) (hline : (apos.endLine == cpos.line) = true := by rfl) :
    VI X W (.Tuple elts kk tpos) (.Call (.Attribute e "items" apos) [] [] cpos) (mItems mo) :=
  pi_imp (pi_itemsT he hbase hline) fun σ H Rr ⟨ι, s, ρ, q, en, h⟩ => by
    refine rdE_on q en h fun x v ι1 H1 s1 e1 q1 r1 h1 => ?_
    split at h1
    · rename_i n
      split at h1
      · rename_i kvs hs
        obtain ⟨a, g1, g2, ks, g3, g4⟩ := q1.addr hs
        simp only [RelD] at r1
        obtain ⟨b, rfl, eb⟩ := r1
        rw [g1] at eb; cases eb
        refine ⟨a, ks, rfl, .inl ⟨g3, fun o => ?_⟩⟩
        have ex : Ext ι1 H1 ι1 (upd H1 a (.frz o (.dT ks))) := .write g2 (nfix g3 rfl)
        have pr : PR (cg X) ι1 (upd H1 a (.frz o (.dT ks))) keyT kvs ks := Paired.mapP g4 fun _ _ z => ⟨z.1, RelD.mono ex z.2⟩
        exact h1 ι1 _ ex (q1.write g1 (nfix g3 rfl) ⟨o, ks, upd_same, pr⟩) (Itit a o ks) (itok_items upd_same pr)
      · rename_i kvs hs
        obtain ⟨a, g1, g2, o, ks, g3, g4⟩ := q1.addr hs
        simp only [RelD] at r1
        obtain ⟨b, rfl, eb⟩ := r1
        rw [g1] at eb; cases eb
        exact ⟨a, ks, rfl, .inr ⟨o, g3, h1 ι1 _ (.refl _ _) q1 (Itit a o ks) (itok_items g3 g4)⟩⟩
      · exact h1.elim
    · exact h1.elim
end
end VL
namespace VL
open PySem PySem.Spec PyProof.Rows L2
open PySem.W (AlikeAll minD readsAll_len iter_listW iter_tupleW cmpIn_lt moved_old argBest_fold reads_keeps)

/-! ### min of tuples of numbers -/
section
variable {prog : Program} {w : World} {A : Around} {E : Value → Shared → Prop} {s : Shared}
theorem min_list_at {l : Addr} {vs : Array Value} {x : PyData} {xs : List PyData} {as : List Addr} {Q : Value → Shared → Prop} (hh : A.handled = none) (hl : s.heap.IsList l vs) (hr : ReadsAll s.heap vs.toList (x :: xs) as) (ha : AlikeAll (x :: xs)) (hu : A.units + 1 + PyData.depthAll (x :: xs) < cLine)
    (h : ∀ (i : Nat) v h' tk, vs[i]? = some v → (x :: xs).getD i .none = minD x xs → (∀ b o, s.heap.get? b = some o → h'.get? b = some o) → Q v { s with heap := h', toks := tk }) :
    wpAny (model prog w) A (call (.builtin "min") [.ref l]) Q E s := by
  have hn : vs.size = xs.length + 1 := readsAll_len hr
  refine call_min_walkH (iter_listW (A := A.in1) hh hl fun s₂ e W st hfp hw hk => ?_)
  refine ⟨_, _, _, _, _, _, _, s.heap, _, rfl, W, st, hfp, by omega, hw, hk, cmpIn_lt (A := A.in1) hr ha (by show A.units + 1 + _ < _; exact hu), fun v s' hP m => ?_⟩
  obtain ⟨h', tk, rfl, hk'⟩ := moved_old e rfl m
  have e1 : vs.size - 1 = xs.length := by omega
  have e2 := (argBest_fold PySem.W.dataLt PyData.none x xs xs.length (Nat.le_refl _)).2
  rw [List.take_length] at e2
  rw [e1] at hP
  exact h _ v h' tk hP e2 hk'
theorem call_min_twoH {a b : Value} {Q : Value → Shared → Prop}
    (h : wpAny (model prog w) A.in1 (pyIter (.ref s.heap.objs.size)) (fun it s₂ => ∃ I fp wr G n P St H bt, it = .ref I ∧ WalksS prog w A.in1 I fp wr G n P St ∧ St 0 s₂ ∧ (∀ b ∈ fp, b < s₂.heap.objs.size) ∧ 0 < n ∧
      (∀ b o, H.get? b = some o → b ∉ wr) ∧ (∀ b o, H.get? b = some o → s₂.heap.get? b = some o) ∧ CmpIn prog w A.in1 .Lt H P bt ∧ ∀ v s', P (argBest bt (n - 1)) v → Moved wr G s₂ s' → Q v s') E
      { s with heap := s.heap.push { cls := .type "tuple", data := .seq #[a, b] } }) :
    wpAny (model prog w) A (call (.builtin "min") [a, b]) Q E s := by
  have hname : (toString "min" ++ toString ".loop" : String) = "min.loop" := by decide
  refine call_function_tree F.kind_min F.plain_min F.entry_min (F.args_min2 _ _) ?_
  show wpAny _ A.in1 (Builtin.Builtins.bindParams "min" ["key", "default"] 0 ⟨[], []⟩ >>= _) _ _ s
  refine wpAny_bind (wpAny_of_eq (show Builtin.Builtins.bindParams "min" ["key", "default"] 0 ⟨[], []⟩ = pure [none, none] from rfl) ?_)
  show wpAny _ A.in1 (newTuple [a, b] >>= _) _ _ s
  refine wpAny_bind (wpAny_newObj_type ?_)
  refine wpAny_bind (wpAny_mono h (fun it s₂ h₂ => ?_) fun _ _ e => e)
  obtain ⟨I, fp, wr, G, n, P, St, H, bt, rfl, W, hst, hfp, hn, hw, hkeep, hcmp, hQ⟩ := h₂
  refine wpAny_bind (wpAny_newObj_type ?_)
  have hSf : s₂.heap.objs.size ∉ fp := fun hm => Nat.lt_irrefl _ (hfp _ hm)
  rw [hname]
  refine wpAny_pure ⟨plainId_quiet F.plain_min_loop _, codeAny_min_loop_firstH W H hw bt hcmp s₂.heap.objs.size hSf (fresh_in hkeep) _ hn (fun b o e => Heap.get?_push_of_some _ (hkeep b o e)) (W.frame 0 s₂ _ s₂.toks hst (Nat.le_refl _) fun b _ o e => Heap.get?_push_of_some _ e) (Heap.get?_push_size _ rfl) fun v s' hP hm => ?_⟩
  exact hQ v s' hP (Moved.drop_new (tk := s₂.toks) hm (Nat.le_refl _))
theorem min_two_at {a b : Value} {x y : PyData} {as bs : List Addr} {Q : Value → Shared → Prop} (hh : A.handled = none) (ra : Reads s.heap a x as) (rb : Reads s.heap b y bs) (ha : AlikeAll [x, y]) (hu : A.units + 1 + PyData.depthAll [x, y] < cLine)
    (h : ∀ (i : Nat) v h' tk, ([a, b] : List Value)[i]? = some v → [x, y].getD i .none = minD x [y] → (∀ b o, s.heap.get? b = some o → h'.get? b = some o) → Q v { s with heap := h', toks := tk }) :
    wpAny (model prog w) A (call (.builtin "min") [a, b]) Q E s := by
  refine call_min_twoH ?_
  generalize hsp : ({ s with heap := s.heap.push { cls := .type "tuple", data := .seq #[a, b] } } : Shared) = sp
  have hph : sp.heap = s.heap.push { cls := .type "tuple", data := .seq #[a, b] } := by rw [← hsp]
  have kp : ∀ c o, s.heap.get? c = some o → sp.heap.get? c = some o := fun c o e => by rw [hph]; exact Heap.get?_push_of_some _ e
  have hl : sp.heap.IsTuple s.heap.objs.size #[a, b] := by
    rw [hph]
    exact ⟨_, Heap.get?_push_size _ rfl, rfl, _, rfl⟩
  have hr : ReadsAll sp.heap (#[a, b] : Array Value).toList [x, y] (as ++ (bs ++ [])) := .cons (reads_keeps kp ra) (.cons (reads_keeps kp rb) .nil)
  refine iter_tupleW (A := A.in1) hh hl fun s₂ e W st hfp hw hk => ?_
  refine ⟨_, _, _, _, _, _, _, sp.heap, _, rfl, W, st, hfp, by show 0 < 2; omega, hw, hk, cmpIn_lt (A := A.in1) hr ha (by show A.units + 1 + _ < _; exact hu), fun v s' hP m => ?_⟩
  obtain ⟨h', tk, rfl, hk'⟩ := moved_old e rfl m
  have e2 := (argBest_fold PySem.W.dataLt PyData.none x [y] 1 (Nat.le_refl _)).2
  have hP1 : ([a, b] : List Value)[argBest (fun i j => PySem.W.dataLt ([x, y].getD i .none) ([x, y].getD j .none)) 1]? = some v := by
    rw [← Array.getElem?_toList] at hP
    exact hP
  have := h _ v h' tk hP1 e2 fun c o e => hk' c o (kp c o e)
  rw [← hsp]
  exact this
end
def pyT (l : List Int) : PyData := .tuple (l.map .int)
def ltI : List Int → List Int → Bool
  | [], [] => false
  | [], _ :: _ => true
  | _ :: _, [] => false
  | a :: as, b :: bs => if a = b then ltI as bs else decide (a < b)
theorem dataLt_pyT : ∀ a b : List Int, PySem.W.dataLt (pyT a) (pyT b) = ltI a b := by
  have key : ∀ a b : List Int, PyProof.Rows.lexLt PyProof.Rows.itemOrd (PySem.W.keyToksAll (a.map PyData.int)) (PySem.W.keyToksAll (b.map PyData.int)) = ltI a b := by
    intro a
    induction a with
    | nil =>
      intro b
      cases b with
      | nil => rfl
      | cons b bs => rfl
    | cons a as ih =>
      intro b
      cases b with
      | nil => rfl
      | cons b bs =>
        simp only [List.map_cons, ltI]
        by_cases h : a = b
        · subst h
          rw [PySem.W.dataLt_all_yes (x := .int a) (y := .int a) rfl (by simp [PyData.eqv]), ih, if_pos rfl]
        · rw [PySem.W.dataLt_all_no (x := .int a) (y := .int b) rfl (by simp [PyData.eqv, h]), if_neg h]
          exact PySem.W.dataLt_int a b
  intro a b
  exact key a b
theorem alike_pyT : ∀ a b : List Int, PySem.W.alike (pyT a) (pyT b) = true := by
  have key : ∀ a b : List Int, PySem.W.alikeAll (a.map PyData.int) (b.map PyData.int) = true := by
    intro a
    induction a with
    | nil => intro b; rfl
    | cons a as ih =>
      intro b
      cases b with
      | nil => rfl
      | cons b bs => simp only [List.map_cons, PySem.W.alikeAll, ih, PySem.W.alike, Bool.and_self]
  intro a b
  exact key a b
theorem alikeAll_pyT (ls : List (List Int)) : AlikeAll (ls.map pyT) := by
  refine ⟨fun x hx y hy => ?_, fun x hx e => ?_⟩
  · obtain ⟨a, _, rfl⟩ := List.mem_map.1 hx
    obtain ⟨b, _, rfl⟩ := List.mem_map.1 hy
    exact alike_pyT a b
  · obtain ⟨a, _, rfl⟩ := List.mem_map.1 hx
    cases e
theorem depth_ints : ∀ l : List Int, PyData.depthAll (l.map PyData.int) = 0
  | [] => rfl
  | n :: l => by simp [PyData.depthAll, PyData.depth, depth_ints l]
theorem depth_pyT : ∀ ls : List (List Int), PyData.depthAll (ls.map pyT) ≤ 1
  | [] => by decide
  | l :: ls => by
    have := depth_pyT ls
    simp only [List.map_cons, PyData.depthAll, pyT, PyData.depth, depth_ints]
    omega
def minI (l : List Int) (ls : List (List Int)) : List Int := ls.foldl (fun a y => if ltI y a = true then y else a) l
theorem minD_pyT : ∀ (ls : List (List Int)) (l : List Int), minD (pyT l) (ls.map pyT) = pyT (minI l ls)
  | [], l => rfl
  | y :: ls, l => by
    have ih := fun l => minD_pyT ls l
    unfold minD minI at ih ⊢
    simp only [List.map_cons, List.foldl_cons, dataLt_pyT]
    by_cases h : ltI y l = true
    · rw [if_pos h, if_pos h]; exact ih y
    · rw [if_neg h, if_neg h]; exact ih l
theorem pyT_inj {a b : List Int} (h : pyT a = pyT b) : a = b := by
  have : ∀ a b : List Int, a.map PyData.int = b.map PyData.int → a = b := by
    intro a
    induction a with
    | nil => intro b h; cases b with | nil => rfl | cons b bs => cases h
    | cons a as ih =>
      intro b h
      cases b with
      | nil => cases h
      | cons b bs =>
        simp only [List.map_cons, List.cons.injEq, PyData.int.injEq] at h
        rw [h.1, ih bs h.2]
  exact this a b (PyData.tuple.inj h)
abbrev rMinD (K : PySem.W.Frag) : List V → Hp → VK → Prop := fun vs H Q => ∃ (a : Addr) (us : List V) (x : PyData) (xs : List PyData), vs = [V.ref a] ∧ SqL K H a us ∧ DpAll K H us (x :: xs) ∧ AlikeAll (x :: xs) ∧ PyData.depthAll (x :: xs) ≤ 60 ∧ ∀ (i : Nat) (v : V), us[i]? = some v → (x :: xs).getD i .none = minD x xs → Q v H
abbrev rMin2D (K : PySem.W.Frag) : List V → Hp → VK → Prop := fun vs H Q => ∃ (a b : V) (x y : PyData), vs = [a, b] ∧ Dp K H a x ∧ Dp K H b y ∧ AlikeAll [x, y] ∧ PyData.depthAll [x, y] ≤ 60 ∧ ∀ (i : Nat) (v : V), [a, b][i]? = some v → [x, y].getD i .none = minD x [y] → Q v H
theorem vals_at {us : List V} {its : List Value} (r : Vals us its) {i : Nat} {u : Value} (h : its[i]? = some u) : ∃ v, us[i]? = some v ∧ RelV v u := by
  have hl : us.length = its.length := r.length
  have hi : i < its.length := (List.getElem?_eq_some_iff.1 h).1
  have e : us[i]? = some us[i] := List.getElem?_eq_getElem (by omega)
  obtain ⟨b, hb, rb⟩ := paired_get r e
  rw [h] at hb
  cases hb
  exact ⟨_, e, rb⟩
theorem call_minD {X : Cx} (hc : X.calm = true) (hu : X.A.units + 64 < cLine) : CallR X (.builtin "min") (rMinD X.K) := by
  intro pins s σ H vs us Q I r h
  obtain ⟨a, ws, x, xs, rfl, hs, hd, ha, hdep, q⟩ := h
  obtain ⟨its, rv, hl, _⟩ := I.list hs
  rw [Vals.ref1 r]
  obtain ⟨as, h4⟩ := Dp.readsAll I (x :: xs) _ its hd rv
  refine min_list_at (I.ok.hd hc) hl.isList (show ReadsAll s.heap its.toArray.toList (x :: xs) as from h4) ha (by omega) fun i v h' tk hv he hk => ?_
  obtain ⟨w, hw, rw'⟩ := vals_at rv (show its[i]? = some v by simpa using hv)
  exact ⟨w, H, I.kept hk, rw', q i w hw he⟩
theorem call_min2D {X : Cx} (hc : X.calm = true) (hu : X.A.units + 64 < cLine) : CallR X (.builtin "min") (rMin2D X.K) := by
  intro pins s σ H vs us Q I r h
  obtain ⟨a, b, x, y, rfl, hx, hy, ha, hdep, q⟩ := h
  obtain ⟨u1, u2, rfl, r1, r2⟩ := vals2 r
  obtain ⟨as, h1⟩ := Dp.reads I x a u1 hx r1
  obtain ⟨bs, h2⟩ := Dp.reads I y b u2 hy r2
  refine min_two_at (I.ok.hd hc) h1 h2 ha (by omega) fun i v h' tk hv he hk => ?_
  obtain ⟨w, hw, rw'⟩ := vals_at r hv
  exact ⟨w, H, I.kept hk, rw', q i w hw he⟩
/-! their mirrors -/
def toT : D → Option (List Int)
  | .tup ds => toI ds
  | _ => none
def toTs : List D → Option (List (List Int))
  | [] => some []
  | d :: ds => match toT d, toTs ds with
    | some l, some ls => some (l :: ls)
    | _, _ => none
def fMinT : FA := fun xs s => match xs with
  | [x] => (match (asL s x).bind toTs with
    | some (l :: ls) => .ok (.tup ((minI l ls).map .int)) s
    | _ => .bad)
  | _ => .bad
def fMin2T : FA := fun xs s => match xs with
  | [x, y] => (match toT x, toT y with
    | some a, some b => .ok (.tup ((minI a [b]).map .int)) s
    | _, _ => .bad)
  | _ => .bad
theorem toI_D : ∀ {ds : List D} {ns : List Int}, toI ds = some ns → ds = ns.map D.int
  | [], ns, h => by simp only [toI, Option.some.injEq] at h; subst h; rfl
  | d :: ds, ns, h => by
    cases d with
    | int i =>
      simp only [toI] at h
      obtain ⟨ms, h1, rfl⟩ := Option.map_eq_some_iff.1 h
      rw [toI_D h1]
      rfl
    | _ => simp [toI] at h
theorem toI_pys : ∀ ns : List Int, toPys (ns.map D.int) = some (ns.map PyData.int)
  | [] => rfl
  | n :: ns => by simp [toPys, toPy, toI_pys ns]
theorem toT_D {d : D} {l : List Int} (h : toT d = some l) : d = .tup (l.map D.int) := by
  cases d with
  | tup ds => rw [toI_D (show toI ds = some l from h)]
  | _ => cases h
theorem toT_py {d : D} {l : List Int} (h : toT d = some l) : toPy d = some (pyT l) := by
  rw [toT_D h]
  simp only [toPy, toI_pys, Option.map_some, pyT]
theorem toTs_D : ∀ {ds : List D} {ls : List (List Int)}, toTs ds = some ls → ds = ls.map fun l => D.tup (l.map D.int)
  | [], ls, h => by simp only [toTs, Option.some.injEq] at h; subst h; rfl
  | d :: ds, ls, h => by
    simp only [toTs] at h
    split at h
    · rename_i l ls' h1 h2
      cases h
      rw [List.map_cons, ← toT_D h1, ← toTs_D h2]
    · cases h
theorem toTs_pys : ∀ {ds : List D} {ls : List (List Int)}, toTs ds = some ls → toPys ds = some (ls.map pyT)
  | [], ls, h => by simp only [toTs, Option.some.injEq] at h; subst h; rfl
  | d :: ds, ls, h => by
    simp only [toTs] at h
    split at h
    · rename_i l ls' h1 h2
      cases h
      simp [toPys, toT_py h1, toTs_pys h2]
    · cases h
section
variable {G : Cg} {W : WX}
theorem v_minT : CallV G W (rMinD G.K) fMinT := fun ι H s xs vs Q q r h => by
  unfold fMinT at h
  split at h
  · split at h
    · rename_i l ls hn
      obtain ⟨v, rfl, r1⟩ := rel1 r
      obtain ⟨ds, h1, h2⟩ := Option.bind_eq_some_iff.mp hn
      obtain ⟨a, us, rfl, t, k⟩ := asL_at q r1 h1
      refine ⟨a, us, pyT l, ls.map pyT, rfl, t, dps_of ds k (toTs_pys h2), alikeAll_pyT (l :: ls), Nat.le_trans (depth_pyT (l :: ls)) (by omega), fun i u hu he => ?_⟩
      rw [minD_pyT, ← List.map_cons] at he
      have hi : i < us.length := (List.getElem?_eq_some_iff.1 hu).1
      have hle : us.length = ds.length := k.len
      have hD := toTs_D h2
      have hdl : ds.length = (l :: ls).length := by rw [hD, List.length_map]
      have hil : i < (l :: ls).length := by omega
      have e1 : (l :: ls)[i] = minI l ls := by
        rw [List.getD_eq_getElem?_getD, List.getElem?_map, List.getElem?_eq_getElem hil] at he
        exact pyT_inj he
      have e2 : ds[i]? = some (.tup ((minI l ls).map D.int)) := by
        rw [hD, List.getElem?_map, List.getElem?_eq_getElem hil, e1]
        rfl
      obtain ⟨u', hu', ru⟩ := k.get e2
      rw [hu] at hu'
      cases hu'
      exact h.val q ru
    · exact h.elim
  · exact h.elim
theorem v_min2T : CallV G W (rMin2D G.K) fMin2T := fun ι H s xs vs Q q r h => by
  unfold fMin2T at h
  split at h
  · split at h
    · rename_i x y _ _ a b ha hb
      simp only [RelDs] at r
      obtain ⟨v1, _, rfl, r1, v2, _, rfl, r2, rfl⟩ := r
      refine ⟨v1, v2, pyT a, pyT b, rfl, dp_of _ r1 (toT_py ha), dp_of _ r2 (toT_py hb), alikeAll_pyT [a, b], Nat.le_trans (depth_pyT [a, b]) (by omega), fun i u hu he => ?_⟩
      rw [show minD (pyT a) [pyT b] = pyT (minI a [b]) from minD_pyT [b] a] at he
      match i, hu, he with
      | 0, hu, he =>
        cases hu
        have := pyT_inj (show pyT a = pyT (minI a [b]) from he)
        rw [toT_D ha] at r1
        exact h.val q (by rw [← this]; exact r1)
      | 1, hu, he =>
        cases hu
        have := pyT_inj (show pyT b = pyT (minI a [b]) from he)
        rw [toT_D hb] at r2
        exact h.val q (by rw [← this]; exact r2)
      | i + 2, hu, _ => simp at hu
    · exact h.elim
  · exact h.elim
end
end VL
namespace VL
open PySem PySem.Spec PyProof.Rows L2

/-! ### d != {} -/
section
variable {prog : Program} {w : World} {A : Around} {E : Value → Shared → Prop} {s : Shared}
theorem same_raw {nm : String} {a b : Addr} {es es' : Array DictEntry} {ep ep' : Nat} {Q : Bool → Shared → Prop} (ha : (a == sysModules) = false) (hb : (b == sysModules) = false) (da : DT.Raw s.heap a es ep) (db : DT.Raw s.heap b es' ep') (h0 : es'.size = 0)
    (h : Q (decide (es.size = 0)) s) : wpAny (model prog w) A (Builtin.Dict.samePairs nm a b) Q E s := by
  obtain ⟨oa, hoa, _, hda⟩ := da
  obtain ⟨ob, hob, _, hdb⟩ := db
  unfold Builtin.Dict.samePairs Builtin.Dict.showsAll
  rw [if_neg (show ¬ (a == sysModules) = true by rw [ha]; exact Bool.false_ne_true), if_neg (show ¬ (b == sysModules) = true by rw [hb]; exact Bool.false_ne_true)]
  refine wpAny_bind (wpAny_pure (wpAny_bind (wpAny_pure ?_)))
  refine wpAny_bind (wpAny_dictEntries hoa hda ?_)
  dsimp only
  refine wpAny_bind (wpAny_dictEntries hob hdb ?_)
  by_cases hsz : es.size = es'.size
  case neg =>
    rw [if_pos (by simpa using hsz)]
    rw [decide_eq_false (by omega)] at h
    exact wpAny_bind (wpAny_rule (wpAny_pure h))
  case pos =>
    have hz : es.size = 0 := by omega
    rw [decide_eq_true hz] at h
    rw [if_neg (by rw [hsz]; simp)]
    refine wpAny_bind (wpAny_dictEpoch hoa hda ?_)
    refine wpAny_bind ?_
    rw [Std.Legacy.Range.forIn_eq_forIn_range']
    simp only [Std.Legacy.Range.size, Nat.sub_zero, Nat.add_sub_cancel, Nat.div_one]
    refine wpAny_forIn_list _ (fun rest q s' => s' = s ∧ q = (none, ()) ∧ rest = []) _ ?_ ?_ _ _ ⟨rfl, rfl, by rw [hz]; rfl⟩
    · rintro x rest q s' ⟨rfl, rfl, hr⟩
      cases hr
    · rintro q s' ⟨rfl, rfl, _⟩
      refine wpAny_pure ?_
      exact h
theorem ne_raw {a b : Addr} {es es' : Array DictEntry} {ep ep' : Nat} {Q : Value → Shared → Prop} (ha : (a == sysModules) = false) (hb : (b == sysModules) = false) (da : DT.Raw s.heap a es ep) (db : DT.Raw s.heap b es' ep') (h0 : es'.size = 0) (hu : A.units < cLine)
    (h : Q (.bool (!decide (es.size = 0))) s) : wpAny (model prog w) A (compareOp .NotEq (.ref a) (.ref b)) Q E s := by
  refine wpAny_richCompare_same_room (op := .NotEq) da.typeIs db.typeIs PySem.F.slot_dict_ne (wpAny_call_entry PySem.F.slot_dict_ne da.typeIs PySem.F.entry_dict_ne ?_ (PySem.F.args_dict_ne_2 _ _)) hu
  show wpAny _ _ (Builtin.Dict.dictSlotArgs "__ne__" ⟨[.ref a, .ref b], []⟩ >>= _) _ _ s
  refine wpAny_bind ?_
  unfold Builtin.Dict.dictSlotArgs
  refine wpAny_bind (wpAny_notOrdered_dict da.typeIs ?_)
  show wpAny _ _ (pure (Value.ref a, Value.ref b)) _ _ s
  refine wpAny_pure ?_
  refine wpAny_bind (wpAny_isInstance (T := "dict") db.typeIs PySem.F.sub_dict_dict ?_)
  simp only [Bool.not_true, Bool.false_eq_true, if_false]
  refine wpAny_bind (wpAny_pure (wpAny_bind (wpAny_pure ?_)))
  refine wpAny_bind (same_raw ha hb da db h0 ?_)
  refine wpAny_pure ⟨_, rfl, ?_, ?_⟩
  · exact fun x => nomatch x
  · cases hz : decide (es.size = 0) <;> rw [hz] at h <;> exact h
end
def rNeE : R2 := fun x y H Q => ∃ a b ks, x = .ref a ∧ y = .ref b ∧ Rd H a (.dT ks) ∧ Rd H b (.dT []) ∧ Q (.bl (!decide (ks.length = 0))) H
theorem op_neE {X : Cx} (hu : X.A.units + 64 < cLine) : OpR X (compareOp .NotEq) rNeE := by
  intro pins s σ H x y v u Q I rx ry h
  obtain ⟨a, b, ks, rfl, rfl, ea, eb, q⟩ := h
  obtain rfl : v = Value.ref a := rx
  obtain rfl : u = Value.ref b := ry
  obtain ⟨_, sa, xs, kx, oa, es, ep, hoa, hxa, hda, hea, _⟩ := dt_rd I.hok ea
  obtain ⟨_, sb, ys, ky, ob, es', ep', hob, hxb, hdb, heb, _⟩ := dt_rd I.hok eb
  have l1 : es.size = xs.length := size_of_entries hea
  have l2 : ks.length = xs.length := Paired.length kx
  have l3 : es'.size = ys.length := size_of_entries heb
  have l4 : ([] : List (List Key × V)).length = ys.length := Paired.length ky
  refine ne_raw sa sb ⟨oa, hoa, hxa, hda⟩ ⟨ob, hob, hxb, hdb⟩ (by rw [l3, ← l4]; rfl) (by omega) ⟨.bl _, H, I, rfl, ?_⟩
  rw [show es.size = ks.length by omega]
  exact q
def opNeE : F2 := fun x y s => match dkeys s x, dkeys s y with
  | some ds, some [] => .ok (.bl (!decide (ds.length = 0))) s
  | _, _ => .bad
theorem v_neE {G : Cg} {W : WX} : OpV G W rNeE opNeE := fun ι H s x y v u Q q r1 r2 h => by
  unfold opNeE at h
  split at h
  · rename_i ds h1 h2
    obtain ⟨a, kvs, ks, rfl, g1, g2, rfl⟩ := dkeys_at q r1 h1
    obtain ⟨b, kvs', ks', rfl, g3, g4, e⟩ := dkeys_at q r2 h2
    have l1 := pr_len g2
    have l2 := pr_len g4
    have : kvs' = [] := by
      cases kvs' with
      | nil => rfl
      | cons _ _ => cases e
    subst this
    have : ks' = [] := List.length_eq_zero_iff.1 l2.symm
    subst this
    refine ⟨a, b, ks, rfl, rfl, g1, g3, ?_⟩
    rw [List.length_map, l1] at h
    exact h.val q (rb _)
  · exact h.elim
end VL
namespace VL
open PySem PySem.Spec PyProof.Rows L2

/-! ### sorted of tuples of ints, any number of them, any lengths but 0 -/
section
variable {prog : Program} {w : World} {A : Around} {E : Value → Shared → Prop} {s : Shared} {Q : Bool → Shared → Prop}
theorem lex_intsL {b : Bool} {xs ys : List Value} {ns ms : List Int} (i : Nat) (hx : IntsAre xs ns) (hy : IntsAre ys ms)
    (h : Q (HT.lexLt ns ms) s) : PySem.W.KatLex prog w A b (decide (ns.length < ms.length)) Q (xs.zip ys) i s := by
  have key : ∀ (fin : Bool) (xs ys : List Value) (ns ms : List Int) (i : Nat), IntsAre xs ns → IntsAre ys ms → fin = decide (ns.length < ms.length) → Q (HT.lexLt ns ms) s → PySem.W.KatLex prog w A b fin Q (xs.zip ys) i s := by
    intro fin xs ys ns ms i hx
    induction hx generalizing ys ms i with
    | nil =>
      intro hy e h
      cases hy with
      | nil => exact PySem.W.kat_nil (by rw [e]; exact h)
      | cons q u hy => exact PySem.W.kat_nil (by rw [e]; exact h)
    | @cons p t xs ns hx ih =>
      intro hy e h
      cases hy with
      | nil => exact PySem.W.kat_nil (by rw [e]; exact h)
      | @cons q u ys ms hy =>
        show PySem.W.KatLex prog w A b fin Q ((Value.int p t, Value.int q u) :: xs.zip ys) i s
        refine PySem.W.kat_cons (wpAny_eqBool_int ?_)
        rw [HT.lexLt_cons] at h
        by_cases e1 : p = q
        · subst e1
          rw [beq_self_eq_true]
          rw [if_pos rfl] at h
          refine PySem.W.kat_yes ?_
          first
            | exact ih ys ms (i + 1) hy (by rw [e]; simp) h
            | exact ih (i + 1) hy (by rw [e]; simp) h
        · rw [show (p == q) = false from beq_eq_false_iff_ne.mpr e1]
          rw [if_neg e1] at h
          exact PySem.W.kat_no (TS.oneLt_ints _ h)
  exact key _ xs ys ns ms i hx hy rfl h
theorem tups_cmpL {vs : List Value} {k : Value → List Int} (hp : ∀ v ∈ vs, TS.TupInts s.heap v (k v)) : SrtO.Cmp prog w A s (tuples' true) (fun p => p.1 ∈ vs) (SrtO.lt2 fun v u => HT.lexLt (k v) (k u)) := by
  intro p q hm hm'
  obtain ⟨a, xs, e1, ⟨o, ho, hc, n, hdt⟩, i⟩ := hp _ hm
  obtain ⟨a', ys, e2, ⟨o', ho', hc', n', hdt'⟩, i'⟩ := hp _ hm'
  show wpAny (model prog w) A (keyLt' (tuples' true) p.1 q.1) (fun r s' => s' = s ∧ r = HT.lexLt (k p.1) (k q.1)) (fun _ _ => False) s
  generalize k p.1 = ns at i ⊢
  generalize k q.1 = ms at i' ⊢
  rw [e1, e2]
  refine PySem.W.kat_lt ho hdt ho' hdt' ?_
  have sz : decide (xs.size < ys.size) = decide (ns.length < ms.length) := by
    have l1 := i.length
    have l2 := i'.length
    rw [Array.length_toList] at l1 l2
    rw [l1, l2]
  rw [sz]
  exact lex_intsL 0 i i' ⟨rfl, rfl⟩
theorem tups_sortableL {a : Addr} {vs : List Value} {k : Value → List Int} (h0 : 0 < vs.length) (hp : ∀ v ∈ vs, TS.TupInts s.heap v (k v)) (hk : ∀ v ∈ vs, k v ≠ []) (ha : ∀ o, s.heap.get? a = some o → o.cls ≠ .type "tuple") : SrtO.SortableO prog w A s a vs fun v u => HT.lexLt (k v) (k u) := by
  intro h' keep
  have hp' : ∀ v ∈ vs, TS.TupInts h' v (k v) := fun v hm => (hp v hm).keeps fun b o e c => keep b o (fun z => by subst z; exact ha o e c) e
  have firsts : ∀ us : List Value, (∀ u ∈ us, u ∈ vs) → ∃ fs, PySem.W.KatTups h' us fs ∧ fs.length = us.length ∧ ∀ f, f ∈ fs → ∃ n t, f = Value.int n t := by
    intro us
    induction us with
    | nil => exact fun _ => ⟨[], PySem.W.KatTups.nil, rfl, fun f hf => by simp at hf⟩
    | cons v us ih =>
      intro hu
      obtain ⟨fs, k1, hl, hi⟩ := ih fun u h => hu u (List.mem_cons_of_mem _ h)
      obtain ⟨a1, xs, rfl, ⟨o, ho, hc, n, hdt⟩, i⟩ := hp' v (hu v (List.mem_cons_self ..))
      have hne := hk _ (hu _ (List.mem_cons_self ..))
      obtain ⟨y, ys, e⟩ : ∃ y ys, xs.toList = y :: ys := by
        cases q : xs.toList with
        | nil =>
          rw [q] at i
          have l := i.length
          exact absurd (List.length_eq_zero_iff.1 l.symm) hne
        | cons y ys => exact ⟨y, ys, rfl⟩
      obtain ⟨m, t, hy⟩ := i.all y (by rw [e]; exact List.mem_cons_self ..)
      refine ⟨y :: fs, PySem.W.KatTups.cons ho hc hdt ?_ k1, by simp [hl], ?_⟩
      · have z := congrArg (fun l : List Value => l[0]?) e
        simpa using z
      · intro f hf
        rcases List.mem_cons.mp hf with rfl | hf
        · exact ⟨m, t, hy⟩
        · exact hi f hf
  obtain ⟨fs, h1, h2, h3⟩ := firsts vs fun _ h => h
  refine ⟨tuples' true, fun Q E hq => ?_, tups_cmpL hp'⟩
  refine PySem.W.kat_kind (T := .type "int") h1 (by omega) (fun f hm => ?_) (by rfl) ?_
  · obtain ⟨x, t, rfl⟩ := h3 f hm
    exact PySem.W.Looks.of_pure rfl
  · have e : (Value.type "int" != Value.type "tuple") = true := by first | decide +kernel | rfl | decide
    rw [e]
    exact hq
theorem sorted_tupsL {l : Addr} {vs : List Value} {k : Value → List Int} {Q : Value → Shared → Prop} (hl : s.heap.IsList l vs.toArray) (hz : vs.length ≤ sizeLine) (hp : ∀ v ∈ vs, TS.TupInts s.heap v (k v)) (hk : ∀ v ∈ vs, k v ≠ [])
    (h : ∀ (h' : Heap) (d : Addr) (out : List Value), SrtO.Srtd (fun v u => HT.lexLt (k v) (k u)) out → SrtO.Stb (fun v u => HT.lexLt (k v) (k u)) out vs → (∀ b o, s.heap.get? b = some o → h'.get? b = some o) → s.heap.objs.size ≤ d → (∃ n, h'.get? d = some (seqObj "list" out.toArray n)) → Q (.ref d) { s with heap := h' }) :
    wpAny (model prog w) A (call (.builtin "sorted") [.ref l]) Q E s := by
  refine SrtO.sorted_ord (NtL.swo_lexL k) hl hz (fun h2 h₁ a ha kk => ?_) fun out hs hb => ?_
  · refine tups_sortableL (s := { s with heap := h₁ }) (by omega) (fun v hm => (hp v hm).keeps fun b o e _ => (kk b o e).2) hk fun o e => ?_
    have e' : some o = some (seqObj "list" vs.toArray 0) := e.symm.trans ha
    cases e'
    intro c
    exact absurd (Value.type.inj c) (by decide)
  · exact h _ _ out hs hb (fun b o e => sortedAll_old e) (Nat.le_succ _) (sortedAll_at s.heap vs out.toArray)
end
def rSortedTL (K : PySem.W.Frag) : List V → Hp → VK → Prop := fun vs H Q => ∃ (a : Addr) (xs : List V) (k : V → List Int), vs = [V.ref a] ∧ SqL K H a xs ∧ (∀ x ∈ xs, k x ≠ [] ∧ ∃ t, x = V.ref t ∧ H t = some (.tup ((k x).map V.int))) ∧
  ∀ ys p, ys.Pairwise (fun x y => HT.lexLt (k y) (k x) = false) → ys.Perm xs → H p = none → Q (.ref p) (upd H p (.lst ys))
theorem cr_sortedTL {X : Cx} : CallR X (.builtin "sorted") (rSortedTL X.K) := by
  intro pins s σ H vs us Q I r h
  obtain ⟨a, xs, k, rfl, hs, hx, q⟩ := h
  obtain ⟨its, rv, hl, hz⟩ := I.list hs
  obtain ⟨u, rfl, ru⟩ := vals1 r
  obtain rfl : u = Value.ref a := ru
  obtain ⟨e1, e2⟩ := refs_back rv fun x m => by
    obtain ⟨_, t, e, _⟩ := hx x m
    exact ⟨t, e⟩
  refine sorted_tupsL (k := fun u => k (backV u)) hl.isList (by rw [← rv.length]; exact hz) (fun v hv => ?_) (fun v hv => ?_) fun h' d out h1 h2 kp hd hn => ?_
  · obtain ⟨t, rfl⟩ := e2 v hv
    have hm : V.ref t ∈ xs := by rw [e1]; exact List.mem_map.mpr ⟨_, hv, rfl⟩
    obtain ⟨_, t', e, ht⟩ := hx _ hm
    cases e
    obtain ⟨_, its2, r2, o, ho, hc, n, hd⟩ := I.hok _ _ ht
    exact ⟨t, its2.toArray, rfl, ⟨o, ho, hc, n, hd⟩, ints_of_vals r2⟩
  · obtain ⟨t, rfl⟩ := e2 v hv
    have hm : V.ref t ∈ xs := by rw [e1]; exact List.mem_map.mpr ⟨_, hv, rfl⟩
    exact (hx _ hm).1
  · have h3 : ∀ u ∈ out, ∃ a, u = Value.ref a := fun u hu => e2 u (h2.perm.mem_iff.mp hu)
    obtain ⟨n, hn⟩ := hn
    have hb : (out.map backV).Perm xs := by
      rw [e1]
      exact h2.perm.map backV
    refine ⟨.ref d, upd H d (.lst (out.map backV)), I.laid (t' := s.toks) kp hd ⟨?_, out, n, vals_back h3, hn⟩, rfl, q _ d (List.pairwise_map.mpr h1) hb (I.hok.fresh hd)⟩
    rw [hb.length_eq]
    exact hz
/-! its mirror -/
def sortLe (a b : List Int) : Bool := !HT.lexLt b a
def sortL (ls : List (List Int)) : List (List Int) := ls.mergeSort sortLe
theorem lexLt_anti : ∀ a b : List Int, HT.lexLt a b = false → HT.lexLt b a = false → a = b
  | [], [], _, _ => rfl
  | [], y :: ys, h, _ => by rw [HT.lexLt_nil_cons] at h; cases h
  | x :: xs, [], _, h => by rw [HT.lexLt_nil_cons] at h; cases h
  | x :: xs, y :: ys, h1, h2 => by
    rw [HT.lexLt_cons] at h1 h2
    by_cases e : x = y
    · subst e
      rw [if_pos rfl] at h1 h2
      rw [lexLt_anti xs ys h1 h2]
    · rw [if_neg e] at h1
      rw [if_neg (Ne.symm e)] at h2
      simp at h1 h2
      omega
theorem lexLt_self : ∀ a : List Int, HT.lexLt a a = false
  | [] => rfl
  | x :: xs => by rw [HT.lexLt_cons, if_pos rfl]; exact lexLt_self xs
theorem sortL_perm (ls : List (List Int)) : (sortL ls).Perm ls := List.mergeSort_perm ..
theorem sortL_pw (ls : List (List Int)) : (sortL ls).Pairwise fun a b => HT.lexLt b a = false := by
  have := List.pairwise_mergeSort (le := sortLe) (fun a b c h1 h2 => by
    simp only [sortLe, Bool.not_eq_true'] at h1 h2 ⊢
    exact NtL.lex_tr _ _ _ h1 h2) (fun a b => by
    unfold sortLe
    cases h : HT.lexLt b a with
    | false => rfl
    | true => rw [NtL.lex_asym _ _ h]; rfl) ls
  exact this.imp fun h => by simpa [sortLe] using h
theorem sortL_of {ms ls : List (List Int)} (p : ms.Perm ls) (w : ms.Pairwise fun a b => HT.lexLt b a = false) : ms = sortL ls :=
  (p.trans (sortL_perm ls).symm).eq_of_pairwise (fun a b _ _ h1 h2 => lexLt_anti a b h2 h1) w (sortL_pw ls)
def fSortedTL : FA := fun xs s => match xs with
  | [x] => (match (asL s x).bind toTs with
    | some ls => if ls.all (fun l => !l.isEmpty) = true then .ok (.lst ((sortL ls).map fun l => .tup (l.map .int))) s else .bad
    | none => .bad)
  | _ => .bad
section
variable {G : Cg} {ι : Z} {H : Hp}
/-- the ints of a tuple of the heap -/
def intsV (H : Hp) : V → List Int
  | .ref a => match H a with
    | some (.tup xs) => xs.map fun v => match v with
      | .int i => i
      | _ => 0
    | _ => []
  | _ => []
theorem rel_tupI {l : List Int} {v : V} (r : RelD G ι H (.tup (l.map D.int)) v) : intsV H v = l ∧ ∃ t, v = .ref t ∧ H t = some (.tup (l.map V.int)) := by
  simp only [RelD] at r
  obtain ⟨a, xs, rfl, h2, h3⟩ := r
  have e := RelDs.ints h3
  subst e
  refine ⟨?_, a, rfl, h2.2⟩
  simp only [intsV, h2.2, List.map_map]
  conv => rhs; rw [← List.map_id l]
  exact List.map_congr_left fun _ _ => rfl
theorem rels_tupI : ∀ {ls : List (List Int)} {vs : List V}, RelDs G ι H (ls.map fun l => .tup (l.map D.int)) vs → vs.map (intsV H) = ls ∧ ∀ v ∈ vs, RelD G ι H (.tup ((intsV H v).map D.int)) v
  | [], vs, r => by
    simp only [List.map_nil, RelDs] at r
    subst r
    exact ⟨rfl, fun v h => by cases h⟩
  | l :: ls, vs, r => by
    simp only [List.map_cons, RelDs] at r
    obtain ⟨x, t, rfl, r1, r2⟩ := r
    obtain ⟨h1, h2⟩ := rels_tupI r2
    have e := (rel_tupI r1).1
    refine ⟨by rw [List.map_cons, h1, e], fun v hv => ?_⟩
    rcases List.mem_cons.1 hv with rfl | hv
    · rw [e]; exact r1
    · exact h2 v hv
theorem rels_all : ∀ {vs : List V}, (∀ v ∈ vs, RelD G ι H (.tup ((intsV H v).map D.int)) v) → RelDs G ι H ((vs.map (intsV H)).map fun l => .tup (l.map D.int)) vs
  | [], _ => .nil
  | v :: vs, h => .cons (h v (List.mem_cons_self ..)) (rels_all fun u hu => h u (List.mem_cons_of_mem _ hu))
end
theorem v_sortedTL {G : Cg} {W : WX} : CallV G W (rSortedTL G.K) fSortedTL := fun ι H s xs vs Q q r h => by
  unfold fSortedTL at h
  split at h
  · rename_i x
    split at h
    · rename_i ls hls
      split at h
      · rename_i hne
        obtain ⟨ds, h1, h2⟩ := Option.bind_eq_some_iff.1 hls
        obtain ⟨v, rfl, r1⟩ := rel1 r
        obtain ⟨a, us, rfl, t, r2⟩ := asL_at q r1 h1
        rw [toTs_D h2] at r2
        obtain ⟨e1, e2⟩ := rels_tupI r2
        refine ⟨a, us, intsV H, rfl, t, fun u hu => ⟨?_, ?_⟩, fun ys p pw pm hp => ?_⟩
        · have := List.all_eq_true.1 hne (intsV H u) (by rw [← e1]; exact List.mem_map.2 ⟨u, hu, rfl⟩)
          simpa using this
        · obtain ⟨t, h3, h4⟩ := (rel_tupI (e2 u hu)).2
          exact ⟨t, h3, h4⟩
        · have e3 : ys.map (intsV H) = sortL ls := sortL_of (by rw [← e1]; exact pm.map _) (List.pairwise_map.2 pw)
          have r3 := rels_all (G := G) (ι := ι) (H := H) (vs := ys) fun u hu => e2 u (pm.mem_iff.1 hu)
          rw [e3] at r3
          exact h.newL q r3 hp
      · exact h.elim
    · exact h.elim
  · exact h.elim
end VL
namespace VL
open PySem PySem.Spec PyProof.Rows L2

/-! ### xs.pop(i), xs.index(x) of lists -/
theorem RelDs.erase {G : Cg} {ι : Z} {H : Hp} : ∀ {xs : List D} {vs : List V}, RelDs G ι H xs vs → ∀ k, RelDs G ι H (xs.eraseIdx k) (vs.eraseIdx k)
  | [], vs, r, k => by simp only [RelDs] at r; subst r; simp only [List.eraseIdx_nil]; exact .nil
  | x :: xs, vs, r, 0 => by
    simp only [RelDs] at r
    obtain ⟨v, t, rfl, _, r2⟩ := r
    exact r2
  | x :: xs, vs, r, k + 1 => by
    simp only [RelDs] at r
    obtain ⟨v, t, rfl, r1, r2⟩ := r
    simp only [List.eraseIdx_cons_succ]
    exact .cons r1 (RelDs.erase r2 k)
noncomputable def fPopAt (x y : D) (s : S) : R D := match x, y with
  | .obj n, .int i => (match s[n]? with
    | some (.lst ds) => if inR i then (match seqIndex? i ds.length with
      | some k => (match ds[k]? with
        | some d => .ok d (s.set n (.lst (ds.eraseIdx k)))
        | none => .bad)
      | none => .bad) else .bad
    | _ => .bad)
  | _, _ => .bad
noncomputable def mPopAt (mo mi : ME) : ME := fun ρ s => (mo ρ s).bnd fun x s1 => if isLstO s1 x = true then (mi ρ s1).bnd fun y s2 => fPopAt x y s2 else .bad
def fIndex (x y : D) (s : S) : R D := match asL s x with
  | some ds => if flatD y = true ∧ ds.all flatD = true then (match ds.findIdx? fun d => eqF d y with
    | some j => .ok (.int (j : Nat)) s
    | none => .bad) else .bad
  | none => .bad
def mIndex (mo mi : ME) : ME := fun ρ s => (mo ρ s).bnd fun x s1 => if (asL s1 x).isSome = true then (mi ρ s1).bnd fun y s2 => fIndex x y s2 else .bad
section
variable {X : Cx} {W : WX} {o e : Expr} {mo me : ME} {apos cpos : Pos}
theorem ve_popAt (ho : VE X W o mo) (he : VE X W e me)
    (hbase : attributeBase o "pop" X.env (eval o X.env) = eval o X.env := by rfl)
    (hfew : ((backTo cpos (starEach [e] X.env)).all (fun x => !x.1) && (backToKw cpos (keywordEach [] X.env)).all (fun x => x.1.isSome)
      && decide ([e].length + ([] : List Keyword).length + (if ([] : List Keyword).isEmpty then 0 else 1) < 30)) = true := by rfl)
    (hline : (apos.endLine == cpos.line) = true := by rfl) (hs : starEach [e] X.env = (false, eval e X.env) :: starEach [] X.env := by rfl) (hplain : (backTo cpos (starEach [] X.env)).any (·.1) = false := by rfl) :
    VE X W (.Call (.Attribute o "pop" apos) [e] [] cpos) (mPopAt mo me) :=
  pe_imp (pe_bm PySem.F.plainAttrs_list PySem.F.slot_list_pop PySem.F.type_list_pop mt_popAt ho (pa_cons he pa_nil hs) hbase hfew hline hs hplain) fun σ H Q ⟨ι, s, ρ, q, e, h⟩ => by
    refine rdE_on q e h fun x v ι1 H1 s1 e1 q1 r1 h1 => ?_
    split at h1
    · rename_i hi
      cases x with
      | obj n =>
        simp only [isLstO] at hi
        split at hi
        · rename_i ds hd
          obtain ⟨a, g1, g2, ys, g3, _⟩ := q1.addr hd
          simp only [RelD] at r1
          obtain ⟨b, rfl, eb⟩ := r1
          rw [g1] at eb; cases eb
          refine ⟨.inl ⟨rfl, ys, .inl (.inl g3)⟩, rdE_on q1 (e.mono e1) h1 fun y w ι2 H2 s2 e2 q2 r2 h2 => ?_⟩
          unfold fPopAt at h2
          split at h2
          · rename_i n' i hn
            cases hn
            split at h2
            · rename_i es he
              split at h2
              · rename_i hir
                split at h2
                · rename_i k hk
                  split at h2
                  · rename_i d hdk
                    obtain ⟨a', k1, k2, zs, k3, k4⟩ := q2.addr he
                    rw [e2.get g1] at k1; cases k1
                    obtain ⟨u, hu, ru⟩ := k4.get hdk
                    obtain ⟨hi1, hi2⟩ := hir
                    refine ⟨a, zs, i, k, u, rfl, by rw [relI r2], k3, by omega, by omega, by rw [k4.len]; exact hk, hu, ?_⟩
                    refine h2 ι2 _ (.write k2 (nfix k3 rfl)) (q2.write (e2.get g1) (nfix k3 rfl) ⟨_, upd_same, ?_⟩) u (ru.mono (.write k2 (nfix k3 rfl)))
                    exact (k4.erase k).mono (.write k2 (nfix k3 rfl))
                  · exact h2.elim
                · exact h2.elim
              · exact h2.elim
            · exact h2.elim
          · exact h2.elim
        · cases hi
      | _ => cases hi
    · exact h1.elim
theorem findIdx_spec {α : Type} {p : α → Bool} {xs : List α} {j : Nat} (h : xs.findIdx? p = some j) : ∃ z, xs[j]? = some z ∧ p z = true ∧ ∀ m z', m < j → xs[m]? = some z' → p z' = false := by
  rw [List.findIdx?_eq_some_iff_getElem] at h
  obtain ⟨h1, h2, h3⟩ := h
  refine ⟨xs[j], List.getElem?_eq_getElem h1, h2, fun m z' hm hz => ?_⟩
  obtain ⟨h4, rfl⟩ := List.getElem?_eq_some_iff.1 hz
  simpa using h3 m hm
theorem rel_flats {G : Cg} {ι : Z} {H : Hp} : ∀ {xs : List D} {vs : List V}, RelDs G ι H xs vs → xs.all flatD = true → vs.all flatV = true
  | [], vs, r, _ => by simp only [RelDs] at r; subst r; rfl
  | x :: xs, vs, r, h => by
    simp only [RelDs] at r
    obtain ⟨v, t, rfl, r1, r2⟩ := r
    simp only [List.all_cons, Bool.and_eq_true] at h ⊢
    exact ⟨flat_rel r1 h.1, rel_flats r2 h.2⟩
theorem ve_index (ho : VE X W o mo) (he : VE X W e me)
    (hbase : attributeBase o "index" X.env (eval o X.env) = eval o X.env := by rfl)
    (hfew : ((backTo cpos (starEach [e] X.env)).all (fun x => !x.1) && (backToKw cpos (keywordEach [] X.env)).all (fun x => x.1.isSome)
      && decide ([e].length + ([] : List Keyword).length + (if ([] : List Keyword).isEmpty then 0 else 1) < 30)) = true := by rfl)
    (hline : (apos.endLine == cpos.line) = true := by rfl) (hs : starEach [e] X.env = (false, eval e X.env) :: starEach [] X.env := by rfl) (hplain : (backTo cpos (starEach [] X.env)).any (·.1) = false := by rfl) :
    VE X W (.Call (.Attribute o "index" apos) [e] [] cpos) (mIndex mo me) :=
  pe_imp (pe_bm PySem.F.plainAttrs_list PySem.F.slot_list_index PySem.F.type_list_index mt_index ho (pa_cons he pa_nil hs) hbase hfew hline hs hplain) fun σ H Q ⟨ι, s, ρ, q, e, h⟩ => by
    refine rdE_on q e h fun x v ι1 H1 s1 e1 q1 r1 h1 => ?_
    split at h1
    · rename_i hi
      obtain ⟨ds, hds⟩ := Option.isSome_iff_exists.1 hi
      obtain ⟨a, ys, rfl, t, _⟩ := asL_at q1 r1 hds
      refine ⟨.inl ⟨rfl, ys, t⟩, rdE_on q1 (e.mono e1) h1 fun y w ι2 H2 s2 e2 q2 r2 h2 => ?_⟩
      unfold fIndex at h2
      split at h2
      · rename_i es hes
        split at h2
        · rename_i hf
          split at h2
          · rename_i j hj
            obtain ⟨a', zs, ea, t2, k2⟩ := asL_at q2 (r1.mono e2) hes
            cases ea
            obtain ⟨z, hz, hp, hm⟩ := findIdx_spec hj
            obtain ⟨u, hu, ru⟩ := k2.get hz
            have ff : ∀ {d : D}, d ∈ es → flatD d = true := fun hd => List.all_eq_true.1 hf.2 _ hd
            refine ⟨a, zs, w, j, u, rfl, rfl, t2, flat_rel r2 hf.1, rel_flats k2 hf.2, hu, ?_, fun m z' hm' hz' => ?_, h2.val q2 (ri _)⟩
            · rw [eqF_rel ru r2 (ff (List.mem_of_getElem? hz)) hf.1]; exact hp
            · obtain ⟨d', hd', rd'⟩ := k2.get' hz'
              rw [eqF_rel rd' r2 (ff (List.mem_of_getElem? hd')) hf.1]
              exact hm m d' hm' hd'
          · exact h2.elim
        · exact h2.elim
      · exact h2.elim
    · exact h1.elim
end

noncomputable def mListRgO (m : ME) : ME := fun ρ s => (m ρ s).bnd fun d s1 => match d with
  | .int j => if rgOkD j then .ok (.obj s1.length) (s1 ++ [.lst (rngD 0 j.toNat)]) else .bad
  | _ => .bad
theorem ve_listRgO {X : Cx} {W : WX} {a : Expr} {m : ME} {p p2 pos pos2 : Pos} (h : VE X W a m) (hg : Gl X "list") (hm : X.mg "list" = none) (hg2 : Gl X "range") (hm2 : X.mg "range" = none) (hc : X.calm = true := by rfl)
    (na2 : starEach [a] X.env = (false, eval a X.env) :: starEach [] X.env := by rfl) (na : starEach [.Call (.Name "range" p2) [a] [] pos2] X.env = (false, eval (.Call (.Name "range" p2) [a] [] pos2) X.env) :: starEach [] X.env := by rfl) :
    VE X W (.Call (.Name "list" p) [.Call (.Name "range" p2) [a] [] pos2] [] pos) (mListRgO m) :=
  pe_imp (pe_listRg hc hg hm (prg_1 hg2 hm2 h na2) na) fun σ H Q ⟨ι, s, ρ, q, e, h⟩ => by
    refine rdE_on q e h fun d v ι1 H1 s1 e1 q1 r1 h1 => ?_
    split at h1
    · rename_i j
      split at h1
      · rename_i hj
        exact ⟨j, relI r1, ⟨by omega, by omega, hj.1, by have := hj.2; omega, by have := hj.2; omega⟩, fun p hp => h1.newLO q1 rgV_rel hp⟩
      · exact h1.elim
    · exact h1.elim

/-! ### texts: str(n), sep.join(xs), f-strings -/
def CStr (i : Int) : Prop := i.natAbs.log2 < 1920
noncomputable instance (i : Int) : Decidable (CStr i) := Classical.propDecidable _
noncomputable def fStrI : FA := fun xs s => match xs with
  | [.int i] => if CStr i then .ok (.str (toString i)) s else .bad
  | _ => .bad
theorem v_strI {G : Cg} {W : WX} : CallV G W (fun xs H Q => ∃ i, xs = [.int i] ∧ i.natAbs.log2 < 1920 ∧ Q (.str (toString i)) H) fStrI := fun ι H s xs vs Q q r h => by
  unfold fStrI at h
  split at h
  · rename_i i
    split at h
    · rename_i hc
      obtain ⟨v, rfl, r1⟩ := rel1 r
      rw [relI r1]
      exact ⟨i, rfl, hc, h.val q (by simp only [RelD])⟩
    · exact h.elim
  · exact h.elim
def toSs : List D → Option (List Str)
  | [] => some []
  | .str x :: ds => (toSs ds).map (x :: ·)
  | _ :: _ => none
theorem toSs_rel {G : Cg} {ι : Z} {H : Hp} : ∀ {ds : List D} {ys : List Str} {vs : List V}, toSs ds = some ys → RelDs G ι H ds vs → vs = ys.map V.str
  | [], ys, vs, h, r => by simp only [toSs, Option.some.injEq] at h; subst h; simp only [RelDs] at r; exact r
  | d :: ds, ys, vs, h, r => by
    cases d with
    | str x =>
      simp only [toSs] at h
      obtain ⟨zs, h1, rfl⟩ := Option.map_eq_some_iff.1 h
      simp only [RelDs] at r
      obtain ⟨v, t, rfl, r1, r2⟩ := r
      rw [relS r1, toSs_rel h1 r2]
      rfl
    | _ => cases h
def fJoin (x y : D) (s : S) : R D := match x, (asL s y).bind toSs with
  | .str a, some ys => if (ys.map (·.length)).sum + ys.length * a.length ≤ LIM then .ok (.str (Txt.join a ys)) s else .bad
  | _, _ => .bad
def isStrD : D → Bool
  | .str _ => true
  | _ => false
def mJoin (mo ml : ME) : ME := fun ρ s => (mo ρ s).bnd fun x s1 => if isStrD x = true then (ml ρ s1).bnd fun y s2 => fJoin x y s2 else .bad
/-- the parts of an f-string -/
noncomputable def mFmt (m : ME) : ME := fun ρ s => (m ρ s).bnd fun d s1 => match d with
  | .str y => if y.length ≤ LIM then .ok (.str y) s1 else .bad
  | .int i => if CStr i then .ok (.str (toString i)) s1 else .bad
  | _ => .bad
def mJs : List ME → Str → ME
  | [], acc, _, s => .ok (.str acc) s
  | m :: ms, acc, ρ, s => (m ρ s).bnd fun d s1 => match d with
    | .str y => if (acc ++ y).length ≤ LIM then mJs ms (acc ++ y) ρ s1 else .bad
    | _ => .bad
section
variable {X : Cx} {W : WX} {o e : Expr} {mo me : ME} {apos pos : Pos}
theorem ve_join (ho : VE X W o mo) (he : VE X W e me) (hs : starEach [e] X.env = [(false, eval e X.env)] := by rfl) (hbase : attributeBase o "join" X.env (eval o X.env) = eval o X.env := by rfl) (hline : (apos.endLine == pos.line) = true := by rfl) :
    VE X W (.Call (.Attribute o "join" apos) [e] [] pos) (mJoin mo me) :=
  pe_imp (pe_join ho he hs hbase hline) fun σ H Q ⟨ι, s, ρ, q, en, h⟩ => by
    refine rdE_on q en h fun x v ι1 H1 s1 e1 q1 r1 h1 => ?_
    split at h1
    · rename_i hx
      cases x with
      | str a =>
        refine ⟨⟨a, relS r1⟩, rdE_on q1 (en.mono e1) h1 fun y w ι2 H2 s2 e2 q2 r2 h2 => ?_⟩
        unfold fJoin at h2
        split at h2
        · rename_i a' ys ha hy
          cases ha
          split at h2
          · rename_i hl
            obtain ⟨ds, hd, hd2⟩ := Option.bind_eq_some_iff.1 hy
            obtain ⟨p, us, rfl, t, k⟩ := asL_at q2 r2 hd
            rw [toSs_rel hd2 k] at t
            have hl2 : LIM ≤ 16777216 := by decide
            exact ⟨a, p, ys, relS r1, rfl, .inl t, Nat.le_trans hl hl2, h2.val q2 (by simp only [RelD])⟩
          · exact h2.elim
        · exact h2.elim
      | _ => cases hx
    · exact h1.elim
theorem ve_fmt (he : VE X W e me) : VE X W (.FormattedValue e (-1) none pos) (mFmt me) :=
  pe_imp (pe_fmt he) fun σ H Q ⟨ι, s, ρ, q, en, h⟩ => by
    refine rdE_on q en h fun d v ι1 H1 s1 e1 q1 r1 h1 => ?_
    split at h1
    · rename_i y
      split at h1
      · rename_i hl
        exact .inl ⟨y, relS r1, le_LIM hl, h1.val q1 (by simp only [RelD])⟩
      · exact h1.elim
    · rename_i i
      split at h1
      · rename_i hc
        exact .inr ⟨i, relI r1, hc, h1.val q1 (by simp only [RelD])⟩
      · exact h1.elim
    · exact h1.elim
theorem vj_nil : PJ X [] (([] : List ME).map (rdE (cg X) W)) := .nil
theorem vj_cons {es : List Expr} {ms : List ME} (he : VE X W e me) (h : PJ X es (ms.map (rdE (cg X) W))) : PJ X (e :: es) ((me :: ms).map (rdE (cg X) W)) := .cons he h
theorem rd_js {G : Cg} {Q : VK} : ∀ (ms : List ME) (acc : Str) {ι : Z} {H : Hp} {s : S} {σ : L2.St} {ρ : Ev}, Sim G ι H s → EnvR G ι H σ ρ → Post G W ι H (QE G Q) (mJs ms acc ρ s) → tJs (ms.map (rdE G W)) acc σ H fun out H1 => Q (.str out) H1
  | [], acc, ι, H, s, σ, ρ, q, e, h => Post.val h q (by simp only [RelD])
  | m :: ms, acc, ι, H, s, σ, ρ, q, e, h => by
    show rdE G W m σ H _
    refine rdE_on q e h fun d v ι1 H1 s1 e1 q1 r1 h1 => ?_
    split at h1
    · rename_i y
      split at h1
      · rename_i hl
        exact ⟨y, relS r1, le_LIM hl, rd_js ms (acc ++ y) q1 (e.mono e1) h1⟩
      · exact h1.elim
    · exact h1.elim
theorem ve_joined {v1 v2 : Expr} {rest : List Expr} {ms : List ME} (h : PJ X (v1 :: v2 :: rest) (ms.map (rdE (cg X) W))) : VE X W (.JoinedStr (v1 :: v2 :: rest) pos) (mJs ms Str.empty) :=
  pe_imp (pe_joined h) fun σ H Q ⟨ι, s, ρ, q, en, h⟩ => rd_js ms Str.empty q en h
end
end VL
namespace VL
open PySem PySem.Spec PyProof.Rows L2
noncomputable def m_is_whole : FM := mFn 1 (mRet (mAndV (mCall fIsi (mCons (mVar 0) (mCons (mC (.ty "int")) mNil))) (mNotV (mCall fIsi (mCons (mVar 0) (mCons (mC (.ty "bool")) mNil))))))
noncomputable def m_is_between : FM := mFn 3 (mRet (mAndV (mUser m_is_whole (mCons (mVar 0) mNil)) (mChn opLe opLe (mVar 1) (mVar 0) (mVar 2))))
noncomputable def m_are_states : FM := mFn 4 (mRet (mAndV (mCall fIsi (mCons (mVar 0) (mCons (mC (.ty "tuple")) mNil))) (mAndV (mBin opEq (mCall fLen (mCons (mVar 0) mNil)) (mVar 1)) (mCall fAll (mCons (mLc (mSrc (mVar 0)) (.one 3) mYes (mUser m_is_between (mCons (mVar 3) (mCons (mC (.int 0)) (mCons (mBin opSub (mVar 2) (mC (.int 1))) mNil)))) [3]) mNil)))))
noncomputable def m_is_kind : FM := mFn 1 (mRet (mOrV (mBin opIsN (mVar 0) (mC .non)) (mUser m_is_between (mCons (mVar 0) (mCons (mC (.int 0)) (mCons (mC (.int 9)) mNil))))))
noncomputable def m_is_system : FM := mFn 6 (mSeq (mIfS (mOrT (mNotT (mB (mCall fIsi (mCons (mVar 0) (mCons (mC (.ty "tuple")) mNil))))) (mOrT (mB (mBin opNe (mCall fLen (mCons (mVar 0) mNil)) (mC (.int 4)))) (mNotT (mB (mUser m_is_between (mCons (mBin opIx (mVar 0) (mC (.int 0))) (mCons (mC (.int 1)) (mCons (mC (.int 6)) mNil))))))))
(mRet (mC (.bl false)))
mSkip)
(mSeq (mAsg (mVar 0) (gT 4 (gConsM (gN 1) (gConsM (gN 2) (gConsM (gN 3) (gConsM (gN 4) gNilM))))))
(mSeq (mIfS (mOrT (mNotT (mB (mUser m_is_between (mCons (mVar 2) (mCons (mC (.int 0)) (mCons (mBin opSub (mVar 1) (mC (.int 1))) mNil)))))) (mOrT (mNotT (mB (mCall fIsi (mCons (mVar 3) (mCons (mC (.ty "tuple")) mNil))))) (mNotT (mB (mCall fIsi (mCons (mVar 4) (mCons (mC (.ty "tuple")) mNil)))))))
(mRet (mC (.bl false)))
mSkip)
(mSeq (mIfS (mOrT (mNotT (mB (mChn opLe opLe (mC (.int 1)) (mCall fLen (mCons (mVar 3) mNil)) (mC (.int 6))))) (mB (mBin opNe (mCall fLen (mCons (mVar 4) mNil)) (mCall fLen (mCons (mVar 3) mNil)))))
(mRet (mC (.bl false)))
mSkip)
(mRet (mAndV (mCall fAll (mCons (mLc (mSrc (mVar 3)) (.one 5) mYes (mUser m_are_states (mCons (mVar 5) (mCons (mVar 1) (mCons (mVar 1) mNil)))) [5]) mNil)) (mCall fAll (mCons (mLc (mSrc (mVar 4)) (.one 5) mYes (mUser m_is_kind (mCons (mVar 5) mNil)) [5]) mNil))))))))
noncomputable def m_need_system : FM := mFn 1 (mIfS (mNotT (mB (mUser m_is_system (mCons (mVar 0) mNil))))
mBad
mSkip)
noncomputable def m_paths_of : FM := mFn 7 (mSeq (mAsg (mDisp1 (mBin opIx (mVar 0) (mC (.int 1))) (mTup mNil)) (gN 1))
(mSeq (mAsg (mLstO (mCons (mBin opIx (mVar 0) (mC (.int 1))) mNil)) (gN 2))
(mSeq (mAsg (mC (.int 0)) (gN 3))
(mSeq (mWhile (mB (mBin opLt (mVar 3) (mCall fLen (mCons (mVar 2) mNil))))
(mSeq (mAsg (mBin opIx (mVar 2) (mVar 3)) (gN 4))
(mSeq (mAugAdd 3 (mC (.int 1)))
(mFor (mEnum (mCons (mBin opIx (mVar 0) (mC (.int 2))) mNil)) (gT 2 (gConsM (gN 5) (gConsM (gN 6) gNilM)))
(mIfS (mB (mBin opNotInD (mBin opIx (mVar 6) (mVar 4)) (mVar 1)))
(mSeq (mAsg (mBin opAdd (mBin opIxU (mVar 1) (mVar 4)) (mTup (mCons (mVar 5) mNil))) (gIxU (mVar 1) (mBin opIx (mVar 6) (mVar 4))))
(mDrop (mAppend (mVar 2) (mBin opIx (mVar 6) (mVar 4)))))
mSkip)))) 2000)
(mRet (mVar 1))))))
noncomputable def m_reached : FM := mFn 1 (mRet (mCall fTuple (mCons (mCall fSortedU (mCons (mUser m_paths_of (mCons (mVar 0) mNil)) mNil)) mNil)))
noncomputable def m_are_moves : FM := mFn 3 (mSeq (mIfS (mOrT (mNotT (mB (mCall fIsi (mCons (mVar 1) (mCons (mC (.ty "tuple")) mNil))))) (mB (mBin opNe (mCall fLen (mCons (mVar 1) mNil)) (mCall fLen (mCons (mVar 0) mNil)))))
(mRet (mC (.bl false)))
mSkip)
(mRet (mCall fAll (mCons (mLc (mSrc (mVar 1)) (.one 2) mYes (mAndV (mUser m_is_whole (mCons (mVar 2) mNil)) (mBin opIn (mVar 2) (mVar 0))) [2]) mNil))))
noncomputable def m_Effect_init : FM := mFn 4 (mSeq (mDrop (mUser m_need_system (mCons (mVar 1) mNil)))
(mSeq (mAsg (mUser m_reached (mCons (mVar 1) mNil)) (gN 3))
(mSeq (mIfS (mNotT (mB (mUser m_are_moves (mCons (mVar 3) (mCons (mVar 2) mNil)))))
mBad
mSkip)
(mSeq (mSetFld ["Effect"] "home" (mVar 0) (mVar 1))
(mSeq (mSetFld ["Effect"] "states" (mVar 0) (mVar 3))
(mSetFld ["Effect"] "goals" (mVar 0) (mVar 2)))))))
noncomputable def m_Store_init : FM := mFn 2 (mSeq (mDrop (mUser m_need_system (mCons (mVar 1) mNil)))
(mSeq (mSetFld ["Store"] "home" (mVar 0) (mVar 1))
(mSeq (mSetFld ["Store"] "log" (mVar 0) (mTup mNil))
(mSetFld ["Store"] "past" (mVar 0) (mTup mNil)))))
noncomputable def m__wall : FM := mFn 1 (mWhile (mB (mC (.bl true)))
mSkip 2000)
noncomputable def m_is_log : FM := mFn 3 (mRet (mAndV (mCall fIsi (mCons (mVar 1) (mCons (mC (.ty "tuple")) mNil))) (mCall fAll (mCons (mLc (mSrc (mVar 1)) (.one 2) mYes (mUser m_is_between (mCons (mVar 2) (mCons (mC (.int 0)) (mCons (mBin opSub (mCall fLen (mCons (mBin opIx (mVar 0) (mC (.int 2))) mNil)) (mC (.int 1))) mNil)))) [2]) mNil))))
noncomputable def m_need_log : FM := mFn 2 (mIfS (mNotT (mB (mUser m_is_log (mCons (mVar 0) (mCons (mVar 1) mNil)))))
mBad
mSkip)
noncomputable def m_need_operation : FM := mFn 2 (mIfS (mNotT (mB (mUser m_is_between (mCons (mVar 1) (mCons (mC (.int 0)) (mCons (mBin opSub (mCall fLen (mCons (mBin opIx (mVar 0) (mC (.int 2))) mNil)) (mC (.int 1))) mNil))))))
mBad
mSkip)
noncomputable def m_run_from : FM := mFn 4 (mSeq (mFor (mSrc (mVar 2)) (gN 3)
(mAsg (mBin opIx (mBin opIx (mBin opIx (mVar 0) (mC (.int 2))) (mVar 3)) (mVar 1)) (gN 1)))
(mRet (mVar 1)))
noncomputable def m__law_draw : FM := mFn 4 (mSeq (mIfS (mB (mBin opGt (mBin opIx (mVar 0) (mC (.int 0))) (mC (.int 0))))
(mSeq (mAsg (mBin opMod (mBin opIx (mVar 0) (mC (.int 0))) (mVar 1)) (gN 2))
(mSeq (mAsg (mBin opDiv (mBin opIx (mVar 0) (mC (.int 0))) (mVar 1)) (gIx (mVar 0) (mC (.int 0))))
(mRet (mVar 2))))
mSkip)
(mSeq (mAsg (mBin opAdd (mBin opIx (mVar 0) (mC (.int 2))) (mC (.int 1))) (gIx (mVar 0) (mC (.int 2))))
(mSeq (mAsg (mBin opMod (mBin opMul (mBin opAdd (mBin opIx (mVar 0) (mC (.int 1))) (mBin opMul (mC (.int 17)) (mBin opIx (mVar 0) (mC (.int 2))))) (mBin opAdd (mC (.int 69621)) (mBin opMul (mC (.int 2)) (mBin opIx (mVar 0) (mC (.int 2)))))) (mC (.int 2147483647))) (gN 3))
(mSeq (mAsg (mBin opMod (mBin opAdd (mBin opAdd (mBin opMul (mVar 3) (mVar 3)) (mBin opMul (mC (.int 40503)) (mBin opIx (mVar 0) (mC (.int 2))))) (mC (.int 5))) (mC (.int 2147483629))) (gN 3))
(mRet (mBin opMod (mBin opDiv (mBin opMod (mBin opMul (mVar 3) (mC (.int 48271))) (mC (.int 2147483647))) (mC (.int 32))) (mVar 1)))))))
noncomputable def m__law_pick : FM := mFn 2 (mRet (mBin opIx (mVar 1) (mUser m__law_draw (mCons (mVar 0) (mCons (mCall fLen (mCons (mVar 1) mNil)) mNil)))))
noncomputable def m__law_pen : FM := mFn 1 (mRet (mLstO (mCons (mCall fMax2 (mCons (mC (.int 0)) (mCons (mBin opSub (mVar 0) (mBin opPow (mC (.int 10)) (mC (.int 18)))) mNil))) (mCons (mBin opMod (mVar 0) (mC (.int 1000000007))) (mCons (mC (.int 0)) mNil)))))
noncomputable def m__law_cell_at : FM := mFn 2 (mSeq (mIfS (mB (mBin opLt (mVar 1) (mCall fLen (mCons (mVar 0) mNil))))
(mRet (mBin opIx (mVar 0) (mVar 1)))
mSkip)
(mRet (mC (.int 0))))
noncomputable def m__law_drawn : FM := mFn 7 (mSeq (mAsg (mTup (mCons (mBin opAdd (mC (.int 1)) (mUser m__law_draw (mCons (mVar 0) (mCons (mC (.int 6)) mNil)))) (mCons (mBin opAdd (mC (.int 1)) (mUser m__law_draw (mCons (mVar 0) (mCons (mC (.int 5)) mNil)))) mNil))) (gT 2 (gConsM (gN 1) (gConsM (gN 2) gNilM))))
(mSeq (mPar 3 4 (mCons (mLstO mNil) (mCons (mLstO mNil) mNil)))
(mSeq (mFor (mRng1 (mCons (mVar 2) mNil)) (gN 5)
(mSeq (mDrop (mAppend (mVar 3) (mCall fTuple (mCons (mLc (mRng1 (mCons (mVar 1) mNil)) (.one 6) mYes (mUser m__law_draw (mCons (mVar 0) (mCons (mVar 1) mNil))) [6]) mNil))))
(mDrop (mAppend (mVar 4) (mUser m__law_pick (mCons (mVar 0) (mCons (mLst (mCons (mC .non) (mCons (mC (.int 0)) (mCons (mC (.int 1)) (mCons (mC (.int 0)) (mCons (mC (.int 7)) mNil)))))) mNil)))))))
(mRet (mTup (mCons (mVar 1) (mCons (mUser m__law_draw (mCons (mVar 0) (mCons (mVar 1) mNil))) (mCons (mCall fTuple (mCons (mVar 3) mNil)) (mCons (mCall fTuple (mCons (mVar 4) mNil)) mNil)))))))))
noncomputable def m__law_cells : FM := mFn 11 (mSeq (mAsg (mUser m__law_pick (mCons (mVar 0) (mCons (mLst (mCons (mTup (mCons (mC (.int 2)) (mCons (mC (.int 2)) mNil))) (mCons (mTup (mCons (mC (.int 2)) (mCons (mC (.int 3)) mNil))) (mCons (mTup (mCons (mC (.int 3)) (mCons (mC (.int 2)) mNil))) (mCons (mTup (mCons (mC (.int 1)) (mCons (mC (.int 4)) mNil))) (mCons (mTup (mCons (mC (.int 6)) (mCons (mC (.int 1)) mNil))) mNil)))))) mNil))) (gT 2 (gConsM (gN 1) (gConsM (gN 2) gNilM))))
(mSeq (mPar 3 4 (mCons (mLstO mNil) (mCons (mLstO mNil) mNil)))
(mSeq (mAsg (mUser m__law_pick (mCons (mVar 0) (mCons (mLst (mCons (mTup (mCons (mC (.int 0)) (mCons (mC (.int 1)) mNil))) (mCons (mTup (mCons (mC (.int 9)) (mCons (mC (.int 4)) mNil))) (mCons (mTup (mCons (mC (.int 3)) (mCons (mC .non) mNil))) (mCons (mTup (mCons (mC (.int 2)) (mCons (mC (.int 0)) mNil))) mNil))))) mNil))) (gN 5))
(mSeq (mFor (mRng1 (mCons (mBin opAdd (mC (.int 1)) (mUser m__law_draw (mCons (mVar 0) (mCons (mC (.int 6)) mNil)))) mNil)) (gN 6)
(mSeq (mAsg (mUser m__law_draw (mCons (mVar 0) (mCons (mC (.int 2)) mNil))) (gN 7))
(mSeq (mAsg (mUser m__law_draw (mCons (mVar 0) (mCons (mBin opIx (mLst (mCons (mVar 1) (mCons (mVar 2) mNil))) (mVar 7)) mNil))) (gN 8))
(mSeq (mAsg (mLcF finL (mRng1 (mCons (mBin opMul (mVar 1) (mVar 2)) mNil)) (.one 10) mYes (mIf (mB (mBin opEq (mVar 7) (mC (.int 0)))) (mBin opAdd (mBin opMul (mVar 8) (mVar 2)) (mBin opMod (mVar 10) (mVar 2))) (mBin opAdd (mBin opMul (mBin opDiv (mVar 10) (mVar 2)) (mVar 2)) (mVar 8))) [10]) (gN 9))
(mSeq (mDrop (mAppend (mVar 3) (mCall fTuple (mCons (mVar 9) mNil))))
(mDrop (mAppend (mVar 4) (mBin opIx (mVar 5) (mVar 7)))))))))
(mRet (mTup (mCons (mBin opMul (mVar 1) (mVar 2)) (mCons (mUser m__law_draw (mCons (mVar 0) (mCons (mBin opMul (mVar 1) (mVar 2)) mNil))) (mCons (mCall fTuple (mCons (mVar 3) mNil)) (mCons (mCall fTuple (mCons (mVar 4) mNil)) mNil))))))))))
noncomputable def m__law_marks : FM := mFn 12 (mSeq (mPar 1 2 (mCons (mLstO mNil) (mCons (mLstO mNil) mNil)))
(mSeq (mFor (mRng1 (mCons (mBin opAdd (mC (.int 1)) (mUser m__law_draw (mCons (mVar 0) (mCons (mC (.int 5)) mNil)))) mNil)) (gN 3)
(mSeq (mAsg (mTup (mCons (mUser m__law_pick (mCons (mVar 0) (mCons (mLst (mCons (mC (.int 1)) (mCons (mC (.int 2)) (mCons (mC (.int 3)) mNil)))) mNil))) (mCons (mBin opGt (mUser m__law_draw (mCons (mVar 0) (mCons (mC (.int 4)) mNil))) (mC (.int 0))) mNil))) (gT 2 (gConsM (gN 4) (gConsM (gN 5) gNilM))))
(mSeq (mAsg (mLstO mNil) (gN 6))
(mSeq (mFor (mRng1 (mCons (mC (.int 4)) mNil)) (gN 7)
(mSeq (mAsg (mLc (mSrc (mTup (mCons (mC (.int 1)) (mCons (mC (.int 2)) mNil)))) (.one 11) (mB (mBin opEq (mBin opMod (mBin opDiv (mVar 7) (mVar 11)) (mC (.int 2))) (mC (.int 1)))) (mVar 11) [11]) (gN 8))
(mSeq (mAsg (mLc (mSrc (mTup (mCons (mC (.int 1)) (mCons (mC (.int 2)) mNil)))) (.one 11) (mB (mBin opEq (mBin opMod (mBin opDiv (mVar 4) (mVar 11)) (mC (.int 2))) (mC (.int 1)))) (mVar 11) [11]) (gN 9))
(mSeq (mAsg (mLcF finL (mSrc (mTup (mCons (mC (.int 1)) (mCons (mC (.int 2)) mNil)))) (.one 11) (mB (mBin opIn (mVar 11) (mBin opAdd (mVar 8) (mVar 9)))) (mVar 11) [11]) (gN 10))
(mDrop (mAppend (mVar 6) (mIf (mB (mVar 5)) (mCall fSum (mCons (mVar 10) mNil)) (mCall fSum (mCons (mLc (mSrc (mVar 8)) (.one 11) (mB (mBin opNotIn (mVar 11) (mVar 9))) (mVar 11) [11]) mNil)))))))))
(mSeq (mDrop (mAppend (mVar 1) (mCall fTuple (mCons (mVar 6) mNil))))
(mDrop (mAppend (mVar 2) (mUser m__law_pick (mCons (mVar 0) (mCons (mLst (mCons (mC .non) (mCons (mVar 4) (mCons (mC (.int 0)) mNil)))) mNil))))))))))
(mRet (mTup (mCons (mC (.int 4)) (mCons (mUser m__law_draw (mCons (mVar 0) (mCons (mC (.int 4)) mNil))) (mCons (mCall fTuple (mCons (mVar 1) mNil)) (mCons (mCall fTuple (mCons (mVar 2) mNil)) mNil))))))))
noncomputable def m__law_turns : FM := mFn 9 (mSeq (mAsg (mTup (mCons (mBin opAdd (mC (.int 2)) (mUser m__law_draw (mCons (mVar 0) (mCons (mC (.int 5)) mNil)))) (mCons (mLstO mNil) (mCons (mLstO mNil) mNil)))) (gT 3 (gConsM (gN 1) (gConsM (gN 2) (gConsM (gN 3) gNilM)))))
(mSeq (mFor (mRng1 (mCons (mBin opAdd (mC (.int 1)) (mUser m__law_draw (mCons (mVar 0) (mCons (mC (.int 5)) mNil)))) mNil)) (gN 4)
(mSeq (mAsg (mTup (mCons (mUser m__law_draw (mCons (mVar 0) (mCons (mC (.int 4)) mNil))) (mCons (mUser m__law_draw (mCons (mVar 0) (mCons (mVar 1) mNil))) mNil))) (gT 2 (gConsM (gN 5) (gConsM (gN 6) gNilM))))
(mSeq (mAsg (mLcF finL (mRng1 (mCons (mVar 1) mNil)) (.one 8) mYes (mBin opMod (mBin opAdd (mVar 8) (mVar 6)) (mVar 1)) [8]) (gN 7))
(mSeq (mIfS (mB (mBin opEq (mVar 5) (mC (.int 1))))
(mAsg (mLcF finL (mRng1 (mCons (mVar 1) mNil)) (.one 8) mYes (mCall fMax2 (mCons (mVar 8) (mCons (mVar 6) mNil))) [8]) (gN 7))
mSkip)
(mSeq (mIfS (mB (mBin opEq (mVar 5) (mC (.int 2))))
(mAsg (mLcF finL (mRng1 (mCons (mVar 1) mNil)) (.one 8) mYes (mVar 6) [8]) (gN 7))
mSkip)
(mSeq (mIfS (mB (mBin opEq (mVar 5) (mC (.int 3))))
(mAsg (mListRg (mVar 1)) (gN 7))
mSkip)
(mSeq (mDrop (mAppend (mVar 2) (mCall fTuple (mCons (mVar 7) mNil))))
(mDrop (mAppend (mVar 3) (mUser m__law_pick (mCons (mVar 0) (mCons (mLst (mCons (mC .non) (mCons (mVar 5) (mCons (mC (.int 5)) mNil)))) mNil))))))))))))
(mRet (mTup (mCons (mVar 1) (mCons (mUser m__law_draw (mCons (mVar 0) (mCons (mVar 1) mNil))) (mCons (mCall fTuple (mCons (mVar 2) mNil)) (mCons (mCall fTuple (mCons (mVar 3) mNil)) mNil))))))))
noncomputable def m__law_system : FM := mFn 10 (mSeq (mAsg (mUser m__law_draw (mCons (mVar 0) (mCons (mC (.int 6)) mNil))) (gN 1))
(mSeq (mIfS (mB (mBin opEq (mVar 1) (mC (.int 0))))
(mRet (mUser m__law_drawn (mCons (mVar 0) mNil)))
mSkip)
(mSeq (mAsg (mIf (mB (mBin opLt (mVar 1) (mC (.int 3)))) (mUser m__law_cells (mCons (mVar 0) mNil)) (mIf (mB (mBin opEq (mVar 1) (mC (.int 3)))) (mUser m__law_marks (mCons (mVar 0) mNil)) (mUser m__law_turns (mCons (mVar 0) mNil)))) (gN 2))
(mSeq (mIfS (mB (mBin opGt (mUser m__law_draw (mCons (mVar 0) (mCons (mC (.int 3)) mNil))) (mC (.int 0))))
(mRet (mVar 2))
mSkip)
(mSeq (mAsg (mVar 2) (gT 4 (gConsM (gN 3) (gConsM (gN 4) (gConsM (gN 5) (gConsM (gN 6) gNilM))))))
(mSeq (mPar 7 8 (mCons (mUser m__law_draw (mCons (mVar 0) (mCons (mCall fLen (mCons (mVar 5) mNil)) mNil))) (mCons (mUser m__law_draw (mCons (mVar 0) (mCons (mVar 3) mNil))) mNil)))
(mSeq (mAsg (mBin opAdd (mBin opAdd (mSl (mBin opIx (mVar 5) (mVar 7)) mNo (mPart (mVar 8))) (mTup (mCons (mUser m__law_draw (mCons (mVar 0) (mCons (mVar 3) mNil))) mNil))) (mSl (mBin opIx (mVar 5) (mVar 7)) (mPart (mBin opAdd (mVar 8) (mC (.int 1)))) mNo)) (gN 9))
(mRet (mTup (mCons (mVar 3) (mCons (mVar 4) (mCons (mBin opAdd (mBin opAdd (mSl (mVar 5) mNo (mPart (mVar 7))) (mTup (mCons (mVar 9) mNil))) (mSl (mVar 5) (mPart (mBin opAdd (mVar 7) (mC (.int 1)))) mNo)) (mCons (mVar 6) mNil)))))))))))))
noncomputable def m__law_same : FM := mFn 2 (mRet (mBin opEq (mCall fRepr (mCons (mVar 0) mNil)) (mCall fRepr (mCons (mVar 1) mNil))))
noncomputable def m__law_is_whole : FM := mFn 3 (mRet (mAndV (mCall fIsi (mCons (mVar 0) (mCons (mC (.ty "int")) mNil))) (mAndV (mNotV (mCall fIsi (mCons (mVar 0) (mCons (mC (.ty "bool")) mNil)))) (mChn opLe opLe (mVar 1) (mVar 0) (mVar 2)))))
noncomputable def m__law_odd : FM := mFn 2 (mSeq (mAsg (mLst (mCons (mC .non) (mCons (mC (.bl true)) (mCons (mC (.bl false)) (mCons (mUn opNeg (mC (.int 1))) (mCons (mC (.int 0)) (mCons (mC (.int 1)) (mCons (mC (.int 2)) (mCons (mC (.int 5)) (mCons (mC (.int 6)) (mCons (mBin opPow (mC (.int 10)) (mC (.int 12))) (mCons (mC (.str "")) (mCons (mC (.str "0")) (mCons (mTup mNil) (mCons (mLst mNil) (mCons mNewK (mCons (mTup (mCons (mC (.int 0)) mNil)) (mCons (mLst (mCons (mC (.int 0)) mNil)) (mCons (mTup (mCons (mC (.int 0)) (mCons (mC (.int 0)) mNil))) (mCons (mTup (mCons (mC (.int 0)) (mCons (mTup (mCons (mC (.int 0)) (mCons (mC (.int 0)) mNil))) mNil))) (mCons (mTup (mCons (mC (.int 1)) mNil)) mNil))))))))))))))))))))) (gN 1))
(mSeq (mAsg (mBin opAdd (mVar 1) (mLst (mCons (mTup (mCons (mC (.int 0)) (mCons (mTup mNil) mNil))) (mCons (mTup (mCons (mC (.int 0)) (mCons (mTup (mCons (mC (.int 0)) mNil)) mNil))) (mCons (mTup (mCons (mC (.int 1)) (mCons (mTup (mCons (mC (.int 0)) (mCons (mC (.int 0)) mNil))) mNil))) (mCons (mTup (mCons (mC (.int 0)) (mCons (mC (.int 0)) (mCons (mC (.int 0)) mNil)))) (mCons (mTup (mCons (mTup (mCons (mC (.int 0)) mNil)) (mCons (mC (.int 0)) mNil))) (mCons (mTup (mCons (mC (.bl true)) mNil)) (mCons (mTup (mCons (mC (.int 0)) (mCons (mTup (mCons (mC (.bl true)) (mCons (mC (.int 0)) mNil))) mNil))) (mCons (mTup (mCons (mC (.str "0")) mNil)) (mCons (mTup (mCons (mC .non) mNil)) mNil))))))))))) (gN 1))
(mSeq (mAsg (mBin opAdd (mVar 1) (mLst (mCons (mTup (mCons (mC (.int 1)) (mCons (mC (.int 0)) (mCons (mTup (mCons (mTup (mCons (mC (.int 0)) mNil)) mNil)) (mCons (mTup (mCons (mC (.int 0)) mNil)) mNil))))) (mCons (mTup (mCons (mC (.int 0)) (mCons (mLst (mCons (mC (.int 0)) (mCons (mC (.int 0)) mNil))) mNil))) (mCons (mLst (mCons (mC (.int 0)) (mCons (mTup (mCons (mC (.int 0)) (mCons (mC (.int 0)) mNil))) mNil))) (mCons (mTup (mCons (mC (.bl false)) (mCons (mTup (mCons (mC (.int 0)) (mCons (mC (.int 0)) mNil))) mNil))) (mCons (mTup (mCons (mC (.int 0)) (mCons (mTup (mCons (mC (.int 0)) (mCons (mC (.int 0)) (mCons (mC (.int 0)) mNil)))) mNil))) (mCons (mDisp1 (mC (.int 0)) (mTup mNil)) mNil)))))))) (gN 1))
(mRet (mUser m__law_pick (mCons (mVar 0) (mCons (mVar 1) mNil)))))))
noncomputable def m_run : FM := mFn 3 (mSeq (mDrop (mUser m_need_system (mCons (mVar 0) mNil)))
(mSeq (mIfS (mNotT (mB (mUser m_is_between (mCons (mVar 1) (mCons (mC (.int 0)) (mCons (mBin opSub (mBin opIx (mVar 0) (mC (.int 0))) (mC (.int 1))) mNil))))))
mBad
mSkip)
(mSeq (mDrop (mUser m_need_log (mCons (mVar 0) (mCons (mVar 2) mNil))))
(mRet (mUser m_run_from (mCons (mVar 0) (mCons (mVar 1) (mCons (mVar 2) mNil))))))))
noncomputable def m_outcome_of : FM := mFn 2 (mRet (mUser m_run_from (mCons (mVar 0) (mCons (mBin opIx (mVar 0) (mC (.int 1))) (mCons (mVar 1) mNil)))))
noncomputable def m_outcome : FM := mFn 2 (mSeq (mDrop (mUser m_need_system (mCons (mVar 0) mNil)))
(mSeq (mDrop (mUser m_need_log (mCons (mVar 0) (mCons (mVar 1) mNil))))
(mRet (mUser m_outcome_of (mCons (mVar 0) (mCons (mVar 1) mNil))))))
noncomputable def m__law_log : FM := mFn 4 (mRet (mCall fTuple (mCons (mLc (mRng1 (mCons (mUser m__law_draw (mCons (mVar 0) (mCons (mBin opAdd (mVar 2) (mC (.int 1))) mNil))) mNil)) (.one 3) mYes (mUser m__law_draw (mCons (mVar 0) (mCons (mCall fLen (mCons (mBin opIx (mVar 1) (mC (.int 2))) mNil)) mNil))) [3]) mNil)))
noncomputable def m__law_run : FM := mFn 4 (mSeq (mFor (mSrc (mVar 2)) (gN 3)
(mAsg (mBin opIx (mBin opIx (mBin opIx (mVar 0) (mC (.int 2))) (mVar 3)) (mVar 1)) (gN 1)))
(mRet (mVar 1)))
noncomputable def m_reachable : FM := mFn 1 (mSeq (mDrop (mUser m_need_system (mCons (mVar 0) mNil)))
(mRet (mUser m_reached (mCons (mVar 0) mNil))))
noncomputable def m_path : FM := mFn 3 (mSeq (mDrop (mUser m_need_system (mCons (mVar 0) mNil)))
(mSeq (mAsg (mUser m_paths_of (mCons (mVar 0) mNil)) (gN 2))
(mSeq (mIfS (mOrT (mNotT (mB (mUser m_is_whole (mCons (mVar 1) mNil)))) (mB (mBin opNotInD (mVar 1) (mVar 2))))
mBad
mSkip)
(mRet (mBin opIxU (mVar 2) (mVar 1))))))
noncomputable def m_first_apart : FM := mFn 4 (mSeq (mFor (mSrc (mUser m_reached (mCons (mVar 0) mNil))) (gN 3)
(mIfS (mB (mBin opNe (mUser m_run_from (mCons (mVar 0) (mCons (mVar 3) (mCons (mVar 1) mNil)))) (mUser m_run_from (mCons (mVar 0) (mCons (mVar 3) (mCons (mVar 2) mNil))))))
(mRet (mVar 3))
mSkip))
(mRet (mC .non)))
noncomputable def m_apart : FM := mFn 3 (mSeq (mDrop (mUser m_need_system (mCons (mVar 0) mNil)))
(mSeq (mDrop (mUser m_need_log (mCons (mVar 0) (mCons (mVar 1) mNil))))
(mSeq (mDrop (mUser m_need_log (mCons (mVar 0) (mCons (mVar 2) mNil))))
(mRet (mUser m_first_apart (mCons (mVar 0) (mCons (mVar 1) (mCons (mVar 2) mNil))))))))
noncomputable def m__law_paths : FM := mFn 7 (mSeq (mPar 1 2 (mCons (mLstO (mCons (mTup (mCons (mBin opIx (mVar 0) (mC (.int 1))) (mCons (mTup mNil) mNil))) mNil)) (mCons (mC (.int 0)) mNil)))
(mSeq (mAsg (mLstO (mCons (mBin opIx (mVar 0) (mC (.int 1))) mNil)) (gN 3))
(mSeq (mWhile (mB (mBin opLt (mVar 2) (mCall fLen (mCons (mVar 1) mNil))))
(mSeq (mFor (mEnum (mCons (mBin opIx (mVar 0) (mC (.int 2))) mNil)) (gT 2 (gConsM (gN 4) (gConsM (gN 5) gNilM)))
(mSeq (mAsg (mBin opIx (mVar 5) (mBin opIx (mBin opIx (mVar 1) (mVar 2)) (mC (.int 0)))) (gN 6))
(mIfS (mB (mBin opNotIn (mVar 6) (mVar 3)))
(mSeq (mDrop (mAppend (mVar 3) (mVar 6)))
(mDrop (mAppend (mVar 1) (mTup (mCons (mVar 6) (mCons (mBin opAdd (mBin opIx (mBin opIx (mVar 1) (mVar 2)) (mC (.int 1))) (mTup (mCons (mVar 4) mNil))) mNil))))))
mSkip)))
(mAsg (mBin opAdd (mVar 2) (mC (.int 1))) (gN 2))) 2000)
(mRet (mVar 1)))))
noncomputable def m__law_reached : FM := mFn 3 (mRet (mCall fSorted (mCons (mLc (mSrc (mUser m__law_paths (mCons (mVar 0) mNil))) (.many [1, 2]) mYes (mVar 1) [1, 2]) mNil)))
noncomputable def m_has_later : FM := mFn 5 (mSeq (mAsg (mBin opIx (mBin opIx (mVar 0) (mC (.int 3))) (mBin opIx (mVar 1) (mVar 2))) (gN 3))
(mRet (mAndV (mBin opNotN (mVar 3) (mC .non)) (mBin opIn (mVar 3) (mLc (mSrc (mSl (mVar 1) (mPart (mBin opAdd (mVar 2) (mC (.int 1)))) mNo)) (.one 4) mYes (mBin opIx (mBin opIx (mVar 0) (mC (.int 3))) (mVar 4)) [4])))))
noncomputable def m_compacted_log : FM := mFn 4 (mRet (mCall fTuple (mCons (mLc (mEnum (mCons (mVar 1) mNil)) (.many [2, 3]) (mNotT (mB (mUser m_has_later (mCons (mVar 0) (mCons (mVar 1) (mCons (mVar 2) mNil)))))) (mVar 3) [2, 3]) mNil)))
noncomputable def m_compacted : FM := mFn 2 (mSeq (mDrop (mUser m_need_system (mCons (mVar 0) mNil)))
(mSeq (mDrop (mUser m_need_log (mCons (mVar 0) (mCons (mVar 1) mNil))))
(mRet (mUser m_compacted_log (mCons (mVar 0) (mCons (mVar 1) mNil))))))
noncomputable def m_is_form : FM := mFn 4 (mSeq (mAsg (mLcF finL (mSrc (mVar 1)) (.one 3) mYes (mBin opIx (mBin opIx (mVar 0) (mC (.int 3))) (mVar 3)) [3]) (gN 2))
(mSeq (mIfS (mOrT (mB (mBin opNotIn (mCall fLen (mCons (mVar 1) mNil)) (mTup (mCons (mC (.int 2)) (mCons (mC (.int 3)) mNil))))) (mOrT (mB (mBin opIsN (mBin opIx (mVar 2) (mC (.int 0))) (mC .non))) (mB (mBin opNe (mBin opIx (mVar 2) (mC (.int 0))) (mBin opIx (mVar 2) (mUn opNeg (mC (.int 1))))))))
(mRet (mC (.bl false)))
mSkip)
(mRet (mOrV (mBin opEq (mCall fLen (mCons (mVar 1) mNil)) (mC (.int 2))) (mBin opNe (mBin opIx (mVar 2) (mC (.int 1))) (mBin opIx (mVar 2) (mC (.int 0))))))))
noncomputable def m_forms_of : FM := mFn 7 (mSeq (mAsg (mListRg (mCall fLen (mCons (mBin opIx (mVar 0) (mC (.int 2))) mNil))) (gN 1))
(mSeq (mAsg (mLcN finL (mSrc (mVar 1)) (.one 3) mYes (bIn (mSrc (mVar 1)) (.one 4) mYes (bApp (mTup (mCons (mVar 3) (mCons (mVar 4) mNil)))) [4]) [3, 4]) (gN 2))
(mSeq (mAsg (mBin opAdd (mVar 2) (mLcN finL (mSrc (mVar 1)) (.one 3) mYes (bIn (mSrc (mVar 1)) (.one 6) mYes (bIn (mSrc (mVar 1)) (.one 4) mYes (bApp (mTup (mCons (mVar 3) (mCons (mVar 6) (mCons (mVar 4) mNil))))) [4]) [6, 4]) [3, 6, 4])) (gN 2))
(mRet (mLc (mSrc (mVar 2)) (.one 5) (mB (mUser m_is_form (mCons (mVar 0) (mCons (mVar 5) mNil)))) (mVar 5) [5])))))
noncomputable def m_is_faulty : FM := mFn 3 (mRet (mBin opNe (mUser m_run_from (mCons (mVar 0) (mCons (mVar 1) (mCons (mVar 2) mNil)))) (mUser m_run_from (mCons (mVar 0) (mCons (mVar 1) (mCons (mSl (mVar 2) (mPart (mC (.int 1))) mNo) mNil))))))
noncomputable def m_fault_of : FM := mFn 4 (mSeq (mAsg (mUser m_forms_of (mCons (mVar 0) mNil)) (gN 1))
(mSeq (mFor (mSrc (mUser m_reached (mCons (mVar 0) mNil))) (gN 2)
(mFor (mSrc (mVar 1)) (gN 3)
(mIfS (mB (mUser m_is_faulty (mCons (mVar 0) (mCons (mVar 2) (mCons (mVar 3) mNil)))))
(mRet (mTup (mCons (mVar 2) (mCons (mVar 3) mNil))))
mSkip)))
(mRet (mC .non))))
noncomputable def m_fault : FM := mFn 1 (mSeq (mDrop (mUser m_need_system (mCons (mVar 0) mNil)))
(mRet (mUser m_fault_of (mCons (mVar 0) mNil))))
noncomputable def m_shows_fault : FM := mFn 4 (mSeq (mDrop (mUser m_need_system (mCons (mVar 0) mNil)))
(mSeq (mIfS (mB (mBin opIsN (mVar 1) (mC .non)))
(mRet (mBin opIsN (mUser m_fault_of (mCons (mVar 0) mNil)) (mC .non)))
mSkip)
(mSeq (mIfS (mOrT (mNotT (mB (mCall fIsi (mCons (mVar 1) (mCons (mC (.ty "tuple")) mNil))))) (mOrT (mB (mBin opNe (mCall fLen (mCons (mVar 1) mNil)) (mC (.int 2)))) (mOrT (mNotT (mB (mUser m_is_whole (mCons (mBin opIx (mVar 1) (mC (.int 0))) mNil)))) (mNotT (mB (mUser m_is_log (mCons (mVar 0) (mCons (mBin opIx (mVar 1) (mC (.int 1))) mNil))))))))
(mRet (mC (.bl false)))
mSkip)
(mSeq (mAsg (mVar 1) (gT 2 (gConsM (gN 2) (gConsM (gN 3) gNilM))))
(mRet (mAndV (mBin opIn (mVar 2) (mUser m_reached (mCons (mVar 0) mNil))) (mAndV (mUser m_is_form (mCons (mVar 0) (mCons (mVar 3) mNil))) (mUser m_is_faulty (mCons (mVar 0) (mCons (mVar 2) (mCons (mVar 3) mNil)))))))))))
noncomputable def m_is_changed : FM := mFn 2 (mRet (mBin opNe (mUser m_outcome_of (mCons (mVar 0) (mCons (mVar 1) mNil))) (mUser m_outcome_of (mCons (mVar 0) (mCons (mUser m_compacted_log (mCons (mVar 0) (mCons (mVar 1) mNil))) mNil)))))
noncomputable def m_changed : FM := mFn 5 (mSeq (mDrop (mUser m_need_system (mCons (mVar 0) mNil)))
(mSeq (mAsg (mUser m_fault_of (mCons (mVar 0) mNil)) (gN 1))
(mSeq (mIfS (mB (mBin opIsN (mVar 1) (mC .non)))
(mRet (mC .non))
mSkip)
(mSeq (mAsg (mVar 1) (gT 2 (gConsM (gN 2) (gConsM (gN 3) gNilM))))
(mSeq (mAsg (mBin opIxU (mUser m_paths_of (mCons (mVar 0) mNil)) (mVar 2)) (gN 4))
(mRet (mIf (mB (mUser m_is_changed (mCons (mVar 0) (mCons (mBin opAdd (mVar 4) (mVar 3)) mNil)))) (mBin opAdd (mVar 4) (mVar 3)) (mBin opAdd (mVar 4) (mSl (mVar 3) (mPart (mC (.int 1))) mNo)))))))))
noncomputable def m_shows_changed : FM := mFn 2 (mSeq (mDrop (mUser m_need_system (mCons (mVar 0) mNil)))
(mSeq (mIfS (mB (mBin opIsN (mVar 1) (mC .non)))
(mRet (mBin opIsN (mUser m_fault_of (mCons (mVar 0) mNil)) (mC .non)))
mSkip)
(mRet (mAndV (mUser m_is_log (mCons (mVar 0) (mCons (mVar 1) mNil))) (mUser m_is_changed (mCons (mVar 0) (mCons (mVar 1) mNil)))))))
noncomputable def m__law_no_logs : FM := mFn 2 (mSeq (mAsg (mLst (mCons (mC .non) (mCons (mC (.bl true)) (mCons (mC (.int 0)) (mCons (mC (.str "")) (mCons (mC (.str "0")) (mCons (mLst mNil) (mCons (mLst (mCons (mC (.int 0)) mNil)) (mCons mNewK (mCons (mTup (mCons (mVar 0) mNil)) (mCons (mTup (mCons (mUn opNeg (mC (.int 1))) mNil)) (mCons (mTup (mCons (mC (.int 0)) (mCons (mVar 0) mNil))) (mCons (mTup (mCons (mC (.bl true)) mNil)) (mCons (mTup (mCons (mC (.int 0)) (mCons (mC (.bl false)) mNil))) (mCons (mTup (mCons (mC .non) mNil)) (mCons (mTup (mCons (mC (.str "0")) mNil)) mNil)))))))))))))))) (gN 1))
(mRet (mBin opAdd (mVar 1) (mLst (mCons (mTup (mCons (mTup (mCons (mC (.int 0)) mNil)) mNil)) (mCons (mTup (mCons (mLst mNil) mNil)) (mCons (mTup (mCons (mTup mNil) mNil)) (mCons (mTup (mCons (mBin opPow (mC (.int 10)) (mC (.int 12))) mNil)) (mCons (mTup (mCons (mC (.int 0)) (mCons (mC (.int 0)) (mCons (mUn opNeg (mC (.int 1))) mNil)))) (mCons (mTup (mCons (mC (.int 0)) (mCons (mC (.int 6)) mNil))) mNil))))))))))
noncomputable def m__law_compacted : FM := mFn 7 (mSeq (mAsg (mLstO mNil) (gN 2))
(mSeq (mFor (mEnum (mCons (mVar 1) mNil)) (gT 2 (gConsM (gN 3) (gConsM (gN 4) gNilM)))
(mSeq (mAsg (mBin opIx (mBin opIx (mVar 0) (mC (.int 3))) (mVar 4)) (gN 5))
(mIfS (mOrT (mB (mBin opIsN (mVar 5) (mC .non))) (mB (mBin opNotIn (mVar 5) (mLc (mSrc (mSl (mVar 1) (mPart (mBin opAdd (mVar 3) (mC (.int 1)))) mNo)) (.one 6) mYes (mBin opIx (mBin opIx (mVar 0) (mC (.int 3))) (mVar 6)) [6]))))
(mDrop (mAppend (mVar 2) (mVar 4)))
mSkip)))
(mRet (mCall fTuple (mCons (mVar 2) mNil)))))
noncomputable def m__law_logs : FM := mFn 8 (mSeq (mPar 2 3 (mCons (mLst (mCons (mTup mNil) mNil)) (mCons (mLst (mCons (mTup mNil) mNil)) mNil)))
(mSeq (mFor (mRng1 (mCons (mVar 1) mNil)) (gN 4)
(mSeq (mAsg (mLstO mNil) (gN 5))
(mSeq (mFor (mSrc (mVar 3)) (gN 6)
(mDrop (mExtend (mVar 5) (mLc (mRng1 (mCons (mVar 0) mNil)) (.one 7) mYes (mBin opAdd (mVar 6) (mTup (mCons (mVar 7) mNil))) [7]))))
(mPar 2 3 (mCons (mBin opAdd (mVar 2) (mVar 5)) (mCons (mVar 5) mNil))))))
(mRet (mVar 2))))
noncomputable def m__law_is_form : FM := mFn 4 (mSeq (mIfS (mB (mBin opNotIn (mCall fLen (mCons (mVar 1) mNil)) (mTup (mCons (mC (.int 2)) (mCons (mC (.int 3)) mNil)))))
(mRet (mC (.bl false)))
mSkip)
(mSeq (mPar 2 3 (mCons (mBin opIx (mBin opIx (mVar 0) (mC (.int 3))) (mBin opIx (mVar 1) (mC (.int 0)))) (mCons (mBin opIx (mBin opIx (mVar 0) (mC (.int 3))) (mBin opIx (mVar 1) (mUn opNeg (mC (.int 1))))) mNil)))
(mSeq (mIfS (mOrT (mB (mBin opIsN (mVar 2) (mC .non))) (mB (mBin opNe (mVar 2) (mVar 3))))
(mRet (mC (.bl false)))
mSkip)
(mRet (mOrV (mBin opEq (mCall fLen (mCons (mVar 1) mNil)) (mC (.int 2))) (mBin opNe (mBin opIx (mBin opIx (mVar 0) (mC (.int 3))) (mBin opIx (mVar 1) (mC (.int 1)))) (mVar 2)))))))
noncomputable def m__law_fault : FM := mFn 4 (mSeq (mAsg (mLcF finL (mSrc (mUser m__law_logs (mCons (mCall fLen (mCons (mBin opIx (mVar 0) (mC (.int 2))) mNil)) (mCons (mC (.int 3)) mNil)))) (.one 1) (mB (mUser m__law_is_form (mCons (mVar 0) (mCons (mVar 1) mNil)))) (mVar 1) [1]) (gN 2))
(mSeq (mFor (mSrc (mUser m__law_reached (mCons (mVar 0) mNil))) (gN 3)
(mFor (mSrc (mVar 2)) (gN 1)
(mIfS (mB (mBin opNe (mUser m__law_run (mCons (mVar 0) (mCons (mVar 3) (mCons (mVar 1) mNil)))) (mUser m__law_run (mCons (mVar 0) (mCons (mVar 3) (mCons (mSl (mVar 1) (mPart (mC (.int 1))) mNo) mNil))))))
(mRet (mTup (mCons (mVar 3) (mCons (mVar 1) mNil))))
mSkip)))
(mRet (mC .non))))
noncomputable def m__law_is_log : FM := mFn 3 (mSeq (mIfS (mNotT (mB (mCall fIsi (mCons (mVar 1) (mCons (mC (.ty "tuple")) mNil)))))
(mRet (mC (.bl false)))
mSkip)
(mRet (mBin opEq (mLc (mSrc (mVar 1)) (.one 2) (mNotT (mB (mUser m__law_is_whole (mCons (mVar 2) (mCons (mC (.int 0)) (mCons (mBin opSub (mCall fLen (mCons (mBin opIx (mVar 0) (mC (.int 2))) mNil)) (mC (.int 1))) mNil)))))) (mC (.int 1)) [2]) (mLst mNil))))
noncomputable def m_Unlike_init : FM := mFn 2 (mSetFld ["Unlike"] "operation" (mVar 0) (mVar 1))
noncomputable def m_Unlike_call : FM := mFn 2 (mRet (mBin opNe (mBin opIx (mFld ["Unlike"] "operation" (mVar 0)) (mBin opIx (mVar 1) (mC (.int 0)))) (mBin opIx (mFld ["Unlike"] "operation" (mVar 0)) (mBin opIx (mVar 1) (mC (.int 1))))))
noncomputable def m_longer : FM := mFn 10 (mSeq (mAsg mNewT (gN 2))
(mSeq (mFor (mItems (mVar 1)) (gT 2 (gConsM (gT 2 (gConsM (gN 3) (gConsM (gN 4) gNilM))) (gConsM (gN 5) gNilM)))
(mFor (mEnum (mCons (mBin opIx (mVar 0) (mC (.int 2))) mNil)) (gT 2 (gConsM (gN 6) (gConsM (gN 7) gNilM)))
(mSeq (mPar 8 9 (mCons (mTup (mCons (mBin opIx (mVar 7) (mVar 3)) (mCons (mBin opIx (mVar 7) (mVar 4)) mNil))) (mCons (mBin opAdd (mVar 5) (mTup (mCons (mVar 6) mNil))) mNil)))
(mAsg (mCall fMin2T (mCons (mGet2 (mVar 2) (mVar 8) (mVar 9)) (mCons (mVar 9) mNil))) (gIxU (mVar 2) (mVar 8))))))
(mRet (mVar 2))))
noncomputable def m_first_log : FM := mFn 8 (mSeq (mAsg (mTup (mCons (mDcT (mSrc (mVar 1)) (.one 6) mYes (mVar 6) (mTup mNil) [6]) (mCons (mLst mNil) mNil))) (gT 2 (gConsM (gN 3) (gConsM (gN 4) gNilM))))
(mSeq (mWhile (mB (mBin opNeE (mVar 3) mNewT))
(mSeq (mAsg (mLcF finL (mItems (mVar 3)) (.many [6, 7]) (mB (mCallI [("Unlike", m_Unlike_call)] (mVar 2) (mCons (mVar 6) mNil))) (mVar 7) [6, 7]) (gN 5))
(mSeq (mIfS (mB (mBin opNe (mVar 5) (mLst mNil)))
(mRet (mCall fMinT (mCons (mVar 5) mNil)))
mSkip)
(mSeq (mAsg (mBin opAdd (mVar 4) (mCall fListOU (mCons (mVar 3) mNil))) (gN 4))
(mAsg (mDcT (mItems (mUser m_longer (mCons (mVar 0) (mCons (mVar 3) mNil)))) (.many [6, 7]) (mB (mBin opNotIn (mVar 6) (mVar 4))) (mVar 6) (mVar 7) [6, 7]) (gN 3))))) 2000)
(mRet (mC .non))))
noncomputable def m_uncovered_log : FM := mFn 6 (mSeq (mAsg (mTup (mCons (mBin opIx (mBin opIx (mVar 0) (mC (.int 2))) (mVar 1)) (mCons (mNew "Unlike" m_Unlike_init (mCons (mBin opIx (mBin opIx (mVar 0) (mC (.int 2))) (mVar 2)) mNil)) mNil))) (gT 2 (gConsM (gN 3) (gConsM (gN 4) gNilM))))
(mRet (mUser m_first_log (mCons (mVar 0) (mCons (mLc (mSrc (mUser m_reached (mCons (mVar 0) mNil))) (.one 5) mYes (mTup (mCons (mBin opIx (mVar 3) (mVar 5)) (mCons (mVar 5) mNil))) [5]) (mCons (mVar 4) mNil))))))
noncomputable def m_uncovered : FM := mFn 3 (mSeq (mDrop (mUser m_need_system (mCons (mVar 0) mNil)))
(mSeq (mDrop (mUser m_need_operation (mCons (mVar 0) (mCons (mVar 1) mNil))))
(mSeq (mDrop (mUser m_need_operation (mCons (mVar 0) (mCons (mVar 2) mNil))))
(mRet (mUser m_uncovered_log (mCons (mVar 0) (mCons (mVar 1) (mCons (mVar 2) mNil))))))))
noncomputable def m__law_pairs : FM := mFn 4 (mSeq (mAsg (mLstO mNil) (gN 1))
(mSeq (mFor (mRng1 (mCons (mVar 0) mNil)) (gN 2)
(mDrop (mExtend (mVar 1) (mLc (mRng1 (mCons (mVar 0) mNil)) (.one 3) mYes (mTup (mCons (mVar 2) (mCons (mVar 3) mNil))) [3]))))
(mRet (mVar 1))))
noncomputable def m__law_steps_to : FM := mFn 10 (mSeq (mAsg (mTup (mCons mNewT (mCons (mC (.bl true)) (mCons (mC (.int 0)) mNil)))) (gT 3 (gConsM (gN 2) (gConsM (gN 3) (gConsM (gN 4) gNilM)))))
(mSeq (mFor (mSrc (mVar 1)) (gN 5)
(mAsg (mC (.int 0)) (gIxU (mVar 2) (mVar 5))))
(mSeq (mWhile (mB (mVar 3))
(mSeq (mAsg (mC (.bl false)) (gN 3))
(mSeq (mFor (mSrc (mUser m__law_pairs (mCons (mBin opIx (mVar 0) (mC (.int 0))) mNil))) (gT 2 (gConsM (gN 6) (gConsM (gN 7) gNilM)))
(mSeq (mAsg (mLcF finL (mSrc (mBin opIx (mVar 0) (mC (.int 2)))) (.one 9) mYes (mGet2 (mVar 2) (mTup (mCons (mBin opIx (mVar 9) (mVar 6)) (mCons (mBin opIx (mVar 9) (mVar 7)) mNil))) (mUn opNeg (mC (.int 1)))) [9]) (gN 8))
(mIfS (mAndT (mB (mBin opNotInD (mTup (mCons (mVar 6) (mCons (mVar 7) mNil))) (mVar 2))) (mB (mBin opIn (mVar 4) (mVar 8))))
(mSeq (mAsg (mBin opAdd (mVar 4) (mC (.int 1))) (gIxU (mVar 2) (mTup (mCons (mVar 6) (mCons (mVar 7) mNil)))))
(mAsg (mC (.bl true)) (gN 3)))
mSkip)))
(mAsg (mBin opAdd (mVar 4) (mC (.int 1))) (gN 4)))) 2000)
(mRet (mVar 2)))))
noncomputable def m__law_first_between : FM := mFn 15 (mSeq (mAsg (mTup (mCons (mUser m__law_steps_to (mCons (mVar 0) (mCons (mVar 2) mNil))) (mCons (mTup mNil) mNil))) (gT 2 (gConsM (gN 3) (gConsM (gN 4) gNilM))))
(mSeq (mIfS (mB (mBin opEq (mLc (mSrc (mVar 1)) (.one 11) (mB (mBin opInD (mVar 11) (mVar 3))) (mVar 11) [11]) (mLst mNil)))
(mRet (mC .non))
mSkip)
(mSeq (mAsg (mCall fMinL (mCons (mLc (mSrc (mVar 1)) (.one 11) (mB (mBin opInD (mVar 11) (mVar 3))) (mBin opIxU (mVar 3) (mVar 11)) [11]) mNil)) (gN 5))
(mSeq (mAsg (mLcF finL (mSrc (mVar 1)) (.one 11) (mB (mBin opEq (mGet2 (mVar 3) (mVar 11) (mUn opNeg (mC (.int 1)))) (mVar 5))) (mVar 11) [11]) (gN 6))
(mSeq (mWhile (mB (mBin opGt (mVar 5) (mC (.int 0))))
(mSeq (mAsg (mLstO mNil) (gN 7))
(mSeq (mFor (mEnum (mCons (mBin opIx (mVar 0) (mC (.int 2))) mNil)) (gT 2 (gConsM (gN 8) (gConsM (gN 9) gNilM)))
(mSeq (mAsg (mLcF finL (mSrc (mVar 6)) (.many [12, 13]) mYes (mTup (mCons (mBin opIx (mVar 9) (mVar 12)) (mCons (mBin opIx (mVar 9) (mVar 13)) mNil))) [12, 13]) (gN 10))
(mDrop (mAppend (mVar 7) (mTup (mCons (mVar 8) (mCons (mLc (mSrc (mVar 10)) (.one 11) (mB (mBin opEq (mGet2 (mVar 3) (mVar 11) (mUn opNeg (mC (.int 1)))) (mBin opSub (mVar 5) (mC (.int 1))))) (mVar 11) [11]) mNil)))))))
(mSeq (mAsg (mBin opIx (mLc (mSrc (mVar 7)) (.one 14) (mB (mBin opNe (mBin opIx (mVar 14) (mC (.int 1))) (mLst mNil))) (mVar 14) [14]) (mC (.int 0))) (gT 2 (gConsM (gN 8) (gConsM (gN 6) gNilM))))
(mAsg (mTup (mCons (mBin opAdd (mVar 4) (mTup (mCons (mVar 8) mNil))) (mCons (mBin opSub (mVar 5) (mC (.int 1))) mNil))) (gT 2 (gConsM (gN 4) (gConsM (gN 5) gNilM))))))) 2000)
(mRet (mVar 4)))))))
noncomputable def m__law_uncovered : FM := mFn 8 (mSeq (mAsg (mTup (mCons (mBin opIx (mBin opIx (mVar 0) (mC (.int 2))) (mVar 1)) (mCons (mBin opIx (mBin opIx (mVar 0) (mC (.int 2))) (mVar 2)) mNil))) (gT 2 (gConsM (gN 3) (gConsM (gN 4) gNilM))))
(mSeq (mAsg (mLcF finL (mSrc (mUser m__law_pairs (mCons (mBin opIx (mVar 0) (mC (.int 0))) mNil))) (.one 6) (mB (mBin opNe (mBin opIx (mVar 4) (mBin opIx (mVar 6) (mC (.int 0)))) (mBin opIx (mVar 4) (mBin opIx (mVar 6) (mC (.int 1)))))) (mVar 6) [6]) (gN 5))
(mRet (mUser m__law_first_between (mCons (mVar 0) (mCons (mLc (mSrc (mUser m__law_reached (mCons (mVar 0) mNil))) (.one 7) mYes (mTup (mCons (mBin opIx (mVar 3) (mVar 7)) (mCons (mVar 7) mNil))) [7]) (mCons (mVar 5) mNil)))))))
noncomputable def m_is_telling : FM := mFn 6 (mSeq (mAsg (mBin opAdd (mVar 3) (mTup (mCons (mVar 2) mNil))) (gN 4))
(mSeq (mFor (mSrc (mUser m_reached (mCons (mVar 0) mNil))) (gN 5)
(mIfS (mB (mBin opNe (mUser m_run_from (mCons (mVar 0) (mCons (mVar 5) (mCons (mBin opAdd (mTup (mCons (mVar 1) mNil)) (mVar 4)) mNil)))) (mUser m_run_from (mCons (mVar 0) (mCons (mVar 5) (mCons (mVar 4) mNil))))))
(mRet (mC (.bl true)))
mSkip))
(mRet (mC (.bl false)))))
noncomputable def m_shows_uncovered : FM := mFn 4 (mSeq (mDrop (mUser m_need_system (mCons (mVar 0) mNil)))
(mSeq (mDrop (mUser m_need_operation (mCons (mVar 0) (mCons (mVar 1) mNil))))
(mSeq (mDrop (mUser m_need_operation (mCons (mVar 0) (mCons (mVar 2) mNil))))
(mSeq (mIfS (mB (mBin opIsN (mVar 3) (mC .non)))
(mRet (mBin opIsN (mUser m_uncovered_log (mCons (mVar 0) (mCons (mVar 1) (mCons (mVar 2) mNil)))) (mC .non)))
mSkip)
(mRet (mAndV (mUser m_is_log (mCons (mVar 0) (mCons (mVar 3) mNil))) (mUser m_is_telling (mCons (mVar 0) (mCons (mVar 1) (mCons (mVar 2) (mCons (mVar 3) mNil)))))))))))
noncomputable def m_does_cover : FM := mFn 12 (mSeq (mAsg (mTup (mCons (mBin opIx (mBin opIx (mVar 0) (mC (.int 2))) (mVar 1)) (mCons (mNew "Unlike" m_Unlike_init (mCons (mBin opIx (mBin opIx (mVar 0) (mC (.int 2))) (mVar 2)) mNil)) mNil))) (gT 2 (gConsM (gN 3) (gConsM (gN 4) gNilM))))
(mSeq (mAsg (mDcT (mSrc (mUser m_reached (mCons (mVar 0) mNil))) (.one 11) mYes (mTup (mCons (mBin opIx (mVar 3) (mVar 11)) (mCons (mVar 11) mNil))) (mC (.bl true)) [11]) (gN 5))
(mSeq (mAsg (mCall fListOU (mCons (mVar 5) mNil)) (gN 6))
(mSeq (mAsg (mC (.int 0)) (gN 7))
(mSeq (mWhile (mB (mBin opLt (mVar 7) (mCall fLen (mCons (mVar 6) mNil))))
(mSeq (mAsg (mBin opIx (mVar 6) (mVar 7)) (gN 8))
(mSeq (mAugAdd 7 (mC (.int 1)))
(mSeq (mIfS (mB (mCallI [("Unlike", m_Unlike_call)] (mVar 4) (mCons (mVar 8) mNil)))
(mRet (mC (.bl false)))
mSkip)
(mFor (mSrc (mBin opIx (mVar 0) (mC (.int 2)))) (gN 9)
(mSeq (mAsg (mTup (mCons (mBin opIx (mVar 9) (mBin opIx (mVar 8) (mC (.int 0)))) (mCons (mBin opIx (mVar 9) (mBin opIx (mVar 8) (mC (.int 1)))) mNil))) (gN 10))
(mIfS (mAndT (mB (mBin opNe (mBin opIx (mVar 10) (mC (.int 0))) (mBin opIx (mVar 10) (mC (.int 1))))) (mB (mBin opNotInD (mVar 10) (mVar 5))))
(mSeq (mAsg (mC (.bl true)) (gIxU (mVar 5) (mVar 10)))
(mDrop (mAppend (mVar 6) (mVar 10))))
mSkip)))))) 2000)
(mRet (mC (.bl true))))))))
noncomputable def m_coverage_of : FM := mFn 4 (mSeq (mAsg (mListRg (mCall fLen (mCons (mBin opIx (mVar 0) (mC (.int 2))) mNil))) (gN 1))
(mRet (mCall fTuple (mCons (mLc (mSrc (mVar 1)) (.one 2) mYes (mCall fTuple (mCons (mLc (mSrc (mVar 1)) (.one 3) mYes (mUser m_does_cover (mCons (mVar 0) (mCons (mVar 2) (mCons (mVar 3) mNil)))) [3]) mNil)) [2]) mNil))))
noncomputable def m_coverage : FM := mFn 1 (mSeq (mDrop (mUser m_need_system (mCons (mVar 0) mNil)))
(mRet (mUser m_coverage_of (mCons (mVar 0) mNil))))
noncomputable def m__law_coverage : FM := mFn 5 (mSeq (mAsg (mLstO mNil) (gN 1))
(mSeq (mFor (mRng1 (mCons (mCall fLen (mCons (mBin opIx (mVar 0) (mC (.int 2))) mNil)) mNil)) (gN 2)
(mSeq (mAsg (mLcF finL (mRng1 (mCons (mCall fLen (mCons (mBin opIx (mVar 0) (mC (.int 2))) mNil)) mNil)) (.one 4) mYes (mBin opIsN (mUser m__law_uncovered (mCons (mVar 0) (mCons (mVar 2) (mCons (mVar 4) mNil)))) (mC .non)) [4]) (gN 3))
(mDrop (mAppend (mVar 1) (mCall fTuple (mCons (mVar 3) mNil))))))
(mRet (mCall fTuple (mCons (mVar 1) mNil)))))
noncomputable def m_best_of : FM := mFn 8 (mSeq (mAsg (mUser m_coverage_of (mCons (mVar 0) mNil)) (gN 1))
(mSeq (mPar 2 3 (mCons (mLstO mNil) (mCons (mC (.int 0)) mNil)))
(mSeq (mFor (mEnum (mCons (mVar 1) mNil)) (gT 2 (gConsM (gN 4) (gConsM (gN 5) gNilM)))
(mSeq (mAsg (mLcF finL (mRng1 (mCons (mVar 4) mNil)) (.one 7) (mAndT (mB (mBin opIx (mVar 5) (mVar 7))) (mB (mBin opIx (mBin opIx (mVar 1) (mVar 7)) (mVar 4)))) (mVar 7) [7]) (gN 6))
(mIfS (mB (mBin opNe (mVar 6) (mLst mNil)))
(mDrop (mAppend (mVar 2) (mBin opIx (mVar 2) (mBin opIx (mVar 6) (mC (.int 0))))))
(mIfS (mB (mBin opIx (mVar 5) (mVar 4)))
(mSeq (mDrop (mAppend (mVar 2) (mVar 3)))
(mAugAdd 3 (mC (.int 1))))
(mDrop (mAppend (mVar 2) (mC .non)))))))
(mRet (mCall fTuple (mCons (mVar 2) mNil))))))
noncomputable def m_best_kinds : FM := mFn 1 (mSeq (mDrop (mUser m_need_system (mCons (mVar 0) mNil)))
(mRet (mUser m_best_of (mCons (mVar 0) mNil))))
noncomputable def m_thinned_log : FM := mFn 6 (mSeq (mAsg (mUser m_coverage_of (mCons (mVar 0) mNil)) (gN 2))
(mRet (mCall fTuple (mCons (mLc (mEnum (mCons (mVar 1) mNil)) (.many [3, 4]) (mNotT (mB (mCall fAny (mCons (mLc (mSrc (mSl (mVar 1) (mPart (mBin opAdd (mVar 3) (mC (.int 1)))) mNo)) (.one 5) mYes (mBin opIx (mBin opIx (mVar 2) (mVar 4)) (mVar 5)) [5]) mNil)))) (mVar 4) [3, 4]) mNil))))
noncomputable def m_thinned : FM := mFn 2 (mSeq (mDrop (mUser m_need_system (mCons (mVar 0) mNil)))
(mSeq (mDrop (mUser m_need_log (mCons (mVar 0) (mCons (mVar 1) mNil))))
(mRet (mUser m_thinned_log (mCons (mVar 0) (mCons (mVar 1) mNil))))))
noncomputable def m__law_thinned : FM := mFn 6 (mSeq (mAsg (mLstO mNil) (gN 2))
(mSeq (mFor (mEnum (mCons (mVar 1) mNil)) (gT 2 (gConsM (gN 3) (gConsM (gN 4) gNilM)))
(mIfS (mB (mBin opNotIn (mC (.bl true)) (mLc (mSrc (mSl (mVar 1) (mPart (mBin opAdd (mVar 3) (mC (.int 1)))) mNo)) (.one 5) mYes (mBin opIx (mBin opIx (mVar 0) (mVar 4)) (mVar 5)) [5])))
(mDrop (mAppend (mVar 2) (mVar 4)))
mSkip))
(mRet (mCall fTuple (mCons (mVar 2) mNil)))))
noncomputable def m_Moved_init : FM := mFn 2 (mSetFld ["Moved"] "operation" (mVar 0) (mVar 1))
noncomputable def m_Moved_call : FM := mFn 2 (mRet (mBin opNe (mBin opIx (mFld ["Moved"] "operation" (mVar 0)) (mBin opIx (mVar 1) (mC (.int 0)))) (mBin opIx (mVar 1) (mC (.int 0)))))
noncomputable def m_order_of : FM := mFn 5 (mSeq (mAsg (mCall fLen (mCons (mBin opIx (mVar 0) (mC (.int 2))) mNil)) (gN 1))
(mSeq (mFor (mSrc (mUser m_reached (mCons (mVar 0) mNil))) (gN 2)
(mFor (mRng1 (mCons (mVar 1) mNil)) (gN 3)
(mFor (mRng2 (mCons (mBin opAdd (mVar 3) (mC (.int 1))) (mCons (mVar 1) mNil))) (gN 4)
(mIfS (mB (mBin opNe (mUser m_run_from (mCons (mVar 0) (mCons (mVar 2) (mCons (mTup (mCons (mVar 3) (mCons (mVar 4) mNil))) mNil)))) (mUser m_run_from (mCons (mVar 0) (mCons (mVar 2) (mCons (mTup (mCons (mVar 4) (mCons (mVar 3) mNil))) mNil))))))
(mRet (mTup (mCons (mVar 2) (mCons (mVar 3) (mCons (mVar 4) mNil)))))
mSkip))))
(mRet (mC .non))))
noncomputable def m_order_fault : FM := mFn 1 (mSeq (mDrop (mUser m_need_system (mCons (mVar 0) mNil)))
(mRet (mUser m_order_of (mCons (mVar 0) mNil))))
noncomputable def m_by_set : FM := mFn 2 (mSeq (mDrop (mUser m_need_system (mCons (mVar 0) mNil)))
(mSeq (mIfS (mB (mBin opNotN (mUser m_order_of (mCons (mVar 0) mNil)) (mC .non)))
(mRet (mC (.bl false)))
mSkip)
(mRet (mCall fAll (mCons (mLc (mRng1 (mCons (mCall fLen (mCons (mBin opIx (mVar 0) (mC (.int 2))) mNil)) mNil)) (.one 1) mYes (mBin opIsN (mUser m_first_apart (mCons (mVar 0) (mCons (mTup (mCons (mVar 1) (mCons (mVar 1) mNil))) (mCons (mTup (mCons (mVar 1) mNil)) mNil)))) (mC .non)) [1]) mNil)))))
noncomputable def m_unsteady : FM := mFn 4 (mSeq (mDrop (mUser m_need_system (mCons (mVar 0) mNil)))
(mSeq (mDrop (mUser m_need_operation (mCons (mVar 0) (mCons (mVar 1) mNil))))
(mSeq (mAsg (mBin opIx (mBin opIx (mVar 0) (mC (.int 2))) (mVar 1)) (gN 2))
(mRet (mUser m_first_log (mCons (mVar 0) (mCons (mLc (mSrc (mUser m_reached (mCons (mVar 0) mNil))) (.one 3) mYes (mTup (mCons (mBin opIx (mVar 2) (mVar 3)) (mCons (mBin opIx (mVar 2) (mVar 3)) mNil))) [3]) (mCons (mNew "Moved" m_Moved_init (mCons (mVar 2) mNil)) mNil))))))))
noncomputable def m_repeat_logs : FM := mFn 5 (mSeq (mAsg (mListRg (mCall fLen (mCons (mBin opIx (mVar 0) (mC (.int 2))) mNil))) (gN 1))
(mSeq (mAsg (mLcF finL (mSrc (mVar 1)) (.one 3) mYes (mTup (mCons (mVar 3) (mCons (mVar 3) mNil))) [3]) (gN 2))
(mRet (mBin opAdd (mVar 2) (mLcN finL (mSrc (mVar 1)) (.one 3) mYes (bIn (mSrc (mVar 1)) (.one 4) (mB (mBin opNe (mVar 3) (mVar 4))) (bApp (mTup (mCons (mVar 3) (mCons (mVar 4) (mCons (mVar 3) mNil))))) [4]) [3, 4])))))
noncomputable def m_repeat_of : FM := mFn 4 (mSeq (mAsg (mUser m_repeat_logs (mCons (mVar 0) mNil)) (gN 1))
(mSeq (mFor (mSrc (mUser m_reached (mCons (mVar 0) mNil))) (gN 2)
(mFor (mSrc (mVar 1)) (gN 3)
(mIfS (mB (mBin opNe (mUser m_run_from (mCons (mVar 0) (mCons (mVar 2) (mCons (mVar 3) mNil)))) (mUser m_run_from (mCons (mVar 0) (mCons (mVar 2) (mCons (mSl (mVar 3) mNo (mPart (mUn opNeg (mC (.int 1))))) mNil))))))
(mRet (mTup (mCons (mVar 2) (mCons (mVar 3) mNil))))
mSkip)))
(mRet (mC .non))))
noncomputable def m_repeat_fault : FM := mFn 1 (mSeq (mDrop (mUser m_need_system (mCons (mVar 0) mNil)))
(mRet (mUser m_repeat_of (mCons (mVar 0) mNil))))
noncomputable def m_firsts_of : FM := mFn 3 (mRet (mCall fTuple (mCons (mLc (mEnum (mCons (mVar 0) mNil)) (.many [1, 2]) (mB (mBin opNotIn (mVar 2) (mSl (mVar 0) mNo (mPart (mVar 1))))) (mVar 2) [1, 2]) mNil)))
noncomputable def m_firsts : FM := mFn 2 (mSeq (mDrop (mUser m_need_system (mCons (mVar 0) mNil)))
(mSeq (mDrop (mUser m_need_log (mCons (mVar 0) (mCons (mVar 1) mNil))))
(mRet (mUser m_firsts_of (mCons (mVar 1) mNil)))))
noncomputable def m__law_no_systems : FM := mFn 3 (mSeq (mPar 0 1 (mCons (mTup (mCons (mTup (mCons (mC (.int 0)) mNil)) mNil)) (mCons (mTup (mCons (mC .non) mNil)) mNil)))
(mSeq (mAsg (mLst (mCons (mC .non) (mCons (mC (.int 0)) (mCons (mC (.str "")) (mCons (mTup mNil) (mCons (mLst mNil) (mCons mNewK (mCons (mTup (mCons (mC (.int 1)) (mCons (mC (.int 0)) (mCons (mVar 0) mNil)))) (mCons (mTup (mCons (mC (.int 1)) (mCons (mC (.int 0)) (mCons (mVar 0) (mCons (mVar 1) (mCons (mTup mNil) mNil)))))) (mCons (mLst (mCons (mC (.int 1)) (mCons (mC (.int 0)) (mCons (mVar 0) (mCons (mVar 1) mNil))))) mNil)))))))))) (gN 2))
(mSeq (mAsg (mBin opAdd (mVar 2) (mLst (mCons (mTup (mCons (mC (.int 0)) (mCons (mC (.int 0)) (mCons (mTup (mCons (mTup mNil) mNil)) (mCons (mVar 1) mNil))))) (mCons (mTup (mCons (mC (.int 7)) (mCons (mC (.int 0)) (mCons (mTup (mCons (mBin opMul (mTup (mCons (mC (.int 0)) mNil)) (mC (.int 7))) mNil)) (mCons (mVar 1) mNil))))) (mCons (mTup (mCons (mC (.int 1)) (mCons (mC (.int 1)) (mCons (mVar 0) (mCons (mVar 1) mNil))))) (mCons (mTup (mCons (mC (.int 1)) (mCons (mUn opNeg (mC (.int 1))) (mCons (mVar 0) (mCons (mVar 1) mNil))))) mNil)))))) (gN 2))
(mSeq (mAsg (mBin opAdd (mVar 2) (mLst (mCons (mTup (mCons (mC (.int 1)) (mCons (mC (.int 0)) (mCons (mTup mNil) (mCons (mTup mNil) mNil))))) (mCons (mTup (mCons (mC (.int 1)) (mCons (mC (.int 0)) (mCons (mBin opMul (mVar 0) (mC (.int 7))) (mCons (mBin opMul (mVar 1) (mC (.int 7))) mNil))))) (mCons (mTup (mCons (mC (.int 1)) (mCons (mC (.int 0)) (mCons (mVar 0) (mCons (mTup mNil) mNil))))) (mCons (mTup (mCons (mC (.int 1)) (mCons (mC (.int 0)) (mCons (mVar 0) (mCons (mBin opMul (mVar 1) (mC (.int 2))) mNil))))) mNil)))))) (gN 2))
(mSeq (mAsg (mBin opAdd (mVar 2) (mLst (mCons (mTup (mCons (mC (.int 1)) (mCons (mC (.int 0)) (mCons (mVar 0) (mCons (mTup (mCons (mC (.int 10)) mNil)) mNil))))) (mCons (mTup (mCons (mC (.int 1)) (mCons (mC (.int 0)) (mCons (mVar 0) (mCons (mTup (mCons (mUn opNeg (mC (.int 1))) mNil)) mNil))))) (mCons (mTup (mCons (mC (.int 1)) (mCons (mC (.int 0)) (mCons (mVar 0) (mCons (mTup (mCons (mC (.bl true)) mNil)) mNil))))) (mCons (mTup (mCons (mC (.int 1)) (mCons (mC (.int 0)) (mCons (mVar 0) (mCons (mTup (mCons (mC (.str "0")) mNil)) mNil))))) mNil)))))) (gN 2))
(mSeq (mAsg (mBin opAdd (mVar 2) (mLst (mCons (mTup (mCons (mC (.bl true)) (mCons (mC (.int 0)) (mCons (mVar 0) (mCons (mVar 1) mNil))))) (mCons (mTup (mCons (mC (.int 1)) (mCons (mC (.bl false)) (mCons (mVar 0) (mCons (mVar 1) mNil))))) (mCons (mTup (mCons (mC (.int 1)) (mCons (mC (.int 0)) (mCons (mTup (mCons (mTup (mCons (mC (.int 1)) mNil)) mNil)) (mCons (mVar 1) mNil))))) (mCons (mTup (mCons (mC (.str "1")) (mCons (mC (.int 0)) (mCons (mVar 0) (mCons (mVar 1) mNil))))) mNil)))))) (gN 2))
(mSeq (mAsg (mBin opAdd (mVar 2) (mLst (mCons (mTup (mCons (mC (.int 1)) (mCons (mC (.int 0)) (mCons (mTup (mCons (mTup (mCons (mC (.int 0)) (mCons (mC (.int 0)) mNil))) mNil)) (mCons (mVar 1) mNil))))) (mCons (mTup (mCons (mC (.int 1)) (mCons (mC (.int 0)) (mCons (mTup (mCons (mTup mNil) mNil)) (mCons (mVar 1) mNil))))) (mCons (mTup (mCons (mC (.int 1)) (mCons (mC (.int 0)) (mCons (mTup (mCons (mLst (mCons (mC (.int 0)) mNil)) mNil)) (mCons (mVar 1) mNil))))) (mCons (mTup (mCons (mC (.int 1)) (mCons (mC (.int 0)) (mCons (mLst (mCons (mTup (mCons (mC (.int 0)) mNil)) mNil)) (mCons (mVar 1) mNil))))) mNil)))))) (gN 2))
(mSeq (mAsg (mBin opAdd (mVar 2) (mLst (mCons (mTup (mCons (mC (.int 1)) (mCons (mC (.int 0)) (mCons (mVar 0) (mCons (mLst (mCons (mC .non) mNil)) mNil))))) (mCons (mTup (mCons (mC (.int 1)) (mCons (mC (.int 0)) (mCons (mTup (mCons (mTup (mCons (mC (.bl false)) mNil)) mNil)) (mCons (mVar 1) mNil))))) (mCons (mTup (mCons (mC (.int 2)) (mCons (mC (.int 0)) (mCons (mTup (mCons (mTup (mCons (mC (.int 0)) (mCons (mC .non) mNil))) mNil)) (mCons (mVar 1) mNil))))) mNil))))) (gN 2))
(mRet (mBin opAdd (mVar 2) (mLst (mCons (mTup (mCons (mC (.int 1)) (mCons (mC .non) (mCons (mVar 0) (mCons (mVar 1) mNil))))) (mCons (mTup (mCons (mC (.int 2)) (mCons (mC (.int 0)) (mCons (mTup (mCons (mTup (mCons (mC (.int 0)) (mCons (mC (.int 2)) mNil))) mNil)) (mCons (mVar 1) mNil))))) (mCons (mTup (mCons (mC (.int 1)) (mCons (mC (.int 0)) (mCons (mVar 0) (mCons (mC .non) mNil))))) (mCons (mTup (mCons (mC (.int 1)) (mCons (mC (.int 0)) (mCons (mC .non) (mCons (mVar 1) mNil))))) mNil)))))))))))))))
noncomputable def m__law_moves : FM := mFn 3 (mRet (mCall fTuple (mCons (mLc (mSrc (mUser m__law_reached (mCons (mVar 0) mNil))) (.one 2) mYes (mUser m__law_run (mCons (mVar 0) (mCons (mVar 2) (mCons (mVar 1) mNil)))) [2]) mNil)))
noncomputable def m__law_any_moves : FM := mFn 4 (mSeq (mAsg (mUser m__law_reached (mCons (mVar 1) mNil)) (gN 2))
(mRet (mCall fTuple (mCons (mLc (mSrc (mVar 2)) (.one 3) mYes (mUser m__law_pick (mCons (mVar 0) (mCons (mVar 2) mNil))) [3]) mNil))))
noncomputable def m__law_deed : FM := mFn 6 (mSeq (mAsg (mUser m__law_draw (mCons (mVar 0) (mCons (mC (.int 6)) mNil))) (gN 3))
(mSeq (mIfS (mB (mBin opLt (mVar 3) (mC (.int 3))))
(mSeq (mAsg (mUser m__law_draw (mCons (mVar 0) (mCons (mCall fLen (mCons (mBin opIx (mVar 1) (mC (.int 2))) mNil)) mNil))) (gN 4))
(mRet (mTup (mCons (mBin opIx (mLst (mCons (mC (.str "add")) (mCons (mC (.str "call")) mNil))) (mBin opMod (mVar 3) (mC (.int 2)))) (mCons (mVar 4) (mCons (mBin opAdd (mVar 2) (mTup (mCons (mVar 4) mNil))) mNil))))))
mSkip)
(mSeq (mAsg (mUser m__law_log (mCons (mVar 0) (mCons (mVar 1) (mCons (mC (.int 5)) mNil)))) (gN 5))
(mRet (mIf (mB (mBin opLt (mVar 3) (mC (.int 5)))) (mTup (mCons (mC (.str "extend")) (mCons (mVar 5) (mCons (mBin opAdd (mVar 2) (mVar 5)) mNil)))) (mTup (mCons (mC (.str "assign")) (mCons (mVar 5) (mCons (mVar 5) mNil)))))))))
noncomputable def m_Trying_init : FM := mFn 2 (mSeq (mSetFld ["Trying"] "store" (mVar 0) (mVar 1))
(mSeq (mSetFld ["Trying"] "log" (mVar 0) (mTup mNil))
(mSetFld ["Trying"] "past" (mVar 0) (mTup mNil))))
noncomputable def m__law_right_system : FM := mFn 5 (mSeq (mAsg (mUser m__law_system (mCons (mVar 0) mNil)) (gN 1))
(mSeq (mIfS (mB (mBin opNotN (mUser m__law_fault (mCons (mVar 1) mNil)) (mC .non)))
(mAsg (mBin opAdd (mSl (mVar 1) mNo (mPart (mC (.int 3)))) (mTup (mCons (mBin opMul (mTup (mCons (mC .non) mNil)) (mCall fLen (mCons (mBin opIx (mVar 1) (mC (.int 2))) mNil))) mNil))) (gN 1))
mSkip)
(mSeq (mFor (mSrc (mBin opIx (mVar 1) (mC (.int 2)))) (gN 2)
(mFor (mSrc (mUser m__law_reached (mCons (mVar 1) mNil))) (gN 3)
(mFor (mSrc (mUser m__law_reached (mCons (mTup (mCons (mBin opIx (mVar 1) (mC (.int 0))) (mCons (mBin opIx (mVar 2) (mVar 3)) (mCons (mBin opIx (mVar 1) (mC (.int 2))) (mCons (mBin opIx (mVar 1) (mC (.int 3))) mNil))))) mNil))) (gN 4)
(mIfS (mB (mBin opNe (mBin opIx (mVar 2) (mVar 4)) (mVar 4)))
(mRet (mTup (mCons (mBin opIx (mVar 1) (mC (.int 0))) (mCons (mBin opIx (mVar 1) (mC (.int 1))) (mCons (mTup (mCons (mTupRg (mBin opIx (mVar 1) (mC (.int 0)))) mNil)) (mCons (mTup (mCons (mC (.int 0)) mNil)) mNil))))))
mSkip))))
(mRet (mVar 1)))))
noncomputable def m__law_is_covered : FM := mFn 10 (mSeq (mAsg (mLcF finO (mSrc (mUser m__law_reached (mCons (mVar 0) mNil))) (.one 9) mYes (mTup (mCons (mBin opIx (mBin opIx (mBin opIx (mVar 0) (mC (.int 2))) (mVar 1)) (mVar 9)) (mCons (mVar 9) mNil))) [9]) (gN 3))
(mSeq (mAsg (mC (.int 0)) (gN 4))
(mSeq (mWhile (mB (mBin opLt (mVar 4) (mCall fLen (mCons (mVar 3) mNil))))
(mSeq (mAsg (mBin opIx (mVar 3) (mVar 4)) (gT 2 (gConsM (gN 5) (gConsM (gN 6) gNilM))))
(mSeq (mIfS (mB (mBin opNe (mBin opIx (mBin opIx (mBin opIx (mVar 0) (mC (.int 2))) (mVar 2)) (mVar 5)) (mBin opIx (mBin opIx (mBin opIx (mVar 0) (mC (.int 2))) (mVar 2)) (mVar 6))))
(mRet (mC (.bl false)))
mSkip)
(mSeq (mFor (mSrc (mBin opIx (mVar 0) (mC (.int 2)))) (gN 7)
(mSeq (mAsg (mTup (mCons (mBin opIx (mVar 7) (mVar 5)) (mCons (mBin opIx (mVar 7) (mVar 6)) mNil))) (gN 8))
(mIfS (mB (mBin opNotIn (mVar 8) (mVar 3)))
(mDrop (mAppend (mVar 3) (mVar 8)))
mSkip)))
(mAsg (mBin opAdd (mVar 4) (mC (.int 1))) (gN 4))))) 2000)
(mRet (mC (.bl true))))))
noncomputable def m__law_rows : FM := mFn 4 (mSeq (mAsg (mListRg (mCall fLen (mCons (mBin opIx (mVar 0) (mC (.int 2))) mNil))) (gN 1))
(mRet (mLc (mSrc (mVar 1)) (.one 2) mYes (mLc (mSrc (mVar 1)) (.one 3) mYes (mUser m__law_is_covered (mCons (mVar 0) (mCons (mVar 2) (mCons (mVar 3) mNil)))) [3]) [2])))
noncomputable def m__law_name : FM := mFn 1 (mRet (mBin opIx (mLst (mCons (mC (.str "Store")) (mCons (mC (.str "Thin")) (mCons (mC (.str "Limited")) (mCons (mC (.str "LimitedThin")) (mCons (mC (.str "Compact")) (mCons (mC (.str "Once")) mNil))))))) (mVar 0)))
end VL
namespace VL
open PySem PySem.Spec PyProof.Rows L2

/-! ### what a result is to meet -/
def wp {α : Type} (r : R α) (Q : α → S → Prop) : Prop := match r with
  | .ok a s => Q a s
  | _ => False
section
variable {α β : Type} {Q Q' : α → S → Prop}
@[simp] theorem wp_ok (a : α) (s : S) : wp (.ok a s) Q = Q a s := rfl
@[simp] theorem wp_bad : wp (.bad : R α) Q = False := rfl
@[simp] theorem wp_exn (c fs ρ s) : wp (.exn c fs ρ s : R α) Q = False := rfl
@[simp] theorem wp_bnd (r : R α) (f : α → S → R β) (Q : β → S → Prop) : wp (r.bnd f) Q = wp r fun a s => wp (f a s) Q := by cases r <;> rfl
theorem wp.mono {r : R α} (h : wp r Q) (k : ∀ a s, Q a s → Q' a s) : wp r Q' := by
  cases r with
  | ok a s => exact k a s h
  | exn c fs ρ s => exact h
  | bad => exact h
theorem wp.ok {r : R α} (h : wp r Q) : ∃ a s, r = .ok a s ∧ Q a s := by
  cases r with
  | ok a s => exact ⟨a, s, rfl, h⟩
  | exn c fs ρ s => exact h.elim
  | bad => exact h.elim
theorem wp.of {r : R α} {a s} (e : r = .ok a s) (h : Q a s) : wp r Q := by rw [e]; exact h
@[simp] theorem wp_retag (ρ : Ev) (r : R D) (Q : D → S → Prop) : wp (retag ρ r) Q = wp r Q := by cases r <;> rfl
@[simp] theorem retag_ok (ρ : Ev) (d s) : retag ρ (.ok d s) = .ok d s := rfl
@[simp] theorem wp_noX (r : R α) : wp (noX r) Q = wp r Q := by cases r <;> rfl
@[simp] theorem noX_ok (a : α) (s) : noX (.ok a s) = .ok a s := rfl
end
/-- a def's end -/
def fin : R Fl → R D
  | .ok (.nx _) s1 => .ok .non s1
  | .ok (.ret d) s1 => .ok d s1
  | .ok _ _ => .bad
  | .exn c fs _ s1 => .exn c fs [] s1
  | .bad => .bad
def endQ (Q : D → S → Prop) : Fl → S → Prop := fun fl s => match fl with
  | .nx _ => Q .non s
  | .ret d => Q d s
  | _ => False
theorem mFn_eq (N : Nat) (b : MS) (ds : List D) (s : S) : mFn N b ds s = fin (b (initE N ds) s) := by
  unfold mFn fin
  cases b (initE N ds) s with
  | ok fl s => cases fl <;> rfl
  | exn c fs ρ s => rfl
  | bad => rfl
@[simp] theorem fin_nx (ρ s) : fin (.ok (.nx ρ) s) = .ok .non s := rfl
@[simp] theorem fin_ret (d s) : fin (.ok (.ret d) s) = .ok d s := rfl
@[simp] theorem wp_fin (r : R Fl) (Q : D → S → Prop) : wp (fin r) Q = wp r (endQ Q) := by
  cases r with
  | ok fl s => cases fl <;> rfl
  | exn c fs ρ s => rfl
  | bad => rfl
@[simp] theorem endQ_nx (Q : D → S → Prop) (ρ s) : endQ Q (.nx ρ) s = Q .non s := rfl
@[simp] theorem endQ_ret (Q : D → S → Prop) (d s) : endQ Q (.ret d) s = Q d s := rfl
theorem fin_bnd {α : Type} (r : R α) (f : α → S → R Fl) {a : α} {s1 : S} (h : r = .ok a s1) : fin (r.bnd f) = fin (f a s1) := by rw [h]; rfl

/-! ### the combinators, opened -/
@[simp] theorem LIM_eq : LIM = 1000000 := rfl
@[simp] theorem get_0 {α : Type} (a : α) (l : List α) : (a :: l)[0]? = some a := rfl
@[simp] theorem get_n0 {α : Type} : ([] : List α)[0]? = none := rfl
def vg : Option (Option D) → S → R D
  | some (some d), s => .ok d s
  | _, _ => .bad
@[simp] theorem vg_some (d s) : vg (some (some d)) s = .ok d s := rfl
@[simp] theorem mVar_eq (i : Nat) (ρ : Ev) (s : S) : mVar i ρ s = vg ρ[i]? s := by
  unfold mVar vg
  cases h : ρ[i]? with
  | none => rfl
  | some o => cases o <;> rfl
section
variable (ρ : Ev) (s : S)
@[simp] theorem mC_eq (d : D) : mC d ρ s = .ok d s := rfl
@[simp] theorem mBin_eq (f a b) : mBin f a b ρ s = (a ρ s).bnd fun x s1 => (b ρ s1).bnd fun y s2 => f x y s2 := rfl
@[simp] theorem mUn_eq (f a) : mUn f a ρ s = (a ρ s).bnd fun x s1 => f x s1 := rfl
@[simp] theorem mCall_eq (f a) : mCall f a ρ s = (a ρ s).bnd fun x s1 => f x s1 := rfl
@[simp] theorem asB_ok (b s) : asB (.ok (.bl b) s) = .ok b s := rfl
def bQ (Q : Bool → S → Prop) : D → S → Prop := fun d s => match d with
  | .bl b => Q b s
  | _ => False
@[simp] theorem bQ_bl (Q : Bool → S → Prop) (b s) : bQ Q (.bl b) s = Q b s := rfl
@[simp] theorem wp_asB (r : R D) (Q : Bool → S → Prop) : wp (asB r) Q = wp r (bQ Q) := by
  cases r with
  | ok d s => cases d <;> rfl
  | exn c fs ρ s => rfl
  | bad => rfl
@[simp] theorem mB_eq (m) : mB m ρ s = asB (m ρ s) := rfl
def chF (k : S → R D) : D → S → R D := fun z s3 => match z with
  | .bl true => k s3
  | .bl false => .ok (.bl false) s3
  | _ => .bad
@[simp] theorem chF_bl (k : S → R D) (b s) : chF k (.bl b) s = if b = true then k s else .ok (.bl false) s := by cases b <;> rfl
@[simp] theorem mChn_eq (f g a b c) : mChn f g a b c ρ s = (a ρ s).bnd fun x s1 => (b ρ s1).bnd fun y s2 => (f x y s2).bnd (chF fun s3 => (c ρ s3).bnd fun w s4 => g y w s4) := rfl
@[simp] theorem mAndT_eq (a b) : mAndT a b ρ s = (a ρ s).bnd fun k s1 => if k = true then b ρ s1 else .ok false s1 := rfl
@[simp] theorem mOrT_eq (a b) : mOrT a b ρ s = (a ρ s).bnd fun k s1 => if k = true then .ok true s1 else b ρ s1 := rfl
@[simp] theorem mNotT_eq (a) : mNotT a ρ s = (a ρ s).bnd fun k s1 => .ok (!k) s1 := rfl
@[simp] theorem mAndV_eq (a b) : mAndV a b ρ s = (asB (a ρ s)).bnd fun k s1 => if k = true then b ρ s1 else .ok (.bl false) s1 := rfl
@[simp] theorem mOrV_eq (a b) : mOrV a b ρ s = (asB (a ρ s)).bnd fun k s1 => if k = true then .ok (.bl true) s1 else b ρ s1 := rfl
@[simp] theorem mNotV_eq (a) : mNotV a ρ s = (asB (a ρ s)).bnd fun k s1 => .ok (.bl (!k)) s1 := rfl
@[simp] theorem mIf_eq (t a b) : mIf t a b ρ s = (t ρ s).bnd fun k s1 => if k = true then a ρ s1 else b ρ s1 := rfl
@[simp] theorem mNil_eq : mNil ρ s = .ok [] s := rfl
@[simp] theorem mCons_eq (m ms) : mCons m ms ρ s = (m ρ s).bnd fun x s1 => (ms ρ s1).bnd fun xs s2 => .ok (x :: xs) s2 := rfl
@[simp] theorem mTup_eq (m) : mTup m ρ s = (m ρ s).bnd fun xs s1 => if xs.length ≤ LIM then .ok (.tup xs) s1 else .bad := rfl
@[simp] theorem mLst_eq (m) : mLst m ρ s = (m ρ s).bnd fun xs s1 => if xs.length ≤ LIM then .ok (.lst xs) s1 else .bad := rfl
@[simp] theorem mLstO_eq (m) : mLstO m ρ s = (m ρ s).bnd fun xs s1 => if xs.length ≤ LIM then .ok (.obj s1.length) (s1 ++ [.lst xs]) else .bad := rfl
@[simp] theorem mUser_eq (m ms) : mUser m ms ρ s = (ms ρ s).bnd fun ds s1 => retag ρ (m ds s1) := rfl
@[simp] theorem mSl_eq (m lo hi) : mSl m lo hi ρ s = (m ρ s).bnd fun x s1 => (lo ρ s1).bnd fun l s2 => (hi ρ s2).bnd fun h s3 => opSl x l h s3 := rfl
@[simp] theorem mNo_eq : mNo ρ s = .ok none s := rfl
@[simp] theorem mPart_eq (m) : mPart m ρ s = (m ρ s).bnd fun d s1 => match d with
  | .int i => .ok (some i) s1
  | _ => .bad := rfl
@[simp] theorem mSkip_eq : mSkip ρ s = .ok (.nx ρ) s := rfl
def seqF (b : MS) : Fl → S → R Fl := fun fl s1 => match fl with
  | .nx ρ1 => b ρ1 s1
  | fl => .ok fl s1
@[simp] theorem seqF_nx (b ρ s) : seqF b (.nx ρ) s = b ρ s := rfl
@[simp] theorem seqF_ret (b d s) : seqF b (.ret d) s = .ok (.ret d) s := rfl
@[simp] theorem seqF_bk (b d s) : seqF b (.bk d) s = .ok (.bk d) s := rfl
@[simp] theorem seqF_ct (b d s) : seqF b (.ct d) s = .ok (.ct d) s := rfl
@[simp] theorem mSeq_eq (a b) : mSeq a b ρ s = (a ρ s).bnd (seqF b) := by
  unfold mSeq
  cases a ρ s with
  | ok fl s => cases fl <;> rfl
  | exn c fs ρ s => rfl
  | bad => rfl
@[simp] theorem mRet_eq (m) : mRet m ρ s = (m ρ s).bnd fun d s1 => .ok (.ret d) s1 := rfl
@[simp] theorem mRetN_eq : mRetN ρ s = .ok (.ret .non) s := rfl
@[simp] theorem mDrop_eq (m) : mDrop m ρ s = (m ρ s).bnd fun _ s1 => .ok (.nx ρ) s1 := rfl
@[simp] theorem mIfS_eq (t a b) : mIfS t a b ρ s = (t ρ s).bnd fun k s1 => if k = true then a ρ s1 else b ρ s1 := rfl
@[simp] theorem mBad_eq : mBad ρ s = .bad := rfl
@[simp] theorem mBreak_eq : mBreak ρ s = .ok (.bk ρ) s := rfl
@[simp] theorem mCont_eq : mCont ρ s = .ok (.ct ρ) s := rfl
@[simp] theorem mAsg_eq (m g) : mAsg m g ρ s = (m ρ s).bnd fun d s1 => (g d ρ s1).bnd fun ρ1 s2 => .ok (.nx ρ1) s2 := rfl
@[simp] theorem gN_eq (i d) : gN i d ρ s = .ok (ρ.set i (some d)) s := rfl
@[simp] theorem gNilM_eq : gNilM [] ρ s = .ok ρ s := rfl
@[simp] theorem gConsM_eq (g gs d ds) : gConsM g gs (d :: ds) ρ s = (g d ρ s).bnd fun ρ1 s1 => gs ds ρ1 s1 := rfl
@[simp] theorem gT_eq (n gs ds) : gT n gs (.tup ds) ρ s = if ds.length = n then gs ds ρ s else .bad := rfl
@[simp] theorem gIx_eq (mo mi d) : gIx mo mi d ρ s = (mo ρ s).bnd fun o s1 => (mi ρ s1).bnd fun i s2 => match setIx o i d s2 with
  | some s3 => .ok ρ s3
  | none => .bad := rfl
@[simp] theorem mPar_eq (i j ms) : mPar i j ms ρ s = (ms ρ s).bnd fun ds s1 => match ds with
  | [x, y] => .ok (.nx ((ρ.set i (some x)).set j (some y))) s1
  | _ => .bad := rfl
@[simp] theorem mPar3_eq (i j k ms) : mPar3 i j k ms ρ s = (ms ρ s).bnd fun ds s1 => match ds with
  | [x, y, z] => .ok (.nx (((ρ.set i (some x)).set j (some y)).set k (some z))) s1
  | _ => .bad := rfl
@[simp] theorem mYes_eq : mYes ρ s = .ok true s := rfl
end
section
variable (s : S)
@[simp] theorem opAdd_int (i j) : opAdd (.int i) (.int j) s = .ok (.int (i + j)) s := rfl
@[simp] theorem opAdd_tup (xs ys) : opAdd (.tup xs) (.tup ys) s = if xs.length + ys.length ≤ LIM then .ok (.tup (xs ++ ys)) s else .bad := rfl
@[simp] theorem opAdd_str (i j) : opAdd (.str i) (.str j) s = if i.length + j.length ≤ LIM then .ok (.str (i ++ j)) s else .bad := rfl
@[simp] theorem opAdd_lst (xs ys) : opAdd (.lst xs) (.lst ys) s = if xs.length + ys.length ≤ LIM then .ok (.lst (xs ++ ys)) s else .bad := rfl
theorem opI_int (g c) [∀ i j, Decidable (c i j)] (i j) : opI g c (.int i) (.int j) s = if c i j then .ok (g i j) s else .bad := rfl
@[simp] theorem opLt_int (i j) : opLt (.int i) (.int j) s = .ok (.bl (decide (i < j))) s := rfl
@[simp] theorem opLe_int (i j) : opLe (.int i) (.int j) s = .ok (.bl (decide (i ≤ j))) s := rfl
@[simp] theorem opGt_int (i j) : opGt (.int i) (.int j) s = .ok (.bl (decide (j < i))) s := rfl
@[simp] theorem opGe_int (i j) : opGe (.int i) (.int j) s = .ok (.bl (decide (j ≤ i))) s := rfl
@[simp] theorem opSub_int (i j) : opSub (.int i) (.int j) s = .ok (.int (i - j)) s := rfl
@[simp] theorem mod_ok {i j : Int} (h : 0 < j) : opMod (.int i) (.int j) s = .ok (.int (i % j)) s := if_pos h
@[simp] theorem div_ok {i j : Int} (h : 0 < j ∧ j < 1073741824) : opDiv (.int i) (.int j) s = .ok (.int (i / j)) s := if_pos (show CDiv i j from h)
@[simp] theorem pow_ok {i j : Int} (h : 0 ≤ j ∧ j ≤ 1000000 ∧ i.natAbs < 2 ^ 64) : opPow (.int i) (.int j) s = .ok (.int (i ^ j.toNat)) s := if_pos (show CPow i j from h)
@[simp] theorem mul_ok {i j : Int} (h : (-(2 ^ 64) < i ∧ i < 2 ^ 64) ∨ (-(2 ^ 64) < j ∧ j < 2 ^ 64)) : opMul (.int i) (.int j) s = .ok (.int (i * j)) s := if_pos (show CMulD i j from h)
theorem opMul_int (i j) : opMul (.int i) (.int j) s = if CMulD i j then .ok (.int (i * j)) s else .bad := rfl
@[simp] theorem opMul_tup (xs j) : opMul (.tup xs) (.int j) s = if xs ≠ [] ∧ 2 ≤ j ∧ j ≤ 1000 ∧ xs.length ≤ 1000 then .ok (.tup (List.replicate j.toNat xs).flatten) s else .bad := rfl
@[simp] theorem opNeg_int (i) : opNeg (.int i) s = .ok (.int (-i)) s := rfl
@[simp] theorem isNonD_non : isNonD .non = true := rfl
@[simp] theorem isNonD_int (i) : isNonD (.int i) = false := rfl
@[simp] theorem isNonD_bl (i) : isNonD (.bl i) = false := rfl
@[simp] theorem isNonD_str (i) : isNonD (.str i) = false := rfl
@[simp] theorem isNonD_tup (i) : isNonD (.tup i) = false := rfl
@[simp] theorem isNonD_lst (i) : isNonD (.lst i) = false := rfl
@[simp] theorem isNonD_obj (i) : isNonD (.obj i) = false := rfl
@[simp] theorem opIsN_eq (x) : opIsN x .non s = .ok (.bl (isNonD x)) s := rfl
@[simp] theorem opNotN_eq (x) : opNotN x .non s = .ok (.bl (!isNonD x)) s := rfl
def ixR : Option D → S → R D
  | some d, s => .ok d s
  | none, _ => .bad
@[simp] theorem ixR_some (d) : ixR (some d) s = .ok d s := rfl
@[simp] theorem opIx_tup (xs i) : opIx (.tup xs) (.int i) s = ixR (atI xs i) s := by
  show (match atI xs i with | some d => R.ok d s | none => .bad) = _
  cases atI xs i <;> rfl
@[simp] theorem opIx_lst (xs i) : opIx (.lst xs) (.int i) s = ixR (atI xs i) s := by
  show (match atI xs i with | some d => R.ok d s | none => .bad) = _
  cases atI xs i <;> rfl
@[simp] theorem opIx_scr (xs i) : opIx (.scr xs) (.int i) s = ixR (atI xs i) s := by
  show (match atI xs i with | some d => R.ok d s | none => .bad) = _
  cases atI xs i <;> rfl
theorem opIx_obj {n : Nat} {xs : List D} (h : s[n]? = some (.lst xs)) (i : Int) : opIx (.obj n) (.int i) s = ixR (atI xs i) s := by
  have e : asL s (.obj n) = some xs := by simp [asL, asX, h]
  show (match asL s (.obj n) with | some xs => (match atI xs i with | some d => R.ok d s | none => .bad) | none => .bad) = _
  rw [e]
  show (match atI xs i with | some d => R.ok d s | none => .bad) = _
  cases atI xs i <;> rfl
theorem atI_eq (xs : List D) (i : Int) : atI xs i = if 0 ≤ i then xs[i.toNat]? else if -(xs.length : Int) ≤ i then xs[(i + xs.length).toNat]? else none := by
  unfold atI ixN
  by_cases h : 0 ≤ i
  · rw [if_pos h, if_pos h]
    by_cases h2 : i < xs.length
    · rw [if_pos h2]; rfl
    · rw [if_neg h2, List.getElem?_eq_none (by omega)]; rfl
  · rw [if_neg h, if_neg h]
    by_cases h2 : -(xs.length : Int) ≤ i
    · rw [if_pos h2, if_pos h2]; rfl
    · rw [if_neg h2, if_neg h2]; rfl
@[simp] theorem atI_nat' (xs : List D) (k : Nat) : atI xs (k : Int) = xs[k]? := by rw [atI_eq, if_pos (by omega), Int.toNat_natCast]
@[simp] theorem atI_0 (xs : List D) : atI xs 0 = xs[0]? := atI_nat' xs 0
@[simp] theorem atI_2 (xs : List D) : atI xs 2 = xs[2]? := atI_nat' xs 2
@[simp] theorem atI_3 (xs : List D) : atI xs 3 = xs[3]? := atI_nat' xs 3
@[simp] theorem atI_4 (xs : List D) : atI xs 4 = xs[4]? := atI_nat' xs 4
@[simp] theorem atI_5 (xs : List D) : atI xs 5 = xs[5]? := atI_nat' xs 5
@[simp] theorem atI_6 (xs : List D) : atI xs 6 = xs[6]? := atI_nat' xs 6
@[simp] theorem atI_7 (xs : List D) : atI xs 7 = xs[7]? := atI_nat' xs 7
@[simp] theorem atI_1 (xs : List D) : atI xs 1 = xs[1]? := atI_nat' xs 1
theorem atI_m1 (xs : List D) : atI xs (-1) = xs[xs.length - 1]? := by
  rw [atI_eq, if_neg (by omega)]
  by_cases h : -(xs.length : Int) ≤ -1
  · rw [if_pos h]; congr 1; omega
  · rw [if_neg h, List.getElem?_eq_none (by omega)]
/-! built-ins -/
@[simp] theorem fLen_tup (ds) : fLen [.tup ds] s = .ok (.int (ds.length : Nat)) s := rfl
@[simp] theorem fLen_lst (ds) : fLen [.lst ds] s = .ok (.int (ds.length : Nat)) s := rfl
@[simp] theorem fLen_scr (ds) : fLen [.scr ds] s = .ok (.int (ds.length : Nat)) s := rfl
theorem fLen_obj {n : Nat} {ds : List D} (h : s[n]? = some (.lst ds)) : fLen [.obj n] s = .ok (.int (ds.length : Nat)) s := by
  have e : asL s (.obj n) = some ds := by simp [asL, asX, h]
  show (match asL s (.obj n) with | some ds => R.ok (D.int (ds.length : Nat)) s | none => .bad) = _
  rw [e]
@[simp] theorem fMax2_eq (i j) : fMax2 [.int i, .int j] s = .ok (.int (if j > i then j else i)) s := rfl
@[simp] theorem fMin2_eq (i j) : fMin2 [.int i, .int j] s = .ok (.int (if j < i then j else i)) s := rfl
@[simp] theorem toI_ints (ns : List Int) : toI (ns.map D.int) = some ns := by
  induction ns with
  | nil => rfl
  | cons n ns ih => simp [toI, ih]
@[simp] theorem toB_bls (ns : List Bool) : toB (ns.map D.bl) = some ns := by
  induction ns with
  | nil => rfl
  | cons n ns ih => simp [toB, ih]
theorem fAll_lst (bs : List Bool) : fAll [.lst (bs.map .bl)] s = .ok (.bl (bs.all id)) s := by
  show (match (some (bs.map D.bl)).bind toB with | some bs => R.ok (D.bl (bs.all id)) s | none => .bad) = _
  simp
theorem fAny_lst (bs : List Bool) : fAny [.lst (bs.map .bl)] s = .ok (.bl (bs.any id)) s := by
  show (match (some (bs.map D.bl)).bind toB with | some bs => R.ok (D.bl (bs.any id)) s | none => .bad) = _
  simp
theorem fSum_lst (ns : List Int) : fSum [.lst (ns.map .int)] s = .ok (.int ns.sum) s := by
  show (match (some (ns.map D.int)).bind toI with | some ns => R.ok (D.int ns.sum) s | none => .bad) = _
  simp
theorem fSorted_lst (ns : List Int) : fSorted [.lst (ns.map .int)] s = .ok (.lst ((isort ns).map .int)) s := by
  show (match (some (ns.map D.int)).bind toI with | some ns => R.ok (D.lst ((isort ns).map D.int)) s | none => .bad) = _
  simp
@[simp] theorem fTuple_tup (ds) : fTuple [.tup ds] s = .ok (.tup ds) s := rfl
@[simp] theorem fTuple_lst (ds) : fTuple [.lst ds] s = .ok (.tup ds) s := rfl
theorem fTuple_obj {n : Nat} {ds : List D} (h : s[n]? = some (.lst ds)) : fTuple [.obj n] s = .ok (.tup ds) s := by
  have e : asL s (.obj n) = some ds := by simp [asL, asX, h]
  show (match asL s (.obj n) with | some ds => R.ok (D.tup ds) s | none => .bad) = _
  rw [e]
@[simp] theorem fList_tup (ds) : fList [.tup ds] s = .ok (.lst ds) s := rfl
@[simp] theorem fList_lst (ds) : fList [.lst ds] s = .ok (.lst ds) s := rfl
@[simp] theorem tyOf_non : tyOf s .non = some "NoneType" := rfl
@[simp] theorem tyOf_bl (b) : tyOf s (.bl b) = some "bool" := rfl
@[simp] theorem tyOf_int (b) : tyOf s (.int b) = some "int" := rfl
@[simp] theorem tyOf_str (b) : tyOf s (.str b) = some "str" := rfl
@[simp] theorem tyOf_tup (b) : tyOf s (.tup b) = some "tuple" := rfl
@[simp] theorem tyOf_lst (b) : tyOf s (.lst b) = some "list" := rfl
@[simp] theorem fIsi_tup (ds T) : fIsi [.tup ds, .ty T] s = if T = "int" ∨ T = "bool" ∨ T = "tuple" ∨ T = "str" then .ok (.bl (isT T "tuple")) s else .bad := rfl
@[simp] theorem fIsi_int (ds T) : fIsi [.int ds, .ty T] s = if T = "int" ∨ T = "bool" ∨ T = "tuple" ∨ T = "str" then .ok (.bl (isT T "int")) s else .bad := rfl
@[simp] theorem fIsi_bl (ds T) : fIsi [.bl ds, .ty T] s = if T = "int" ∨ T = "bool" ∨ T = "tuple" ∨ T = "str" then .ok (.bl (isT T "bool")) s else .bad := rfl
@[simp] theorem fIsi_non (T) : fIsi [.non, .ty T] s = if T = "int" ∨ T = "bool" ∨ T = "tuple" ∨ T = "str" then .ok (.bl (isT T "NoneType")) s else .bad := rfl
@[simp] theorem fIsi_str (ds T) : fIsi [.str ds, .ty T] s = if T = "int" ∨ T = "bool" ∨ T = "tuple" ∨ T = "str" then .ok (.bl (isT T "str")) s else .bad := rfl
@[simp] theorem fIsi_lst (ds T) : fIsi [.lst ds, .ty T] s = if T = "int" ∨ T = "bool" ∨ T = "tuple" ∨ T = "str" then .ok (.bl (isT T "list")) s else .bad := rfl
@[simp] theorem isT_ii : isT "int" "int" = true := by decide
@[simp] theorem isT_bi : isT "bool" "int" = false := by decide
@[simp] theorem isT_ib : isT "int" "bool" = true := by decide
@[simp] theorem isT_bb : isT "bool" "bool" = true := by decide
@[simp] theorem isT_tt : isT "tuple" "tuple" = true := by decide
@[simp] theorem isT_ti : isT "tuple" "int" = false := by decide
@[simp] theorem isT_tl : isT "tuple" "list" = false := by decide
@[simp] theorem isT_tn : isT "tuple" "NoneType" = false := by decide
@[simp] theorem isT_in : isT "int" "NoneType" = false := by decide
@[simp] theorem isT_it : isT "int" "tuple" = false := by decide
/-! == -/
@[simp] theorem opEqF_str (f a b) : opEqF f (.str a) (.str b) s = .ok (.bl (f (decide (a = b)))) s := rfl
@[simp] theorem opEqF_int (f i j) : opEqF f (.int i) (.int j) s = .ok (.bl (f (i == j))) s := by
  show (if SeqAt.shaped (.int i) = true ∧ SeqAt.shaped (.int j) = true then R.ok (D.bl (f (PyData.eqv (.int i) (.int j)))) s else R.bad) = _
  rw [if_pos ⟨rfl, rfl⟩]
  simp [PyData.eqv]
theorem opEqF_py {f : Bool → Bool} {x y : D} {p q : PyData} (hx : toPyS s x = some p) (hy : toPyS s y = some q) (h1 : SeqAt.shaped p = true) (h2 : SeqAt.shaped q = true) (hn : bothS x y = none) : opEqF f x y s = .ok (.bl (f (PyData.eqv p q))) s := by
  unfold opEqF
  rw [hn]
  show opEqP f x y s = _
  unfold opEqP
  rw [hx, hy]
  show (if SeqAt.shaped p = true ∧ SeqAt.shaped q = true then _ else _) = _
  rw [if_pos ⟨h1, h2⟩]
end

/-! ### loops over fixed items -/
def loopF (k : Ev → S → R Fl) : Fl → S → R Fl := fun fl s2 => match fl with
  | .nx ρ2 => k ρ2 s2
  | .ct ρ2 => k ρ2 s2
  | .bk ρ2 => .ok (.nx ρ2) s2
  | .ret d => .ok (.ret d) s2
@[simp] theorem loopF_nx (k ρ s) : loopF k (.nx ρ) s = k ρ s := rfl
@[simp] theorem loopF_ct (k ρ s) : loopF k (.ct ρ) s = k ρ s := rfl
@[simp] theorem loopF_bk (k ρ s) : loopF k (.bk ρ) s = .ok (.nx ρ) s := rfl
@[simp] theorem loopF_ret (k d s) : loopF k (.ret d) s = .ok (.ret d) s := rfl
def lloop (g : MG) (b : MS) : List D → MS
  | [], ρ, s => .ok (.nx ρ) s
  | d :: ds, ρ, s => (g d ρ s).bnd fun ρ1 s1 => (b ρ1 s1).bnd (loopF (lloop g b ds))
theorem mLoop_fix (g : MG) (b : MS) : ∀ (xs pre : List D) (ρ : Ev) (s : S), mLoop (.fix (pre ++ xs)) g b xs.length pre.length ρ s = lloop g b xs ρ s
  | [], pre, ρ, s => by simp [mLoop, srcAt, lloop]
  | d :: ds, pre, ρ, s => by
    have ih := mLoop_fix g b ds (pre ++ [d])
    simp only [List.append_assoc, List.singleton_append, List.length_append, List.length_singleton] at ih
    simp only [List.length_cons, mLoop, srcAt, lloop]
    rw [List.getElem?_append_right (Nat.le_refl _), Nat.sub_self]
    show (g d ρ s).bnd _ = _
    congr 1
    funext ρ1 s1
    congr 1
    funext fl s2
    cases fl with
    | nx ρ2 => exact ih ρ2 s2
    | ct ρ2 => exact ih ρ2 s2
    | bk ρ2 => rfl
    | ret d => rfl
theorem mFor_fix {it : MI} {g : MG} {b : MS} {ρ : Ev} {s s1 : S} {xs : List D} (h : it ρ s = .ok (.fix xs) s1) : mFor it g b ρ s = lloop g b xs ρ s1 := by
  unfold mFor
  rw [h]
  exact mLoop_fix g b xs [] ρ s1
@[simp] theorem mSrc_tup (m ρ s) {xs : List D} {s1 : S} (h : m ρ s = .ok (.tup xs) s1) : mSrc m ρ s = .ok (.fix xs) s1 := by unfold mSrc; rw [h]; rfl
@[simp] theorem mSrc_lst (m ρ s) {xs : List D} {s1 : S} (h : m ρ s = .ok (.lst xs) s1) : mSrc m ρ s = .ok (.fix xs) s1 := by unfold mSrc; rw [h]; rfl
theorem mRng1_eq {ms : MA} {ρ : Ev} {s s1 : S} {j : Int} (h : ms ρ s = .ok [.int j] s1) (hj : inR j) : mRng1 ms ρ s = .ok (.fix (rngD 0 j.toNat)) s1 := by
  unfold mRng1; rw [h]; exact if_pos hj
theorem mRng2_eq {ms : MA} {ρ : Ev} {s s1 : S} {i j : Int} (h : ms ρ s = .ok [.int i, .int j] s1) (hi : inR i) (hj : inR j) : mRng2 ms ρ s = .ok (.fix (rngD i (j - i).toNat)) s1 := by
  unfold mRng2; rw [h]; exact if_pos ⟨hi, hj⟩
/-- what is wanted behind a loop -/
def loopQ (I : Ev → S → Prop) (Qr : D → S → Prop) : Fl → S → Prop := fun fl s => match fl with
  | .nx ρ => I ρ s
  | .ret d => Qr d s
  | _ => False
@[simp] theorem loopQ_nx (I Qr ρ s) : loopQ I Qr (.nx ρ) s = I ρ s := rfl
@[simp] theorem loopQ_ret (I Qr d s) : loopQ I Qr (.ret d) s = Qr d s := rfl
def turnQ (I : Ev → S → Prop) (B : Ev → S → Prop) (Qr : D → S → Prop) : Fl → S → Prop := fun fl s => match fl with
  | .nx ρ => I ρ s
  | .ct ρ => I ρ s
  | .bk ρ => B ρ s
  | .ret d => Qr d s
@[simp] theorem turnQ_nx (I B Qr ρ s) : turnQ I B Qr (.nx ρ) s = I ρ s := rfl
@[simp] theorem turnQ_ct (I B Qr ρ s) : turnQ I B Qr (.ct ρ) s = I ρ s := rfl
@[simp] theorem turnQ_bk (I B Qr ρ s) : turnQ I B Qr (.bk ρ) s = B ρ s := rfl
@[simp] theorem turnQ_ret (I B Qr d s) : turnQ I B Qr (.ret d) s = Qr d s := rfl
/-- a loop by its invariant over (the rest, env, store) -/
theorem wp_lloop {g : MG} {b : MS} {I : List D → Ev → S → Prop} {E : Ev → S → Prop} {Qr : D → S → Prop}
    (turn : ∀ d ds ρ s, I (d :: ds) ρ s → wp (g d ρ s) fun ρ1 s1 => wp (b ρ1 s1) (turnQ (I ds) E Qr)) (done : ∀ ρ s, I [] ρ s → E ρ s) :
    ∀ (xs : List D) (ρ : Ev) (s : S), I xs ρ s → wp (lloop g b xs ρ s) (loopQ E Qr)
  | [], ρ, s, h => done ρ s h
  | d :: ds, ρ, s, h => by
    unfold lloop
    rw [wp_bnd]
    refine (turn d ds ρ s h).mono fun ρ1 s1 h1 => ?_
    rw [wp_bnd]
    refine h1.mono fun fl s2 h2 => ?_
    cases fl with
    | nx ρ2 => exact wp_lloop turn done ds ρ2 s2 h2
    | ct ρ2 => exact wp_lloop turn done ds ρ2 s2 h2
    | bk ρ2 => exact h2
    | ret d => exact h2

/-! ### comprehensions over fixed items -/
def llc (t : Tg) (tt : MT) (el : ME) (ρw : Ev) : List D → List D → S → R (List D)
  | [], acc, s => .ok acc s
  | d :: ds, acc, s => (match tgM t d ρw with
    | some ρ1 => (noX (tt ρ1 s)).bnd fun k s1 => if k = true then (noX (el ρ1 s1)).bnd fun y s2 => llc t tt el ρw ds (acc ++ [y]) s2 else llc t tt el ρw ds acc s1
    | none => .bad)
theorem mLcGo_fix (t : Tg) (tt : MT) (el : ME) (ρw : Ev) : ∀ (xs pre acc : List D) (s : S), mLcGo (.fix (pre ++ xs)) t tt el ρw xs.length pre.length acc s = llc t tt el ρw xs acc s
  | [], pre, acc, s => by simp [mLcGo, srcAt, llc]
  | d :: ds, pre, acc, s => by
    have ih := mLcGo_fix t tt el ρw ds (pre ++ [d])
    simp only [List.append_assoc, List.singleton_append, List.length_append, List.length_singleton] at ih
    simp only [List.length_cons, mLcGo, srcAt, llc]
    rw [List.getElem?_append_right (Nat.le_refl _), Nat.sub_self]
    show (match tgM t d ρw with | some ρ1 => _ | none => _) = _
    cases tgM t d ρw with
    | none => rfl
    | some ρ1 =>
      show (noX (tt ρ1 s)).bnd _ = (noX (tt ρ1 s)).bnd _
      congr 1
      funext k s1
      cases k with
      | true =>
        rw [if_pos rfl, if_pos rfl]
        congr 1
        funext y s2
        exact ih (acc ++ [y]) s2
      | false =>
        rw [if_neg Bool.false_ne_true, if_neg Bool.false_ne_true]
        exact ih acc s1
theorem mLcF_fix {fi : List D → S → R D} {it : MI} {t : Tg} {tt : MT} {el : ME} {vs : List Nat} {ρ : Ev} {s s1 : S} {xs : List D} (h : it ρ s = .ok (.fix xs) s1) (hl : xs.length ≤ 1000000) (hs : ∀ i ∈ t.slots, i ∈ vs) :
    mLcF fi it t tt el vs ρ s = (llc t tt el (wipeD ρ vs) xs [] s1).bnd fi := by
  unfold mLcF mLc0
  rw [h]
  show (if xs.length ≤ LIM ∧ (∀ i ∈ t.slots, i ∈ vs) then _ else R.bad).bnd fi = _
  rw [if_pos ⟨hl, hs⟩]
  congr 1
  exact mLcGo_fix t tt el (wipeD ρ vs) xs [] [] s1
/-- each item by itself, nothing changed -/
theorem llc_pure {t : Tg} {el : ME} {ρw : Ev} {f : D → D} {s : S} : ∀ (xs acc : List D), (∀ d ∈ xs, ∃ ρ1, tgM t d ρw = some ρ1 ∧ el ρ1 s = .ok (f d) s) → llc t mYes el ρw xs acc s = .ok (acc ++ xs.map f) s
  | [], acc, _ => by simp [llc]
  | d :: ds, acc, h => by
    obtain ⟨ρ1, h1, h2⟩ := h d (List.mem_cons_self ..)
    have ih := llc_pure (t := t) (el := el) (ρw := ρw) (f := f) (s := s) ds (acc ++ [f d]) fun x hx => h x (List.mem_cons_of_mem _ hx)
    unfold llc
    rw [h1]
    simp [h2, ih]
theorem llc_filter {t : Tg} {tt : MT} {el : ME} {ρw : Ev} {p : D → Bool} {f : D → D} {s : S} : ∀ (xs acc : List D), (∀ d ∈ xs, ∃ ρ1, tgM t d ρw = some ρ1 ∧ tt ρ1 s = .ok (p d) s ∧ (p d = true → el ρ1 s = .ok (f d) s)) →
    llc t tt el ρw xs acc s = .ok (acc ++ (xs.filter p).map f) s
  | [], acc, _ => by simp [llc]
  | d :: ds, acc, h => by
    obtain ⟨ρ1, h1, h2, h3⟩ := h d (List.mem_cons_self ..)
    have ih := fun acc => llc_filter (t := t) (tt := tt) (el := el) (ρw := ρw) (p := p) (f := f) (s := s) ds acc fun x hx => h x (List.mem_cons_of_mem _ hx)
    unfold llc
    rw [h1]
    cases hp : p d with
    | true => simp [h2, hp, h3 hp, ih]
    | false => simp [h2, hp, ih]
/-- by an invariant -/
theorem wp_llc {t : Tg} {el : ME} {ρw : Ev} {I : List D → List D → S → Prop} (turn : ∀ d ds acc s, I (d :: ds) acc s → ∃ ρ1, tgM t d ρw = some ρ1 ∧ wp (el ρ1 s) fun y s1 => I ds (acc ++ [y]) s1) :
    ∀ (xs acc : List D) (s : S), I xs acc s → wp (llc t mYes el ρw xs acc s) fun ys s' => I [] ys s'
  | [], acc, s, h => h
  | d :: ds, acc, s, h => by
    obtain ⟨ρ1, h1, h2⟩ := turn d ds acc s h
    unfold llc
    rw [h1]
    simp only [mYes_eq, noX_ok, R.bnd_ok, if_true, wp_bnd, wp_noX]
    exact h2.mono fun y s1 h3 => wp_llc turn ds (acc ++ [y]) s1 h3
@[simp] theorem finL_eq (xs s) : finL xs s = .ok (.lst xs) s := rfl
@[simp] theorem finO_eq (xs s) : finO xs s = .ok (.obj s.length) (s ++ [.lst xs]) := rfl
@[simp] theorem tgM_one (i d ρ) : tgM (.one i) d ρ = some (ρ.set i (some d)) := rfl

/-! ### what is walked, opened for simp -/
def srcF : D → S → R Src := fun d s1 => match d with
  | .tup xs => .ok (.fix xs) s1
  | .lst xs => .ok (.fix xs) s1
  | .scr xs => .ok (.fix xs) s1
  | .obj n => (match s1[n]? with
    | some (.lst _) => .ok (.live n) s1
    | _ => .bad)
  | _ => .bad
@[simp] theorem mSrc_eq (m ρ s) : mSrc m ρ s = (m ρ s).bnd srcF := rfl
@[simp] theorem srcF_tup (xs s) : srcF (.tup xs) s = .ok (.fix xs) s := rfl
@[simp] theorem srcF_lst (xs s) : srcF (.lst xs) s = .ok (.fix xs) s := rfl
@[simp] theorem srcF_scr (xs s) : srcF (.scr xs) s = .ok (.fix xs) s := rfl
noncomputable def rng1F : List D → S → R Src := fun ds s1 => match ds with
  | [.int j] => if inR j then .ok (.fix (rngD 0 j.toNat)) s1 else .bad
  | _ => .bad
noncomputable def rng2F : List D → S → R Src := fun ds s1 => match ds with
  | [.int i, .int j] => if inR i ∧ inR j then .ok (.fix (rngD i (j - i).toNat)) s1 else .bad
  | _ => .bad
@[simp] theorem mRng1_bnd (m ρ s) : mRng1 m ρ s = (m ρ s).bnd rng1F := rfl
@[simp] theorem mRng2_bnd (m ρ s) : mRng2 m ρ s = (m ρ s).bnd rng2F := rfl
@[simp] theorem rng1F_ok {j : Int} (s) (h : -(2 ^ 62) ≤ j ∧ j < 2 ^ 62) : rng1F [.int j] s = .ok (.fix (rngD 0 j.toNat)) s := if_pos h
@[simp] theorem rng2F_ok {i j : Int} (s) (h : (-(2 ^ 62) ≤ i ∧ i < 2 ^ 62) ∧ (-(2 ^ 62) ≤ j ∧ j < 2 ^ 62)) : rng2F [.int i, .int j] s = .ok (.fix (rngD i (j - i).toNat)) s := if_pos h
def forF (g : MG) (b : MS) (ρ : Ev) : Src → S → R Fl := fun src s1 => match srcAt s1 src with
  | some xs => mLoop src g b xs.length 0 ρ s1
  | none => .bad
@[simp] theorem mFor_eq (it g b ρ s) : mFor it g b ρ s = (it ρ s).bnd (forF g b ρ) := rfl
@[simp] theorem forF_fix (g b ρ xs s) : forF g b ρ (.fix xs) s = lloop g b xs ρ s := mLoop_fix g b xs [] ρ s
def lcF (fi : List D → S → R D) (t : Tg) (tt : MT) (el : ME) (vs : List Nat) (ρ : Ev) : Src → S → R D := fun src s1 => (match srcAt s1 src with
  | some xs => if xs.length ≤ LIM ∧ (∀ i ∈ t.slots, i ∈ vs) then mLcGo src t tt el (wipeD ρ vs) xs.length 0 [] s1 else .bad
  | none => R.bad).bnd fi
theorem bnd_bnd {α β γ : Type} (r : R α) (f : α → S → R β) (g : β → S → R γ) : (r.bnd f).bnd g = r.bnd fun a s => (f a s).bnd g := by cases r <;> rfl
@[simp] theorem mLcF_eq (fi it t tt el vs ρ s) : mLcF fi it t tt el vs ρ s = (it ρ s).bnd (lcF fi t tt el vs ρ) := by
  unfold mLcF mLc0
  rw [bnd_bnd]
  rfl
theorem lcF_fix {fi : List D → S → R D} {t : Tg} {tt : MT} {el : ME} {vs : List Nat} {ρ : Ev} {s : S} {xs : List D} (hl : xs.length ≤ 1000000) (hs : (t.slots.all fun i => vs.contains i) = true) :
    lcF fi t tt el vs ρ (.fix xs) s = (llc t tt el (wipeD ρ vs) xs [] s).bnd fi := by
  show (if xs.length ≤ LIM ∧ (∀ i ∈ t.slots, i ∈ vs) then _ else R.bad).bnd fi = _
  rw [if_pos ⟨hl, fun i hi => by simpa using List.all_eq_true.1 hs i hi⟩]
  congr 1
  exact mLcGo_fix t tt el (wipeD ρ vs) xs [] [] s
@[simp] theorem lcF_rng {fi : List D → S → R D} {t : Tg} {tt : MT} {el : ME} {vs : List Nat} {ρ : Ev} {s : S} {lo : Int} {n : Nat} (hl : n ≤ 1000000) :
    lcF fi t tt el vs ρ (.fix (rngD lo n)) s = if (t.slots.all fun i => vs.contains i) = true then (llc t tt el (wipeD ρ vs) (rngD lo n) [] s).bnd fi else .bad := by
  by_cases h : (t.slots.all fun i => vs.contains i) = true
  · rw [if_pos h, lcF_fix (by rw [rngD_len]; exact hl) h]
  · rw [if_neg h]
    show (if (rngD lo n).length ≤ LIM ∧ (∀ i ∈ t.slots, i ∈ vs) then _ else R.bad).bnd fi = _
    rw [if_neg fun hh => h (List.all_eq_true.2 fun i hi => by simpa using hh.2 i hi)]
    rfl
@[simp] theorem slots_one (i) : (Tg.one i).slots = [i] := rfl
@[simp] theorem slots_many (i) : (Tg.many i).slots = i := rfl
@[simp] theorem wipeD_nil (ρ) : wipeD ρ [] = ρ := rfl
@[simp] theorem wipeD_cons (ρ v vs) : wipeD ρ (v :: vs) = (wipeD ρ vs).set v none := rfl
@[simp] theorem mListRg_eq (m ρ s) : mListRg m ρ s = (m ρ s).bnd fun d s1 => match d with
  | .int j => if rgOkD j then .ok (.lst (rngD 0 j.toNat)) s1 else .bad
  | _ => .bad := rfl
@[simp] theorem mTupRg_eq (m ρ s) : mTupRg m ρ s = (m ρ s).bnd fun d s1 => match d with
  | .int j => if rgOkD j then .ok (.tup (rngD 0 j.toNat)) s1 else .bad
  | _ => .bad := rfl
@[simp] theorem rgOk_pos {α : Type} {j : Int} {a b : α} (h : -(2 ^ 62) ≤ j ∧ j ≤ 1000) : (if rgOkD j then a else b) = a := if_pos h
@[simp] theorem mAppend_eq (mo me ρ s) : mAppend mo me ρ s = (mo ρ s).bnd fun x s1 => if isLstO s1 x = true then (me ρ s1).bnd fun y s2 => fAppend x y s2 else .bad := rfl
theorem isLstO_obj {s : S} {n : Nat} {ds : List D} (h : s[n]? = some (.lst ds)) : isLstO s (.obj n) = true := by simp [isLstO, h]
theorem fAppend_obj {s : S} {n : Nat} {ds : List D} (h : s[n]? = some (.lst ds)) (hl : ds.length < 1000000) (y : D) : fAppend (.obj n) y s = .ok .non (s.set n (.lst (ds ++ [y]))) := by
  simp [fAppend, h, hl]
@[simp] theorem opSl_tup (xs lo hi s) : opSl (.tup xs) lo hi s = .ok (.tup (cutD xs lo hi)) s := rfl
@[simp] theorem opSl_lst (xs lo hi s) : opSl (.lst xs) lo hi s = .ok (.lst (cutD xs lo hi)) s := rfl
theorem cut_to (xs : List D) (n : Nat) : cutD xs none (some (n : Int)) = xs.take n := by
  unfold cutD
  rw [HT.sIx_nat, HT.sIx_none]
  simp only [Nat.sub_zero, List.drop_zero]
  rw [Nat.min_def]
  split
  · rfl
  · rw [List.take_of_length_le (Nat.le_refl _), List.take_of_length_le (by omega)]
theorem cut_from (xs : List D) (n : Nat) : cutD xs (some (n : Int)) none = xs.drop n := by
  unfold cutD
  rw [HT.sIx_nat, HT.sIx_none, List.take_of_length_le (by rw [List.length_drop]; exact Nat.le_refl _), Nat.min_def]
  split
  · rfl
  · rw [List.drop_of_length_le (Nat.le_refl _), List.drop_of_length_le (by omega)]
@[simp] theorem rngD_length (lo n) : (rngD lo n).length = n := rngD_len
theorem rngD_0 (n : Nat) : rngD 0 n = (List.range n).map fun k => .int (k : Int) := by simp [rngD]
theorem rngD_mem {n : Nat} {d : D} (h : d ∈ rngD 0 n) : ∃ k, k < n ∧ d = .int (k : Nat) := by
  rw [rngD_0] at h
  obtain ⟨k, hk, rfl⟩ := List.mem_map.1 h
  exact ⟨k, List.mem_range.1 hk, rfl⟩
/-- numbers made one by one, nothing changed -/
theorem llc_nums {i : Nat} {el : ME} {ρw : Ev} {s : S} {b : Nat} : ∀ (xs acc : List D), (∀ d ∈ xs, ∃ x : Nat, x < b ∧ el (ρw.set i (some d)) s = .ok (.int (x : Int)) s) →
    ∃ l : List Nat, llc (.one i) mYes el ρw xs acc s = .ok (acc ++ l.map fun x => .int (x : Int)) s ∧ l.length = xs.length ∧ ∀ x ∈ l, x < b
  | [], acc, _ => ⟨[], by simp [llc], rfl, by simp⟩
  | d :: ds, acc, h => by
    obtain ⟨x, hx, e⟩ := h d (List.mem_cons_self ..)
    obtain ⟨l, h1, h2, h3⟩ := llc_nums (i := i) (el := el) (ρw := ρw) (s := s) (b := b) ds (acc ++ [.int (x : Int)]) fun x hx => h x (List.mem_cons_of_mem _ hx)
    refine ⟨x :: l, ?_, by simp [h2], fun y hy => ?_⟩
    · unfold llc
      simp [e, h1]
    · rcases List.mem_cons.1 hy with rfl | hy
      · exact hx
      · exact h3 y hy
/-- what a turn of a loop is to give: the loop is in I before each turn, in K behind it -/
def turnK (I : Ev → S → Prop) (K : Fl → S → Prop) : Fl → S → Prop := fun fl s => match fl with
  | .nx ρ => I ρ s
  | .ct ρ => I ρ s
  | .bk ρ => K (.nx ρ) s
  | .ret d => K (.ret d) s
@[simp] theorem turnK_nx (I K ρ s) : turnK I K (.nx ρ) s = I ρ s := rfl
@[simp] theorem turnK_ct (I K ρ s) : turnK I K (.ct ρ) s = I ρ s := rfl
@[simp] theorem turnK_bk (I K ρ s) : turnK I K (.bk ρ) s = K (.nx ρ) s := rfl
@[simp] theorem turnK_ret (I K d s) : turnK I K (.ret d) s = K (.ret d) s := rfl
theorem wp_loop {g : MG} {b : MS} {K : Fl → S → Prop} (I : List D → Ev → S → Prop) (turn : ∀ d ds ρ s, I (d :: ds) ρ s → wp (g d ρ s) fun ρ1 s1 => wp (b ρ1 s1) (turnK (I ds) K))
    (done : ∀ ρ s, I [] ρ s → K (.nx ρ) s) : ∀ (xs : List D) (ρ : Ev) (s : S), I xs ρ s → wp (lloop g b xs ρ s) K
  | [], ρ, s, h => done ρ s h
  | d :: ds, ρ, s, h => by
    unfold lloop
    rw [wp_bnd]
    refine (turn d ds ρ s h).mono fun ρ1 s1 h1 => ?_
    rw [wp_bnd]
    refine h1.mono fun fl s2 h2 => ?_
    cases fl with
    | nx ρ2 => exact wp_loop I turn done ds ρ2 s2 h2
    | ct ρ2 => exact wp_loop I turn done ds ρ2 s2 h2
    | bk ρ2 => exact h2
    | ret d => exact h2
theorem wp_nums {i : Nat} {el : ME} {ρw : Ev} {s : S} (b : Nat) {xs : List D} {Q : List D → S → Prop} (h : ∀ d ∈ xs, ∃ x : Nat, x < b ∧ el (ρw.set i (some d)) s = .ok (.int (x : Int)) s)
    (k : ∀ l : List Nat, l.length = xs.length → (∀ x ∈ l, x < b) → Q (l.map fun (x : Nat) => D.int (x : Int)) s) : wp (llc (.one i) mYes el ρw xs [] s) Q := by
  obtain ⟨l, h1, h2, h3⟩ := llc_nums (i := i) (el := el) (ρw := ρw) (s := s) xs [] h
  exact wp.of h1 (k l h2 h3)
@[simp] theorem lcF_nil {fi : List D → S → R D} {t : Tg} {tt : MT} {el : ME} {vs : List Nat} {ρ : Ev} {s : S} : lcF fi t tt el vs ρ (.fix []) s = if (t.slots.all fun i => vs.contains i) = true then fi [] s else .bad := by
  by_cases h : (t.slots.all fun i => vs.contains i) = true
  · rw [if_pos h, lcF_fix (by simp) h]; rfl
  · rw [if_neg h]
    show (if ([] : List D).length ≤ LIM ∧ (∀ i ∈ t.slots, i ∈ vs) then _ else R.bad).bnd fi = _
    rw [if_neg fun hh => h (List.all_eq_true.2 fun i hi => by simpa using hh.2 i hi)]
    rfl
@[simp] theorem lcF_cons {fi : List D → S → R D} {t : Tg} {tt : MT} {el : ME} {vs : List Nat} {ρ : Ev} {s : S} {x : D} {xs : List D} (hl : (x :: xs).length ≤ 1000000) :
    lcF fi t tt el vs ρ (.fix (x :: xs)) s = if (t.slots.all fun i => vs.contains i) = true then (llc t tt el (wipeD ρ vs) (x :: xs) [] s).bnd fi else .bad := by
  by_cases h : (t.slots.all fun i => vs.contains i) = true
  · rw [if_pos h, lcF_fix hl h]
  · rw [if_neg h]
    show (if (x :: xs).length ≤ LIM ∧ (∀ i ∈ t.slots, i ∈ vs) then _ else R.bad).bnd fi = _
    rw [if_neg fun hh => h (List.all_eq_true.2 fun i hi => by simpa using hh.2 i hi)]
    rfl
theorem llc_nil (t tt el ρw acc s) : llc t tt el ρw [] acc s = .ok acc s := rfl
theorem llc_cons (t tt el ρw d ds acc s) : llc t tt el ρw (d :: ds) acc s = (match tgM t d ρw with
    | some ρ1 => (noX (tt ρ1 s)).bnd fun k s1 => if k = true then (noX (el ρ1 s1)).bnd fun y s2 => llc t tt el ρw ds (acc ++ [y]) s2 else llc t tt el ρw ds acc s1
    | none => .bad) := rfl
/-! lists of numbers -/
def allI : List D → Bool
  | [] => true
  | .int _ :: ds => allI ds
  | _ => false
def ofI : List D → List Int
  | [] => []
  | .int i :: ds => i :: ofI ds
  | _ :: ds => 0 :: ofI ds
@[simp] theorem allI_nil : allI [] = true := by simp [allI]
@[simp] theorem allI_cons (i ds) : allI (.int i :: ds) = allI ds := by simp [allI]
@[simp] theorem ofI_nil : ofI [] = [] := rfl
@[simp] theorem ofI_cons (i ds) : ofI (.int i :: ds) = i :: ofI ds := rfl
@[simp] theorem allI_map (ns : List Int) : allI (ns.map D.int) = true := by induction ns <;> simp [*]
@[simp] theorem ofI_map (ns : List Int) : ofI (ns.map D.int) = ns := by induction ns <;> simp [*]
theorem allI_eq : ∀ {ds : List D}, allI ds = true → ds = (ofI ds).map D.int
  | [], _ => rfl
  | .int i :: ds, h => by simp only [ofI_cons, List.map_cons]; exact congrArg _ (allI_eq (ds := ds) h)
  | .non :: _, h => by cases h
  | .bl _ :: _, h => by cases h
  | .str _ :: _, h => by cases h
  | .tup _ :: _, h => by cases h
  | .lst _ :: _, h => by cases h
  | .scr _ :: _, h => by cases h
  | .obj _ :: _, h => by cases h
  | .glo _ :: _, h => by cases h
  | .ty _ :: _, h => by cases h
theorem toPys_ints : ∀ ns : List Int, toPys (ns.map D.int) = some (ns.map PyData.int)
  | [] => rfl
  | n :: ns => by simp [toPys, toPy, toPys_ints ns]
@[simp] theorem fSum_ints {ds : List D} (h : allI ds = true) (s) : fSum [.lst ds] s = .ok (.int (ofI ds).sum) s := by
  rw [allI_eq h, fSum_lst]
  simp
theorem any_eqv (x : Int) : ∀ ns : List Int, ((ns.map PyData.int).any fun z => PyData.eqv z (.int x)) = ns.contains x
  | [] => rfl
  | n :: ns => by
    have := any_eqv x ns
    simp only [List.map_cons, List.any_cons, List.contains_cons, this]
    congr 1
    simp only [PyData.eqv]
    exact Bool.beq_comm
theorem shaped_ints (ns : List Int) : SeqAt.shaped (.list (ns.map PyData.int)) = true := by
  have h1 : ∀ ns : List Int, PyData.canLayAll0 (ns.map PyData.int) = true := fun ns => by induction ns <;> simp_all [PyData.canLayAll0, PyData.canLay0]
  have h2 : ∀ ns : List Int, PyData.depthAll (ns.map PyData.int) = 0 := fun ns => by induction ns <;> simp_all [PyData.depthAll, PyData.depth]
  simp [SeqAt.shaped, PyData.canLay0, PyData.depth, h1, h2]
@[simp] theorem opIn_ints {f : Bool → Bool} {x : Int} {ds : List D} (h : allI ds = true) (s) : opInB f (.int x) (.lst ds) s = .ok (.bl (f ((ofI ds).contains x))) s := by
  rw [allI_eq h]
  show (match toPyS s (.int x), toPyS s (.lst ((ofI ds).map D.int)) with
    | some d, some (.list ds) => if SeqAt.shaped d = true ∧ SeqAt.shaped (.list ds) = true then R.ok (D.bl (f (ds.any fun z => PyData.eqv z d))) s else .bad
    | _, _ => .bad) = _
  rw [show toPyS s (.lst ((ofI ds).map D.int)) = some (.list ((ofI ds).map PyData.int)) by simp [toPyS, toPy, toPys_ints]]
  show (if SeqAt.shaped (.int x) = true ∧ SeqAt.shaped (.list ((ofI ds).map PyData.int)) = true then R.ok (D.bl (f (((ofI ds).map PyData.int).any fun z => PyData.eqv z (.int x)))) s else .bad) = _
  rw [if_pos ⟨rfl, shaped_ints _⟩, any_eqv]
  simp
theorem llc_rng {i : Nat} {el : ME} {ρw : Ev} {s : S} {g : Nat → D} {n : Nat} (h : ∀ k, k < n → el (ρw.set i (some (.int (k : Int)))) s = .ok (g k) s) :
    llc (.one i) mYes el ρw (rngD 0 n) [] s = .ok ((List.range n).map g) s := by
  have e := llc_pure (t := .one i) (el := el) (ρw := ρw) (f := fun d => match d with | .int j => g j.toNat | d => d) (s := s) (rngD 0 n) [] fun d hd => by
    obtain ⟨k, hk, rfl⟩ := rngD_mem hd
    exact ⟨_, rfl, by simpa using h k hk⟩
  rw [e, rngD_0]
  simp [Function.comp_def]
@[simp] theorem mEnum_eq (ms ρ s) : mEnum ms ρ s = (ms ρ s).bnd enumF := rfl
@[simp] theorem enumF_tup (xs s) : enumF [.tup xs] s = .ok (.fix (enumD xs)) s := rfl
@[simp] theorem enumF_lst (xs s) : enumF [.lst xs] s = .ok (.fix (enumD xs)) s := rfl
@[simp] theorem enumD_length (xs) : (enumD xs).length = xs.length := enumD_len
end VL
namespace VL
open PySem PySem.Spec PyProof.Rows L2

/-! ### repr: what is fine to be shown -/
structure FineP (k n : Nat) (p : PyData) : Prop where
  sh : p.showable = true
  hd : p.hasDict = false
  dp : p.depth ≤ k
  lv : p.leavesShort 24 = true
  bk : p.bulk ≤ n
def Fine (k n : Nat) (d : D) : Prop := ∃ p, toPy d = some p ∧ FineP k n p
theorem FineP.mono {k n k' n' p} (h : FineP k n p) (hk : k ≤ k') (hn : n ≤ n') : FineP k' n' p := ⟨h.sh, h.hd, Nat.le_trans h.dp hk, h.lv, Nat.le_trans h.bk hn⟩
theorem Fine.mono {k n k' n' d} (h : Fine k n d) (hk : k ≤ k') (hn : n ≤ n') : Fine k' n' d := h.elim fun p h => ⟨p, h.1, h.2.mono hk hn⟩
theorem fine_non (k n) : Fine k n .non := ⟨.none, rfl, rfl, rfl, Nat.zero_le _, rfl, Nat.zero_le _⟩
theorem fine_bl (k n b) : Fine k n (.bl b) := ⟨.bool b, rfl, rfl, rfl, Nat.zero_le _, rfl, Nat.zero_le _⟩
theorem shown_int_len (i : Int) (h : i.natAbs < 10 ^ 20) : (PyData.shown (.int i)).length ≤ 24 := by
  show (Str.ofString (toString i)).length ≤ 24
  rw [PySem.ofString_length]
  exact Nat.le_trans (int_text_length_le10 (k := 20) (by decide) h) (by decide)
theorem fine_int (k n) (i : Int) (h : i.natAbs < 10 ^ 20) : Fine k n (.int i) := by
  refine ⟨.int i, rfl, decide_eq_true ?_, rfl, Nat.zero_le _, decide_eq_true (shown_int_len i h), Nat.zero_le _⟩
  by_cases h0 : i.natAbs = 0
  · rw [h0]; decide
  · exact Nat.lt_trans ((Nat.log2_lt h0).2 (Nat.lt_of_lt_of_le h (by decide : 10 ^ 20 ≤ 2 ^ 70))) (by decide)
theorem fine_all {k n : Nat} : ∀ ds : List D, (∀ d ∈ ds, Fine k n d) → ∃ ps, toPys ds = some ps ∧ PyData.showableAll ps = true ∧ PyData.hasDictAll ps = false ∧ PyData.depthAll ps ≤ k ∧ PyData.leavesShortAll 24 ps = true ∧ PyData.bulkAll ps ≤ ds.length * (n + 1)
  | [], _ => ⟨[], rfl, rfl, rfl, Nat.zero_le _, rfl, Nat.zero_le _⟩
  | d :: ds, h => by
    obtain ⟨p, hp, f⟩ := h d (List.mem_cons_self ..)
    obtain ⟨ps, hps, h1, h2, h3, h4, h5⟩ := fine_all ds fun x hx => h x (List.mem_cons_of_mem _ hx)
    refine ⟨p :: ps, by simp [toPys, hp, hps], by simp [PyData.showableAll, f.sh, h1], by simp [PyData.hasDictAll, f.hd, h2], by simp only [PyData.depthAll]; exact Nat.max_le.2 ⟨f.dp, h3⟩, by simp [PyData.leavesShortAll, f.lv, h4], ?_⟩
    have := f.bk
    simp only [PyData.bulkAll, List.length_cons, Nat.add_mul, Nat.one_mul]
    omega
theorem fine_tup {k n : Nat} {ds : List D} (h : ∀ d ∈ ds, Fine k n d) : Fine (k + 1) (ds.length * (n + 1)) (.tup ds) := by
  obtain ⟨ps, hps, h1, h2, h3, h4, h5⟩ := fine_all ds h
  exact ⟨.tuple ps, by simp [toPy, hps], by simpa only [PyData.showable] using h1, by simpa only [PyData.hasDict] using h2, by simp only [PyData.depth]; omega, by simpa only [PyData.leavesShort] using h4, by simpa only [PyData.bulk] using h5⟩
theorem fine_lst {k n : Nat} {ds : List D} (h : ∀ d ∈ ds, Fine k n d) : Fine (k + 1) (ds.length * (n + 1)) (.lst ds) := by
  obtain ⟨ps, hps, h1, h2, h3, h4, h5⟩ := fine_all ds h
  exact ⟨.list ps, by simp [toPy, hps], by simpa only [PyData.showable] using h1, by simpa only [PyData.hasDict] using h2, by simp only [PyData.depth]; omega, by simpa only [PyData.leavesShort] using h4, by simpa only [PyData.bulk] using h5⟩
/-- the text of a value -/
def shw (d : D) : Str := ((toPy d).getD .none).shown
theorem Fine.repr {k n : Nat} {d : D} (h : Fine k n d) (hk : k ≤ 60) (hn : n ≤ 400000) (s : S) : fRepr [d] s = .ok (.str (shw d)) s := by
  obtain ⟨p, hp, f⟩ := h
  have e : toPyS s d = some p := by
    cases d with
    | obj n => simp [toPy] at hp
    | _ => exact hp
  have e2 : p.shown.length ≤ sizeLine := by
    have := PyData.shown_le_bulk 24 (by decide) p f.lv
    have := f.bk
    rw [sizeLine_eq]
    omega
  show (match toPyS s d with | some p => (if p.showable = true ∧ p.shown.length ≤ sizeLine ∧ p.hasDict = false ∧ p.depth ≤ 60 then R.ok (D.str p.shown) s else R.bad) | none => .bad) = _
  rw [e]
  show (if p.showable = true ∧ p.shown.length ≤ sizeLine ∧ p.hasDict = false ∧ p.depth ≤ 60 then R.ok (D.str p.shown) s else R.bad) = _
  rw [if_pos ⟨f.sh, e2, f.hd, Nat.le_trans f.dp hk⟩, shw, hp]
  rfl

/-! ### systems -/
abbrev nD (n : Nat) : D := .int (n : Int)
def kD : Option Nat → D
  | none => .non
  | some n => nD n
structure Sys where
  many : Nat
  start : Nat
  ops : List (List Nat)
  kinds : List (Option Nat)
def opD (o : List Nat) : D := .tup (o.map nD)
def Sys.D (y : Sys) : D := .tup [nD y.many, nD y.start, .tup (y.ops.map opD), .tup (y.kinds.map kD)]
structure Sys.Ok (y : Sys) : Prop where
  m1 : 1 ≤ y.many
  m6 : y.many ≤ 6
  st : y.start < y.many
  o1 : 1 ≤ y.ops.length
  o6 : y.ops.length ≤ 6
  ol : ∀ o ∈ y.ops, o.length = y.many
  oe : ∀ o ∈ y.ops, ∀ x ∈ o, x < y.many
  kl : y.kinds.length = y.ops.length
  ke : ∀ k ∈ y.kinds, ∀ n, k = some n → n ≤ 9
def logD (l : List Nat) : D := .tup (l.map nD)
theorem fine_nD (k n : Nat) {i : Nat} (h : i < 10 ^ 20) : Fine k n (nD i) := fine_int k n _ (by simpa using h)
theorem fine_log {l : List Nat} {b : Nat} (h : ∀ x ∈ l, x < b) (hb : b ≤ 10 ^ 20) : Fine 1 l.length (logD l) := by
  have := fine_tup (k := 0) (n := 0) (ds := l.map nD) fun d hd => by
    obtain ⟨x, hx, rfl⟩ := List.mem_map.1 hd
    exact fine_nD _ _ (Nat.lt_of_lt_of_le (h x hx) hb)
  simpa [logD] using this
theorem fine_kD (k n : Nat) {i : Option Nat} (h : ∀ x, i = some x → x ≤ 9) : Fine k n (kD i) := by
  cases i with
  | none => exact fine_non _ _
  | some x => exact fine_nD _ _ (Nat.lt_of_le_of_lt (h x rfl) (by decide))
theorem fine_sys {y : Sys} (h : y.Ok) : Fine 3 200 y.D := by
  have h6 := h.m6
  have a : Fine 2 42 (.tup (y.ops.map opD)) := by
    have := fine_tup (k := 1) (n := 6) (ds := y.ops.map opD) fun d hd => by
      obtain ⟨o, ho, rfl⟩ := List.mem_map.1 hd
      have := fine_log (h.oe o ho) (Nat.le_trans h.m6 (by decide))
      rw [h.ol o ho] at this
      exact this.mono (Nat.le_refl _) h.m6
    refine this.mono (Nat.le_refl _) ?_
    have := h.o6
    simp only [List.length_map]
    omega
  have b : Fine 2 42 (.tup (y.kinds.map kD)) := by
    have := fine_tup (k := 0) (n := 0) (ds := y.kinds.map kD) fun d hd => by
      obtain ⟨o, ho, rfl⟩ := List.mem_map.1 hd
      exact fine_kD _ _ (h.ke o ho)
    refine this.mono (by omega) ?_
    have := h.o6
    have := h.kl
    simp only [List.length_map]
    omega
  have := fine_tup (k := 2) (n := 42) (ds := [nD y.many, nD y.start, .tup (y.ops.map opD), .tup (y.kinds.map kD)]) fun d hd => by
    simp only [List.mem_cons, List.not_mem_nil, or_false] at hd
    rcases hd with rfl | rfl | rfl | rfl
    · exact fine_nD _ _ (Nat.lt_of_le_of_lt h.m6 (by decide))
    · exact fine_nD _ _ (Nat.lt_trans h.st (Nat.lt_of_le_of_lt h.m6 (by decide)))
    · exact a
    · exact b
  exact this.mono (Nat.le_refl _) (by simp)

/-! ### the law's pen -/
/-- the pen p: digits left, a stir, a count with f draws to spare -/
def Pen (p f : Nat) (s : S) : Prop := ∃ a m c : Int, s[p]? = some (.lst [.int a, .int m, .int c]) ∧ 0 ≤ a ∧ 0 ≤ m ∧ m < 1000000007 ∧ 0 ≤ c ∧ c + f ≤ 2 ^ 60
theorem Pen.mono {p f f' : Nat} {s : S} (h : Pen p f s) (k : f' ≤ f) : Pen p f' s := by
  obtain ⟨a, m, c, h1, h2, h3, h4, h5, h6⟩ := h
  exact ⟨a, m, c, h1, h2, h3, h4, h5, by omega⟩
theorem Pen.lt {p f : Nat} {s : S} (h : Pen p f s) : p < s.length := by
  obtain ⟨a, m, c, h1, _⟩ := h
  exact (List.getElem?_eq_some_iff.1 h1).1
/-- the store but p is as before, new ones are behind -/
def Frm (p : Nat) (s s' : S) : Prop := s.length ≤ s'.length ∧ ∀ i, i < s.length → i ≠ p → s'[i]? = s[i]?
theorem Frm.refl (p s) : Frm p s s := ⟨Nat.le_refl _, fun _ _ _ => rfl⟩
theorem Frm.trans {p s s' s''} (h : Frm p s s') (k : Frm p s' s'') : Frm p s s'' := ⟨Nat.le_trans h.1 k.1, fun i hi hp => (k.2 i (Nat.lt_of_lt_of_le hi h.1) hp).trans (h.2 i hi hp)⟩
theorem Frm.set {p s} (o : O) : Frm p s (s.set p o) := ⟨by simp, fun i _ hp => by rw [List.getElem?_set_ne (Ne.symm hp)]⟩
theorem Frm.app {p s} (t : S) : Frm p s (s ++ t) := ⟨by simp, fun i hi _ => by rw [List.getElem?_append_left hi]⟩
theorem Frm.get {p s s'} (h : Frm p s s') {i : Nat} {o : O} (e : s[i]? = some o) (hp : i ≠ p) : s'[i]? = some o := by
  rw [h.2 i (List.getElem?_eq_some_iff.1 e).1 hp]; exact e
theorem Pen.app {p f s} (h : Pen p f s) (t : S) : Pen p f (s ++ t) := by
  have hl := h.lt
  obtain ⟨a, m, c, h1, h2⟩ := h
  exact ⟨a, m, c, by rw [List.getElem?_append_left hl]; exact h1, h2⟩
theorem Pen.set {p f s} (h : Pen p f s) {q : Nat} (hq : q ≠ p) (o : O) : Pen p f (s.set q o) := by
  obtain ⟨a, m, c, h1, h2⟩ := h
  exact ⟨a, m, c, by rw [List.getElem?_set_ne hq]; exact h1, h2⟩
end VL
namespace VL
open PySem PySem.Spec PyProof.Rows L2

/-! ### draws -/
theorem getset0 {p : Nat} {s : S} {o o' : O} (h : s[p]? = some o) : (s.set p o')[p]? = some o' := by
  rw [List.getElem?_set_self (List.getElem?_eq_some_iff.1 h).1]
theorem setIx_obj {p : Nat} {s : S} {xs : List D} (h : s[p]? = some (.lst xs)) {i : Nat} (hi : i < xs.length) (v : D) : setIx (.obj p) (.int (i : Int)) v s = some (s.set p (.lst (xs.set i v))) := by
  simp [setIx, h, ixN, hi]
theorem wp_pen (z : Int) (f : Nat) (hf : f ≤ 2 ^ 60) (s : S) : m__law_pen [.int z] s = .ok (.obj s.length) (s ++ [.lst [.int (if z - 10 ^ 18 > 0 then z - 10 ^ 18 else 0), .int (z % 1000000007), .int 0]]) ∧ Pen s.length f (s ++ [.lst [.int (if z - 10 ^ 18 > 0 then z - 10 ^ 18 else 0), .int (z % 1000000007), .int 0]]) := by
  constructor
  · unfold m__law_pen
    rw [mFn_eq]
    simp [initE, CPow]
  · refine ⟨(if z - 10 ^ 18 > 0 then z - 10 ^ 18 else 0), z % 1000000007, 0, by simp, ?_, ?_, ?_, ?_, ?_⟩ <;> first | omega | skip
theorem wp_cell {ns : List Int} {k : Nat} (s : S) : ∃ z : Int, m__law_cell_at [.scr (ns.map .int), nD k] s = .ok (.int z) s := by
  unfold m__law_cell_at nD
  rw [mFn_eq]
  by_cases h : k < ns.length
  · exact ⟨ns[k], by simp [initE, h]⟩
  · exact ⟨0, by simp [initE, h]⟩
theorem wp_draw {p f n : Nat} {s : S} (h : Pen p (f + 1) s) (hn : 1 ≤ n) (hn2 : n ≤ 1000) : wp (m__law_draw [.obj p, nD n] s) fun d s' => ∃ k, d = nD k ∧ k < n ∧ Pen p f s' ∧ Frm p s s' := by
  obtain ⟨a, m, c, h1, h2, h3, h4, h5, h6⟩ := h
  unfold m__law_draw nD
  rw [mFn_eq]
  have r1 := opIx_obj s h1
  have w1 := fun (s0 : S) (x y z : D) (hh : s0[p]? = some (.lst [x, y, z])) v => setIx_obj hh (i := 0) (by decide : 0 < 3) v
  have w2 := fun (s0 : S) (x y z : D) (hh : s0[p]? = some (.lst [x, y, z])) v => setIx_obj hh (i := 2) (by decide : 2 < 3) v
  have q0 : (0 : Int) < n := by omega
  have a0 := w1 s _ _ _ h1
  have a2 : ∀ v, setIx (.obj p) (.int 2) v s = _ := w2 s _ _ _ h1
  simp only [Int.ofNat_zero, Int.natCast_zero] at a0
  have key : ∀ z : Int, 0 ≤ z % (n : Int) ∧ z % (n : Int) < n := fun z => ⟨Int.emod_nonneg _ (by omega), Int.emod_lt_of_pos _ q0⟩
  have fin : ∀ z : Int, ∃ k : Nat, z % (n : Int) = k ∧ k < n := fun z => ⟨(z % (n : Int)).toNat, by have := key z; omega, by have := key z; omega⟩
  by_cases ha : 0 < a
  · simp (disch := omega) [initE, r1, ha, a0]
    obtain ⟨k, hk, hk2⟩ := fin a
    refine ⟨k, by rw [hk], hk2, ⟨a / n, m, c, by rw [getset0 h1], Int.ediv_nonneg h2 (by omega), h3, h4, h5, by omega⟩, Frm.set _⟩
  · have h1' : (s.set p (.lst ([D.int a, D.int m, D.int c].set 2 (.int (c + 1)))))[p]? = some (.lst [.int a, .int m, .int (c + 1)]) := getset0 h1
    have r2 := opIx_obj _ h1'
    simp only [List.set_cons_succ, List.set_cons_zero] at r2 a2
    have ha' : (if 0 < a then True else False) = False := by simp [ha]
    simp (disch := omega) [initE, r1, ha, a2, r2]
    obtain ⟨k, hk, hk2⟩ := fin (((m + 17 * (c + 1)) * (69621 + 2 * (c + 1)) % 2147483647 * ((m + 17 * (c + 1)) * (69621 + 2 * (c + 1)) % 2147483647) + 40503 * (c + 1) + 5) % 2147483629 * 48271 % 2147483647 / 32)
    exact ⟨k, by rw [hk], hk2, ⟨a, m, c + 1, h1', h2, h3, h4, by omega, by omega⟩, Frm.set _⟩
theorem wp_drawI {p f n : Nat} {i : Int} {s : S} (h : Pen p (f + 1) s) (hi : i = n) (hn : 1 ≤ n) (hn2 : n ≤ 1000) : wp (m__law_draw [.obj p, .int i] s) fun d s' => ∃ k : Nat, d = .int (k : Int) ∧ k < n ∧ Pen p f s' ∧ Frm p s s' := by
  subst hi
  exact wp_draw h hn hn2
theorem wp_pick {p f : Nat} {xs : List D} {s : S} (h : Pen p (f + 1) s) (h1 : 1 ≤ xs.length) (h2 : xs.length ≤ 1000) : wp (m__law_pick [.obj p, .lst xs] s) fun d s' => d ∈ xs ∧ Pen p f s' ∧ Frm p s s' := by
  unfold m__law_pick
  rw [mFn_eq]
  simp [initE]
  refine (wp_drawI h rfl h1 h2).mono fun d s1 ⟨k, e, hk, hp, hf⟩ => ?_
  subst e
  simp [hk]
  exact ⟨hp, hf⟩
/-- a row of draws -/
theorem wp_rolls {i p m f : Nat} {el : ME} {ρw : Ev} {s : S} (xs : List D) (hel : ∀ (d : D) (s : S) (Q : D → S → Prop), wp (m__law_draw [.obj p, .int (m : Int)] s) Q → wp (el (ρw.set i (some d)) s) Q)
    (hm : 1 ≤ m) (hm2 : m ≤ 1000) (h : Pen p (f + xs.length) s) :
    wp (llc (.one i) mYes el ρw xs [] s) fun ys s' => ∃ l : List Nat, ys = l.map nD ∧ l.length = xs.length ∧ (∀ x ∈ l, x < m) ∧ Pen p f s' ∧ Frm p s s' := by
  refine (wp_llc (I := fun ds acc s' => ∃ l : List Nat, acc = l.map nD ∧ l.length + ds.length = xs.length ∧ (∀ x ∈ l, x < m) ∧ Pen p (f + ds.length) s' ∧ Frm p s s') ?_ xs [] s ⟨[], rfl, by simp, by simp, h, Frm.refl _ _⟩).mono ?_
  · intro d ds acc s' ⟨l, h1, h2, h3, h4, h5⟩
    refine ⟨_, rfl, hel _ _ _ ((wp_draw (f := f + ds.length) h4 hm hm2).mono fun d s1 ⟨k, e, hk, hp, hf⟩ => ?_)⟩
    refine ⟨l ++ [k], by simp [h1, e], by simp at h2 ⊢; omega, ?_, hp, h5.trans hf⟩
    intro x hx
    rcases List.mem_append.1 hx with hx | hx
    · exact h3 x hx
    · simp at hx; omega
  · intro ys s' ⟨l, h1, h2, h3, h4, h5⟩
    exact ⟨l, h1, by simpa using h2, h3, by simpa using h4, h5⟩
theorem wp_log {y : Sys} (hy : y.Ok) {p f c : Nat} {i : Int} {s : S} (h : Pen p (f + (c + 1)) s) (hi : i = c) (hc : c ≤ 999) : wp (m__law_log [.obj p, y.D, .int i] s) fun d s' => ∃ l : List Nat, d = logD l ∧ l.length ≤ c ∧ (∀ x ∈ l, x < y.ops.length) ∧ Pen p f s' ∧ Frm p s s' := by
  subst hi
  unfold m__law_log Sys.D
  rw [mFn_eq]
  simp [initE]
  refine (wp_drawI (f := f + c) h (n := c + 1) (by simp) (by omega) (by omega)).mono fun d s1 ⟨k, e, hk, hp, hf⟩ => ?_
  subst e
  have := hy.o6
  simp (disch := omega)
  refine (wp_rolls (m := y.ops.length) (f := f) (rngD 0 k) ?_ hy.o1 (by omega) (hp.mono (by simp; omega))).mono fun ys s2 ⟨l, h1, h2, h3, h4, h5⟩ => ?_
  · intro d s Q h
    simpa using h
  · exact ⟨l, by rw [h1]; rfl, by simp at h2; omega, h3, h4, hf.trans h5⟩

/-! ### two lists in the making -/
structure Two (p q : Nat) (many n m : Nat) (s0 s : S) : Prop where
  ex : ∃ (ops : List (List Nat)) (kinds : List (Option Nat)), ops.length = n ∧ kinds.length = m ∧ (∀ o ∈ ops, o.length = many) ∧ (∀ o ∈ ops, ∀ x ∈ o, x < many) ∧ (∀ k ∈ kinds, ∀ n, k = some n → n ≤ 9) ∧
    s[q]? = some (.lst (ops.map opD)) ∧ s[q + 1]? = some (.lst (kinds.map kD))
  pq : p < q
  fr : Frm p s0 s
  ql : s0.length ≤ q
theorem Two.step {p q many n m s0 s s'} (h : Two p q many n m s0 s) (f : Frm p s s') : Two p q many n m s0 s' := by
  obtain ⟨⟨ops, kinds, h1, h2, h3, h4, h5, h6, h7⟩, hpq, hf, hq⟩ := h
  exact ⟨⟨ops, kinds, h1, h2, h3, h4, h5, f.get h6 (by omega), f.get h7 (by omega)⟩, hpq, hf.trans f, hq⟩
theorem Two.isO1 {p q many n m s0 s} (h : Two p q many n m s0 s) : isLstO s (.obj q) = true := by
  obtain ⟨⟨ops, kinds, h1, h2, h3, h4, h5, h6, h7⟩, _⟩ := h
  exact isLstO_obj h6
theorem Two.isO2 {p q many n m s0 s} (h : Two p q many n m s0 s) : isLstO s (.obj (q + 1)) = true := by
  obtain ⟨⟨ops, kinds, h1, h2, h3, h4, h5, h6, h7⟩, _⟩ := h
  exact isLstO_obj h7
theorem frm_set {p q : Nat} {s0 s : S} (h : Frm p s0 s) (hq : s0.length ≤ q) (o : O) : Frm p s0 (s.set q o) :=
  ⟨by simpa using h.1, fun i hi hp => by rw [List.getElem?_set_ne (by omega)]; exact h.2 i hi hp⟩
/-- an operation is put behind -/
theorem Two.add1 {p q many n m s0 s f} (h : Two p q many n m s0 s) (hp : Pen p f s) (hn : n < 1000) {l : List Nat} (hl : l.length = many) (hx : ∀ x ∈ l, x < many) :
    ∃ s', fAppend (.obj q) (opD l) s = .ok .non s' ∧ Two p q many (n + 1) m s0 s' ∧ Pen p f s' := by
  obtain ⟨⟨ops, kinds, h1, h2, h3, h4, h5, h6, h7⟩, hpq, hf, hq⟩ := h
  refine ⟨_, fAppend_obj h6 (by simp; omega) _, ⟨⟨ops ++ [l], kinds, by simp [h1], h2, ?_, ?_, h5, ?_, ?_⟩, hpq, frm_set hf hq _, hq⟩, hp.set (by omega) _⟩
  · intro o ho
    rcases List.mem_append.1 ho with ho | ho
    · exact h3 o ho
    · simp at ho; subst ho; exact hl
  · intro o ho
    rcases List.mem_append.1 ho with ho | ho
    · exact h4 o ho
    · simp at ho; subst ho; exact hx
  · rw [getset0 h6]; simp
  · rw [List.getElem?_set_ne (by omega)]; exact h7
/-- a kind -/
def KD (d : D) : Prop := ∃ k : Option Nat, d = kD k ∧ ∀ n, k = some n → n ≤ 9
theorem Two.add2 {p q many n m s0 s f} (h : Two p q many n m s0 s) (hp : Pen p f s) (hn : m < 1000) {d : D} (hd : KD d) :
    ∃ s', fAppend (.obj (q + 1)) d s = .ok .non s' ∧ Two p q many n (m + 1) s0 s' ∧ Pen p f s' := by
  obtain ⟨⟨ops, kinds, h1, h2, h3, h4, h5, h6, h7⟩, hpq, hf, hq⟩ := h
  obtain ⟨k, rfl, hk⟩ := hd
  refine ⟨_, fAppend_obj h7 (by simp; omega) _, ⟨⟨ops, kinds ++ [k], h1, by simp [h2], h3, h4, ?_, ?_, ?_⟩, hpq, frm_set hf (by omega) _, hq⟩, hp.set (by omega) _⟩
  · intro o ho
    rcases List.mem_append.1 ho with ho | ho
    · exact h5 o ho
    · simp at ho; subst ho; exact hk
  · rw [List.getElem?_set_ne (by omega)]; exact h6
  · rw [getset0 h7]; simp
theorem Two.start {p f : Nat} {s0 s : S} (many : Nat) (hp : Pen p f s) (hf : Frm p s0 s) (e : S) (he : e = s ++ [.lst [], .lst []]) : Two p s.length many 0 0 s0 e ∧ Pen p f e := by
  subst he
  exact ⟨⟨⟨[], [], rfl, rfl, by simp, by simp, by simp, by simp, by simp⟩, hp.lt, hf.trans (Frm.app _), hf.1⟩, hp.app _⟩
theorem Two.done {p q many n s0 s} (h : Two p q many n n s0 s) (h1 : 1 ≤ many) (h6 : many ≤ 6) (n1 : 1 ≤ n) (n6 : n ≤ 6) {st : Nat} (hs : st < many) :
    ∃ (y : Sys) (os ks : List D), y.Ok ∧ s[q]? = some (.lst os) ∧ s[q + 1]? = some (.lst ks) ∧ D.tup [nD many, nD st, .tup os, .tup ks] = y.D := by
  obtain ⟨⟨ops, kinds, e1, e2, e3, e4, e5, e6, e7⟩, _⟩ := h
  exact ⟨⟨many, st, ops, kinds⟩, _, _, ⟨h1, h6, hs, by simp; omega, by simp; omega, e3, e4, by simp; omega, e5⟩, e6, e7, rfl⟩
end VL
namespace VL
open PySem PySem.Spec PyProof.Rows L2

theorem kd_non : KD .non := ⟨none, rfl, by simp⟩
theorem kd_int {i : Int} (h0 : 0 ≤ i) (h9 : i ≤ 9) : KD (.int i) := ⟨some i.toNat, by simp only [kD]; congr 1; omega, by simp; omega⟩
def okK : D → Bool
  | .non => true
  | .int i => decide (0 ≤ i ∧ i ≤ 9)
  | _ => false
theorem kd_ok {d : D} (h : okK d = true) : KD d := by
  cases d with
  | non => exact kd_non
  | int i => exact kd_int (of_decide_eq_true h).1 (of_decide_eq_true h).2
  | _ => cases h
theorem kd_mem {d : D} {xs : List D} (h : d ∈ xs) (hx : xs.all okK = true) : KD d := kd_ok (List.all_eq_true.1 hx d h)
/-- what a maker of systems gives -/
def SysQ (p f : Nat) (s0 : S) : D → S → Prop := fun d s' => ∃ y : Sys, y.Ok ∧ d = y.D ∧ Pen p f s' ∧ Frm p s0 s'
theorem wp_drawn {p f : Nat} {s : S} (h : Pen p (f + 60) s) : wp (m__law_drawn [.obj p] s) (SysQ p f s) := by
  unfold m__law_drawn
  rw [mFn_eq]
  simp [initE]
  refine (wp_drawI (f := f + 59) (n := 6) h rfl (by omega) (by omega)).mono fun d s1 ⟨k1, e, hk1, hp1, hf1⟩ => ?_
  subst e
  simp
  refine (wp_drawI (f := f + 58) (n := 5) hp1 rfl (by omega) (by omega)).mono fun d s2 ⟨k2, e, hk2, hp2, hf2⟩ => ?_
  subst e
  obtain ⟨n1, e1, b1⟩ : ∃ n : Nat, (1 : Int) + k1 = n ∧ n = k1 + 1 := ⟨k1 + 1, by omega, rfl⟩
  obtain ⟨n2, e2, b2⟩ : ∃ n : Nat, (1 : Int) + k2 = n ∧ n = k2 + 1 := ⟨k2 + 1, by omega, rfl⟩
  obtain ⟨t1, t2⟩ := Two.start n1 hp2 (hf1.trans hf2) _ rfl
  simp (disch := omega) [e1, e2]
  refine wp_loop (fun ds ρ s' => ∃ (j : Nat) (x y : Option D), ρ = [some (.obj p), some (.int n1), some (.int n2), some (.obj s2.length), some (.obj (s2.length + 1)), x, y] ∧
    j + ds.length = n2 ∧ Two p s2.length n1 j j s s' ∧ Pen p (f + 1 + ds.length * 10) s') ?_ ?_ _ _ _ ⟨0, _, _, rfl, by simp, t1, t2.mono (by simp; omega)⟩
  · rintro d ds ρ s' ⟨j, x, y, rfl, hj, ht, hp⟩
    have hO1 := ht.isO1
    simp (disch := omega) [hO1]
    refine (wp_rolls (m := n1) (f := f + 2 + ds.length * 10) (rngD 0 n1) ?_ (by omega) (by omega) (hp.mono (by simp; omega))).mono ?_
    · intro d s Q h
      simpa using h
    rintro ys s3 ⟨l, rfl, hl, hx, hp3, hf3⟩
    obtain ⟨s4, a4, ht4, hp4⟩ := (ht.step hf3).add1 hp3 (by simp at hj; omega) (by simpa using hl) hx
    have hO2 := ht4.isO2
    rw [opD] at a4
    simp [hO2, a4]
    refine (wp_pick (f := f + 1 + ds.length * 10) (hp4.mono (by omega)) (by simp) (by simp)).mono ?_
    rintro d5 s5 ⟨hd5, hp5, hf5⟩
    obtain ⟨s6, a6, ht6, hp6⟩ := (ht4.step hf5).add2 hp5 (by simp at hj; omega) (d := d5) (kd_mem hd5 (by decide))
    simp [a6]
    exact ⟨j + 1, by simp at hj; omega, ht6, hp6⟩
  · rintro ρ s' ⟨j, x, y, rfl, hj, ht, hp⟩
    simp
    refine (wp_drawI (f := f) (n := n1) (by simpa using hp) rfl (by omega) (by omega)).mono ?_
    rintro d s3 ⟨k3, rfl, hk3, hp3, hf3⟩
    simp at hj
    subst hj
    obtain ⟨y, os, ks, hy, q1, q2, e⟩ := (ht.step hf3).done (by omega) (by omega) (by omega) (by omega) hk3
    simp [fTuple_obj _ q1, fTuple_obj _ q2]
    exact ⟨y, hy, e, hp3, (ht.step hf3).fr⟩
theorem wp_cells {p f : Nat} {s : S} (h : Pen p (f + 60) s) : wp (m__law_cells [.obj p] s) (SysQ p f s) := by
  unfold m__law_cells
  rw [mFn_eq]
  simp [initE]
  refine (wp_pick (f := f + 59) h (by simp) (by simp)).mono ?_
  rintro d1 s1 ⟨hd1, hp1, hf1⟩
  obtain ⟨hi, lo, rfl, i1, i2, i3, i4, i5⟩ : ∃ hi lo : Nat, d1 = .tup [.int hi, .int lo] ∧ 1 ≤ hi ∧ hi ≤ 6 ∧ 1 ≤ lo ∧ lo ≤ 4 ∧ hi * lo ≤ 6 := by
    simp only [List.mem_cons, List.not_mem_nil, or_false] at hd1
    rcases hd1 with rfl | rfl | rfl | rfl | rfl
    · exact ⟨2, 2, rfl, by decide⟩
    · exact ⟨2, 3, rfl, by decide⟩
    · exact ⟨3, 2, rfl, by decide⟩
    · exact ⟨1, 4, rfl, by decide⟩
    · exact ⟨6, 1, rfl, by decide⟩
  have i6 : 1 ≤ hi * lo := Nat.mul_pos i1 i3
  obtain ⟨n, en, bn⟩ : ∃ n : Nat, (hi : Int) * lo = n ∧ n = hi * lo := ⟨hi * lo, by simp, rfl⟩
  rw [← bn] at i5 i6
  simp
  refine (wp_pick (f := f + 58) (Pen.app hp1 _) (by simp) (by simp)).mono ?_
  rintro d2 s2 ⟨hd2, hp2, hf2⟩
  obtain ⟨a, b, rfl, ha, hb⟩ : ∃ a b : D, d2 = .tup [a, b] ∧ KD a ∧ KD b := by
    simp only [List.mem_cons, List.not_mem_nil, or_false] at hd2
    rcases hd2 with rfl | rfl | rfl | rfl <;> exact ⟨_, _, rfl, kd_ok (by decide), kd_ok (by decide)⟩
  obtain ⟨t1, t2⟩ := Two.start n hp1 hf1 _ rfl
  refine (wp_drawI (f := f + 57) (n := 6) hp2 rfl (by omega) (by omega)).mono ?_
  rintro d s3 ⟨k3, rfl, hk3, hp3, hf3⟩
  have t3 := t1.step (hf2.trans hf3)
  obtain ⟨n2, e2, b2⟩ : ∃ n : Nat, (1 : Int) + k3 = n ∧ n = k3 + 1 := ⟨k3 + 1, by omega, rfl⟩
  simp (disch := omega) [e2]
  refine wp_loop (fun ds ρ s' => ∃ (j : Nat) (x y z u v : Option D), ρ = [some (.obj p), some (.int hi), some (.int lo), some (.obj s1.length), some (.obj (s1.length + 1)), some (.tup [a, b]), x, y, z, u, v] ∧
    j + ds.length = n2 ∧ Two p s1.length n j j s s' ∧ Pen p (f + 1 + ds.length * 8) s') ?_ ?_ _ _ _ ⟨0, _, _, _, _, _, rfl, by simp, t3, hp3.mono (by simp; omega)⟩
  · rintro d ds ρ s' ⟨j, x, y, z, u, v, rfl, hj, ht, hp⟩
    simp at hj
    simp (disch := omega)
    refine (wp_drawI (f := f + 8 + ds.length * 8) (n := 2) (hp.mono (by simp; omega)) rfl (by omega) (by omega)).mono ?_
    rintro d s4 ⟨k4, rfl, hk4, hp4, hf4⟩
    have ht4 := ht.step hf4
    simp
    have key : ∀ v : Nat, ∀ s5, (k4 = 0 → v < hi) → (k4 = 1 → v < lo) → Frm p s4 s5 → Pen p (f + 2 + ds.length * 8) s5 → wp ((llc (.one 10) mYes
        (mIf (mB (mBin opEq (mVar 7) (mC (.int 0)))) (mBin opAdd (mBin opMul (mVar 8) (mVar 2)) (mBin opMod (mVar 10) (mVar 2))) (mBin opAdd (mBin opMul (mBin opDiv (mVar 10) (mVar 2)) (mVar 2)) (mVar 8)))
        [some (.obj p), some (.int hi), some (.int lo), some (.obj s1.length), some (.obj (s1.length + 1)), some (.tup [a, b]), some d, some (.int k4), some (.int v), u, none] (rngD 0 n) [] s5)) fun ys s6 => s6 = s5 ∧ ∃ l : List Nat, ys = l.map nD ∧ l.length = n ∧ ∀ x ∈ l, x < n := by
      intro v s5 q1 q2 q3 q4
      refine wp_nums n ?_ fun l h1 h2 => ⟨rfl, l, rfl, by simpa using h1, h2⟩
      intro d hd
      obtain ⟨k, hk, rfl⟩ := rngD_mem hd
      obtain rfl | rfl : k4 = 0 ∨ k4 = 1 := by omega
      · have q1 := q1 rfl
        refine ⟨v * lo + k % lo, ?_, ?_⟩
        · have := Nat.mod_lt k (by omega : lo > 0)
          have := Nat.mul_le_mul_right lo (by omega : v + 1 ≤ hi)
          rw [Nat.add_mul] at this
          omega
        · simp (disch := omega)
      · have q2 := q2 rfl
        refine ⟨k / lo * lo + v, ?_, ?_⟩
        · have h1 : k / lo < hi := (Nat.div_lt_iff_lt_mul (by omega)).2 (by omega)
          have := Nat.mul_le_mul_right lo (by omega : k / lo + 1 ≤ hi)
          rw [Nat.add_mul] at this
          omega
        · have h1 : k / lo ≤ k := Nat.div_le_self _ _
          have h2 : (k : Int) / lo = ((k / lo : Nat) : Int) := by simp
          generalize k / lo = q at h1 h2 ⊢
          simp (disch := omega) [h2]
    obtain rfl | rfl : k4 = 0 ∨ k4 = 1 := by omega
    all_goals
      simp [en]
      refine (wp_drawI (f := f + 2 + ds.length * 8) (n := _) (hp4.mono (by omega)) rfl (by omega) (by omega)).mono ?_
      rintro d5 s5 ⟨k5, rfl, hk5, hp5, hf5⟩
      refine (key k5 s5 (by omega) (by omega) hf5 hp5).mono ?_
      rintro ys s6 ⟨rfl, l, rfl, hl, hx⟩
      have ht5 := ht4.step hf5
      obtain ⟨s7, a7, ht7, hp7⟩ := ht5.add1 hp5 (by omega) hl hx
      rw [opD] at a7
      have hO2 := ht7.isO2
    · obtain ⟨s8, a8, ht8, hp8⟩ := ht7.add2 hp7 (by omega) ha
      simp [a7, a8, hO2, ht5.isO1]
      exact ⟨j + 1, by omega, ht8, hp8.mono (by omega)⟩
    · obtain ⟨s8, a8, ht8, hp8⟩ := ht7.add2 hp7 (by omega) hb
      simp [a7, a8, hO2, ht5.isO1]
      exact ⟨j + 1, by omega, ht8, hp8.mono (by omega)⟩
  · rintro ρ s' ⟨j, x, y, z, u, v, rfl, hj, ht, hp⟩
    simp (disch := omega) [en]
    refine (wp_drawI (f := f) (n := n) (by simpa using hp) rfl (by omega) (by omega)).mono ?_
    rintro d s3 ⟨k3, rfl, hk3, hp3, hf3⟩
    simp at hj
    subst hj
    obtain ⟨y, os, ks, hy, q1, q2, e⟩ := (ht.step hf3).done (by omega) (by omega) (by omega) (by omega) hk3
    simp [fTuple_obj _ q1, fTuple_obj _ q2]
    exact ⟨y, hy, e, hp3, (ht.step hf3).fr⟩
theorem marks_turn {r k : Nat} {mk : Int} {b : Bool} {a0 a1 a2 a3 a8 a9 a10 a11 : Option D} {s : S} {K : Fl → S → Prop} (hk : k < 4) (hm : mk = 1 ∨ mk = 2 ∨ mk = 3) (hO : isLstO s (.obj r) = true)
    (h : ∀ (x y z : Option D) (v : Nat), v < 4 → wp (fAppend (.obj r) (.int (v : Int)) s) fun _ s1 => K (.nx [a0, a1, a2, a3, some (.int mk), some (.bl b), some (.obj r), some (.int (k : Int)), x, y, z, a11]) s1) :
    wp ((mSeq (mAsg (mLc (mSrc (mTup (mCons (mC (.int 1)) (mCons (mC (.int 2)) mNil)))) (.one 11) (mB (mBin opEq (mBin opMod (mBin opDiv (mVar 7) (mVar 11)) (mC (.int 2))) (mC (.int 1)))) (mVar 11) [11]) (gN 8))
(mSeq (mAsg (mLc (mSrc (mTup (mCons (mC (.int 1)) (mCons (mC (.int 2)) mNil)))) (.one 11) (mB (mBin opEq (mBin opMod (mBin opDiv (mVar 4) (mVar 11)) (mC (.int 2))) (mC (.int 1)))) (mVar 11) [11]) (gN 9))
(mSeq (mAsg (mLcF finL (mSrc (mTup (mCons (mC (.int 1)) (mCons (mC (.int 2)) mNil)))) (.one 11) (mB (mBin opIn (mVar 11) (mBin opAdd (mVar 8) (mVar 9)))) (mVar 11) [11]) (gN 10))
(mDrop (mAppend (mVar 6) (mIf (mB (mVar 5)) (mCall fSum (mCons (mVar 10) mNil)) (mCall fSum (mCons (mLc (mSrc (mVar 8)) (.one 11) (mB (mBin opNotIn (mVar 11) (mVar 9))) (mVar 11) [11]) mNil)))))))) [a0, a1, a2, a3, some (.int mk), some (.bl b), some (.obj r), some (.int (k : Int)), a8, a9, a10, a11] s) K := by
  obtain rfl | rfl | rfl | rfl : k = 0 ∨ k = 1 ∨ k = 2 ∨ k = 3 := by omega
  all_goals
    rcases hm with rfl | rfl | rfl
    all_goals
      cases b
      all_goals
        simp [llc_cons, llc_nil, hO]
        first
          | exact h _ _ _ 0 (by decide)
          | exact h _ _ _ 1 (by decide)
          | exact h _ _ _ 2 (by decide)
          | exact h _ _ _ 3 (by decide)
end VL
namespace VL
open PySem PySem.Spec PyProof.Rows L2

theorem Two.setR {p q many n m s0 s r} (h : Two p q many n m s0 s) (h1 : r ≠ q) (h2 : r ≠ q + 1) (h3 : s0.length ≤ r) (o : O) : Two p q many n m s0 (s.set r o) := by
  obtain ⟨⟨ops, kinds, e1, e2, e3, e4, e5, e6, e7⟩, hpq, hf, hq⟩ := h
  exact ⟨⟨ops, kinds, e1, e2, e3, e4, e5, by rw [List.getElem?_set_ne h1]; exact e6, by rw [List.getElem?_set_ne h2]; exact e7⟩, hpq, frm_set hf h3 _, hq⟩
theorem Two.len {p q many n m s0 s} (h : Two p q many n m s0 s) : q + 1 < s.length := by
  obtain ⟨⟨ops, kinds, e1, e2, e3, e4, e5, e6, e7⟩, _⟩ := h
  exact (List.getElem?_eq_some_iff.1 e7).1
theorem wp_marks {p f : Nat} {s : S} (h : Pen p (f + 60) s) : wp (m__law_marks [.obj p] s) (SysQ p f s) := by
  unfold m__law_marks
  rw [mFn_eq]
  obtain ⟨t1, t2⟩ := Two.start 4 h (Frm.refl p s) _ rfl
  simp [initE]
  refine (wp_drawI (f := f + 59) (n := 5) t2 rfl (by omega) (by omega)).mono ?_
  rintro d s1 ⟨k1, rfl, hk1, hp1, hf1⟩
  obtain ⟨n2, e2, b2⟩ : ∃ n : Nat, (1 : Int) + k1 = n ∧ n = k1 + 1 := ⟨k1 + 1, by omega, rfl⟩
  simp (disch := omega) [e2]
  refine wp_loop (fun ds ρ s' => ∃ (j : Nat) (x3 x4 x5 x6 x7 x8 x9 x10 x11 : Option D), ρ = [some (.obj p), some (.obj s.length), some (.obj (s.length + 1)), x3, x4, x5, x6, x7, x8, x9, x10, x11] ∧
    j + ds.length = n2 ∧ Two p s.length 4 j j s s' ∧ Pen p (f + 1 + ds.length * 8) s') ?_ ?_ _ _ _ ⟨0, _, _, _, _, _, _, _, _, _, rfl, by simp, t1.step hf1, hp1.mono (by simp; omega)⟩
  · rintro d ds ρ s' ⟨j, x3, x4, x5, x6, x7, x8, x9, x10, x11, rfl, hj, ht, hp⟩
    simp at hj
    simp
    refine (wp_pick (f := f + 8 + ds.length * 8) (hp.mono (by simp; omega)) (by simp) (by simp)).mono ?_
    rintro d4 s4 ⟨hd4, hp4, hf4⟩
    refine (wp_drawI (f := f + 7 + ds.length * 8) (n := 4) (hp4.mono (by omega)) rfl (by omega) (by omega)).mono ?_
    rintro d5 s5 ⟨k5, rfl, hk5, hp5, hf5⟩
    have ht5 := (ht.step hf4).step hf5
    obtain ⟨mk, rfl, hmk⟩ : ∃ mk : Int, d4 = .int mk ∧ (mk = 1 ∨ mk = 2 ∨ mk = 3) := by
      simp only [List.mem_cons, List.not_mem_nil, or_false] at hd4
      rcases hd4 with rfl | rfl | rfl
      · exact ⟨_, rfl, .inl rfl⟩
      · exact ⟨_, rfl, .inr (.inl rfl)⟩
      · exact ⟨_, rfl, .inr (.inr rfl)⟩
    rw [opGt_int, wp_ok]
    refine wp_loop (fun ds2 ρ s' => ∃ (l : List Nat) (y7 y8 y9 y10 y11 : Option D), ρ = [some (.obj p), some (.obj s.length), some (.obj (s.length + 1)), some d, some (.int mk), some (.bl (decide ((0 : Int) < k5))), some (.obj s5.length), y7, y8, y9, y10, y11] ∧
      l.length + ds2.length = 4 ∧ (∀ x ∈ l, x < 4) ∧ (∀ d ∈ ds2, ∃ k : Nat, k < 4 ∧ d = .int k) ∧ s'[s5.length]? = some (.lst (l.map nD)) ∧ Two p s.length 4 j j s s' ∧ Pen p (f + 7 + ds.length * 8) s') ?_ ?_ _ _ _ ⟨[], _, _, _, _, _, rfl, by simp, by simp, fun d hd => rngD_mem hd, by simp, ht5.step (Frm.app _), hp5.app _⟩
    · rintro d6 ds6 ρ s6 ⟨l, y7, y8, y9, y10, y11, rfl, hl, hx, hds, hs, ht6, hp6⟩
      obtain ⟨k, hk, rfl⟩ := hds d6 (List.mem_cons_self ..)
      simp only [gN_eq, wp_ok, List.set_cons_succ, List.set_cons_zero]
      refine marks_turn hk hmk (isLstO_obj hs) fun x y z v hv => ?_
      simp at hl
      rw [fAppend_obj hs (by simp; omega)]
      refine ⟨l ++ [v], _, _, _, _, _, rfl, by simp; omega, ?_, fun d hd => hds d (List.mem_cons_of_mem _ hd), by rw [getset0 hs]; simp, ?_, hp6.set (by have := hp5.lt; omega) _⟩
      · intro x hx2
        rcases List.mem_append.1 hx2 with h | h
        · exact hx x h
        · simp at h; omega
      · have := ht5.len
        exact ht6.setR (by omega) (by omega) (by omega) _
    · rintro ρ s6 ⟨l, y7, y8, y9, y10, y11, rfl, hl, hx, hds, hs, ht6, hp6⟩
      obtain ⟨s7, a7, ht7, hp7⟩ := ht6.add1 hp6 (by omega) (by simpa using hl) hx
      rw [opD] at a7
      have hO2 := ht7.isO2
      simp [ht6.isO1, fTuple_obj _ hs, a7, hO2]
      refine (wp_pick (f := f + 1 + ds.length * 8) (hp7.mono (by omega)) (by simp) (by simp)).mono ?_
      rintro d8 s8 ⟨hd8, hp8, hf8⟩
      obtain ⟨s9, a9, ht9, hp9⟩ := (ht7.step hf8).add2 hp8 (by omega) (d := d8) (kd_mem hd8 (by rcases hmk with rfl | rfl | rfl <;> decide))
      simp [a9]
      trace_state
      exact ⟨j + 1, by omega, ht9, hp9⟩
  · rintro ρ s' ⟨j, x3, x4, x5, x6, x7, x8, x9, x10, x11, rfl, hj, ht, hp⟩
    simp
    refine (wp_drawI (f := f) (n := 4) (by simpa using hp) rfl (by omega) (by omega)).mono ?_
    rintro d s3 ⟨k3, rfl, hk3, hp3, hf3⟩
    simp at hj
    subst hj
    obtain ⟨y, os, ks, hy, q1, q2, e⟩ := (ht.step hf3).done (by omega) (by omega) (by omega) (by omega) hk3
    simp [fTuple_obj _ q1, fTuple_obj _ q2]
    exact ⟨y, hy, e, hp3, (ht.step hf3).fr⟩
end VL
namespace VL
open PySem PySem.Spec PyProof.Rows L2

theorem wp_turns {p f : Nat} {s : S} (h : Pen p (f + 60) s) : wp (m__law_turns [.obj p] s) (SysQ p f s) := by
  unfold m__law_turns
  rw [mFn_eq]
  simp [initE]
  refine (wp_drawI (f := f + 59) (n := 5) h rfl (by omega) (by omega)).mono ?_
  rintro d s1 ⟨k1, rfl, hk1, hp1, hf1⟩
  obtain ⟨n, e1, b1⟩ : ∃ n : Nat, (2 : Int) + k1 = n ∧ n = k1 + 2 := ⟨k1 + 2, by omega, rfl⟩
  obtain ⟨t1, t2⟩ := Two.start n hp1 hf1 _ rfl
  simp (disch := omega) [e1]
  refine (wp_drawI (f := f + 58) (n := 5) t2 rfl (by omega) (by omega)).mono ?_
  rintro d s2 ⟨k2, rfl, hk2, hp2, hf2⟩
  obtain ⟨n2, e2, b2⟩ : ∃ n : Nat, (1 : Int) + k2 = n ∧ n = k2 + 1 := ⟨k2 + 1, by omega, rfl⟩
  simp (disch := omega) [e2]
  refine wp_loop (fun ds ρ s' => ∃ (j : Nat) (x4 x5 x6 x7 x8 : Option D), ρ = [some (.obj p), some (.int n), some (.obj s1.length), some (.obj (s1.length + 1)), x4, x5, x6, x7, x8] ∧
    j + ds.length = n2 ∧ Two p s1.length n j j s s' ∧ Pen p (f + 1 + ds.length * 8) s') ?_ ?_ _ _ _ ⟨0, _, _, _, _, _, rfl, by simp, t1.step hf2, hp2.mono (by simp; omega)⟩
  · rintro d ds ρ s' ⟨j, x4, x5, x6, x7, x8, rfl, hj, ht, hp⟩
    simp at hj
    simp
    refine (wp_drawI (f := f + 8 + ds.length * 8) (n := 4) (hp.mono (by simp; omega)) rfl (by omega) (by omega)).mono ?_
    rintro d4 s4 ⟨k4, rfl, hk4, hp4, hf4⟩
    refine (wp_drawI (f := f + 7 + ds.length * 8) (n := n) (hp4.mono (by omega)) rfl (by omega) (by omega)).mono ?_
    rintro d5 s5 ⟨k5, rfl, hk5, hp5, hf5⟩
    have ht5 := (ht.step hf4).step hf5
    have hO1 := ht5.isO1
    simp (disch := omega)
    refine wp_nums n ?_ fun l0 hl0 hx0 => ?_
    · intro d hd
      obtain ⟨k, hk, rfl⟩ := rngD_mem hd
      refine ⟨(k + k5) % n, Nat.mod_lt _ (by omega), ?_⟩
      simp (disch := omega)
    obtain rfl | rfl | rfl | rfl : k4 = 0 ∨ k4 = 1 ∨ k4 = 2 ∨ k4 = 3 := by omega
    · simp (disch := omega)
      have hl : l0.length = n := by simpa using hl0
      have hx := hx0
      generalize l0 = l at hl hx
      skip
      obtain ⟨s7, a7, ht7, hp7⟩ := ht5.add1 hp5 (by omega) hl hx
      have a7 : fAppend (.obj s1.length) (.tup (l.map fun (x : Nat) => D.int (x : Int))) s5 = .ok .non s7 := a7
      have hO2 := ht7.isO2
      simp [hO1, a7, hO2]
      refine (wp_pick (f := f + 1 + ds.length * 8) (hp7.mono (by omega)) (by simp) (by simp)).mono ?_
      rintro d8 s8 ⟨hd8, hp8, hf8⟩
      obtain ⟨s9, a9, ht9, hp9⟩ := (ht7.step hf8).add2 hp8 (by omega) (d := d8) (kd_mem hd8 (by decide))
      simp [a9]
      exact ⟨j + 1, by omega, ht9, hp9⟩
    · simp (disch := omega)
      refine wp_nums n ?_ fun l hl hx => ?_
      · intro d hd
        obtain ⟨k, hk, rfl⟩ := rngD_mem hd
        refine ⟨max k k5, by omega, ?_⟩
        simp (disch := omega)
        split <;> omega
      · have hl : l.length = n := by simpa using hl
        obtain ⟨s7, a7, ht7, hp7⟩ := ht5.add1 hp5 (by omega) hl hx
        have a7 : fAppend (.obj s1.length) (.tup (l.map fun (x : Nat) => D.int (x : Int))) s5 = .ok .non s7 := a7
        have hO2 := ht7.isO2
        simp [hO1, a7, hO2]
        refine (wp_pick (f := f + 1 + ds.length * 8) (hp7.mono (by omega)) (by simp) (by simp)).mono ?_
        rintro d8 s8 ⟨hd8, hp8, hf8⟩
        obtain ⟨s9, a9, ht9, hp9⟩ := (ht7.step hf8).add2 hp8 (by omega) (d := d8) (kd_mem hd8 (by decide))
        simp [a9]
        exact ⟨j + 1, by omega, ht9, hp9⟩
    · simp (disch := omega)
      refine wp_nums n ?_ fun l hl hx => ?_
      · intro d hd
        obtain ⟨k, hk, rfl⟩ := rngD_mem hd
        exact ⟨k5, hk5, by simp⟩
      · have hl : l.length = n := by simpa using hl
        obtain ⟨s7, a7, ht7, hp7⟩ := ht5.add1 hp5 (by omega) hl hx
        have a7 : fAppend (.obj s1.length) (.tup (l.map fun (x : Nat) => D.int (x : Int))) s5 = .ok .non s7 := a7
        have hO2 := ht7.isO2
        simp [hO1, a7, hO2]
        refine (wp_pick (f := f + 1 + ds.length * 8) (hp7.mono (by omega)) (by simp) (by simp)).mono ?_
        rintro d8 s8 ⟨hd8, hp8, hf8⟩
        obtain ⟨s9, a9, ht9, hp9⟩ := (ht7.step hf8).add2 hp8 (by omega) (d := d8) (kd_mem hd8 (by decide))
        simp [a9]
        exact ⟨j + 1, by omega, ht9, hp9⟩
    · simp (disch := omega)
      rw [rngD_0]
      have hl : (List.range n).length = n := by simp
      have hx : ∀ x ∈ List.range n, x < n := fun x hx => List.mem_range.1 hx
      generalize List.range n = l at hl hx
      skip
      obtain ⟨s7, a7, ht7, hp7⟩ := ht5.add1 hp5 (by omega) hl hx
      have a7 : fAppend (.obj s1.length) (.tup (l.map fun (x : Nat) => D.int (x : Int))) s5 = .ok .non s7 := a7
      have hO2 := ht7.isO2
      simp [hO1, a7, hO2]
      refine (wp_pick (f := f + 1 + ds.length * 8) (hp7.mono (by omega)) (by simp) (by simp)).mono ?_
      rintro d8 s8 ⟨hd8, hp8, hf8⟩
      obtain ⟨s9, a9, ht9, hp9⟩ := (ht7.step hf8).add2 hp8 (by omega) (d := d8) (kd_mem hd8 (by decide))
      simp [a9]
      exact ⟨j + 1, by omega, ht9, hp9⟩
  · rintro ρ s' ⟨j, x4, x5, x6, x7, x8, rfl, hj, ht, hp⟩
    simp
    refine (wp_drawI (f := f) (n := n) (by simpa using hp) rfl (by omega) (by omega)).mono ?_
    rintro d s3 ⟨k3, rfl, hk3, hp3, hf3⟩
    simp at hj
    subst hj
    obtain ⟨y, os, ks, hy, q1, q2, e⟩ := (ht.step hf3).done (by omega) (by omega) (by omega) (by omega) hk3
    simp [fTuple_obj _ q1, fTuple_obj _ q2]
    exact ⟨y, hy, e, hp3, (ht.step hf3).fr⟩
end VL
namespace VL
open PySem PySem.Spec PyProof.Rows L2

theorem SysQ.step {p f f' : Nat} {s0 s : S} {d : D} {s' : S} (h : SysQ p f s d s') (hf : Frm p s0 s) (hk : f' ≤ f) : SysQ p f' s0 d s' := by
  obtain ⟨y, h1, h2, h3, h4⟩ := h
  exact ⟨y, h1, h2, h3.mono hk, hf.trans h4⟩
theorem wp_system {p f : Nat} {s : S} (h : Pen p (f + 100) s) : wp (m__law_system [.obj p] s) (SysQ p f s) := by
  unfold m__law_system
  rw [mFn_eq, wp_fin, mSeq_eq, wp_bnd]
  refine wp.mono (Q := fun fl s1 => ∃ k1 : Nat, k1 < 6 ∧ fl = .nx [some (.obj p), some (.int (k1 : Int)), none, none, none, none, none, none, none, none] ∧ Pen p (f + 99) s1 ∧ Frm p s s1) ?_ ?_
  · simp [initE]
    refine (wp_drawI (f := f + 99) (n := 6) h rfl (by omega) (by omega)).mono ?_
    rintro d s1 ⟨k1, rfl, hk1, hp1, hf1⟩
    exact ⟨k1, hk1, rfl, hp1, hf1⟩
  rintro fl s1 ⟨k1, hk1, rfl, hp1, hf1⟩
  rw [seqF_nx, mSeq_eq, wp_bnd]
  by_cases hz : k1 = 0
  · subst hz
    simp
    exact (wp_drawn (f := f) (hp1.mono (by omega))).mono fun d s' h => h.step hf1 (by omega)
  refine wp.of (a := .nx [some (.obj p), some (.int (k1 : Int)), none, none, none, none, none, none, none, none]) (s := s1) (by simp [hz]) ?_
  rw [seqF_nx, mSeq_eq, wp_bnd]
  refine wp.mono (Q := fun fl s2 => ∃ d2, fl = .nx [some (.obj p), some (.int (k1 : Int)), some d2, none, none, none, none, none, none, none] ∧ SysQ p (f + 39) s d2 s2) ?_ ?_
  · have made : wp (if (k1 : Int) < 3 then m__law_cells [.obj p] s1 else if (k1 : Int) = 3 then m__law_marks [.obj p] s1 else m__law_turns [.obj p] s1) (SysQ p (f + 39) s) := by
      split
      · exact (wp_cells (f := f + 39) hp1).mono fun d s' h => h.step hf1 (by omega)
      · split
        · exact (wp_marks (f := f + 39) hp1).mono fun d s' h => h.step hf1 (by omega)
        · exact (wp_turns (f := f + 39) hp1).mono fun d s' h => h.step hf1 (by omega)
    simp
    by_cases h3 : (k1 : Int) < 3
    · rw [if_pos h3] at made ⊢
      simp
      exact made
    · rw [if_neg h3] at made ⊢
      by_cases h4 : (k1 : Int) = 3
      · rw [if_pos h4] at made ⊢
        simp
        exact made
      · rw [if_neg h4] at made ⊢
        simp
        exact made
  rintro fl s2 ⟨d2, rfl, y, hy, rfl, hp2, hf2⟩
  rw [seqF_nx, mSeq_eq, wp_bnd]
  refine wp.mono (Q := fun fl s3 => (fl = .ret y.D ∧ Pen p f s3 ∧ Frm p s s3) ∨ (fl = .nx [some (.obj p), some (.int (k1 : Int)), some y.D, none, none, none, none, none, none, none] ∧ Pen p (f + 38) s3 ∧ Frm p s s3)) ?_ ?_
  · simp
    refine (wp_drawI (f := f + 38) (n := 3) hp2 rfl (by omega) (by omega)).mono ?_
    rintro d s3 ⟨k3, rfl, hk3, hp3, hf3⟩
    by_cases hk : 0 < k3
    · simp [hk]
      exact ⟨hp3.mono (by omega), hf2.trans hf3⟩
    · simp [hk]
      exact ⟨hp3, hf2.trans hf3⟩
  rintro fl s3 (⟨rfl, hp3, hf3⟩ | ⟨rfl, hp3, hf3⟩)
  · simp
    exact ⟨y, hy, rfl, hp3, hf3⟩
  rw [seqF_nx]
  have h6 := hy.m6
  have hm1 := hy.m1
  have ho6 := hy.o6
  simp [Sys.D]
  refine (wp_drawI (f := f + 37) (n := y.ops.length) hp3 rfl hy.o1 (by omega)).mono ?_
  rintro d s4 ⟨at', rfl, hat, hp4, hf4⟩
  refine (wp_drawI (f := f + 36) (n := y.many) hp4 rfl hm1 (by omega)).mono ?_
  rintro d s5 ⟨st, rfl, hst, hp5, hf5⟩
  have ho : y.ops[at'] ∈ y.ops := List.getElem_mem hat
  have hl := hy.ol _ ho
  have e1 : (st : Int) + 1 = ((st + 1 : Nat) : Int) := by omega
  have e2 : (at' : Int) + 1 = ((at' + 1 : Nat) : Int) := by omega
  simp [hat, opD, cut_to]
  refine (wp_drawI (f := f + 35) (n := y.many) hp5 rfl hm1 (by omega)).mono ?_
  rintro d s6 ⟨v, rfl, hv, hp6, hf6⟩
  rw [if_pos (by omega)]
  simp only [wp_ok, e1, cut_from]
  rw [opAdd_tup, if_pos (by simp; omega)]
  simp only [wp_ok]
  rw [if_pos (by omega)]
  simp only [wp_ok, e2, cut_from]
  rw [opAdd_tup, if_pos (by simp; omega)]
  refine ⟨⟨y.many, y.start, y.ops.take at' ++ [y.ops[at'].take st ++ [v] ++ y.ops[at'].drop (st + 1)] ++ y.ops.drop (at' + 1), y.kinds⟩, ⟨hm1, h6, hy.st, by simp; omega, by simp; omega, ?_, ?_, by have := hy.kl; simp; omega, hy.ke⟩, ?_, hp6.mono (by omega), (((hf3).trans hf4).trans hf5).trans hf6⟩
  · intro o ho
    rcases List.mem_append.1 ho with ho | ho
    · rcases List.mem_append.1 ho with ho | ho
      · exact hy.ol o (List.mem_of_mem_take ho)
      · simp at ho; subst ho; simp; omega
    · exact hy.ol o (List.mem_of_mem_drop ho)
  · intro o ho x hx
    rcases List.mem_append.1 ho with ho | ho
    · rcases List.mem_append.1 ho with ho | ho
      · exact hy.oe o (List.mem_of_mem_take ho) x hx
      · rw [List.mem_singleton] at ho
        subst ho
        rcases List.mem_append.1 hx with hx | hx
        · rcases List.mem_append.1 hx with hx | hx
          · exact hy.oe _ (List.getElem_mem hat) x (List.mem_of_mem_take hx)
          · rw [List.mem_singleton] at hx; subst hx; exact hv
        · exact hy.oe _ (List.getElem_mem hat) x (List.mem_of_mem_drop hx)
    · exact hy.oe o (List.mem_of_mem_drop ho) x hx
  · simp [Sys.D, List.map_take, List.map_drop, opD]
end VL
namespace VL
open PySem PySem.Spec PyProof.Rows L2

/-! ### systems.py -/
@[simp] theorem is_whole_int (i s) : m_is_whole [.int i] s = .ok (.bl true) s := by
  unfold m_is_whole
  rw [mFn_eq]
  simp [initE]
@[simp] theorem is_whole_non (s) : m_is_whole [.non] s = .ok (.bl false) s := by
  unfold m_is_whole
  rw [mFn_eq]
  simp [initE]
theorem is_between_int (i a b s) : m_is_between [.int i, .int a, .int b] s = .ok (.bl (decide (a ≤ i ∧ i ≤ b))) s := by
  unfold m_is_between
  rw [mFn_eq]
  by_cases h : a ≤ i
  · simp [initE, h]
  · simp [initE, h]
@[simp] theorem is_between_t {i a b : Int} (h : a ≤ i ∧ i ≤ b) (s) : m_is_between [.int i, .int a, .int b] s = .ok (.bl true) s := by
  rw [is_between_int, decide_eq_true h]
/-- all of a list's items pass -/
theorem llc_true {i : Nat} {el : ME} {ρw : Ev} {s : S} : ∀ (xs : List D) (acc : List D), (∀ d ∈ xs, el (ρw.set i (some d)) s = .ok (.bl true) s) → llc (.one i) mYes el ρw xs acc s = .ok (acc ++ List.replicate xs.length (.bl true)) s
  | [], acc, _ => by simp [llc]
  | d :: ds, acc, h => by
    have ih := llc_true (i := i) (el := el) (ρw := ρw) (s := s) ds (acc ++ [.bl true]) fun x hx => h x (List.mem_cons_of_mem _ hx)
    unfold llc
    simp [h d (List.mem_cons_self ..), ih, List.replicate_succ]
@[simp] theorem fAll_true (n : Nat) (s) : fAll [.lst (List.replicate n (.bl true))] s = .ok (.bl true) s := by
  have := fAll_lst s (List.replicate n true)
  simpa using this
theorem lcF_fixI {fi : List D → S → R D} {t : Tg} {tt : MT} {el : ME} {vs : List Nat} {ρ : Ev} {s : S} {xs : List D} (hl : xs.length ≤ 1000000) :
    lcF fi t tt el vs ρ (.fix xs) s = if (t.slots.all fun i => vs.contains i) = true then (llc t tt el (wipeD ρ vs) xs [] s).bnd fi else .bad := by
  by_cases h : (t.slots.all fun i => vs.contains i) = true
  · rw [if_pos h, lcF_fix hl h]
  · rw [if_neg h]
    show (if xs.length ≤ LIM ∧ (∀ i ∈ t.slots, i ∈ vs) then _ else R.bad).bnd fi = _
    rw [if_neg fun hh => h (List.all_eq_true.2 fun i hi => by simpa using hh.2 i hi)]
    rfl
theorem are_states_ok {o : List Nat} {n m : Nat} (h : o.length = n) (hn : n ≤ 1000) (hx : ∀ x ∈ o, x < m) (s) : m_are_states [opD o, .int n, .int m] s = .ok (.bl true) s := by
  unfold m_are_states opD
  rw [mFn_eq]
  have hl : (o.map nD).length ≤ 1000000 := by simp; omega
  have e := llc_true (i := 3) (el := mUser m_is_between (mCons (mVar 3) (mCons (mC (.int 0)) (mCons (mBin opSub (mVar 2) (mC (.int 1))) mNil)))) (ρw := [some (.tup (o.map nD)), some (.int n), some (.int m), none]) (s := s) (o.map nD) [] (by
    intro d hd
    obtain ⟨x, hx2, rfl⟩ := List.mem_map.1 hd
    have := hx x hx2
    simp (disch := omega))
  simp [initE, h, lcF_fixI hl, e]
theorem is_kind_ok {k : Option Nat} (h : ∀ n, k = some n → n ≤ 9) (s) : m_is_kind [kD k] s = .ok (.bl true) s := by
  unfold m_is_kind
  rw [mFn_eq]
  cases k with
  | none => simp [initE, kD]
  | some n =>
    have := h n rfl
    simp (disch := omega) [initE, kD]
theorem is_system_ok {y : Sys} (h : y.Ok) (s) : m_is_system [y.D] s = .ok (.bl true) s := by
  unfold m_is_system
  rw [mFn_eq]
  have h1 := h.m1
  have h6 := h.m6
  have hs := h.st
  have h7 := h.o1
  have h8 := h.o6
  have h9 := h.kl
  have l1 : (y.ops.map opD).length ≤ 1000000 := by simp; omega
  have l2 : (y.kinds.map kD).length ≤ 1000000 := by simp; omega
  have b1 : (1 : Int) ≤ y.many ∧ (y.many : Int) ≤ 6 := by omega
  have b2 : (1 : Int) ≤ y.ops.length := by omega
  have b3 : (y.ops.length : Int) ≤ 6 := by omega
  have e1 := llc_true (i := 5) (el := mUser m_are_states (mCons (mVar 5) (mCons (mVar 1) (mCons (mVar 1) mNil)))) (ρw := [some y.D, some (nD y.many), some (nD y.start), some (.tup (y.ops.map opD)), some (.tup (y.kinds.map kD)), none]) (s := s) (y.ops.map opD) [] (by
    intro d hd
    obtain ⟨o, ho, rfl⟩ := List.mem_map.1 hd
    simp [are_states_ok (h.ol o ho) (by omega) (h.oe o ho)])
  have e2 := llc_true (i := 5) (el := mUser m_is_kind (mCons (mVar 5) mNil)) (ρw := [some y.D, some (nD y.many), some (nD y.start), some (.tup (y.ops.map opD)), some (.tup (y.kinds.map kD)), none]) (s := s) (y.kinds.map kD) [] (by
    intro d hd
    obtain ⟨o, ho, rfl⟩ := List.mem_map.1 hd
    simp [is_kind_ok (h.ke o ho)])
  simp only [Sys.D] at e1 e2
  simp (disch := omega) [initE, Sys.D, lcF_fixI l1, lcF_fixI l2, e1, e2, h9, b2, b3, h7, h8]
theorem need_system_ok {y : Sys} (h : y.Ok) (s) : m_need_system [y.D] s = .ok .non s := by
  unfold m_need_system
  rw [mFn_eq]
  simp [initE, is_system_ok h]
theorem is_log_ok {y : Sys} (h : y.Ok) {l : List Nat} (hl : l.length ≤ 1000) (hx : ∀ x ∈ l, x < y.ops.length) (s) : m_is_log [y.D, logD l] s = .ok (.bl true) s := by
  unfold m_is_log logD
  rw [mFn_eq]
  have l1 : (l.map nD).length ≤ 1000000 := by simp; omega
  have e1 := llc_true (i := 2) (el := mUser m_is_between (mCons (mVar 2) (mCons (mC (.int 0)) (mCons (mBin opSub (mCall fLen (mCons (mBin opIx (mVar 0) (mC (.int 2))) mNil)) (mC (.int 1))) mNil)))) (ρw := [some y.D, some (.tup (l.map nD)), none]) (s := s) (l.map nD) [] (by
    intro d hd
    obtain ⟨x, hx2, rfl⟩ := List.mem_map.1 hd
    have := hx x hx2
    simp (disch := omega) [Sys.D])
  simp [initE, lcF_fixI l1, e1]
theorem need_log_ok {y : Sys} (h : y.Ok) {l : List Nat} (hl : l.length ≤ 1000) (hx : ∀ x ∈ l, x < y.ops.length) (s) : m_need_log [y.D, logD l] s = .ok .non s := by
  unfold m_need_log
  rw [mFn_eq]
  simp [initE, is_log_ok h hl hx]
/-- one step, a log -/
def Sys.step (y : Sys) (st e : Nat) : Nat := (y.ops.getD e []).getD st 0
def Sys.run (y : Sys) (st : Nat) (l : List Nat) : Nat := l.foldl y.step st
theorem Sys.Ok.step_lt {y : Sys} (h : y.Ok) {st e : Nat} (hs : st < y.many) (he : e < y.ops.length) : y.step st e < y.many := by
  unfold Sys.step
  have ho : y.ops[e] ∈ y.ops := List.getElem_mem he
  have h1 := h.ol _ ho
  have h2 : st < y.ops[e].length := by omega
  simp only [List.getD_eq_getElem?_getD, List.getElem?_eq_getElem he, List.getElem?_eq_getElem h2, Option.getD_some]
  exact h.oe _ ho _ (List.getElem_mem _)
theorem Sys.Ok.run_lt {y : Sys} (h : y.Ok) : ∀ {l : List Nat} {st : Nat}, st < y.many → (∀ x ∈ l, x < y.ops.length) → y.run st l < y.many
  | [], st, hs, _ => hs
  | e :: l, st, hs, hx => h.run_lt (l := l) (h.step_lt hs (hx e (List.mem_cons_self ..))) fun x hm => hx x (List.mem_cons_of_mem _ hm)
/-- the program's way to the next state -/
theorem ix_ops (y : Sys) (s) : opIx y.D (.int 2) s = .ok (.tup (y.ops.map opD)) s := by simp [Sys.D]
theorem ix_op {y : Sys} {e : Nat} (he : e < y.ops.length) (s) : opIx (.tup (y.ops.map opD)) (.int (e : Int)) s = .ok (opD (y.ops.getD e [])) s := by
  simp [he]
theorem ix_state {y : Sys} (h : y.Ok) {st e : Nat} (hs : st < y.many) (he : e < y.ops.length) (s : S) : opIx (opD (y.ops.getD e [])) (.int (st : Int)) s = .ok (.int (y.step st e : Nat)) s := by
  have ho : y.ops[e] ∈ y.ops := List.getElem_mem he
  have h1 := h.ol _ ho
  have h2 : st < y.ops[e].length := by omega
  simp [he, opD, h2, Sys.step]
theorem loop_run {y : Sys} (h : y.Ok) : ∀ (l : List Nat) (st : Nat) (x : Option D) (d2 : D) (s : S), st < y.many → (∀ x ∈ l, x < y.ops.length) →
    ∃ x', lloop (gN 3) (mAsg (mBin opIx (mBin opIx (mBin opIx (mVar 0) (mC (.int 2))) (mVar 3)) (mVar 1)) (gN 1)) (l.map nD) [some y.D, some (nD st), some d2, x] s = .ok (.nx [some y.D, some (nD (y.run st l)), some d2, x']) s
  | [], st, x, d2, s, hs, hx => ⟨x, rfl⟩
  | e :: l, st, x, d2, s, hs, hx => by
    have he := hx e (List.mem_cons_self ..)
    obtain ⟨x', ih⟩ := loop_run h l (y.step st e) (some (nD e)) d2 s (h.step_lt hs he) fun x hm => hx x (List.mem_cons_of_mem _ hm)
    refine ⟨x', ?_⟩
    simp only [List.map_cons]
    unfold lloop
    have s2 := ix_op he s
    have s3 := ix_state h hs he s
    simp only [mAsg_eq, mBin_eq, mVar_eq, mC_eq, gN_eq, R.bnd_ok, List.set_cons_succ, List.set_cons_zero, get_0, List.getElem?_cons_succ, vg_some, ix_ops, s2, s3, loopF_nx]
    exact ih
theorem run_from_ok {y : Sys} (h : y.Ok) {l : List Nat} {st : Nat} (hs : st < y.many) (hx : ∀ x ∈ l, x < y.ops.length) (s) : m_run_from [y.D, nD st, logD l] s = .ok (nD (y.run st l)) s := by
  unfold m_run_from
  rw [mFn_eq]
  obtain ⟨x', e⟩ := loop_run h l st none (logD l) s hs hx
  simp only [logD, nD] at e
  simp [initE, logD, e]
theorem law_run_ok {y : Sys} (h : y.Ok) {l : List Nat} {st : Nat} (hs : st < y.many) (hx : ∀ x ∈ l, x < y.ops.length) (s) : m__law_run [y.D, nD st, logD l] s = .ok (nD (y.run st l)) s := by
  unfold m__law_run
  rw [mFn_eq]
  obtain ⟨x', e⟩ := loop_run h l st none (logD l) s hs hx
  simp only [logD, nD] at e
  simp [initE, logD, e]
theorem run_ok {y : Sys} (h : y.Ok) {l : List Nat} {st : Nat} (hs : st < y.many) (hl : l.length ≤ 1000) (hx : ∀ x ∈ l, x < y.ops.length) (s) : m_run [y.D, nD st, logD l] s = .ok (nD (y.run st l)) s := by
  unfold m_run
  rw [mFn_eq]
  have e1 : ∀ s, opIx y.D (.int 0) s = .ok (.int (y.many : Int)) s := fun s => by simp [Sys.D]
  simp (disch := omega) [initE, need_system_ok h, e1, need_log_ok h hl hx, run_from_ok h hs hx]
theorem outcome_of_ok {y : Sys} (h : y.Ok) {l : List Nat} (hx : ∀ x ∈ l, x < y.ops.length) (s) : m_outcome_of [y.D, logD l] s = .ok (nD (y.run y.start l)) s := by
  unfold m_outcome_of
  rw [mFn_eq]
  have e1 : ∀ s, opIx y.D (.int 1) s = .ok (.int (y.start : Int)) s := fun s => by simp [Sys.D]
  simp [initE, e1, run_from_ok h h.st hx]
theorem outcome_ok {y : Sys} (h : y.Ok) {l : List Nat} (hl : l.length ≤ 1000) (hx : ∀ x ∈ l, x < y.ops.length) (s) : m_outcome [y.D, logD l] s = .ok (nD (y.run y.start l)) s := by
  unfold m_outcome
  rw [mFn_eq]
  simp [initE, need_system_ok h, need_log_ok h hl hx, outcome_of_ok h hx]
/-- the law's comparison of two equal values -/
theorem same_ok {k n : Nat} {d : D} (h : Fine k n d) (hk : k ≤ 60) (hn : n ≤ 400000) (s) : m__law_same [d, d] s = .ok (.bl true) s := by
  unfold m__law_same
  rw [mFn_eq]
  simp [initE, h.repr hk hn]
end VL
namespace VL
open PySem PySem.Spec PyProof.Rows L2
/-- a law that walks some cells, a pen for each -/
theorem law_frame {c : Int} {N : Nat} {B : MS} {ns : List Int} (hc : 1 ≤ c ∧ c ≤ 100)
    (hb : ∀ (k : D) (p : Nat) (s : S) (rest : Ev), rest.length = N → Pen p (2 ^ 59) s → wp (B (some (.scr (ns.map D.int)) :: some k :: some (.obj p) :: rest) s) fun fl _ => ∃ t : Ev, t.length = N + 2 ∧ fl = .nx (some (.scr (ns.map D.int)) :: t)) :
    ∃ s', mFn (N + 3) (mSeq (mFor (mRng1 (mCons (mCall fMax2 (mCons (mC (.int 1)) (mCons (mCall fMin2 (mCons (mCall fLen (mCons (mVar 0) mNil)) (mCons (mC (.int c)) mNil))) mNil))) mNil)) (gN 1)
      (mSeq (mAsg (mUser m__law_pen (mCons (mUser m__law_cell_at (mCons (mVar 0) (mCons (mVar 1) mNil))) mNil)) (gN 2)) B)) (mRet (mC (.bl true)))) [.scr (ns.map D.int)] [] = .ok (.bl true) s' := by
  have key : wp (mFn (N + 3) (mSeq (mFor (mRng1 (mCons (mCall fMax2 (mCons (mC (.int 1)) (mCons (mCall fMin2 (mCons (mCall fLen (mCons (mVar 0) mNil)) (mCons (mC (.int c)) mNil))) mNil))) mNil)) (gN 1)
      (mSeq (mAsg (mUser m__law_pen (mCons (mUser m__law_cell_at (mCons (mVar 0) (mCons (mVar 1) mNil))) mNil)) (gN 2)) B)) (mRet (mC (.bl true)))) [.scr (ns.map D.int)] []) fun d _ => d = .bl true := by
    rw [mFn_eq, wp_fin, mSeq_eq, wp_bnd]
    have e0 : initE (N + 3) [.scr (ns.map D.int)] = some (.scr (ns.map D.int)) :: List.replicate (N + 2) none := by simp [initE]
    rw [e0]
    have e1 : ∃ j : Nat, mRng1 (mCons (mCall fMax2 (mCons (mC (.int 1)) (mCons (mCall fMin2 (mCons (mCall fLen (mCons (mVar 0) mNil)) (mCons (mC (.int c)) mNil))) mNil))) mNil) (some (.scr (ns.map D.int)) :: List.replicate (N + 2) none) [] = .ok (.fix (rngD 0 j)) [] := by
      simp
      split <;> split <;> exact ⟨_, rng1F_ok _ (by omega)⟩
    obtain ⟨j, e1⟩ := e1
    rw [mFor_eq, e1]
    simp only [R.bnd_ok, forF_fix]
    refine wp_loop (fun ds ρ s => (∀ d ∈ ds, ∃ k : Nat, d = .int (k : Int)) ∧ ∃ t : Ev, t.length = N + 2 ∧ ρ = some (.scr (ns.map D.int)) :: t) ?_ ?_ _ _ _ ⟨fun d hd => ?_, _, by simp, rfl⟩
    · rintro d ds ρ s ⟨hd, t, ht, rfl⟩
      obtain ⟨k, rfl⟩ := hd d (List.mem_cons_self ..)
      obtain ⟨t0, t1, rest, rfl⟩ : ∃ t0 t1 rest, t = t0 :: t1 :: rest := by
        match t, ht with
        | t0 :: t1 :: rest, _ => exact ⟨t0, t1, rest, rfl⟩
      simp only [gN_eq, wp_ok, List.set_cons_succ, List.set_cons_zero]
      rw [mSeq_eq, wp_bnd]
      obtain ⟨z, hz⟩ := wp_cell (ns := ns) (k := k) s
      obtain ⟨hp1, hp2⟩ := wp_pen z (2 ^ 59) (by decide) s
      simp only [nD] at hz
      simp only [mAsg_eq, mUser_eq, mCons_eq, mNil_eq, mVar_eq, get_0, List.getElem?_cons_succ, vg_some, R.bnd_ok, hz, retag_ok, hp1, gN_eq, List.set_cons_succ, List.set_cons_zero, wp_ok, seqF_nx]
      refine (hb _ _ _ rest (by simpa using ht) hp2).mono ?_
      rintro fl s2 ⟨t, ht, rfl⟩
      exact ⟨fun d hd2 => hd d (List.mem_cons_of_mem _ hd2), t, ht, rfl⟩
    · rintro ρ s ⟨hd, t, ht, rfl⟩
      simp
    · obtain ⟨k, hk, rfl⟩ := rngD_mem hd
      exact ⟨k, rfl⟩
  obtain ⟨a, s', e, rfl⟩ := key.ok
  exact ⟨s', e⟩
/-- a right log -/
def LogOk (y : Sys) (c : Nat) (l : List Nat) : Prop := l.length ≤ c ∧ ∀ x ∈ l, x < y.ops.length
theorem fine_logOk {y : Sys} (h : y.Ok) {c : Nat} {l : List Nat} (hl : LogOk y c l) : Fine 1 c (logD l) :=
  (fine_log hl.2 (Nat.le_trans h.o6 (by decide))).mono (Nat.le_refl _) hl.1
theorem fine_states {y : Sys} (h : y.Ok) {n : Nat} (hn : n ≤ 6) {g : Nat → Nat} (hg : ∀ k, k < n → g k < y.many) : Fine 1 6 (.lst ((List.range n).map fun k => nD (g k))) := by
  have := fine_lst (k := 0) (n := 0) (ds := (List.range n).map fun k => nD (g k)) fun d hd => by
    obtain ⟨k, hk, rfl⟩ := List.mem_map.1 hd
    have := hg k (List.mem_range.1 hk)
    have := h.m6
    exact fine_nD _ _ (by omega)
  exact this.mono (Nat.le_refl _) (by simp; omega)
theorem fine_pair {a b : D} {k n k' n' : Nat} (ha : Fine k n a) (hb : Fine k' n' b) : Fine (max k k' + 1) (2 * (max n n' + 1)) (.tup [a, b]) :=
  fine_tup (ds := [a, b]) fun d hd => by
    simp only [List.mem_cons, List.not_mem_nil, or_false] at hd
    rcases hd with rfl | rfl
    · exact ha.mono (by omega) (by omega)
    · exact hb.mono (by omega) (by omega)
theorem logD_rep (n c : Nat) : (.tup (List.replicate c [D.int (n : Int)]).flatten) = logD (List.replicate c n) := by
  congr 1
  induction c with
  | zero => rfl
  | succ c ih => simpa [List.replicate_succ] using ih

end VL
namespace VL
open PySem PySem.Spec PyProof.Rows L2

/-! ### in -/
def plainK : D → Bool
  | .non | .bl _ | .int _ => true
  | _ => false
theorem plain_py {d : D} (h : plainK d = true) (s : S) : ∃ p, toPy d = some p ∧ toPyS s d = some p ∧ PyData.canLay0 p = true ∧ p.depth = 0 := by
  cases d with
  | non => exact ⟨_, rfl, rfl, rfl, rfl⟩
  | bl b => exact ⟨_, rfl, rfl, rfl, rfl⟩
  | int i => exact ⟨_, rfl, rfl, rfl, rfl⟩
  | _ => cases h
theorem plain_eqv {a b : D} (ha : plainK a = true) (hb : plainK b = true) {p q : PyData} (hp : toPy a = some p) (hq : toPy b = some q) : PyData.eqv p q = eqF a b := by
  cases a with
  | non => cases b <;> first | (cases hb; done) | (simp only [toPy, Option.some.injEq] at hp hq; subst hp; subst hq; simp [PyData.eqv, eqF])
  | bl b => cases b <;> cases ‹D› <;> first | (cases hb; done) | (simp only [toPy, Option.some.injEq] at hp hq; subst hp; subst hq; simp [PyData.eqv, eqF])
  | int i => cases b <;> first | (cases hb; done) | (simp only [toPy, Option.some.injEq] at hp hq; subst hp; subst hq; simp [PyData.eqv, eqF])
  | _ => cases ha
theorem plain_pys : ∀ {ds : List D}, ds.all plainK = true → ∃ ps, toPys ds = some ps ∧ PyData.canLayAll0 ps = true ∧ PyData.depthAll ps = 0 ∧ ∀ x q, plainK x = true → toPy x = some q → (ps.any fun z => PyData.eqv z q) = anyF x ds
  | [], _ => ⟨[], rfl, rfl, rfl, fun _ _ _ _ => rfl⟩
  | d :: ds, h => by
    simp only [List.all_cons, Bool.and_eq_true] at h
    obtain ⟨p, h1, _, h3, h4⟩ := plain_py h.1 []
    obtain ⟨ps, g1, g2, g3, g4⟩ := plain_pys h.2
    refine ⟨p :: ps, by simp [toPys, h1, g1], by simp [PyData.canLayAll0, h3, g2], by simp [PyData.depthAll, h4, g3], fun x q hx hq => ?_⟩
    simp only [List.any_cons, anyF, plain_eqv h.1 hx h1 hq]
    exact congrArg _ (g4 x q hx hq)
theorem opIn_lstK {f : Bool → Bool} {x : D} {ds : List D} (hx : plainK x = true) (h : ds.all plainK = true) (s : S) : opInB f x (.lst ds) s = .ok (.bl (f (anyF x ds))) s := by
  obtain ⟨p, _, h2, h3, h4⟩ := plain_py hx s
  obtain ⟨p', h1, _⟩ := plain_py hx s
  obtain ⟨ps, g1, g2, g3, g4⟩ := plain_pys h
  show (match toPyS s x, toPyS s (.lst ds) with
    | some d, some (.list ds) => if SeqAt.shaped d = true ∧ SeqAt.shaped (.list ds) = true then R.ok (D.bl (f (ds.any fun z => PyData.eqv z d))) s else .bad
    | _, _ => .bad) = _
  rw [h2, show toPyS s (.lst ds) = some (.list ps) by simp [toPyS, toPy, g1]]
  show (if SeqAt.shaped p = true ∧ SeqAt.shaped (.list ps) = true then R.ok (D.bl (f (ps.any fun z => PyData.eqv z p))) s else .bad) = _
  rw [if_pos ⟨by simp [SeqAt.shaped, h3, h4], by simp [SeqAt.shaped, PyData.canLay0, PyData.depth, g2, g3]⟩, g4 x p hx ‹_›]
theorem opIn_objK {f : Bool → Bool} {x : D} {ds : List D} {n : Nat} {s : S} (hx : plainK x = true) (h : ds.all plainK = true) (hs : s[n]? = some (.lst ds)) : opInB f x (.obj n) s = .ok (.bl (f (anyF x ds))) s := by
  obtain ⟨p, _, h2, h3, h4⟩ := plain_py hx s
  obtain ⟨ps, g1, g2, g3, g4⟩ := plain_pys h
  show (match toPyS s x, toPyS s (.obj n) with
    | some d, some (.list ds) => if SeqAt.shaped d = true ∧ SeqAt.shaped (.list ds) = true then R.ok (D.bl (f (ds.any fun z => PyData.eqv z d))) s else .bad
    | _, _ => .bad) = _
  rw [h2, show toPyS s (.obj n) = some (.list ps) by simp [toPyS, hs, g1]]
  show (if SeqAt.shaped p = true ∧ SeqAt.shaped (.list ps) = true then R.ok (D.bl (f (ps.any fun z => PyData.eqv z p))) s else .bad) = _
  rw [if_pos ⟨by simp [SeqAt.shaped, h3, h4], by simp [SeqAt.shaped, PyData.canLay0, PyData.depth, g2, g3]⟩, g4 x p hx ‹_›]
theorem plain_flat {d : D} (h : plainK d = true) : flatD d = true := by cases d <;> first | rfl | cases h
theorem opIn_tupK {f : Bool → Bool} {x : D} {ds : List D} (hx : plainK x = true) (h : ds.all plainK = true) (s : S) : opInB f x (.tup ds) s = .ok (.bl (f (anyF x ds))) s := by
  show (if flatD x = true ∧ ds.all flatD = true then R.ok (D.bl (f (anyF x ds))) s else .bad) = _
  rw [if_pos ⟨plain_flat hx, List.all_eq_true.2 fun d hd => plain_flat (List.all_eq_true.1 h d hd)⟩]
@[simp] theorem plainK_kD (k) : plainK (kD k) = true := by cases k <;> rfl
theorem all_kD (ks : List (Option Nat)) : (ks.map kD).all plainK = true := by induction ks <;> simp [*]
theorem all_nD (ks : List Nat) : (ks.map nD).all plainK = true := List.all_eq_true.2 fun d hd => by
  obtain ⟨x, _, rfl⟩ := List.mem_map.1 hd
  rfl
theorem anyF_kD (k : Option Nat) : ∀ ks : List (Option Nat), anyF (kD k) (ks.map kD) = ks.contains k
  | [] => rfl
  | j :: ks => by
    have := anyF_kD k ks
    simp only [anyF, List.map_cons, List.any_cons, List.contains_cons] at this ⊢
    rw [this]
    congr 1
    cases j <;> cases k <;> simp [kD, eqF]
    rename_i a b
    by_cases e : a = b
    · subst e; simp
    · have e' : ¬ (a : Int) = b := by omega
      have e2 : ¬ b = a := fun z => e z.symm
      simp [e', e2, beq_eq_false_iff_ne.2 e, beq_eq_false_iff_ne.2 e2]
theorem anyF_nD (k : Nat) : ∀ ks : List Nat, anyF (nD k) (ks.map nD) = ks.contains k
  | [] => rfl
  | j :: ks => by
    have := anyF_nD k ks
    simp only [anyF, List.map_cons, List.any_cons, List.contains_cons] at this ⊢
    rw [this]
    congr 1
    simp only [eqF]
    by_cases e : j = k
    · subst e; simp
    · have e' : ¬ (j : Int) = k := by omega
      have e2 : ¬ k = j := fun z => e z.symm
      simp [e', e2, beq_eq_false_iff_ne.2 e, beq_eq_false_iff_ne.2 e2]

/-! ### items picked by what stands ahead and behind -/
def pickL (p : List Nat → Nat → List Nat → Bool) : List Nat → List Nat → List Nat
  | _, [] => []
  | pre, e :: rest => if p pre e rest = true then e :: pickL p (pre ++ [e]) rest else pickL p (pre ++ [e]) rest
def enumK (k : Nat) (l : List Nat) : List D := (l.zipIdx k).map fun p => .tup [.int (p.2 : Nat), .int (p.1 : Nat)]
theorem enumD_nD (l : List Nat) : enumD (l.map nD) = enumK 0 l := by
  unfold enumD enumK
  rw [List.zipIdx_map, List.map_map]
  rfl
@[simp] theorem enumK_nil (k) : enumK k [] = [] := rfl
@[simp] theorem enumK_cons (k e l) : enumK k (e :: l) = .tup [.int (k : Nat), .int (e : Nat)] :: enumK (k + 1) l := rfl
theorem llc_pick {t : Tg} {tt : MT} {el : ME} {ρw : Ev} {s : S} {l : List Nat} {p : List Nat → Nat → List Nat → Bool}
    (h : ∀ pre e rest, l = pre ++ e :: rest → ∃ ρ1, tgM t (.tup [.int (pre.length : Nat), .int (e : Nat)]) ρw = some ρ1 ∧ tt ρ1 s = .ok (p pre e rest) s ∧ el ρ1 s = .ok (.int (e : Nat)) s) :
    ∀ (rest pre : List Nat) (acc : List D), l = pre ++ rest → llc t tt el ρw (enumK pre.length rest) acc s = .ok (acc ++ (pickL p pre rest).map nD) s
  | [], pre, acc, _ => by simp [llc, pickL]
  | e :: rest, pre, acc, hl => by
    obtain ⟨ρ1, h1, h2, h3⟩ := h pre e rest hl
    have ih := fun acc => llc_pick h rest (pre ++ [e]) acc (by rw [hl]; simp)
    simp only [List.length_append, List.length_singleton] at ih
    rw [enumK_cons, llc_cons, h1]
    by_cases hp : p pre e rest = true
    · simp [h2, h3, hp, ih, pickL]
    · have hp' : p pre e rest = false := by simpa using hp
      simp [h2, hp', ih, pickL]
theorem pickL_sub (p) : ∀ (rest pre : List Nat) (x : Nat), x ∈ pickL p pre rest → x ∈ rest
  | [], pre, x, h => by simp [pickL] at h
  | e :: rest, pre, x, h => by
    unfold pickL at h
    split at h
    · rcases List.mem_cons.1 h with h | h
      · exact h ▸ List.mem_cons_self ..
      · exact List.mem_cons_of_mem _ (pickL_sub p rest _ x h)
    · exact List.mem_cons_of_mem _ (pickL_sub p rest _ x h)
theorem pickL_len (p) : ∀ (rest pre : List Nat), (pickL p pre rest).length ≤ rest.length
  | [], pre => by simp [pickL]
  | e :: rest, pre => by
    have := pickL_len p rest (pre ++ [e])
    unfold pickL
    split <;> simp <;> omega
/-! compacting -/
def Sys.kd (y : Sys) (e : Nat) : Option Nat := y.kinds.getD e none
def Sys.cmp (y : Sys) : List Nat → List Nat
  | [] => []
  | e :: l => if y.kd e = none ∨ y.kd e ∉ l.map y.kd then e :: y.cmp l else y.cmp l
def Sys.cmpP (y : Sys) : List Nat → Nat → List Nat → Bool := fun _ e rest => decide (y.kd e = none ∨ y.kd e ∉ rest.map y.kd)
theorem cmp_pick (y : Sys) : ∀ (rest pre : List Nat), pickL y.cmpP pre rest = y.cmp rest
  | [], pre => rfl
  | e :: rest, pre => by
    unfold pickL Sys.cmp
    rw [cmp_pick y rest (pre ++ [e])]
    simp only [Sys.cmpP, decide_eq_true_eq]
theorem cmp_sub (y : Sys) {l : List Nat} {x : Nat} (h : x ∈ y.cmp l) : x ∈ l := by
  rw [← cmp_pick y l []] at h
  exact pickL_sub _ _ _ _ h
theorem cmp_len (y : Sys) (l : List Nat) : (y.cmp l).length ≤ l.length := by
  rw [← cmp_pick y l []]
  exact pickL_len _ _ _
theorem cmp_cons (y : Sys) (e : Nat) (l : List Nat) : y.cmp (e :: l) = if y.kd e = none ∨ y.kd e ∉ l.map y.kd then e :: y.cmp l else y.cmp l := rfl
theorem cmp_cmp (y : Sys) : ∀ l : List Nat, y.cmp (y.cmp l) = y.cmp l
  | [] => rfl
  | e :: l => by
    rw [cmp_cons]
    split
    · rename_i h
      rw [cmp_cons, if_pos, cmp_cmp y l]
      refine h.imp id fun h z => h ?_
      obtain ⟨x, hx, hk⟩ := List.mem_map.1 z
      exact hk ▸ List.mem_map_of_mem (cmp_sub y hx)
    · exact cmp_cmp y l
theorem ix_kinds (y : Sys) (s) : opIx y.D (.int 3) s = .ok (.tup (y.kinds.map kD)) s := by simp [Sys.D]
theorem ix_kind {y : Sys} (h : y.Ok) {e : Nat} (he : e < y.ops.length) (s) : opIx (.tup (y.kinds.map kD)) (.int (e : Int)) s = .ok (kD (y.kd e)) s := by
  have : e < y.kinds.length := by rw [h.kl]; exact he
  simp [this, Sys.kd]
/-- the kinds of some entries -/
theorem llc_kinds {y : Sys} (h : y.Ok) {i : Nat} {el : ME} {ρw : Ev} {s : S} {l : List Nat} (hl : ∀ x ∈ l, x < y.ops.length) (he : ∀ e : Nat, e < y.ops.length → el (ρw.set i (some (.int (e : Int)))) s = .ok (kD (y.kd e)) s) :
    llc (.one i) mYes el ρw (l.map nD) [] s = .ok ((l.map y.kd).map kD) s := by
  have e := llc_pure (t := .one i) (el := el) (ρw := ρw) (f := fun d => match d with | .int j => kD (y.kd j.toNat) | d => d) (s := s) (l.map nD) [] fun d hd => by
    obtain ⟨x, hx, rfl⟩ := List.mem_map.1 hd
    exact ⟨_, rfl, by simpa using he x (hl x hx)⟩
  rw [e]
  simp [Function.comp_def]
theorem kD_non (k : Option Nat) : isNonD (kD k) = decide (k = none) := by cases k <;> simp [kD]
theorem has_later_ok {y : Sys} (h : y.Ok) {l pre rest : List Nat} {e : Nat} (hl : l = pre ++ e :: rest) (hn : l.length ≤ 1000) (hx : ∀ x ∈ l, x < y.ops.length) (s) :
    m_has_later [y.D, logD l, .int (pre.length : Nat)] s = .ok (.bl (!y.cmpP pre e rest)) s := by
  unfold m_has_later
  rw [mFn_eq]
  have he : e < y.ops.length := hx e (by rw [hl]; simp)
  have g1 : (l.map nD)[pre.length]? = some (.int (e : Int)) := by rw [hl]; simp
  have g2 : (pre.length : Int) + 1 = ((pre.length + 1 : Nat) : Int) := by omega
  have g3 : (l.map nD).drop (pre.length + 1) = rest.map nD := by
    rw [show l.map nD = (pre.map nD ++ [nD e]) ++ rest.map nD by rw [hl]; simp, List.drop_left' (by simp)]
  have hr : ∀ x ∈ rest, x < y.ops.length := fun x hx2 => hx x (by rw [hl]; simp [hx2])
  have hrl : (rest.map nD).length ≤ 1000000 := by rw [hl] at hn; simp at hn ⊢; omega
  have e1 := llc_kinds h (i := 4) (el := mBin opIx (mBin opIx (mVar 0) (mC (.int 3))) (mVar 4)) (ρw := [some y.D, some (.tup (l.map nD)), some (.int (pre.length : Nat)), some (kD (y.kd e)), none]) (s := s) hr fun x hx2 => by
    simp [ix_kinds, ix_kind h hx2, -opIx_tup]
  have hk := ix_kind h he s
  simp only [logD]
  simp only [initE, List.map_cons, List.map_nil, List.length_cons, List.length_nil, List.cons_append, List.nil_append, Nat.reduceAdd, Nat.reduceSub, List.replicate]
  rw [mSeq_eq, mAsg_eq]
  have s1 : (mBin opIx (mBin opIx (mVar 0) (mC (.int 3))) (mBin opIx (mVar 1) (mVar 2))) [some y.D, some (.tup (l.map nD)), some (.int (pre.length : Nat)), none, none] s = .ok (kD (y.kd e)) s := by
    simp only [mBin_eq, mVar_eq, mC_eq, get_0, List.getElem?_cons_succ, vg_some, R.bnd_ok, ix_kinds, opIx_tup, atI_nat', g1, ixR_some]
    have := ix_kind h he s
    simpa only [opIx_tup, atI_nat'] using this
  rw [s1]
  simp only [R.bnd_ok, gN_eq, List.set_cons_succ, List.set_cons_zero, seqF_nx, mRet_eq, mAndV_eq, mBin_eq, mVar_eq, get_0, List.getElem?_cons_succ, vg_some, mC_eq, opNotN_eq, asB_ok, kD_non]
  by_cases hz : y.kd e = none
  · simp [hz, Sys.cmpP]
  · simp only [hz, decide_false, Bool.not_false, if_true, mLcF_eq, mSrc_eq, mSl_eq, mVar_eq, get_0, List.getElem?_cons_succ, vg_some, R.bnd_ok, mPart_eq, mBin_eq, mC_eq, opAdd_int, mNo_eq, opSl_tup, g2, cut_from, g3, srcF_tup]
    rw [lcF_fixI hrl]
    simp only [slots_one, List.all_cons, List.all_nil, List.contains_cons, beq_self_eq_true, Bool.true_or, Bool.and_true, if_true, wipeD_cons, wipeD_nil, List.set_cons_succ, List.set_cons_zero, e1, R.bnd_ok, finL_eq]
    rw [show opIn (kD (y.kd e)) (D.lst ((rest.map y.kd).map kD)) s = _ from opIn_lstK (f := fun b => b) (plainK_kD _) (all_kD _) s, anyF_kD]
    by_cases hm : y.kd e ∈ rest.map y.kd
    · simp [Sys.cmpP, hz, hm, -List.mem_map]
    · simp [Sys.cmpP, hz, hm, -List.mem_map]
theorem compacted_log_ok {y : Sys} (h : y.Ok) {l : List Nat} (hn : l.length ≤ 1000) (hx : ∀ x ∈ l, x < y.ops.length) (s) : m_compacted_log [y.D, logD l] s = .ok (logD (y.cmp l)) s := by
  unfold m_compacted_log
  rw [mFn_eq]
  have hl2 : (enumK 0 l).length ≤ 1000000 := by simp [enumK]; omega
  have e := llc_pick (t := .many [2, 3]) (tt := mNotT (mB (mUser m_has_later (mCons (mVar 0) (mCons (mVar 1) (mCons (mVar 2) mNil)))))) (el := mVar 3) (ρw := [some y.D, some (logD l), none, none]) (s := s) (l := l) (p := y.cmpP) (fun pre e rest hl => by
    refine ⟨_, rfl, ?_, ?_⟩
    · simp [setAll, has_later_ok h hl hn hx]
    · simp [setAll]) l [] [] rfl
  simp only [List.length_nil, List.nil_append, cmp_pick] at e
  simp only [logD] at e ⊢
  simp [initE, enumD_nD, lcF_fixI hl2, e]
theorem compacted_ok {y : Sys} (h : y.Ok) {l : List Nat} (hn : l.length ≤ 1000) (hx : ∀ x ∈ l, x < y.ops.length) (s) : m_compacted [y.D, logD l] s = .ok (logD (y.cmp l)) s := by
  unfold m_compacted
  rw [mFn_eq]
  simp [initE, need_system_ok h, need_log_ok h hn hx, compacted_log_ok h hn hx]
/-- the law's own compacting: a list is made on the way -/
theorem law_compacted_ok {y : Sys} (h : y.Ok) {l : List Nat} (hn : l.length ≤ 1000) (hx : ∀ x ∈ l, x < y.ops.length) (s : S) : wp (m__law_compacted [y.D, logD l] s) fun d s' => d = logD (y.cmp l) ∧ ∃ t, s' = s ++ t := by
  unfold m__law_compacted
  rw [mFn_eq]
  simp only [logD]
  simp [initE, enumD_nD]
  refine wp_loop (fun ds ρ s' => ∃ (pre rest acc : List Nat) (x3 x4 x5 x6 : Option D), l = pre ++ rest ∧ ds = enumK pre.length rest ∧ acc ++ pickL y.cmpP pre rest = y.cmp l ∧ s' = s ++ [.lst (acc.map nD)] ∧
    ρ = [some y.D, some (.tup (l.map nD)), some (.obj s.length), x3, x4, x5, x6]) ?_ ?_ _ _ _ ⟨[], l, [], _, _, _, _, rfl, rfl, by rw [List.nil_append, cmp_pick], rfl, rfl⟩
  · rintro d ds ρ s' ⟨pre, rest, acc, x3, x4, x5, x6, hl, hd, ha, rfl, rfl⟩
    cases rest with
    | nil => cases hd
    | cons e rest =>
      rw [enumK_cons] at hd
      injection hd with hd1 hd2
      subst hd1 hd2
      have he : e < y.ops.length := hx e (by rw [hl]; simp)
      have g2 : (pre.length : Int) + 1 = ((pre.length + 1 : Nat) : Int) := by omega
      have g3 : (l.map nD).drop (pre.length + 1) = rest.map nD := by
        rw [show l.map nD = (pre.map nD ++ [nD e]) ++ rest.map nD by rw [hl]; simp, List.drop_left' (by simp)]
      have hr : ∀ x ∈ rest, x < y.ops.length := fun x hx2 => hx x (by rw [hl]; simp [hx2])
      have hrl : (rest.map nD).length ≤ 1000000 := by rw [hl] at hn; simp at hn ⊢; omega
      have hO : isLstO (s ++ [.lst (acc.map nD)]) (.obj s.length) = true := isLstO_obj (by simp : (s ++ [O.lst (acc.map nD)])[s.length]? = some (.lst (acc.map nD)))
      have hal : acc.length ≤ 1000 := by
        have h1 := congrArg List.length ha
        have h2 := cmp_len y l
        simp at h1
        omega
      have hA := fAppend_obj (by simp : (s ++ [O.lst (acc.map nD)])[s.length]? = some (.lst (acc.map nD))) (by simp; omega) (.int (e : Int))
      have e1 := llc_kinds h (i := 6) (el := mBin opIx (mBin opIx (mVar 0) (mC (.int 3))) (mVar 6)) (ρw := [some y.D, some (.tup (l.map nD)), some (.obj s.length), some (.int (pre.length : Nat)), some (.int (e : Nat)), some (kD (y.kd e)), none]) (s := s ++ [O.lst (acc.map nD)]) hr fun x hx2 => by
        simp [ix_kinds, ix_kind h hx2, -opIx_tup]
      have step : ∀ b : Bool, b = y.cmpP pre e rest → acc ++ (if b = true then [e] else []) ++ pickL y.cmpP (pre ++ [e]) rest = y.cmp l := by
        intro b hb
        subst hb
        rw [← ha]
        conv => rhs; unfold pickL
        split <;> simp
      have kk := ix_kind h he (s ++ [O.lst (acc.map nD)])
      simp only [gT_eq, gConsM_eq, gN_eq, gNilM_eq, List.length_cons, List.length_nil, R.bnd_ok, if_true, wp_ok, List.set_cons_succ, List.set_cons_zero, Nat.reduceAdd, mSeq_eq, mAsg_eq, mBin_eq, mVar_eq, mC_eq, get_0, List.getElem?_cons_succ, vg_some, ix_kinds, kk, seqF_nx, mIfS_eq, mOrT_eq, mB_eq, opIsN_eq, asB_ok, kD_non]
      by_cases hz : y.kd e = none
      · have hc : y.cmpP pre e rest = true := by simp [Sys.cmpP, hz]
        simp only [hz, decide_true, if_true, mDrop_eq, mAppend_eq, mVar_eq, get_0, List.getElem?_cons_succ, vg_some, R.bnd_ok, hO, hA, wp_ok, turnK_nx]
        refine ⟨pre ++ [e], rest, acc ++ [e], _, _, _, _, by rw [hl]; simp, by simp, ?_, ?_, rfl⟩
        · simpa using step true hc.symm
        · rw [List.set_append_right _ _ (Nat.le_refl _)]; simp
      · simp only [hz, decide_false, if_false, mLcF_eq, mSrc_eq, mSl_eq, mVar_eq, get_0, List.getElem?_cons_succ, vg_some, R.bnd_ok, mPart_eq, mBin_eq, mC_eq, opAdd_int, mNo_eq, opSl_tup, g2, cut_from, g3, srcF_tup, Bool.false_eq_true]
        rw [lcF_fixI hrl]
        simp only [slots_one, List.all_cons, List.all_nil, List.contains_cons, beq_self_eq_true, Bool.true_or, Bool.and_true, if_true, wipeD_cons, wipeD_nil, List.set_cons_succ, List.set_cons_zero, e1, R.bnd_ok, finL_eq]
        rw [show opNotIn (kD (y.kd e)) (D.lst ((rest.map y.kd).map kD)) _ = _ from opIn_lstK (f := fun b => !b) (plainK_kD _) (all_kD _) _, anyF_kD]
        have hb : (!(rest.map y.kd).contains (y.kd e)) = y.cmpP pre e rest := by
          by_cases hm : y.kd e ∈ rest.map y.kd
          · simp [Sys.cmpP, hz, hm, -List.mem_map]
          · simp [Sys.cmpP, hz, hm, -List.mem_map]
        rw [hb]
        simp only [asB_ok, R.bnd_ok]
        cases hc : y.cmpP pre e rest with
        | true =>
          simp only [if_true, mDrop_eq, mAppend_eq, mVar_eq, get_0, List.getElem?_cons_succ, vg_some, R.bnd_ok, hO, hA, wp_ok, turnK_nx]
          refine ⟨pre ++ [e], rest, acc ++ [e], _, _, _, _, by rw [hl]; simp, by simp, ?_, ?_, rfl⟩
          · simpa using step true hc.symm
          · rw [List.set_append_right _ _ (Nat.le_refl _)]; simp
        | false =>
          simp only [Bool.false_eq_true, if_false, mSkip_eq, wp_ok, turnK_nx]
          exact ⟨pre ++ [e], rest, acc, _, _, _, _, by rw [hl]; simp, by simp, by simpa using step false hc.symm, rfl, rfl⟩
  · rintro ρ s' ⟨pre, rest, acc, x3, x4, x5, x6, hl, hd, ha, rfl, rfl⟩
    cases rest with
    | cons e rest => cases hd
    | nil =>
      have hg : (s ++ [O.lst (acc.map nD)])[s.length]? = some (.lst (acc.map nD)) := by simp
      simp [fTuple_obj _ hg]
      have ha' : acc = y.cmp l := by simpa [pickL] using ha
      rw [ha']
/-! firsts -/
def firstP : List Nat → Nat → List Nat → Bool := fun pre e _ => !pre.contains e
def firstsL (l : List Nat) : List Nat := pickL firstP [] l
theorem firsts_of_ok {l : List Nat} (hn : l.length ≤ 1000) (s) : m_firsts_of [logD l] s = .ok (logD (firstsL l)) s := by
  unfold m_firsts_of
  rw [mFn_eq]
  have hl2 : (enumK 0 l).length ≤ 1000000 := by simp [enumK]; omega
  have e := llc_pick (t := .many [1, 2]) (tt := mB (mBin opNotIn (mVar 2) (mSl (mVar 0) mNo (mPart (mVar 1))))) (el := mVar 2) (ρw := [some (logD l), none, none]) (s := s) (l := l) (p := firstP) (fun pre e rest hl => by
    refine ⟨_, rfl, ?_, ?_⟩
    · have g3 : (l.map nD).take pre.length = pre.map nD := by
        rw [show l.map nD = pre.map nD ++ (nD e :: rest.map nD) by rw [hl]; simp, List.take_left' (by simp)]
      simp only [setAll, logD, List.set_cons_succ, List.set_cons_zero, mB_eq, mBin_eq, mVar_eq, get_0, List.getElem?_cons_succ, vg_some, R.bnd_ok, mSl_eq, mNo_eq, mPart_eq, opSl_tup, cut_to, g3]
      rw [show opNotIn (.int (e : Int)) (D.tup (pre.map nD)) s = _ from opIn_tupK (f := fun b => !b) rfl (all_nD _) s, show anyF (.int (e : Int)) (pre.map nD) = pre.contains e from anyF_nD e pre]
      rfl
    · simp [setAll]) l [] [] rfl
  simp only [List.length_nil, List.nil_append] at e
  simp only [logD] at e ⊢
  simp [initE, enumD_nD, lcF_fixI hl2, e, firstsL]
theorem firsts_ok {y : Sys} (h : y.Ok) {l : List Nat} (hn : l.length ≤ 1000) (hx : ∀ x ∈ l, x < y.ops.length) (s) : m_firsts [y.D, logD l] s = .ok (logD (firstsL l)) s := by
  unfold m_firsts
  rw [mFn_eq]
  simp [initE, need_system_ok h, need_log_ok h hn hx, firsts_of_ok hn]
end VL
namespace VL
open PySem PySem.Spec PyProof.Rows L2

/-! ### the reachable states, by breadth -/
abbrev Fnd := List (Nat × List Nat)
def visit (a : Nat × List Nat) (k : Nat) (o : List Nat) (f : Fnd) : Fnd := if o.getD a.1 0 ∈ f.map (·.1) then f else f ++ [(o.getD a.1 0, a.2 ++ [k])]
def rowFrom (a : Nat × List Nat) : Nat → List (List Nat) → Fnd → Fnd
  | _, [], f => f
  | k, o :: os, f => rowFrom a (k + 1) os (visit a k o f)
def Sys.bfs (y : Sys) : Nat → Nat → Fnd → Fnd
  | 0, _, f => f
  | n + 1, at', f => if at' < f.length then y.bfs n (at' + 1) (rowFrom (f.getD at' (0, [])) 0 y.ops f) else f
def Sys.paths (y : Sys) : Fnd := y.bfs 2000 0 [(y.start, [])]
def Sys.states (y : Sys) : List Nat := y.paths.map (·.1)
structure FOk (y : Sys) (f : Fnd) : Prop where
  nd : (f.map (·.1)).Nodup
  lt : ∀ p ∈ f, p.1 < y.many
  lg : ∀ p ∈ f, ∀ x ∈ p.2, x < y.ops.length
  ll : ∀ p ∈ f, p.2.length < f.length
theorem nodup_len : ∀ (n : Nat) (l : List Nat), l.Nodup → (∀ x ∈ l, x < n) → l.length ≤ n
  | 0, l, _, h => by
    cases l with
    | nil => simp
    | cons a l => exact absurd (h a (List.mem_cons_self ..)) (by omega)
  | n + 1, l, hd, h => by
    have ih := nodup_len n (l.erase n) (hd.erase n) fun x hx => by
      have h1 := h x (List.mem_of_mem_erase hx)
      have h2 : x ≠ n := fun e => by
        subst e
        exact hd.not_mem_erase hx
      omega
    have : l.length ≤ (l.erase n).length + 1 := by
      rw [List.length_erase]
      split <;> omega
    omega
theorem FOk.len {y : Sys} {f : Fnd} (h : FOk y f) : f.length ≤ y.many := by
  have := nodup_len y.many (f.map (·.1)) h.nd fun x hx => by
    obtain ⟨p, hp, rfl⟩ := List.mem_map.1 hx
    exact h.lt p hp
  simpa using this
theorem FOk.visit {y : Sys} (hy : y.Ok) {f : Fnd} (h : FOk y f) {a : Nat × List Nat} (ha : a ∈ f) {k : Nat} {o : List Nat} (ho : y.ops[k]? = some o) : FOk y (visit a k o f) := by
  unfold VL.visit
  split
  · exact h
  · rename_i hn
    have hk : k < y.ops.length := (List.getElem?_eq_some_iff.1 ho).1
    have hom : o ∈ y.ops := List.mem_of_getElem? ho
    have hlen := hy.ol o hom
    have hlt : o.getD a.1 0 < y.many := by
      have h1 : a.1 < o.length := by rw [hlen]; exact h.lt a ha
      simp only [List.getD_eq_getElem?_getD, List.getElem?_eq_getElem h1, Option.getD_some]
      exact hy.oe o hom _ (List.getElem_mem _)
    refine ⟨?_, fun p hp => ?_, fun p hp x hx => ?_, fun p hp => ?_⟩
    · rw [List.map_append]
      refine List.nodup_append.2 ⟨h.nd, by simp, fun x hx z hz e => hn ?_⟩
      have hz' : z = o.getD a.1 0 := by simpa only [List.map_cons, List.map_nil, List.mem_singleton] using hz
      exact hz' ▸ e ▸ hx
    · rcases List.mem_append.1 hp with hp | hp
      · exact h.lt p hp
      · simp at hp; subst hp; exact hlt
    · rcases List.mem_append.1 hp with hp | hp
      · exact h.lg p hp x hx
      · simp at hp; subst hp
        rcases List.mem_append.1 hx with hx | hx
        · exact h.lg a ha x hx
        · simp at hx; subst hx; exact hk
    · rw [List.length_append, List.length_singleton]
      rcases List.mem_append.1 hp with hp | hp
      · have := h.ll p hp
        omega
      · have := h.ll a ha
        rw [List.mem_singleton] at hp
        subst hp
        rw [List.length_append, List.length_singleton]
        omega
theorem visit_mem {a b : Nat × List Nat} {k o f} (h : b ∈ f) : b ∈ visit a k o f := by
  unfold visit
  split
  · exact h
  · exact List.mem_append_left _ h
theorem visit_pre {a : Nat × List Nat} {k o f} : ∃ t, visit a k o f = f ++ t := by
  unfold visit
  split
  · exact ⟨[], by simp⟩
  · exact ⟨_, rfl⟩
theorem FOk.row {y : Sys} (hy : y.Ok) {a : Nat × List Nat} : ∀ (os pre : List (List Nat)) {f : Fnd}, y.ops = pre ++ os → FOk y f → a ∈ f → FOk y (rowFrom a pre.length os f)
  | [], pre, f, _, h, _ => h
  | o :: os, pre, f, e, h, ha => by
    have h1 := h.visit hy ha (k := pre.length) (o := o) (by rw [e]; simp)
    have := FOk.row hy os (pre ++ [o]) (by rw [e]; simp) h1 (visit_mem ha)
    simpa [rowFrom] using this
theorem FOk.bfs {y : Sys} (hy : y.Ok) : ∀ (n at' : Nat) {f : Fnd}, FOk y f → FOk y (y.bfs n at' f)
  | 0, _, _, h => h
  | n + 1, at', f, h => by
    unfold Sys.bfs
    split
    · rename_i hl
      have hm : f.getD at' (0, []) ∈ f := by
        rw [List.getD_eq_getElem?_getD, List.getElem?_eq_getElem hl, Option.getD_some]
        exact List.getElem_mem _
      exact FOk.bfs hy n (at' + 1) (FOk.row hy y.ops [] rfl h hm)
    · exact h
theorem FOk.start {y : Sys} (hy : y.Ok) : FOk y [(y.start, [])] := ⟨by simp, by simpa using hy.st, by simp, by simp⟩
theorem paths_ok {y : Sys} (hy : y.Ok) : FOk y y.paths := FOk.bfs hy _ _ (FOk.start hy)
end VL
namespace VL
open PySem PySem.Spec PyProof.Rows L2

theorem wp_while {t : MT} {b : MS} {K : Fl → S → Prop} (I : Nat → Ev → S → Prop) (zero : ∀ ρ s, ¬ I 0 ρ s)
    (turn : ∀ n ρ s, I (n + 1) ρ s → wp (t ρ s) fun k s1 => if k = true then wp (b ρ s1) (turnK (I n) K) else K (.nx ρ) s1) :
    ∀ (n : Nat) (ρ : Ev) (s : S), I n ρ s → wp (mWhile t b n ρ s) K
  | 0, ρ, s, h => absurd h (zero ρ s)
  | n + 1, ρ, s, h => by
    unfold mWhile
    rw [wp_bnd]
    refine (turn n ρ s h).mono fun k s1 h1 => ?_
    cases k with
    | false => exact h1
    | true =>
      rw [if_pos rfl] at h1
      rw [if_pos rfl, wp_bnd]
      refine wp.mono h1 fun fl s2 h2 => ?_
      cases fl with
      | nx ρ2 => exact wp_while I zero turn n ρ2 s2 h2
      | ct ρ2 => exact wp_while I zero turn n ρ2 s2 h2
      | bk ρ2 => exact h2
      | ret d => exact h2
def pairD (p : Nat × List Nat) : D := .tup [nD p.1, logD p.2]
/-- operations with their numbers -/
def enumO (k : Nat) (os : List (List Nat)) : List D := (os.zipIdx k).map fun p => .tup [.int (p.2 : Nat), opD p.1]
theorem enumD_ops (os : List (List Nat)) : enumD (os.map opD) = enumO 0 os := by
  unfold enumD enumO
  rw [List.zipIdx_map, List.map_map]
  rfl
@[simp] theorem enumO_nil (k) : enumO k [] = [] := rfl
@[simp] theorem enumO_cons (k o os) : enumO k (o :: os) = .tup [.int (k : Nat), opD o] :: enumO (k + 1) os := rfl
theorem set2a (s : S) (a b c : O) : (s ++ [a, b]).set s.length c = s ++ [c, b] := by rw [List.set_append_right _ _ (Nat.le_refl _)]; simp
theorem set2b (s : S) (a b c : O) : (s ++ [a, b]).set (s.length + 1) c = s ++ [a, c] := by rw [List.set_append_right _ _ (by omega)]; simp
theorem get2a (s : S) (a b : O) : (s ++ [a, b])[s.length]? = some a := by simp
theorem get2b (s : S) (a b : O) : (s ++ [a, b])[s.length + 1]? = some b := by rw [List.getElem?_append_right (by omega)]; simp
/-- the law's own paths -/
theorem law_paths_ok {y : Sys} (hy : y.Ok) (s : S) : wp (m__law_paths [y.D] s) fun d s' => d = .obj s.length ∧ s' = s ++ [.lst (y.paths.map pairD), .lst (y.states.map nD)] := by
  unfold m__law_paths
  rw [mFn_eq]
  have e1 : ∀ s, opIx y.D (.int 1) s = .ok (.int (y.start : Int)) s := fun s => by simp [Sys.D]
  simp [initE, e1]
  refine wp_while (fun n ρ s' => ∃ (at' : Nat) (f : Fnd) (x4 x5 x6 : Option D), FOk y f ∧ at' ≤ f.length ∧ y.many + 1 ≤ at' + n ∧ n ≤ 2000 ∧ y.bfs n at' f = y.paths ∧ s' = s ++ [.lst (f.map pairD), .lst (f.map fun p => nD p.1)] ∧
    ρ = [some y.D, some (.obj s.length), some (.int (at' : Int)), some (.obj (s.length + 1)), x4, x5, x6]) ?_ ?_ 2000 _ _ ⟨0, [(y.start, [])], _, _, _, FOk.start hy, by simp, by have := hy.m6; omega, by omega, rfl, by simp [pairD, logD], rfl⟩
  · rintro ρ s' ⟨at', f, x4, x5, x6, hf, h1, h2, _⟩
    have := hf.len
    omega
  · rintro n ρ s' ⟨at', f, x4, x5, x6, hf, h1, h2, h3, hb, rfl, rfl⟩
    have g1 : (s ++ [O.lst (f.map pairD), O.lst (f.map fun p => nD p.1)])[s.length]? = some (.lst (f.map pairD)) := by simp
    have t1 := fLen_obj _ g1
    simp only [mB_eq, mBin_eq, mVar_eq, get_0, List.getElem?_cons_succ, vg_some, R.bnd_ok, mCall_eq, mCons_eq, mNil_eq, t1, opLt_int, asB_ok, wp_ok, List.length_map]
    by_cases hl : at' < f.length
    · rw [if_pos (decide_eq_true (by omega))]
      rw [mSeq_eq, wp_bnd]
      have ha : f[at'] ∈ f := List.getElem_mem hl
      have hfa : f.getD at' (0, []) = f[at'] := by rw [List.getD_eq_getElem?_getD, List.getElem?_eq_getElem hl, Option.getD_some]
      have step : y.bfs (n + 1) at' f = y.bfs n (at' + 1) (rowFrom f[at'] 0 y.ops f) := by
        conv => lhs; unfold Sys.bfs
        rw [if_pos hl, hfa]
      rw [step] at hb
      simp only [mFor_eq, mEnum_eq, mCons_eq, mNil_eq, mBin_eq, mVar_eq, mC_eq, get_0, vg_some, R.bnd_ok, ix_ops, enumF_tup, forF_fix, enumD_ops]
      refine wp_loop (fun ds ρ s2 => ∃ (pre os : List (List Nat)) (g : Fnd) (x4 x5 x6 : Option D), y.ops = pre ++ os ∧ ds = enumO pre.length os ∧ FOk y g ∧ (∃ t, g = f ++ t) ∧ rowFrom f[at'] pre.length os g = rowFrom f[at'] 0 y.ops f ∧
        s2 = s ++ [.lst (g.map pairD), .lst (g.map fun p => nD p.1)] ∧ ρ = [some y.D, some (.obj s.length), some (.int (at' : Int)), some (.obj (s.length + 1)), x4, x5, x6]) ?_ ?_ _ _ _ ⟨[], y.ops, f, _, _, _, rfl, rfl, hf, ⟨[], by simp⟩, rfl, rfl, rfl⟩
      · rintro d ds ρ s2 ⟨pre, os, g, x4, x5, x6, ho, hd, hg, ⟨t, ht⟩, hr, rfl, rfl⟩
        cases os with
        | nil => cases hd
        | cons o os =>
          rw [enumO_cons] at hd
          injection hd with hd1 hd2
          subst hd1 hd2
          have hko : y.ops[pre.length]? = some o := by rw [ho]; simp
          have hom : o ∈ y.ops := List.mem_of_getElem? hko
          have hag : f[at'] ∈ g := by rw [ht]; exact List.mem_append_left _ ha
          have hlt : (f[at']).1 < o.length := by rw [hy.ol o hom]; exact hf.lt _ ha
          have hgl := hg.len
          have hm6 := hy.m6
          have i1 : ∀ s3 : S, s3[s.length]? = some (.lst (g.map pairD)) → opIx (.obj s.length) (.int (at' : Int)) s3 = .ok (pairD f[at']) s3 := fun s3 h3 => by
            rw [opIx_obj _ h3, atI_nat', List.getElem?_map, ht, List.getElem?_append_left hl, List.getElem?_eq_getElem hl]
            rfl
          have i2 : ∀ s3 : S, opIx (pairD f[at']) (.int 0) s3 = .ok (nD (f[at']).1) s3 := fun s3 => by simp [pairD]
          have i4 : ∀ s3 : S, opIx (pairD f[at']) (.int 1) s3 = .ok (logD (f[at']).2) s3 := fun s3 => by simp [pairD]
          have i3 : ∀ s3 : S, opIx (opD o) (nD (f[at']).1) s3 = .ok (nD (o.getD (f[at']).1 0)) s3 := fun s3 => by simp [opD, hlt]
          have m1 : opNotIn (nD (o.getD (f[at']).1 0)) (.obj (s.length + 1)) (s ++ [.lst (g.map pairD), .lst (g.map fun p => nD p.1)]) = .ok (.bl (!(g.map (·.1)).contains (o.getD (f[at']).1 0))) (s ++ [.lst (g.map pairD), .lst (g.map fun p => nD p.1)]) := by
            have hh : (g.map fun p => nD p.1) = (g.map (·.1)).map nD := by simp
            rw [show opNotIn (nD (o.getD (f[at']).1 0)) (.obj (s.length + 1)) (s ++ [.lst (g.map pairD), .lst (g.map fun p => nD p.1)]) = _ from opIn_objK (f := fun b => !b) rfl (by rw [hh]; exact all_nD _) (get2b ..), hh, anyF_nD]
          have hv := hg.visit hy hag hko
          simp only [nD] at i2 i3 m1
          simp only [gT_eq, gConsM_eq, gN_eq, gNilM_eq, List.length_cons, List.length_nil, Nat.reduceAdd, if_true, R.bnd_ok, wp_ok, List.set_cons_succ, List.set_cons_zero, mSeq_eq, mAsg_eq, mBin_eq, mVar_eq, mC_eq, get_0, List.getElem?_cons_succ, vg_some, i1 _ (get2a ..), i2, i3, seqF_nx, mIfS_eq, mB_eq, m1, asB_ok]
          rw [rowFrom] at hr
          by_cases hin : o.getD (f[at']).1 0 ∈ g.map (·.1)
          · have hc : (g.map (·.1)).contains (o.getD (f[at']).1 0) = true := by simpa only [List.contains_iff_mem] using hin
            have hvv : visit f[at'] pre.length o g = g := by unfold visit; rw [if_pos hin]
            rw [hvv] at hr
            simp only [hc, Bool.not_true, Bool.false_eq_true, if_false, mSkip_eq, wp_ok, turnK_nx]
            exact ⟨pre ++ [o], os, g, _, _, _, by rw [ho]; simp, by simp, hg, ⟨t, ht⟩, by simpa using hr, rfl, rfl⟩
          · have hc : (g.map (·.1)).contains (o.getD (f[at']).1 0) = false := by
              have := mt List.contains_iff_mem.1 hin
              simpa using this
            have hvv : visit f[at'] pre.length o g = g ++ [(o.getD (f[at']).1 0, (f[at']).2 ++ [pre.length])] := by unfold visit; rw [if_neg hin]
            rw [hvv] at hr hv
            have o1 : isLstO (s ++ [O.lst (g.map pairD), .lst (g.map fun p => nD p.1)]) (.obj (s.length + 1)) = true := isLstO_obj (get2b ..)
            have a1 := fAppend_obj (get2b s (.lst (g.map pairD)) (.lst (g.map fun p => nD p.1))) (by simp; omega) (.int ((o.getD (f[at']).1 0 : Nat) : Int))
            rw [set2b] at a1
            have o2 : isLstO (s ++ [O.lst (g.map pairD), .lst ((g.map fun p => nD p.1) ++ [.int ((o.getD (f[at']).1 0 : Nat) : Int)])]) (.obj s.length) = true := isLstO_obj (get2a ..)
            have a2 := fun d => fAppend_obj (get2a s (.lst (g.map pairD)) (.lst ((g.map fun p => nD p.1) ++ [.int ((o.getD (f[at']).1 0 : Nat) : Int)]))) (by simp; omega) d
            simp only [set2a] at a2
            have hll : (f[at']).2.length + 1 ≤ 1000000 := by
              have := hf.ll _ ha
              have := hf.len
              omega
            simp only [hc, Bool.not_false, if_true, mSeq_eq, mDrop_eq, mAppend_eq, mVar_eq, get_0, List.getElem?_cons_succ, vg_some, R.bnd_ok, o1, a1, seqF_nx, o2, mTup_eq, mCons_eq, mNil_eq, mBin_eq, mC_eq, i1 _ (get2a ..), i4, logD, List.length_cons, List.length_nil, Nat.reduceAdd, LIM_eq, Nat.reduceLeDiff, opAdd_tup, List.length_map, hll, a2, wp_ok, turnK_nx]
            refine ⟨pre ++ [o], os, _, _, _, _, by rw [ho]; simp, by simp, hv, ⟨t ++ [(o.getD (f[at']).1 0, (f[at']).2 ++ [pre.length])], by rw [ht]; simp⟩, by simpa using hr, ?_, rfl⟩
            simp [pairD, logD]
      · rintro ρ s2 ⟨pre, os, g, x4, x5, x6, ho, hd, hg, ⟨t, ht⟩, hr, rfl, rfl⟩
        cases os with
        | cons o os => cases hd
        | nil =>
          rw [rowFrom] at hr
          subst hr
          have hlen : at' + 1 ≤ (rowFrom f[at'] 0 y.ops f).length := by rw [ht]; simp; omega
          have e3 : (at' : Int) + 1 = ((at' + 1 : Nat) : Int) := by omega
          simp only [seqF_nx, mAsg_eq, mBin_eq, mVar_eq, get_0, List.getElem?_cons_succ, vg_some, R.bnd_ok, mC_eq, opAdd_int, gN_eq, List.set_cons_succ, List.set_cons_zero, wp_ok, turnK_nx]
          exact ⟨at' + 1, _, _, _, _, hg, hlen, by omega, by omega, hb, rfl, by rw [e3]⟩
    · rw [if_neg (by simp; omega)]
      have : y.bfs (n + 1) at' f = f := by unfold Sys.bfs; rw [if_neg hl]
      rw [this] at hb
      subst hb
      simp [Sys.states]
end VL
namespace VL
open PySem PySem.Spec PyProof.Rows L2

def kvD (p : Nat × List Nat) : D × D := (nD p.1, logD p.2)
theorem look_kv (st : Nat) : ∀ f : Fnd, look keyD (f.map kvD) (Sum.inl (st : Int)) = (f.find? fun p => decide (p.1 = st)).map fun p => logD p.2
  | [] => rfl
  | p :: f => by
    have ih := look_kv st f
    unfold look at ih ⊢
    simp only [List.map_cons, List.find?_cons]
    have e : decide (keyD (kvD p).1 = some (Sum.inl (st : Int))) = decide (p.1 = st) := by
      simp only [kvD, keyD, Option.some.injEq, Sum.inl.injEq]
      apply decide_eq_decide.2
      omega
    rw [e]
    by_cases h : p.1 = st
    · simp [h, kvD]
    · simp only [h, decide_false]
      exact ih
theorem look_some {y : Sys} {f : Fnd} (h : (f.map (·.1)).Nodup) {a : Nat × List Nat} (ha : a ∈ f) : look keyD (f.map kvD) (Sum.inl (a.1 : Int)) = some (logD a.2) := by
  rw [look_kv]
  induction f with
  | nil => cases ha
  | cons p f ih =>
    rw [List.find?_cons]
    by_cases e : p.1 = a.1
    · simp only [e, decide_true]
      rcases List.mem_cons.1 ha with rfl | ha
      · rfl
      · simp only [List.map_cons, List.nodup_cons] at h
        exact absurd (e ▸ List.mem_map_of_mem ha) h.1
    · simp only [e, decide_false]
      rcases List.mem_cons.1 ha with rfl | ha
      · exact absurd rfl e
      · simp only [List.map_cons, List.nodup_cons] at h
        exact ih h.2 ha
theorem look_none {f : Fnd} {st : Nat} : (look keyD (f.map kvD) (Sum.inl (st : Int))).isSome = decide (st ∈ f.map (·.1)) := by
  rw [look_kv, Option.isSome_map]
  by_cases h : st ∈ f.map (·.1)
  · rw [decide_eq_true h, List.find?_isSome]
    obtain ⟨p, hp, e⟩ := List.mem_map.1 h
    exact ⟨p, hp, decide_eq_true e⟩
  · rw [decide_eq_false h]
    cases hh : f.find? fun p => decide (p.1 = st) with
    | none => rfl
    | some p =>
      have h1 := List.find?_some hh
      have h2 := List.mem_of_find?_eq_some hh
      exact absurd (of_decide_eq_true h1 ▸ List.mem_map_of_mem h2) h
theorem put_new {f : Fnd} {st : Nat} {v : D} (h : st ∉ f.map (·.1)) : put keyD (f.map kvD) (nD st) (Sum.inl (st : Int)) v = f.map kvD ++ [(nD st, v)] := by
  unfold put
  rw [if_neg]
  intro z
  obtain ⟨p, hp, e⟩ := List.any_eq_true.1 z
  obtain ⟨q, hq, rfl⟩ := List.mem_map.1 hp
  have e := of_decide_eq_true e
  simp only [kvD, keyD, Option.some.injEq, Sum.inl.injEq] at e
  have e : q.1 = st := by omega
  exact h (e ▸ List.mem_map_of_mem hq)
theorem paths_of_ok {y : Sys} (hy : y.Ok) (s : S) : wp (m_paths_of [y.D] s) fun d s' => d = .obj s.length ∧ s' = s ++ [.dct (y.paths.map kvD), .lst (y.states.map nD)] := by
  unfold m_paths_of
  rw [mFn_eq]
  have e1 : ∀ s, opIx y.D (.int 1) s = .ok (.int (y.start : Int)) s := fun s => by simp [Sys.D]
  have d1 : ∀ ρ : Ev, ρ[0]? = some (some y.D) → mDisp1 (mBin opIx (mVar 0) (mC (.int 1))) (mTup mNil) ρ s = .ok (.obj s.length) (s ++ [.dct [(nD y.start, logD [])]]) := fun ρ h => by
    unfold mDisp1
    simp [h, e1, keyD, logD]
  have hi : initE 7 [y.D] = [some y.D, none, none, none, none, none, none] := rfl
  rw [hi, mSeq_eq, mAsg_eq, d1 _ rfl]
  simp [e1]
  refine wp_while (fun n ρ s' => ∃ (at' : Nat) (f : Fnd) (x4 x5 x6 : Option D), FOk y f ∧ at' ≤ f.length ∧ y.many + 1 ≤ at' + n ∧ n ≤ 2000 ∧ y.bfs n at' f = y.paths ∧ s' = s ++ [.dct (f.map kvD), .lst (f.map fun p => nD p.1)] ∧
    ρ = [some y.D, some (.obj s.length), some (.obj (s.length + 1)), some (.int (at' : Int)), x4, x5, x6]) ?_ ?_ 2000 _ _ ⟨0, [(y.start, [])], _, _, _, FOk.start hy, by simp, by have := hy.m6; omega, by omega, rfl, by simp [kvD, logD], rfl⟩
  · rintro ρ s' ⟨at', f, x4, x5, x6, hf, h1, h2, _⟩
    have := hf.len
    omega
  · rintro n ρ s' ⟨at', f, x4, x5, x6, hf, h1, h2, h3, hb, rfl, rfl⟩
    have g1 := get2b s (.dct (f.map kvD)) (.lst (f.map fun p => nD p.1))
    have t1 := fLen_obj _ g1
    simp only [mB_eq, mBin_eq, mVar_eq, get_0, List.getElem?_cons_succ, vg_some, R.bnd_ok, mCall_eq, mCons_eq, mNil_eq, t1, opLt_int, asB_ok, wp_ok, List.length_map]
    by_cases hl : at' < f.length
    · rw [if_pos (decide_eq_true (by omega))]
      have ha : f[at'] ∈ f := List.getElem_mem hl
      have hfa : f.getD at' (0, []) = f[at'] := by rw [List.getD_eq_getElem?_getD, List.getElem?_eq_getElem hl, Option.getD_some]
      have step : y.bfs (n + 1) at' f = y.bfs n (at' + 1) (rowFrom f[at'] 0 y.ops f) := by
        conv => lhs; unfold Sys.bfs
        rw [if_pos hl, hfa]
      rw [step] at hb
      have i1 : opIx (.obj (s.length + 1)) (.int (at' : Int)) (s ++ [.dct (f.map kvD), .lst (f.map fun p => nD p.1)]) = .ok (nD (f[at']).1) (s ++ [.dct (f.map kvD), .lst (f.map fun p => nD p.1)]) := by
        rw [opIx_obj _ g1, atI_nat', List.getElem?_map, List.getElem?_eq_getElem hl]
        rfl
      have aug : ∀ x4 x5 x6 : Option D, ∀ s2 : S, mAugAdd 3 (mC (.int 1)) [some y.D, some (.obj s.length), some (.obj (s.length + 1)), some (.int (at' : Int)), x4, x5, x6] s2 = .ok (.nx [some y.D, some (.obj s.length), some (.obj (s.length + 1)), some (.int (at' + 1 : Nat)), x4, x5, x6]) s2 := fun x4 x5 x6 s2 => rfl
      rw [mSeq_eq, wp_bnd, mAsg_eq]
      simp only [mBin_eq, mVar_eq, get_0, List.getElem?_cons_succ, vg_some, R.bnd_ok, i1, gN_eq, List.set_cons_succ, List.set_cons_zero, wp_ok, seqF_nx]
      rw [mSeq_eq, wp_bnd, aug]
      simp only [wp_ok, seqF_nx, mFor_eq, mEnum_eq, mCons_eq, mNil_eq, mBin_eq, mVar_eq, mC_eq, get_0, vg_some, R.bnd_ok, ix_ops, enumF_tup, forF_fix, enumD_ops]
      refine wp_loop (fun ds ρ s2 => ∃ (pre os : List (List Nat)) (g : Fnd) (x5 x6 : Option D), y.ops = pre ++ os ∧ ds = enumO pre.length os ∧ FOk y g ∧ (∃ t, g = f ++ t) ∧ rowFrom f[at'] pre.length os g = rowFrom f[at'] 0 y.ops f ∧
        s2 = s ++ [.dct (g.map kvD), .lst (g.map fun p => nD p.1)] ∧ ρ = [some y.D, some (.obj s.length), some (.obj (s.length + 1)), some (.int (at' + 1 : Nat)), some (.int ((f[at']).1 : Nat)), x5, x6]) ?_ ?_ _ _ _ ⟨[], y.ops, f, _, _, rfl, rfl, hf, ⟨[], by simp⟩, rfl, rfl, rfl⟩
      · rintro d ds ρ s2 ⟨pre, os, g, x5, x6, ho, hd, hg, ⟨t, ht⟩, hr, rfl, rfl⟩
        cases os with
        | nil => cases hd
        | cons o os =>
          rw [enumO_cons] at hd
          injection hd with hd1 hd2
          subst hd1 hd2
          have hko : y.ops[pre.length]? = some o := by rw [ho]; simp
          have hom : o ∈ y.ops := List.mem_of_getElem? hko
          have hag : f[at'] ∈ g := by rw [ht]; exact List.mem_append_left _ ha
          have hlt : (f[at']).1 < o.length := by rw [hy.ol o hom]; exact hf.lt _ ha
          have hgl := hg.len
          have hm6 := hy.m6
          have i3 : ∀ s3 : S, opIx (opD o) (.int ((f[at']).1 : Int)) s3 = .ok (.int (o.getD (f[at']).1 0 : Nat)) s3 := fun s3 => by simp [opD, hlt]
          have dg : ∀ st : Nat, ∀ b : O, dgetD (s ++ [.dct (g.map kvD), b]) (.obj s.length) (.int (st : Int)) = some (look keyD (g.map kvD) (Sum.inl (st : Int))) := fun st b => by
            unfold dgetD
            simp only [get2a]
            rfl
          have m1 : opNotInD (.int (o.getD (f[at']).1 0 : Nat)) (.obj s.length) (s ++ [.dct (g.map kvD), .lst (g.map fun p => nD p.1)]) = .ok (.bl (!decide (o.getD (f[at']).1 0 ∈ g.map (·.1)))) (s ++ [.dct (g.map kvD), .lst (g.map fun p => nD p.1)]) := by
            show opInU (fun b => !b) _ _ _ = _
            unfold opInU
            rw [dg]
            show R.ok (D.bl (!(look keyD (g.map kvD) (Sum.inl ((o.getD (f[at']).1 0 : Nat) : Int))).isSome)) _ = _
            rw [look_none]
          have i4 : opIxU (.obj s.length) (.int ((f[at']).1 : Int)) (s ++ [.dct (g.map kvD), .lst (g.map fun p => nD p.1)]) = .ok (logD (f[at']).2) (s ++ [.dct (g.map kvD), .lst (g.map fun p => nD p.1)]) := by
            unfold opIxU
            rw [dg, look_some (y := y) hg.nd hag]
          have hv := hg.visit hy hag hko
          simp only [gT_eq, gConsM_eq, gN_eq, gNilM_eq, List.length_cons, List.length_nil, Nat.reduceAdd, if_true, R.bnd_ok, wp_ok, List.set_cons_succ, List.set_cons_zero, mIfS_eq, mB_eq, mBin_eq, mVar_eq, get_0, List.getElem?_cons_succ, vg_some, i3, m1, asB_ok]
          rw [rowFrom] at hr
          by_cases hin : o.getD (f[at']).1 0 ∈ g.map (·.1)
          · have hvv : visit f[at'] pre.length o g = g := by unfold visit; rw [if_pos hin]
            rw [hvv] at hr
            simp only [decide_eq_true hin, Bool.not_true, Bool.false_eq_true, if_false, mSkip_eq, wp_ok, turnK_nx]
            exact ⟨pre ++ [o], os, g, _, _, by rw [ho]; simp, by simp, hg, ⟨t, ht⟩, by simpa using hr, rfl, rfl⟩
          · have hvv : visit f[at'] pre.length o g = g ++ [(o.getD (f[at']).1 0, (f[at']).2 ++ [pre.length])] := by unfold visit; rw [if_neg hin]
            rw [hvv] at hr hv
            have hll : (f[at']).2.length + 1 ≤ 1000000 := by
              have := hf.ll _ ha
              have := hf.len
              omega
            have st1 : ∀ v, setIxU (.obj s.length) (.int (o.getD (f[at']).1 0 : Nat)) v (s ++ [.dct (g.map kvD), .lst (g.map fun p => nD p.1)]) = some (s ++ [.dct (g.map kvD ++ [(nD (o.getD (f[at']).1 0), v)]), .lst (g.map fun p => nD p.1)]) := fun v => by
              unfold setIxU dputD
              simp only [get2a]
              show (match (some (Sum.inl ((o.getD (f[at']).1 0 : Nat) : Int)) : Option Key).bind (fun k => if (g.map kvD).length < LIM then some ((s ++ [O.dct (g.map kvD), O.lst (g.map fun p => nD p.1)]).set s.length (O.dct (put keyD (g.map kvD) (.int (o.getD (f[at']).1 0 : Nat)) k v))) else none) with | some s' => some s' | none => _) = _
              rw [Option.bind_some, if_pos (by simp; omega), put_new hin, set2a]
            have o1 : ∀ A : O, isLstO (s ++ [A, .lst (g.map fun p => nD p.1)]) (.obj (s.length + 1)) = true := fun A => isLstO_obj (get2b ..)
            have a1 := fun A d => fAppend_obj (get2b s A (.lst (g.map fun p => nD p.1))) (by simp; omega) d
            simp only [set2b] at a1
            simp only [decide_eq_false hin, Bool.not_false, if_true, mSeq_eq, mAsg_eq, mBin_eq, mVar_eq, get_0, List.getElem?_cons_succ, vg_some, R.bnd_ok, i4, mTup_eq, mCons_eq, mNil_eq, List.length_cons, List.length_nil, Nat.reduceAdd, LIM_eq, Nat.reduceLeDiff, logD, opAdd_tup, List.length_map, hll, gIxU, i3, st1, seqF_nx, mDrop_eq, mAppend_eq, o1, a1, wp_ok, turnK_nx]
            refine ⟨pre ++ [o], os, _, _, _, by rw [ho]; simp, by simp, hv, ⟨t ++ [(o.getD (f[at']).1 0, (f[at']).2 ++ [pre.length])], by rw [ht]; simp⟩, by simpa using hr, ?_, rfl⟩
            simp [kvD, logD]
      · rintro ρ s2 ⟨pre, os, g, x5, x6, ho, hd, hg, ⟨t, ht⟩, hr, rfl, rfl⟩
        cases os with
        | cons o os => cases hd
        | nil =>
          rw [rowFrom] at hr
          subst hr
          have hlen : at' + 1 ≤ (rowFrom f[at'] 0 y.ops f).length := by rw [ht]; simp; omega
          simp only [turnK_nx]
          exact ⟨at' + 1, _, _, _, _, hg, hlen, by omega, by omega, hb, rfl, rfl⟩
    · rw [if_neg (by simp; omega)]
      have : y.bfs (n + 1) at' f = f := by unfold Sys.bfs; rw [if_neg hl]
      rw [this] at hb
      subst hb
      simp [Sys.states]
end VL
namespace VL
open PySem PySem.Spec PyProof.Rows L2

/-- ascending -/
def srt (l : List Nat) : List Nat := (isort (l.map fun (n : Nat) => (n : Int))).map Int.toNat
theorem srt_D (l : List Nat) : (isort (l.map fun (n : Nat) => (n : Int))).map D.int = (srt l).map nD := by
  unfold srt
  rw [List.map_map]
  refine List.map_congr_left fun x hx => ?_
  have := (isort_perm _).mem_iff.1 hx
  obtain ⟨n, _, rfl⟩ := List.mem_map.1 this
  simp
theorem srt_mem {l : List Nat} {x : Nat} : x ∈ srt l ↔ x ∈ l := by
  unfold srt
  rw [List.mem_map]
  constructor
  · rintro ⟨z, hz, rfl⟩
    obtain ⟨n, hn, rfl⟩ := List.mem_map.1 ((isort_perm _).mem_iff.1 hz)
    simpa using hn
  · intro h
    exact ⟨x, (isort_perm _).mem_iff.2 (List.mem_map_of_mem h), by simp⟩
theorem srt_len (l : List Nat) : (srt l).length = l.length := by
  unfold srt
  rw [List.length_map, (isort_perm _).length_eq, List.length_map]
theorem keyI_kv : ∀ f : Fnd, keyI (f.map kvD) = some (f.map fun p => (p.1 : Int))
  | [] => rfl
  | p :: f => by
    have := keyI_kv f
    simp only [List.map_cons, kvD, keyI] at this ⊢
    rw [this]
    rfl
def Sys.reach (y : Sys) : List Nat := srt y.states
theorem reach_lt {y : Sys} (hy : y.Ok) {x : Nat} (h : x ∈ y.reach) : x < y.many := by
  have := srt_mem.1 h
  obtain ⟨p, hp, rfl⟩ := List.mem_map.1 this
  exact (paths_ok hy).lt p hp
theorem reach_len {y : Sys} (hy : y.Ok) : y.reach.length ≤ y.many := by
  unfold Sys.reach Sys.states
  rw [srt_len, List.length_map]
  exact (paths_ok hy).len
theorem reached_ok {y : Sys} (hy : y.Ok) (s : S) : wp (m_reached [y.D] s) fun d s' => d = logD y.reach ∧ ∃ t, s' = s ++ t := by
  unfold m_reached
  rw [mFn_eq]
  simp [initE]
  refine (paths_of_ok hy s).mono ?_
  rintro d s1 ⟨rfl, rfl⟩
  have hl : (y.paths.map fun p => (p.1 : Int)).length < 64 := by
    have := (paths_ok hy).len
    have := hy.m6
    simp; omega
  have e : fSortedU [.obj s.length] (s ++ [.dct (y.paths.map kvD), .lst (y.states.map nD)]) = .ok (.lst (y.reach.map nD)) (s ++ [.dct (y.paths.map kvD), .lst (y.states.map nD)]) := by
    unfold fSortedU
    simp only [get2a, keyI_kv]
    rw [if_pos hl]
    have : (y.paths.map fun p => (p.1 : Int)) = y.states.map fun (n : Nat) => (n : Int) := by simp [Sys.states]
    rw [this, srt_D]
    rfl
  simp [e]
  rfl
end VL
namespace VL
open PySem PySem.Spec PyProof.Rows L2

theorem mLcGo_live {n : Nat} {t : Tg} {el : ME} {ρw : Ev} {s : S} {xs : List D} {f : D → D} (h : s[n]? = some (.lst xs)) (hp : ∀ d ∈ xs, ∃ ρ1, tgM t d ρw = some ρ1 ∧ el ρ1 s = .ok (f d) s) :
    ∀ (m i : Nat) (acc : List D), i + m = xs.length → mLcGo (.live n) t mYes el ρw m i acc s = .ok (acc ++ (xs.drop i).map f) s
  | 0, i, acc, e => by
    have hs : srcAt s (.live n) = some xs := by simp [srcAt, h]
    simp only [mLcGo, hs]
    rw [if_pos (by omega), List.drop_of_length_le (by omega)]
    simp
  | m + 1, i, acc, e => by
    have hs : srcAt s (.live n) = some xs := by simp [srcAt, h]
    have hi : i < xs.length := by omega
    obtain ⟨ρ1, h1, h2⟩ := hp xs[i] (List.getElem_mem hi)
    have ih := mLcGo_live h hp m (i + 1) (acc ++ [f xs[i]]) (by omega)
    simp only [mLcGo, hs, List.getElem?_eq_getElem hi, h1, mYes_eq, noX_ok, R.bnd_ok, if_true, h2, ih]
    rw [List.drop_eq_getElem_cons hi, List.map_cons, List.append_assoc, List.singleton_append]
theorem lcF_live {n : Nat} {fi : List D → S → R D} {t : Tg} {el : ME} {vs : List Nat} {ρ : Ev} {s : S} {xs : List D} {f : D → D} (h : s[n]? = some (.lst xs)) (hl : xs.length ≤ 1000000) (hs : (t.slots.all fun i => vs.contains i) = true)
    (hp : ∀ d ∈ xs, ∃ ρ1, tgM t d (wipeD ρ vs) = some ρ1 ∧ el ρ1 s = .ok (f d) s) : lcF fi t mYes el vs ρ (.live n) s = fi (xs.map f) s := by
  show (match srcAt s (.live n) with
    | some xs => if xs.length ≤ LIM ∧ (∀ i ∈ t.slots, i ∈ vs) then mLcGo (.live n) t mYes el (wipeD ρ vs) xs.length 0 [] s else .bad
    | none => R.bad).bnd fi = _
  rw [show srcAt s (.live n) = some xs by simp [srcAt, h]]
  show (if xs.length ≤ LIM ∧ (∀ i ∈ t.slots, i ∈ vs) then _ else R.bad).bnd fi = _
  rw [if_pos ⟨hl, fun i hi => by simpa using List.all_eq_true.1 hs i hi⟩, mLcGo_live h hp _ 0 [] (by omega)]
  simp
theorem srcF_obj {n : Nat} {s : S} {xs : List D} (h : s[n]? = some (.lst xs)) : srcF (.obj n) s = .ok (.live n) s := by
  show (match s[n]? with | some (.lst _) => R.ok (Src.live n) s | _ => .bad) = _
  rw [h]
/-- the law's own reachable states -/
theorem law_reached_ok {y : Sys} (hy : y.Ok) (s : S) : wp (m__law_reached [y.D] s) fun d s' => d = .lst (y.reach.map nD) ∧ ∃ t, s' = s ++ t := by
  unfold m__law_reached
  rw [mFn_eq]
  simp [initE]
  refine (law_paths_ok hy s).mono ?_
  rintro d s1 ⟨rfl, rfl⟩
  have g := get2a s (.lst (y.paths.map pairD)) (.lst (y.states.map nD))
  have hlen : (y.paths.map pairD).length ≤ 1000000 := by
    have := (paths_ok hy).len
    have := hy.m6
    simp; omega
  rw [srcF_obj g]
  simp only [wp_ok]
  rw [lcF_live g hlen rfl (f := fun d => match d with | .tup [a, _] => a | d => d) (by
    intro d hd
    obtain ⟨p, hp, rfl⟩ := List.mem_map.1 hd
    exact ⟨_, rfl, by simp [pairD, setAll]⟩)]
  have e : (y.paths.map pairD).map (fun d => match d with | .tup [a, _] => a | d => d) = (y.states.map fun (n : Nat) => (n : Int)).map D.int := by
    simp [Sys.states, pairD, Function.comp_def]
  rw [finL_eq, wp_ok, e, fSorted_lst, srt_D]
  simp
  rfl
end VL
namespace VL
open PySem PySem.Spec PyProof.Rows L2

/-- the first state of some from which two logs lead apart -/
def Sys.apartIn (y : Sys) (a b : List Nat) (xs : List Nat) : Option Nat := xs.find? fun st => decide (y.run st a ≠ y.run st b)
theorem loop_apart {y : Sys} (hy : y.Ok) {a b : List Nat} (ha : ∀ x ∈ a, x < y.ops.length) (hb : ∀ x ∈ b, x < y.ops.length) {m : FM} (hm : ∀ (l : List Nat) (st : Nat) (s : S), st < y.many → (∀ x ∈ l, x < y.ops.length) → m [y.D, nD st, logD l] s = .ok (nD (y.run st l)) s)
    {K : Fl → S → Prop} {s : S} : ∀ (xs : List Nat) (x : Option D), (∀ x ∈ xs, x < y.many) → (∀ st, y.apartIn a b xs = some st → K (.ret (nD st)) s) → (∀ x', y.apartIn a b xs = none → K (.nx [some y.D, some (logD a), some (logD b), x']) s) →
    wp (lloop (gN 3) (mIfS (mB (mBin opNe (mUser m (mCons (mVar 0) (mCons (mVar 3) (mCons (mVar 1) mNil)))) (mUser m (mCons (mVar 0) (mCons (mVar 3) (mCons (mVar 2) mNil))))))
(mRet (mVar 3)) mSkip) (xs.map nD) [some y.D, some (logD a), some (logD b), x] s) K
  | [], x, h, k1, k2 => k2 x rfl
  | st :: xs, x, h, k1, k2 => by
    have hs := h st (List.mem_cons_self ..)
    have e1 := hm a st s hs ha
    have e2 := hm b st s hs hb
    simp only [List.map_cons]
    unfold lloop
    simp only [gN_eq, R.bnd_ok, List.set_cons_succ, List.set_cons_zero, mIfS_eq, mB_eq, mBin_eq, mUser_eq, mCons_eq, mVar_eq, mNil_eq, get_0, List.getElem?_cons_succ, vg_some, e1, e2, retag_ok, opEqF_int, asB_ok, wp_bnd]
    by_cases hne : y.run st a = y.run st b
    · have : y.apartIn a b (st :: xs) = y.apartIn a b xs := by simp [Sys.apartIn, hne]
      rw [this] at k1 k2
      simp only [hne, beq_self_eq_true, Bool.not_true, Bool.false_eq_true, if_false, mSkip_eq, wp_ok, loopF_nx]
      exact loop_apart hy ha hb hm xs _ (fun x hx => h x (List.mem_cons_of_mem _ hx)) k1 k2
    · have hb2 : (((y.run st a : Nat) : Int) == ((y.run st b : Nat) : Int)) = false := by
        rw [beq_eq_false_iff_ne]; omega
      simp only [hb2, Bool.not_false, if_true, mRet_eq, mVar_eq, get_0, List.getElem?_cons_succ, vg_some, R.bnd_ok, wp_ok, loopF_ret]
      exact k1 st (by simp [Sys.apartIn, hne])
def Sys.apart (y : Sys) (a b : List Nat) : Option Nat := y.apartIn a b y.reach
theorem apart_comm (y : Sys) (a b : List Nat) : y.apart a b = y.apart b a := by
  unfold Sys.apart Sys.apartIn
  congr 1
  funext st
  apply decide_eq_decide.2
  exact ⟨Ne.symm, Ne.symm⟩
theorem first_apart_ok {y : Sys} (hy : y.Ok) {a b : List Nat} (ha : ∀ x ∈ a, x < y.ops.length) (hb : ∀ x ∈ b, x < y.ops.length) (s : S) : wp (m_first_apart [y.D, logD a, logD b] s) fun d s' => d = kD (y.apart a b) ∧ ∃ t, s' = s ++ t := by
  unfold m_first_apart
  rw [mFn_eq]
  simp [initE]
  refine (reached_ok hy s).mono ?_
  rintro d s1 ⟨rfl, t, rfl⟩
  simp only [logD, srcF_tup, wp_ok, forF_fix]
  refine loop_apart hy ha hb (fun l st s hs hx => run_from_ok hy hs hx s) y.reach none (fun x hx => reach_lt hy hx) ?_ ?_
  · intro st e
    simp [Sys.apart, e, kD]
  · intro x' e
    simp [Sys.apart, e, kD]
theorem apart_ok {y : Sys} (hy : y.Ok) {a b : List Nat} (la : a.length ≤ 1000) (lb : b.length ≤ 1000) (ha : ∀ x ∈ a, x < y.ops.length) (hb : ∀ x ∈ b, x < y.ops.length) (s : S) : wp (m_apart [y.D, logD a, logD b] s) fun d s' => d = kD (y.apart a b) ∧ ∃ t, s' = s ++ t := by
  unfold m_apart
  rw [mFn_eq]
  simp [initE, need_system_ok hy, need_log_ok hy la ha, need_log_ok hy lb hb]
  exact first_apart_ok hy ha hb s
end VL
namespace VL
open PySem PySem.Spec PyProof.Rows L2

/-! ### what a def leaves behind in the store, by name -/
def gar (m : FM) (ds : List D) (s : S) : S := match m ds s with
  | .ok _ s' => s'.drop s.length
  | _ => []
theorem eq_gar {m : FM} {ds : List D} {s : S} {a : D} (h : wp (m ds s) fun d s' => d = a ∧ ∃ t, s' = s ++ t) : m ds s = .ok a (s ++ gar m ds s) := by
  obtain ⟨d, s', e, rfl, t, rfl⟩ := h.ok
  rw [e]
  simp [gar, e]
theorem reached_eq {y : Sys} (hy : y.Ok) (s : S) : m_reached [y.D] s = .ok (logD y.reach) (s ++ gar m_reached [y.D] s) := eq_gar (reached_ok hy s)
theorem law_reached_eq {y : Sys} (hy : y.Ok) (s : S) : m__law_reached [y.D] s = .ok (.lst (y.reach.map nD)) (s ++ gar m__law_reached [y.D] s) := eq_gar (law_reached_ok hy s)

/-! ### loops that look for something -/
def findQ (J : Ev → S → Prop) (I : S → Prop) : Option D → Fl → S → Prop
  | some r, fl, s => fl = .ret r ∧ I s
  | none, .nx ρ, s => J ρ s
  | none, .ct ρ, s => J ρ s
  | none, _, _ => False
@[simp] theorem findQ_some (J I r fl s) : findQ J I (some r) fl s = (fl = .ret r ∧ I s) := rfl
@[simp] theorem findQ_nx (J I ρ s) : findQ J I none (.nx ρ) s = J ρ s := rfl
@[simp] theorem findQ_ct (J I ρ s) : findQ J I none (.ct ρ) s = J ρ s := rfl
section
variable {α : Type} {f : α → D}
theorem wp_find {g : MG} {b : MS} {K : Fl → S → Prop} (J : Ev → S → Prop) (I : S → Prop) (P : α → Option D) : ∀ (xs : List α) (ρ : Ev) (s : S), J ρ s →
    (∀ x ∈ xs, ∀ ρ s, J ρ s → wp (g (f x) ρ s) fun ρ1 s1 => wp (b ρ1 s1) (findQ J I (P x))) → (∀ r s', xs.findSome? P = some r → I s' → K (.ret r) s') → (∀ ρ' s', xs.findSome? P = none → J ρ' s' → K (.nx ρ') s') → wp (lloop g b (xs.map f) ρ s) K
  | [], ρ, s, hj, _, _, k2 => k2 ρ s rfl hj
  | x :: xs, ρ, s, hj, ht, k1, k2 => by
    simp only [List.map_cons]
    unfold lloop
    rw [wp_bnd]
    refine (ht x (List.mem_cons_self ..) ρ s hj).mono fun ρ1 s1 h1 => ?_
    rw [wp_bnd]
    refine h1.mono fun fl s2 h2 => ?_
    cases hp : P x with
    | some r =>
      rw [hp] at h2
      obtain ⟨rfl, hi⟩ := h2
      exact k1 r s2 (by simp [hp]) hi
    | none =>
      rw [hp] at h2
      have e : (x :: xs).findSome? P = xs.findSome? P := by simp [hp]
      rw [e] at k1 k2
      have more := fun ρ2 s2 (hj2 : J ρ2 s2) => wp_find J I P xs ρ2 s2 hj2 (fun x hx => ht x (List.mem_cons_of_mem _ hx)) k1 k2
      cases fl with
      | nx ρ2 => exact more ρ2 s2 h2
      | ct ρ2 => exact more ρ2 s2 h2
      | bk ρ2 => exact h2.elim
      | ret d => exact h2.elim
/-- .. that go through: A is what has been made of the items so far -/
theorem wp_go {g : MG} {b : MS} {K : Fl → S → Prop} (J : List α → Ev → S → Prop) : ∀ (xs pre : List α) (ρ : Ev) (s : S), J pre ρ s →
    (∀ pre' x rest ρ s, pre ++ xs = pre' ++ x :: rest → J pre' ρ s → wp (g (f x) ρ s) fun ρ1 s1 => wp (b ρ1 s1) (turnQ (J (pre' ++ [x])) (fun _ _ => False) (fun _ _ => False))) → (∀ ρ' s', J (pre ++ xs) ρ' s' → K (.nx ρ') s') → wp (lloop g b (xs.map f) ρ s) K
  | [], pre, ρ, s, hj, _, k => k ρ s (by simpa using hj)
  | x :: xs, pre, ρ, s, hj, ht, k => by
    simp only [List.map_cons]
    unfold lloop
    rw [wp_bnd]
    refine (ht pre x xs ρ s rfl hj).mono fun ρ1 s1 h1 => ?_
    rw [wp_bnd]
    refine h1.mono fun fl s2 h2 => ?_
    have more := fun ρ2 s2 (hj2 : J (pre ++ [x]) ρ2 s2) => wp_go J xs (pre ++ [x]) ρ2 s2 hj2 (fun pre' x' rest ρ s e h => ht pre' x' rest ρ s (by rw [← e]; simp) h) (fun ρ' s' h => k ρ' s' (by simpa using h))
    cases fl with
    | nx ρ2 => exact more ρ2 s2 h2
    | ct ρ2 => exact more ρ2 s2 h2
    | bk ρ2 => exact h2.elim
    | ret d => exact h2.elim
theorem wp_each {g : MG} {b : MS} {K : Fl → S → Prop} (J : List α → Ev → S → Prop) (xs : List α) (ρ : Ev) (s : S) (h0 : J [] ρ s)
    (ht : ∀ pre x rest ρ s, xs = pre ++ x :: rest → J pre ρ s → wp (g (f x) ρ s) fun ρ1 s1 => wp (b ρ1 s1) (turnQ (J (pre ++ [x])) (fun _ _ => False) (fun _ _ => False))) (k : ∀ ρ' s', J xs ρ' s' → K (.nx ρ') s') : wp (lloop g b (xs.map f) ρ s) K :=
  wp_go J xs [] ρ s h0 (fun pre' x rest ρ s e h => ht pre' x rest ρ s (by simpa using e) h) (fun ρ' s' h => k ρ' s' (by simpa using h))

/-! ### comprehensions by a function -/
theorem llc_map {t : Tg} {el : ME} {ρw : Ev} {s : S} {g : α → D} : ∀ (xs : List α) (acc : List D), (∀ x ∈ xs, ∃ ρ1, tgM t (f x) ρw = some ρ1 ∧ el ρ1 s = .ok (g x) s) → llc t mYes el ρw (xs.map f) acc s = .ok (acc ++ xs.map g) s
  | [], acc, _ => by simp [llc]
  | x :: xs, acc, h => by
    obtain ⟨ρ1, h1, h2⟩ := h x (List.mem_cons_self ..)
    have ih := llc_map (el := el) (ρw := ρw) (s := s) (g := g) xs (acc ++ [g x]) fun y hy => h y (List.mem_cons_of_mem _ hy)
    simp only [List.map_cons]
    unfold llc
    rw [h1]
    simp [h2, ih]
theorem llc_filt {t : Tg} {tt : MT} {el : ME} {ρw : Ev} {s : S} {p : α → Bool} {g : α → D} : ∀ (xs : List α) (acc : List D), (∀ x ∈ xs, ∃ ρ1, tgM t (f x) ρw = some ρ1 ∧ tt ρ1 s = .ok (p x) s ∧ (p x = true → el ρ1 s = .ok (g x) s)) →
    llc t tt el ρw (xs.map f) acc s = .ok (acc ++ (xs.filter p).map g) s
  | [], acc, _ => by simp [llc]
  | x :: xs, acc, h => by
    obtain ⟨ρ1, h1, h2, h3⟩ := h x (List.mem_cons_self ..)
    have ih := fun acc => llc_filt (tt := tt) (el := el) (ρw := ρw) (s := s) (p := p) (g := g) xs acc fun y hy => h y (List.mem_cons_of_mem _ hy)
    simp only [List.map_cons]
    unfold llc
    rw [h1]
    cases hp : p x with
    | true => simp [h2, hp, h3 hp, ih]
    | false => simp [h2, hp, ih]
/-- .. the store may grow -/
theorem llc_up {t : Tg} {el : ME} {ρw : Ev} {g : α → D} : ∀ (xs : List α) (acc : List D) (s : S), (∀ x ∈ xs, ∀ s', ∃ ρ1 u, tgM t (f x) ρw = some ρ1 ∧ el ρ1 (s ++ s') = .ok (g x) (s ++ s' ++ u)) → ∃ u, llc t mYes el ρw (xs.map f) acc s = .ok (acc ++ xs.map g) (s ++ u)
  | [], acc, s, _ => ⟨[], by simp [llc]⟩
  | x :: xs, acc, s, h => by
    obtain ⟨ρ1, u, h1, h2⟩ := h x (List.mem_cons_self ..) []
    rw [List.append_nil] at h2
    obtain ⟨v, ih⟩ := llc_up (t := t) (el := el) (ρw := ρw) (g := g) xs (acc ++ [g x]) (s ++ u) fun y hy s' => by
      have := h y (List.mem_cons_of_mem _ hy) (u ++ s')
      simpa [List.append_assoc] using this
    refine ⟨u ++ v, ?_⟩
    simp only [List.map_cons]
    unfold llc
    rw [h1]
    simp [h2, ih]
/-! several clauses -/
def lbgo (t : Tg) (tt : MT) (b : MB) (ρw : Ev) : List D → List D → S → R (List D)
  | [], acc, s => .ok acc s
  | d :: ds, acc, s => (match tgM t d ρw with
    | some ρ1 => (noX (tt ρ1 s)).bnd fun k s1 => if k = true then (noX (b ρ1 acc s1)).bnd fun acc' s2 => lbgo t tt b ρw ds acc' s2 else lbgo t tt b ρw ds acc s1
    | none => .bad)
theorem bGo_fix (t : Tg) (tt : MT) (b : MB) (ρw : Ev) : ∀ (xs pre acc : List D) (s : S), bGo (.fix (pre ++ xs)) t tt b ρw xs.length pre.length acc s = lbgo t tt b ρw xs acc s
  | [], pre, acc, s => by simp [bGo, srcAt, lbgo]
  | d :: ds, pre, acc, s => by
    have ih := bGo_fix t tt b ρw ds (pre ++ [d])
    simp only [List.append_assoc, List.singleton_append, List.length_append, List.length_singleton] at ih
    simp only [List.length_cons, bGo, srcAt, lbgo]
    rw [List.getElem?_append_right (Nat.le_refl _), Nat.sub_self]
    show (match tgM t d ρw with | some ρ1 => _ | none => _) = _
    cases tgM t d ρw with
    | none => rfl
    | some ρ1 =>
      show (noX (tt ρ1 s)).bnd _ = (noX (tt ρ1 s)).bnd _
      congr 1
      funext k s1
      cases k with
      | true =>
        rw [if_pos rfl, if_pos rfl]
        congr 1
        funext y s2
        exact ih y s2
      | false =>
        rw [if_neg Bool.false_ne_true, if_neg Bool.false_ne_true]
        exact ih acc s1
def inF (t : Tg) (tt : MT) (b : MB) (vs : List Nat) (ρ : Ev) (acc : List D) : Src → S → R (List D) := fun src s1 => match srcAt s1 src with
  | some xs => if (∀ i ∈ t.slots, i ∈ vs) then bGo src t tt b (wipeD ρ vs) xs.length 0 acc s1 else .bad
  | none => .bad
@[simp] theorem mLcN_eq (fi it t tt b vs ρ s) : mLcN fi it t tt b vs ρ s = ((it ρ s).bnd (inF t tt b vs ρ [])).bnd fi := rfl
@[simp] theorem bIn_eq (it t tt b vs ρ acc s) : bIn it t tt b vs ρ acc s = (noX (it ρ s)).bnd (inF t tt b vs ρ acc) := rfl
theorem inF_fix {t : Tg} {tt : MT} {b : MB} {vs : List Nat} {ρ : Ev} {acc : List D} {xs : List D} {s : S} (hs : (t.slots.all fun i => vs.contains i) = true) : inF t tt b vs ρ acc (.fix xs) s = lbgo t tt b (wipeD ρ vs) xs acc s := by
  show (if (∀ i ∈ t.slots, i ∈ vs) then _ else R.bad) = _
  rw [if_pos fun i hi => by simpa using List.all_eq_true.1 hs i hi]
  exact bGo_fix t tt b (wipeD ρ vs) xs [] acc s
theorem lbgo_flat {t : Tg} {tt : MT} {b : MB} {ρw : Ev} {s : S} {g : α → List D} : ∀ (xs : List α) (acc : List D), acc.length + (xs.flatMap g).length ≤ 1000000 →
    (∀ x ∈ xs, ∃ ρ1, tgM t (f x) ρw = some ρ1 ∧ ∀ acc, acc.length + (g x).length ≤ 1000000 → ((noX (tt ρ1 s)).bnd fun k s1 => if k = true then noX (b ρ1 acc s1) else .ok acc s1) = .ok (acc ++ g x) s) → lbgo t tt b ρw (xs.map f) acc s = .ok (acc ++ xs.flatMap g) s
  | [], acc, _, _ => by simp [lbgo]
  | x :: xs, acc, hl, h => by
    obtain ⟨ρ1, h1, h2⟩ := h x (List.mem_cons_self ..)
    rw [List.flatMap_cons, List.length_append] at hl
    have ih := lbgo_flat (t := t) (tt := tt) (b := b) (ρw := ρw) (s := s) (g := g) xs (acc ++ g x) (by rw [List.length_append]; omega) fun y hy => h y (List.mem_cons_of_mem _ hy)
    have h3 := h2 acc (by omega)
    simp only [List.map_cons]
    unfold lbgo
    rw [h1, List.flatMap_cons, ← List.append_assoc, ← ih]
    show (noX (tt ρ1 s)).bnd _ = _
    cases ht : tt ρ1 s with
    | bad => rw [ht] at h3; cases h3
    | exn c fs ρ s => rw [ht] at h3; cases h3
    | ok k s1 =>
      rw [ht] at h3
      simp only [noX_ok, R.bnd_ok] at h3 ⊢
      cases k with
      | false =>
        rw [if_neg Bool.false_ne_true] at h3 ⊢
        simp only [R.ok.injEq] at h3
        obtain ⟨e1, rfl⟩ := h3
        rw [← e1]
      | true =>
        rw [if_pos rfl] at h3 ⊢
        rw [h3]
        rfl
theorem bApp_ok {el : ME} {ρ : Ev} {acc : List D} {s : S} {y : D} (h : el ρ s = .ok y s) (hl : acc.length + 1 ≤ 1000000) : bApp el ρ acc s = .ok (acc ++ [y]) s := by
  unfold bApp
  rw [h]
  simp only [noX_ok, R.bnd_ok]
  rw [if_pos (by simp; omega)]
end
end VL
namespace VL
open PySem PySem.Spec PyProof.Rows L2

/-! ### loops over a list that may be a changeable object -/
section
variable {α : Type} {f : α → D}
theorem wp_srcGo {g : MG} {b : MS} {K : Fl → S → Prop} {src : Src} (J : List α → Ev → S → Prop) {all : List α} (hsrc : ∀ pre ρ s, J pre ρ s → srcAt s src = some (all.map f)) : ∀ (xs pre : List α) (ρ : Ev) (s : S), all = pre ++ xs → J pre ρ s →
    (∀ pre' x rest ρ s, all = pre' ++ x :: rest → J pre' ρ s → wp (g (f x) ρ s) fun ρ1 s1 => wp (b ρ1 s1) (turnQ (J (pre' ++ [x])) (fun _ _ => False) (fun _ _ => False))) → (∀ ρ' s', J all ρ' s' → K (.nx ρ') s') → wp (mLoop src g b xs.length pre.length ρ s) K
  | [], pre, ρ, s, ha, hj, _, k => by
    rw [List.append_nil] at ha
    subst ha
    simp only [List.length_nil, mLoop, hsrc _ _ _ hj, List.length_map, if_true, wp_ok]
    exact k ρ s hj
  | x :: xs, pre, ρ, s, ha, hj, ht, k => by
    have hx : (all.map f)[pre.length]? = some (f x) := by rw [ha]; simp
    simp only [List.length_cons, mLoop, hsrc _ _ _ hj, hx]
    rw [wp_bnd]
    refine (ht pre x xs ρ s ha hj).mono fun ρ1 s1 h1 => ?_
    rw [wp_bnd]
    refine h1.mono fun fl s2 h2 => ?_
    have more := fun ρ2 s2 (hj2 : J (pre ++ [x]) ρ2 s2) => wp_srcGo J hsrc xs (pre ++ [x]) ρ2 s2 (by rw [ha]; simp) hj2 ht k
    simp only [List.length_append, List.length_singleton] at more
    cases fl with
    | nx ρ2 => exact more ρ2 s2 h2
    | ct ρ2 => exact more ρ2 s2 h2
    | bk ρ2 => exact h2.elim
    | ret d => exact h2.elim
theorem wp_srcEach {g : MG} {b : MS} {K : Fl → S → Prop} {src : Src} (J : List α → Ev → S → Prop) (all : List α) (hsrc : ∀ pre ρ s, J pre ρ s → srcAt s src = some (all.map f)) {ρ : Ev} {s : S} (h0 : J [] ρ s)
    (ht : ∀ pre x rest ρ s, all = pre ++ x :: rest → J pre ρ s → wp (g (f x) ρ s) fun ρ1 s1 => wp (b ρ1 s1) (turnQ (J (pre ++ [x])) (fun _ _ => False) (fun _ _ => False))) (k : ∀ ρ' s', J all ρ' s' → K (.nx ρ') s') : wp (forF g b ρ src s) K := by
  unfold forF
  rw [hsrc _ _ _ h0]
  show wp (mLoop src g b (all.map f).length 0 ρ s) K
  rw [List.length_map]
  exact wp_srcGo J hsrc all [] ρ s rfl h0 ht k
end
/-- what is walked of a list -/
theorem srcF_asX {s : S} {d : D} {xs : List D} (h : asX s d = some xs) : ∃ src, srcF d s = .ok src s ∧ ∀ s', asX s' d = some xs → srcAt s' src = some xs := by
  cases d with
  | lst ys =>
    simp only [asX, Option.some.injEq] at h
    subst h
    exact ⟨.fix ys, rfl, fun s' _ => rfl⟩
  | obj n =>
    have h' := h
    simp only [asX] at h
    split at h
    · rename_i ds hd
      refine ⟨.live n, srcF_obj hd, fun s' h2 => ?_⟩
      simp only [asX] at h2
      split at h2
      · rename_i ds2 hd2
        simp only [srcAt, hd2]
        exact h2
      · cases h2
    · cases h
  | _ => simp [asX] at h
@[simp] theorem asX_lst (s xs) : asX s (.lst xs) = some xs := rfl
theorem asX_obj {s : S} {n : Nat} {xs : List D} (h : s[n]? = some (.lst xs)) : asX s (.obj n) = some xs := by simp [asX, h]
theorem opAdd_asX {s : S} {x y : D} {xs ys : List D} (hx : asX s x = some xs) (hy : asX s y = some ys) (h : xs.length + ys.length ≤ 1000000) : opAdd x y s = .ok (.lst (xs ++ ys)) s := by
  have key : ∀ x y : D, asX s x = some xs → asX s y = some ys → (match asX s x, asX s y with
    | some xs, some ys => if xs.length + ys.length ≤ LIM then R.ok (D.lst (xs ++ ys)) s else .bad
    | _, _ => .bad) = .ok (.lst (xs ++ ys)) s := fun x y h1 h2 => by
    rw [h1, h2]
    exact if_pos h
  cases x with
  | lst a => exact key _ _ hx hy
  | obj n => exact key _ _ hx hy
  | _ => simp [asX] at hx
@[simp] theorem mExtend_eq (mo me ρ s) : mExtend mo me ρ s = (mo ρ s).bnd fun x s1 => if isLstO s1 x = true then (me ρ s1).bnd fun y s2 => fExtend x y s2 else .bad := rfl
theorem fExtend_obj {s : S} {n : Nat} {ds : List D} {y : D} {zs : List D} (h : s[n]? = some (.lst ds)) (hy : asX s y = some zs) (hl : ds.length + zs.length ≤ 1000000) : fExtend (.obj n) y s = .ok .non (s.set n (.lst (ds ++ zs))) := by
  simp [fExtend, h, hy, hl]

theorem rngD_nD (n : Nat) : rngD 0 n = (List.range n).map nD := rngD_0 n
/-! ### all logs -/
def lev (m : Nat) : Nat → List (List Nat)
  | 0 => [[]]
  | n + 1 => (lev m n).flatMap fun l => (List.range m).map fun e => l ++ [e]
def fnd (m : Nat) : Nat → List (List Nat)
  | 0 => [[]]
  | n + 1 => fnd m n ++ lev m (n + 1)
def pairsL (m : Nat) : List (List Nat) := (List.range m).flatMap fun a => (List.range m).map fun b => [a, b]
def triplesL (m : Nat) : List (List Nat) := (List.range m).flatMap fun a => (List.range m).flatMap fun b => (List.range m).map fun c => [a, b, c]
theorem lev_1 (m : Nat) : lev m 1 = (List.range m).map fun a => [a] := by simp [lev]
theorem lev_2 (m : Nat) : lev m 2 = pairsL m := by
  show (lev m 1).flatMap _ = _
  rw [lev_1]
  simp [pairsL, List.flatMap_map]
theorem lev_3 (m : Nat) : lev m 3 = triplesL m := by
  show (lev m 2).flatMap _ = _
  rw [lev_2]
  simp [pairsL, triplesL, List.flatMap_assoc, List.flatMap_map]
theorem fnd_3 (m : Nat) : fnd m 3 = [[]] ++ ((List.range m).map fun a => [a]) ++ pairsL m ++ triplesL m := by
  show (([[]] ++ lev m 1) ++ lev m 2) ++ lev m 3 = _
  rw [lev_1, lev_2, lev_3]
theorem lev_mem {m : Nat} : ∀ {n : Nat} {l : List Nat}, l ∈ lev m n → l.length = n ∧ ∀ x ∈ l, x < m
  | 0, l, h => by
    simp only [lev, List.mem_singleton] at h
    subst h
    simp
  | n + 1, l, h => by
    simp only [lev, List.mem_flatMap, List.mem_map, List.mem_range] at h
    obtain ⟨k, hk, e, he, rfl⟩ := h
    obtain ⟨h1, h2⟩ := lev_mem hk
    refine ⟨by simp [h1], fun x hx => ?_⟩
    rcases List.mem_append.1 hx with hx | hx
    · exact h2 x hx
    · simp at hx; omega
theorem fnd_mem {m : Nat} : ∀ {n : Nat} {l : List Nat}, l ∈ fnd m n → l.length ≤ n ∧ ∀ x ∈ l, x < m
  | 0, l, h => by
    simp only [fnd, List.mem_singleton] at h
    subst h
    simp
  | n + 1, l, h => by
    rcases List.mem_append.1 h with h | h
    · obtain ⟨h1, h2⟩ := fnd_mem h
      exact ⟨by omega, h2⟩
    · obtain ⟨h1, h2⟩ := lev_mem h
      exact ⟨by omega, h2⟩
theorem flatMap_len {α β : Type} {f : α → List β} {k : Nat} : ∀ (l : List α), (∀ x ∈ l, (f x).length = k) → (l.flatMap f).length = l.length * k
  | [], _ => by simp
  | x :: l, h => by
    rw [List.flatMap_cons, List.length_append, h x (List.mem_cons_self ..), flatMap_len l fun y hy => h y (List.mem_cons_of_mem _ hy), List.length_cons, Nat.add_mul, Nat.one_mul, Nat.add_comm]
theorem lev_len (m : Nat) : ∀ n : Nat, (lev m n).length = m ^ n
  | 0 => rfl
  | n + 1 => by
    rw [lev, flatMap_len (k := m) _ (fun x _ => by simp), lev_len m n, Nat.pow_succ]
theorem lev_le {m n : Nat} (hm : m ≤ 6) (hn : n ≤ 4) : (lev m n).length ≤ 1296 := by
  rw [lev_len]
  exact Nat.le_trans (Nat.pow_le_pow_left hm n) (Nat.le_trans (Nat.pow_le_pow_right (by decide) hn) (by decide))
theorem fnd_le {m : Nat} (hm : m ≤ 6) : ∀ {n : Nat}, n ≤ 4 → (fnd m n).length ≤ 1 + n * 1296
  | 0, _ => by simp [fnd]
  | n + 1, h => by
    have := fnd_le hm (n := n) (by omega)
    have := lev_le (n := n + 1) hm h
    simp only [fnd, List.length_append]
    omega
theorem set_app {s t : S} {q : Nat} (h : s.length ≤ q) (o : O) : (s ++ t).set q o = s ++ t.set (q - s.length) o := List.set_append_right _ _ h
theorem law_logs_ok {m c : Nat} (hm : m ≤ 6) (hc : c ≤ 4) (s : S) : wp (m__law_logs [nD m, nD c] s) fun d s' => d = .lst ((fnd m c).map logD) ∧ ∃ t, s' = s ++ t := by
  unfold m__law_logs nD
  rw [mFn_eq]
  simp (disch := omega) [initE, rngD_nD]
  refine wp_each (f := nD) (fun pre ρ s' => ∃ lv x4 x5 x6 x7 t, ρ = [some (nD m), some (nD c), some (.lst ((fnd m pre.length).map logD)), some lv, x4, x5, x6, x7] ∧ s' = s ++ t ∧ asX s' lv = some ((lev m pre.length).map logD)) _ _ _ ⟨_, _, _, _, _, [], rfl, by simp, rfl⟩ ?_ ?_
  · rintro pre k rest ρ s' hcc ⟨lv, x4, x5, x6, x7, t, rfl, rfl, hlv⟩
    have hn : pre.length < c := by
      have := congrArg List.length hcc
      simp at this
      omega
    have hl1 := lev_le (n := pre.length) hm (by omega)
    have hl2 := lev_le (n := pre.length + 1) hm (by omega)
    have hf := fnd_le hm (n := pre.length) (by omega)
    obtain ⟨src, hs1, hs2⟩ := srcF_asX hlv
    have hlv' : asX (s ++ t ++ [O.lst []]) lv = some ((lev m pre.length).map logD) := by
      cases lv with
      | lst ys => exact hlv
      | obj n =>
        simp only [asX] at hlv ⊢
        split at hlv
        · rename_i ds hd
          cases hlv
          rw [List.getElem?_append_left (List.getElem?_eq_some_iff.1 hd).1, hd]
        · cases hlv
      | _ => simp [asX] at hlv
    obtain ⟨src, hs1, hs2⟩ := srcF_asX hlv'
    simp only [gN_eq, wp_ok, List.set_cons_succ, List.set_cons_zero, mSeq_eq, mAsg_eq, mLstO_eq, mNil_eq, R.bnd_ok, List.length_nil, LIM_eq, Nat.zero_le, if_true, seqF_nx, mFor_eq, mSrc_eq, mVar_eq, get_0, List.getElem?_cons_succ, vg_some, hs1, wp_bnd]
    refine wp_srcEach (f := logD) (fun pre2 ρ s2 => ∃ x6 x7 t2, ρ = [some (nD m), some (nD c), some (.lst ((fnd m pre.length).map logD)), some lv, some (.int (k : Int)), some (.obj (s ++ t).length), x6, x7] ∧ s2 = s ++ t2 ∧ asX s2 lv = some ((lev m pre.length).map logD) ∧
      s2[(s ++ t).length]? = some (.lst ((pre2.flatMap fun l => (List.range m).map fun e => l ++ [e]).map logD)) ∧ (pre2.flatMap fun l => (List.range m).map fun e => l ++ [e]).length ≤ pre2.length * 6) (lev m pre.length) ?_ ⟨_, _, t ++ [.lst []], rfl, by simp, hlv', by simp, by simp⟩ ?_ ?_
    · rintro pre2 ρ s2 ⟨x6, x7, t2, rfl, rfl, h1, _⟩
      exact hs2 _ h1
    · rintro pre2 l rest2 ρ s2 hll ⟨x6, x7, t2, rfl, rfl, h1, h2, h3⟩
      have hpl : pre2.length < 1296 := by
        have := congrArg List.length hll
        simp at this
        omega
      have hlm : l ∈ lev m pre.length := by rw [hll]; simp
      obtain ⟨hll1, hll2⟩ := lev_mem hlm
      have o1 := isLstO_obj h2
      have comp : ∀ x7 s', lcF finL (.one 7) mYes (mBin opAdd (mVar 6) (mTup (mCons (mVar 7) mNil))) [7] [some (nD m), some (nD c), some (.lst ((fnd m pre.length).map logD)), some lv, some (.int (k : Int)), some (.obj (s ++ t).length), some (logD l), x7] (.fix ((List.range m).map nD)) s' = .ok (.lst (((List.range m).map fun e => l ++ [e]).map logD)) s' := fun x7 s' => by
        rw [lcF_fix (by simp; omega) rfl, llc_map (g := fun e => logD (l ++ [e])) _ _ (fun e he => ⟨_, rfl, ?_⟩)]
        · simp
        · simp [logD]; omega
      have ext := fExtend_obj (y := .lst (((List.range m).map fun e => l ++ [e]).map logD)) h2 rfl (by simp at h3 ⊢; omega)
      simp only [gN_eq, wp_ok, List.set_cons_succ, List.set_cons_zero, mDrop_eq, mExtend_eq, mVar_eq, get_0, List.getElem?_cons_succ, vg_some, R.bnd_ok, o1, if_true, mLcF_eq, mRng1_bnd, mCons_eq, mNil_eq]
      rw [rng1F_ok _ (by omega), rngD_nD]
      simp only [Int.toNat_natCast, R.bnd_ok, comp, ext, wp_ok, turnQ_nx]
      rw [set_app (by simp)]
      refine ⟨_, _, _, rfl, rfl, ?_, ?_, by simp at h3 ⊢; omega⟩
      · cases lv with
        | lst ys => exact h1
        | obj n =>
          have hne : n < (s ++ t).length := by
            simp only [asX] at hlv
            split at hlv
            · rename_i ds hd
              exact (List.getElem?_eq_some_iff.1 hd).1
            · cases hlv
          rw [← set_app (by simp)]
          simp only [asX] at h1 ⊢
          rw [List.getElem?_set_ne (by omega)]
          exact h1
        | _ => simp [asX] at h1
      · rw [← set_app (by simp), List.getElem?_set_self (List.getElem?_eq_some_iff.1 h2).1]
        simp
    · rintro ρ s2 ⟨x6, x7, t2, rfl, rfl, h1, h2, h3⟩
      have ad := opAdd_asX (x := .lst ((fnd m pre.length).map logD)) (y := .obj (s ++ t).length) (s := s ++ t2) rfl (asX_obj h2) (by simp at h3 ⊢; omega)
      simp only [seqF_nx, mPar_eq, mCons_eq, mBin_eq, mVar_eq, get_0, List.getElem?_cons_succ, vg_some, R.bnd_ok, ad, mNil_eq, wp_ok, turnQ_nx, List.set_cons_succ, List.set_cons_zero]
      have e1 : (fnd m pre.length).map logD ++ ((lev m pre.length).flatMap fun l => (List.range m).map fun e => l ++ [e]).map logD = (fnd m (pre ++ [k]).length).map logD := by simp [fnd, lev]
      rw [e1]
      refine ⟨_, _, _, _, _, _, rfl, rfl, ?_⟩
      rw [asX_obj h2]
      simp [lev]
  · rintro ρ s' ⟨lv, x4, x5, x6, x7, t, rfl, rfl, hlv⟩
    simp
theorem law_logs_eq {m c : Nat} (hm : m ≤ 6) (hc : c ≤ 4) (s : S) : m__law_logs [nD m, nD c] s = .ok (.lst ((fnd m c).map logD)) (s ++ gar m__law_logs [nD m, nD c] s) := eq_gar (law_logs_ok hm hc s)
end VL
namespace VL
open PySem PySem.Spec PyProof.Rows L2

theorem opEq_kD (f : Bool → Bool) (a b : Option Nat) (s : S) : opEqF f (kD a) (kD b) s = .ok (.bl (f (decide (a = b)))) s := by
  obtain ⟨p, h1, h2, h3, h4⟩ := plain_py (plainK_kD a) s
  obtain ⟨q, g1, g2, g3, g4⟩ := plain_py (plainK_kD b) s
  rw [opEqF_py s h2 g2 (by simp [SeqAt.shaped, h3, h4]) (by simp [SeqAt.shaped, g3, g4]) (by cases a <;> cases b <;> rfl), plain_eqv (plainK_kD a) (plainK_kD b) h1 g1]
  congr 3
  cases a <;> cases b <;> simp [kD, eqF]
  rename_i a b
  by_cases e : a = b
  · subst e; simp
  · have e' : ¬ (a : Int) = b := by omega
    simp [e, e']
theorem opNotIn_23 (n : Nat) (s : S) : opNotIn (.int (n : Int)) (.tup [.int 2, .int 3]) s = .ok (.bl (decide (n ≠ 2 ∧ n ≠ 3))) s := by
  show opInB (fun b => !b) _ _ _ = _
  rw [opIn_tupK (x := .int (n : Int)) rfl rfl]
  congr 2
  simp only [anyF, List.any_cons, List.any_nil, eqF, Bool.or_false]
  by_cases h2 : n = 2
  · subst h2; rfl
  · by_cases h3 : n = 3
    · subst h3; rfl
    · have e2 : ¬ (2 : Int) = n := by omega
      have e3 : ¬ (3 : Int) = n := by omega
      simp [h2, h3, e2, e3]
/-! ### the forms of logs -/
def Sys.form (y : Sys) : List Nat → Bool
  | [a, b] => decide (y.kd a ≠ none ∧ y.kd a = y.kd b)
  | [a, b, c] => decide (y.kd a ≠ none ∧ y.kd a = y.kd c ∧ y.kd b ≠ y.kd a)
  | _ => false
theorem form_no {y : Sys} {l : List Nat} (h : l.length ≠ 2 ∧ l.length ≠ 3) : y.form l = false := by
  match l, h with
  | [], _ => rfl
  | [_], _ => rfl
  | [_, _], h => simp at h
  | [_, _, _], h => simp at h
  | _ :: _ :: _ :: _ :: _, _ => rfl
theorem is_form_ok {y : Sys} (h : y.Ok) {l : List Nat} (hn : l.length ≤ 1000) (hx : ∀ x ∈ l, x < y.ops.length) (s : S) : m_is_form [y.D, logD l] s = .ok (.bl (y.form l)) s := by
  unfold m_is_form logD
  rw [mFn_eq]
  have comp : ∀ s, lcF finL (.one 3) mYes (mBin opIx (mBin opIx (mVar 0) (mC (.int 3))) (mVar 3)) [3] [some y.D, some (.tup (l.map nD)), none, none] (.fix (l.map nD)) s = .ok (.lst (l.map fun e => kD (y.kd e))) s := fun s => by
    rw [lcF_fix (by simp; omega) rfl, llc_map (g := fun e => kD (y.kd e)) _ _ (fun e he => ⟨_, rfl, ?_⟩)]
    · simp
    · simp [ix_kinds, ix_kind h (hx e he)]
  simp only [initE, List.length_cons, List.length_nil, Nat.reduceAdd, Nat.reduceSub, List.map_cons, List.map_nil, List.replicate_succ, List.replicate_zero, List.cons_append, List.nil_append, mSeq_eq, mAsg_eq, mLcF_eq, mSrc_eq, mVar_eq, get_0, List.getElem?_cons_succ, vg_some, R.bnd_ok, srcF_tup, comp, gN_eq, List.set_cons_succ, List.set_cons_zero, seqF_nx, mIfS_eq, mOrT_eq, mB_eq, mBin_eq, mCall_eq, mCons_eq, mNil_eq, fLen_tup, mTup_eq, LIM_eq, Nat.reduceLeDiff, if_true, mC_eq, List.length_map, opNotIn_23, asB_ok]
  by_cases h23 : l.length ≠ 2 ∧ l.length ≠ 3
  · rw [form_no h23]
    simp [h23]
  · match l, h23 with
    | [a, b], _ =>
      have hmm : atI [kD (y.kd a), kD (y.kd b)] (-1) = some (kD (y.kd b)) := by rw [atI_m1]; rfl
      simp only [List.length_cons, List.length_nil, Nat.reduceAdd, ne_eq, Nat.reduceEqDiff, not_true_eq_false, false_and, decide_false, if_false, List.map_cons, List.map_nil, mVar_eq, get_0, List.getElem?_cons_succ, vg_some, R.bnd_ok, mC_eq, opIx_lst, atI_0, ixR_some, opIsN_eq, asB_ok, kD_non, mOrT_eq, mB_eq, mBin_eq, mUn_eq, opNeg_int, opEq_kD, Bool.false_eq_true, Sys.form, mCons_eq, mNil_eq, fLen_tup]
      rw [show (-(1 : Int)) = -1 from rfl, hmm]
      by_cases h1 : y.kd a = none
      · simp [h1]
      · by_cases h2 : y.kd a = y.kd b
        · simp [h1, h2, opEq_kD]
          rw [← h2]
          simp [h1, opEq_kD]
        · simp [h1, h2, opEq_kD]
    | [a, b, c], _ =>
      have hmm : atI [kD (y.kd a), kD (y.kd b), kD (y.kd c)] (-1) = some (kD (y.kd c)) := by rw [atI_m1]; rfl
      simp only [List.length_cons, List.length_nil, Nat.reduceAdd, ne_eq, Nat.reduceEqDiff, not_true_eq_false, and_false, decide_false, if_false, List.map_cons, List.map_nil, mVar_eq, get_0, List.getElem?_cons_succ, vg_some, R.bnd_ok, mC_eq, opIx_lst, atI_0, ixR_some, opIsN_eq, asB_ok, kD_non, mOrT_eq, mB_eq, mBin_eq, mUn_eq, opNeg_int, opEq_kD, Bool.false_eq_true, Sys.form]
      rw [show (-(1 : Int)) = -1 from rfl, hmm]
      by_cases h1 : y.kd a = none
      · simp [h1]
      · by_cases h2 : y.kd a = y.kd c
        · simp [h1, h2, opEq_kD]
          rw [← h2]
          simp [h1, opEq_kD]
        · simp [h1, h2, opEq_kD]
    | [], h => simp at h
    | [_], h => simp at h
    | _ :: _ :: _ :: _ :: _, h => simp at h
end VL
namespace VL
open PySem PySem.Spec PyProof.Rows L2

theorem pairsL_len (m : Nat) : (pairsL m).length = m * m := by
  unfold pairsL
  rw [flatMap_len (k := m) _ (fun x _ => by simp), List.length_range]
theorem triplesL_len (m : Nat) : (triplesL m).length = m * (m * m) := by
  unfold triplesL
  rw [flatMap_len (k := m * m) _ (fun x _ => by rw [flatMap_len (k := m) _ (fun x _ => by simp), List.length_range]), List.length_range]
theorem pairsL_mem {m : Nat} {l : List Nat} (h : l ∈ pairsL m) : l.length = 2 ∧ ∀ x ∈ l, x < m := lev_mem (by rw [lev_2]; exact h)
theorem triplesL_mem {m : Nat} {l : List Nat} (h : l ∈ triplesL m) : l.length = 3 ∧ ∀ x ∈ l, x < m := lev_mem (by rw [lev_3]; exact h)
theorem mul6 {a b : Nat} (h : a ≤ 6) (k : b ≤ 36) : a * b ≤ 216 := Nat.le_trans (Nat.mul_le_mul h k) (by decide)
theorem sq6 {a : Nat} (h : a ≤ 6) : a * a ≤ 36 := Nat.le_trans (Nat.mul_le_mul h h) (by decide)
def Sys.forms (y : Sys) : List (List Nat) := (pairsL y.ops.length ++ triplesL y.ops.length).filter y.form
theorem forms_mem {y : Sys} {l : List Nat} (h : l ∈ y.forms) : (l.length = 2 ∨ l.length = 3) ∧ (∀ x ∈ l, x < y.ops.length) ∧ y.form l = true := by
  obtain ⟨h1, h2⟩ := List.mem_filter.1 h
  rcases List.mem_append.1 h1 with h1 | h1
  · obtain ⟨a, b⟩ := pairsL_mem h1
    exact ⟨.inl a, b, h2⟩
  · obtain ⟨a, b⟩ := triplesL_mem h1
    exact ⟨.inr a, b, h2⟩
/-! the innermost clause -/
section
variable {α : Type} {f : α → D}
theorem lbgo_map {t : Tg} {el : ME} {ρw : Ev} {s : S} {g : α → D} {xs : List α} {acc : List D} (hl : acc.length + xs.length ≤ 1000000) (h : ∀ x ∈ xs, ∃ ρ1, tgM t (f x) ρw = some ρ1 ∧ el ρ1 s = .ok (g x) s) : lbgo t mYes (bApp el) ρw (xs.map f) acc s = .ok (acc ++ xs.map g) s := by
  have e0 : ∀ xs : List α, (xs.flatMap fun x => [g x]) = xs.map g := fun xs => by
    induction xs with
    | nil => rfl
    | cons x xs ih => simp [List.flatMap_cons, ih]
  rw [lbgo_flat (g := fun x => [g x]) _ _ ?_ ?_, e0]
  · have e : (xs.flatMap fun x => [g x]).length = xs.length * 1 := flatMap_len _ fun x _ => rfl
    omega
  · intro x hx
    obtain ⟨ρ1, h1, h2⟩ := h x hx
    refine ⟨ρ1, h1, fun acc2 h3 => ?_⟩
    simp only [mYes_eq, noX_ok, R.bnd_ok, if_true, bApp_ok h2 (by simpa using h3)]
theorem lbgo_filt {t : Tg} {tt : MT} {el : ME} {ρw : Ev} {s : S} {g : α → D} {p : α → Bool} {xs : List α} {acc : List D} (hl : acc.length + xs.length ≤ 1000000) (h : ∀ x ∈ xs, ∃ ρ1, tgM t (f x) ρw = some ρ1 ∧ tt ρ1 s = .ok (p x) s ∧ (p x = true → el ρ1 s = .ok (g x) s)) :
    lbgo t tt (bApp el) ρw (xs.map f) acc s = .ok (acc ++ (xs.filter p).map g) s := by
  have e0 : ∀ xs : List α, (xs.flatMap fun x => if p x = true then [g x] else []) = (xs.filter p).map g := fun xs => by
    induction xs with
    | nil => rfl
    | cons x xs ih => by_cases hp : p x = true <;> simp [List.flatMap_cons, hp, ih]
  rw [lbgo_flat (g := fun x => if p x = true then [g x] else []) _ _ ?_ ?_, e0]
  · rw [e0, List.length_map]
    have := List.length_filter_le p xs
    omega
  · intro x hx
    obtain ⟨ρ1, h1, h2, h3⟩ := h x hx
    refine ⟨ρ1, h1, fun acc2 h4 => ?_⟩
    simp only [h2, noX_ok, R.bnd_ok]
    by_cases hp : p x = true
    · rw [if_pos hp, if_pos hp, bApp_ok (h3 hp) (by simpa [hp] using h4)]
      rfl
    · rw [if_neg hp, if_neg hp, List.append_nil]
end
theorem forms_of_ok {y : Sys} (h : y.Ok) (s : S) : m_forms_of [y.D] s = .ok (.lst (y.forms.map logD)) s := by
  have h6 := h.o6
  have p1 := pairsL_len y.ops.length
  have p2 := triplesL_len y.ops.length
  have p3 := sq6 h6
  have p4 := mul6 h6 p3
  unfold m_forms_of
  rw [mFn_eq]
  have c2 : ∀ ρ2 s, inF (.one 3) mYes (bIn (mSrc (mVar 1)) (.one 4) mYes (bApp (mTup (mCons (mVar 3) (mCons (mVar 4) mNil)))) [4]) [3, 4] [some y.D, some (.lst ((List.range y.ops.length).map nD)), ρ2, none, none, none, none] [] (.fix ((List.range y.ops.length).map nD)) s = .ok ((pairsL y.ops.length).map logD) s := fun ρ2 s => by
    rw [inF_fix rfl, lbgo_flat (g := fun a => (List.range y.ops.length).map fun b => logD [a, b]) _ _ ?_ ?_]
    · simp [pairsL, List.map_flatMap]
      rfl
    · rw [flatMap_len (k := y.ops.length) _ (fun x _ => by simp)]
      simp
      omega
    · intro a ha
      refine ⟨_, rfl, fun acc hacc => ?_⟩
      simp only [mYes_eq, noX_ok, R.bnd_ok, if_true, bIn_eq, mSrc_eq, mVar_eq, wipeD_cons, wipeD_nil, List.set_cons_succ, List.set_cons_zero, get_0, List.getElem?_cons_succ, vg_some, srcF_lst]
      rw [inF_fix rfl, lbgo_map (g := fun b => logD [a, b]) (by simpa using hacc) fun b hb => ⟨_, rfl, by simp [logD]⟩]
      rfl
  have c3 : ∀ ρ2 s, inF (.one 3) mYes (bIn (mSrc (mVar 1)) (.one 6) mYes (bIn (mSrc (mVar 1)) (.one 4) mYes (bApp (mTup (mCons (mVar 3) (mCons (mVar 6) (mCons (mVar 4) mNil))))) [4]) [6, 4]) [3, 6, 4] [some y.D, some (.lst ((List.range y.ops.length).map nD)), ρ2, none, none, none, none] [] (.fix ((List.range y.ops.length).map nD)) s = .ok ((triplesL y.ops.length).map logD) s := fun ρ2 s => by
    rw [inF_fix rfl, lbgo_flat (g := fun a => (List.range y.ops.length).flatMap fun b => (List.range y.ops.length).map fun c => logD [a, b, c]) _ _ ?_ ?_]
    · simp [triplesL, List.map_flatMap]
      rfl
    · rw [flatMap_len (k := y.ops.length * y.ops.length) _ (fun x _ => by rw [flatMap_len (k := y.ops.length) _ (fun x _ => by simp)]; simp)]
      simp
      omega
    · intro a ha
      refine ⟨_, rfl, fun acc hacc => ?_⟩
      simp only [mYes_eq, noX_ok, R.bnd_ok, if_true, bIn_eq, mSrc_eq, mVar_eq, wipeD_cons, wipeD_nil, List.set_cons_succ, List.set_cons_zero, get_0, List.getElem?_cons_succ, vg_some, srcF_lst]
      rw [inF_fix rfl, lbgo_flat (g := fun b => (List.range y.ops.length).map fun c => logD [a, b, c]) _ _ hacc ?_]
      · rfl
      · intro b hb
        refine ⟨_, rfl, fun acc2 hacc2 => ?_⟩
        simp only [mYes_eq, noX_ok, R.bnd_ok, if_true, bIn_eq, mSrc_eq, mVar_eq, wipeD_cons, wipeD_nil, List.set_cons_succ, List.set_cons_zero, get_0, List.getElem?_cons_succ, vg_some, srcF_lst]
        rw [inF_fix rfl, lbgo_map (g := fun c => logD [a, b, c]) (by simpa using hacc2) fun c hc => ⟨_, rfl, by simp [logD]⟩]
        rfl
  have c4 : ∀ s, lcF finL (.one 5) (mB (mUser m_is_form (mCons (mVar 0) (mCons (mVar 5) mNil)))) (mVar 5) [5] [some y.D, some (.lst ((List.range y.ops.length).map nD)), some (.lst ((pairsL y.ops.length ++ triplesL y.ops.length).map logD)), none, none, none, none] (.fix ((pairsL y.ops.length ++ triplesL y.ops.length).map logD)) s = .ok (.lst (y.forms.map logD)) s := fun s => by
    rw [lcF_fix (by simp; omega) rfl, llc_filt (p := y.form) (g := logD) _ _ (fun l hl => ⟨_, rfl, ?_, fun _ => ?_⟩)]
    · rfl
    · have hll : l.length ≤ 1000 ∧ ∀ x ∈ l, x < y.ops.length := by
        rcases List.mem_append.1 hl with z | z
        · obtain ⟨a, b⟩ := pairsL_mem z
          exact ⟨by omega, b⟩
        · obtain ⟨a, b⟩ := triplesL_mem z
          exact ⟨by omega, b⟩
      simp [is_form_ok h hll.1 hll.2]
    · simp
  simp only [initE, List.length_cons, List.length_nil, Nat.reduceAdd, Nat.reduceSub, List.map_cons, List.map_nil, List.replicate_succ, List.replicate_zero, List.cons_append, List.nil_append, mSeq_eq, mAsg_eq, mListRg_eq, mCall_eq, mCons_eq, mBin_eq, mVar_eq, get_0, vg_some, R.bnd_ok, mC_eq, ix_ops, mNil_eq, fLen_tup, List.length_map]
  rw [rgOk_pos (by omega), rngD_nD]
  simp only [Int.toNat_natCast, R.bnd_ok, gN_eq, List.set_cons_succ, List.set_cons_zero, seqF_nx, mSeq_eq, mAsg_eq, mLcN_eq, mSrc_eq, mVar_eq, get_0, List.getElem?_cons_succ, vg_some, srcF_lst, c2, finL_eq, mBin_eq, c3, opAdd_lst, List.length_map, LIM_eq]
  rw [if_pos (by omega)]
  simp only [R.bnd_ok, ← List.map_append, List.set_cons_succ, List.set_cons_zero, seqF_nx, mRet_eq, mLcF_eq, mSrc_eq, mVar_eq, get_0, List.getElem?_cons_succ, vg_some, srcF_lst, c4, fin_ret]
end VL
namespace VL
open PySem PySem.Spec PyProof.Rows L2

/-! ### a state and a log -/
def find2 {α β : Type} (xs : List α) (ys : List β) (q : α → β → Bool) : Option (α × β) := xs.findSome? fun a => ys.findSome? fun b => if q a b = true then some (a, b) else none
def slD : Option (Nat × List Nat) → D
  | none => .non
  | some p => .tup [nD p.1, logD p.2]
def slO (p : Nat × List Nat) : D := .tup [nD p.1, logD p.2]
theorem find2_map {α β γ : Type} (xs : List α) (ys : List β) (q : α → β → Bool) (g : α × β → γ) : (xs.findSome? fun a => ys.findSome? fun b => if q a b = true then some (g (a, b)) else none) = (find2 xs ys q).map g := by
  unfold find2
  rw [List.map_findSome?]
  congr 1
  funext a
  simp only [Function.comp]
  rw [List.map_findSome?]
  congr 1
  funext b
  simp only [Function.comp]
  split <;> rfl
theorem find2_some {α β : Type} {xs : List α} {ys : List β} {q : α → β → Bool} {a : α} {b : β} (h : find2 xs ys q = some (a, b)) : a ∈ xs ∧ b ∈ ys ∧ q a b = true := by
  unfold find2 at h
  obtain ⟨a', ha, h⟩ := List.exists_of_findSome?_eq_some h
  obtain ⟨b', hb, h⟩ := List.exists_of_findSome?_eq_some h
  split at h
  · cases h
    exact ⟨ha, hb, ‹_›⟩
  · cases h
theorem find2_none {α β : Type} {xs : List α} {ys : List β} {q : α → β → Bool} : find2 xs ys q = none ↔ ∀ a ∈ xs, ∀ b ∈ ys, q a b = false := by
  unfold find2
  rw [List.findSome?_eq_none_iff]
  constructor
  · intro h a ha b hb
    have := List.findSome?_eq_none_iff.1 (h a ha) b hb
    cases hq : q a b with
    | false => rfl
    | true =>
      rw [if_pos hq] at this
      cases this
  · intro h a ha
    rw [List.findSome?_eq_none_iff]
    intro b hb
    simp [h a ha b hb]
theorem slD_get (o : Option (Nat × List Nat)) : slD o = (o.map slO).getD .non := by cases o <;> rfl
theorem fine_sl {y : Sys} (hy : y.Ok) {o : Option (Nat × List Nat)} (h : ∀ st l, o = some (st, l) → st < y.many ∧ LogOk y 3 l) : Fine 2 8 (slD o) := by
  cases o with
  | none => exact fine_non _ _
  | some p =>
    obtain ⟨st, l⟩ := p
    obtain ⟨h1, h2⟩ := h st l rfl
    have := hy.m6
    exact (fine_pair (fine_nD 0 0 (i := st) (by omega)) (fine_logOk hy h2)).mono (by omega) (by omega)
/-! faults of kinds -/
def Sys.bad (y : Sys) (st : Nat) (l : List Nat) : Bool := decide (y.run st l ≠ y.run st l.tail)
theorem cut_1 (xs : List D) : cutD xs (some 1) none = xs.tail := by
  rw [show (some (1 : Int)) = some ((1 : Nat) : Int) from rfl, cut_from]
  cases xs <;> rfl
theorem tail_sub {l : List Nat} {x : Nat} (h : x ∈ l.tail) : x ∈ l := List.mem_of_mem_tail h
theorem opNe_nD (f : Bool → Bool) (a b : Nat) (s : S) : opEqF f (.int (a : Int)) (.int (b : Int)) s = .ok (.bl (f (decide (a = b)))) s := by
  rw [opEqF_int]
  congr 3
  by_cases e : a = b
  · subst e; simp
  · have : ¬ (a : Int) = b := by omega
    simp [e, this]
theorem is_faulty_ok {y : Sys} (h : y.Ok) {l : List Nat} {st : Nat} (hs : st < y.many) (hx : ∀ x ∈ l, x < y.ops.length) (s : S) : m_is_faulty [y.D, nD st, logD l] s = .ok (.bl (y.bad st l)) s := by
  unfold m_is_faulty
  rw [mFn_eq]
  have r1 := run_from_ok h hs hx s
  have r2 := run_from_ok h hs (l := l.tail) (fun x hx2 => hx x (tail_sub hx2)) s
  have e : D.tup (l.map nD).tail = logD l.tail := by simp [logD, List.map_tail]
  simp only [initE, List.length_cons, List.length_nil, Nat.reduceAdd, Nat.reduceSub, List.map_cons, List.map_nil, List.replicate_succ, List.replicate_zero, List.cons_append, List.nil_append, List.append_nil, mRet_eq, mBin_eq, mUser_eq, mCons_eq, mVar_eq, get_0, List.getElem?_cons_succ, vg_some, R.bnd_ok, mNil_eq, r1, retag_ok, mSl_eq, mPart_eq, mC_eq, mNo_eq]
  rw [show opSl (logD l) (some 1) none s = .ok (.tup (cutD (l.map nD) (some 1) none)) s from rfl, cut_1, e]
  simp only [R.bnd_ok, r2, retag_ok, opNe_nD, fin_ret, Sys.bad]
  simp
def Sys.fault (y : Sys) : Option (Nat × List Nat) := find2 y.reach y.forms y.bad
theorem fault_some {y : Sys} {st : Nat} {l : List Nat} (h : y.fault = some (st, l)) : st ∈ y.reach ∧ l ∈ y.forms ∧ y.run st l ≠ y.run st l.tail := by
  obtain ⟨h1, h2, h3⟩ := find2_some h
  exact ⟨h1, h2, by simpa [Sys.bad] using h3⟩
theorem fine_fault {y : Sys} (hy : y.Ok) : Fine 2 8 (slD y.fault) := fine_sl hy fun st l h => by
  obtain ⟨h1, h2, _⟩ := fault_some h
  obtain ⟨h3, h4, _⟩ := forms_mem h2
  exact ⟨reach_lt hy h1, by omega, h4⟩
theorem fault_of_ok {y : Sys} (h : y.Ok) (s : S) : wp (m_fault_of [y.D] s) fun d s' => d = slD y.fault ∧ ∃ t, s' = s ++ t := by
  unfold m_fault_of
  rw [mFn_eq]
  simp only [wp_fin, initE, List.length_cons, List.length_nil, Nat.reduceAdd, Nat.reduceSub, List.map_cons, List.map_nil, List.replicate_succ, List.replicate_zero, List.cons_append, List.nil_append, mSeq_eq, mAsg_eq, mUser_eq, mCons_eq, mVar_eq, get_0, vg_some, R.bnd_ok, mNil_eq, forms_of_ok h, retag_ok, gN_eq, List.set_cons_succ, List.set_cons_zero, seqF_nx, mFor_eq, mSrc_eq, reached_eq h, logD, srcF_tup, forF_fix, wp_bnd]
  refine wp_find (f := nD) (fun ρ s' => (∃ x2 x3, ρ = [some y.D, some (.lst (y.forms.map logD)), x2, x3]) ∧ ∃ t, s' = s ++ t) (fun s' => ∃ t, s' = s ++ t) (fun st => y.forms.findSome? fun l => if y.bad st l = true then some (slO (st, l)) else none) _ _ _ ⟨⟨_, _, rfl⟩, _, rfl⟩ ?_ ?_ ?_
  · rintro st hst ρ s' ⟨⟨x2, x3, rfl⟩, t, rfl⟩
    simp only [gN_eq, wp_ok, List.set_cons_succ, List.set_cons_zero, mFor_eq, mSrc_eq, mVar_eq, get_0, List.getElem?_cons_succ, vg_some, R.bnd_ok, srcF_lst, forF_fix]
    refine wp_find (f := logD) (fun ρ s' => (∃ x3, ρ = [some y.D, some (.lst (y.forms.map logD)), some (nD st), x3]) ∧ ∃ t, s' = s ++ t) (fun s' => ∃ t, s' = s ++ t) (fun l => if y.bad st l = true then some (slO (st, l)) else none) _ _ _ ⟨⟨_, rfl⟩, _, rfl⟩ ?_ ?_ ?_
    · rintro l hl ρ s' ⟨⟨x3, rfl⟩, t, rfl⟩
      obtain ⟨h1, h2, h3⟩ := forms_mem hl
      simp only [gN_eq, wp_ok, List.set_cons_succ, List.set_cons_zero, mIfS_eq, mB_eq, mUser_eq, mCons_eq, mVar_eq, get_0, List.getElem?_cons_succ, vg_some, R.bnd_ok, mNil_eq, is_faulty_ok h (reach_lt h hst) h2, retag_ok, asB_ok]
      by_cases hb : y.bad st l = true
      · simp [hb, slO]
      · simp [hb]
    · intro r s' e hi
      simp only [e, findQ_some]
      exact ⟨trivial, hi⟩
    · rintro ρ' s' e ⟨⟨x3, rfl⟩, hi⟩
      simp only [e, findQ_nx]
      exact ⟨⟨_, _, rfl⟩, hi⟩
  · intro r s' e hi
    rw [find2_map y.reach y.forms y.bad slO] at e
    simp only [seqF_ret, wp_ok, endQ_ret]
    refine ⟨?_, hi⟩
    rw [slD_get]
    show r = (Option.map slO (find2 y.reach y.forms y.bad)).getD .non
    rw [e]
    rfl
  · rintro ρ' s' e ⟨⟨x2, x3, rfl⟩, hi⟩
    rw [find2_map y.reach y.forms y.bad slO] at e
    simp only [seqF_nx, mRet_eq, mC_eq, R.bnd_ok, wp_ok, endQ_ret]
    refine ⟨?_, hi⟩
    rw [slD_get]
    show _ = (Option.map slO (find2 y.reach y.forms y.bad)).getD .non
    rw [e]
    rfl
theorem fault_of_eq {y : Sys} (h : y.Ok) (s : S) : m_fault_of [y.D] s = .ok (slD y.fault) (s ++ gar m_fault_of [y.D] s) := eq_gar (fault_of_ok h s)
theorem fault_ok {y : Sys} (h : y.Ok) (s : S) : m_fault [y.D] s = .ok (slD y.fault) (s ++ gar m_fault_of [y.D] s) := by
  unfold m_fault
  rw [mFn_eq]
  simp [initE, need_system_ok h, fault_of_eq h]
end VL
namespace VL
open PySem PySem.Spec PyProof.Rows L2

/-- a law that asks one def of its own at drawn systems -/
theorem law_A {c : Int} {n : Nat} {m : FM} {ns : List Int} (hc : 1 ≤ c ∧ c ≤ 100) (hn : n ≤ 100)
    (hR : ∀ (y : Sys) (p f : Nat) (s : S), y.Ok → Pen p (f + 100000) s → wp (m [.obj p, y.D] s) fun d s' => d = .bl true ∧ Pen p f s') :
    ∃ s', mFn 4 (mSeq (mFor (mRng1 (mCons (mCall fMax2 (mCons (mC (.int 1)) (mCons (mCall fMin2 (mCons (mCall fLen (mCons (mVar 0) mNil)) (mCons (mC (.int c)) mNil))) mNil))) mNil)) (gN 1)
      (mSeq (mAsg (mUser m__law_pen (mCons (mUser m__law_cell_at (mCons (mVar 0) (mCons (mVar 1) mNil))) mNil)) (gN 2))
      (mFor (mRng1 (mCons (mC (.int (n : Int))) mNil)) (gN 3)
      (mIfS (mNotT (mB (mUser m (mCons (mVar 2) (mCons (mUser m__law_system (mCons (mVar 2) mNil)) mNil)))))
      (mRet (mC (.bl false))) mSkip)))) (mRet (mC (.bl true)))) [.scr (ns.map D.int)] [] = .ok (.bl true) s' := by
  refine law_frame (N := 1) hc ?_
  intro k p s rest hr hp
  obtain ⟨x3, rfl⟩ : ∃ x3, rest = [x3] := by
    match rest, hr with
    | [x3], _ => exact ⟨_, rfl⟩
  simp only [mFor_eq, mRng1_bnd, mCons_eq, mC_eq, mNil_eq, R.bnd_ok]
  rw [rng1F_ok _ (by omega), rngD_nD]
  simp only [R.bnd_ok, forF_fix, Int.toNat_natCast]
  refine wp_each (f := nD) (fun pre ρ s => (∃ x3, ρ = [some (.scr (ns.map D.int)), some k, some (.obj p), x3]) ∧ Pen p ((n - pre.length) * 200000) s) _ _ _ ⟨⟨_, rfl⟩, hp.mono (by simp; omega)⟩ ?_ ?_
  · rintro pre x post ρ s he ⟨⟨x3, rfl⟩, hp⟩
    have hl : pre.length < n := by
      have := congrArg List.length he
      simp at this
      omega
    simp only [gN_eq, wp_ok, List.set_cons_succ, List.set_cons_zero, mIfS_eq, mNotT_eq, mB_eq, mUser_eq, mCons_eq, mNil_eq, mVar_eq, get_0, List.getElem?_cons_succ, vg_some, R.bnd_ok, wp_bnd, wp_asB, wp_retag]
    refine (wp_system (f := (n - (pre.length + 1)) * 200000 + 100000) (hp.mono (by omega))).mono ?_
    rintro d s1 ⟨y, hy, rfl, hp1, hf1⟩
    refine (hR y p ((n - (pre.length + 1)) * 200000) s1 hy hp1).mono ?_
    rintro d s2 ⟨rfl, hp2⟩
    simp only [bQ_bl, Bool.not_true, Bool.false_eq_true, if_false, mSkip_eq, wp_ok, turnQ_nx]
    exact ⟨⟨_, rfl⟩, hp2.mono (by simp)⟩
  · rintro ρ s ⟨⟨x3, rfl⟩, _⟩
    exact ⟨_, by simp, rfl⟩
/-- a law that draws systems into slot 4 -/
theorem law_B {c : Int} {N n : Nat} {B : MS} {ns : List Int} (hc : 1 ≤ c ∧ c ≤ 100) (hn : n ≤ 100)
    (hb : ∀ (y : Sys) (k d3 : D) (p f : Nat) (rest : Ev) (s : S), y.Ok → rest.length = N → Pen p (f + 100000) s →
      wp (B (some (.scr (ns.map D.int)) :: some k :: some (.obj p) :: some d3 :: some y.D :: rest) s) fun fl s' => ∃ (d3 d4 : Option D) (rest' : Ev), (fl = .nx (some (.scr (ns.map D.int)) :: some k :: some (.obj p) :: d3 :: d4 :: rest') ∨ fl = .ct (some (.scr (ns.map D.int)) :: some k :: some (.obj p) :: d3 :: d4 :: rest')) ∧ rest'.length = N ∧ Pen p f s') :
    ∃ s', mFn (N + 2 + 3) (mSeq (mFor (mRng1 (mCons (mCall fMax2 (mCons (mC (.int 1)) (mCons (mCall fMin2 (mCons (mCall fLen (mCons (mVar 0) mNil)) (mCons (mC (.int c)) mNil))) mNil))) mNil)) (gN 1)
      (mSeq (mAsg (mUser m__law_pen (mCons (mUser m__law_cell_at (mCons (mVar 0) (mCons (mVar 1) mNil))) mNil)) (gN 2))
      (mFor (mRng1 (mCons (mC (.int (n : Int))) mNil)) (gN 3)
      (mSeq (mAsg (mUser m__law_system (mCons (mVar 2) mNil)) (gN 4)) B)))) (mRet (mC (.bl true)))) [.scr (ns.map D.int)] [] = .ok (.bl true) s' := by
  refine law_frame (N := N + 2) hc ?_
  intro k p s rest hr hp
  obtain ⟨x3, x4, rest, rfl⟩ : ∃ x3 x4 r, rest = x3 :: x4 :: r := by
    match rest, hr with
    | x3 :: x4 :: r, _ => exact ⟨_, _, _, rfl⟩
  simp only [mFor_eq, mRng1_bnd, mCons_eq, mC_eq, mNil_eq, R.bnd_ok]
  rw [rng1F_ok _ (by omega), rngD_nD]
  simp only [R.bnd_ok, forF_fix, Int.toNat_natCast]
  refine wp_each (f := nD) (fun pre ρ s => (∃ x3 x4 rest, ρ = some (.scr (ns.map D.int)) :: some k :: some (.obj p) :: x3 :: x4 :: rest ∧ rest.length = N) ∧ Pen p ((n - pre.length) * 200000) s) _ _ _ ⟨⟨_, _, _, rfl, by simpa using hr⟩, hp.mono (by simp; omega)⟩ ?_ ?_
  · rintro pre x post ρ s he ⟨⟨x3, x4, rest, rfl, hr⟩, hp⟩
    have hl : pre.length < n := by
      have := congrArg List.length he
      simp at this
      omega
    simp only [gN_eq, wp_ok, List.set_cons_succ, List.set_cons_zero, mSeq_eq, mAsg_eq, mUser_eq, mCons_eq, mNil_eq, mVar_eq, get_0, List.getElem?_cons_succ, vg_some, R.bnd_ok, wp_bnd, wp_retag]
    refine (wp_system (f := (n - (pre.length + 1)) * 200000 + 100000) (hp.mono (by omega))).mono ?_
    rintro d s1 ⟨y, hy, rfl, hp1, hf1⟩
    simp only [R.bnd_ok, wp_retag, wp_ok, List.set_cons_succ, List.set_cons_zero, seqF_nx]
    refine (hb y k (nD x) p ((n - (pre.length + 1)) * 200000) rest s1 hy hr hp1).mono ?_
    rintro fl s2 ⟨d3, d4, rest', rfl | rfl, hr', hp2⟩
    · exact ⟨⟨_, _, _, rfl, hr'⟩, hp2.mono (by simp)⟩
    · exact ⟨⟨_, _, _, rfl, hr'⟩, hp2.mono (by simp)⟩
  · rintro ρ s ⟨⟨x3, x4, rest, rfl, hr⟩, _⟩
    exact ⟨_, by simp [hr], rfl⟩
end VL
namespace VL
open PySem PySem.Spec PyProof.Rows L2

theorem law_is_form_ok {y : Sys} (h : y.Ok) {l : List Nat} (hx : ∀ x ∈ l, x < y.ops.length) (s : S) : m__law_is_form [y.D, logD l] s = .ok (.bl (y.form l)) s := by
  unfold m__law_is_form logD
  rw [mFn_eq]
  simp only [initE, List.length_cons, List.length_nil, Nat.reduceAdd, Nat.reduceSub, List.map_cons, List.map_nil, List.replicate_succ, List.replicate_zero, List.cons_append, List.nil_append, mSeq_eq, mIfS_eq, mB_eq, mBin_eq, mCall_eq, mCons_eq, mVar_eq, get_0, List.getElem?_cons_succ, vg_some, R.bnd_ok, mNil_eq, fLen_tup, mTup_eq, mC_eq, LIM_eq, Nat.reduceLeDiff, if_true, List.length_map, opNotIn_23, asB_ok]
  by_cases h23 : l.length ≠ 2 ∧ l.length ≠ 3
  · rw [form_no h23]
    simp [h23]
  · match l, h23, hx with
    | [a, b], _, hx =>
      have ka := ix_kind h (hx a (by simp))
      have kb := ix_kind h (hx b (by simp))
      have hmm : atI [D.int (a : Int), D.int (b : Int)] (-1) = some (D.int (b : Int)) := by rw [atI_m1]; rfl
      simp only [List.length_cons, List.length_nil, Nat.reduceAdd, ne_eq, Nat.reduceEqDiff, not_true_eq_false, false_and, decide_false, if_false, Bool.false_eq_true, mSkip_eq, R.bnd_ok, seqF_nx, mSeq_eq, mPar_eq, mCons_eq, mBin_eq, mVar_eq, get_0, List.getElem?_cons_succ, vg_some, mC_eq, ix_kinds, List.map_cons, List.map_nil, nD, opIx_tup, atI_0, ixR_some, ka, mUn_eq, opNeg_int, mNil_eq]
      rw [hmm]
      simp only [ixR_some, R.bnd_ok, kb, List.set_cons_succ, List.set_cons_zero, seqF_nx, mSeq_eq, mIfS_eq, mOrT_eq, mB_eq, mBin_eq, mVar_eq, get_0, List.getElem?_cons_succ, vg_some, mC_eq, opIsN_eq, asB_ok, kD_non, opEq_kD, Sys.form]
      by_cases h1 : y.kd a = none
      · simp [h1]
      · by_cases h2 : y.kd a = y.kd b
        · simp [h1, h2, opEq_kD]
          rw [← h2]
          simp [h1, opEq_kD]
        · simp [h1, h2, opEq_kD]
    | [a, b, c], _, hx =>
      have ka := ix_kind h (hx a (by simp))
      have kb := ix_kind h (hx b (by simp))
      have kc := ix_kind h (hx c (by simp))
      have hmm : atI [D.int (a : Int), D.int (b : Int), D.int (c : Int)] (-1) = some (D.int (c : Int)) := by rw [atI_m1]; rfl
      simp only [List.length_cons, List.length_nil, Nat.reduceAdd, ne_eq, Nat.reduceEqDiff, not_true_eq_false, and_false, decide_false, if_false, Bool.false_eq_true, mSkip_eq, R.bnd_ok, seqF_nx, mSeq_eq, mPar_eq, mCons_eq, mBin_eq, mVar_eq, get_0, List.getElem?_cons_succ, vg_some, mC_eq, ix_kinds, List.map_cons, List.map_nil, nD, opIx_tup, atI_0, ixR_some, ka, mUn_eq, opNeg_int, mNil_eq]
      rw [hmm]
      simp only [ixR_some, R.bnd_ok, kc, List.set_cons_succ, List.set_cons_zero, seqF_nx, mSeq_eq, mIfS_eq, mOrT_eq, mB_eq, mBin_eq, mVar_eq, get_0, List.getElem?_cons_succ, vg_some, mC_eq, opIsN_eq, asB_ok, kD_non, opEq_kD, Sys.form]
      by_cases h1 : y.kd a = none
      · simp [h1]
      · by_cases h2 : y.kd a = y.kd c
        · simp [h1, h2, opEq_kD]
          rw [← h2]
          simp [h1, opEq_kD, ix_kinds, kb]
        · simp [h1, h2, opEq_kD]
    | [], h, _ => simp at h
    | [_], h, _ => simp at h
    | _ :: _ :: _ :: _ :: _, h, _ => simp at h
theorem fnd_forms (y : Sys) : (fnd y.ops.length 3).filter y.form = y.forms := by
  rw [fnd_3]
  have e : ((List.range y.ops.length).map fun a => [a]).filter y.form = [] := by
    rw [List.filter_eq_nil_iff]
    intro l hl
    obtain ⟨a, _, rfl⟩ := List.mem_map.1 hl
    simp [Sys.form]
  simp only [List.filter_append, e, Sys.forms]
  simp [Sys.form]
theorem law_forms_lc {y : Sys} (h : y.Ok) {i j : Nat} {ρ : Ev} (hi : ρ[i]? = some (some y.D)) (hij : i ≠ j) (hj : j < ρ.length) (s : S) :
    lcF finL (.one j) (mB (mUser m__law_is_form (mCons (mVar i) (mCons (mVar j) mNil)))) (mVar j) [j] ρ (.fix ((fnd y.ops.length 3).map logD)) s = .ok (.lst (y.forms.map logD)) s := by
  have hf := fnd_le h.o6 (n := 3) (by decide)
  rw [lcF_fix (by simp; omega) (by simp), llc_filt (p := y.form) (g := logD) _ _ (fun l hl => ⟨_, rfl, ?_, fun _ => ?_⟩)]
  · rw [← fnd_forms]; rfl
  · have e1 : ((wipeD ρ [j]).set j (some (logD l)))[i]? = some (some y.D) := by
      rw [List.getElem?_set_ne (Ne.symm hij)]
      show (ρ.set j none)[i]? = _
      rw [List.getElem?_set_ne (Ne.symm hij), hi]
    have e2 : ((wipeD ρ [j]).set j (some (logD l)))[j]? = some (some (logD l)) := List.getElem?_set_self (by simpa [wipeD] using hj)
    simp only [mB_eq, mUser_eq, mCons_eq, mVar_eq, e1, e2, vg_some, R.bnd_ok, mNil_eq, law_is_form_ok h (fnd_mem hl).2, retag_ok, asB_ok]
  · have e2 : ((wipeD ρ [j]).set j (some (logD l)))[j]? = some (some (logD l)) := List.getElem?_set_self (by simpa [wipeD] using hj)
    simp only [mVar_eq, e2, vg_some]
theorem law_fault_ok {y : Sys} (h : y.Ok) (s : S) : wp (m__law_fault [y.D] s) fun d s' => d = slD y.fault ∧ ∃ t, s' = s ++ t := by
  unfold m__law_fault
  rw [mFn_eq]
  have h6 := h.o6
  simp only [wp_fin, initE, List.length_cons, List.length_nil, Nat.reduceAdd, Nat.reduceSub, List.map_cons, List.map_nil, List.replicate_succ, List.replicate_zero, List.cons_append, List.nil_append, mSeq_eq, mAsg_eq, mLcF_eq, mSrc_eq, mUser_eq, mCons_eq, mCall_eq, mBin_eq, mVar_eq, get_0, vg_some, R.bnd_ok, mC_eq, ix_ops, mNil_eq, fLen_tup, List.length_map]
  rw [show m__law_logs [.int (y.ops.length : Int), .int 3] s = .ok (.lst ((fnd y.ops.length 3).map logD)) (s ++ gar m__law_logs [nD y.ops.length, nD 3] s) from law_logs_eq h6 (by decide) s]
  simp only [retag_ok, R.bnd_ok, srcF_lst]
  rw [law_forms_lc h rfl (by decide) (by simp)]
  simp only [R.bnd_ok, gN_eq, List.set_cons_succ, List.set_cons_zero, seqF_nx, mSeq_eq, mFor_eq, mSrc_eq, mUser_eq, mCons_eq, mVar_eq, get_0, List.getElem?_cons_succ, vg_some, mNil_eq, law_reached_eq h, retag_ok, srcF_lst, forF_fix, wp_bnd]
  refine wp_find (f := nD) (fun ρ s' => (∃ x1 x3, ρ = [some y.D, x1, some (.lst (y.forms.map logD)), x3]) ∧ ∃ t, s' = s ++ t) (fun s' => ∃ t, s' = s ++ t) (fun st => y.forms.findSome? fun l => if y.bad st l = true then some (slO (st, l)) else none) _ _ _ ⟨⟨_, _, rfl⟩, _, List.append_assoc ..⟩ ?_ ?_ ?_
  · rintro st hst ρ s' ⟨⟨x1, x3, rfl⟩, t, rfl⟩
    simp only [gN_eq, wp_ok, List.set_cons_succ, List.set_cons_zero, mFor_eq, mSrc_eq, mVar_eq, get_0, List.getElem?_cons_succ, vg_some, R.bnd_ok, srcF_lst, forF_fix]
    refine wp_find (f := logD) (fun ρ s' => (∃ x1, ρ = [some y.D, x1, some (.lst (y.forms.map logD)), some (nD st)]) ∧ ∃ t, s' = s ++ t) (fun s' => ∃ t, s' = s ++ t) (fun l => if y.bad st l = true then some (slO (st, l)) else none) _ _ _ ⟨⟨_, rfl⟩, _, rfl⟩ ?_ ?_ ?_
    · rintro l hl ρ s' ⟨⟨x1, rfl⟩, t, rfl⟩
      obtain ⟨h1, h2, h3⟩ := forms_mem hl
      have r1 := law_run_ok h (reach_lt h hst) h2 (s ++ t)
      have r2 := law_run_ok h (reach_lt h hst) (l := l.tail) (fun x hx2 => h2 x (tail_sub hx2)) (s ++ t)
      have e : D.tup (l.map nD).tail = logD l.tail := by simp [logD, List.map_tail]
      have sl : opSl (logD l) (some 1) none (s ++ t) = .ok (logD l.tail) (s ++ t) := by
        rw [show opSl (logD l) (some 1) none (s ++ t) = .ok (.tup (cutD (l.map nD) (some 1) none)) (s ++ t) from rfl, cut_1, e]
      simp only [gN_eq, wp_ok, List.set_cons_succ, List.set_cons_zero, mIfS_eq, mB_eq, mBin_eq, mUser_eq, mCons_eq, mVar_eq, get_0, List.getElem?_cons_succ, vg_some, R.bnd_ok, mNil_eq, r1, retag_ok, mSl_eq, mPart_eq, mC_eq, mNo_eq, sl, r2, opNe_nD, asB_ok]
      by_cases hb : y.bad st l = true
      · have hb2 : ¬ y.run st l = y.run st l.tail := by simpa [Sys.bad] using hb
        simp [hb, hb2, slO]
      · have hb2 : y.run st l = y.run st l.tail := by simpa [Sys.bad] using hb
        simp [hb, hb2]
    · intro r s' e hi
      simp only [e, findQ_some]
      exact ⟨trivial, hi⟩
    · rintro ρ' s' e ⟨⟨x3, rfl⟩, hi⟩
      simp only [e, findQ_nx]
      exact ⟨⟨_, _, rfl⟩, hi⟩
  · intro r s' e hi
    rw [find2_map y.reach y.forms y.bad slO] at e
    simp only [seqF_ret, wp_ok, endQ_ret]
    refine ⟨?_, hi⟩
    rw [slD_get]
    show r = (Option.map slO (find2 y.reach y.forms y.bad)).getD .non
    rw [e]
    rfl
  · rintro ρ' s' e ⟨⟨x2, x3, rfl⟩, hi⟩
    rw [find2_map y.reach y.forms y.bad slO] at e
    simp only [seqF_nx, mRet_eq, mC_eq, R.bnd_ok, wp_ok, endQ_ret]
    refine ⟨?_, hi⟩
    rw [slD_get]
    show _ = (Option.map slO (find2 y.reach y.forms y.bad)).getD .non
    rw [e]
    rfl
theorem law_fault_eq {y : Sys} (h : y.Ok) (s : S) : m__law_fault [y.D] s = .ok (slD y.fault) (s ++ gar m__law_fault [y.D] s) := eq_gar (law_fault_ok h s)
end VL
namespace VL
open PySem PySem.Spec PyProof.Rows L2

theorem cut_m1 (xs : List D) : cutD xs none (some (-1)) = xs.dropLast := by
  unfold cutD
  rw [HT.sIx_none]
  show (xs.drop 0).take ((if (-1 : Int) < 0 then ((-1 : Int) + (xs.length : Int)).toNat else min (-1 : Int).toNat xs.length) - 0) = _
  rw [if_pos (by decide), List.drop_zero, Nat.sub_zero, List.dropLast_eq_take]
  congr 1
  omega
theorem dropLast_sub {l : List Nat} {x : Nat} (h : x ∈ l.dropLast) : x ∈ l := List.dropLast_subset l h
theorem sl_init {l : List Nat} (s : S) : opSl (logD l) none (some (-1)) s = .ok (logD l.dropLast) s := by
  rw [show opSl (logD l) none (some (-1)) s = .ok (.tup (cutD (l.map nD) none (some (-1)))) s from rfl, cut_m1]
  simp [logD, List.map_dropLast]
theorem sl_tail {l : List Nat} (s : S) : opSl (logD l) (some 1) none s = .ok (logD l.tail) s := by
  rw [show opSl (logD l) (some 1) none s = .ok (.tup (cutD (l.map nD) (some 1) none)) s from rfl, cut_1]
  simp [logD, List.map_tail]
theorem range_eq (a : Nat) : ∀ m : Nat, (List.range m).filter (fun b => decide (b = a)) = if a < m then [a] else []
  | 0 => by simp
  | m + 1 => by
    rw [List.range_succ, List.filter_append, range_eq a m]
    by_cases h : m = a
    · subst h; simp
    · by_cases h2 : a < m
      · simp [h, h2, Nat.lt_succ_of_lt h2]
      · have : ¬ a < m + 1 := by omega
        simp [h, h2, this]

/-! ### repeats -/
def Sys.rlogs (y : Sys) : List (List Nat) := ((List.range y.ops.length).map fun a => [a, a]) ++ (List.range y.ops.length).flatMap fun a => ((List.range y.ops.length).filter fun b => decide (a ≠ b)).map fun b => [a, b, a]
theorem rlogs_mem {y : Sys} {l : List Nat} (h : l ∈ y.rlogs) : (l.length = 2 ∨ l.length = 3) ∧ ∀ x ∈ l, x < y.ops.length := by
  rcases List.mem_append.1 h with h | h
  · obtain ⟨a, ha, rfl⟩ := List.mem_map.1 h
    have := List.mem_range.1 ha
    exact ⟨.inl rfl, by simp; exact this⟩
  · obtain ⟨a, ha, h⟩ := List.mem_flatMap.1 h
    obtain ⟨b, hb, rfl⟩ := List.mem_map.1 h
    have h1 := List.mem_range.1 ha
    have h2 := List.mem_range.1 (List.mem_filter.1 hb).1
    exact ⟨.inr rfl, by simp [h1, h2]⟩
def Sys.badL (y : Sys) (st : Nat) (l : List Nat) : Bool := decide (y.run st l ≠ y.run st l.dropLast)
def Sys.rfault (y : Sys) : Option (Nat × List Nat) := find2 y.reach y.rlogs y.badL
theorem rfault_some {y : Sys} {st : Nat} {l : List Nat} (h : y.rfault = some (st, l)) : st ∈ y.reach ∧ l ∈ y.rlogs ∧ y.run st l ≠ y.run st l.dropLast := by
  obtain ⟨h1, h2, h3⟩ := find2_some h
  exact ⟨h1, h2, by simpa [Sys.badL] using h3⟩
theorem fine_rfault {y : Sys} (hy : y.Ok) : Fine 2 8 (slD y.rfault) := fine_sl hy fun st l h => by
  obtain ⟨h1, h2, _⟩ := rfault_some h
  obtain ⟨h3, h4⟩ := rlogs_mem h2
  exact ⟨reach_lt hy h1, by omega, h4⟩
theorem lbgo_flatB {α : Type} {f : α → D} (B : Nat) {t : Tg} {tt : MT} {b : MB} {ρw : Ev} {s : S} {g : α → List D} : ∀ (xs : List α) (acc : List D), acc.length + (xs.flatMap g).length ≤ B →
    (∀ x ∈ xs, ∃ ρ1, tgM t (f x) ρw = some ρ1 ∧ ∀ acc, acc.length + (g x).length ≤ B → ((noX (tt ρ1 s)).bnd fun k s1 => if k = true then noX (b ρ1 acc s1) else .ok acc s1) = .ok (acc ++ g x) s) → lbgo t tt b ρw (xs.map f) acc s = .ok (acc ++ xs.flatMap g) s
  | [], acc, _, _ => by simp [lbgo]
  | x :: xs, acc, hl, h => by
    obtain ⟨ρ1, h1, h2⟩ := h x (List.mem_cons_self ..)
    rw [List.flatMap_cons, List.length_append] at hl
    have ih := lbgo_flatB B (t := t) (tt := tt) (b := b) (ρw := ρw) (s := s) (g := g) xs (acc ++ g x) (by rw [List.length_append]; omega) fun y hy => h y (List.mem_cons_of_mem _ hy)
    have h3 := h2 acc (by omega)
    simp only [List.map_cons]
    unfold lbgo
    rw [h1, List.flatMap_cons, ← List.append_assoc, ← ih]
    show (noX (tt ρ1 s)).bnd _ = _
    cases ht : tt ρ1 s with
    | bad => rw [ht] at h3; cases h3
    | exn c fs ρ s => rw [ht] at h3; cases h3
    | ok k s1 =>
      rw [ht] at h3
      simp only [noX_ok, R.bnd_ok] at h3 ⊢
      cases k with
      | false =>
        rw [if_neg Bool.false_ne_true] at h3 ⊢
        simp only [R.ok.injEq] at h3
        obtain ⟨e1, rfl⟩ := h3
        rw [← e1]
      | true =>
        rw [if_pos rfl] at h3 ⊢
        rw [h3]
        rfl
theorem repeat_logs_ok {y : Sys} (h : y.Ok) (s : S) : m_repeat_logs [y.D] s = .ok (.lst (y.rlogs.map logD)) s := by
  have h6 := h.o6
  have p3 := sq6 h6
  unfold m_repeat_logs
  rw [mFn_eq]
  have c1 : ∀ s, lcF finL (.one 3) mYes (mTup (mCons (mVar 3) (mCons (mVar 3) mNil))) [3] [some y.D, some (.lst ((List.range y.ops.length).map nD)), none, none, none] (.fix ((List.range y.ops.length).map nD)) s = .ok (.lst ((List.range y.ops.length).map fun a => logD [a, a])) s := fun s => by
    rw [lcF_fix (by simp; omega) rfl, llc_map (g := fun a => logD [a, a]) _ _ (fun e he => ⟨_, rfl, by simp [logD]⟩)]
    simp
  have lenF : ∀ a, (((List.range y.ops.length).filter fun b => decide (a ≠ b)).map fun b => logD [a, b, a]).length ≤ y.ops.length := fun a => by
    have := List.length_filter_le (fun b => decide (a ≠ b)) (List.range y.ops.length)
    simpa using this
  have flatLe : ∀ xs : List Nat, (xs.flatMap fun a => ((List.range y.ops.length).filter fun b => decide (a ≠ b)).map fun b => logD [a, b, a]).length ≤ xs.length * y.ops.length := fun xs => by
    induction xs with
    | nil => simp
    | cons a xs ih =>
      have := lenF a
      rw [List.flatMap_cons, List.length_append, List.length_cons, Nat.add_mul, Nat.one_mul]
      omega
  have fl := flatLe (List.range y.ops.length)
  rw [List.length_range] at fl
  have c2 : ∀ x2 s, inF (.one 3) mYes (bIn (mSrc (mVar 1)) (.one 4) (mB (mBin opNe (mVar 3) (mVar 4))) (bApp (mTup (mCons (mVar 3) (mCons (mVar 4) (mCons (mVar 3) mNil))))) [4]) [3, 4] [some y.D, some (.lst ((List.range y.ops.length).map nD)), x2, none, none] [] (.fix ((List.range y.ops.length).map nD)) s =
      .ok ((List.range y.ops.length).flatMap fun a => ((List.range y.ops.length).filter fun b => decide (a ≠ b)).map fun b => logD [a, b, a]) s := fun x2 s => by
    rw [inF_fix rfl, lbgo_flatB 1000 (g := fun a => ((List.range y.ops.length).filter fun b => decide (a ≠ b)).map fun b => logD [a, b, a]) _ _ ?_ ?_]
    · rfl
    · simp only [List.length_nil]
      omega
    · intro a ha
      refine ⟨_, rfl, fun acc hacc => ?_⟩
      simp only [mYes_eq, noX_ok, R.bnd_ok, if_true, bIn_eq, mSrc_eq, mVar_eq, wipeD_cons, wipeD_nil, List.set_cons_succ, List.set_cons_zero, get_0, List.getElem?_cons_succ, vg_some, srcF_lst]
      rw [inF_fix rfl, lbgo_filt (g := fun b => logD [a, b, a]) (p := fun b => decide (a ≠ b)) (by simp; omega) fun b hb => ⟨_, rfl, by simp [opNe_nD, - opEqF_int], fun _ => by simp [logD]⟩]
      rfl
  have e2 : ((List.range y.ops.length).map fun a => logD [a, a]) ++ ((List.range y.ops.length).flatMap fun a => ((List.range y.ops.length).filter fun b => decide (a ≠ b)).map fun b => logD [a, b, a]) = y.rlogs.map logD := by
    simp [Sys.rlogs, List.map_flatMap]
    rfl
  simp only [initE, List.length_cons, List.length_nil, Nat.reduceAdd, Nat.reduceSub, List.map_cons, List.map_nil, List.replicate_succ, List.replicate_zero, List.cons_append, List.nil_append, mSeq_eq, mAsg_eq, mListRg_eq, mCall_eq, mCons_eq, mBin_eq, mVar_eq, get_0, vg_some, R.bnd_ok, mC_eq, ix_ops, mNil_eq, fLen_tup, List.length_map]
  rw [rgOk_pos (by omega), rngD_nD]
  simp only [Int.toNat_natCast, R.bnd_ok, gN_eq, List.set_cons_succ, List.set_cons_zero, seqF_nx, mSeq_eq, mAsg_eq, mLcF_eq, mLcN_eq, mSrc_eq, mVar_eq, get_0, List.getElem?_cons_succ, vg_some, srcF_lst, c1, c2, mRet_eq, mBin_eq, finL_eq, opAdd_lst, List.length_map, List.length_range, LIM_eq]
  rw [if_pos (by omega), e2]
  rfl
theorem repeat_of_ok {y : Sys} (h : y.Ok) (s : S) : wp (m_repeat_of [y.D] s) fun d s' => d = slD y.rfault ∧ ∃ t, s' = s ++ t := by
  unfold m_repeat_of
  rw [mFn_eq]
  simp only [wp_fin, initE, List.length_cons, List.length_nil, Nat.reduceAdd, Nat.reduceSub, List.map_cons, List.map_nil, List.replicate_succ, List.replicate_zero, List.cons_append, List.nil_append, mSeq_eq, mAsg_eq, mUser_eq, mCons_eq, mVar_eq, get_0, vg_some, R.bnd_ok, mNil_eq, repeat_logs_ok h, retag_ok, gN_eq, List.set_cons_succ, List.set_cons_zero, seqF_nx, mFor_eq, mSrc_eq, reached_eq h]
  simp only [logD, srcF_tup, forF_fix, wp_bnd, R.bnd_ok]
  refine wp_find (f := nD) (fun ρ s' => (∃ x2 x3, ρ = [some y.D, some (.lst (y.rlogs.map logD)), x2, x3]) ∧ ∃ t, s' = s ++ t) (fun s' => ∃ t, s' = s ++ t) (fun st => y.rlogs.findSome? fun l => if y.badL st l = true then some (slO (st, l)) else none) _ _ _ ⟨⟨_, _, rfl⟩, _, rfl⟩ ?_ ?_ ?_
  · rintro st hst ρ s' ⟨⟨x2, x3, rfl⟩, t, rfl⟩
    simp only [gN_eq, wp_ok, List.set_cons_succ, List.set_cons_zero, mFor_eq, mSrc_eq, mVar_eq, get_0, List.getElem?_cons_succ, vg_some, R.bnd_ok, srcF_lst, forF_fix]
    refine wp_find (f := logD) (fun ρ s' => (∃ x3, ρ = [some y.D, some (.lst (y.rlogs.map logD)), some (nD st), x3]) ∧ ∃ t, s' = s ++ t) (fun s' => ∃ t, s' = s ++ t) (fun l => if y.badL st l = true then some (slO (st, l)) else none) _ _ _ ⟨⟨_, rfl⟩, _, rfl⟩ ?_ ?_ ?_
    · rintro l hl ρ s' ⟨⟨x3, rfl⟩, t, rfl⟩
      obtain ⟨h1, h2⟩ := rlogs_mem hl
      have r1 := run_from_ok h (reach_lt h hst) h2 (s ++ t)
      have r2 := run_from_ok h (reach_lt h hst) (l := l.dropLast) (fun x hx2 => h2 x (dropLast_sub hx2)) (s ++ t)
      simp only [gN_eq, wp_ok, List.set_cons_succ, List.set_cons_zero, mIfS_eq, mB_eq, mBin_eq, mUser_eq, mCons_eq, mVar_eq, get_0, List.getElem?_cons_succ, vg_some, R.bnd_ok, mNil_eq, r1, retag_ok, mSl_eq, mPart_eq, mUn_eq, mC_eq, opNeg_int, mNo_eq, sl_init, r2, opNe_nD, asB_ok]
      by_cases hb : y.badL st l = true
      · have hb2 : ¬ y.run st l = y.run st l.dropLast := by simpa [Sys.badL] using hb
        simp [hb, hb2, slO]
      · have hb2 : y.run st l = y.run st l.dropLast := by simpa [Sys.badL] using hb
        simp [hb, hb2]
    · intro r s' e hi
      simp only [e, findQ_some]
      exact ⟨trivial, hi⟩
    · rintro ρ' s' e ⟨⟨x3, rfl⟩, hi⟩
      simp only [e, findQ_nx]
      exact ⟨⟨_, _, rfl⟩, hi⟩
  · intro r s' e hi
    rw [find2_map y.reach y.rlogs y.badL slO] at e
    simp only [seqF_ret, wp_ok, endQ_ret]
    refine ⟨?_, hi⟩
    rw [slD_get]
    show r = (Option.map slO (find2 y.reach y.rlogs y.badL)).getD .non
    rw [e]
    rfl
  · rintro ρ' s' e ⟨⟨x2, x3, rfl⟩, hi⟩
    rw [find2_map y.reach y.rlogs y.badL slO] at e
    simp only [seqF_nx, mRet_eq, mC_eq, R.bnd_ok, wp_ok, endQ_ret]
    refine ⟨?_, hi⟩
    rw [slD_get]
    show _ = (Option.map slO (find2 y.reach y.rlogs y.badL)).getD .non
    rw [e]
    rfl
theorem repeat_of_eq {y : Sys} (h : y.Ok) (s : S) : m_repeat_of [y.D] s = .ok (slD y.rfault) (s ++ gar m_repeat_of [y.D] s) := eq_gar (repeat_of_ok h s)
theorem repeat_fault_ok {y : Sys} (h : y.Ok) (s : S) : m_repeat_fault [y.D] s = .ok (slD y.rfault) (s ++ gar m_repeat_of [y.D] s) := by
  unfold m_repeat_fault
  rw [mFn_eq]
  simp [initE, need_system_ok h, repeat_of_eq h]
end VL
namespace VL
open PySem PySem.Spec PyProof.Rows L2

section
variable {α : Type} {f : α → D}
theorem wp_srcFindGo {g : MG} {b : MS} {K : Fl → S → Prop} {src : Src} (J : Ev → S → Prop) (I : S → Prop) (P : α → Option D) {all : List α} (hsrc : ∀ ρ s, J ρ s → srcAt s src = some (all.map f)) : ∀ (xs pre : List α) (ρ : Ev) (s : S), all = pre ++ xs → J ρ s →
    (∀ x ∈ xs, ∀ ρ s, J ρ s → wp (g (f x) ρ s) fun ρ1 s1 => wp (b ρ1 s1) (findQ J I (P x))) → (∀ r s', xs.findSome? P = some r → I s' → K (.ret r) s') → (∀ ρ' s', xs.findSome? P = none → J ρ' s' → K (.nx ρ') s') → wp (mLoop src g b xs.length pre.length ρ s) K
  | [], pre, ρ, s, ha, hj, _, _, k2 => by
    rw [List.append_nil] at ha
    subst ha
    simp only [List.length_nil, mLoop, hsrc _ _ hj, List.length_map, if_true, wp_ok]
    exact k2 ρ s rfl hj
  | x :: xs, pre, ρ, s, ha, hj, ht, k1, k2 => by
    have hx : (all.map f)[pre.length]? = some (f x) := by rw [ha]; simp
    simp only [List.length_cons, mLoop, hsrc _ _ hj, hx]
    rw [wp_bnd]
    refine (ht x (List.mem_cons_self ..) ρ s hj).mono fun ρ1 s1 h1 => ?_
    rw [wp_bnd]
    refine h1.mono fun fl s2 h2 => ?_
    cases hp : P x with
    | some r =>
      rw [hp] at h2
      obtain ⟨rfl, hi⟩ := h2
      exact k1 r s2 (by simp [hp]) hi
    | none =>
      rw [hp] at h2
      have e : (x :: xs).findSome? P = xs.findSome? P := by simp [hp]
      rw [e] at k1 k2
      have more := fun ρ2 s2 (hj2 : J ρ2 s2) => wp_srcFindGo J I P hsrc xs (pre ++ [x]) ρ2 s2 (by rw [ha]; simp) hj2 (fun x hx => ht x (List.mem_cons_of_mem _ hx)) k1 k2
      simp only [List.length_append, List.length_singleton] at more
      cases fl with
      | nx ρ2 => exact more ρ2 s2 h2
      | ct ρ2 => exact more ρ2 s2 h2
      | bk ρ2 => exact h2.elim
      | ret d => exact h2.elim
theorem wp_srcFind {g : MG} {b : MS} {K : Fl → S → Prop} {src : Src} (J : Ev → S → Prop) (I : S → Prop) (P : α → Option D) (all : List α) {ρ : Ev} {s : S} (hsrc : ∀ ρ s, J ρ s → srcAt s src = some (all.map f)) (h0 : J ρ s)
    (ht : ∀ x ∈ all, ∀ ρ s, J ρ s → wp (g (f x) ρ s) fun ρ1 s1 => wp (b ρ1 s1) (findQ J I (P x))) (k1 : ∀ r s', all.findSome? P = some r → I s' → K (.ret r) s') (k2 : ∀ ρ' s', all.findSome? P = none → J ρ' s' → K (.nx ρ') s') : wp (forF g b ρ src s) K := by
  unfold forF
  rw [hsrc _ _ h0]
  show wp (mLoop src g b (all.map f).length 0 ρ s) K
  rw [List.length_map]
  exact wp_srcFindGo J I P hsrc all [] ρ s rfl h0 ht k1 k2
end
/-! ### pairs -/
theorem law_pairs_ok {m : Nat} (hm : m ≤ 6) (s : S) : m__law_pairs [nD m] s = .ok (.obj s.length) (s ++ [.lst ((pairsL m).map logD)]) := by
  have key : wp (m__law_pairs [nD m] s) fun d s' => d = .obj s.length ∧ s' = s ++ [.lst ((pairsL m).map logD)] := by
    unfold m__law_pairs nD
    rw [mFn_eq]
    simp only [wp_fin, initE, List.length_cons, List.length_nil, Nat.reduceAdd, Nat.reduceSub, List.map_cons, List.map_nil, List.replicate_succ, List.replicate_zero, List.cons_append, List.nil_append, mSeq_eq, mAsg_eq, mLstO_eq, mNil_eq, R.bnd_ok, LIM_eq, Nat.zero_le, if_true, gN_eq, List.set_cons_succ, List.set_cons_zero, seqF_nx, mFor_eq, mRng1_bnd, mCons_eq, mVar_eq, get_0, vg_some]
    rw [rng1F_ok _ (by omega), rngD_nD]
    simp only [Int.toNat_natCast, R.bnd_ok, forF_fix, wp_bnd]
    refine wp_each (f := nD) (fun pre ρ s' => ∃ x2 x3, ρ = [some (.int (m : Int)), some (.obj s.length), x2, x3] ∧ s' = s ++ [.lst ((pre.flatMap fun a => (List.range m).map fun b => [a, b]).map logD)]) _ _ _ ⟨_, _, rfl, rfl⟩ ?_ ?_
    · rintro pre a rest ρ s' he ⟨x2, x3, rfl, rfl⟩
      have hpl : pre.length < m := by
        have := congrArg List.length he
        simp at this
        omega
      have hlen : (pre.flatMap fun a => (List.range m).map fun b => [a, b]).length ≤ 36 := by
        rw [flatMap_len (k := m) _ (fun x _ => by simp)]
        exact Nat.le_trans (Nat.mul_le_mul (show pre.length ≤ 6 by omega) hm) (by decide)
      have g1 : (s ++ [O.lst ((pre.flatMap fun a => (List.range m).map fun b => [a, b]).map logD)])[s.length]? = some (.lst ((pre.flatMap fun a => (List.range m).map fun b => [a, b]).map logD)) := by simp
      have comp : ∀ x3 s, lcF finL (.one 3) mYes (mTup (mCons (mVar 2) (mCons (mVar 3) mNil))) [3] [some (.int (m : Int)), some (.obj s.length), some (nD a), x3] (.fix ((List.range m).map nD)) s = .ok (.lst (((List.range m).map fun b => [a, b]).map logD)) s := fun x3 s => by
        rw [lcF_fix (by simp; omega) rfl, llc_map (g := fun b => logD [a, b]) _ _ (fun b hb => ⟨_, rfl, by simp [logD]⟩)]
        simp
      have comp : ∀ x3 s', lcF finL (.one 3) mYes (mTup (mCons (mVar 2) (mCons (mVar 3) mNil))) [3] [some (.int (m : Int)), some (.obj s.length), some (nD a), x3] (.fix ((List.range m).map nD)) s' = .ok (.lst (((List.range m).map fun b => [a, b]).map logD)) s' := fun x3 s' => by
        rw [lcF_fix (by simp; omega) rfl, llc_map (g := fun b => logD [a, b]) _ _ (fun b hb => ⟨_, rfl, by simp [logD]⟩)]
        simp
      simp only [gN_eq, wp_ok, List.set_cons_succ, List.set_cons_zero, mDrop_eq, mExtend_eq, mVar_eq, get_0, List.getElem?_cons_succ, vg_some, R.bnd_ok, isLstO_obj g1, if_true, mLcF_eq, mRng1_bnd, mCons_eq, mNil_eq]
      rw [rng1F_ok _ (by omega), rngD_nD]
      simp only [Int.toNat_natCast, R.bnd_ok, comp]
      rw [fExtend_obj g1 rfl (by simp at hlen ⊢; omega)]
      simp only [R.bnd_ok, wp_ok, turnQ_nx]
      refine ⟨_, _, rfl, ?_⟩
      rw [set_app (Nat.le_refl _)]
      simp
    · rintro ρ s' ⟨x2, x3, rfl, rfl⟩
      simp only [seqF_nx, mRet_eq, mVar_eq, get_0, List.getElem?_cons_succ, vg_some, R.bnd_ok, wp_ok, endQ_ret]
      exact ⟨trivial, rfl⟩
  obtain ⟨d, s', e, rfl, rfl⟩ := key.ok
  exact e

/-! ### orders -/
def upL (a m : Nat) : List Nat := (List.range (m - (a + 1))).map fun k => a + 1 + k
theorem rng_up (a m : Nat) : rngD ((a : Int) + 1) ((m : Int) - ((a : Int) + 1)).toNat = (upL a m).map nD := by
  have e : ((m : Int) - ((a : Int) + 1)).toNat = m - (a + 1) := by omega
  rw [e]
  unfold rngD upL
  rw [List.map_map]
  refine List.map_congr_left fun k _ => ?_
  simp only [Function.comp]
  congr 1
theorem upL_mem {a m b : Nat} : b ∈ upL a m ↔ a < b ∧ b < m := by
  unfold upL
  rw [List.mem_map]
  constructor
  · rintro ⟨k, hk, rfl⟩
    have := List.mem_range.1 hk
    omega
  · rintro ⟨h1, h2⟩
    exact ⟨b - (a + 1), List.mem_range.2 (by omega), by omega⟩
def Sys.swp (y : Sys) (st a b : Nat) : Bool := decide (y.run st [a, b] ≠ y.run st [b, a])
def Sys.ofault (y : Sys) : Option (Nat × Nat × Nat) := y.reach.findSome? fun st => (List.range y.ops.length).findSome? fun a => (upL a y.ops.length).findSome? fun b => if y.swp st a b = true then some (st, a, b) else none
def sabO (p : Nat × Nat × Nat) : D := .tup [nD p.1, nD p.2.1, nD p.2.2]
def sabD : Option (Nat × Nat × Nat) → D
  | none => .non
  | some p => sabO p
theorem sabD_get (o : Option (Nat × Nat × Nat)) : sabD o = (o.map sabO).getD .non := by cases o <;> rfl
theorem ofault_map (y : Sys) : (y.reach.findSome? fun st => (List.range y.ops.length).findSome? fun a => (upL a y.ops.length).findSome? fun b => if y.swp st a b = true then some (sabO (st, a, b)) else none) = y.ofault.map sabO := by
  unfold Sys.ofault
  rw [List.map_findSome?]
  congr 1
  funext st
  simp only [Function.comp]
  rw [List.map_findSome?]
  congr 1
  funext a
  simp only [Function.comp]
  rw [List.map_findSome?]
  congr 1
  funext b
  simp only [Function.comp]
  split <;> rfl
theorem ofault_some {y : Sys} {st a b : Nat} (h : y.ofault = some (st, a, b)) : st ∈ y.reach ∧ a < b ∧ b < y.ops.length ∧ y.run st [a, b] ≠ y.run st [b, a] := by
  unfold Sys.ofault at h
  obtain ⟨st', h1, h⟩ := List.exists_of_findSome?_eq_some h
  obtain ⟨a', h2, h⟩ := List.exists_of_findSome?_eq_some h
  obtain ⟨b', h3, h⟩ := List.exists_of_findSome?_eq_some h
  split at h
  · rename_i hs
    cases h
    obtain ⟨h4, h5⟩ := upL_mem.1 h3
    exact ⟨h1, h4, h5, by simpa [Sys.swp] using hs⟩
  · cases h
theorem ofault_none {y : Sys} : y.ofault = none ↔ ∀ st ∈ y.reach, ∀ a b, a < b → b < y.ops.length → y.run st [a, b] = y.run st [b, a] := by
  unfold Sys.ofault
  rw [List.findSome?_eq_none_iff]
  constructor
  · intro h st hst a b hab hb
    have h2 := List.findSome?_eq_none_iff.1 (h st hst) a (List.mem_range.2 (by omega))
    have h3 := List.findSome?_eq_none_iff.1 h2 b (upL_mem.2 ⟨hab, hb⟩)
    by_cases e : y.run st [a, b] = y.run st [b, a]
    · exact e
    · have : y.swp st a b = true := by simp [Sys.swp, e]
      rw [if_pos this] at h3
      cases h3
  · intro h st hst
    rw [List.findSome?_eq_none_iff]
    intro a ha
    rw [List.findSome?_eq_none_iff]
    intro b hb
    obtain ⟨h4, h5⟩ := upL_mem.1 hb
    have := h st hst a b h4 h5
    simp [Sys.swp, this]
theorem fine_ofault {y : Sys} (hy : y.Ok) : Fine 1 3 (sabD y.ofault) := by
  cases h : y.ofault with
  | none => exact fine_non _ _
  | some p =>
    obtain ⟨st, a, b⟩ := p
    obtain ⟨h1, h2, h3, _⟩ := ofault_some h
    have := reach_lt hy h1
    have := hy.m6
    have := hy.o6
    have := fine_tup (k := 0) (n := 0) (ds := [nD st, nD a, nD b]) fun d hd => by
      simp only [List.mem_cons, List.not_mem_nil, or_false] at hd
      rcases hd with rfl | rfl | rfl <;> exact fine_nD _ _ (by omega)
    exact this.mono (Nat.le_refl _) (by simp)
theorem run2_ok {y : Sys} (h : y.Ok) {st a b : Nat} (hs : st < y.many) (ha : a < y.ops.length) (hb : b < y.ops.length) (s : S) : m_run_from [y.D, nD st, .tup [nD a, nD b]] s = .ok (nD (y.run st [a, b])) s :=
  run_from_ok h hs (l := [a, b]) (by simp [ha, hb]) s
theorem lrun2_ok {y : Sys} (h : y.Ok) {st a b : Nat} (hs : st < y.many) (ha : a < y.ops.length) (hb : b < y.ops.length) (s : S) : m__law_run [y.D, nD st, .tup [nD a, nD b]] s = .ok (nD (y.run st [a, b])) s :=
  law_run_ok h hs (l := [a, b]) (by simp [ha, hb]) s
theorem order_of_ok {y : Sys} (h : y.Ok) (s : S) : wp (m_order_of [y.D] s) fun d s' => d = sabD y.ofault ∧ ∃ t, s' = s ++ t := by
  have h6 := h.o6
  unfold m_order_of
  rw [mFn_eq]
  simp only [wp_fin, initE, List.length_cons, List.length_nil, Nat.reduceAdd, Nat.reduceSub, List.map_cons, List.map_nil, List.replicate_succ, List.replicate_zero, List.cons_append, List.nil_append, mSeq_eq, mAsg_eq, mCall_eq, mCons_eq, mBin_eq, mVar_eq, get_0, vg_some, R.bnd_ok, mC_eq, ix_ops, mNil_eq, fLen_tup, List.length_map, gN_eq, List.set_cons_succ, List.set_cons_zero, seqF_nx, mFor_eq, mSrc_eq, mUser_eq, reached_eq h, retag_ok]
  simp only [logD, srcF_tup, R.bnd_ok, forF_fix, wp_bnd]
  refine wp_find (f := nD) (fun ρ s' => (∃ x2 x3 x4, ρ = [some y.D, some (.int (y.ops.length : Int)), x2, x3, x4]) ∧ ∃ t, s' = s ++ t) (fun s' => ∃ t, s' = s ++ t) (fun st => (List.range y.ops.length).findSome? fun a => (upL a y.ops.length).findSome? fun b => if y.swp st a b = true then some (sabO (st, a, b)) else none) _ _ _ ⟨⟨_, _, _, rfl⟩, _, rfl⟩ ?_ ?_ ?_
  · rintro st hst ρ s' ⟨⟨x2, x3, x4, rfl⟩, t, rfl⟩
    have hs := reach_lt h hst
    simp only [gN_eq, wp_ok, List.set_cons_succ, List.set_cons_zero, mFor_eq, mRng1_bnd, mCons_eq, mVar_eq, get_0, List.getElem?_cons_succ, vg_some, R.bnd_ok, mNil_eq]
    rw [rng1F_ok _ (by omega), rngD_nD]
    simp only [Int.toNat_natCast, R.bnd_ok, forF_fix]
    refine wp_find (f := nD) (fun ρ s' => (∃ x3 x4, ρ = [some y.D, some (.int (y.ops.length : Int)), some (nD st), x3, x4]) ∧ ∃ t, s' = s ++ t) (fun s' => ∃ t, s' = s ++ t) (fun a => (upL a y.ops.length).findSome? fun b => if y.swp st a b = true then some (sabO (st, a, b)) else none) _ _ _ ⟨⟨_, _, rfl⟩, _, rfl⟩ ?_ ?_ ?_
    · rintro a ha ρ s' ⟨⟨x3, x4, rfl⟩, t, rfl⟩
      have ha' := List.mem_range.1 ha
      simp only [gN_eq, wp_ok, List.set_cons_succ, List.set_cons_zero, mFor_eq, mRng2_bnd, mCons_eq, mBin_eq, mVar_eq, get_0, List.getElem?_cons_succ, vg_some, R.bnd_ok, mC_eq, opAdd_int, mNil_eq]
      rw [rng2F_ok _ (by omega), rng_up]
      simp only [R.bnd_ok, forF_fix]
      refine wp_find (f := nD) (fun ρ s' => (∃ x4, ρ = [some y.D, some (.int (y.ops.length : Int)), some (nD st), some (nD a), x4]) ∧ ∃ t, s' = s ++ t) (fun s' => ∃ t, s' = s ++ t) (fun b => if y.swp st a b = true then some (sabO (st, a, b)) else none) _ _ _ ⟨⟨_, rfl⟩, _, rfl⟩ ?_ ?_ ?_
      · rintro b hb ρ s' ⟨⟨x4, rfl⟩, t, rfl⟩
        obtain ⟨hb1, hb2⟩ := upL_mem.1 hb
        simp only [gN_eq, wp_ok, List.set_cons_succ, List.set_cons_zero, mIfS_eq, mB_eq, mBin_eq, mUser_eq, mCons_eq, mVar_eq, get_0, List.getElem?_cons_succ, vg_some, R.bnd_ok, mTup_eq, mNil_eq, List.length_cons, List.length_nil, Nat.reduceAdd, LIM_eq, Nat.reduceLeDiff, if_true, run2_ok h hs ha' hb2, run2_ok h hs hb2 ha', retag_ok, opNe_nD, asB_ok]
        by_cases hsw : y.swp st a b = true
        · have hb2 : ¬ y.run st [a, b] = y.run st [b, a] := by simpa [Sys.swp] using hsw
          simp [hsw, hb2, sabO]
        · have hb2 : y.run st [a, b] = y.run st [b, a] := by simpa [Sys.swp] using hsw
          simp [hsw, hb2]
      · intro r s' e hi
        simp only [e, findQ_some]
        exact ⟨trivial, hi⟩
      · rintro ρ' s' e ⟨⟨x4, rfl⟩, hi⟩
        simp only [e, findQ_nx]
        exact ⟨⟨_, _, rfl⟩, hi⟩
    · intro r s' e hi
      simp only [e, findQ_some]
      exact ⟨trivial, hi⟩
    · rintro ρ' s' e ⟨⟨x3, x4, rfl⟩, hi⟩
      simp only [e, findQ_nx]
      exact ⟨⟨_, _, _, rfl⟩, hi⟩
  · intro r s' e hi
    rw [ofault_map] at e
    simp only [seqF_ret, wp_ok, endQ_ret]
    refine ⟨?_, hi⟩
    rw [sabD_get, e]
    rfl
  · rintro ρ' s' e ⟨⟨x2, x3, x4, rfl⟩, hi⟩
    rw [ofault_map] at e
    simp only [seqF_nx, mRet_eq, mC_eq, R.bnd_ok, wp_ok, endQ_ret]
    refine ⟨?_, hi⟩
    rw [sabD_get, e]
    rfl
theorem order_of_eq {y : Sys} (h : y.Ok) (s : S) : m_order_of [y.D] s = .ok (sabD y.ofault) (s ++ gar m_order_of [y.D] s) := eq_gar (order_of_ok h s)
theorem order_fault_ok {y : Sys} (h : y.Ok) (s : S) : m_order_fault [y.D] s = .ok (sabD y.ofault) (s ++ gar m_order_of [y.D] s) := by
  unfold m_order_fault
  rw [mFn_eq]
  simp [initE, need_system_ok h, order_of_eq h]
theorem first_apart_eq {y : Sys} (hy : y.Ok) {a b : List Nat} (ha : ∀ x ∈ a, x < y.ops.length) (hb : ∀ x ∈ b, x < y.ops.length) (s : S) : m_first_apart [y.D, logD a, logD b] s = .ok (kD (y.apart a b)) (s ++ gar m_first_apart [y.D, logD a, logD b] s) := eq_gar (first_apart_ok hy ha hb s)
/-- all calm -/
def Sys.calm (y : Sys) : Bool := (List.range y.ops.length).all fun n => decide (y.apart [n, n] [n] = none)
def Sys.bySet (y : Sys) : Bool := decide (y.ofault = none) && y.calm
theorem by_set_ok {y : Sys} (h : y.Ok) (s : S) : wp (m_by_set [y.D] s) fun d s' => d = .bl y.bySet ∧ ∃ t, s' = s ++ t := by
  have h6 := h.o6
  unfold m_by_set
  rw [mFn_eq]
  simp only [wp_fin, initE, List.length_cons, List.length_nil, Nat.reduceAdd, Nat.reduceSub, List.map_cons, List.map_nil, List.replicate_succ, List.replicate_zero, List.cons_append, List.nil_append, mSeq_eq, mDrop_eq, mUser_eq, mCons_eq, mVar_eq, get_0, vg_some, R.bnd_ok, mNil_eq, need_system_ok h, retag_ok, seqF_nx, mIfS_eq, mB_eq, mBin_eq, order_of_eq h, mC_eq, opNotN_eq, asB_ok]
  cases ho : y.ofault with
  | some p =>
    have e : y.bySet = false := by simp [Sys.bySet, ho]
    rw [e]
    simp [sabD, sabO]
  | none =>
    have e : y.bySet = y.calm := by simp [Sys.bySet, ho]
    rw [e]
    simp only [sabD, isNonD_non, Bool.not_true, Bool.false_eq_true, if_false, mSkip_eq, R.bnd_ok, seqF_nx, mRet_eq, mCall_eq, mCons_eq, mNil_eq, mLcF_eq, mRng1_bnd, mBin_eq, mVar_eq, get_0, vg_some, mC_eq, ix_ops, fLen_tup, List.length_map]
    rw [rng1F_ok _ (by omega), rngD_nD]
    simp only [Int.toNat_natCast, R.bnd_ok]
    rw [lcF_fix (by simp; omega) rfl]
    obtain ⟨u, hu⟩ := llc_up (f := nD) (t := .one 1) (el := mBin opIsN (mUser m_first_apart (mCons (mVar 0) (mCons (mTup (mCons (mVar 1) (mCons (mVar 1) mNil))) (mCons (mTup (mCons (mVar 1) mNil)) mNil)))) (mC .non)) (ρw := wipeD [some y.D, none] [1]) (g := fun n => .bl (decide (y.apart [n, n] [n] = none))) (List.range y.ops.length) [] (s ++ gar m_order_of [y.D] s)
      fun n hn s' => ⟨_, _, rfl, by
        have hn' := List.mem_range.1 hn
        have fa := fun s => first_apart_eq h (a := [n, n]) (b := [n]) (by simp [hn']) (by simp [hn']) s
        simp only [logD, List.map_cons, List.map_nil] at fa
        simp [fa, kD_non]
        rfl⟩
    rw [hu]
    simp only [R.bnd_ok, finL_eq, List.nil_append]
    rw [show (List.range y.ops.length).map (fun n => D.bl (decide (y.apart [n, n] [n] = none))) = ((List.range y.ops.length).map fun n => decide (y.apart [n, n] [n] = none)).map D.bl by simp, fAll_lst]
    simp only [R.bnd_ok, wp_ok, endQ_ret]
    refine ⟨?_, _, List.append_assoc ..⟩
    congr 1
    rw [List.all_map]
    rfl
theorem by_set_eq {y : Sys} (h : y.Ok) (s : S) : m_by_set [y.D] s = .ok (.bl y.bySet) (s ++ gar m_by_set [y.D] s) := eq_gar (by_set_ok h s)
end VL
namespace VL
open PySem PySem.Spec PyProof.Rows L2

/-! ### reachable states: closed under steps, their paths lead there -/
theorem step_eq {y : Sys} {k : Nat} {o : List Nat} (h : y.ops[k]? = some o) (st : Nat) : y.step st k = o.getD st 0 := by
  unfold Sys.step
  rw [List.getD_eq_getElem?_getD (l := y.ops), h, Option.getD_some]
theorem run_snoc (y : Sys) (st : Nat) (l : List Nat) (e : Nat) : y.run st (l ++ [e]) = y.step (y.run st l) e := by simp [Sys.run]
theorem run_app (y : Sys) (st : Nat) (l r : List Nat) : y.run st (l ++ r) = y.run (y.run st l) r := by simp [Sys.run]
theorem run_cons (y : Sys) (st e : Nat) (l : List Nat) : y.run st (e :: l) = y.run (y.step st e) l := rfl
def PathOk (y : Sys) (f : Fnd) : Prop := ∀ p ∈ f, y.run y.start p.2 = p.1
theorem PathOk.visit {y : Sys} {f : Fnd} (h : PathOk y f) {a : Nat × List Nat} (ha : a ∈ f) {k : Nat} {o : List Nat} (ho : y.ops[k]? = some o) : PathOk y (visit a k o f) := by
  unfold VL.visit
  split
  · exact h
  · intro p hp
    rcases List.mem_append.1 hp with hp | hp
    · exact h p hp
    · rw [List.mem_singleton] at hp
      subst hp
      simp only [run_snoc, h a ha, step_eq ho]
theorem PathOk.row {y : Sys} {a : Nat × List Nat} : ∀ (os pre : List (List Nat)) {f : Fnd}, y.ops = pre ++ os → PathOk y f → a ∈ f → PathOk y (rowFrom a pre.length os f)
  | [], pre, f, _, h, _ => h
  | o :: os, pre, f, e, h, ha => by
    have h1 := h.visit ha (k := pre.length) (o := o) (by rw [e]; simp)
    have := PathOk.row os (pre ++ [o]) (by rw [e]; simp) h1 (visit_mem ha)
    simpa [rowFrom] using this
theorem PathOk.bfs {y : Sys} : ∀ (n at' : Nat) {f : Fnd}, PathOk y f → PathOk y (y.bfs n at' f)
  | 0, _, _, h => h
  | n + 1, at', f, h => by
    unfold Sys.bfs
    split
    · rename_i hl
      have hm : f.getD at' (0, []) ∈ f := by
        rw [List.getD_eq_getElem?_getD, List.getElem?_eq_getElem hl, Option.getD_some]
        exact List.getElem_mem _
      exact PathOk.bfs n (at' + 1) (PathOk.row y.ops [] rfl h hm)
    · exact h
theorem paths_run {y : Sys} : PathOk y y.paths := PathOk.bfs _ _ fun p hp => by
  rw [List.mem_singleton] at hp
  subst hp
  rfl
theorem row_pre {a : Nat × List Nat} : ∀ (os : List (List Nat)) (k : Nat) (f : Fnd), ∃ t, rowFrom a k os f = f ++ t
  | [], _, f => ⟨[], by simp [rowFrom]⟩
  | o :: os, k, f => by
    obtain ⟨t1, h1⟩ := visit_pre (a := a) (k := k) (o := o) (f := f)
    obtain ⟨t2, h2⟩ := row_pre (a := a) os (k + 1) (visit a k o f)
    exact ⟨t1 ++ t2, by rw [rowFrom, h2, h1, List.append_assoc]⟩
theorem visit_has (a : Nat × List Nat) (k : Nat) (o : List Nat) (f : Fnd) : o.getD a.1 0 ∈ (visit a k o f).map (·.1) := by
  unfold visit
  split
  · assumption
  · simp
theorem row_has {a : Nat × List Nat} : ∀ (os : List (List Nat)) (k : Nat) (f : Fnd) (o : List Nat), o ∈ os → o.getD a.1 0 ∈ (rowFrom a k os f).map (·.1)
  | o :: os, k, f, o', h => by
    rcases List.mem_cons.1 h with rfl | h
    · obtain ⟨t, ht⟩ := row_pre (a := a) os (k + 1) (visit a k o' f)
      rw [rowFrom, ht, List.map_append]
      exact List.mem_append_left _ (visit_has ..)
    · rw [rowFrom]
      exact row_has os (k + 1) _ o' h
/-- the first ones are done -/
def Done (y : Sys) (at' : Nat) (f : Fnd) : Prop := ∀ i, i < at' → ∀ p, f[i]? = some p → ∀ o ∈ y.ops, o.getD p.1 0 ∈ f.map (·.1)
theorem bfs_done {y : Sys} (hy : y.Ok) : ∀ (n at' : Nat) (f : Fnd), FOk y f → at' ≤ f.length → Done y at' f → y.many + 1 ≤ n + at' → Done y (y.bfs n at' f).length (y.bfs n at' f)
  | 0, at', f, hf, h1, h2, h3 => by
    have := hf.len
    omega
  | n + 1, at', f, hf, h1, h2, h3 => by
    unfold Sys.bfs
    split
    · rename_i hl
      have hm : f.getD at' (0, []) ∈ f := by
        rw [List.getD_eq_getElem?_getD, List.getElem?_eq_getElem hl, Option.getD_some]
        exact List.getElem_mem _
      obtain ⟨t, ht⟩ := row_pre (a := f.getD at' (0, [])) y.ops 0 f
      refine bfs_done hy n (at' + 1) _ (FOk.row hy y.ops [] rfl hf hm) (by rw [ht, List.length_append]; omega) ?_ (by omega)
      intro i hi p hp o ho
      by_cases e : i = at'
      · subst e
        have : p = f.getD i (0, []) := by
          rw [ht, List.getElem?_append_left hl] at hp
          rw [List.getD_eq_getElem?_getD, hp, Option.getD_some]
        subst this
        exact row_has y.ops 0 f o ho
      · rw [ht, List.getElem?_append_left (by omega)] at hp
        have := h2 i (by omega) p hp o ho
        rw [ht, List.map_append]
        exact List.mem_append_left _ this
    · intro i hi p hp o ho
      exact h2 i (by omega) p hp o ho
theorem reach_iff {y : Sys} {st : Nat} : st ∈ y.reach ↔ ∃ l, (st, l) ∈ y.paths := by
  unfold Sys.reach
  rw [srt_mem]
  unfold Sys.states
  rw [List.mem_map]
  constructor
  · rintro ⟨⟨a, l⟩, h, rfl⟩
    exact ⟨l, h⟩
  · rintro ⟨l, h⟩
    exact ⟨_, h, rfl⟩
theorem bfs_pre {y : Sys} : ∀ (n at' : Nat) (f : Fnd), ∃ t, y.bfs n at' f = f ++ t
  | 0, _, f => ⟨[], by simp [Sys.bfs]⟩
  | n + 1, at', f => by
    unfold Sys.bfs
    split
    · obtain ⟨t1, h1⟩ := row_pre (a := f.getD at' (0, [])) y.ops 0 f
      obtain ⟨t2, h2⟩ := bfs_pre (y := y) n (at' + 1) (rowFrom (f.getD at' (0, [])) 0 y.ops f)
      exact ⟨t1 ++ t2, by rw [h2, h1, List.append_assoc]⟩
    · exact ⟨[], by simp⟩
theorem reach_start (y : Sys) : y.start ∈ y.reach := by
  obtain ⟨t, ht⟩ := bfs_pre (y := y) 2000 0 [(y.start, [])]
  exact reach_iff.2 ⟨[], by unfold Sys.paths; rw [ht]; simp⟩
theorem reach_step {y : Sys} (hy : y.Ok) {st e : Nat} (h : st ∈ y.reach) (he : e < y.ops.length) : y.step st e ∈ y.reach := by
  obtain ⟨l, hl⟩ := reach_iff.1 h
  have hd : Done y y.paths.length y.paths := bfs_done hy 2000 0 _ (FOk.start hy) (by simp) (fun i hi => absurd hi (by omega)) (by have := hy.m6; omega)
  obtain ⟨i, hi, e1⟩ := List.getElem_of_mem hl
  have := hd i hi (st, l) (by rw [List.getElem?_eq_getElem hi, e1]) y.ops[e] (List.getElem_mem he)
  rw [step_eq (List.getElem?_eq_getElem he)]
  unfold Sys.reach
  rw [srt_mem]
  exact this
theorem reach_run {y : Sys} (hy : y.Ok) : ∀ {l : List Nat} {st : Nat}, st ∈ y.reach → (∀ x ∈ l, x < y.ops.length) → y.run st l ∈ y.reach
  | [], _, h, _ => h
  | e :: l, st, h, hx => reach_run hy (l := l) (reach_step hy h (hx e (List.mem_cons_self ..))) fun x hx2 => hx x (List.mem_cons_of_mem _ hx2)

/-! ### compacting with right kinds -/
theorem cmp_drop (y : Sys) {a : Nat} {r : List Nat} (h : y.kd a ≠ none) (h2 : y.kd a ∈ r.map y.kd) : ∀ p : List Nat, y.cmp (p ++ a :: r) = y.cmp (p ++ r)
  | [] => by
    show y.cmp (a :: r) = y.cmp r
    rw [cmp_cons, if_neg]
    rintro (z | z)
    · exact h z
    · exact z h2
  | e :: p => by
    simp only [List.cons_append, cmp_cons, cmp_drop y h h2 p]
    have : (y.kd e ∉ (p ++ a :: r).map y.kd) ↔ (y.kd e ∉ (p ++ r).map y.kd) := by
      simp only [List.map_append, List.map_cons, List.mem_append, List.mem_cons, not_or]
      constructor
      · rintro ⟨h3, _, h5⟩
        exact ⟨h3, h5⟩
      · rintro ⟨h3, h5⟩
        exact ⟨h3, fun z => h5 (z ▸ h2), h5⟩
    simp only [this]
/-- the kinds are right -/
structure Right (y : Sys) : Prop where
  two : ∀ st ∈ y.reach, ∀ a c, a < y.ops.length → c < y.ops.length → y.kd a ≠ none → y.kd a = y.kd c → y.run st [a, c] = y.run st [c]
  three : ∀ st ∈ y.reach, ∀ a b c, a < y.ops.length → b < y.ops.length → c < y.ops.length → y.kd a ≠ none → y.kd a = y.kd c → y.run st [a, b, c] = y.run st [b, c]
theorem right_iff {y : Sys} : y.fault = none ↔ Right y := by
  unfold Sys.fault
  rw [find2_none]
  constructor
  · intro h
    have h2 : ∀ st ∈ y.reach, ∀ a c, a < y.ops.length → c < y.ops.length → y.kd a ≠ none → y.kd a = y.kd c → y.run st [a, c] = y.run st [c] := fun st hst a c ha hc h1 h2 => by
      have hm : [a, c] ∈ y.forms := List.mem_filter.2 ⟨List.mem_append_left _ (List.mem_flatMap.2 ⟨a, List.mem_range.2 ha, List.mem_map.2 ⟨c, List.mem_range.2 hc, rfl⟩⟩), by simp [Sys.form, h1, ← h2]⟩
      have := h st hst _ hm
      exact Classical.not_not.1 (of_decide_eq_false this)
    refine ⟨h2, fun st hst a b c ha hb hc h1 h3 => ?_⟩
    by_cases hk : y.kd b = y.kd a
    · have e := h2 st hst a b ha hb h1 hk.symm
      show y.step (y.run st [a, b]) c = y.step (y.run st [b]) c
      rw [e]
    · have hm : [a, b, c] ∈ y.forms := List.mem_filter.2 ⟨List.mem_append_right _ (List.mem_flatMap.2 ⟨a, List.mem_range.2 ha, List.mem_flatMap.2 ⟨b, List.mem_range.2 hb, List.mem_map.2 ⟨c, List.mem_range.2 hc, rfl⟩⟩⟩), by
        simp only [Sys.form, decide_eq_true_eq]
        exact ⟨h1, h3, hk⟩⟩
      have := h st hst _ hm
      exact Classical.not_not.1 (of_decide_eq_false this)
  · intro R st hst l hl
    obtain ⟨h1, h2, h3⟩ := forms_mem hl
    match l, h1, h2, h3 with
    | [a, c], _, h2, h3 =>
      simp only [Sys.form, decide_eq_true_eq] at h3
      simp [Sys.bad, R.two st hst a c (h2 a (by simp)) (h2 c (by simp)) h3.1 h3.2]
    | [a, b, c], _, h2, h3 =>
      simp only [Sys.form, decide_eq_true_eq] at h3
      simp [Sys.bad, R.three st hst a b c (h2 a (by simp)) (h2 b (by simp)) (h2 c (by simp)) h3.1 h3.2.1]
    | [], h1, _, _ => simp at h1
    | [_], h1, _, _ => simp at h1
    | _ :: _ :: _ :: _ :: _, h1, _, _ => simp at h1
/-- alike for a kind -/
def Alike (y : Sys) (k u v : Nat) : Prop := ∀ c, c < y.ops.length → y.kd c = y.kd k → y.step u c = y.step v c
theorem Alike.step {y : Sys} (hy : y.Ok) (R : Right y) {k u v b : Nat} (hk : k < y.ops.length) (hk1 : y.kd k ≠ none) (hu : u ∈ y.reach) (hv : v ∈ y.reach) (hb : b < y.ops.length) (h : Alike y k u v) : Alike y k (y.step u b) (y.step v b) := fun c hc e => by
  have e0 := h k hk rfl
  have e1 := R.three u hu k b c hk hb hc hk1 e.symm
  have e2 := R.three v hv k b c hk hb hc hk1 e.symm
  show y.run u [b, c] = y.run v [b, c]
  rw [← e1, ← e2]
  show y.step (y.step (y.step u k) b) c = y.step (y.step (y.step v k) b) c
  rw [e0]
theorem Alike.run {y : Sys} (hy : y.Ok) (R : Right y) {k : Nat} (hk : k < y.ops.length) (hk1 : y.kd k ≠ none) : ∀ {w : List Nat} {u v : Nat}, (∀ x ∈ w, x < y.ops.length) → u ∈ y.reach → v ∈ y.reach → Alike y k u v → Alike y k (y.run u w) (y.run v w)
  | [], _, _, _, _, _, h => h
  | b :: w, u, v, hx, hu, hv, h => by
    have hb := hx b (List.mem_cons_self ..)
    exact Alike.run hy R hk hk1 (w := w) (fun x hx2 => hx x (List.mem_cons_of_mem _ hx2)) (reach_step hy hu hb) (reach_step hy hv hb) (h.step hy R hk hk1 hu hv hb)
theorem right_drop {y : Sys} (hy : y.Ok) (R : Right y) {a c u : Nat} {w r : List Nat} (ha : a < y.ops.length) (hc : c < y.ops.length) (hw : ∀ x ∈ w, x < y.ops.length) (hu : u ∈ y.reach) (h1 : y.kd a ≠ none) (h2 : y.kd a = y.kd c) : y.run u (a :: (w ++ c :: r)) = y.run u (w ++ c :: r) := by
  have al : Alike y a (y.step u a) u := fun c' hc' e => by
    have := R.two u hu a c' ha hc' h1 e.symm
    exact this
  have := Alike.run hy R ha h1 hw (reach_step hy hu ha) hu al c hc h2.symm
  rw [run_cons, run_app, run_app, run_cons, run_cons, this]
theorem right_cmp {y : Sys} (hy : y.Ok) (R : Right y) : ∀ {l : List Nat} {u : Nat}, (∀ x ∈ l, x < y.ops.length) → u ∈ y.reach → y.run u (y.cmp l) = y.run u l
  | [], _, _, _ => rfl
  | e :: l, u, hx, hu => by
    have he := hx e (List.mem_cons_self ..)
    have hl : ∀ x ∈ l, x < y.ops.length := fun x hx2 => hx x (List.mem_cons_of_mem _ hx2)
    rw [cmp_cons]
    split
    · rw [run_cons, run_cons, right_cmp hy R hl (reach_step hy hu he)]
    · rename_i hn
      rw [not_or, Classical.not_not] at hn
      obtain ⟨c, hc, e2⟩ := List.mem_map.1 hn.2
      obtain ⟨w, r, rfl⟩ := List.append_of_mem hc
      rw [right_cmp hy R hl hu, right_drop hy R he (hl c (by simp)) (fun x hx2 => hl x (List.mem_append_left _ hx2)) hu hn.1 e2.symm]
/-- what changed tells -/
def Sys.pathTo (y : Sys) (st : Nat) : List Nat := ((y.paths.find? fun p => decide (p.1 = st)).map (·.2)).getD []
theorem pathTo_mem {y : Sys} {st : Nat} (h : st ∈ y.reach) : (st, y.pathTo st) ∈ y.paths := by
  obtain ⟨l, hl⟩ := reach_iff.1 h
  unfold Sys.pathTo
  cases hf : y.paths.find? fun p => decide (p.1 = st) with
  | none =>
    have := List.find?_eq_none.1 hf _ hl
    simp at this
  | some p =>
    have h1 := List.mem_of_find?_eq_some hf
    have h2 := List.find?_some hf
    simp only [decide_eq_true_eq] at h2
    subst h2
    exact h1
theorem pathTo_run {y : Sys} {st : Nat} (h : st ∈ y.reach) : y.run y.start (y.pathTo st) = st := paths_run _ (pathTo_mem h)
theorem pathTo_lt {y : Sys} (hy : y.Ok) {st : Nat} (h : st ∈ y.reach) : ∀ x ∈ y.pathTo st, x < y.ops.length := (paths_ok hy).lg _ (pathTo_mem h)
theorem pathTo_len {y : Sys} (hy : y.Ok) {st : Nat} (h : st ∈ y.reach) : (y.pathTo st).length < 6 := by
  have h1 : (y.pathTo st).length < y.paths.length := (paths_ok hy).ll _ (pathTo_mem h)
  have h2 := (paths_ok hy).len
  have := hy.m6
  omega
def Sys.chg (y : Sys) (l : List Nat) : Bool := decide (y.run y.start l ≠ y.run y.start (y.cmp l))
def Sys.changed (y : Sys) : Option (List Nat) := y.fault.map fun p => if y.chg (y.pathTo p.1 ++ p.2) = true then y.pathTo p.1 ++ p.2 else y.pathTo p.1 ++ p.2.tail
theorem form_cmp {y : Sys} {l : List Nat} (h : y.form l = true) (p : List Nat) : y.cmp (p ++ l) = y.cmp (p ++ l.tail) := by
  match l, h with
  | [a, b], h =>
    simp only [Sys.form, decide_eq_true_eq] at h
    exact cmp_drop y h.1 (by simp [h.2]) p
  | [a, b, c], h =>
    simp only [Sys.form, decide_eq_true_eq] at h
    exact cmp_drop y h.1 (by simp [h.2.1]) p
  | [], h => cases h
  | [_], h => cases h
  | _ :: _ :: _ :: _ :: _, h => cases h
theorem changed_some {y : Sys} (hy : y.Ok) {l : List Nat} (h : y.changed = some l) : LogOk y 9 l ∧ y.chg l = true := by
  unfold Sys.changed at h
  obtain ⟨⟨st, f⟩, h1, h2⟩ := Option.map_eq_some_iff.1 h
  obtain ⟨hs, hf, hne⟩ := fault_some h1
  obtain ⟨f1, f2, f3⟩ := forms_mem hf
  have pl := pathTo_len hy hs
  have plt := pathTo_lt hy hs
  have pr := pathTo_run hs
  simp only at h2
  split at h2
  · rename_i hc
    subst h2
    refine ⟨⟨by simp; omega, fun x hx => ?_⟩, hc⟩
    rcases List.mem_append.1 hx with hx | hx
    · exact plt x hx
    · exact f2 x hx
  · rename_i hc
    subst h2
    refine ⟨⟨by simp; omega, fun x hx => ?_⟩, ?_⟩
    · rcases List.mem_append.1 hx with hx | hx
      · exact plt x hx
      · exact f2 x (tail_sub hx)
    · have e : y.run y.start (y.pathTo st ++ f) = y.run y.start (y.cmp (y.pathTo st ++ f)) := by simpa [Sys.chg] using hc
      simp only [Sys.chg, decide_eq_true_eq]
      intro z
      rw [← form_cmp f3, ← e, run_app, run_app, pr] at z
      exact hne z.symm
theorem changed_none {y : Sys} : y.changed = none ↔ y.fault = none := by simp [Sys.changed]
end VL
namespace VL
open PySem PySem.Spec PyProof.Rows L2

theorem paths_of_eq {y : Sys} (hy : y.Ok) (s : S) : m_paths_of [y.D] s = .ok (.obj s.length) (s ++ [.dct (y.paths.map kvD), .lst (y.states.map nD)]) := by
  obtain ⟨d, s', e, rfl, rfl⟩ := (paths_of_ok hy s).ok
  exact e
theorem paths_ix {y : Sys} (hy : y.Ok) {st : Nat} (h : st ∈ y.reach) (s t : S) : opIxU (.obj s.length) (nD st) (s ++ [.dct (y.paths.map kvD), .lst (y.states.map nD)] ++ t) = .ok (logD (y.pathTo st)) (s ++ [.dct (y.paths.map kvD), .lst (y.states.map nD)] ++ t) := by
  have g : (s ++ [O.dct (y.paths.map kvD), .lst (y.states.map nD)] ++ t)[s.length]? = some (.dct (y.paths.map kvD)) := by simp
  unfold opIxU dgetD
  simp only [g]
  rw [show (keyD (nD st)).map (look keyD (y.paths.map kvD)) = some (look keyD (y.paths.map kvD) (Sum.inl (st : Int))) from rfl, show look keyD (y.paths.map kvD) (Sum.inl (st : Int)) = some (logD (y.pathTo st)) from look_some (y := y) (paths_ok hy).nd (pathTo_mem h)]
theorem is_changed_ok {y : Sys} (h : y.Ok) {l : List Nat} (hn : l.length ≤ 1000) (hx : ∀ x ∈ l, x < y.ops.length) (s : S) : m_is_changed [y.D, logD l] s = .ok (.bl (y.chg l)) s := by
  unfold m_is_changed
  rw [mFn_eq]
  have c1 := fun s => compacted_log_ok h hn hx s
  have o1 := fun s => outcome_of_ok h hx s
  have o2 := fun s => outcome_of_ok h (l := y.cmp l) (fun x hx2 => hx x (cmp_sub y hx2)) s
  simp only [initE, List.length_cons, List.length_nil, Nat.reduceAdd, Nat.reduceSub, List.map_cons, List.map_nil, List.replicate_succ, List.replicate_zero, List.cons_append, List.nil_append, List.append_nil, mRet_eq, mBin_eq, mUser_eq, mCons_eq, mVar_eq, get_0, List.getElem?_cons_succ, vg_some, R.bnd_ok, mNil_eq, o1, retag_ok, c1, o2, opNe_nD, fin_ret, Sys.chg]
  simp
def lD : Option (List Nat) → D
  | none => .non
  | some l => logD l
theorem fine_lD {y : Sys} (hy : y.Ok) {c : Nat} {o : Option (List Nat)} (h : ∀ l, o = some l → LogOk y c l) : Fine 1 c (lD o) := by
  cases o with
  | none => exact fine_non _ _
  | some l => exact fine_logOk hy (h l rfl)
theorem opAdd_log {a b : List Nat} (h : a.length + b.length ≤ 1000000) (s : S) : opAdd (logD a) (logD b) s = .ok (logD (a ++ b)) s := by
  unfold logD
  rw [opAdd_tup, if_pos (by simpa using h), List.map_append]
theorem changed_ok {y : Sys} (h : y.Ok) (s : S) : wp (m_changed [y.D] s) fun d s' => d = lD y.changed ∧ ∃ t, s' = s ++ t := by
  unfold m_changed
  rw [mFn_eq]
  simp only [wp_fin, initE, List.length_cons, List.length_nil, Nat.reduceAdd, Nat.reduceSub, List.map_cons, List.map_nil, List.replicate_succ, List.replicate_zero, List.cons_append, List.nil_append, mSeq_eq, mDrop_eq, mUser_eq, mCons_eq, mVar_eq, get_0, vg_some, R.bnd_ok, mNil_eq, need_system_ok h, retag_ok, seqF_nx, mAsg_eq, fault_of_eq h, gN_eq, List.set_cons_succ, List.set_cons_zero, mIfS_eq, mB_eq, mBin_eq, List.getElem?_cons_succ, mC_eq, opIsN_eq, asB_ok]
  cases hf : y.fault with
  | none =>
    have : y.changed = none := changed_none.2 hf
    rw [this]
    simp [slD, lD]
  | some p =>
    obtain ⟨st, l⟩ := p
    obtain ⟨hs, hl, hne⟩ := fault_some hf
    obtain ⟨f1, f2, f3⟩ := forms_mem hl
    have pl := pathTo_len h hs
    have plt := pathTo_lt h hs
    have hb : ∀ x ∈ y.pathTo st ++ l, x < y.ops.length := fun x hx => (List.mem_append.1 hx).elim (plt x) (f2 x)
    have hc := fun s => is_changed_ok h (l := y.pathTo st ++ l) (by simp; omega) hb s
    have px := fun s t => (show opIxU (.obj s.length) (.int (st : Int)) (s ++ [.dct (y.paths.map kvD), .lst (y.states.map nD)] ++ t) = .ok (logD (y.pathTo st)) (s ++ [.dct (y.paths.map kvD), .lst (y.states.map nD)] ++ t) from paths_ix h hs s t)
    have px0 := fun s => px s []
    simp only [List.append_nil] at px0
    have a1 := fun s => opAdd_log (a := y.pathTo st) (b := l) (by omega) s
    have a2 := fun s => opAdd_log (a := y.pathTo st) (b := l.tail) (by simp; omega) s
    have e : y.changed = some (if y.chg (y.pathTo st ++ l) = true then y.pathTo st ++ l else y.pathTo st ++ l.tail) := by simp [Sys.changed, hf]
    rw [e]
    simp only [slD, isNonD_tup, Bool.false_eq_true, if_false, mSkip_eq, R.bnd_ok, seqF_nx, mSeq_eq, mAsg_eq, mVar_eq, get_0, List.getElem?_cons_succ, vg_some, gT_eq, gConsM_eq, gN_eq, gNilM_eq, List.length_cons, List.length_nil, Nat.reduceAdd, if_true, List.set_cons_succ, List.set_cons_zero, mBin_eq, mUser_eq, mCons_eq, mNil_eq, paths_of_eq h, retag_ok, px0, mRet_eq, mIf_eq, mB_eq, a1, hc, asB_ok, mSl_eq, mPart_eq, mC_eq, mNo_eq, sl_tail, a2]
    by_cases hch : y.chg (y.pathTo st ++ l) = true
    · simp [hch, lD]
    · simp [hch, lD]
theorem changed_eq {y : Sys} (h : y.Ok) (s : S) : m_changed [y.D] s = .ok (lD y.changed) (s ++ gar m_changed [y.D] s) := eq_gar (changed_ok h s)
/-! path -/
theorem reachable_ok {y : Sys} (h : y.Ok) (s : S) : m_reachable [y.D] s = .ok (logD y.reach) (s ++ gar m_reached [y.D] s) := by
  unfold m_reachable
  rw [mFn_eq]
  simp [initE, need_system_ok h, reached_eq h]
end VL
namespace VL
open PySem PySem.Spec PyProof.Rows L2

theorem opEq_ones (f : Bool → Bool) (n : Nat) (s : S) : opEqF f (.lst (List.replicate n (.int 1))) (.lst []) s = .ok (.bl (f (decide (n = 0)))) s := by
  have e : List.replicate n (D.int 1) = (List.replicate n (1 : Int)).map D.int := by simp
  rw [opEqF_py (p := .list ((List.replicate n (1 : Int)).map PyData.int)) (q := .list []) s (by rw [e]; simp only [toPyS, toPy, toPys_ints, Option.map_some]) rfl (shaped_ints _) rfl rfl]
  congr 3
  cases n <;> simp [List.replicate_succ, PyData.eqv, PyData.eqvAll]
theorem filt_ones {α : Type} (p : α → Bool) (xs : List α) : (xs.filter p).map (fun _ => D.int 1) = List.replicate (xs.filter p).length (.int 1) := by
  generalize xs.filter p = l
  induction l with
  | nil => rfl
  | cons a l ih => simp [List.replicate_succ, ih]
theorem law_is_whole_int (i a b : Int) (s : S) : m__law_is_whole [.int i, .int a, .int b] s = .ok (.bl (decide (a ≤ i ∧ i ≤ b))) s := by
  unfold m__law_is_whole
  rw [mFn_eq]
  by_cases h : a ≤ i
  · by_cases h2 : i ≤ b <;> simp [initE, h, h2]
  · simp [initE, h]
theorem law_is_log_ok {y : Sys} (h : y.Ok) {l : List Nat} (hn : l.length ≤ 1000) (hx : ∀ x ∈ l, x < y.ops.length) (s : S) : m__law_is_log [y.D, logD l] s = .ok (.bl true) s := by
  have h6 := h.o6
  unfold m__law_is_log logD
  rw [mFn_eq]
  have comp : ∀ s, lcF finL (.one 2) (mNotT (mB (mUser m__law_is_whole (mCons (mVar 2) (mCons (mC (.int 0)) (mCons (mBin opSub (mCall fLen (mCons (mBin opIx (mVar 0) (mC (.int 2))) mNil)) (mC (.int 1))) mNil)))))) (mC (.int 1)) [2] [some y.D, some (.tup (l.map nD)), none] (.fix (l.map nD)) s = .ok (.lst (List.replicate 0 (.int 1))) s := fun s => by
    rw [lcF_fix (by simp; omega) rfl, llc_filt (p := fun _ => false) (g := fun _ => D.int 1) _ _ (fun e he => ⟨_, rfl, ?_, fun z => by cases z⟩)]
    · simp
    · have := hx e he
      have hb : (0 : Int) ≤ (e : Int) ∧ (e : Int) ≤ (y.ops.length : Int) - 1 := by omega
      simp [ix_ops, law_is_whole_int, hb]
  simp [initE, comp]
  rw [show opEq (D.lst []) (D.lst []) s = .ok (.bl true) s from opEq_ones (fun b => b) 0 s]
  simp
end VL
namespace VL
open PySem PySem.Spec PyProof.Rows L2
/-- a row of drawn logs -/
theorem wp_logrow {i p f c : Nat} {y : Sys} (hy : y.Ok) {el : ME} {ρw : Ev} {s : S} (hc : c ≤ 999) (xs : List D) (hel : ∀ (d : D) (s : S) (Q : D → S → Prop), wp (m__law_log [.obj p, y.D, .int (c : Int)] s) Q → wp (el (ρw.set i (some d)) s) Q)
    (h : Pen p (f + xs.length * (c + 1)) s) : wp (llc (.one i) mYes el ρw xs [] s) fun ys s' => ∃ ls : List (List Nat), ys = ls.map logD ∧ ls.length = xs.length ∧ (∀ l ∈ ls, LogOk y c l) ∧ Pen p f s' ∧ Frm p s s' := by
  refine (wp_llc (I := fun ds acc s' => ∃ ls : List (List Nat), acc = ls.map logD ∧ ls.length + ds.length = xs.length ∧ (∀ l ∈ ls, LogOk y c l) ∧ Pen p (f + ds.length * (c + 1)) s' ∧ Frm p s s') ?_ xs [] s ⟨[], rfl, by simp, by simp, h, Frm.refl _ _⟩).mono ?_
  · intro d ds acc s' ⟨ls, h1, h2, h3, h4, h5⟩
    refine ⟨_, rfl, hel _ _ _ ((wp_log (f := f + ds.length * (c + 1)) hy (h4.mono (by simp only [List.length_cons, Nat.add_mul]; omega)) rfl hc).mono fun d s1 ⟨l, e, hl, hx, hp, hf⟩ => ?_)⟩
    refine ⟨ls ++ [l], by simp [h1, e], by simp at h2 ⊢; omega, ?_, hp, h5.trans hf⟩
    intro x hx2
    rcases List.mem_append.1 hx2 with hx2 | hx2
    · exact h3 x hx2
    · simp at hx2
      subst hx2
      exact ⟨hl, hx⟩
  · intro ys s' ⟨ls, h1, h2, h3, h4, h5⟩
    exact ⟨ls, h1, by simpa using h2, h3, by simpa using h4, h5⟩
theorem fnd_logOk {y : Sys} {n c : Nat} (h : n ≤ c) {l : List Nat} (hl : l ∈ fnd y.ops.length n) : LogOk y c l := by
  obtain ⟨h1, h2⟩ := fnd_mem hl
  exact ⟨by omega, h2⟩
theorem opEq_bl (f : Bool → Bool) (a b : Bool) (s : S) : opEqF f (.bl a) (.bl b) s = .ok (.bl (f (a == b))) s := by
  rw [opEqF_py (p := .bool a) (q := .bool b) s rfl rfl rfl rfl rfl]
  cases a <;> cases b <;> simp [PyData.eqv]
end VL
namespace VL
open PySem PySem.Spec PyProof.Rows L2

/-! ### == of logs -/
def pyL (l : List Nat) : List PyData := l.map fun (n : Nat) => PyData.int (n : Int)
theorem toPys_log : ∀ l : List Nat, toPys (l.map nD) = some (pyL l)
  | [] => rfl
  | n :: l => by simp [toPys, toPy, toPys_log l, pyL]
theorem toPy_log (l : List Nat) : toPy (logD l) = some (.tuple (pyL l)) := by simp [logD, toPy, toPys_log]
theorem lay_log : ∀ l : List Nat, PyData.canLayAll0 (pyL l) = true ∧ PyData.depthAll (pyL l) = 0
  | [] => ⟨rfl, rfl⟩
  | n :: l => by
    obtain ⟨h1, h2⟩ := lay_log l
    unfold pyL at h1 h2 ⊢
    simp [PyData.canLayAll0, PyData.canLay0, PyData.depthAll, PyData.depth, h1, h2]
theorem shaped_log (l : List Nat) : SeqAt.shaped (.tuple (pyL l)) = true ∧ SeqAt.shaped (.list (pyL l)) = true := by
  obtain ⟨h1, h2⟩ := lay_log l
  simp [SeqAt.shaped, PyData.canLay0, PyData.depth, h1, h2]
theorem eqv_log : ∀ a b : List Nat, PyData.eqvAll (pyL a) (pyL b) = decide (a = b)
  | [], [] => rfl
  | [], _ :: _ => rfl
  | _ :: _, [] => rfl
  | a :: as, b :: bs => by
    have ih := eqv_log as bs
    unfold pyL at ih ⊢
    simp only [List.map_cons, PyData.eqvAll, PyData.eqv, ih]
    by_cases h : a = b
    · subst h; simp
    · have : ¬ (a : Int) = b := by omega
      simp [h, this]
theorem opEq_log (f : Bool → Bool) (a b : List Nat) (s : S) : opEqF f (logD a) (logD b) s = .ok (.bl (f (decide (a = b)))) s := by
  rw [opEqF_py (p := .tuple (pyL a)) (q := .tuple (pyL b)) s (show toPyS s (logD a) = _ from toPy_log a) (show toPyS s (logD b) = _ from toPy_log b) (shaped_log a).1 (shaped_log b).1 rfl]
  show R.ok (D.bl (f (PyData.eqvAll (pyL a) (pyL b)))) s = _
  rw [eqv_log]
/-! ### what is asked of states and logs -/
theorem opIn_reach {y : Sys} (f : Bool → Bool) (st : Nat) (s : S) : opInB f (nD st) (logD y.reach) s = .ok (.bl (f (decide (st ∈ y.reach)))) s := by
  unfold logD
  rw [opIn_tupK rfl (all_nD _), anyF_nD]
  congr 3
  rw [List.contains_eq_mem]
theorem shows_fault_non {y : Sys} (h : y.Ok) (s : S) : m_shows_fault [y.D, .non] s = .ok (.bl (decide (y.fault = none))) (s ++ gar m_fault_of [y.D] s) := by
  unfold m_shows_fault
  rw [mFn_eq]
  simp only [initE, List.length_cons, List.length_nil, Nat.reduceAdd, Nat.reduceSub, List.map_cons, List.map_nil, List.replicate_succ, List.replicate_zero, List.cons_append, List.nil_append, mSeq_eq, mDrop_eq, mUser_eq, mCons_eq, mVar_eq, get_0, List.getElem?_cons_succ, vg_some, R.bnd_ok, mNil_eq, need_system_ok h, retag_ok, seqF_nx, mIfS_eq, mB_eq, mBin_eq, mC_eq, opIsN_eq, isNonD_non, asB_ok, if_true, mRet_eq, fault_of_eq h, seqF_ret, fin_ret]
  cases y.fault <;> simp [slD]
theorem shows_fault_sl {y : Sys} (h : y.Ok) {st : Nat} {l : List Nat} (hn : l.length ≤ 1000) (hx : ∀ x ∈ l, x < y.ops.length) (s : S) : m_shows_fault [y.D, .tup [nD st, logD l]] s = .ok (.bl (decide (st ∈ y.reach) && y.form l && y.bad st l)) (s ++ gar m_reached [y.D] s) := by
  unfold m_shows_fault
  rw [mFn_eq]
  have il := fun s => is_log_ok h hn hx s
  have ifo := fun s => is_form_ok h hn hx s
  simp only [initE, List.length_cons, List.length_nil, Nat.reduceAdd, Nat.reduceSub, List.map_cons, List.map_nil, List.replicate_succ, List.replicate_zero, List.cons_append, List.nil_append, mSeq_eq, mDrop_eq, mUser_eq, mCons_eq, mVar_eq, get_0, List.getElem?_cons_succ, vg_some, R.bnd_ok, mNil_eq, need_system_ok h, retag_ok, seqF_nx, mIfS_eq, mB_eq, mBin_eq, mC_eq, opIsN_eq, isNonD_tup, asB_ok, Bool.false_eq_true, if_false, mSkip_eq, mOrT_eq, mNotT_eq, mCall_eq, fIsi_tup, isT_tt]
  rw [if_pos (by decide)]
  simp only [R.bnd_ok, asB_ok, Bool.not_true, Bool.false_eq_true, if_false, fLen_tup, List.length_cons, List.length_nil, Nat.reduceAdd]
  rw [show opNe (D.int ((2 : Nat) : Int)) (.int 2) s = .ok (.bl false) s from by rw [show opNe (D.int ((2 : Nat) : Int)) (.int 2) s = _ from opEqF_int s (fun b => !b) _ _]; rfl]
  simp only [R.bnd_ok, asB_ok, Bool.false_eq_true, if_false, opIx_tup, atI_0, atI_1, get_0, List.getElem?_cons_succ, ixR_some, is_whole_int, retag_ok, Bool.not_true, il, mAsg_eq, mSeq_eq, mSkip_eq, seqF_nx, mVar_eq, vg_some, gT_eq, gConsM_eq, gN_eq, gNilM_eq, List.length_cons, List.length_nil, Nat.reduceAdd, if_true, List.set_cons_succ, List.set_cons_zero, mRet_eq, mAndV_eq, mBin_eq, mUser_eq, mCons_eq, mNil_eq, reached_eq h]
  rw [show opIn (D.int (st : Int)) (logD y.reach) (s ++ gar m_reached [y.D] s) = _ from opIn_reach (fun b => b) st _]
  by_cases h1 : st ∈ y.reach
  · simp only [h1, decide_true, R.bnd_ok, asB_ok, if_true, ifo, retag_ok, is_faulty_ok h (reach_lt h h1) hx, Bool.true_and]
    cases y.form l <;> simp
  · simp [h1]
theorem shows_fault_D {y : Sys} (h : y.Ok) (s : S) : wp (m_shows_fault [y.D, slD y.fault] s) fun d s' => d = .bl true ∧ ∃ t, s' = s ++ t := by
  cases hf : y.fault with
  | none =>
    rw [show slD none = .non from rfl, shows_fault_non h, hf]
    exact ⟨by simp, _, rfl⟩
  | some p =>
    obtain ⟨st, l⟩ := p
    obtain ⟨h1, h2, h3⟩ := fault_some hf
    obtain ⟨f1, f2, f3⟩ := forms_mem h2
    rw [show slD (some (st, l)) = .tup [nD st, logD l] from rfl, shows_fault_sl h (by omega) f2]
    exact ⟨by simp [h1, f3, Sys.bad, h3], _, rfl⟩
theorem shows_changed_log {y : Sys} (h : y.Ok) {l : List Nat} (hn : l.length ≤ 1000) (hx : ∀ x ∈ l, x < y.ops.length) (s : S) : m_shows_changed [y.D, logD l] s = .ok (.bl (y.chg l)) s := by
  unfold m_shows_changed
  rw [mFn_eq]
  have il := fun s => is_log_ok h hn hx s
  have ic := fun s => is_changed_ok h hn hx s
  simp only [initE, List.length_cons, List.length_nil, Nat.reduceAdd, Nat.reduceSub, List.map_cons, List.map_nil, List.replicate_succ, List.replicate_zero, List.cons_append, List.nil_append, List.append_nil, mSeq_eq, mDrop_eq, mUser_eq, mCons_eq, mVar_eq, get_0, List.getElem?_cons_succ, vg_some, R.bnd_ok, mNil_eq, need_system_ok h, retag_ok, seqF_nx, mIfS_eq, mB_eq, mBin_eq, mC_eq, opIsN_eq, show isNonD (logD l) = false from rfl, asB_ok, Bool.false_eq_true, if_false, mSkip_eq, mRet_eq, mAndV_eq, il, if_true, ic, fin_ret]
/-! path -/
theorem paths_notin {y : Sys} {st : Nat} (h : st ∈ y.reach) (s : S) : opNotInD (nD st) (.obj s.length) (s ++ [.dct (y.paths.map kvD), .lst (y.states.map nD)]) = .ok (.bl false) (s ++ [.dct (y.paths.map kvD), .lst (y.states.map nD)]) := by
  show opInU (fun b => !b) _ _ _ = _
  unfold opInU dgetD
  simp only [get2a]
  show R.ok (D.bl (!(look keyD (y.paths.map kvD) (Sum.inl (st : Int))).isSome)) _ = _
  rw [look_none]
  obtain ⟨l, hl⟩ := reach_iff.1 h
  rw [decide_eq_true (List.mem_map_of_mem (f := (·.1)) hl)]
  rfl
theorem path_ok {y : Sys} (h : y.Ok) {st : Nat} (hs : st ∈ y.reach) (s : S) : m_path [y.D, nD st] s = .ok (logD (y.pathTo st)) (s ++ [.dct (y.paths.map kvD), .lst (y.states.map nD)]) := by
  unfold m_path
  rw [mFn_eq]
  have px := paths_ix h hs s []
  rw [List.append_nil] at px
  have pn := paths_notin hs s
  simp only [nD] at px pn
  simp only [initE, List.length_cons, List.length_nil, Nat.reduceAdd, Nat.reduceSub, List.map_cons, List.map_nil, List.replicate_succ, List.replicate_zero, List.cons_append, List.nil_append, mSeq_eq, mDrop_eq, mUser_eq, mCons_eq, mVar_eq, get_0, List.getElem?_cons_succ, vg_some, R.bnd_ok, mNil_eq, need_system_ok h, retag_ok, seqF_nx, mAsg_eq, paths_of_eq h, gN_eq, List.set_cons_succ, List.set_cons_zero, mIfS_eq, mOrT_eq, mNotT_eq, mB_eq, is_whole_int, asB_ok, Bool.not_true, Bool.false_eq_true, if_false, mBin_eq, pn, mSkip_eq, mRet_eq, px, fin_ret]
end VL
namespace VL
open PySem PySem.Spec PyProof.Rows L2
/-! ### sorting that computes -/
def ins (x : Nat) : List Nat → List Nat
  | [] => [x]
  | y :: l => if x ≤ y then x :: y :: l else y :: ins x l
def isrt : List Nat → List Nat
  | [] => []
  | x :: l => ins x (isrt l)
theorem ins_perm (x : Nat) : ∀ l : List Nat, (ins x l).Perm (x :: l)
  | [] => .refl _
  | y :: l => by
    unfold ins
    split
    · exact .refl _
    · exact ((ins_perm x l).cons y).trans (.swap ..)
theorem isrt_perm : ∀ l : List Nat, (isrt l).Perm l
  | [] => .refl _
  | x :: l => (ins_perm x _).trans ((isrt_perm l).cons x)
theorem ins_pw (x : Nat) : ∀ l : List Nat, l.Pairwise (· ≤ ·) → (ins x l).Pairwise (· ≤ ·)
  | [], _ => by simp [ins]
  | y :: l, h => by
    obtain ⟨h1, h2⟩ := List.pairwise_cons.1 h
    unfold ins
    split
    · rename_i hxy
      refine List.pairwise_cons.2 ⟨fun z hz => ?_, h⟩
      rcases List.mem_cons.1 hz with rfl | hz
      · exact hxy
      · exact Nat.le_trans hxy (h1 z hz)
    · rename_i hxy
      refine List.pairwise_cons.2 ⟨fun z hz => ?_, ins_pw x l h2⟩
      rcases List.mem_cons.1 ((ins_perm x l).mem_iff.1 hz) with rfl | hz
      · omega
      · exact h1 z hz
theorem isrt_pw : ∀ l : List Nat, (isrt l).Pairwise (· ≤ ·)
  | [] => .nil
  | x :: l => ins_pw x _ (isrt_pw l)
theorem srt_isrt (l : List Nat) : srt l = isrt l := by
  have h : (isrt l).map (fun (n : Nat) => (n : Int)) = isort (l.map fun (n : Nat) => (n : Int)) := by
    refine isort_of ((isrt_perm l).map _) ?_
    rw [List.pairwise_map]
    exact (isrt_pw l).imp fun h => by omega
  unfold srt
  rw [← h, List.map_map]
  simp [Function.comp_def]
theorem reach_isrt (y : Sys) : y.reach = isrt y.states := srt_isrt _
end VL
namespace VL
open PySem PySem.Spec PyProof.Rows L2

/-! ### pairs of states, dicts with pairs as keys -/
def prD (p : Nat × Nat) : D := .tup [nD p.1, nD p.2]
def pk (p : Nat × Nat) : List Key := [.inl (p.1 : Int), .inl (p.2 : Int)]
@[simp] theorem keyT_pr (p : Nat × Nat) : keyT (prD p) = some (pk p) := rfl
theorem pk_inj {p q : Nat × Nat} (h : pk p = pk q) : p = q := by
  obtain ⟨a, b⟩ := p
  obtain ⟨c, d⟩ := q
  simp only [pk, List.cons.injEq, Sum.inl.injEq, and_true] at h
  obtain ⟨h1, h2⟩ := h
  have e1 : a = c := by omega
  have e2 : b = d := by omega
  rw [e1, e2]
section
variable {α : Type} (pp : α → Nat × Nat) (v : α → D)
def kvs (f : List α) : List (D × D) := f.map fun x => (prD (pp x), v x)
theorem look_pr (p : Nat × Nat) : ∀ f : List α, look keyT (kvs pp v f) (pk p) = (f.find? fun x => decide (pp x = p)).map v
  | [] => rfl
  | x :: f => by
    have ih := look_pr p f
    unfold look kvs at ih ⊢
    simp only [List.map_cons, List.find?_cons, keyT_pr]
    by_cases h : pp x = p
    · simp [h]
    · have : ¬ (some (pk (pp x)) = some (pk p)) := fun z => h (pk_inj (Option.some.inj z))
      simp only [h, this, decide_false]
      exact ih
theorem find_some_iff (p : Nat × Nat) (f : List α) : (f.find? fun x => decide (pp x = p)).isSome = decide (p ∈ f.map pp) := by
  by_cases h : p ∈ f.map pp
  · rw [decide_eq_true h, List.find?_isSome]
    obtain ⟨x, hx, e⟩ := List.mem_map.1 h
    exact ⟨x, hx, decide_eq_true e⟩
  · rw [decide_eq_false h]
    cases hh : f.find? fun x => decide (pp x = p) with
    | none => rfl
    | some x =>
      have h1 := List.find?_some hh
      have h2 := List.mem_of_find?_eq_some hh
      exact absurd (of_decide_eq_true h1 ▸ List.mem_map_of_mem h2) h
theorem look_prS (p : Nat × Nat) (f : List α) : (look keyT (kvs pp v f) (pk p)).isSome = decide (p ∈ f.map pp) := by
  rw [look_pr, Option.isSome_map, find_some_iff]
theorem put_prN {p : Nat × Nat} {f : List α} {d : D} (h : p ∉ f.map pp) : put keyT (kvs pp v f) (prD p) (pk p) d = kvs pp v f ++ [(prD p, d)] := by
  unfold put
  rw [if_neg]
  intro z
  obtain ⟨q, hq, e⟩ := List.any_eq_true.1 z
  obtain ⟨x, hx, rfl⟩ := List.mem_map.1 hq
  have e := of_decide_eq_true e
  exact h (pk_inj (Option.some.inj e) ▸ List.mem_map_of_mem hx)
theorem dget_pr {s : S} {n : Nat} {f : List α} (h : s[n]? = some (.dctT (kvs pp v f))) (p : Nat × Nat) : dgetD s (.obj n) (prD p) = some ((f.find? fun x => decide (pp x = p)).map v) := by
  unfold dgetD
  simp only [h]
  rw [keyT_pr, Option.map_some, look_pr]
theorem notIn_pr {s : S} {n : Nat} {f : List α} (h : s[n]? = some (.dctT (kvs pp v f))) (p : Nat × Nat) : opNotInD (prD p) (.obj n) s = .ok (.bl (!decide (p ∈ f.map pp))) s := by
  show opInU (fun b => !b) _ _ _ = _
  unfold opInU
  rw [dget_pr pp v h]
  show R.ok (D.bl (!((f.find? fun x => decide (pp x = p)).map v).isSome)) _ = _
  rw [Option.isSome_map, find_some_iff]
theorem in_pr {s : S} {n : Nat} {f : List α} (h : s[n]? = some (.dctT (kvs pp v f))) (p : Nat × Nat) : opInD (prD p) (.obj n) s = .ok (.bl (decide (p ∈ f.map pp))) s := by
  show opInU (fun b => b) _ _ _ = _
  unfold opInU
  rw [dget_pr pp v h]
  show R.ok (D.bl ((f.find? fun x => decide (pp x = p)).map v).isSome) _ = _
  rw [Option.isSome_map, find_some_iff]
theorem set_pr {s : S} {n : Nat} {f : List α} (h : s[n]? = some (.dctT (kvs pp v f))) (hl : f.length < 1000000) (p : Nat × Nat) (d : D) : setIxU (.obj n) (prD p) d s = some (s.set n (.dctT (put keyT (kvs pp v f) (prD p) (pk p) d))) := by
  have : (kvs pp v f).length < LIM := by unfold kvs; rw [List.length_map]; exact hl
  unfold setIxU dputD
  simp only [h, keyT_pr, Option.bind_some, if_pos this]
end
@[simp] theorem gIxU_eq (mo mi d ρ s) : gIxU mo mi d ρ s = (mo ρ s).bnd fun o s1 => (mi ρ s1).bnd fun i s2 => match setIxU o i d s2 with
  | some s3 => .ok ρ s3
  | none => .bad := rfl
/-! a dict's making -/
theorem dc_fix {α : Type} {g : α → D} {kf vf : α → D} {ky : α → List Key} {t : Tg} {mk mv : ME} {ρw : Ev} {s : S} : ∀ (xs : List α) (pre : List D) (acc : List (D × D)), acc.length + xs.length ≤ 1000000 →
    (∀ x ∈ xs, ∃ ρ1, tgM t (g x) ρw = some ρ1 ∧ mk ρ1 s = .ok (kf x) s ∧ mv ρ1 s = .ok (vf x) s ∧ keyT (kf x) = some (ky x)) →
    dcGo (.fix (pre ++ xs.map g)) t mYes mk mv ρw xs.length pre.length acc s = .ok (xs.foldl (fun a x => put keyT a (kf x) (ky x) (vf x)) acc) s
  | [], pre, acc, _, _ => by simp [dcGo, srcAt]
  | x :: xs, pre, acc, hl, h => by
    obtain ⟨ρ1, h1, h2, h3, h4⟩ := h x (List.mem_cons_self ..)
    have hx : (pre ++ (x :: xs).map g)[pre.length]? = some (g x) := by simp
    simp only [List.length_cons] at hl
    have hla : acc.length < LIM := by show acc.length < 1000000; omega
    have hp := put_len keyT acc (kf x) (ky x) (vf x)
    have ih := dc_fix (g := g) (kf := kf) (vf := vf) (ky := ky) (t := t) (mk := mk) (mv := mv) (ρw := ρw) (s := s) xs (pre ++ [g x]) (put keyT acc (kf x) (ky x) (vf x)) (by omega) (fun z hz => h z (List.mem_cons_of_mem _ hz))
    have e1 : pre ++ [g x] ++ xs.map g = pre ++ (x :: xs).map g := by simp
    have e2 : (pre ++ [g x]).length = pre.length + 1 := by simp
    rw [e1, e2] at ih
    simp only [List.length_cons, dcGo, srcAt, hx, h1, h2, h3, h4, if_pos hla, mYes, noX, R.bnd_ok, if_true, ih, List.foldl_cons]
theorem mDcT_fix {α : Type} {g : α → D} {kf vf : α → D} {ky : α → List Key} {it : MI} {t : Tg} {mk mv : ME} {vs : List Nat} {ρ : Ev} {s s1 : S} {xs : List α} (h : it ρ s = .ok (.fix (xs.map g)) s1) (hl : xs.length ≤ 1000000) (hs : (t.slots.all fun i => vs.contains i) = true)
    (hp : ∀ x ∈ xs, ∃ ρ1, tgM t (g x) (wipeD ρ vs) = some ρ1 ∧ mk ρ1 s1 = .ok (kf x) s1 ∧ mv ρ1 s1 = .ok (vf x) s1 ∧ keyT (kf x) = some (ky x)) :
    mDcT it t mYes mk mv vs ρ s = .ok (.obj s1.length) (s1 ++ [.dctT (xs.foldl (fun a x => put keyT a (kf x) (ky x) (vf x)) [])]) := by
  have hs2 : ∀ i ∈ t.slots, i ∈ vs := fun i hi => by simpa using List.all_eq_true.mp hs i hi
  have k := dc_fix (g := g) (kf := kf) (vf := vf) (ky := ky) (t := t) (mk := mk) (mv := mv) (ρw := wipeD ρ vs) (s := s1) xs [] [] (by simpa using hl) hp
  simp only [List.nil_append, List.length_nil] at k
  unfold mDcT
  simp only [h, R.bnd_ok, srcAt, if_pos hs2, List.length_map, k, finT]
theorem fold_put {α : Type} (pp : α → Nat × Nat) (v : α → D) : ∀ (xs f : List α), ((f ++ xs).map pp).Nodup → xs.foldl (fun a x => put keyT a (prD (pp x)) (pk (pp x)) (v x)) (kvs pp v f) = kvs pp v (f ++ xs)
  | [], f, _ => by simp
  | x :: xs, f, h => by
    have hn : pp x ∉ f.map pp := fun z => by
      rw [List.map_append, List.nodup_append] at h
      exact h.2.2 _ z _ (by simp) rfl
    rw [List.foldl_cons, put_prN pp v hn]
    have e : kvs pp v f ++ [(prD (pp x), v x)] = kvs pp v (f ++ [x]) := by simp [kvs]
    rw [e, fold_put pp v xs (f ++ [x]) (by simpa using h)]
    simp
/-! list(d) -/
theorem fListOU_pr {α : Type} (pp : α → Nat × Nat) (v : α → D) {s : S} {n : Nat} {f : List α} (h : s[n]? = some (.dctT (kvs pp v f))) : fListOU [.obj n] s = .ok (.obj s.length) (s ++ [.lst (f.map fun x => prD (pp x))]) := by
  simp [fListOU, dkeys, h, kvs, Function.comp_def]
/-! Unlike -/
theorem unlike_new (s : S) (x : D) (hs : True) : m_Unlike_init [.obj s.length, x] (s ++ [.ins "Unlike" []]) = .ok .non (s ++ [.ins "Unlike" [("operation", x)]]) := by
  unfold m_Unlike_init
  rw [mFn_eq]
  have g : (s ++ [O.ins "Unlike" []])[s.length]? = some (.ins "Unlike" []) := by simp
  have k : mSetFld ["Unlike"] "operation" (mVar 0) (mVar 1) [some (.obj s.length), some x] (s ++ [.ins "Unlike" []]) = .ok (.nx [some (.obj s.length), some x]) (s ++ [.ins "Unlike" [("operation", x)]]) := by
    unfold mSetFld
    simp only [mVar_eq, List.getElem?_cons_succ, get_0, vg_some, R.bnd_ok, g]
    rw [if_pos ⟨List.mem_singleton.2 rfl, by decide⟩]
    simp [putFD]
  show fin (mSetFld ["Unlike"] "operation" (mVar 0) (mVar 1) [some (.obj s.length), some x] (s ++ [.ins "Unlike" []])) = _
  rw [k]
  rfl
theorem mFld_at {cs : List Str} {f : Str} {m : ME} {ρ : Ev} {s : S} {n : Nat} {c : Str} {fs : List (Str × D)} {x : D} (hm : m ρ s = .ok (.obj n) s) (h : s[n]? = some (.ins c fs)) (hc : c ∈ cs) (hf : fs.lookup f = some x) : mFld cs f m ρ s = .ok x s := by
  unfold mFld
  simp only [hm, R.bnd_ok, insOf, h, if_pos hc, hf]
theorem unlike_ok {s : S} {n : Nat} {o : List Nat} (h : s[n]? = some (.ins "Unlike" [("operation", opD o)])) {p : Nat × Nat} (h1 : p.1 < o.length) (h2 : p.2 < o.length) : m_Unlike_call [.obj n, prD p] s = .ok (.bl (!decide (o.getD p.1 0 = o.getD p.2 0))) s := by
  unfold m_Unlike_call
  rw [mFn_eq]
  have fl : mFld ["Unlike"] "operation" (mVar 0) [some (.obj n), some (prD p)] s = .ok (opD o) s := mFld_at (n := n) (by simp) h (List.mem_singleton.2 rfl) (by simp)
  have e1 : opIx (prD p) (.int 0) s = .ok (.int (p.1 : Int)) s := by simp [prD]
  have e2 : opIx (prD p) (.int 1) s = .ok (.int (p.2 : Int)) s := by simp [prD]
  have i1 : opIx (opD o) (.int (p.1 : Int)) s = .ok (.int (o.getD p.1 0 : Nat)) s := by simp [opD, h1]
  have i2 : opIx (opD o) (.int (p.2 : Int)) s = .ok (.int (o.getD p.2 0 : Nat)) s := by simp [opD, h2]
  have hi : initE 2 [.obj n, prD p] = [some (.obj n), some (prD p)] := rfl
  rw [hi]
  simp only [mRet_eq, mBin_eq, fl, R.bnd_ok, mVar_eq, mC_eq, List.getElem?_cons_succ, get_0, vg_some, e1, e2, i1, i2]
  rw [show opNe (.int (o.getD p.1 0 : Nat)) (.int (o.getD p.2 0 : Nat)) s = _ from opNe_nD (fun b => !b) _ _ s]
  rfl
theorem mCallI_at {c : Str} {m : FM} {mf : ME} {ms : MA} {ρ : Ev} {s : S} {n : Nat} {fs : List (Str × D)} {ds : List D} (hf : mf ρ s = .ok (.obj n) s) (hm : ms ρ s = .ok ds s) (h : s[n]? = some (.ins c fs)) : mCallI [(c, m)] mf ms ρ s = retag ρ (m (.obj n :: ds) s) := by
  unfold mCallI
  have : ([(c, m)] : List (Str × FM)).lookup c = some m := by simp
  simp only [hf, hm, R.bnd_ok, isObjD, if_true, insOf, h, this]
theorem mNew_at {c : Str} {m : FM} {ms : MA} {ρ : Ev} {s s1 s2 : S} {ds : List D} (hm : ms ρ s = .ok ds s1) (h : m (.obj s1.length :: ds) (s1 ++ [.ins c []]) = .ok .non s2) : mNew c m ms ρ s = .ok (.obj s1.length) s2 := by
  unfold mNew
  simp only [hm, R.bnd_ok, h, retag_ok]
end VL
namespace VL
open PySem PySem.Spec PyProof.Rows L2

theorem nodup_map {α β : Type} {g : α → β} : ∀ {l : List α}, (∀ x ∈ l, ∀ z ∈ l, g x = g z → x = z) → l.Nodup → (l.map g).Nodup
  | [], _, _ => by simp
  | x :: l, h, hn => by
    rw [List.nodup_cons] at hn
    rw [List.map_cons, List.nodup_cons]
    refine ⟨fun hm => ?_, nodup_map (fun a ha b hb => h a (List.mem_cons_of_mem _ ha) b (List.mem_cons_of_mem _ hb)) hn.2⟩
    obtain ⟨z, hz, e⟩ := List.mem_map.1 hm
    exact hn.1 (h z (List.mem_cons_of_mem _ hz) x (List.mem_cons_self ..) e ▸ hz)
theorem reach_nodup {y : Sys} (hy : y.Ok) : y.reach.Nodup := by
  rw [reach_isrt]
  exact (isrt_perm _).nodup_iff.2 (paths_ok hy).nd
/-! ### does one operation cover another -/
def Vl (y : Sys) (l : List Nat) : Prop := ∀ x ∈ l, x < y.ops.length
def Sys.stepP (y : Sys) (e : Nat) (p : Nat × Nat) : Nat × Nat := (y.step p.1 e, y.step p.2 e)
def Sys.runP (y : Sys) (p : Nat × Nat) (l : List Nat) : Nat × Nat := (y.run p.1 l, y.run p.2 l)
def Sys.Cov (y : Sys) (a b : Nat) : Prop := ∀ st ∈ y.reach, ∀ w, Vl y w → y.step (y.run (y.step st a) w) b = y.step (y.run st w) b
open Classical in
noncomputable def Sys.cov (y : Sys) (a b : Nat) : Bool := decide (y.Cov a b)
theorem runP_snoc (y : Sys) (p : Nat × Nat) (w : List Nat) (e : Nat) : y.runP p (w ++ [e]) = y.stepP e (y.runP p w) := by simp [Sys.runP, Sys.stepP, run_snoc]
theorem runP_cons (y : Sys) (p : Nat × Nat) (w : List Nat) (e : Nat) : y.runP p (e :: w) = y.runP (y.stepP e p) w := rfl
theorem runP_app (y : Sys) (p : Nat × Nat) (u w : List Nat) : y.runP p (u ++ w) = y.runP (y.runP p u) w := by simp [Sys.runP, run_app]
theorem Vl.snoc {y : Sys} {w : List Nat} {e : Nat} (h : Vl y w) (he : e < y.ops.length) : Vl y (w ++ [e]) := fun x hx => by
  rcases List.mem_append.1 hx with hx | hx
  · exact h x hx
  · rw [List.mem_singleton.1 hx]; exact he
theorem runP_lt {y : Sys} (hy : y.Ok) : ∀ {w : List Nat} {p : Nat × Nat}, Vl y w → p.1 < y.many ∧ p.2 < y.many → (y.runP p w).1 < y.many ∧ (y.runP p w).2 < y.many
  | [], p, _, h => h
  | e :: w, p, hw, h => by
    have he := hw e (List.mem_cons_self ..)
    exact runP_lt hy (w := w) (p := y.stepP e p) (fun x hx => hw x (List.mem_cons_of_mem _ hx)) ⟨hy.step_lt h.1 he, hy.step_lt h.2 he⟩
/-- the pairs found so far -/
structure CF (y : Sys) (a : Nat) (f : List (Nat × Nat)) : Prop where
  nd : f.Nodup
  lt : ∀ p ∈ f, p.1 < y.many ∧ p.2 < y.many
  src : ∀ p ∈ f, ∃ st ∈ y.reach, ∃ w, Vl y w ∧ p = y.runP (y.step st a, st) w
  base : ∀ st ∈ y.reach, (y.step st a, st) ∈ f
theorem CF.len {y : Sys} (hy : y.Ok) {a : Nat} {f : List (Nat × Nat)} (h : CF y a f) : f.length ≤ 36 := by
  have := nodup_len 36 (f.map fun p => p.1 * 6 + p.2) (by
    refine nodup_map ?_ h.nd
    intro p hp q hq e
    obtain ⟨p1, p2⟩ := h.lt p hp
    obtain ⟨q1, q2⟩ := h.lt q hq
    have hm := hy.m6
    obtain ⟨p, p'⟩ := p
    obtain ⟨q, q'⟩ := q
    simp only at *
    have e1 : p = q := by omega
    have e2 : p' = q' := by omega
    rw [e1, e2]) fun x hx => by
    obtain ⟨p, hp, rfl⟩ := List.mem_map.1 hx
    obtain ⟨p1, p2⟩ := h.lt p hp
    have := hy.m6
    omega
  simpa using this
theorem CF.snoc {y : Sys} (hy : y.Ok) {a : Nat} {f : List (Nat × Nat)} (h : CF y a f) {p : Nat × Nat} (hp : p ∈ f) {e : Nat} (he : e < y.ops.length) (hn : y.stepP e p ∉ f) : CF y a (f ++ [y.stepP e p]) := by
  obtain ⟨p1, p2⟩ := h.lt p hp
  refine ⟨List.nodup_append.2 ⟨h.nd, by simp, fun x hx z hz e => hn (by rw [← List.mem_singleton.1 hz, ← e]; exact hx)⟩, fun q hq => ?_, fun q hq => ?_, fun st hst => List.mem_append_left _ (h.base st hst)⟩
  · rcases List.mem_append.1 hq with hq | hq
    · exact h.lt q hq
    · rw [List.mem_singleton.1 hq]
      exact ⟨hy.step_lt p1 he, hy.step_lt p2 he⟩
  · rcases List.mem_append.1 hq with hq | hq
    · exact h.src q hq
    · rw [List.mem_singleton.1 hq]
      obtain ⟨st, hst, w, hw, rfl⟩ := h.src p hp
      exact ⟨st, hst, w ++ [e], hw.snoc he, (runP_snoc ..).symm⟩
/-- the first n pairs are done: not unlike behind b, what follows them is found -/
def CD (y : Sys) (b n : Nat) (f : List (Nat × Nat)) : Prop := ∀ i, i < n → ∀ p, f[i]? = some p → y.step p.1 b = y.step p.2 b ∧ ∀ e, e < y.ops.length → (y.stepP e p).1 = (y.stepP e p).2 ∨ y.stepP e p ∈ f
theorem CD.cov {y : Sys} {a b : Nat} {f : List (Nat × Nat)} (h : CF y a f) (d : CD y b f.length f) : y.Cov a b := by
  intro st hst w hw
  have key : ∀ w, Vl y w → (y.runP (y.step st a, st) w).1 = (y.runP (y.step st a, st) w).2 ∨ y.runP (y.step st a, st) w ∈ f := by
    intro w
    induction hn : w.length generalizing w with
    | zero =>
      intro _
      rw [List.length_eq_zero_iff] at hn
      subst hn
      exact .inr (h.base st hst)
    | succ n ih =>
      intro hw
      obtain ⟨u, e, rfl⟩ : ∃ u e, w = u ++ [e] := ⟨w.dropLast, w.getLast (by intro z; subst z; cases hn), (List.dropLast_concat_getLast _).symm⟩
      have hu : Vl y u := fun x hx => hw x (List.mem_append_left _ hx)
      have he := hw e (by simp)
      rw [runP_snoc]
      rcases ih u (by simpa using hn) hu with z | z
      · left
        simp only [Sys.stepP, z]
      · obtain ⟨i, hi, ei⟩ := List.getElem_of_mem z
        exact (d i hi _ (by rw [List.getElem?_eq_getElem hi, ei])).2 e he
  rcases key w hw with z | z
  · exact congrArg (fun x => y.step x b) z
  · obtain ⟨i, hi, ei⟩ := List.getElem_of_mem z
    exact (d i hi _ (by rw [List.getElem?_eq_getElem hi, ei])).1
theorem CF.start {y : Sys} (hy : y.Ok) {a : Nat} (ha : a < y.ops.length) : CF y a (y.reach.map fun st => (y.step st a, st)) := by
  refine ⟨nodup_map (fun x _ z _ e => (Prod.mk.inj e).2) (reach_nodup hy), fun p hp => ?_, fun p hp => ?_, fun st hst => List.mem_map.2 ⟨st, hst, rfl⟩⟩
  · obtain ⟨st, hst, rfl⟩ := List.mem_map.1 hp
    have := reach_lt hy hst
    exact ⟨hy.step_lt this ha, this⟩
  · obtain ⟨st, hst, rfl⟩ := List.mem_map.1 hp
    exact ⟨st, hst, [], (fun _ h => nomatch h), rfl⟩

theorem prD_ix0 (p : Nat × Nat) (s : S) : opIx (prD p) (.int 0) s = .ok (.int (p.1 : Int)) s := by simp [prD]
theorem prD_ix1 (p : Nat × Nat) (s : S) : opIx (prD p) (.int 1) s = .ok (.int (p.2 : Int)) s := by simp [prD]
theorem ix_o {y : Sys} (hy : y.Ok) {o : List Nat} (ho : o ∈ y.ops) {x : Nat} (hx : x < y.many) (s : S) : opIx (opD o) (.int (x : Int)) s = .ok (.int (o.getD x 0 : Nat)) s := by
  have := hy.ol o ho
  have : x < o.length := by omega
  simp [opD, this]
abbrev tD : Nat × Nat → D := fun _ => .bl true
abbrev idP : Nat × Nat → Nat × Nat := fun p => p
theorem getD_step {y : Sys} {e : Nat} (he : e < y.ops.length) (x : Nat) : (y.ops.getD e []).getD x 0 = y.step x e := rfl
theorem does_cover_ok {y : Sys} (hy : y.Ok) {a b : Nat} (ha : a < y.ops.length) (hb : b < y.ops.length) (s : S) : wp (m_does_cover [y.D, nD a, nD b] s) fun d s' => d = .bl (y.cov a b) ∧ ∃ t, s' = s ++ t := by
  unfold m_does_cover
  rw [mFn_eq, wp_fin]
  have hi : initE 12 [y.D, nD a, nD b] = [some y.D, some (nD a), some (nD b), none, none, none, none, none, none, none, none, none] := rfl
  rw [hi]
  have n1 : ∀ ρ : Ev, ρ[0]? = some (some y.D) → ρ[2]? = some (some (.int (b : Int))) → mNew "Unlike" m_Unlike_init (mCons (mBin opIx (mBin opIx (mVar 0) (mC (.int 2))) (mVar 2)) mNil) ρ s = .ok (.obj s.length) (s ++ [.ins "Unlike" [("operation", opD (y.ops.getD b []))]]) := fun ρ h0 h2 =>
    mNew_at (ds := [opD (y.ops.getD b [])]) (by simp only [mCons_eq, mBin_eq, mVar_eq, h0, h2, vg_some, mC_eq, R.bnd_ok, ix_ops, nD, ix_op hb, mNil_eq]) (unlike_new s _ trivial)
  have hs0 : (s ++ [O.ins "Unlike" [("operation", opD (y.ops.getD b []))]] ++ gar m_reached [y.D] (s ++ [O.ins "Unlike" [("operation", opD (y.ops.getD b []))]]))[s.length]? = some (.ins "Unlike" [("operation", opD (y.ops.getD b []))]) := by simp
  have rq := reached_eq hy (s ++ [O.ins "Unlike" [("operation", opD (y.ops.getD b []))]])
  have hs1 : ∃ t, s ++ [O.ins "Unlike" [("operation", opD (y.ops.getD b []))]] ++ gar m_reached [y.D] (s ++ [O.ins "Unlike" [("operation", opD (y.ops.getD b []))]]) = s ++ t := ⟨_, by rw [List.append_assoc]⟩
  have e0 : mAsg (mTup (mCons (mBin opIx (mBin opIx (mVar 0) (mC (.int 2))) (mVar 1)) (mCons (mNew "Unlike" m_Unlike_init (mCons (mBin opIx (mBin opIx (mVar 0) (mC (.int 2))) (mVar 2)) mNil)) mNil))) (gT 2 (gConsM (gN 3) (gConsM (gN 4) gNilM)))
      [some y.D, some (nD a), some (nD b), none, none, none, none, none, none, none, none, none] s =
      .ok (.nx [some y.D, some (nD a), some (nD b), some (opD (y.ops.getD a [])), some (.obj s.length), none, none, none, none, none, none, none]) (s ++ [.ins "Unlike" [("operation", opD (y.ops.getD b []))]]) := by
    simp only [mAsg_eq, mTup_eq, mCons_eq, mBin_eq, mVar_eq, get_0, List.getElem?_cons_succ, vg_some, mC_eq, R.bnd_ok, ix_ops, nD, ix_op ha, mNil_eq, n1, List.length_cons, List.length_nil, Nat.reduceAdd, LIM_eq, Nat.reduceLeDiff, if_true, gT_eq, gConsM_eq, gN_eq, gNilM_eq, List.set_cons_succ, List.set_cons_zero]
  rw [mSeq_eq, e0]
  simp only [R.bnd_ok, seqF_nx]
  generalize s ++ [O.ins "Unlike" [("operation", opD (y.ops.getD b []))]] ++ gar m_reached [y.D] (s ++ [O.ins "Unlike" [("operation", opD (y.ops.getD b []))]]) = s0 at rq hs0 hs1
  have ks := fold_put idP tD (y.reach.map fun st => (y.step st a, st)) [] (by rw [List.nil_append, show ∀ l : List (Nat × Nat), l.map idP = l from fun l => List.map_id' l]; exact (CF.start hy ha).nd)
  have dc : mDcT (mSrc (mUser m_reached (mCons (mVar 0) mNil))) (.one 11) mYes (mTup (mCons (mBin opIx (mVar 3) (mVar 11)) (mCons (mVar 11) mNil))) (mC (.bl true)) [11]
      [some y.D, some (nD a), some (nD b), some (opD (y.ops.getD a [])), some (.obj s.length), none, none, none, none, none, none, none] (s ++ [.ins "Unlike" [("operation", opD (y.ops.getD b []))]]) = .ok (.obj s0.length) (s0 ++ [.dctT (kvs idP tD (y.reach.map fun st => (y.step st a, st)))]) := by
    have oa : y.ops.getD a [] ∈ y.ops := by rw [List.getD_eq_getElem?_getD, List.getElem?_eq_getElem ha, Option.getD_some]; exact List.getElem_mem _
    rw [mDcT_fix (α := Nat) (g := nD) (kf := fun st => prD (y.step st a, st)) (vf := fun _ => .bl true) (ky := fun st => pk (y.step st a, st)) (s1 := s0) (xs := y.reach) (by
        simp only [mSrc_eq, mUser_eq, mCons_eq, mVar_eq, get_0, vg_some, mNil_eq, R.bnd_ok, rq, retag_ok]
        rfl) (by have := reach_len hy; have := hy.m6; omega) rfl (fun st hst => ⟨_, rfl, by
        have := reach_lt hy hst
        have i1 := fun s => ix_o hy oa this s
        simp only [mTup_eq, mCons_eq, mBin_eq, mVar_eq, wipeD, List.set_cons_succ, List.set_cons_zero, get_0, List.getElem?_cons_succ, vg_some, R.bnd_ok, nD, i1, mNil_eq, List.length_cons, List.length_nil, Nat.reduceAdd, LIM_eq, Nat.reduceLeDiff, if_true]
        rfl, rfl, rfl⟩)]
    rw [← List.foldl_map (f := fun st => (y.step st a, st)) (g := fun acc p => put keyT acc (prD p) (pk p) (.bl true))]
    have ks' := ks
    simp only [kvs, List.map_nil, List.nil_append] at ks'
    rw [ks']
    rfl
  rw [mSeq_eq, mAsg_eq, dc]
  have hcf := CF.start hy ha
  generalize (y.reach.map fun st => (y.step st a, st)) = f0 at hcf ⊢
  have gd : ∀ f (b : O), (s0 ++ [O.dctT (kvs idP tD f), b])[s0.length]? = some (.dctT (kvs idP tD f)) := fun f b => get2a ..
  simp only [R.bnd_ok, gN_eq, List.set_cons_succ, List.set_cons_zero, seqF_nx]
  have gl := fListOU_pr idP tD (s := s0 ++ [.dctT (kvs idP tD f0)]) (n := s0.length) (f := f0) (by simp)
  rw [mSeq_eq, mAsg_eq, mCall_eq]
  simp only [mCons_eq, mVar_eq, get_0, List.getElem?_cons_succ, vg_some, mNil_eq, R.bnd_ok, gl, gN_eq, List.set_cons_succ, List.set_cons_zero, seqF_nx, List.length_append, List.length_singleton, List.append_assoc, List.singleton_append, List.cons_append, List.nil_append]
  rw [mSeq_eq, mAsg_eq]
  simp only [mC_eq, R.bnd_ok, gN_eq, List.set_cons_succ, List.set_cons_zero, seqF_nx]
  rw [mSeq_eq, wp_bnd]
  refine wp_while (fun n ρ s' => ∃ (at' : Nat) (f : List (Nat × Nat)) (x8 x9 x10 x11 : Option D), CF y a f ∧ CD y b at' f ∧ at' ≤ f.length ∧ 37 ≤ at' + n ∧ n ≤ 2000 ∧ s' = s0 ++ [.dctT (kvs idP tD f), .lst (f.map prD)] ∧
    ρ = [some y.D, some (nD a), some (nD b), some (opD (y.ops.getD a [])), some (.obj s.length), some (.obj s0.length), some (.obj (s0.length + 1)), some (.int (at' : Int)), x8, x9, x10, x11]) ?_ ?_ 2000 _ _ ⟨0, f0, _, _, _, _, hcf, fun i hi => by omega, by omega, by omega, by omega, rfl, rfl⟩
  · rintro ρ s' ⟨at', f, x8, x9, x10, x11, hf, hd, h1, h2, _⟩
    have := hf.len hy
    omega
  · rintro n ρ s' ⟨at', f, x8, x9, x10, x11, hf, hd, h1, h2, h3, rfl, rfl⟩
    have g1 := get2b s0 (.dctT (kvs idP tD f)) (.lst (f.map prD))
    have t1 := fLen_obj _ g1
    simp only [mB_eq, mBin_eq, mVar_eq, get_0, List.getElem?_cons_succ, vg_some, R.bnd_ok, mCall_eq, mCons_eq, mNil_eq, t1, opLt_int, asB_ok, wp_ok, List.length_map]
    by_cases hl : at' < f.length
    · rw [if_pos (decide_eq_true (by omega))]
      have hp : f[at'] ∈ f := List.getElem_mem hl
      obtain ⟨p1, p2⟩ := hf.lt _ hp
      have i1 : opIx (.obj (s0.length + 1)) (.int (at' : Int)) (s0 ++ [.dctT (kvs idP tD f), .lst (f.map prD)]) = .ok (prD f[at']) (s0 ++ [.dctT (kvs idP tD f), .lst (f.map prD)]) := by
        rw [opIx_obj _ g1, atI_nat', List.getElem?_map, List.getElem?_eq_getElem hl]
        rfl
      generalize hpe : f[at'] = p at hp p1 p2 i1
      have aug : ∀ x8 x9 x10 x11 : Option D, ∀ s2 : S, mAugAdd 7 (mC (.int 1)) [some y.D, some (nD a), some (nD b), some (opD (y.ops.getD a [])), some (.obj s.length), some (.obj s0.length), some (.obj (s0.length + 1)), some (.int (at' : Int)), x8, x9, x10, x11] s2 = .ok (.nx [some y.D, some (nD a), some (nD b), some (opD (y.ops.getD a [])), some (.obj s.length), some (.obj s0.length), some (.obj (s0.length + 1)), some (.int (at' + 1 : Nat)), x8, x9, x10, x11]) s2 := fun x8 x9 x10 x11 s2 => rfl
      have ob : y.ops.getD b [] ∈ y.ops := by rw [List.getD_eq_getElem?_getD, List.getElem?_eq_getElem hb, Option.getD_some]; exact List.getElem_mem _
      have obl := hy.ol _ ob
      have hins : (s0 ++ [O.dctT (kvs idP tD f), .lst (f.map prD)])[s.length]? = some (.ins "Unlike" [("operation", opD (y.ops.getD b []))]) := by
        have : s.length < s0.length := (List.getElem?_eq_some_iff.1 hs0).1
        rw [List.getElem?_append_left this]
        exact hs0
      have ul := unlike_ok hins (p := p) (by omega) (by omega)
      have ci : mCallI [("Unlike", m_Unlike_call)] (mVar 4) (mCons (mVar 8) mNil) [some y.D, some (nD a), some (nD b), some (opD (y.ops.getD a [])), some (.obj s.length), some (.obj s0.length), some (.obj (s0.length + 1)), some (.int (at' + 1 : Nat)), some (prD p), x9, x10, x11] (s0 ++ [.dctT (kvs idP tD f), .lst (f.map prD)]) =
          .ok (.bl (!decide (y.step p.1 b = y.step p.2 b))) (s0 ++ [.dctT (kvs idP tD f), .lst (f.map prD)]) := by
        rw [mCallI_at (n := s.length) (ds := [prD p]) rfl (by simp) hins, ul]
        rfl
      rw [mSeq_eq, wp_bnd, mAsg_eq]
      simp only [mBin_eq, mVar_eq, get_0, List.getElem?_cons_succ, vg_some, R.bnd_ok, i1, gN_eq, List.set_cons_succ, List.set_cons_zero, wp_ok, seqF_nx]
      rw [mSeq_eq, wp_bnd, aug]
      simp only [wp_ok, seqF_nx]
      rw [mSeq_eq, wp_bnd, mIfS_eq, mB_eq, ci]
      simp only [R.bnd_ok, asB_ok]
      by_cases hu : y.step p.1 b = y.step p.2 b
      · simp only [hu, decide_true, Bool.not_true, Bool.false_eq_true, if_false, mSkip_eq, wp_ok, seqF_nx, mFor_eq, mSrc_eq, mBin_eq, mVar_eq, mC_eq, get_0, vg_some, R.bnd_ok, ix_ops, srcF_tup, forF_fix]
        refine wp_loop (fun ds ρ s2 => ∃ (pre os : List (List Nat)) (g : List (Nat × Nat)) (x9 x10 x11 : Option D), y.ops = pre ++ os ∧ ds = os.map opD ∧ CF y a g ∧ (∃ t, g = f ++ t) ∧ (∀ e, e < pre.length → (y.stepP e p).1 = (y.stepP e p).2 ∨ y.stepP e p ∈ g) ∧
          s2 = s0 ++ [.dctT (kvs idP tD g), .lst (g.map prD)] ∧ ρ = [some y.D, some (nD a), some (nD b), some (opD (y.ops.getD a [])), some (.obj s.length), some (.obj s0.length), some (.obj (s0.length + 1)), some (.int (at' + 1 : Nat)), some (prD p), x9, x10, x11]) ?_ ?_ _ _ _ ⟨[], y.ops, f, _, _, _, rfl, rfl, hf, ⟨[], by simp⟩, fun e he => by simp at he, rfl, rfl⟩
        · rintro d ds ρ s2 ⟨pre, os, g, x9, x10, x11, ho, hds, hg, ⟨t, ht⟩, hr, rfl, rfl⟩
          cases os with
          | nil => cases hds
          | cons o os =>
            rw [List.map_cons] at hds
            injection hds with hd1 hd2
            subst hd1 hd2
            have hko : y.ops[pre.length]? = some o := by rw [ho]; simp
            have hkl : pre.length < y.ops.length := (List.getElem?_eq_some_iff.1 hko).1
            have hom : o ∈ y.ops := List.mem_of_getElem? hko
            have hpg : p ∈ g := by rw [ht]; exact List.mem_append_left _ hp
            have hgl := hg.len hy
            have j1 := fun s => ix_o hy hom p1 s
            have j2 := fun s => ix_o hy hom p2 s
            have es1 : o.getD p.1 0 = (y.stepP pre.length p).1 := by show _ = y.step _ _; rw [step_eq hko]
            have es2 : o.getD p.2 0 = (y.stepP pre.length p).2 := by show _ = y.step _ _; rw [step_eq hko]
            rw [es1] at j1
            rw [es2] at j2
            generalize hq : y.stepP pre.length p = q at j1 j2
            have eq2 : D.tup [.int (q.1 : Int), .int (q.2 : Int)] = prD q := rfl
            have nin := notIn_pr idP tD (gd g (.lst (g.map prD))) q
            have sp := set_pr idP tD (gd g (.lst (g.map prD))) (by omega) q (.bl true)
            rw [show g.map idP = g from List.map_id' g] at nin
            have ne1 : ∀ s : S, opNe (.int (q.1 : Int)) (.int (q.2 : Int)) s = .ok (.bl (!decide (q.1 = q.2))) s := fun s => opNe_nD (fun b => !b) _ _ s
            simp only [gN_eq, wp_ok, List.set_cons_succ, List.set_cons_zero, mSeq_eq, mAsg_eq, mTup_eq, mCons_eq, mBin_eq, mVar_eq, mC_eq, get_0, List.getElem?_cons_succ, vg_some, R.bnd_ok, prD_ix0, prD_ix1, j1, j2, mNil_eq, List.length_cons, List.length_nil, Nat.reduceAdd, LIM_eq, Nat.reduceLeDiff, if_true, eq2, seqF_nx, mIfS_eq, mAndT_eq, mB_eq, ne1, asB_ok]
            by_cases hqe : q.1 = q.2
            · simp only [hqe, decide_true, Bool.not_true, Bool.false_eq_true, if_false, R.bnd_ok, mSkip_eq, wp_ok, turnK_nx]
              refine ⟨pre ++ [o], os, g, _, _, _, by rw [ho]; simp, rfl, hg, ⟨t, ht⟩, fun e he => ?_, rfl, rfl⟩
              rw [List.length_append, List.length_singleton] at he
              by_cases ee : e = pre.length
              · subst ee; rw [hq]; exact .inl hqe
              · exact hr e (by omega)
            · simp only [hqe, decide_false, Bool.not_false, if_true, nin, asB_ok, R.bnd_ok]
              by_cases hin : q ∈ g
              · simp only [decide_eq_true hin, Bool.not_true, Bool.false_eq_true, if_false, mSkip_eq, wp_ok, turnK_nx]
                refine ⟨pre ++ [o], os, g, _, _, _, by rw [ho]; simp, rfl, hg, ⟨t, ht⟩, fun e he => ?_, rfl, rfl⟩
                rw [List.length_append, List.length_singleton] at he
                by_cases ee : e = pre.length
                · subst ee; rw [hq]; exact .inr hin
                · exact hr e (by omega)
              · have pn := put_prN idP tD (p := q) (f := g) (d := .bl true) (by rw [show g.map idP = g from List.map_id' g]; exact hin)
                rw [pn, set2a] at sp
                have en : kvs idP tD g ++ [(prD q, D.bl true)] = kvs idP tD (g ++ [q]) := by simp [kvs]
                rw [en] at sp
                have o1 : isLstO (s0 ++ [O.dctT (kvs idP tD (g ++ [q])), .lst (g.map prD)]) (.obj (s0.length + 1)) = true := isLstO_obj (get2b ..)
                have a1 := fAppend_obj (get2b s0 (.dctT (kvs idP tD (g ++ [q]))) (.lst (g.map prD))) (by simp; omega) (prD q)
                rw [set2b] at a1
                simp only [decide_eq_false hin, Bool.not_false, if_true, mSeq_eq, mAsg_eq, mC_eq, R.bnd_ok, gIxU_eq, mVar_eq, get_0, List.getElem?_cons_succ, vg_some, sp, seqF_nx, mDrop_eq, mAppend_eq, o1, a1, wp_ok, turnK_nx]
                have hgq := hg.snoc hy hpg hkl (by rw [hq]; exact hin)
                rw [hq] at hgq
                refine ⟨pre ++ [o], os, g ++ [q], _, _, _, by rw [ho]; simp, rfl, hgq, ⟨t ++ [q], by rw [ht]; simp⟩, fun e he => ?_, by simp, rfl⟩
                rw [List.length_append, List.length_singleton] at he
                by_cases ee : e = pre.length
                · subst ee; rw [hq]; exact .inr (by simp)
                · exact (hr e (by omega)).imp id fun z => List.mem_append_left _ z
        · rintro ρ s2 ⟨pre, os, g, x9, x10, x11, ho, hds, hg, ⟨t, ht⟩, hr, rfl, rfl⟩
          have hos : os = [] := by cases os with | nil => rfl | cons o os => cases hds
          subst hos
          rw [List.append_nil] at ho
          refine ⟨at' + 1, g, _, _, _, _, hg, ?_, by rw [ht, List.length_append]; omega, by omega, by omega, rfl, rfl⟩
          intro i hi q hq
          by_cases e : i = at'
          · subst e
            have : q = p := by
              rw [ht, List.getElem?_append_left hl, List.getElem?_eq_getElem hl, hpe] at hq
              exact (Option.some.inj hq).symm
            subst this
            exact ⟨hu, fun e he => hr e (by rw [← ho]; exact he)⟩
          · rw [ht, List.getElem?_append_left (by omega)] at hq
            obtain ⟨d1, d2⟩ := hd i (by omega) q hq
            exact ⟨d1, fun e he => (d2 e he).imp id fun z => by rw [ht]; exact List.mem_append_left _ z⟩
      · have hnc : ¬ y.Cov a b := fun hc => by
          obtain ⟨st, hst, w, hw, e⟩ := hf.src p hp
          have := hc st hst w hw
          rw [e] at hu
          exact hu this
        obtain ⟨t, ht⟩ := hs1
        simp only [decide_eq_false hu, Bool.not_false, if_true, mRet_eq, mC_eq, R.bnd_ok, wp_ok]
        refine ⟨by simp [Sys.cov, hnc], t ++ [_, _], by rw [ht, List.append_assoc]⟩
    · have e : at' = f.length := by omega
      subst e
      have hc := CD.cov hf hd
      obtain ⟨t, ht⟩ := hs1
      rw [if_neg (by simp)]
      simp only [seqF_nx, mRet_eq, mC_eq, R.bnd_ok, wp_ok]
      refine ⟨by simp [Sys.cov, hc], t ++ [_, _], by rw [ht, List.append_assoc]⟩
end VL
namespace VL
open PySem PySem.Spec PyProof.Rows L2

/-! ### how far pairs stand from ends -/
def prs (m : Nat) : List (Nat × Nat) := (List.range m).flatMap fun a => (List.range m).map fun b => (a, b)
theorem prs_D (m : Nat) : (pairsL m).map logD = (prs m).map prD := by
  unfold pairsL prs
  rw [List.map_flatMap, List.map_flatMap]
  congr 1
  funext a
  rw [List.map_map, List.map_map]
  rfl
theorem prs_mem {m : Nat} {p : Nat × Nat} : p ∈ prs m ↔ p.1 < m ∧ p.2 < m := by
  unfold prs
  simp only [List.mem_flatMap, List.mem_map, List.mem_range]
  constructor
  · rintro ⟨a, ha, b, hb, rfl⟩
    exact ⟨ha, hb⟩
  · rintro ⟨h1, h2⟩
    exact ⟨p.1, h1, p.2, h2, rfl⟩
theorem prs_nodup (m : Nat) : (prs m).Nodup := by
  have key : ∀ n, ((List.range n).flatMap fun a => (List.range m).map fun b => (a, b)).Nodup := by
    intro n
    induction n with
    | zero => simp
    | succ n ih =>
      rw [List.range_succ, List.flatMap_append, List.flatMap_singleton]
      refine List.nodup_append.2 ⟨ih, nodup_map (fun x _ z _ e => (Prod.mk.inj e).2) List.nodup_range, fun x hx z hz e => ?_⟩
      subst e
      obtain ⟨a, ha, h1⟩ := List.mem_flatMap.1 hx
      obtain ⟨b, _, rfl⟩ := List.mem_map.1 h1
      obtain ⟨c, _, h2⟩ := List.mem_map.1 hz
      rw [List.mem_range] at ha
      have := (Prod.mk.inj h2).1
      omega
  exact key m
theorem prs_len (m : Nat) (hm : m ≤ 6) : (prs m).length ≤ 36 := by
  unfold prs
  rw [flatMap_len (k := m) _ (fun x _ => by simp), List.length_range]
  exact Nat.le_trans (Nat.mul_le_mul hm hm) (by decide)
section
variable (y : Sys) (E : List (Nat × Nat))
def Hit (p : Nat × Nat) (w : List Nat) : Prop := Vl y w ∧ y.runP p w ∈ E
structure MinD (p : Nat × Nat) (d : Nat) : Prop where
  hit : ∃ w, Hit y E p w ∧ w.length = d
  min : ∀ w, Hit y E p w → d ≤ w.length
end
section
variable {y : Sys} {E : List (Nat × Nat)} {p : Nat × Nat} {d d' : Nat}
theorem MinD.uniq (h : MinD y E p d) (h' : MinD y E p d') : d = d' := by
  obtain ⟨w, hw, e⟩ := h.hit
  obtain ⟨w', hw', e'⟩ := h'.hit
  have := h.min w' hw'
  have := h'.min w hw
  omega
theorem minD_ex {w : List Nat} (h : Hit y E p w) : ∃ d, d ≤ w.length ∧ MinD y E p d := by
  induction hn : w.length using Nat.strongRecOn generalizing w with
  | _ n ih =>
    by_cases hx : ∃ w', Hit y E p w' ∧ w'.length < n
    · obtain ⟨w', h1, h2⟩ := hx
      obtain ⟨d, h3, h4⟩ := ih w'.length h2 h1 rfl
      exact ⟨d, by omega, h4⟩
    · exact ⟨n, Nat.le_refl _, ⟨⟨w, h, hn⟩, fun w' hw' => Nat.le_of_not_lt fun z => hx ⟨w', hw', z⟩⟩⟩
theorem minD_zero : MinD y E p 0 ↔ p ∈ E := by
  constructor
  · rintro ⟨⟨w, hw, e⟩, _⟩
    rw [List.length_eq_zero_iff] at e
    subst e
    exact hw.2
  · intro h
    exact ⟨⟨[], ⟨(fun _ z => nomatch z), h⟩, rfl⟩, fun _ _ => Nat.zero_le _⟩
theorem Hit.cons {e : Nat} {w : List Nat} (he : e < y.ops.length) (h : Hit y E (y.stepP e p) w) : Hit y E p (e :: w) := ⟨fun x hx => by
  rcases List.mem_cons.1 hx with rfl | hx
  · exact he
  · exact h.1 x hx, h.2⟩
theorem Hit.tail {e : Nat} {w : List Nat} (h : Hit y E p (e :: w)) : e < y.ops.length ∧ Hit y E (y.stepP e p) w := ⟨h.1 e (List.mem_cons_self ..), fun x hx => h.1 x (List.mem_cons_of_mem _ hx), h.2⟩
theorem MinD.step (h : MinD y E p (d + 1)) : ∃ e, e < y.ops.length ∧ MinD y E (y.stepP e p) d := by
  obtain ⟨w, hw, e⟩ := h.hit
  cases w with
  | nil => cases e
  | cons a w =>
    obtain ⟨ha, ht⟩ := hw.tail
    refine ⟨a, ha, ⟨w, ht, by simpa using e⟩, fun w' hw' => ?_⟩
    have := h.min _ (hw'.cons ha)
    simp only [List.length_cons] at this
    omega
theorem minD_succ {e : Nat} (he : e < y.ops.length) (h : MinD y E (y.stepP e p) d) (hn : ∀ d', d' ≤ d → ¬ MinD y E p d') : MinD y E p (d + 1) := by
  obtain ⟨w, hw, ew⟩ := h.hit
  refine ⟨⟨e :: w, hw.cons he, by simp [ew]⟩, fun w' hw' => ?_⟩
  obtain ⟨d', h1, h2⟩ := minD_ex hw'
  by_cases hle : d' ≤ d
  · exact absurd h2 (hn d' hle)
  · omega
/-- whoever is farther passes there -/
theorem MinD.pass : ∀ {k : Nat} {p : Nat × Nat}, MinD y E p (d + k) → p.1 < y.many ∧ p.2 < y.many → y.Ok → ∃ q, (q.1 < y.many ∧ q.2 < y.many) ∧ MinD y E q d
  | 0, p, h, hp, _ => ⟨p, hp, h⟩
  | k + 1, p, h, hp, hy => by
    obtain ⟨e, he, h1⟩ := MinD.step (d := d + k) h
    exact MinD.pass (k := k) h1 ⟨hy.step_lt hp.1 he, hy.step_lt hp.2 he⟩ hy
/-! ### the first of the shortest logs -/
def LexLt (a b : List Nat) : Prop := ∃ c x z r1 r2, a = c ++ x :: r1 ∧ b = c ++ z :: r2 ∧ x < z
theorem lexLt_cons {x : Nat} {a b : List Nat} (h : LexLt a b) : LexLt (x :: a) (x :: b) := by
  obtain ⟨c, u, v, r1, r2, rfl, rfl, h⟩ := h
  exact ⟨x :: c, u, v, r1, r2, rfl, rfl, h⟩
theorem lexLt_iff {x z : Nat} {a b : List Nat} : LexLt (x :: a) (z :: b) ↔ x < z ∨ (x = z ∧ LexLt a b) := by
  constructor
  · rintro ⟨c, u, v, r1, r2, h1, h2, h⟩
    cases c with
    | nil =>
      simp only [List.nil_append, List.cons.injEq] at h1 h2
      left
      omega
    | cons k c =>
      simp only [List.cons_append, List.cons.injEq] at h1 h2
      exact .inr ⟨by omega, c, u, v, r1, r2, h1.2, h2.2, h⟩
  · rintro (h | ⟨rfl, h⟩)
    · exact ⟨[], x, z, a, b, rfl, rfl, h⟩
    · exact lexLt_cons h
theorem lexLt_nil {b : List Nat} : ¬ LexLt [] b := by
  rintro ⟨c, x, z, r1, r2, h, _⟩
  simp at h
theorem lexLt_asymm : ∀ {a b : List Nat}, LexLt a b → ¬ LexLt b a
  | [], _, h, _ => lexLt_nil h
  | _ :: _, [], _, h => lexLt_nil h
  | x :: a, z :: b, h, h' => by
    rw [lexLt_iff] at h h'
    rcases h with h | ⟨e, h⟩
    · rcases h' with h' | ⟨e', _⟩ <;> omega
    · rcases h' with h' | ⟨_, h'⟩
      · omega
      · exact lexLt_asymm h h'
theorem LexLt.app {a b : List Nat} (h : LexLt a b) (u : List Nat) : LexLt (a ++ u) b := by
  obtain ⟨c, x, z, r1, r2, rfl, rfl, h⟩ := h
  exact ⟨c, x, z, r1 ++ u, r2, by simp, rfl, h⟩
end
/-- w is the first of the shortest logs that lead from one of these pairs to an end -/
structure FirstLog (y : Sys) (E P : List (Nat × Nat)) (w : List Nat) : Prop where
  hit : ∃ p ∈ P, Hit y E p w
  min : ∀ w', (∃ p ∈ P, Hit y E p w') → w.length ≤ w'.length
  lex : ∀ w', (∃ p ∈ P, Hit y E p w') → w'.length = w.length → w' = w ∨ LexLt w w'
theorem FirstLog.uniq {y : Sys} {E P : List (Nat × Nat)} {w w' : List Nat} (h : FirstLog y E P w) (h' : FirstLog y E P w') : w = w' := by
  have l1 := h.min w' h'.hit
  have l2 := h'.min w h.hit
  rcases h.lex w' h'.hit (by omega) with e | a
  · exact e.symm
  · rcases h'.lex w h.hit (by omega) with e | b
    · exact e
    · exact absurd b (lexLt_asymm a)
end VL
namespace VL
open PySem PySem.Spec PyProof.Rows L2

/-! ### the law's own distances -/
abbrev fP : (Nat × Nat) × Nat → Nat × Nat := fun q => q.1
abbrev fV : (Nat × Nat) × Nat → D := fun q => .int (q.2 : Nat)
abbrev Lt (y : Sys) (p : Nat × Nat) : Prop := p.1 < y.many ∧ p.2 < y.many
def gv (f : List ((Nat × Nat) × Nat)) (p : Nat × Nat) : Int := ((f.find? fun x => decide (x.1 = p)).map fun x => (x.2 : Int)).getD (-1)
theorem gv_iff {f : List ((Nat × Nat) × Nat)} (h : (f.map fP).Nodup) {p : Nat × Nat} {d : Nat} : gv f p = (d : Int) ↔ (p, d) ∈ f := by
  unfold gv
  cases hf : f.find? fun x => decide (x.1 = p) with
  | none =>
    constructor
    · intro e
      simp only [Option.map_none, Option.getD_none] at e
      omega
    · intro hm
      have := List.find?_eq_none.1 hf _ hm
      simp at this
  | some q =>
    have h1 := List.find?_some hf
    simp only [decide_eq_true_eq] at h1
    have h2 := List.mem_of_find?_eq_some hf
    obtain ⟨q1, q2⟩ := q
    subst h1
    simp only [Option.map_some, Option.getD_some]
    constructor
    · intro e
      have : q2 = d := by omega
      rw [← this]
      exact h2
    · intro hm
      have key : ∀ (f : List ((Nat × Nat) × Nat)), (f.map fP).Nodup → ∀ {p a b}, (p, a) ∈ f → (p, b) ∈ f → a = b := by
        intro f
        induction f with
        | nil => intro _ p a b h; cases h
        | cons x f ih =>
          intro hn p a b ha hb
          rw [List.map_cons, List.nodup_cons] at hn
          rcases List.mem_cons.1 ha with ea | ha
          · rcases List.mem_cons.1 hb with eb | hb
            · exact (Prod.mk.inj (ea.trans eb.symm)).2
            · exact absurd (List.mem_map.2 ⟨(p, b), hb, by rw [← ea]⟩) hn.1
          · rcases List.mem_cons.1 hb with eb | hb
            · exact absurd (List.mem_map.2 ⟨(p, a), ha, by rw [← eb]⟩) hn.1
            · exact ih hn.2 ha hb
      rw [key f h h2 hm]
theorem get2_pr {s : S} {n : Nat} {f : List ((Nat × Nat) × Nat)} {mo mk md : ME} {ρ : Ev} {p : Nat × Nat} (h : s[n]? = some (.dctT (kvs fP fV f))) (h1 : mo ρ s = .ok (.obj n) s) (h2 : mk ρ s = .ok (prD p) s) (h3 : md ρ s = .ok (.int (-1)) s) : mGet2 mo mk md ρ s = .ok (.int (gv f p)) s := by
  have hd : isDO s (.obj n) = true := by simp [isDO, h]
  unfold mGet2
  simp only [h1, h2, h3, R.bnd_ok, hd, if_true, dget_pr fP fV h p]
  unfold gv
  cases f.find? fun x => decide (fP x = p) <;> rfl
theorem opIn_intsL {f : Bool → Bool} (x : Int) (ns : List Int) (s : S) : opInB f (.int x) (.lst (ns.map D.int)) s = .ok (.bl (f (ns.contains x))) s := by
  have h1 : ∀ ns : List Int, allI (ns.map D.int) = true := fun ns => by induction ns with
    | nil => rfl
    | cons a l ih => simpa [allI] using ih
  have h2 : ∀ ns : List Int, ofI (ns.map D.int) = ns := fun ns => by induction ns with
    | nil => rfl
    | cons a l ih => simpa [ofI] using ih
  rw [opIn_ints (h1 ns), h2]
structure Far (y : Sys) (E : List (Nat × Nat)) (L : Nat) (f : List ((Nat × Nat) × Nat)) : Prop where
  nd : (f.map fP).Nodup
  mem : ∀ p d, (p, d) ∈ f ↔ Lt y p ∧ MinD y E p d ∧ d ≤ L
structure FarAll (y : Sys) (E : List (Nat × Nat)) (f : List ((Nat × Nat) × Nat)) : Prop where
  nd : (f.map fP).Nodup
  mem : ∀ p d, (p, d) ∈ f ↔ Lt y p ∧ MinD y E p d
  le : ∀ p d, (p, d) ∈ f → d ≤ 37
theorem pairs_len {y : Sys} (hy : y.Ok) {l : List (Nat × Nat)} (h : l.Nodup) (hl : ∀ p ∈ l, Lt y p) : l.length ≤ 36 := by
  have := nodup_len 36 (l.map fun p => p.1 * 6 + p.2) (by
    refine nodup_map ?_ h
    intro p hp q hq e
    obtain ⟨p1, p2⟩ := hl p hp
    obtain ⟨q1, q2⟩ := hl q hq
    have hm := hy.m6
    obtain ⟨p, p'⟩ := p
    obtain ⟨q, q'⟩ := q
    simp only at *
    have e1 : p = q := by omega
    have e2 : p' = q' := by omega
    rw [e1, e2]) fun x hx => by
    obtain ⟨p, hp, rfl⟩ := List.mem_map.1 hx
    obtain ⟨p1, p2⟩ := hl p hp
    have := hy.m6
    omega
  simpa using this
theorem far_len {y : Sys} (hy : y.Ok) {f : List ((Nat × Nat) × Nat)} (h : (f.map fP).Nodup) (hl : ∀ p d, (p, d) ∈ f → Lt y p) : f.length ≤ 36 := by
  have := pairs_len hy h fun p hp => by
    obtain ⟨⟨q, d⟩, hq, rfl⟩ := List.mem_map.1 hp
    exact hl q d hq
  simpa using this
/-- within a lap -/
structure Mid (y : Sys) (E : List (Nat × Nat)) (L : Nat) (f : List ((Nat × Nat) × Nat)) (pre : List (Nat × Nat)) (g : List ((Nat × Nat) × Nat)) (gr : Bool) : Prop where
  nd : (g.map fP).Nodup
  mem : ∀ p d, (p, d) ∈ g ↔ (p, d) ∈ f ∨ (d = L + 1 ∧ p ∈ pre ∧ MinD y E p (L + 1))
  no : gr = false → g = f
  yes : gr = true → f.length < g.length
theorem Mid.lt {y E L f pre g gr} (h : Mid y E L f pre g gr) (hf : Far y E L f) (hp : ∀ p ∈ pre, Lt y p) : ∀ p d, (p, d) ∈ g → Lt y p := fun p d hm => by
  rcases (h.mem p d).1 hm with h1 | ⟨_, h1, _⟩
  · exact ((hf.mem p d).1 h1).1
  · exact hp p h1
theorem key_iff {f : List ((Nat × Nat) × Nat)} {p : Nat × Nat} : p ∈ f.map fP ↔ ∃ d, (p, d) ∈ f := by
  rw [List.mem_map]
  constructor
  · rintro ⟨⟨q, d⟩, h, rfl⟩
    exact ⟨d, h⟩
  · rintro ⟨d, h⟩
    exact ⟨_, h, rfl⟩
/-- a pair looked at -/
theorem Mid.turn {y : Sys} {E : List (Nat × Nat)} {L : Nat} {f : List ((Nat × Nat) × Nat)} {pre : List (Nat × Nat)} {g : List ((Nat × Nat) × Nat)} {gr : Bool} (hy : y.Ok) (h : Mid y E L f pre g gr) (hf : Far y E L f) {p : Nat × Nat} (hp : Lt y p) (hn : p ∉ pre) :
    (if p ∉ g.map fP ∧ (∃ e, e < y.ops.length ∧ gv g (y.stepP e p) = (L : Int)) then Mid y E L f (pre ++ [p]) (g ++ [(p, L + 1)]) true else Mid y E L f (pre ++ [p]) g gr) := by
  have hst : ∀ e, gv g (y.stepP e p) = (L : Int) ↔ (y.stepP e p, L) ∈ f := fun e => by
    rw [gv_iff h.nd, h.mem]
    constructor
    · rintro (h1 | ⟨h1, _⟩)
      · exact h1
      · omega
    · exact .inl
  have hk : p ∉ g.map fP ↔ ∀ d, d ≤ L → ¬ MinD y E p d := by
    rw [key_iff]
    constructor
    · intro h1 d hd h2
      exact h1 ⟨d, (h.mem p d).2 (.inl ((hf.mem p d).2 ⟨hp, h2, hd⟩))⟩
    · rintro h1 ⟨d, h2⟩
      rcases (h.mem p d).1 h2 with h3 | ⟨_, h3, _⟩
      · obtain ⟨_, h4, h5⟩ := (hf.mem p d).1 h3
        exact h1 d h5 h4
      · exact hn h3
  have hmin : (p ∉ g.map fP ∧ ∃ e, e < y.ops.length ∧ gv g (y.stepP e p) = (L : Int)) ↔ MinD y E p (L + 1) := by
    constructor
    · rintro ⟨h1, e, he, h2⟩
      have h3 := ((hf.mem _ _).1 ((hst e).1 h2)).2.1
      exact minD_succ he h3 (hk.1 h1)
    · intro hm
      refine ⟨hk.2 fun d hd h2 => ?_, ?_⟩
      · have := h2.uniq hm
        omega
      · obtain ⟨e, he, h1⟩ := hm.step
        exact ⟨e, he, (hst e).2 ((hf.mem _ _).2 ⟨⟨hy.step_lt hp.1 he, hy.step_lt hp.2 he⟩, h1, Nat.le_refl _⟩)⟩
  by_cases hc : p ∉ g.map fP ∧ ∃ e, e < y.ops.length ∧ gv g (y.stepP e p) = (L : Int)
  · rw [if_pos hc]
    have hm := hmin.1 hc
    refine ⟨?_, fun q d => ?_, (fun z => by cases z), fun _ => ?_⟩
    · rw [List.map_append]
      exact List.nodup_append.2 ⟨h.nd, by simp, fun x hx z hz e => hc.1 (by
        have : z = p := by simpa using hz
        rw [← this, ← e]; exact hx)⟩
    · rw [List.mem_append, h.mem, List.mem_singleton, List.mem_append, List.mem_singleton]
      constructor
      · rintro ((h1 | ⟨h1, h2, h3⟩) | h1)
        · exact .inl h1
        · exact .inr ⟨h1, .inl h2, h3⟩
        · obtain ⟨rfl, rfl⟩ := Prod.mk.inj h1
          exact .inr ⟨rfl, .inr rfl, hm⟩
      · rintro (h1 | ⟨h1, h2 | h2, h3⟩)
        · exact .inl (.inl h1)
        · exact .inl (.inr ⟨h1, h2, h3⟩)
        · exact .inr (by rw [h1, h2])
    · rw [List.length_append, List.length_singleton]
      cases gr with
      | false => rw [h.no rfl]; omega
      | true => have := h.yes rfl; omega
  · rw [if_neg hc]
    have hm : ¬ MinD y E p (L + 1) := fun z => hc (hmin.2 z)
    refine ⟨h.nd, fun q d => ?_, h.no, h.yes⟩
    rw [h.mem, List.mem_append, List.mem_singleton]
    constructor
    · rintro (h1 | ⟨h1, h2, h3⟩)
      · exact .inl h1
      · exact .inr ⟨h1, .inl h2, h3⟩
    · rintro (h1 | ⟨h1, h2 | h2, h3⟩)
      · exact .inl h1
      · exact .inr ⟨h1, h2, h3⟩
      · rw [h2] at h3; exact absurd h3 hm
theorem Mid.start {y : Sys} {E : List (Nat × Nat)} {L : Nat} {f : List ((Nat × Nat) × Nat)} (hf : Far y E L f) : Mid y E L f [] f false := ⟨hf.nd, fun p d => by simp, fun _ => rfl, fun z => by cases z⟩
theorem Mid.done {y : Sys} {E : List (Nat × Nat)} {L : Nat} {f g : List ((Nat × Nat) × Nat)} {gr : Bool} (h : Mid y E L f (prs y.many) g gr) (hf : Far y E L f) : Far y E (L + 1) g := ⟨h.nd, fun p d => by
  rw [h.mem, hf.mem, prs_mem]
  constructor
  · rintro (⟨h1, h2, h3⟩ | ⟨rfl, h2, h3⟩)
    · exact ⟨h1, h2, by omega⟩
    · exact ⟨h2, h3, Nat.le_refl _⟩
  · rintro ⟨h1, h2, h3⟩
    by_cases e : d = L + 1
    · subst e
      exact .inr ⟨rfl, h1, h2⟩
    · exact .inl ⟨h1, h2, by omega⟩⟩
theorem Mid.end_ {y : Sys} {E : List (Nat × Nat)} {L : Nat} {f g : List ((Nat × Nat) × Nat)} (hy : y.Ok) (h : Mid y E L f (prs y.many) g false) (hf : Far y E L f) : ∀ p, Lt y p → ∀ d, MinD y E p d → d ≤ L := fun p hp d hd => by
  by_cases hl : d ≤ L
  · exact hl
  · exfalso
    obtain ⟨k, rfl⟩ : ∃ k, d = (L + 1) + k := ⟨d - (L + 1), by omega⟩
    obtain ⟨q, hq, hm⟩ := MinD.pass hd hp hy
    have h1 := (h.mem q (L + 1)).2 (.inr ⟨rfl, prs_mem.2 hq, hm⟩)
    rw [h.no rfl] at h1
    have := ((hf.mem q (L + 1)).1 h1).2.2
    omega
theorem Far.start {y : Sys} {E : List (Nat × Nat)} (hE : E.Nodup) (hl : ∀ p ∈ E, Lt y p) : Far y E 0 (E.map fun p => (p, 0)) := by
  refine ⟨?_, fun p d => ?_⟩
  · rw [List.map_map, show (fP ∘ fun p : Nat × Nat => (p, 0)) = id from rfl, List.map_id]
    exact hE
  · rw [List.mem_map]
    constructor
    · rintro ⟨q, hq, e⟩
      obtain ⟨rfl, rfl⟩ := Prod.mk.inj e
      exact ⟨hl q hq, minD_zero.2 hq, Nat.le_refl _⟩
    · rintro ⟨h1, h2, h3⟩
      have : d = 0 := by omega
      subst this
      exact ⟨p, minD_zero.1 h2, rfl⟩
theorem setH (s : S) (a b : O) (t : S) : (s ++ a :: t).set s.length b = s ++ b :: t := by rw [List.set_append_right _ _ (Nat.le_refl _)]; simp
theorem getH (s : S) (a : O) (t : S) : (s ++ a :: t)[s.length]? = some a := by simp
end VL
namespace VL
open PySem PySem.Spec PyProof.Rows L2

theorem steps_to_ok {y : Sys} (hy : y.Ok) {E : List (Nat × Nat)} (hE : E.Nodup) (hl : ∀ p ∈ E, Lt y p) (s : S) : wp (m__law_steps_to [y.D, .lst (E.map prD)] s) fun d s' => d = .obj s.length ∧ ∃ f t, s' = s ++ .dctT (kvs fP fV f) :: t ∧ FarAll y E f := by
  unfold m__law_steps_to
  rw [mFn_eq, wp_fin]
  have hi : initE 10 [y.D, .lst (E.map prD)] = [some y.D, some (.lst (E.map prD)), none, none, none, none, none, none, none, none] := rfl
  have hnew : ∀ (ρ : Ev) (s : S), mNewT ρ s = .ok (.obj s.length) (s ++ [.dctT []]) := fun _ _ => rfl
  rw [hi]
  simp only [mSeq_eq, mAsg_eq, mTup_eq, mCons_eq, hnew, mC_eq, R.bnd_ok, mNil_eq, List.length_cons, List.length_nil, Nat.reduceAdd, LIM_eq, Nat.reduceLeDiff, if_true, gT_eq, gConsM_eq, gN_eq, gNilM_eq, List.set_cons_succ, List.set_cons_zero, seqF_nx, mFor_eq, mSrc_eq, mVar_eq, get_0, List.getElem?_cons_succ, vg_some, srcF_lst, forF_fix, wp_bnd]
  refine wp_each (f := prD) (fun pre ρ s' => ∃ x5, ρ = [some y.D, some (.lst (E.map prD)), some (.obj s.length), some (.bl true), some (.int 0), x5, none, none, none, none] ∧ s' = s ++ [.dctT (kvs fP fV (pre.map fun p => (p, 0)))]) _ _ _ ⟨_, rfl, rfl⟩ ?_ ?_
  · rintro pre p rest ρ s' he ⟨x5, rfl, rfl⟩
    have hlen := pairs_len hy hE hl
    have hpl : pre.length ≤ 36 := by rw [he] at hlen; simp at hlen; omega
    have hnp : p ∉ (pre.map fun p : Nat × Nat => (p, 0)).map fP := by
      rw [List.map_map, show (fP ∘ fun p : Nat × Nat => (p, 0)) = id from rfl, List.map_id]
      intro z
      rw [he] at hE
      exact (List.nodup_append.1 hE).2.2 _ z _ (List.mem_cons_self ..) rfl
    have sp := set_pr fP fV (s := s ++ [.dctT (kvs fP fV (pre.map fun p => (p, 0)))]) (n := s.length) (getH ..) (by simp; omega) p (.int 0)
    rw [put_prN fP fV hnp, setH] at sp
    simp only [gN_eq, wp_ok, List.set_cons_succ, List.set_cons_zero, mAsg_eq, mC_eq, R.bnd_ok, gIxU_eq, mVar_eq, get_0, List.getElem?_cons_succ, vg_some, sp, turnQ_nx]
    exact ⟨_, rfl, by simp [kvs]⟩
  rintro ρ s' ⟨x5, rfl, rfl⟩
  have hfar := Far.start hE hl
  generalize (E.map fun p => (p, 0)) = f0 at hfar ⊢
  simp only [seqF_nx, mSeq_eq, wp_bnd]
  refine wp_while (fun n ρ s' => ∃ (L : Nat) (f : List ((Nat × Nat) × Nat)) (t : S) (gr : Bool) (x5 x6 x7 x8 x9 : Option D), Far y E L f ∧ (gr = false → ∀ p, Lt y p → ∀ d, MinD y E p d → d ≤ L) ∧ (gr = true → L ≤ f.length) ∧ L ≤ 37 ∧ 2000 ≤ n + L ∧ s' = s ++ .dctT (kvs fP fV f) :: t ∧
    ρ = [some y.D, some (.lst (E.map prD)), some (.obj s.length), some (.bl gr), some (.int (L : Int)), x5, x6, x7, x8, x9]) ?_ ?_ 2000 _ _ ⟨0, f0, [], true, _, _, _, _, _, hfar, (fun z => by cases z), (fun _ => Nat.zero_le _), by omega, by omega, rfl, rfl⟩
  · rintro ρ s' ⟨L, f, t, gr, x5, x6, x7, x8, x9, hf, h1, h2, h3, h4, _⟩
    omega
  · rintro n ρ s' ⟨L, f, t, gr, x5, x6, x7, x8, x9, hf, h1, h2, h3, h4, rfl, rfl⟩
    simp only [mB_eq, mVar_eq, get_0, List.getElem?_cons_succ, vg_some, R.bnd_ok, asB_ok, wp_ok]
    cases gr with
    | false =>
      rw [if_neg Bool.false_ne_true]
      simp only [seqF_nx, mRet_eq, mVar_eq, get_0, List.getElem?_cons_succ, vg_some, R.bnd_ok, wp_ok]
      refine ⟨rfl, f, t, rfl, hf.nd, fun p d => ?_, fun p d hm => Nat.le_trans ((hf.mem p d).1 hm).2.2 h3⟩
      rw [hf.mem]
      constructor
      · rintro ⟨a, b, _⟩
        exact ⟨a, b⟩
      · rintro ⟨a, b⟩
        exact ⟨a, b, h1 rfl p a d b⟩
    | true =>
      rw [if_pos rfl]
      have h2 := h2 rfl
      have hfl := far_len hy hf.nd fun p d hm => ((hf.mem p d).1 hm).1
      have e0 : ∀ s, opIx y.D (.int 0) s = .ok (.int (y.many : Int)) s := fun s => by simp [Sys.D]
      have lp := fun s => law_pairs_ok hy.m6 s
      simp only [nD] at lp
      have hn1 : (s ++ O.dctT (kvs fP fV f) :: t ++ [.lst ((prs y.many).map prD)])[(s ++ O.dctT (kvs fP fV f) :: t).length]? = some (.lst ((prs y.many).map prD)) := by simp
      simp only [mSeq_eq, mAsg_eq, mC_eq, R.bnd_ok, gN_eq, List.set_cons_succ, List.set_cons_zero, seqF_nx, mFor_eq, mSrc_eq, mUser_eq, mCons_eq, mBin_eq, mVar_eq, get_0, List.getElem?_cons_succ, vg_some, e0, mNil_eq, lp, prs_D, retag_ok, srcF_obj hn1, wp_bnd]
      have hnn : (s ++ O.dctT (kvs fP fV f) :: t).length = s.length + (t.length + 1) := by simp
      rw [hnn]
      refine wp_srcEach (f := prD) (fun pre ρ s' => ∃ (g : List ((Nat × Nat) × Nat)) (gr : Bool) (x6 x7 x8 x9 : Option D), Mid y E L f pre g gr ∧ (∀ p ∈ pre, Lt y p) ∧ s' = s ++ .dctT (kvs fP fV g) :: (t ++ [.lst ((prs y.many).map prD)]) ∧
        ρ = [some y.D, some (.lst (E.map prD)), some (.obj s.length), some (.bl gr), some (.int (L : Int)), x5, x6, x7, x8, x9]) (prs y.many) ?_ ⟨f, false, _, _, _, _, Mid.start hf, (fun _ z => nomatch z), by simp, rfl⟩ ?_ ?_
      · rintro pre ρ s' ⟨g, gr, x6, x7, x8, x9, hm, _, rfl, rfl⟩
        have : (s ++ O.dctT (kvs fP fV g) :: (t ++ [.lst ((prs y.many).map prD)]))[s.length + (t.length + 1)]? = some (.lst ((prs y.many).map prD)) := by
          rw [List.getElem?_append_right (by omega)]
          simp
        simp only [srcAt, this]
      · rintro pre p rest ρ s' he ⟨g, gr, x6, x7, x8, x9, hm, hpre, rfl, rfl⟩
        have hpm : p ∈ prs y.many := by rw [he]; simp
        have hp : Lt y p := prs_mem.1 hpm
        have hnp : p ∉ pre := fun z => by
          have := prs_nodup y.many
          rw [he] at this
          exact (List.nodup_append.1 this).2.2 _ z _ (List.mem_cons_self ..) rfl
        have ht := hm.turn hy hf hp hnp
        have hgl := far_len hy hm.nd (hm.lt hf hpre)
        have gH := getH s (.dctT (kvs fP fV g)) (t ++ [.lst ((prs y.many).map prD)])
        generalize hst : s ++ O.dctT (kvs fP fV g) :: (t ++ [.lst ((prs y.many).map prD)]) = st at gH
        have comp : ∀ x8 x9, lcF finL (.one 9) mYes (mGet2 (mVar 2) (mTup (mCons (mBin opIx (mVar 9) (mVar 6)) (mCons (mBin opIx (mVar 9) (mVar 7)) mNil))) (mUn opNeg (mC (.int 1)))) [9] [some y.D, some (.lst (E.map prD)), some (.obj s.length), some (.bl gr), some (.int (L : Int)), x5, some (.int (p.1 : Int)), some (.int (p.2 : Int)), x8, x9] (.fix (y.ops.map opD)) st =
            .ok (.lst ((y.ops.map fun o => gv g (o.getD p.1 0, o.getD p.2 0)).map D.int)) st := fun x8 x9 => by
          have ol := hy.o6
          rw [lcF_fix (by simp; omega) rfl, llc_map (g := fun o => .int (gv g (o.getD p.1 0, o.getD p.2 0))) _ _ (fun o ho => ⟨_, rfl, ?_⟩)]
          · simp [Function.comp_def]
          · refine get2_pr (n := s.length) gH rfl ?_ rfl
            have j1 := ix_o hy ho hp.1 st
            have j2 := ix_o hy ho hp.2 st
            simp only [mTup_eq, mCons_eq, mBin_eq, mVar_eq, wipeD, List.set_cons_succ, List.set_cons_zero, get_0, List.getElem?_cons_succ, vg_some, R.bnd_ok, j1, j2, mNil_eq, List.length_cons, List.length_nil, Nat.reduceAdd, LIM_eq, Nat.reduceLeDiff, if_true]
            rfl
        have hcon : ((y.ops.map fun o => gv g (o.getD p.1 0, o.getD p.2 0)).contains (L : Int)) = true ↔ ∃ e, e < y.ops.length ∧ gv g (y.stepP e p) = (L : Int) := by
          rw [List.contains_iff_mem, List.mem_map]
          constructor
          · rintro ⟨o, ho, e⟩
            obtain ⟨k, hk, ek⟩ := List.getElem_of_mem ho
            refine ⟨k, hk, ?_⟩
            rw [← e]
            show gv g (y.step p.1 k, y.step p.2 k) = _
            rw [step_eq (List.getElem?_eq_getElem hk), step_eq (List.getElem?_eq_getElem hk), ek]
          · rintro ⟨k, hk, e⟩
            refine ⟨y.ops[k], List.getElem_mem hk, ?_⟩
            rw [← e]
            show _ = gv g (y.step p.1 k, y.step p.2 k)
            rw [step_eq (List.getElem?_eq_getElem hk), step_eq (List.getElem?_eq_getElem hk)]
        have nin := notIn_pr fP fV gH p
        have eq2 : D.tup [.int (p.1 : Int), .int (p.2 : Int)] = prD p := rfl
        have tgt : ∀ ρ s, (gT 2 (gConsM (gN 6) (gConsM (gN 7) gNilM))) (prD p) ρ s = .ok ((ρ.set 6 (some (.int (p.1 : Int)))).set 7 (some (.int (p.2 : Int)))) s := fun ρ s => by simp [prD]
        have inl := fun s => opIn_intsL (f := fun b => b) (L : Int) (y.ops.map fun o => gv g (o.getD p.1 0, o.getD p.2 0)) s
        simp only [tgt, wp_ok, List.set_cons_succ, List.set_cons_zero, mSeq_eq, mAsg_eq, mLcF_eq, mSrc_eq, mBin_eq, mVar_eq, mC_eq, get_0, vg_some, R.bnd_ok, ix_ops, srcF_tup, comp, gN_eq, seqF_nx, mIfS_eq, mAndT_eq, mB_eq, mTup_eq, mCons_eq, List.getElem?_cons_succ, mNil_eq, List.length_cons, List.length_nil, Nat.reduceAdd, LIM_eq, Nat.reduceLeDiff, if_true, eq2, nin, asB_ok]
        by_cases hk : p ∈ g.map fP
        · rw [if_neg (fun z => z.1 hk)] at ht
          simp only [decide_eq_true hk, Bool.not_true, Bool.false_eq_true, if_false, R.bnd_ok, mSkip_eq, wp_ok, turnQ_nx]
          exact ⟨g, gr, _, _, _, _, ht, (fun q hq => by
            rcases List.mem_append.1 hq with hq | hq
            · exact hpre q hq
            · rw [List.mem_singleton.1 hq]; exact hp), hst.symm, rfl⟩
        · simp only [decide_eq_false hk, Bool.not_false, if_true]
          rw [show opIn (.int (L : Int)) (.lst ((y.ops.map fun o => gv g (o.getD p.1 0, o.getD p.2 0)).map D.int)) st = _ from inl st]
          simp only [asB_ok, R.bnd_ok]
          by_cases hc : ((y.ops.map fun o => gv g (o.getD p.1 0, o.getD p.2 0)).contains (L : Int)) = true
          · rw [if_pos ⟨hk, hcon.1 hc⟩] at ht
            have sp := set_pr fP fV gH (by omega) p (.int ((L + 1 : Nat) : Int))
            rw [put_prN fP fV hk] at sp
            have en : kvs fP fV g ++ [(prD p, D.int ((L + 1 : Nat) : Int))] = kvs fP fV (g ++ [(p, L + 1)]) := by simp [kvs]
            have ei : ((L : Int) + 1) = ((L + 1 : Nat) : Int) := by omega
            rw [en, ← hst, setH, hst] at sp
            simp only [hc, if_true, mSeq_eq, mAsg_eq, mBin_eq, mVar_eq, mC_eq, get_0, List.getElem?_cons_succ, vg_some, R.bnd_ok, opAdd_int, ei, gIxU_eq, mTup_eq, mCons_eq, mNil_eq, List.length_cons, List.length_nil, Nat.reduceAdd, LIM_eq, Nat.reduceLeDiff, eq2, sp, seqF_nx, gN_eq, List.set_cons_succ, List.set_cons_zero, wp_ok, turnQ_nx]
            exact ⟨_, true, _, _, _, _, ht, (fun q hq => by
              rcases List.mem_append.1 hq with hq | hq
              · exact hpre q hq
              · rw [List.mem_singleton.1 hq]; exact hp), rfl, rfl⟩
          · rw [if_neg (fun z => hc (hcon.2 z.2))] at ht
            simp only [Bool.not_eq_true] at hc
            simp only [hc, Bool.false_eq_true, if_false, mSkip_eq, wp_ok, turnQ_nx]
            exact ⟨g, gr, _, _, _, _, ht, (fun q hq => by
              rcases List.mem_append.1 hq with hq | hq
              · exact hpre q hq
              · rw [List.mem_singleton.1 hq]; exact hp), hst.symm, rfl⟩
      · rintro ρ s' ⟨g, gr, x6, x7, x8, x9, hm, hpre, rfl, rfl⟩
        have ei : ((L : Int) + 1) = ((L + 1 : Nat) : Int) := by omega
        simp only [seqF_nx, mAsg_eq, mBin_eq, mVar_eq, mC_eq, get_0, List.getElem?_cons_succ, vg_some, R.bnd_ok, opAdd_int, ei, gN_eq, List.set_cons_succ, List.set_cons_zero, wp_ok, turnK_nx]
        refine ⟨L + 1, g, _, gr, _, _, _, _, _, hm.done hf, fun e => ?_, fun e => ?_, by omega, by omega, rfl, rfl⟩
        · subst e
          intro p hp d hd
          have := hm.end_ hy hf p hp d hd
          omega
        · have := hm.yes e
          omega
end VL
namespace VL
open PySem PySem.Spec PyProof.Rows L2

/-! ### == of lists of pairs and [] -/
def pyP (p : Nat × Nat) : PyData := .tuple [.int (p.1 : Int), .int (p.2 : Int)]
theorem toPys_prs : ∀ l : List (Nat × Nat), toPys (l.map prD) = some (l.map pyP)
  | [] => rfl
  | p :: l => by simp [toPys, toPy, toPys_prs l, pyP, prD]
theorem lay_prs : ∀ l : List (Nat × Nat), PyData.canLayAll0 (l.map pyP) = true ∧ PyData.depthAll (l.map pyP) ≤ 1
  | [] => ⟨rfl, by decide⟩
  | p :: l => by
    obtain ⟨h1, h2⟩ := lay_prs l
    simp only [List.map_cons, PyData.canLayAll0, PyData.depthAll, h1, pyP, PyData.canLay0, PyData.depth, Bool.and_true, Bool.and_self, true_and]
    omega
theorem shaped_prs (l : List (Nat × Nat)) : SeqAt.shaped (.list (l.map pyP)) = true := by
  obtain ⟨h1, h2⟩ := lay_prs l
  have h3 : PyData.depth (.list (l.map pyP)) ≤ 64 := by
    simp only [PyData.depth]
    omega
  simp [SeqAt.shaped, PyData.canLay0, h1, h3]
theorem opEq_prs (f : Bool → Bool) (l : List (Nat × Nat)) (s : S) : opEqF f (.lst (l.map prD)) (.lst []) s = .ok (.bl (f (decide (l = [])))) s := by
  rw [opEqF_py (p := .list (l.map pyP)) (q := .list []) s (by simp only [toPyS, toPy, toPys_prs, Option.map_some]) rfl (shaped_prs _) rfl rfl]
  congr 3
  cases l <;> simp [PyData.eqv, PyData.eqvAll]
/-! ### a live list sifted -/
theorem mLcGo_liveF {n : Nat} {t : Tg} {tt : MT} {el : ME} {ρw : Ev} {s : S} {α : Type} {g : α → D} {xs : List α} {p : α → Bool} {f : α → D} (h : s[n]? = some (.lst (xs.map g))) (hp : ∀ d ∈ xs, ∃ ρ1, tgM t (g d) ρw = some ρ1 ∧ tt ρ1 s = .ok (p d) s ∧ (p d = true → el ρ1 s = .ok (f d) s)) :
    ∀ (m i : Nat) (acc : List D), i + m = xs.length → mLcGo (.live n) t tt el ρw m i acc s = .ok (acc ++ ((xs.drop i).filter p).map f) s
  | 0, i, acc, e => by
    have hs : srcAt s (.live n) = some (xs.map g) := by simp [srcAt, h]
    simp only [mLcGo, hs, List.length_map]
    rw [if_pos (by omega), List.drop_of_length_le (by omega)]
    simp
  | m + 1, i, acc, e => by
    have hs : srcAt s (.live n) = some (xs.map g) := by simp [srcAt, h]
    have hi : i < xs.length := by omega
    obtain ⟨ρ1, h1, h2, h3⟩ := hp xs[i] (List.getElem_mem hi)
    have ih := fun acc => mLcGo_liveF (el := el) h hp m (i + 1) acc (by omega)
    have hgi : (xs.map g)[i]? = some (g xs[i]) := by rw [List.getElem?_map, List.getElem?_eq_getElem hi]; rfl
    simp only [mLcGo, hs, hgi, h1, h2, noX_ok, R.bnd_ok]
    rw [List.drop_eq_getElem_cons hi, List.filter_cons]
    cases hpi : p xs[i] with
    | true =>
      simp only [if_true, h3 hpi, noX_ok, R.bnd_ok]
      rw [ih, List.map_cons, List.append_assoc, List.singleton_append]
    | false =>
      simp only [Bool.false_eq_true, if_false]
      rw [ih]
theorem lcF_liveF {n : Nat} {fi : List D → S → R D} {t : Tg} {tt : MT} {el : ME} {vs : List Nat} {ρ : Ev} {s : S} {α : Type} {g : α → D} {xs : List α} {p : α → Bool} {f : α → D} (h : s[n]? = some (.lst (xs.map g))) (hl : xs.length ≤ 1000000) (hs : (t.slots.all fun i => vs.contains i) = true)
    (hp : ∀ d ∈ xs, ∃ ρ1, tgM t (g d) (wipeD ρ vs) = some ρ1 ∧ tt ρ1 s = .ok (p d) s ∧ (p d = true → el ρ1 s = .ok (f d) s)) : lcF fi t tt el vs ρ (.live n) s = fi ((xs.filter p).map f) s := by
  show (match srcAt s (.live n) with
    | some xs => if xs.length ≤ LIM ∧ (∀ i ∈ t.slots, i ∈ vs) then mLcGo (.live n) t tt el (wipeD ρ vs) xs.length 0 [] s else .bad
    | none => R.bad).bnd fi = _
  rw [show srcAt s (.live n) = some (xs.map g) by simp [srcAt, h]]
  show (if (xs.map g).length ≤ LIM ∧ (∀ i ∈ t.slots, i ∈ vs) then _ else R.bad).bnd fi = _
  rw [if_pos ⟨by rw [List.length_map]; exact hl, fun i hi => by simpa using List.all_eq_true.1 hs i hi⟩, List.length_map, mLcGo_liveF h hp _ 0 [] (by omega)]
  simp
/-! ### min -/
theorem fMinL_map {α : Type} {g : α → Int} {l : List α} (h : l ≠ []) (s : S) : ∃ m, fMinL [.lst (l.map fun x => .int (g x))] s = .ok (.int m) s ∧ (∃ x ∈ l, m = g x) ∧ ∀ x ∈ l, m ≤ g x := by
  cases l with
  | nil => exact absurd rfl h
  | cons a l =>
    have e : ((a :: l).map fun x => D.int (g x)) = ((g a :: l.map g).map D.int) := by simp
    refine ⟨(l.map g).foldl min (g a), ?_, ?_, ?_⟩
    · rw [e]
      simp only [fMinL, asL, asX, Option.bind_some, toI_ints]
    · have := foldl_min_mem (l.map g) (g a)
      rcases List.mem_cons.1 this with h | h
      · exact ⟨a, List.mem_cons_self .., h⟩
      · obtain ⟨x, hx, e⟩ := List.mem_map.1 h
        exact ⟨x, List.mem_cons_of_mem _ hx, e.symm⟩
    · intro x hx
      obtain ⟨h1, h2⟩ := foldl_min_le (l.map g) (g a)
      rcases List.mem_cons.1 hx with rfl | hx
      · exact h1
      · exact h2 _ (List.mem_map_of_mem hx)
theorem ixU_pr {s : S} {n : Nat} {f : List ((Nat × Nat) × Nat)} (h : s[n]? = some (.dctT (kvs fP fV f))) {p : Nat × Nat} (hp : p ∈ f.map fP) : opIxU (.obj n) (prD p) s = .ok (.int (gv f p)) s := by
  unfold opIxU
  rw [dget_pr fP fV h p]
  have := find_some_iff fP p f
  rw [decide_eq_true hp] at this
  unfold gv
  cases hf : f.find? fun x => decide (fP x = p) with
  | none => rw [hf] at this; cases this
  | some q => rfl
/-! ### the walk that picks the first log -/
structure Bt (y : Sys) (E P : List (Nat × Nat)) (T l : Nat) (log : List Nat) (now : List (Nat × Nat)) : Prop where
  len : log.length + l = T
  ent : ∀ q ∈ now, Lt y q ∧ MinD y E q l ∧ ∃ p ∈ P, Vl y log ∧ q = y.runP p log
  ne : now ≠ []
  lex : ∀ w, (∃ p ∈ P, Hit y E p w) → w.length = T → (∃ u q, w = log ++ u ∧ q ∈ now ∧ Hit y E q u) ∨ LexLt log w
  nl : now.length ≤ P.length
def way (y : Sys) (f : List ((Nat × Nat) × Nat)) (l : Nat) (now : List (Nat × Nat)) (e : Nat) : List (Nat × Nat) := (now.map (y.stepP e)).filter fun q => decide (gv f q = (l : Int))
section
variable {y : Sys} {E P : List (Nat × Nat)} {f : List ((Nat × Nat) × Nat)} {T l : Nat} {log : List Nat} {now : List (Nat × Nat)}
theorem way_mem (hf : FarAll y E f) {e : Nat} {q : Nat × Nat} : q ∈ way y f l now e ↔ ∃ p ∈ now, q = y.stepP e p ∧ Lt y q ∧ MinD y E q l := by
  unfold way
  rw [List.mem_filter, List.mem_map, decide_eq_true_eq, gv_iff hf.nd, hf.mem]
  constructor
  · rintro ⟨⟨p, hp, rfl⟩, h⟩
    exact ⟨p, hp, rfl, h⟩
  · rintro ⟨p, hp, rfl, h⟩
    exact ⟨⟨p, hp, rfl⟩, h⟩
theorem Bt.some (hy : y.Ok) (hf : FarAll y E f) (h : Bt y E P T (l + 1) log now) : ∃ e, e < y.ops.length ∧ way y f l now e ≠ [] := by
  obtain ⟨q, hq⟩ := List.exists_mem_of_ne_nil _ h.ne
  obtain ⟨hl, hm, _⟩ := h.ent q hq
  obtain ⟨e, he, h1⟩ := hm.step
  exact ⟨e, he, List.ne_nil_of_mem ((way_mem hf).2 ⟨q, hq, rfl, ⟨hy.step_lt hl.1 he, hy.step_lt hl.2 he⟩, h1⟩)⟩
theorem Bt.step (hy : y.Ok) (hf : FarAll y E f) (h : Bt y E P T (l + 1) log now) {e : Nat} (he : e < y.ops.length) (hw : way y f l now e ≠ []) (hmin : ∀ e', e' < y.ops.length → way y f l now e' ≠ [] → e ≤ e') : Bt y E P T l (log ++ [e]) (way y f l now e) := by
  refine ⟨by have := h.len; simp; omega, fun q hq => ?_, hw, fun w hw2 hl => ?_, ?_⟩
  · obtain ⟨p, hp, rfl, h1, h2⟩ := (way_mem hf).1 hq
    obtain ⟨_, _, p0, hp0, hv, rfl⟩ := h.ent p hp
    exact ⟨h1, h2, p0, hp0, hv.snoc he, (runP_snoc ..).symm⟩
  · rcases h.lex w hw2 hl with ⟨u, q, rfl, hq, hu⟩ | hlt
    · obtain ⟨hql, hqm, _⟩ := h.ent q hq
      have hul : u.length = l + 1 := by have := h.len; rw [List.length_append] at hl; omega
      cases u with
      | nil => cases hul
      | cons e' u =>
        obtain ⟨he', ht⟩ := hu.tail
        simp only [List.length_cons] at hul
        have hm' : MinD y E (y.stepP e' q) l := by
          refine ⟨⟨u, ht, by omega⟩, fun w' hw' => ?_⟩
          have := hqm.min _ (hw'.cons he')
          simp only [List.length_cons] at this
          omega
        have hmem : y.stepP e' q ∈ way y f l now e' := (way_mem hf).2 ⟨q, hq, rfl, ⟨hy.step_lt hql.1 he', hy.step_lt hql.2 he'⟩, hm'⟩
        have hle := hmin e' he' (List.ne_nil_of_mem hmem)
        by_cases ee : e = e'
        · subst ee
          exact .inl ⟨u, _, by simp, hmem, ht⟩
        · exact .inr ⟨log, e, e', [], u, rfl, rfl, by omega⟩
    · exact .inr (hlt.app _)
  · refine Nat.le_trans ?_ h.nl
    unfold way
    exact Nat.le_trans (List.length_filter_le _ _) (by simp)
theorem Bt.start (hf : FarAll y E f) (hP : ∀ p ∈ P, Lt y p) (h1 : ∃ p ∈ P, (p, T) ∈ f) (h2 : ∀ p ∈ P, ∀ d, (p, d) ∈ f → T ≤ d) : Bt y E P T T [] (P.filter fun p => decide (gv f p = (T : Int))) := by
  have hm : ∀ q, q ∈ (P.filter fun p => decide (gv f p = (T : Int))) ↔ q ∈ P ∧ Lt y q ∧ MinD y E q T := fun q => by
    rw [List.mem_filter, decide_eq_true_eq, gv_iff hf.nd, hf.mem]
  refine ⟨by simp, fun q hq => ?_, ?_, fun w hw hl => ?_, List.length_filter_le _ _⟩
  · obtain ⟨a, b, c⟩ := (hm q).1 hq
    exact ⟨b, c, q, a, (fun _ z => nomatch z), rfl⟩
  · obtain ⟨p, hp, hq⟩ := h1
    exact List.ne_nil_of_mem ((hm p).2 ⟨hp, (hf.mem _ _).1 hq⟩)
  · obtain ⟨p, hp, hh⟩ := hw
    obtain ⟨d, hd, hmd⟩ := minD_ex hh
    have := h2 p hp d ((hf.mem _ _).2 ⟨hP p hp, hmd⟩)
    have e : d = T := by omega
    subst e
    exact .inl ⟨w, p, rfl, (hm p).2 ⟨hp, hP p hp, hmd⟩, hh⟩
theorem Bt.fin (hf : FarAll y E f) (hP : ∀ p ∈ P, Lt y p) (h2 : ∀ p ∈ P, ∀ d, (p, d) ∈ f → T ≤ d) (h : Bt y E P T 0 log now) : FirstLog y E P log := by
  have hlen : log.length = T := by have := h.len; omega
  obtain ⟨q, hq⟩ := List.exists_mem_of_ne_nil _ h.ne
  obtain ⟨_, hm, p, hp, hv, rfl⟩ := h.ent q hq
  refine ⟨⟨p, hp, hv, minD_zero.1 hm⟩, fun w' hw' => ?_, fun w' hw' hl => ?_⟩
  · obtain ⟨p', hp', hh⟩ := hw'
    obtain ⟨d, hd, hmd⟩ := minD_ex hh
    have := h2 p' hp' d ((hf.mem _ _).2 ⟨hP p' hp', hmd⟩)
    omega
  · rcases h.lex w' hw' (by omega) with ⟨u, q, e, _, _⟩ | hlt
    · left
      have : u.length = 0 := by
        have := congrArg List.length e
        rw [List.length_append] at this
        omega
      rw [List.length_eq_zero_iff] at this
      subst this
      simpa using e
    · exact .inr hlt
/-- the first way that is not empty -/
theorem first_way {n : Nat} {p : Nat → Bool} (h : ∃ e, e < n ∧ p e = true) : ∃ e r, (List.range n).filter p = e :: r ∧ e < n ∧ p e = true ∧ ∀ e', e' < n → p e' = true → e ≤ e' := by
  obtain ⟨e0, h1, h2⟩ := h
  have hm : e0 ∈ (List.range n).filter p := List.mem_filter.2 ⟨List.mem_range.2 h1, h2⟩
  cases hl : (List.range n).filter p with
  | nil => rw [hl] at hm; cases hm
  | cons e r =>
    have he : e ∈ (List.range n).filter p := by rw [hl]; simp
    obtain ⟨a, b⟩ := List.mem_filter.1 he
    refine ⟨e, r, rfl, List.mem_range.1 a, b, fun e' h3 h4 => ?_⟩
    have hm' : e' ∈ (List.range n).filter p := List.mem_filter.2 ⟨List.mem_range.2 h3, h4⟩
    rw [hl] at hm'
    have pw : ((List.range n).filter p).Pairwise (· < ·) := List.Pairwise.sublist List.filter_sublist List.pairwise_lt_range
    rw [hl, List.pairwise_cons] at pw
    rcases List.mem_cons.1 hm' with rfl | hm'
    · exact Nat.le_refl _
    · exact Nat.le_of_lt (pw.1 _ hm')
end
end VL
namespace VL
open PySem PySem.Spec PyProof.Rows L2

theorem first_between_ok {y : Sys} (hy : y.Ok) {E P : List (Nat × Nat)} (hE : E.Nodup) (hlE : ∀ p ∈ E, Lt y p) (hP : ∀ p ∈ P, Lt y p) (hPl : P.length ≤ 1000) (s : S) :
    wp (m__law_first_between [y.D, .lst (P.map prD), .lst (E.map prD)] s) fun d s' => (∃ t, s' = s ++ t) ∧ ((d = .non ∧ ∀ p ∈ P, ∀ w, ¬ Hit y E p w) ∨ ∃ w, d = logD w ∧ FirstLog y E P w) := by
  unfold m__law_first_between
  rw [mFn_eq, wp_fin]
  have hi : initE 15 [y.D, .lst (P.map prD), .lst (E.map prD)] = [some y.D, some (.lst (P.map prD)), some (.lst (E.map prD)), none, none, none, none, none, none, none, none, none, none, none, none] := rfl
  rw [hi]
  obtain ⟨_, _, e1, rfl, f, t, rfl, hf⟩ := (steps_to_ok hy hE hlE s).ok
  have gH := getH s (.dctT (kvs fP fV f)) t
  have hst : ∃ v, s ++ O.dctT (kvs fP fV f) :: t = s ++ v := ⟨_, rfl⟩
  generalize s ++ O.dctT (kvs fP fV f) :: t = st at gH e1 hst
  have e2 : ∀ q : Option D, (mTup mNil) [some y.D, some (.lst (P.map prD)), some (.lst (E.map prD)), none, none, none, none, none, none, none, none, none, none, none, none] st = .ok (logD []) st := fun _ => rfl
  rw [mSeq_eq]
  simp only [mAsg_eq, mTup_eq, mCons_eq, mUser_eq, mVar_eq, get_0, List.getElem?_cons_succ, vg_some, mNil_eq, R.bnd_ok, e1, retag_ok, List.length_cons, List.length_nil, Nat.reduceAdd, LIM_eq, Nat.reduceLeDiff, Nat.zero_le, if_true, gT_eq, gConsM_eq, gN_eq, gNilM_eq, List.set_cons_succ, List.set_cons_zero, seqF_nx]
  have c1 : ∀ x4 x5 x6 : Option D, lcF finL (.one 11) (mB (mBin opInD (mVar 11) (mVar 3))) (mVar 11) [11] [some y.D, some (.lst (P.map prD)), some (.lst (E.map prD)), some (.obj s.length), x4, x5, x6, none, none, none, none, none, none, none, none] (.fix (P.map prD)) st = .ok (.lst ((P.filter fun p => decide (p ∈ f.map fP)).map prD)) st := fun x4 x5 x6 => by
    rw [lcF_fix (by simp; omega) rfl, llc_filt (p := fun p => decide (p ∈ f.map fP)) (g := prD) _ _ (fun p hp => ⟨_, rfl, ?_, fun _ => ?_⟩)]
    · simp
    · have := in_pr fP fV gH p
      simp only [mB_eq, mBin_eq, mVar_eq, wipeD, List.set_cons_succ, List.set_cons_zero, get_0, List.getElem?_cons_succ, vg_some, R.bnd_ok, this, asB_ok]
    · simp [wipeD]
  rw [mSeq_eq, mIfS_eq]
  simp only [mB_eq, mBin_eq, mLcF_eq, mSrc_eq, mVar_eq, get_0, List.getElem?_cons_succ, vg_some, R.bnd_ok, srcF_lst, c1, mLst_eq, mNil_eq, List.length_nil, Nat.zero_le, LIM_eq, if_true]
  rw [show opEq (.lst ((P.filter fun p => decide (p ∈ f.map fP)).map prD)) (.lst []) st = _ from opEq_prs (fun b => b) _ st]
  simp only [R.bnd_ok, asB_ok]
  by_cases hnil : (P.filter fun p => decide (p ∈ f.map fP)) = []
  · obtain ⟨t, ht⟩ := hst
    simp only [hnil, decide_true, if_true, mRet_eq, mC_eq, R.bnd_ok, seqF_ret, wp_ok, endQ_ret]
    refine ⟨⟨t, ht⟩, .inl ⟨trivial, fun p hp w hw => ?_⟩⟩
    obtain ⟨d, _, hm⟩ := minD_ex hw
    have : p ∈ (P.filter fun p => decide (p ∈ f.map fP)) := List.mem_filter.2 ⟨hp, decide_eq_true (key_iff.2 ⟨d, (hf.mem p d).2 ⟨hP p hp, hm⟩⟩)⟩
    rw [hnil] at this
    cases this
  · have c2 : ∀ x4 x5 x6 : Option D, lcF finL (.one 11) (mB (mBin opInD (mVar 11) (mVar 3))) (mBin opIxU (mVar 3) (mVar 11)) [11] [some y.D, some (.lst (P.map prD)), some (.lst (E.map prD)), some (.obj s.length), x4, x5, x6, none, none, none, none, none, none, none, none] (.fix (P.map prD)) st = .ok (.lst ((P.filter fun p => decide (p ∈ f.map fP)).map fun p => .int (gv f p))) st := fun x4 x5 x6 => by
      rw [lcF_fix (by simp; omega) rfl, llc_filt (p := fun p => decide (p ∈ f.map fP)) (g := fun p => .int (gv f p)) _ _ (fun p hp => ⟨_, rfl, ?_, fun hk => ?_⟩)]
      · simp
      · have := in_pr fP fV gH p
        simp only [mB_eq, mBin_eq, mVar_eq, wipeD, List.set_cons_succ, List.set_cons_zero, get_0, List.getElem?_cons_succ, vg_some, R.bnd_ok, this, asB_ok]
      · have := ixU_pr gH (of_decide_eq_true hk)
        simp only [mBin_eq, mVar_eq, wipeD, List.set_cons_succ, List.set_cons_zero, get_0, List.getElem?_cons_succ, vg_some, R.bnd_ok, this]
    obtain ⟨m, hm, ⟨p0, hp0, e0⟩, hmin⟩ := fMinL_map (g := fun p => gv f p) hnil st
    obtain ⟨hpP, hpk⟩ := List.mem_filter.1 hp0
    obtain ⟨T, hT⟩ := key_iff.1 (of_decide_eq_true hpk)
    have hmT : m = (T : Int) := by rw [e0]; exact (gv_iff hf.nd).2 hT
    subst hmT
    have h2 : ∀ p ∈ P, ∀ d, (p, d) ∈ f → T ≤ d := fun p hp d hd => by
      have h3 := hmin p (List.mem_filter.2 ⟨hp, decide_eq_true (key_iff.2 ⟨d, hd⟩)⟩)
      rw [(gv_iff hf.nd).2 hd] at h3
      omega
    have hT36 : T ≤ 37 := hf.le _ _ hT
    have g2 : ∀ (u : S), (st ++ u)[s.length]? = some (.dctT (kvs fP fV f)) := fun u => by
      have : s.length < st.length := (List.getElem?_eq_some_iff.1 gH).1
      rw [List.getElem?_append_left this]
      exact gH
    have c3 : ∀ x4 x6 : Option D, lcF finL (.one 11) (mB (mBin opEq (mGet2 (mVar 3) (mVar 11) (mUn opNeg (mC (.int 1)))) (mVar 5))) (mVar 11) [11] [some y.D, some (.lst (P.map prD)), some (.lst (E.map prD)), some (.obj s.length), x4, some (.int (T : Int)), x6, none, none, none, none, none, none, none, none] (.fix (P.map prD)) st = .ok (.lst ((P.filter fun p => decide (gv f p = (T : Int))).map prD)) st := fun x4 x6 => by
      rw [lcF_fix (by simp; omega) rfl, llc_filt (p := fun p => decide (gv f p = (T : Int))) (g := prD) _ _ (fun p hp => ⟨_, rfl, ?_, fun _ => ?_⟩)]
      · simp
      · have := get2_pr (mo := mVar 3) (mk := mVar 11) (md := mUn opNeg (mC (.int 1))) (ρ := [some y.D, some (.lst (P.map prD)), some (.lst (E.map prD)), some (.obj s.length), x4, some (.int (T : Int)), x6, none, none, none, none, some (prD p), none, none, none]) (p := p) gH rfl rfl rfl
        simp only [mB_eq, mBin_eq, mVar_eq, wipeD, List.set_cons_succ, List.set_cons_zero, get_0, List.getElem?_cons_succ, vg_some, R.bnd_ok, this, asB_ok]
        rw [show opEq (.int (gv f p)) (.int (T : Int)) st = _ from opEqF_int _ (fun b => b) _ _]
        simp only [R.bnd_ok, asB_ok]
        congr 1
      · simp [wipeD]
    have hb0 := Bt.start hf hP ⟨p0, hpP, hT⟩ h2
    simp only [decide_eq_false hnil, Bool.false_eq_true, if_false, mSkip_eq, R.bnd_ok, seqF_nx]
    rw [mSeq_eq, mAsg_eq]
    simp only [mCall_eq, mCons_eq, mLcF_eq, mSrc_eq, mVar_eq, get_0, List.getElem?_cons_succ, vg_some, R.bnd_ok, srcF_lst, c2, mNil_eq, hm, gN_eq, List.set_cons_succ, List.set_cons_zero, seqF_nx]
    rw [mSeq_eq, mAsg_eq]
    simp only [mLcF_eq, mSrc_eq, mVar_eq, get_0, List.getElem?_cons_succ, vg_some, R.bnd_ok, srcF_lst, c3, gN_eq, List.set_cons_succ, List.set_cons_zero, seqF_nx]
    generalize (P.filter fun p => decide (gv f p = (T : Int))) = now0 at hb0 ⊢
    rw [mSeq_eq, wp_bnd]
    refine wp_while (fun n ρ s' => ∃ (l : Nat) (log : List Nat) (now : List (Nat × Nat)) (u : S) (x7 x8 x9 x10 x11 x12 x13 x14 : Option D), Bt y E P T l log now ∧ l < n ∧ n ≤ 2000 ∧ s' = st ++ u ∧
      ρ = [some y.D, some (.lst (P.map prD)), some (.lst (E.map prD)), some (.obj s.length), some (logD log), some (.int (l : Int)), some (.lst (now.map prD)), x7, x8, x9, x10, x11, x12, x13, x14]) ?_ ?_ 2000 _ _ ⟨T, [], now0, [], _, _, _, _, _, _, _, _, hb0, by omega, by omega, by simp, rfl⟩
    · rintro ρ s' ⟨l, log, now, u, x7, x8, x9, x10, x11, x12, x13, x14, hb, h, _⟩
      omega
    · rintro n ρ s' ⟨l, log, now, u, x7, x8, x9, x10, x11, x12, x13, x14, hb, hln, hn2, rfl, rfl⟩
      simp only [mB_eq, mBin_eq, mVar_eq, mC_eq, get_0, List.getElem?_cons_succ, vg_some, R.bnd_ok, opGt_int, asB_ok, wp_ok]
      cases l with
      | zero =>
        rw [if_neg (by simp)]
        simp only [seqF_nx, mRet_eq, mVar_eq, get_0, List.getElem?_cons_succ, vg_some, R.bnd_ok, wp_ok, endQ_ret]
        obtain ⟨t, ht⟩ := hst
        exact ⟨⟨t ++ u, by rw [ht, List.append_assoc]⟩, .inr ⟨log, rfl, hb.fin hf hP h2⟩⟩
      | succ l =>
        rw [if_pos (decide_eq_true (by omega))]
        have hnl : now.length ≤ 1000 := Nat.le_trans hb.nl hPl
        have ol := hy.o6
        have nW : (st ++ u).length = (st ++ u).length := rfl
        generalize hW : (st ++ u).length = W at nW
        have gW : ∀ x : O, (st ++ u ++ [x])[W]? = some x := fun x => by rw [← hW]; simp
        have gF : ∀ x : O, (st ++ u ++ [x])[s.length]? = some (.dctT (kvs fP fV f)) := fun x => by rw [List.append_assoc]; exact g2 _
        have sW : ∀ x z : O, (st ++ u ++ [x]).set W z = st ++ u ++ [z] := fun x z => by rw [← hW, List.set_append_right _ _ (Nat.le_refl _)]; simp
        simp only [mSeq_eq, mAsg_eq, mLstO_eq, mNil_eq, R.bnd_ok, List.length_nil, Nat.zero_le, LIM_eq, if_true, gN_eq, List.set_cons_succ, List.set_cons_zero, seqF_nx, hW, mFor_eq, mEnum_eq, mCons_eq, mBin_eq, mVar_eq, mC_eq, get_0, vg_some, ix_ops, enumF_tup, forF_fix, enumD_ops, wp_bnd]
        refine wp_loop (fun ds ρ s2 => ∃ (pre os : List (List Nat)) (x8 x9 x10 x11 x12 x13 x14 : Option D), y.ops = pre ++ os ∧ ds = enumO pre.length os ∧
          s2 = st ++ u ++ [.lst ((List.range pre.length).map fun e => .tup [nD e, .lst ((way y f l now e).map prD)])] ∧ ρ = [some y.D, some (.lst (P.map prD)), some (.lst (E.map prD)), some (.obj s.length), some (logD log), some (.int ((l + 1 : Nat) : Int)), some (.lst (now.map prD)), some (.obj W), x8, x9, x10, x11, x12, x13, x14]) ?_ ?_ _ _ _ ⟨[], y.ops, _, _, _, _, _, _, _, rfl, rfl, rfl, rfl⟩
        · rintro d ds ρ s2 ⟨pre, os, x8, x9, x10, x11, x12, x13, x14, ho, hds, rfl, rfl⟩
          cases os with
          | nil => cases hds
          | cons o os =>
            rw [enumO_cons] at hds
            injection hds with hd1 hd2
            subst hd1 hd2
            have hko : y.ops[pre.length]? = some o := by rw [ho]; simp
            have hkl : pre.length < y.ops.length := (List.getElem?_eq_some_iff.1 hko).1
            have hom : o ∈ y.ops := List.mem_of_getElem? hko
            generalize hs2 : st ++ u ++ [O.lst ((List.range pre.length).map fun e => D.tup [nD e, .lst ((way y f l now e).map prD)])] = s2
            have gF2 : s2[s.length]? = some (.dctT (kvs fP fV f)) := by rw [← hs2]; exact gF _
            have gW2 : s2[W]? = some (.lst ((List.range pre.length).map fun e => .tup [nD e, .lst ((way y f l now e).map prD)])) := by rw [← hs2]; exact gW _
            have k1 : ∀ x10 x11 x12 x13 x14 : Option D, lcF finL (.many [12, 13]) mYes (mTup (mCons (mBin opIx (mVar 9) (mVar 12)) (mCons (mBin opIx (mVar 9) (mVar 13)) mNil))) [12, 13] [some y.D, some (.lst (P.map prD)), some (.lst (E.map prD)), some (.obj s.length), some (logD log), some (.int ((l + 1 : Nat) : Int)), some (.lst (now.map prD)), some (.obj W), some (.int (pre.length : Nat)), some (opD o), x10, x11, x12, x13, x14] (.fix (now.map prD)) s2 =
                .ok (.lst ((now.map (y.stepP pre.length)).map prD)) s2 := fun x10 x11 x12 x13 x14 => by
              rw [lcF_fix (by simp; omega) rfl, llc_map (g := fun q => prD (y.stepP pre.length q)) _ _ (fun q hq => ⟨_, rfl, ?_⟩)]
              · simp [Function.comp_def]
              · obtain ⟨q1, q2⟩ := (hb.ent q hq).1
                have j1 := ix_o hy hom q1 s2
                have j2 := ix_o hy hom q2 s2
                have es1 : o.getD q.1 0 = (y.stepP pre.length q).1 := by show _ = y.step _ _; rw [step_eq hko]
                have es2 : o.getD q.2 0 = (y.stepP pre.length q).2 := by show _ = y.step _ _; rw [step_eq hko]
                rw [es1] at j1
                rw [es2] at j2
                simp only [mTup_eq, mCons_eq, mBin_eq, mVar_eq, wipeD, setAll, nD, List.set_cons_succ, List.set_cons_zero, get_0, List.getElem?_cons_succ, vg_some, R.bnd_ok, j1, j2, mNil_eq, List.length_cons, List.length_nil, Nat.reduceAdd, LIM_eq, Nat.reduceLeDiff, if_true]
                rfl
            have k2 : ∀ x11 x12 x13 x14 : Option D, lcF finL (.one 11) (mB (mBin opEq (mGet2 (mVar 3) (mVar 11) (mUn opNeg (mC (.int 1)))) (mBin opSub (mVar 5) (mC (.int 1))))) (mVar 11) [11] [some y.D, some (.lst (P.map prD)), some (.lst (E.map prD)), some (.obj s.length), some (logD log), some (.int ((l + 1 : Nat) : Int)), some (.lst (now.map prD)), some (.obj W), some (.int (pre.length : Nat)), some (opD o), some (.lst ((now.map (y.stepP pre.length)).map prD)), x11, x12, x13, x14] (.fix ((now.map (y.stepP pre.length)).map prD)) s2 =
                .ok (.lst ((way y f l now pre.length).map prD)) s2 := fun x11 x12 x13 x14 => by
              rw [lcF_fix (by simp; omega) rfl, llc_filt (p := fun q => decide (gv f q = (l : Int))) (g := prD) _ _ (fun q hq => ⟨_, rfl, ?_, fun _ => ?_⟩)]
              · simp [way]
              · have := get2_pr (mo := mVar 3) (mk := mVar 11) (md := mUn opNeg (mC (.int 1))) (ρ := [some y.D, some (.lst (P.map prD)), some (.lst (E.map prD)), some (.obj s.length), some (logD log), some (.int ((l + 1 : Nat) : Int)), some (.lst (now.map prD)), some (.obj W), some (.int (pre.length : Nat)), some (opD o), some (.lst ((now.map (y.stepP pre.length)).map prD)), some (prD q), x12, x13, x14]) (p := q) gF2 rfl rfl rfl
                have el : (((l + 1 : Nat) : Int) - 1) = (l : Int) := by omega
                simp only [mB_eq, mBin_eq, mVar_eq, mC_eq, wipeD, List.set_cons_succ, List.set_cons_zero, get_0, List.getElem?_cons_succ, vg_some, R.bnd_ok, this, opSub_int, el]
                rw [show opEq (.int (gv f q)) (.int (l : Int)) s2 = _ from opEqF_int _ (fun b => b) _ _]
                simp only [R.bnd_ok, asB_ok]
                congr 1
              · simp [wipeD]
            have o1 : isLstO s2 (.obj W) = true := isLstO_obj gW2
            have a1 := fAppend_obj gW2 (by simp; omega) (.tup [nD pre.length, .lst ((way y f l now pre.length).map prD)])
            rw [← hs2, sW, hs2] at a1
            have tgt : ∀ ρ s, (gT 2 (gConsM (gN 8) (gConsM (gN 9) gNilM))) (.tup [.int (pre.length : Nat), opD o]) ρ s = .ok ((ρ.set 8 (some (.int (pre.length : Nat)))).set 9 (some (opD o))) s := fun ρ s => by simp
            simp only [nD] at a1
            simp only [tgt, wp_ok, List.set_cons_succ, List.set_cons_zero, mLcF_eq, mSrc_eq, mVar_eq, get_0, List.getElem?_cons_succ, vg_some, R.bnd_ok, srcF_lst, k1, gN_eq, seqF_nx, mDrop_eq, mAppend_eq, o1, if_true, mTup_eq, mCons_eq, k2, mNil_eq, List.length_cons, List.length_nil, Nat.reduceAdd, LIM_eq, Nat.reduceLeDiff, a1, turnK_nx, mSeq_eq, mAsg_eq]
            refine ⟨pre ++ [o], os, _, _, _, _, _, _, _, by rw [ho]; simp, by simp, ?_, rfl⟩
            rw [List.length_append, List.length_singleton, List.range_succ, List.map_append]
            rfl
        · rintro ρ s2 ⟨pre, os, x8, x9, x10, x11, x12, x13, x14, ho, hds, rfl, rfl⟩
          have hos : os = [] := by cases os with | nil => rfl | cons o os => cases hds
          subst hos
          rw [List.append_nil] at ho
          rw [← ho]
          obtain ⟨e, r, hfl, he, hne, hfm⟩ := first_way (n := y.ops.length) (p := fun e => decide (way y f l now e ≠ [])) (by
            obtain ⟨e, he, h⟩ := hb.some hy hf
            exact ⟨e, he, decide_eq_true h⟩)
          have hb1 := hb.step hy hf he (of_decide_eq_true hne) fun e' h1 h3 => hfm e' h1 (decide_eq_true h3)
          have gW2 := gW (.lst ((List.range y.ops.length).map fun e => .tup [nD e, .lst ((way y f l now e).map prD)]))
          have hs4 : ∃ v, st ++ u ++ [O.lst ((List.range y.ops.length).map fun e => D.tup [nD e, .lst ((way y f l now e).map prD)])] = st ++ v := ⟨u ++ [_], by rw [List.append_assoc]⟩
          generalize st ++ u ++ [O.lst ((List.range y.ops.length).map fun e => D.tup [nD e, .lst ((way y f l now e).map prD)])] = s3 at gW2 hs4
          have k3 : ∀ x8 x9 x10 x11 x12 x13 x14 : Option D, lcF finL (.one 14) (mB (mBin opNe (mBin opIx (mVar 14) (mC (.int 1))) (mLst mNil))) (mVar 14) [14] [some y.D, some (.lst (P.map prD)), some (.lst (E.map prD)), some (.obj s.length), some (logD log), some (.int ((l + 1 : Nat) : Int)), some (.lst (now.map prD)), some (.obj W), x8, x9, x10, x11, x12, x13, x14] (.live W) s3 =
              .ok (.lst (((List.range y.ops.length).filter fun e => decide (way y f l now e ≠ [])).map fun e => .tup [nD e, .lst ((way y f l now e).map prD)])) s3 := fun x8 x9 x10 x11 x12 x13 x14 => by
            rw [lcF_liveF (p := fun e => decide (way y f l now e ≠ [])) (f := fun e => .tup [nD e, .lst ((way y f l now e).map prD)]) gW2 (by simp; omega) rfl (fun e he => ⟨_, rfl, ?_, fun _ => ?_⟩)]
            · rfl
            · have ix1 : ∀ s, opIx (.tup [nD e, .lst ((way y f l now e).map prD)]) (.int 1) s = .ok (.lst ((way y f l now e).map prD)) s := fun s => by simp
              simp only [mB_eq, mBin_eq, mVar_eq, mC_eq, wipeD, List.set_cons_succ, List.set_cons_zero, get_0, List.getElem?_cons_succ, vg_some, R.bnd_ok, ix1, mLst_eq, mNil_eq, List.length_nil, Nat.zero_le, LIM_eq, if_true]
              rw [show opNe (.lst ((way y f l now e).map prD)) (.lst []) s3 = _ from opEq_prs (fun b => !b) _ _]
              simp only [R.bnd_ok, asB_ok]
              congr 1
              simp
            · simp [wipeD]
          rw [hfl] at k3
          have ix0 : ∀ s, opIx (.lst ((e :: r).map fun e => .tup [nD e, .lst ((way y f l now e).map prD)])) (.int 0) s = .ok (.tup [nD e, .lst ((way y f l now e).map prD)]) s := fun s => by simp
          have tg1 : ∀ ρ s, (gT 2 (gConsM (gN 8) (gConsM (gN 6) gNilM))) (.tup [nD e, .lst ((way y f l now e).map prD)]) ρ s = .ok ((ρ.set 8 (some (nD e))).set 6 (some (.lst ((way y f l now e).map prD)))) s := fun ρ s => by simp
          have tg2 : ∀ a b ρ s, (gT 2 (gConsM (gN 4) (gConsM (gN 5) gNilM))) (.tup [a, b]) ρ s = .ok ((ρ.set 4 (some a)).set 5 (some b)) s := fun a b ρ s => by simp
          have el : (((l + 1 : Nat) : Int) - 1) = (l : Int) := by omega
          have ad : ∀ s, opAdd (logD log) (.tup [nD e]) s = .ok (logD (log ++ [e])) s := fun s => opAdd_log (a := log) (b := [e]) (by have := hb1.len; simp at this ⊢; omega) s
          simp only [seqF_nx, mSeq_eq, mAsg_eq, mBin_eq, mLcF_eq, mSrc_eq, mVar_eq, get_0, List.getElem?_cons_succ, vg_some, R.bnd_ok, srcF_obj gW2, k3, mC_eq, ix0, tg1, List.set_cons_succ, List.set_cons_zero, mTup_eq, mCons_eq, mNil_eq, List.length_cons, List.length_nil, Nat.reduceAdd, LIM_eq, Nat.reduceLeDiff, if_true, ad, opSub_int, el, tg2, wp_ok, turnK_nx]
          obtain ⟨v, rfl⟩ := hs4
          exact ⟨l, log ++ [e], _, v, _, _, _, _, _, _, _, _, hb1, by omega, by omega, rfl, rfl⟩
end VL
namespace VL
open PySem PySem.Spec PyProof.Rows L2

/-! ### who covers whom: the program -/
noncomputable def Sys.rowC (y : Sys) (a : Nat) : List Bool := (List.range y.ops.length).map fun b => y.cov a b
noncomputable def Sys.rowD (y : Sys) (a : Nat) : VL.D := VL.D.tup ((y.rowC a).map VL.D.bl)
noncomputable def Sys.covD (y : Sys) : VL.D := VL.D.tup ((List.range y.ops.length).map y.rowD)
theorem rowD_eq (y : Sys) (a : Nat) : y.rowD a = .tup ((List.range y.ops.length).map fun b => .bl (y.cov a b)) := by simp [Sys.rowD, Sys.rowC, Function.comp_def]
theorem does_cover_eq {y : Sys} (hy : y.Ok) {a b : Nat} (ha : a < y.ops.length) (hb : b < y.ops.length) (s : S) : m_does_cover [y.D, nD a, nD b] s = .ok (.bl (y.cov a b)) (s ++ gar m_does_cover [y.D, nD a, nD b] s) := eq_gar (does_cover_ok hy ha hb s)
theorem coverage_of_ok {y : Sys} (hy : y.Ok) (s : S) : wp (m_coverage_of [y.D] s) fun d s' => d = y.covD ∧ ∃ t, s' = s ++ t := by
  have h6 := hy.o6
  have rg : rgOkD (y.ops.length : Int) := by simp [rgOkD]; omega
  unfold m_coverage_of
  rw [mFn_eq, wp_fin]
  simp only [initE, List.length_cons, List.length_nil, Nat.reduceAdd, Nat.reduceSub, List.map_cons, List.map_nil, List.replicate_succ, List.replicate_zero, List.cons_append, List.nil_append, mSeq_eq, mAsg_eq, mListRg_eq, mCall_eq, mCons_eq, mBin_eq, mVar_eq, get_0, vg_some, mC_eq, R.bnd_ok, ix_ops, mNil_eq, fLen_tup, List.length_map]
  rw [if_pos rg, rngD_nD]
  simp only [Int.toNat_natCast, R.bnd_ok, gN_eq, List.set_cons_succ, List.set_cons_zero, seqF_nx, mRet_eq, mCall_eq, mCons_eq, mLcF_eq, mSrc_eq, mVar_eq, get_0, List.getElem?_cons_succ, vg_some, srcF_lst, mNil_eq]
  rw [lcF_fix (by simp; omega) rfl]
  have row : ∀ (a : Nat), a < y.ops.length → ∀ (s : S) x3, ∃ u, (mCall fTuple (mCons (mLc (mSrc (mVar 1)) (.one 3) mYes (mUser m_does_cover (mCons (mVar 0) (mCons (mVar 2) (mCons (mVar 3) mNil)))) [3]) mNil)) [some y.D, some (.lst ((List.range y.ops.length).map nD)), some (nD a), x3] s = .ok (y.rowD a) (s ++ u) := fun a ha s x3 => by
    simp only [mCall_eq, mCons_eq, mLcF_eq, mSrc_eq, mVar_eq, get_0, List.getElem?_cons_succ, vg_some, srcF_lst, mNil_eq, R.bnd_ok]
    rw [lcF_fix (by simp; omega) rfl]
    obtain ⟨u, hu⟩ := llc_up (f := nD) (t := .one 3) (el := mUser m_does_cover (mCons (mVar 0) (mCons (mVar 2) (mCons (mVar 3) mNil)))) (ρw := wipeD [some y.D, some (.lst ((List.range y.ops.length).map nD)), some (nD a), x3] [3]) (g := fun b => .bl (y.cov a b)) (List.range y.ops.length) [] s
      fun b hb s' => ⟨_, _, rfl, by
        have := does_cover_eq hy ha (List.mem_range.1 hb) (s ++ s')
        simp only [wipeD, mUser_eq, mCons_eq, mVar_eq, List.set_cons_succ, List.set_cons_zero, get_0, List.getElem?_cons_succ, vg_some, R.bnd_ok, mNil_eq, this, retag_ok]; rfl⟩
    refine ⟨u, ?_⟩
    rw [hu]
    simp [rowD_eq]
  obtain ⟨u, hu⟩ := llc_up (f := nD) (t := .one 2) (el := mCall fTuple (mCons (mLc (mSrc (mVar 1)) (.one 3) mYes (mUser m_does_cover (mCons (mVar 0) (mCons (mVar 2) (mCons (mVar 3) mNil)))) [3]) mNil)) (ρw := wipeD [some y.D, some (.lst ((List.range y.ops.length).map nD)), none, none] [2]) (g := y.rowD) (List.range y.ops.length) [] s
    fun a ha s' => by
      obtain ⟨u, hu⟩ := row a (List.mem_range.1 ha) (s ++ s') none
      exact ⟨_, u, rfl, hu⟩
  rw [hu]
  simp only [R.bnd_ok, finL_eq, fTuple_lst, wp_ok, endQ_ret, List.nil_append]
  exact ⟨rfl, _, rfl⟩
theorem coverage_of_eq {y : Sys} (hy : y.Ok) (s : S) : m_coverage_of [y.D] s = .ok y.covD (s ++ gar m_coverage_of [y.D] s) := eq_gar (coverage_of_ok hy s)
theorem coverage_eq {y : Sys} (hy : y.Ok) (s : S) : m_coverage [y.D] s = .ok y.covD (s ++ gar m_coverage_of [y.D] s) := by
  unfold m_coverage
  rw [mFn_eq]
  simp [initE, need_system_ok hy, coverage_of_eq hy]
/-! ### .. and the law -/
def Sys.ends (y : Sys) (b : Nat) : List (Nat × Nat) := (prs y.many).filter fun p => !decide (y.step p.1 b = y.step p.2 b)
def Sys.starts (y : Sys) (a : Nat) : List (Nat × Nat) := y.reach.map fun st => (y.step st a, st)
theorem cov_iff {y : Sys} (hy : y.Ok) {a b : Nat} (ha : a < y.ops.length) : y.Cov a b ↔ ∀ p ∈ y.starts a, ∀ w, ¬ Hit y (y.ends b) p w := by
  constructor
  · rintro h p hp w ⟨hv, hw⟩
    obtain ⟨st, hst, rfl⟩ := List.mem_map.1 hp
    have := (List.mem_filter.1 hw).2
    simp only [Bool.not_eq_true', decide_eq_false_iff_not] at this
    exact this (h st hst w hv)
  · intro h st hst w hv
    refine Classical.byContradiction fun hn => h _ (List.mem_map.2 ⟨st, hst, rfl⟩) w ⟨hv, List.mem_filter.2 ⟨prs_mem.2 ?_, ?_⟩⟩
    · have := reach_lt hy hst
      exact runP_lt hy hv ⟨hy.step_lt this ha, this⟩
    · simp only [Bool.not_eq_true', decide_eq_false_iff_not]
      exact hn
theorem law_uncovered_ok {y : Sys} (hy : y.Ok) {a b : Nat} (ha : a < y.ops.length) (hb : b < y.ops.length) (s : S) :
    wp (m__law_uncovered [y.D, nD a, nD b] s) fun d s' => (∃ t, s' = s ++ t) ∧ ((d = .non ∧ y.Cov a b) ∨ ∃ w, d = logD w ∧ ¬ y.Cov a b ∧ FirstLog y (y.ends b) (y.starts a) w) := by
  have h6 := hy.o6
  have hm := hy.m6
  have e0 : ∀ s, opIx y.D (.int 0) s = .ok (.int (y.many : Int)) s := fun s => by simp [Sys.D]
  have lp := fun s => law_pairs_ok hy.m6 s
  simp only [nD] at lp
  have oa : y.ops.getD a [] ∈ y.ops := by rw [List.getD_eq_getElem?_getD, List.getElem?_eq_getElem ha, Option.getD_some]; exact List.getElem_mem _
  have ob : y.ops.getD b [] ∈ y.ops := by rw [List.getD_eq_getElem?_getD, List.getElem?_eq_getElem hb, Option.getD_some]; exact List.getElem_mem _
  have hn1 : (s ++ [O.lst ((prs y.many).map prD)])[s.length]? = some (.lst ((prs y.many).map prD)) := by simp
  have k1 : lcF finL (.one 6) (mB (mBin opNe (mBin opIx (mVar 4) (mBin opIx (mVar 6) (mC (.int 0)))) (mBin opIx (mVar 4) (mBin opIx (mVar 6) (mC (.int 1)))))) (mVar 6) [6] [some y.D, some (nD a), some (nD b), some (opD (y.ops.getD a [])), some (opD (y.ops.getD b [])), none, none, none] (.live s.length) (s ++ [O.lst ((prs y.many).map prD)]) =
      .ok (.lst ((y.ends b).map prD)) (s ++ [O.lst ((prs y.many).map prD)]) := by
    rw [lcF_liveF (p := fun p => !decide (y.step p.1 b = y.step p.2 b)) (f := prD) hn1 (by have := prs_len y.many hm; omega) rfl (fun p hp => ⟨_, rfl, ?_, fun _ => ?_⟩)]
    · rfl
    · obtain ⟨p1, p2⟩ := prs_mem.1 hp
      have j1 := ix_o hy ob p1 (s ++ [O.lst ((prs y.many).map prD)])
      have j2 := ix_o hy ob p2 (s ++ [O.lst ((prs y.many).map prD)])
      rw [getD_step hb] at j1 j2
      simp only [mB_eq, mBin_eq, mVar_eq, mC_eq, wipeD, List.set_cons_succ, List.set_cons_zero, get_0, List.getElem?_cons_succ, vg_some, R.bnd_ok, prD_ix0, prD_ix1, j1, j2]
      rw [show opNe (.int (y.step p.1 b : Nat)) (.int (y.step p.2 b : Nat)) (s ++ [O.lst ((prs y.many).map prD)]) = _ from opNe_nD (fun b => !b) _ _ _]
      simp only [R.bnd_ok, asB_ok]
    · simp [wipeD]
  have k2 : ∀ s2 : S, lcF finL (.one 7) mYes (mTup (mCons (mBin opIx (mVar 3) (mVar 7)) (mCons (mVar 7) mNil))) [7] [some y.D, some (nD a), some (nD b), some (opD (y.ops.getD a [])), some (opD (y.ops.getD b [])), some (.lst ((y.ends b).map prD)), none, none] (.fix (y.reach.map nD)) s2 = .ok (.lst ((y.starts a).map prD)) s2 := fun s2 => by
    rw [lcF_fix (by have := reach_len hy; simp; omega) rfl, llc_map (g := fun st => prD (y.step st a, st)) _ _ (fun st hst => ⟨_, rfl, ?_⟩)]
    · simp [Sys.starts, Function.comp_def]
    · have j1 := ix_o hy oa (reach_lt hy hst) s2
      rw [getD_step ha] at j1
      simp only [mTup_eq, mCons_eq, mBin_eq, mVar_eq, wipeD, nD, List.set_cons_succ, List.set_cons_zero, get_0, List.getElem?_cons_succ, vg_some, R.bnd_ok, j1, mNil_eq, List.length_cons, List.length_nil, Nat.reduceAdd, LIM_eq, Nat.reduceLeDiff, if_true]
      rfl
  unfold m__law_uncovered
  rw [mFn_eq, wp_fin]
  have hi : initE 8 [y.D, nD a, nD b] = [some y.D, some (nD a), some (nD b), none, none, none, none, none] := rfl
  have tg2 : ∀ a b ρ s, (gT 2 (gConsM (gN 3) (gConsM (gN 4) gNilM))) (.tup [a, b]) ρ s = .ok ((ρ.set 3 (some a)).set 4 (some b)) s := fun a b ρ s => by simp
  have ia := fun s => ix_op (y := y) ha s
  have ib := fun s => ix_op (y := y) hb s
  simp only [nD] at k1 k2 hi ⊢
  rw [hi]
  simp only [mSeq_eq, mAsg_eq, mTup_eq, mCons_eq, mBin_eq, mVar_eq, get_0, List.getElem?_cons_succ, vg_some, mC_eq, R.bnd_ok, ix_ops, ia, ib, mNil_eq, List.length_cons, List.length_nil, Nat.reduceAdd, LIM_eq, Nat.reduceLeDiff, if_true, tg2, List.set_cons_succ, List.set_cons_zero, seqF_nx, mLcF_eq, mSrc_eq, mUser_eq, e0, lp, prs_D, retag_ok, srcF_obj hn1, k1, gN_eq, mRet_eq, law_reached_eq hy, srcF_lst, k2, wp_bnd, wp_retag]
  refine (first_between_ok hy ((prs_nodup _).filter _) (fun p hp => prs_mem.1 (List.mem_filter.1 hp).1) (P := y.starts a) (fun p hp => ?_) (by have := reach_len hy; simp [Sys.starts]; omega) _).mono ?_
  · obtain ⟨st, hst, rfl⟩ := List.mem_map.1 hp
    have := reach_lt hy hst
    exact ⟨hy.step_lt this ha, this⟩
  · rintro d s' ⟨⟨t, rfl⟩, h⟩
    simp only [wp_ok, endQ_ret]
    refine ⟨⟨_, by simp only [List.append_assoc]; rfl⟩, ?_⟩
    rcases h with ⟨rfl, h⟩ | ⟨w, rfl, h⟩
    · exact .inl ⟨rfl, (cov_iff hy ha).2 h⟩
    · refine .inr ⟨w, rfl, fun hc => ?_, h⟩
      obtain ⟨p, hp, hh⟩ := h.hit
      exact (cov_iff hy ha).1 hc p hp w hh
end VL
namespace VL
open PySem PySem.Spec PyProof.Rows L2

theorem isN_unc {y : Sys} (hy : y.Ok) {a b : Nat} (ha : a < y.ops.length) (hb : b < y.ops.length) (s : S) : ∃ u, ((m__law_uncovered [y.D, nD a, nD b] s).bnd fun x s1 => opIsN x .non s1) = .ok (.bl (y.cov a b)) (s ++ u) := by
  obtain ⟨d, s', e, ⟨t, rfl⟩, h⟩ := (law_uncovered_ok hy ha hb s).ok
  refine ⟨t, ?_⟩
  rw [e]
  rcases h with ⟨rfl, h⟩ | ⟨w, rfl, h, _⟩
  · simp [Sys.cov, h]
  · simp [Sys.cov, h, logD]
theorem law_coverage_ok {y : Sys} (hy : y.Ok) (s : S) : wp (m__law_coverage [y.D] s) fun d s' => d = y.covD ∧ ∃ t, s' = s ++ t := by
  have h6 := hy.o6
  unfold m__law_coverage
  rw [mFn_eq, wp_fin]
  simp only [initE, List.length_cons, List.length_nil, Nat.reduceAdd, Nat.reduceSub, List.map_cons, List.map_nil, List.replicate_succ, List.replicate_zero, List.cons_append, List.nil_append, mSeq_eq, mAsg_eq, mLstO_eq, mNil_eq, R.bnd_ok, Nat.zero_le, LIM_eq, if_true, gN_eq, List.set_cons_succ, List.set_cons_zero, seqF_nx, mFor_eq, mRng1_bnd, mCall_eq, mCons_eq, mBin_eq, mVar_eq, get_0, vg_some, mC_eq, ix_ops, fLen_tup, List.length_map]
  rw [rng1F_ok _ (by omega), rngD_nD]
  simp only [Int.toNat_natCast, R.bnd_ok, forF_fix, wp_bnd]
  refine wp_each (f := nD) (fun pre ρ s' => ∃ x2 x3 x4 u, ρ = [some y.D, some (.obj s.length), x2, x3, x4] ∧ s' = s ++ .lst (pre.map y.rowD) :: u) _ _ _ ⟨_, _, _, [], rfl, by simp⟩ ?_ ?_
  · rintro pre a rest ρ s' he ⟨x2, x3, x4, u, rfl, rfl⟩
    have ha : a < y.ops.length := List.mem_range.1 (by rw [he]; simp)
    have hpl : pre.length < 7 := by
      have := congrArg List.length he
      simp at this
      omega
    simp only [gN_eq, wp_ok, List.set_cons_succ, List.set_cons_zero, mSeq_eq, mAsg_eq, mLcF_eq, mRng1_bnd, mCall_eq, mCons_eq, mBin_eq, mVar_eq, get_0, vg_some, mC_eq, ix_ops, R.bnd_ok, mNil_eq, fLen_tup, List.length_map]
    rw [rng1F_ok _ (by omega), rngD_nD]
    simp only [Int.toNat_natCast, R.bnd_ok]
    rw [lcF_fix (by simp; omega) rfl]
    obtain ⟨v, hv⟩ := llc_up (f := nD) (t := .one 4) (el := mBin opIsN (mUser m__law_uncovered (mCons (mVar 0) (mCons (mVar 2) (mCons (mVar 4) mNil)))) (mC .non)) (ρw := wipeD [some y.D, some (.obj s.length), some (nD a), x3, x4] [4]) (g := fun b => .bl (y.cov a b)) (List.range y.ops.length) [] (s ++ .lst (pre.map y.rowD) :: u)
      fun b hb s' => by
        obtain ⟨w, hw⟩ := isN_unc hy ha (List.mem_range.1 hb) (s ++ .lst (pre.map y.rowD) :: u ++ s')
        refine ⟨_, w, rfl, ?_⟩
        simp only [wipeD, mBin_eq, mUser_eq, mCons_eq, mVar_eq, List.set_cons_succ, List.set_cons_zero, get_0, List.getElem?_cons_succ, vg_some, R.bnd_ok, mNil_eq, mC_eq]
        obtain ⟨d, s2, e, _⟩ := (law_uncovered_ok hy ha (List.mem_range.1 hb) (s ++ .lst (pre.map y.rowD) :: u ++ s')).ok
        rw [e] at hw ⊢
        exact hw
    rw [hv]
    have gH := getH s (.lst (pre.map y.rowD)) (u ++ v)
    have o1 : isLstO (s ++ .lst (pre.map y.rowD) :: (u ++ v)) (.obj s.length) = true := isLstO_obj gH
    have a1 := fAppend_obj gH (by simp; omega) (y.rowD a)
    rw [setH] at a1
    simp only [R.bnd_ok, finL_eq, List.nil_append, gN_eq, List.set_cons_succ, List.set_cons_zero, seqF_nx, mDrop_eq, mAppend_eq, mVar_eq, get_0, List.getElem?_cons_succ, vg_some, List.append_assoc, List.cons_append, o1, if_true, mCall_eq, mCons_eq, mNil_eq, fTuple_lst]
    rw [← rowD_eq, a1]
    simp only [R.bnd_ok, wp_ok, turnQ_nx]
    exact ⟨_, _, _, u ++ v, rfl, by simp⟩
  · rintro ρ s' ⟨x2, x3, x4, u, rfl, rfl⟩
    simp only [seqF_nx, mRet_eq, mCall_eq, mCons_eq, mVar_eq, get_0, List.getElem?_cons_succ, vg_some, R.bnd_ok, mNil_eq, fTuple_obj _ (getH ..), wp_ok, endQ_ret]
    exact ⟨rfl, _, rfl⟩
theorem law_coverage_eq {y : Sys} (hy : y.Ok) (s : S) : m__law_coverage [y.D] s = .ok y.covD (s ++ gar m__law_coverage [y.D] s) := eq_gar (law_coverage_ok hy s)
theorem fine_cov {y : Sys} (hy : y.Ok) : Fine 2 42 y.covD := by
  have h6 := hy.o6
  have := fine_tup (k := 1) (n := 6) (ds := (List.range y.ops.length).map y.rowD) fun d hd => by
    obtain ⟨a, _, rfl⟩ := List.mem_map.1 hd
    have := fine_tup (k := 0) (n := 0) (ds := (y.rowC a).map VL.D.bl) fun d hd => by
      obtain ⟨b, _, rfl⟩ := List.mem_map.1 hd
      exact fine_bl ..
    exact this.mono (Nat.le_refl _) (by simp [Sys.rowC]; omega)
  refine this.mono (Nat.le_refl _) ?_
  simp only [List.length_map, List.length_range]
  omega
end VL
namespace VL
open PySem PySem.Spec PyProof.Rows L2

/-! ### thinned logs -/
noncomputable def thinP (y : Sys) : List Nat → Nat → List Nat → Bool := fun _ e rest => !(rest.any fun x => y.cov e x)
noncomputable def Sys.thin (y : Sys) (l : List Nat) : List Nat := pickL (thinP y) [] l
theorem thin_sub (y : Sys) {l : List Nat} {x : Nat} (h : x ∈ y.thin l) : x ∈ l := pickL_sub _ _ _ _ h
theorem thin_len (y : Sys) (l : List Nat) : (y.thin l).length ≤ l.length := pickL_len _ _ _
theorem thin_ok {y : Sys} {c : Nat} {l : List Nat} (h : LogOk y c l) : LogOk y c (y.thin l) := ⟨Nat.le_trans (thin_len y l) h.1, fun x hx => h.2 x (thin_sub y hx)⟩
theorem ix_cov {y : Sys} {a : Nat} (ha : a < y.ops.length) (s : S) : opIx y.covD (.int (a : Int)) s = .ok (y.rowD a) s := by simp [Sys.covD, ha]
theorem ix_row {y : Sys} {a b : Nat} (hb : b < y.ops.length) (s : S) : opIx (y.rowD a) (.int (b : Int)) s = .ok (.bl (y.cov a b)) s := by simp [rowD_eq, hb]
theorem cut_rest {l pre rest : List Nat} {e : Nat} (hl : l = pre ++ e :: rest) : (l.map nD).drop (pre.length + 1) = rest.map nD := by
  rw [show l.map nD = (pre.map nD ++ [nD e]) ++ rest.map nD by rw [hl]; simp, List.drop_left' (by simp)]
theorem thinned_log_ok {y : Sys} (hy : y.Ok) {l : List Nat} (hn : l.length ≤ 1000) (hx : ∀ x ∈ l, x < y.ops.length) (s : S) : m_thinned_log [y.D, logD l] s = .ok (logD (y.thin l)) (s ++ gar m_coverage_of [y.D] s) := by
  unfold m_thinned_log
  rw [mFn_eq]
  have hl2 : (enumK 0 l).length ≤ 1000000 := by simp [enumK]; omega
  have hi : initE 6 [y.D, logD l] = [some y.D, some (.tup (l.map nD)), none, none, none, none] := rfl
  rw [hi]
  generalize hs1 : s ++ gar m_coverage_of [y.D] s = s1
  have cq : m_coverage_of [y.D] s = .ok y.covD s1 := by rw [← hs1]; exact coverage_of_eq hy s
  have e := llc_pick (t := .many [3, 4]) (tt := mNotT (mB (mCall fAny (mCons (mLc (mSrc (mSl (mVar 1) (mPart (mBin opAdd (mVar 3) (mC (.int 1)))) mNo)) (.one 5) mYes (mBin opIx (mBin opIx (mVar 2) (mVar 4)) (mVar 5)) [5]) mNil)))) (el := mVar 4) (ρw := [some y.D, some (.tup (l.map nD)), some y.covD, none, none, none]) (s := s1) (l := l) (p := thinP y) (fun pre e rest hl => by
    have he : e < y.ops.length := hx e (by rw [hl]; simp)
    have hr : ∀ x ∈ rest, x < y.ops.length := fun x hx2 => hx x (by rw [hl]; simp [hx2])
    have g2 : (pre.length : Int) + 1 = ((pre.length + 1 : Nat) : Int) := by omega
    have hrl : rest.length ≤ 1000000 := by rw [hl] at hn; simp at hn; omega
    refine ⟨_, rfl, ?_, ?_⟩
    · simp only [setAll, List.set_cons_succ, List.set_cons_zero, mNotT_eq, mB_eq, mCall_eq, mCons_eq, mLcF_eq, mSrc_eq, mSl_eq, mVar_eq, get_0, List.getElem?_cons_succ, vg_some, R.bnd_ok, mPart_eq, mBin_eq, mC_eq, opAdd_int, mNo_eq, opSl_tup, g2, cut_from, cut_rest hl, srcF_tup]
      rw [lcF_fix (by simp; omega) rfl, llc_map (g := fun x => .bl (y.cov e x)) _ _ (fun x hx2 => ⟨_, rfl, ?_⟩)]
      · rw [show (rest.map fun x => D.bl (y.cov e x)) = (rest.map fun x => y.cov e x).map D.bl by simp [Function.comp_def]]
        simp only [R.bnd_ok, finL_eq, mNil_eq, List.nil_append, fAny_lst, asB_ok, thinP]
        congr 2
        simp [List.any_map, Function.comp_def]
      · have i1 := fun s => ix_cov (y := y) he s
        have i2 := fun s => ix_row (y := y) (a := e) (hr x hx2) s
        simp only [wipeD, List.set_cons_succ, List.set_cons_zero, mBin_eq, mVar_eq, nD, get_0, List.getElem?_cons_succ, vg_some, R.bnd_ok, i1, i2]
    · simp [setAll]) l [] [] rfl
  simp only [List.length_nil, List.nil_append] at e
  simp only [mSeq_eq, mAsg_eq, mUser_eq, mCons_eq, mVar_eq, get_0, List.getElem?_cons_succ, vg_some, R.bnd_ok, mNil_eq, cq, retag_ok, gN_eq, List.set_cons_succ, List.set_cons_zero, seqF_nx, mRet_eq, mCall_eq, mLcF_eq, mEnum_eq, enumF_tup, enumD_nD]
  rw [lcF_fix hl2 rfl]
  simp only [wipeD, List.set_cons_succ, List.set_cons_zero, e, R.bnd_ok, finL_eq, fTuple_lst]
  rfl
theorem thinned_eq {y : Sys} (hy : y.Ok) {l : List Nat} (hn : l.length ≤ 1000) (hx : ∀ x ∈ l, x < y.ops.length) (s : S) : m_thinned [y.D, logD l] s = .ok (logD (y.thin l)) (s ++ gar m_coverage_of [y.D] s) := by
  unfold m_thinned
  rw [mFn_eq]
  simp [initE, need_system_ok hy, need_log_ok hy hn hx, thinned_log_ok hy hn hx]
end VL
namespace VL
open PySem PySem.Spec PyProof.Rows L2

/-! ### the greatest right kinds: the mathematics -/
theorem cov_trans {y : Sys} (hy : y.Ok) {a b c : Nat} (ha : a < y.ops.length) (h1 : y.Cov a b) (h2 : y.Cov b c) : y.Cov a c := by
  intro st hst w hw
  have e1 := h2 (y.step st a) (reach_step hy hst ha) w hw
  have e2 : y.step (y.step st a) b = y.step st b := h1 st hst [] (fun _ z => nomatch z)
  have e3 := h2 st hst w hw
  rw [← e1, e2, e3]
noncomputable def Sys.mu (y : Sys) (a b : Nat) : Bool := y.cov a b && y.cov b a
theorem mu_iff {y : Sys} {a b : Nat} : y.mu a b = true ↔ y.Cov a b ∧ y.Cov b a := by simp [Sys.mu, Sys.cov]
theorem mu_symm {y : Sys} {a b : Nat} (h : y.mu a b = true) : y.mu b a = true := mu_iff.2 (mu_iff.1 h).symm
theorem mu_trans {y : Sys} (hy : y.Ok) {a b c : Nat} (ha : a < y.ops.length) (hc : c < y.ops.length) (h1 : y.mu a b = true) (h2 : y.mu b c = true) : y.mu a c = true := by
  obtain ⟨a1, a2⟩ := mu_iff.1 h1
  obtain ⟨b1, b2⟩ := mu_iff.1 h2
  exact mu_iff.2 ⟨cov_trans hy ha a1 b1, cov_trans hy hc b2 a2⟩
/-- as the law makes them: kinds, heads -/
noncomputable def ownL (y : Sys) (hs : List Nat) (n : Nat) : List Nat := (List.range hs.length).filter fun i => y.mu n (hs.getD i 0)
noncomputable def lst1 (y : Sys) (p : List (Option Nat) × List Nat) (n : Nat) : List (Option Nat) × List Nat :=
  if ownL y p.2 n = [] ∧ y.cov n n = true then (p.1 ++ [some p.2.length], p.2 ++ [n]) else (p.1 ++ [(ownL y p.2 n).head?], p.2)
noncomputable def lstN (y : Sys) : Nat → List (Option Nat) × List Nat
  | 0 => ([], [])
  | n + 1 => lst1 y (lstN y n) n
/-- as the program makes them: kinds, how many -/
noncomputable def alikeL (y : Sys) (n : Nat) : List Nat := (List.range n).filter fun o => y.mu n o
noncomputable def prg1 (y : Sys) (p : List (Option Nat) × Nat) (n : Nat) : List (Option Nat) × Nat :=
  match alikeL y n with
  | o :: _ => (p.1 ++ [p.1.getD o none], p.2)
  | [] => if y.cov n n = true then (p.1 ++ [some p.2], p.2 + 1) else (p.1 ++ [none], p.2)
noncomputable def prgN (y : Sys) : Nat → List (Option Nat) × Nat
  | 0 => ([], 0)
  | n + 1 => prg1 y (prgN y n) n
structure BI (y : Sys) (n : Nat) (ks : List (Option Nat)) (hs : List Nat) : Prop where
  kl : ks.length = n
  hl : hs.length ≤ n
  hh : ∀ h ∈ hs, h < n ∧ y.cov h h = true
  dis : ∀ i j h h' : Nat, hs[i]? = some h → hs[j]? = some h' → y.mu h h' = true → i = j
  iff : ∀ o k : Nat, o < n → (ks[o]? = some (some k) ↔ ∃ h, hs[k]? = some h ∧ y.mu o h = true)
  all : ∀ o : Nat, o < n → y.cov o o = true → ∃ (k : Nat) (h : Nat), hs[k]? = some h ∧ y.mu o h = true
theorem own_mem {y : Sys} {hs : List Nat} {n i : Nat} : i ∈ ownL y hs n ↔ ∃ h, hs[i]? = some h ∧ y.mu n h = true := by
  unfold ownL
  rw [List.mem_filter, List.mem_range]
  constructor
  · rintro ⟨h1, h2⟩
    refine ⟨hs[i], List.getElem?_eq_getElem h1, ?_⟩
    rwa [List.getD_eq_getElem?_getD, List.getElem?_eq_getElem h1, Option.getD_some] at h2
  · rintro ⟨h, h1, h2⟩
    obtain ⟨h3, h4⟩ := List.getElem?_eq_some_iff.1 h1
    refine ⟨h3, ?_⟩
    rw [List.getD_eq_getElem?_getD, h1, Option.getD_some]
    exact h2
theorem BI.head {y : Sys} (hy : y.Ok) {n : Nat} {ks : List (Option Nat)} {hs : List Nat} (hn : n < y.ops.length) (B : BI y n ks hs) {k : Nat} (hk : k ∈ ownL y hs n) : (ownL y hs n).head? = some k := by
  cases hl : ownL y hs n with
  | nil => rw [hl] at hk; cases hk
  | cons k' r =>
    have hk' : k' ∈ ownL y hs n := by rw [hl]; simp
    obtain ⟨h, h1, h2⟩ := own_mem.1 hk
    obtain ⟨h', h1', h2'⟩ := own_mem.1 hk'
    have b1 := (B.hh h (List.mem_of_getElem? h1)).1
    have b2 := (B.hh h' (List.mem_of_getElem? h1')).1
    have := B.dis k k' h h' h1 h1' (mu_trans hy (by omega) (by omega) (mu_symm h2) h2')
    rw [this]
    rfl
theorem BI.step {y : Sys} (hy : y.Ok) {n : Nat} {ks : List (Option Nat)} {hs : List Nat} (hn : n < y.ops.length) (B : BI y n ks hs) : prg1 y (ks, hs.length) n = ((lst1 y (ks, hs) n).1, (lst1 y (ks, hs) n).2.length) ∧ BI y (n + 1) (lst1 y (ks, hs) n).1 (lst1 y (ks, hs) n).2 := by
  have hne : ∀ o, o < n → y.mu n o = true → ownL y hs n ≠ [] := fun o ho hm => by
    have hoo : y.cov o o = true := by
      have := mu_iff.1 (mu_trans hy (a := o) (c := o) (by omega) (by omega) (mu_symm hm) hm)
      simp [Sys.cov, this.1]
    obtain ⟨k, h, h1, h2⟩ := B.all o ho hoo
    have b1 := (B.hh h (List.mem_of_getElem? h1)).1
    exact List.ne_nil_of_mem (own_mem.2 ⟨h, h1, mu_trans hy hn (by omega) hm h2⟩)
  have hal : ownL y hs n ≠ [] → ∃ k h, k ∈ ownL y hs n ∧ hs[k]? = some h ∧ h < n ∧ y.mu n h = true := fun h => by
    obtain ⟨k, hk⟩ := List.exists_mem_of_ne_nil _ h
    obtain ⟨h, h1, h2⟩ := own_mem.1 hk
    exact ⟨k, h, hk, h1, (B.hh h (List.mem_of_getElem? h1)).1, h2⟩
  constructor
  · unfold prg1
    cases hA : alikeL y n with
    | nil =>
      have hown : ownL y hs n = [] := Classical.byContradiction fun z => by
        obtain ⟨k, h, hk, h1, h2, h3⟩ := hal z
        have : h ∈ alikeL y n := List.mem_filter.2 ⟨List.mem_range.2 h2, h3⟩
        rw [hA] at this
        cases this
      simp only [lst1, hown, true_and, List.head?_nil]
      by_cases hc : y.cov n n = true
      · simp [hc]
      · simp [hc]
    | cons o r =>
      have ho : o ∈ alikeL y n := by rw [hA]; simp
      obtain ⟨o1, o2⟩ := List.mem_filter.1 ho
      have o1 := List.mem_range.1 o1
      have hz := hne o o1 o2
      have hoo : y.cov o o = true := by
        have := mu_iff.1 (mu_trans hy (a := o) (c := o) (by omega) (by omega) (mu_symm o2) o2)
        simp [Sys.cov, this.1]
      obtain ⟨k, h, h1, h2⟩ := B.all o o1 hoo
      have b1 := (B.hh h (List.mem_of_getElem? h1)).1
      have hk : k ∈ ownL y hs n := own_mem.2 ⟨h, h1, mu_trans hy hn (by omega) o2 h2⟩
      have e1 : ks[o]? = some (some k) := (B.iff o k o1).2 ⟨h, h1, h2⟩
      simp only [lst1, hz, false_and, if_false, B.head hy hn hk, List.getD_eq_getElem?_getD, e1, Option.getD_some]
  · unfold lst1
    by_cases hc : ownL y hs n = [] ∧ y.cov n n = true
    · rw [if_pos hc]
      have hno : ∀ o, o < n → y.mu o n = true → False := fun o ho hm => hne o ho (mu_symm hm) hc.1
      have hnn : y.mu n n = true := by simp [Sys.mu, hc.2]
      have hget : ∀ (k h : Nat), (hs ++ [n])[k]? = some h → (hs[k]? = some h ∧ k < hs.length) ∨ (k = hs.length ∧ h = n) := fun k h e => by
        by_cases hk : k < hs.length
        · rw [List.getElem?_append_left hk] at e
          exact .inl ⟨e, hk⟩
        · have hk2 : k < (hs ++ [n]).length := (List.getElem?_eq_some_iff.1 e).1
          rw [List.length_append, List.length_singleton] at hk2
          have : k = hs.length := by omega
          subst this
          simp at e
          exact .inr ⟨rfl, e.symm⟩
      refine ⟨by simp [B.kl], by have := B.hl; simp; omega, fun h hh => ?_, fun i j h h' h1 h2 hm => ?_, fun o k ho => ?_, fun o ho hco => ?_⟩
      · rcases List.mem_append.1 hh with hh | hh
        · obtain ⟨a, b⟩ := B.hh h hh
          exact ⟨by omega, b⟩
        · rw [List.mem_singleton.1 hh]
          exact ⟨Nat.lt_succ_self _, hc.2⟩
      · rcases hget i h h1 with ⟨a, _⟩ | ⟨a, rfl⟩
        · rcases hget j h' h2 with ⟨b, _⟩ | ⟨b, rfl⟩
          · exact B.dis i j h h' a b hm
          · exact (hno h (B.hh h (List.mem_of_getElem? a)).1 hm).elim
        · rcases hget j h' h2 with ⟨b, _⟩ | ⟨b, rfl⟩
          · exact (hno h' (B.hh h' (List.mem_of_getElem? b)).1 (mu_symm hm)).elim
          · omega
      · by_cases e : o = n
        · subst e
          have hk : (ks ++ [some hs.length])[o]? = some (some hs.length) := by rw [← B.kl]; simp
          rw [hk]
          constructor
          · intro z
            have : k = hs.length := by simpa using z.symm
            subst this
            exact ⟨o, by simp, hnn⟩
          · rintro ⟨h, h1, h2⟩
            rcases hget k h h1 with ⟨a, _⟩ | ⟨a, rfl⟩
            · exact (hno h (B.hh h (List.mem_of_getElem? a)).1 (mu_symm h2)).elim
            · rw [a]
        · have ho' : o < n := by omega
          rw [List.getElem?_append_left (by rw [B.kl]; exact ho'), B.iff o k ho']
          constructor
          · rintro ⟨h, h1, h2⟩
            exact ⟨h, by rw [List.getElem?_append_left (List.getElem?_eq_some_iff.1 h1).1]; exact h1, h2⟩
          · rintro ⟨h, h1, h2⟩
            rcases hget k h h1 with ⟨a, _⟩ | ⟨a, rfl⟩
            · exact ⟨h, a, h2⟩
            · exact (hno o ho' h2).elim
      · by_cases e : o = n
        · subst e
          exact ⟨hs.length, o, by simp, hnn⟩
        · obtain ⟨k, h, h1, h2⟩ := B.all o (by omega) hco
          exact ⟨k, h, by rw [List.getElem?_append_left (List.getElem?_eq_some_iff.1 h1).1]; exact h1, h2⟩
    · rw [if_neg hc]
      refine ⟨by simp [B.kl], by have := B.hl; simp; omega, fun h hh => ?_, B.dis, fun o k ho => ?_, fun o ho hco => ?_⟩
      · obtain ⟨a, b⟩ := B.hh h hh
        exact ⟨by omega, b⟩
      · by_cases e : o = n
        · subst e
          have hk : (ks ++ [(ownL y hs o).head?])[o]? = some (ownL y hs o).head? := by
            have : o = ks.length := B.kl.symm
            rw [List.getElem?_append_right (by omega), this]
            simp
          rw [hk, ← own_mem]
          constructor
          · intro z
            exact List.mem_of_mem_head? (Option.some.inj z)
          · intro z
            rw [B.head hy hn z]
        · have ho' : o < n := by omega
          rw [List.getElem?_append_left (by rw [B.kl]; exact ho'), B.iff o k ho']
      · by_cases e : o = n
        · subst e
          have hz : ownL y hs o ≠ [] := fun z => hc ⟨z, hco⟩
          obtain ⟨k, h, hk, h1, h2, h3⟩ := hal hz
          exact ⟨k, h, h1, h3⟩
        · exact B.all o (by omega) hco
theorem best_both {y : Sys} (hy : y.Ok) : ∀ n, n ≤ y.ops.length → prgN y n = ((lstN y n).1, (lstN y n).2.length) ∧ BI y n (lstN y n).1 (lstN y n).2
  | 0, _ => ⟨rfl, ⟨rfl, Nat.le_refl _, (fun _ z => nomatch z), (fun i j h h' z => by simp [lstN] at z), (fun o k z => by omega), (fun o z => by omega)⟩⟩
  | n + 1, h => by
    obtain ⟨h1, h2⟩ := best_both hy n (by omega)
    have h3 := h2.step hy (by omega)
    refine ⟨?_, h3.2⟩
    show prg1 y (prgN y n) n = _
    rw [h1]
    exact h3.1
noncomputable def Sys.best (y : Sys) : List (Option Nat) := (lstN y y.ops.length).1
end VL
namespace VL
open PySem PySem.Spec PyProof.Rows L2

/-! ### the greatest right kinds: the program -/
theorem opEq_nl (f : Bool → Bool) (l : List Nat) (s : S) : opEqF f (.lst (l.map nD)) (.lst []) s = .ok (.bl (f (decide (l = [])))) s := by
  rw [opEqF_py (p := .list (pyL l)) (q := .list []) s (by simp only [toPyS, toPy, toPys_log, Option.map_some]) rfl (shaped_log l).2 rfl rfl]
  congr 3
  cases l <;> simp [PyData.eqv, PyData.eqvAll, pyL]
theorem enumD_range (n : Nat) (g : Nat → D) : enumD ((List.range n).map g) = (List.range n).map fun k => .tup [.int (k : Nat), g k] := by
  apply List.ext_getElem?
  intro i
  rw [enumD_get, List.getElem?_map, List.getElem?_map]
  by_cases h : i < n
  · rw [List.getElem?_range h]; rfl
  · rw [List.getElem?_eq_none (by simp; omega)]; rfl
theorem range_at {n : Nat} {pre rest : List Nat} {x : Nat} (h : List.range n = pre ++ x :: rest) : x = pre.length ∧ x < n := by
  have h1 : (List.range n)[pre.length]? = some x := by rw [h]; simp
  obtain ⟨h2, h3⟩ := List.getElem?_eq_some_iff.1 h1
  rw [List.getElem_range] at h3
  rw [List.length_range] at h2
  exact ⟨h3.symm, by omega⟩
noncomputable def Sys.bestD (y : Sys) : VL.D := VL.D.tup (y.best.map kD)
theorem prg_len (y : Sys) : ∀ n, (prgN y n).1.length = n
  | 0 => rfl
  | n + 1 => by
    show (prg1 y (prgN y n) n).1.length = n + 1
    unfold prg1
    split
    · simp [prg_len y n]
    · split <;> simp [prg_len y n]
theorem prg_le (y : Sys) : ∀ n, (prgN y n).2 ≤ n
  | 0 => Nat.le_refl _
  | n + 1 => by
    have := prg_le y n
    show (prg1 y (prgN y n) n).2 ≤ n + 1
    unfold prg1
    split
    · simp; omega
    · split <;> simp <;> omega
theorem best_of_ok {y : Sys} (hy : y.Ok) (s : S) : wp (m_best_of [y.D] s) fun d s' => d = y.bestD ∧ ∃ t, s' = s ++ t := by
  have h6 := hy.o6
  unfold m_best_of
  rw [mFn_eq, wp_fin]
  have hi : initE 8 [y.D] = [some y.D, none, none, none, none, none, none, none] := rfl
  rw [hi]
  generalize hs1 : s ++ gar m_coverage_of [y.D] s = s1
  have cq : m_coverage_of [y.D] s = .ok y.covD s1 := by rw [← hs1]; exact coverage_of_eq hy s
  have hst : ∃ v, s1 = s ++ v := ⟨_, hs1.symm⟩
  simp only [mSeq_eq, mAsg_eq, mUser_eq, mCons_eq, mVar_eq, get_0, List.getElem?_cons_succ, vg_some, R.bnd_ok, mNil_eq, cq, retag_ok, gN_eq, List.set_cons_succ, List.set_cons_zero, seqF_nx, mPar_eq, mLstO_eq, List.length_nil, Nat.zero_le, LIM_eq, if_true, mC_eq, mFor_eq, mEnum_eq]
  have en : enumF [y.covD] (s1 ++ [.lst []]) = .ok (.fix ((List.range y.ops.length).map fun k => .tup [.int (k : Nat), y.rowD k])) (s1 ++ [.lst []]) := by
    unfold Sys.covD
    rw [enumF_tup, enumD_range]
  rw [en]
  simp only [R.bnd_ok, forF_fix, wp_bnd]
  refine wp_each (f := fun k => .tup [.int (k : Nat), y.rowD k]) (fun pre ρ s' => ∃ x4 x5 x6 x7, s' = s1 ++ [.lst ((prgN y pre.length).1.map kD)] ∧ ρ = [some y.D, some y.covD, some (.obj s1.length), some (.int ((prgN y pre.length).2 : Int)), x4, x5, x6, x7]) _ _ _ ⟨_, _, _, _, rfl, rfl⟩ ?_ ?_
  · rintro pre k rest ρ s' he ⟨x4, x5, x6, x7, rfl, rfl⟩
    obtain ⟨ek, hk⟩ := range_at he
    rw [List.length_append, List.length_singleton]
    have e1 : prgN y (pre.length + 1) = prg1 y (prgN y pre.length) pre.length := rfl
    rw [e1, ← ek]
    have pl := prg_len y k
    have ple := prg_le y k
    generalize prgN y k = pk at pl ple
    obtain ⟨ks, m⟩ := pk
    simp only at pl ple
    have gW : (s1 ++ [O.lst (ks.map kD)])[s1.length]? = some (.lst (ks.map kD)) := by simp
    have sW : ∀ z : O, (s1 ++ [O.lst (ks.map kD)]).set s1.length z = s1 ++ [z] := fun z => by rw [List.set_append_right _ _ (Nat.le_refl _)]; simp
    generalize hs2 : s1 ++ [O.lst (ks.map kD)] = s2 at gW sW
    have hO : isLstO s2 (.obj s1.length) = true := isLstO_obj gW
    have hA := fun d => fAppend_obj gW (by simp; omega) d
    simp only [sW] at hA
    have tgt : ∀ ρ s, (gT 2 (gConsM (gN 4) (gConsM (gN 5) gNilM))) (.tup [.int (k : Nat), y.rowD k]) ρ s = .ok ((ρ.set 4 (some (.int (k : Nat)))).set 5 (some (y.rowD k))) s := fun ρ s => by simp
    have comp : ∀ x6 x7, lcF finL (.one 7) (mAndT (mB (mBin opIx (mVar 5) (mVar 7))) (mB (mBin opIx (mBin opIx (mVar 1) (mVar 7)) (mVar 4)))) (mVar 7) [7] [some y.D, some y.covD, some (.obj s1.length), some (.int (m : Int)), some (.int (k : Nat)), some (y.rowD k), x6, x7] (.fix ((List.range k).map nD)) s2 = .ok (.lst ((alikeL y k).map nD)) s2 := fun x6 x7 => by
      rw [lcF_fix (by simp; omega) rfl, llc_filt (p := fun o => y.mu k o) (g := nD) _ _ (fun o ho => ⟨_, rfl, ?_, fun _ => ?_⟩)]
      · rfl
      · have ho := List.mem_range.1 ho
        have j1 := fun s => ix_row (y := y) (a := k) (b := o) (by omega) s
        have j2 := fun s => ix_cov (y := y) (a := o) (by omega) s
        have j3 := fun s => ix_row (y := y) (a := o) (b := k) hk s
        simp only [wipeD, List.set_cons_succ, List.set_cons_zero, mAndT_eq, mB_eq, mBin_eq, mVar_eq, nD, get_0, List.getElem?_cons_succ, vg_some, R.bnd_ok, j1, j2, j3, asB_ok]
        cases h : y.cov k o <;> simp [Sys.mu, h]
      · simp [wipeD]
    simp only [tgt, wp_ok, List.set_cons_succ, List.set_cons_zero, mSeq_eq, mAsg_eq, mLcF_eq, mRng1_bnd, mCons_eq, mVar_eq, get_0, List.getElem?_cons_succ, vg_some, R.bnd_ok, mNil_eq]
    rw [rng1F_ok _ (by omega), rngD_nD]
    simp only [Int.toNat_natCast, R.bnd_ok, comp, gN_eq, List.set_cons_succ, List.set_cons_zero, seqF_nx, mIfS_eq, mB_eq, mBin_eq, mVar_eq, get_0, List.getElem?_cons_succ, vg_some, mLst_eq, mNil_eq, List.length_nil, Nat.zero_le, LIM_eq, if_true]
    rw [show opNe (.lst ((alikeL y k).map nD)) (.lst []) s2 = _ from opEq_nl (fun b => !b) _ _]
    simp only [R.bnd_ok, asB_ok]
    unfold prg1
    cases hA2 : alikeL y k with
    | cons o r =>
      have ho : o < k := List.mem_range.1 (List.mem_filter.1 (show o ∈ alikeL y k by rw [hA2]; simp)).1
      have i1 : ∀ s : S, opIx (.lst ((o :: r).map nD)) (.int 0) s = .ok (.int (o : Nat)) s := fun s => by simp [nD]
      have i2 : opIx (.obj s1.length) (.int (o : Nat)) s2 = .ok (kD (ks.getD o none)) s2 := by
        rw [opIx_obj _ gW, atI_nat', List.getElem?_map, List.getElem?_eq_getElem (by omega), List.getD_eq_getElem?_getD, List.getElem?_eq_getElem (by omega)]
        rfl
      simp only [reduceCtorEq, decide_false, Bool.not_false, if_true, mDrop_eq, mAppend_eq, mVar_eq, get_0, List.getElem?_cons_succ, vg_some, R.bnd_ok, hO, mBin_eq, mC_eq, i1, i2, hA, wp_ok, turnQ_nx]
      exact ⟨_, _, _, _, by simp, rfl⟩
    | nil =>
      have j1 := fun s => ix_row (y := y) (a := k) (b := k) hk s
      simp only [decide_true, Bool.not_true, Bool.false_eq_true, if_false, mIfS_eq, mB_eq, mBin_eq, mVar_eq, get_0, List.getElem?_cons_succ, vg_some, R.bnd_ok, j1, asB_ok]
      cases hc : y.cov k k with
      | true =>
        have aug : ∀ x6 x7 : Option D, ∀ s : S, mAugAdd 3 (mC (.int 1)) [some y.D, some y.covD, some (.obj s1.length), some (.int (m : Int)), some (.int (k : Nat)), some (y.rowD k), x6, x7] s = .ok (.nx [some y.D, some y.covD, some (.obj s1.length), some (.int (m + 1 : Nat)), some (.int (k : Nat)), some (y.rowD k), x6, x7]) s := fun _ _ _ => rfl
        simp only [if_true, mSeq_eq, mDrop_eq, mAppend_eq, mVar_eq, get_0, List.getElem?_cons_succ, vg_some, R.bnd_ok, hO, hA, seqF_nx, aug, wp_ok, turnQ_nx]
        exact ⟨_, _, _, _, by simp [kD], rfl⟩
      | false =>
        simp only [Bool.false_eq_true, if_false, mDrop_eq, mAppend_eq, mVar_eq, mC_eq, get_0, List.getElem?_cons_succ, vg_some, R.bnd_ok, hO, if_true, hA, wp_ok, turnQ_nx]
        exact ⟨_, _, _, _, by simp [kD], rfl⟩
  · rintro ρ s' ⟨x4, x5, x6, x7, rfl, rfl⟩
    have hg : (s1 ++ [O.lst ((prgN y (List.range y.ops.length).length).1.map kD)])[s1.length]? = some (.lst ((prgN y (List.range y.ops.length).length).1.map kD)) := by simp
    obtain ⟨v, rfl⟩ := hst
    simp only [seqF_nx, mRet_eq, mCall_eq, mCons_eq, mVar_eq, get_0, List.getElem?_cons_succ, vg_some, R.bnd_ok, mNil_eq, fTuple_obj _ hg, wp_ok, endQ_ret]
    refine ⟨?_, _, List.append_assoc ..⟩
    rw [List.length_range, (best_both hy _ (Nat.le_refl _)).1]
    rfl
theorem best_of_eq {y : Sys} (hy : y.Ok) (s : S) : m_best_of [y.D] s = .ok y.bestD (s ++ gar m_best_of [y.D] s) := eq_gar (best_of_ok hy s)
theorem best_kinds_eq {y : Sys} (hy : y.Ok) (s : S) : m_best_kinds [y.D] s = .ok y.bestD (s ++ gar m_best_of [y.D] s) := by
  unfold m_best_kinds
  rw [mFn_eq]
  simp [initE, need_system_ok hy, best_of_eq hy]
theorem best_kd {y : Sys} (hy : y.Ok) : ∀ k ∈ y.best, ∀ n, k = some n → n ≤ 9 := by
  intro k hk n e
  subst e
  have h6 := hy.o6
  have B := (best_both hy _ (Nat.le_refl _)).2
  obtain ⟨o, ho, eo⟩ := List.getElem_of_mem hk
  have hol : o < y.ops.length := by rw [← B.kl]; exact ho
  obtain ⟨h, h1, _⟩ := (B.iff o n hol).1 (by rw [← eo]; exact List.getElem?_eq_getElem ho)
  have := (List.getElem?_eq_some_iff.1 h1).1
  have := B.hl
  omega
theorem fine_best {y : Sys} (hy : y.Ok) : Fine 1 6 y.bestD := by
  have h6 := hy.o6
  have B := (best_both hy _ (Nat.le_refl _)).2
  have := fine_tup (k := 0) (n := 0) (ds := y.best.map kD) fun d hd => by
    obtain ⟨k, hk, rfl⟩ := List.mem_map.1 hd
    exact fine_kD _ _ (best_kd hy k hk)
  refine this.mono (Nat.le_refl _) ?_
  have : y.best.length = y.ops.length := B.kl
  simp [this]
  omega
end VL
namespace VL
open PySem PySem.Spec PyProof.Rows L2

/-! ### the program's search by levels: the mathematics -/
def ltN : List Nat → List Nat → Bool
  | [], [] => false
  | [], _ :: _ => true
  | _ :: _, [] => false
  | a :: as, b :: bs => if a = b then ltN as bs else decide (a < b)
theorem ltN_iff : ∀ {a b : List Nat}, a.length = b.length → (ltN a b = true ↔ LexLt a b)
  | [], [], _ => ⟨fun h => (by cases h), fun h => (lexLt_nil h).elim⟩
  | [], _ :: _, h => by cases h
  | _ :: _, [], h => by cases h
  | a :: as, b :: bs, h => by
    rw [lexLt_iff]
    unfold ltN
    by_cases e : a = b
    · subst e
      rw [if_pos rfl, ltN_iff (by simpa using h)]
      simp
    · rw [if_neg e, decide_eq_true_eq]
      simp [e]
theorem lex_tri : ∀ {a b : List Nat}, a.length = b.length → a = b ∨ LexLt a b ∨ LexLt b a
  | [], [], _ => .inl rfl
  | [], _ :: _, h => by cases h
  | _ :: _, [], h => by cases h
  | a :: as, b :: bs, h => by
    rw [lexLt_iff, lexLt_iff]
    rcases Nat.lt_trichotomy a b with z | z | z
    · exact .inr (.inl (.inl z))
    · subst z
      rcases lex_tri (a := as) (b := bs) (by simpa using h) with e | e | e
      · exact .inl (by rw [e])
      · exact .inr (.inl (.inr ⟨rfl, e⟩))
      · exact .inr (.inr (.inr ⟨rfl, e⟩))
    · exact .inr (.inr (.inl z))
theorem lex_trans : ∀ {a b c : List Nat}, LexLt a b → LexLt b c → LexLt a c
  | [], _, _, h, _ => (lexLt_nil h).elim
  | _ :: _, [], _, _, h => (lexLt_nil h).elim
  | _ :: _, _ :: _, [], _, h => by
    obtain ⟨c, x, z, r1, r2, _, h2, _⟩ := h
    simp at h2
  | a :: as, b :: bs, c :: cs, h1, h2 => by
    rw [lexLt_iff] at h1 h2 ⊢
    rcases h1 with h1 | ⟨rfl, h1⟩
    · rcases h2 with h2 | ⟨rfl, h2⟩
      · exact .inl (by omega)
      · exact .inl h1
    · rcases h2 with h2 | ⟨rfl, h2⟩
      · exact .inl h2
      · exact .inr ⟨rfl, lex_trans h1 h2⟩
abbrev LeL (a b : List Nat) : Prop := b = a ∨ LexLt a b
theorem leL_trans {a b c : List Nat} (h1 : LeL a b) (h2 : LeL b c) : LeL a c := by
  rcases h1 with rfl | h1
  · exact h2
  · rcases h2 with rfl | h2
    · exact .inr h1
    · exact .inr (lex_trans h1 h2)
theorem leL_snoc {a b : List Nat} (h : LeL a b) (hl : a.length = b.length) {d e : Nat} (hde : a = b → d ≤ e) : LeL (a ++ [d]) (b ++ [e]) := by
  rcases h with rfl | h
  · have := hde rfl
    by_cases e2 : d = e
    · subst e2; exact .inl rfl
    · exact .inr ⟨b, d, e, [], [], rfl, rfl, by omega⟩
  · obtain ⟨c, x, z, r1, r2, rfl, rfl, hx⟩ := h
    exact .inr ⟨c, x, z, r1 ++ [d], r2 ++ [e], by simp, by simp, hx⟩
/-- the less one of two -/
def minL (a b : List Nat) : List Nat := if ltN b a = true then b else a
theorem minL_le {a b : List Nat} (h : a.length = b.length) : LeL (minL a b) a ∧ LeL (minL a b) b ∧ (minL a b = a ∨ minL a b = b) := by
  unfold minL
  by_cases e : ltN b a = true
  · rw [if_pos e]
    exact ⟨.inr ((ltN_iff h.symm).1 e), .inl rfl, .inr rfl⟩
  · rw [if_neg e]
    refine ⟨.inl rfl, ?_, .inl rfl⟩
    rcases lex_tri h with z | z | z
    · exact .inl z.symm
    · exact .inr z
    · exact absurd ((ltN_iff h.symm).2 z) e
/-! candidates and the best ones -/
abbrev Cd := (Nat × Nat) × List Nat
structure Best (n : Nat) (cs g : List Cd) : Prop where
  nd : (g.map (·.1)).Nodup
  mem : ∀ q v, (q, v) ∈ g ↔ (q, v) ∈ cs ∧ ∀ v', (q, v') ∈ cs → LeL v v'
  key : ∀ q v, (q, v) ∈ cs → ∃ w, (q, w) ∈ g
  len : ∀ q v, (q, v) ∈ cs → v.length = n
def insB (g : List Cd) (q : Nat × Nat) (v : List Nat) : List Cd :=
  match g.find? fun x => decide (x.1 = q) with
  | some x => g.map fun z => if z.1 = q then (z.1, minL x.2 v) else z
  | none => g ++ [(q, v)]
theorem nd_uniq {g : List Cd} (h : (g.map (·.1)).Nodup) {q : Nat × Nat} {v w : List Nat} (h1 : (q, v) ∈ g) (h2 : (q, w) ∈ g) : v = w := by
  induction g with
  | nil => cases h1
  | cons x g ih =>
    rw [List.map_cons, List.nodup_cons] at h
    rcases List.mem_cons.1 h1 with e1 | h1
    · rcases List.mem_cons.1 h2 with e2 | h2
      · exact (Prod.mk.inj (e1.trans e2.symm)).2
      · exact absurd (List.mem_map.2 ⟨(q, w), h2, by rw [← e1]⟩) h.1
    · rcases List.mem_cons.1 h2 with e2 | h2
      · exact absurd (List.mem_map.2 ⟨(q, v), h1, by rw [← e2]⟩) h.1
      · exact ih h.2 h1 h2
theorem Best.nil (n : Nat) : Best n [] [] := ⟨by simp, by simp, by simp, by simp⟩
theorem leL_anti {a b : List Nat} (h1 : LeL a b) (h2 : LeL b a) : a = b := by
  rcases h1 with rfl | h1
  · rfl
  · rcases h2 with rfl | h2
    · rfl
    · exact absurd h2 (lexLt_asymm h1)
theorem Best.ins {n : Nat} {cs g : List Cd} (B : Best n cs g) {q : Nat × Nat} {v : List Nat} (hv : v.length = n) : Best n (cs ++ [(q, v)]) (insB g q v) := by
  have hlen : ∀ q' v', (q', v') ∈ cs ++ [(q, v)] → v'.length = n := fun q' v' h => by
    rcases List.mem_append.1 h with h | h
    · exact B.len q' v' h
    · rw [(Prod.mk.inj (List.mem_singleton.1 h)).2]; exact hv
  unfold insB
  cases hf : g.find? fun x => decide (x.1 = q) with
  | some x =>
    have hx1 : x.1 = q := by have := List.find?_some hf; simpa using this
    have hxg : (q, x.2) ∈ g := by
      have := List.mem_of_find?_eq_some hf
      rw [← hx1]
      exact this
    obtain ⟨hxc, hxm⟩ := (B.mem q x.2).1 hxg
    have hxl := B.len q x.2 hxc
    obtain ⟨m1, m2, m3⟩ := minL_le (a := x.2) (b := v) (by omega)
    have hgm : ∀ q' v', (q', v') ∈ (g.map fun z => if z.1 = q then (z.1, minL x.2 v) else z) ↔ (q' ≠ q ∧ (q', v') ∈ g) ∨ (q' = q ∧ v' = minL x.2 v) := fun q' v' => by
      rw [List.mem_map]
      constructor
      · rintro ⟨z, hz, e⟩
        by_cases hzq : z.1 = q
        · rw [if_pos hzq] at e
          obtain ⟨e1, e2⟩ := Prod.mk.inj e
          exact .inr ⟨by rw [← e1]; exact hzq, e2.symm⟩
        · rw [if_neg hzq] at e
          subst e
          exact .inl ⟨hzq, hz⟩
      · rintro (⟨h1, h2⟩ | ⟨rfl, rfl⟩)
        · exact ⟨(q', v'), h2, by rw [if_neg h1]⟩
        · exact ⟨(q', x.2), hxg, by rw [if_pos rfl]⟩
    refine ⟨?_, fun q' v' => ?_, fun q' v' h => ?_, hlen⟩
    · have : (g.map fun z => if z.1 = q then (z.1, minL x.2 v) else z).map (·.1) = g.map (·.1) := by
        rw [List.map_map]
        refine List.map_congr_left fun z _ => ?_
        simp only [Function.comp]
        split <;> rfl
      rw [this]
      exact B.nd
    · rw [hgm, List.mem_append, List.mem_singleton]
      constructor
      · rintro (⟨h1, h2⟩ | ⟨rfl, rfl⟩)
        · obtain ⟨a, b⟩ := (B.mem q' v').1 h2
          refine ⟨.inl a, fun v'' h => ?_⟩
          rcases List.mem_append.1 h with h | h
          · exact b v'' h
          · exact absurd (Prod.mk.inj (List.mem_singleton.1 h)).1 h1
        · refine ⟨?_, fun v'' h => ?_⟩
          · rcases m3 with e | e
            · rw [e]; exact .inl hxc
            · rw [e]; exact .inr rfl
          · rcases List.mem_append.1 h with h | h
            · exact leL_trans m1 (hxm v'' h)
            · rw [(Prod.mk.inj (List.mem_singleton.1 h)).2]; exact m2
      · rintro ⟨h1, h2⟩
        by_cases e : q' = q
        · subst e
          refine .inr ⟨rfl, ?_⟩
          have a1 : LeL v' x.2 := h2 x.2 (List.mem_append_left _ hxc)
          have a2 : LeL v' v := h2 v (by simp)
          have a3 : LeL v' (minL x.2 v) := by rcases m3 with e | e <;> rw [e] <;> assumption
          have a4 : LeL (minL x.2 v) v' := by
            rcases h1 with h1 | h1
            · exact leL_trans m1 (hxm v' h1)
            · rw [(Prod.mk.inj h1).2]; exact m2
          exact leL_anti a3 a4
        · refine .inl ⟨e, (B.mem q' v').2 ⟨?_, fun v'' h => h2 v'' (List.mem_append_left _ h)⟩⟩
          rcases h1 with h1 | h1
          · exact h1
          · exact absurd (Prod.mk.inj h1).1 e
    · rcases List.mem_append.1 h with h | h
      · obtain ⟨w, hw⟩ := B.key q' v' h
        by_cases e : q' = q
        · exact ⟨_, (hgm q' _).2 (.inr ⟨e, rfl⟩)⟩
        · exact ⟨w, (hgm q' w).2 (.inl ⟨e, hw⟩)⟩
      · exact ⟨_, (hgm q' _).2 (.inr ⟨(Prod.mk.inj (List.mem_singleton.1 h)).1, rfl⟩)⟩
  | none =>
    have hno : ∀ w, (q, w) ∉ g := fun w h => by
      have := List.find?_eq_none.1 hf _ h
      simp at this
    have hnc : ∀ w, (q, w) ∉ cs := fun w h => by
      obtain ⟨u, hu⟩ := B.key q w h
      exact hno u hu
    refine ⟨?_, fun q' v' => ?_, fun q' v' h => ?_, hlen⟩
    · rw [List.map_append]
      refine List.nodup_append.2 ⟨B.nd, by simp, fun a ha b hb e => ?_⟩
      obtain ⟨⟨z, w⟩, hz, rfl⟩ := List.mem_map.1 ha
      have : b = q := by simpa using hb
      subst this
      subst e
      exact hno w hz
    · rw [List.mem_append, List.mem_singleton, List.mem_append, List.mem_singleton, B.mem]
      constructor
      · rintro (⟨h1, h2⟩ | h)
        · refine ⟨.inl h1, fun v'' h => ?_⟩
          rcases List.mem_append.1 h with h | h
          · exact h2 v'' h
          · have e := (Prod.mk.inj (List.mem_singleton.1 h)).1
            subst e
            exact absurd h1 (hnc _)
        · obtain ⟨rfl, rfl⟩ := Prod.mk.inj h
          refine ⟨.inr rfl, fun v'' h => ?_⟩
          rcases List.mem_append.1 h with h | h
          · exact absurd h (hnc _)
          · exact .inl (Prod.mk.inj (List.mem_singleton.1 h)).2
      · rintro ⟨h1 | h1, h2⟩
        · exact .inl ⟨h1, fun v'' h => h2 v'' (List.mem_append_left _ h)⟩
        · exact .inr h1
    · rcases List.mem_append.1 h with h | h
      · obtain ⟨w, hw⟩ := B.key q' v' h
        exact ⟨w, List.mem_append_left _ hw⟩
      · have e := (Prod.mk.inj (List.mem_singleton.1 h)).1
        exact ⟨v, by rw [e]; simp⟩
/-! levels -/
section
variable (y : Sys) (P : List (Nat × Nat))
def Rch (p : Nat × Nat) (w : List Nat) : Prop := Vl y w ∧ ∃ p0 ∈ P, y.runP p0 w = p
structure MinR (p : Nat × Nat) (n : Nat) : Prop where
  hit : ∃ w, Rch y P p w ∧ w.length = n
  min : ∀ w, Rch y P p w → n ≤ w.length
structure Found (n : Nat) (f : List Cd) : Prop where
  nd : (f.map (·.1)).Nodup
  mem : ∀ p w, (p, w) ∈ f ↔ MinR y P p n ∧ (Rch y P p w ∧ w.length = n) ∧ ∀ w', Rch y P p w' → w'.length = n → LeL w w'
  key : ∀ p, MinR y P p n → ∃ w, (p, w) ∈ f
structure Seen (n : Nat) (l : List (Nat × Nat)) : Prop where
  nd : l.Nodup
  mem : ∀ p, p ∈ l ↔ ∃ m, m < n ∧ MinR y P p m
end
section
variable {y : Sys} {P : List (Nat × Nat)} {p q : Nat × Nat} {n m : Nat} {w : List Nat} {f g : List Cd} {l : List (Nat × Nat)}
theorem MinR.uniq (h : MinR y P p n) (h' : MinR y P p m) : n = m := by
  obtain ⟨w, hw, e⟩ := h.hit
  obtain ⟨w', hw', e'⟩ := h'.hit
  have := h.min w' hw'
  have := h'.min w hw
  omega
theorem minR_ex (h : Rch y P p w) : ∃ d, d ≤ w.length ∧ MinR y P p d := by
  induction hn : w.length using Nat.strongRecOn generalizing w with
  | _ n ih =>
    by_cases hx : ∃ w', Rch y P p w' ∧ w'.length < n
    · obtain ⟨w', h1, h2⟩ := hx
      obtain ⟨d, h3, h4⟩ := ih w'.length h2 h1 rfl
      exact ⟨d, by omega, h4⟩
    · exact ⟨n, Nat.le_refl _, ⟨⟨w, h, hn⟩, fun w' hw' => Nat.le_of_not_lt fun z => hx ⟨w', hw', z⟩⟩⟩
theorem Rch.snoc (h : Rch y P p w) {e : Nat} (he : e < y.ops.length) : Rch y P (y.stepP e p) (w ++ [e]) := by
  obtain ⟨hv, p0, hp0, rfl⟩ := h
  exact ⟨hv.snoc he, p0, hp0, runP_snoc ..⟩
theorem Rch.split {e : Nat} (h : Rch y P p (w ++ [e])) : e < y.ops.length ∧ ∃ q, Rch y P q w ∧ y.stepP e q = p := by
  obtain ⟨hv, p0, hp0, rfl⟩ := h
  exact ⟨hv e (by simp), y.runP p0 w, ⟨fun x hx => hv x (List.mem_append_left _ hx), p0, hp0, rfl⟩, (runP_snoc ..).symm⟩
/-- on the way to one first reached at n + 1, each is first reached at n -/
theorem MinR.prev {e : Nat} (h : MinR y P p (n + 1)) (hq : Rch y P q w) (hl : w.length = n) (he : e < y.ops.length) (es : y.stepP e q = p) : MinR y P q n := by
  refine ⟨⟨w, hq, hl⟩, fun w' hw' => ?_⟩
  have := h.min (w' ++ [e]) (es ▸ hw'.snoc he)
  simp only [List.length_append, List.length_singleton] at this
  omega
def cands (y : Sys) (f : List Cd) : List Cd := f.flatMap fun x => (List.range y.ops.length).map fun e => (y.stepP e x.1, x.2 ++ [e])
theorem cands_mem : (q, w) ∈ cands y f ↔ ∃ p u e, (p, u) ∈ f ∧ e < y.ops.length ∧ q = y.stepP e p ∧ w = u ++ [e] := by
  unfold cands
  rw [List.mem_flatMap]
  constructor
  · rintro ⟨⟨p, u⟩, h1, h2⟩
    obtain ⟨e, he, h3⟩ := List.mem_map.1 h2
    obtain ⟨h4, h5⟩ := Prod.mk.inj h3
    exact ⟨p, u, e, h1, List.mem_range.1 he, h4.symm, h5.symm⟩
  · rintro ⟨p, u, e, h1, h2, rfl, rfl⟩
    exact ⟨(p, u), h1, List.mem_map.2 ⟨e, List.mem_range.2 h2, rfl⟩⟩
/-- a level more: what is new of the best candidates -/
theorem Found.next (F : Found y P n f) (B : Best (n + 1) (cands y f) g) (S : Seen y P (n + 1) l) : Found y P (n + 1) (g.filter fun x => decide (x.1 ∉ l)) := by
  have snoc_of : ∀ w : List Nat, w.length = n + 1 → ∃ u e, w = u ++ [e] ∧ u.length = n := fun w hl => by
    have e := List.dropLast_concat_getLast (l := w) (by intro z; subst z; cases hl)
    exact ⟨w.dropLast, w.getLast (by intro z; subst z; cases hl), e.symm, by simp [hl]⟩
  have hnew : ∀ p, MinR y P p (n + 1) → p ∉ l := fun p hm hp => by
    obtain ⟨m, h1, h2⟩ := (S.mem p).1 hp
    have := h2.uniq hm
    omega
  have cand_of : ∀ p w, MinR y P p (n + 1) → Rch y P p w → w.length = n + 1 → ∃ q b e, (q, b) ∈ f ∧ e < y.ops.length ∧ y.stepP e q = p ∧ Rch y P p (b ++ [e]) ∧ (b ++ [e]).length = n + 1 ∧ LeL (b ++ [e]) w := fun p w hm hw hl => by
    obtain ⟨u, e, rfl, hul⟩ := snoc_of w hl
    obtain ⟨he, q, hq, es⟩ := hw.split
    have hqm := hm.prev hq hul he es
    obtain ⟨b, hb⟩ := F.key q hqm
    obtain ⟨_, ⟨g2, g3⟩, g4⟩ := (F.mem q b).1 hb
    exact ⟨q, b, e, hb, he, es, es ▸ g2.snoc he, by simp [g3], leL_snoc (g4 u hq hul) (by omega) fun _ => Nat.le_refl _⟩
  have rch_of : ∀ q v, (q, v) ∈ cands y f → Rch y P q v ∧ v.length = n + 1 := fun q v h => by
    obtain ⟨p, u, e, h1, h2, rfl, rfl⟩ := cands_mem.1 h
    obtain ⟨_, ⟨f2, f3⟩, _⟩ := (F.mem p u).1 h1
    exact ⟨f2.snoc h2, by simp [f3]⟩
  refine ⟨List.Nodup.sublist (List.Sublist.map _ List.filter_sublist) B.nd, fun p w => ?_, fun p hm => ?_⟩
  · rw [List.mem_filter, decide_eq_true_eq, B.mem]
    constructor
    · rintro ⟨⟨h1, hb⟩, hn⟩
      obtain ⟨hr, hl⟩ := rch_of p w h1
      obtain ⟨d, hd, hm⟩ := minR_ex hr
      have hd1 : d = n + 1 := by
        by_cases hlt : d < n + 1
        · exact absurd ((S.mem p).2 ⟨d, hlt, hm⟩) hn
        · omega
      subst hd1
      refine ⟨hm, ⟨hr, hl⟩, fun w' hw' hl' => ?_⟩
      obtain ⟨q, b, e, hb1, he, es, _, _, hle⟩ := cand_of p w' hm hw' hl'
      exact leL_trans (hb (b ++ [e]) (cands_mem.2 ⟨q, b, e, hb1, he, es.symm, rfl⟩)) hle
    · rintro ⟨hm, ⟨hr, hl⟩, hb⟩
      obtain ⟨q, b, e, hb1, he, es, hbr, hbl, hle⟩ := cand_of p w hm hr hl
      have e1 : b ++ [e] = w := leL_anti hle (hb _ hbr hbl)
      refine ⟨⟨cands_mem.2 ⟨q, b, e, hb1, he, es.symm, e1.symm⟩, fun v' hv' => ?_⟩, hnew p hm⟩
      obtain ⟨h3, h4⟩ := rch_of p v' hv'
      exact hb v' h3 h4
  · obtain ⟨w, hw, hl⟩ := hm.hit
    obtain ⟨q, b, e, hb1, he, es, _, _, _⟩ := cand_of p w hm hw hl
    obtain ⟨v, hv⟩ := B.key p (b ++ [e]) (cands_mem.2 ⟨q, b, e, hb1, he, es.symm, rfl⟩)
    exact ⟨v, List.mem_filter.2 ⟨hv, decide_eq_true (hnew p hm)⟩⟩
theorem Seen.next (F : Found y P n f) (S : Seen y P n l) : Seen y P (n + 1) (l ++ f.map (·.1)) := by
  refine ⟨List.nodup_append.2 ⟨S.nd, F.nd, fun a ha b hb e => ?_⟩, fun p => ?_⟩
  · subst e
    obtain ⟨m, h1, h2⟩ := (S.mem a).1 ha
    obtain ⟨⟨q, w⟩, hq, rfl⟩ := List.mem_map.1 hb
    have := ((F.mem q w).1 hq).1.uniq h2
    omega
  · rw [List.mem_append, S.mem, List.mem_map]
    constructor
    · rintro (⟨m, h1, h2⟩ | ⟨⟨q, w⟩, hq, rfl⟩)
      · exact ⟨m, by omega, h2⟩
      · exact ⟨n, Nat.lt_succ_self _, ((F.mem q w).1 hq).1⟩
    · rintro ⟨m, h1, h2⟩
      by_cases e : m = n
      · subst e
        obtain ⟨w, hw⟩ := F.key p h2
        exact .inr ⟨(p, w), hw, rfl⟩
      · exact .inl ⟨m, by omega, h2⟩
/-- where the search ends -/
theorem Rch.at_hit {E : List (Nat × Nat)} {p0 : Nat × Nat} (hp : p0 ∈ P) (h : Hit y E p0 w) : Rch y P (y.runP p0 w) w := ⟨h.1, p0, hp, rfl⟩
theorem Found.first {E : List (Nat × Nat)} (F : Found y P n f) (hno : ∀ m, m < n → ∀ p, MinR y P p m → p ∉ E) {v : List Nat} (h1 : ∃ p, (p, v) ∈ f ∧ p ∈ E) (h2 : ∀ p w, (p, w) ∈ f → p ∈ E → LeL v w) : FirstLog y E P v := by
  have hmin : ∀ w', (∃ p ∈ P, Hit y E p w') → n ≤ w'.length ∧ (w'.length = n → ∃ q, MinR y P q n ∧ Rch y P q w' ∧ q ∈ E) := by
    rintro w' ⟨p0, hp0, hh⟩
    have hr := Rch.at_hit hp0 hh
    obtain ⟨d, hd, hm⟩ := minR_ex hr
    have hdn : n ≤ d := Nat.le_of_not_lt fun z => hno d z _ hm hh.2
    refine ⟨by omega, fun hl => ?_⟩
    have : d = n := by omega
    subst this
    exact ⟨_, hm, hr, hh.2⟩
  obtain ⟨p, hp, hpE⟩ := h1
  obtain ⟨_, ⟨⟨hv, p0, hp0, e⟩, hl⟩, _⟩ := (F.mem p v).1 hp
  refine ⟨⟨p0, hp0, hv, by rw [e]; exact hpE⟩, fun w' hw' => by have := (hmin w' hw').1; omega, fun w' hw' hl' => ?_⟩
  obtain ⟨q, hqm, hqr, hqE⟩ := (hmin w' hw').2 (by omega)
  obtain ⟨b, hb⟩ := F.key q hqm
  have h3 := h2 q b hb hqE
  have h4 := ((F.mem q b).1 hb).2.2 w' hqr (by omega)
  exact leL_trans h3 h4
theorem Found.last {E : List (Nat × Nat)} (F : Found y P n []) (hno : ∀ m, m < n → ∀ p, MinR y P p m → p ∉ E) : ∀ p ∈ P, ∀ w, ¬ Hit y E p w := by
  intro p0 hp0 w hh
  have hempty : ∀ k p, ¬ MinR y P p (n + k) := by
    intro k
    induction k with
    | zero =>
      intro p hm
      obtain ⟨w, hw⟩ := F.key p hm
      cases hw
    | succ k ih =>
      intro p hm
      obtain ⟨w, hw, hl⟩ := hm.hit
      have e := List.dropLast_concat_getLast (l := w) (by intro z; subst z; simp at hl)
      rw [← e] at hw
      obtain ⟨he, q, hq, es⟩ := hw.split
      exact ih q (MinR.prev (n := n + k) hm hq (by simp [hl]) he es)
  have hr := Rch.at_hit hp0 hh
  obtain ⟨d, _, hm⟩ := minR_ex hr
  by_cases hd : d < n
  · exact hno d hd _ hm hh.2
  · obtain ⟨k, rfl⟩ : ∃ k, d = n + k := ⟨d - n, by omega⟩
    exact hempty k _ hm
theorem Found.start {Q : List (Nat × Nat)} (h : Q.Nodup) (hQ : ∀ p, p ∈ Q ↔ p ∈ P) : Found y P 0 (Q.map fun p => (p, [])) := by
  have hm0 : ∀ p, MinR y P p 0 ↔ p ∈ Q := fun p => by
    rw [hQ]
    constructor
    · rintro ⟨⟨w, ⟨_, p0, hp0, e⟩, hl⟩, _⟩
      rw [List.length_eq_zero_iff] at hl
      subst hl
      rw [← e]
      exact hp0
    · intro hp
      exact ⟨⟨[], ⟨(fun _ z => nomatch z), p, hp, rfl⟩, rfl⟩, fun _ _ => Nat.zero_le _⟩
  refine ⟨?_, fun p w => ?_, fun p hp => ⟨[], List.mem_map.2 ⟨p, (hm0 p).1 hp, rfl⟩⟩⟩
  · rw [List.map_map, show ((fun x : Cd => x.1) ∘ fun p : Nat × Nat => (p, [])) = id from rfl, List.map_id]
    exact h
  · rw [hm0, List.mem_map]
    constructor
    · rintro ⟨q, hq, e⟩
      obtain ⟨rfl, rfl⟩ := Prod.mk.inj e
      refine ⟨hq, ⟨⟨(fun _ z => nomatch z), q, (hQ q).1 hq, rfl⟩, rfl⟩, fun w' _ hl => ?_⟩
      rw [List.length_eq_zero_iff] at hl
      exact .inl hl
    · rintro ⟨h1, ⟨_, h2⟩, _⟩
      rw [List.length_eq_zero_iff] at h2
      subst h2
      exact ⟨p, h1, rfl⟩
end
end VL
namespace VL
open PySem PySem.Spec PyProof.Rows L2

/-! ### longer -/
abbrev cP : Cd → Nat × Nat := fun x => x.1
abbrev cV : Cd → D := fun x => logD x.2
theorem toT_log (l : List Nat) : toT (logD l) = some (l.map fun (n : Nat) => (n : Int)) := by
  show toI (l.map nD) = _
  rw [show l.map nD = (l.map fun (n : Nat) => (n : Int)).map D.int by simp [Function.comp_def], toI_ints]
theorem ltI_N : ∀ a b : List Nat, ltI (a.map fun (n : Nat) => (n : Int)) (b.map fun (n : Nat) => (n : Int)) = ltN a b
  | [], [] => rfl
  | [], _ :: _ => rfl
  | _ :: _, [] => rfl
  | a :: as, b :: bs => by
    have ih := ltI_N as bs
    simp only [List.map_cons, ltI, ltN, ih]
    by_cases h : a = b
    · subst h; simp
    · have : ¬ (a : Int) = b := by omega
      rw [if_neg h, if_neg this]
      simp
theorem fMin2T_log (a b : List Nat) (s : S) : fMin2T [logD a, logD b] s = .ok (logD (minL a b)) s := by
  simp only [fMin2T, toT_log]
  simp only [minI, List.foldl_cons, List.foldl_nil, ltI_N, minL]
  by_cases h : ltN b a = true
  · rw [if_pos h, if_pos h]; simp [logD, Function.comp_def]
  · rw [if_neg h, if_neg h]; simp [logD, Function.comp_def]
theorem minL_self (a : List Nat) : minL a a = a := by
  unfold minL
  split <;> rfl
theorem put_insB {g : List Cd} {q : Nat × Nat} {v : List Nat} (hn : (g.map (·.1)).Nodup) : put keyT (kvs cP cV g) (prD q) (pk q) (logD (minL (((g.find? fun x => decide (x.1 = q)).map (·.2)).getD v) v)) = kvs cP cV (insB g q v) := by
  unfold insB
  cases hf : g.find? fun x => decide (x.1 = q) with
  | none =>
    have hq : q ∉ g.map cP := fun z => by
      obtain ⟨x, hx, e⟩ := List.mem_map.1 z
      have := List.find?_eq_none.1 hf x hx
      simp only [decide_eq_true_eq] at this
      exact this e
    rw [put_prN cP cV hq]
    simp [kvs, minL_self]
  | some x =>
    have hx1 : x.1 = q := by have := List.find?_some hf; simpa using this
    have hxg := List.mem_of_find?_eq_some hf
    unfold put
    rw [if_pos]
    · simp only [kvs, List.map_map]
      refine List.map_congr_left fun z hz => ?_
      simp only [Function.comp, keyT_pr, Option.some.injEq, Option.map_some, Option.getD_some]
      by_cases e : z.1 = q
      · rw [if_pos (by show pk z.1 = pk q; rw [e]), if_pos e]
      · rw [if_neg (fun z' => e (pk_inj z')), if_neg e]
    · exact List.any_eq_true.2 ⟨(prD x.1, logD x.2), List.mem_map.2 ⟨x, hxg, rfl⟩, by simp [keyT_pr, hx1]⟩
theorem get2_log {s : S} {n : Nat} {g : List Cd} {mo mk md : ME} {ρ : Ev} {q : Nat × Nat} {v : List Nat} (h : s[n]? = some (.dctT (kvs cP cV g))) (h1 : mo ρ s = .ok (.obj n) s) (h2 : mk ρ s = .ok (prD q) s) (h3 : md ρ s = .ok (logD v) s) :
    mGet2 mo mk md ρ s = .ok (logD (((g.find? fun x => decide (x.1 = q)).map (·.2)).getD v)) s := by
  have hd : isDO s (.obj n) = true := by simp [isDO, h]
  unfold mGet2
  simp only [h1, h2, h3, R.bnd_ok, hd, if_true, dget_pr cP cV h q]
  cases g.find? fun x => decide (cP x = q) <;> rfl
theorem cands_snoc (y : Sys) (f : List Cd) (x : Cd) : cands y (f ++ [x]) = cands y f ++ (List.range y.ops.length).map fun e => (y.stepP e x.1, x.2 ++ [e]) := by simp [cands]
theorem longer_ok {y : Sys} (hy : y.Ok) {k : Nat} (hk : k ≤ 100) {f : List Cd} (hlt : ∀ p w, (p, w) ∈ f → Lt y p ∧ w.length = k) {n : Nat} {s : S} (hs : s[n]? = some (.dctTL (kvs cP cV f))) :
    wp (m_longer [y.D, .obj n] s) fun d s' => d = .obj s.length ∧ ∃ g, s' = s ++ [.dctT (kvs cP cV g)] ∧ Best (k + 1) (cands y f) g := by
  unfold m_longer
  rw [mFn_eq, wp_fin]
  have hi : initE 10 [y.D, .obj n] = [some y.D, some (.obj n), none, none, none, none, none, none, none, none] := rfl
  have hnew : ∀ (ρ : Ev) (s : S), mNewT ρ s = .ok (.obj s.length) (s ++ [.dctT []]) := fun _ _ => rfl
  rw [hi]
  have hn : n < s.length := (List.getElem?_eq_some_iff.1 hs).1
  have it : ∀ ρ : Ev, ρ[1]? = some (some (.obj n)) → mItems (mVar 1) ρ (s ++ [.dctT []]) = .ok (.fix (f.map fun x => .tup [prD x.1, logD x.2])) (s ++ [.dctT []]) := fun ρ hρ => by
    have g1 : (s ++ [O.dctT []])[n]? = some (.dctTL (kvs cP cV f)) := by rw [List.getElem?_append_left hn]; exact hs
    unfold mItems
    simp only [mVar_eq, hρ, vg_some, R.bnd_ok, g1]
    simp [kvs, Function.comp_def]
  simp only [mSeq_eq, mAsg_eq, hnew, R.bnd_ok, gN_eq, List.set_cons_succ, List.set_cons_zero, seqF_nx, mFor_eq]
  rw [it _ rfl]
  simp only [R.bnd_ok, forF_fix, wp_bnd]
  refine wp_each (f := fun x : Cd => .tup [prD x.1, logD x.2]) (fun pre ρ s' => ∃ (g : List Cd) (x3 x4 x5 x6 x7 x8 x9 : Option D), Best (k + 1) (cands y pre) g ∧ s' = s ++ [.dctT (kvs cP cV g)] ∧
    ρ = [some y.D, some (.obj n), some (.obj s.length), x3, x4, x5, x6, x7, x8, x9]) _ _ _ ⟨[], _, _, _, _, _, _, _, Best.nil _, rfl, rfl⟩ ?_ ?_
  · rintro pre x rest ρ s' he ⟨g, x3, x4, x5, x6, x7, x8, x9, hB, rfl, rfl⟩
    obtain ⟨p, w⟩ := x
    have hxf : (p, w) ∈ f := by rw [he]; simp
    obtain ⟨⟨p1, p2⟩, hw⟩ := hlt p w hxf
    have tgt : ∀ ρ s, (gT 2 (gConsM (gT 2 (gConsM (gN 3) (gConsM (gN 4) gNilM))) (gConsM (gN 5) gNilM))) (.tup [prD p, logD w]) ρ s = .ok (((ρ.set 3 (some (.int (p.1 : Int)))).set 4 (some (.int (p.2 : Int)))).set 5 (some (logD w))) s := fun ρ s => by simp [prD]
    simp only [tgt, wp_ok, List.set_cons_succ, List.set_cons_zero, mFor_eq, mEnum_eq, mCons_eq, mBin_eq, mVar_eq, mC_eq, get_0, vg_some, R.bnd_ok, ix_ops, mNil_eq, enumF_tup, enumD_ops, forF_fix]
    refine wp_loop (fun ds ρ s2 => ∃ (po os : List (List Nat)) (g : List Cd) (x6 x7 x8 x9 : Option D), y.ops = po ++ os ∧ ds = enumO po.length os ∧ Best (k + 1) (cands y pre ++ (List.range po.length).map fun e => (y.stepP e p, w ++ [e])) g ∧
      s2 = s ++ [.dctT (kvs cP cV g)] ∧ ρ = [some y.D, some (.obj n), some (.obj s.length), some (.int (p.1 : Int)), some (.int (p.2 : Int)), some (logD w), x6, x7, x8, x9]) ?_ ?_ _ _ _ ⟨[], y.ops, g, _, _, _, _, rfl, rfl, by simpa using hB, rfl, rfl⟩
    · rintro d ds ρ s2 ⟨po, os, g, x6, x7, x8, x9, ho, hds, hB, rfl, rfl⟩
      cases os with
      | nil => cases hds
      | cons o os =>
        rw [enumO_cons] at hds
        injection hds with hd1 hd2
        subst hd1 hd2
        have hko : y.ops[po.length]? = some o := by rw [ho]; simp
        have hkl : po.length < y.ops.length := (List.getElem?_eq_some_iff.1 hko).1
        have hom : o ∈ y.ops := List.mem_of_getElem? hko
        have hgl : g.length ≤ 36 := by
          have := pairs_len hy hB.nd fun q hq => by
            obtain ⟨⟨q', v⟩, hqg, rfl⟩ := List.mem_map.1 hq
            obtain ⟨hc, _⟩ := (hB.mem q' v).1 hqg
            rcases List.mem_append.1 hc with hc | hc
            · obtain ⟨p', u, e, h1, h2, rfl, _⟩ := cands_mem.1 hc
              obtain ⟨⟨a, b⟩, _⟩ := hlt p' u (by rw [he]; simp [h1])
              exact ⟨hy.step_lt a h2, hy.step_lt b h2⟩
            · obtain ⟨e, hem, e2⟩ := List.mem_map.1 hc
              obtain ⟨e3, _⟩ := Prod.mk.inj e2
              rw [← e3]
              have := List.mem_range.1 hem
              exact ⟨hy.step_lt p1 (by omega), hy.step_lt p2 (by omega)⟩
          simpa using this
        have j1 := fun s => ix_o hy hom p1 s
        have j2 := fun s => ix_o hy hom p2 s
        have es1 : o.getD p.1 0 = (y.stepP po.length p).1 := by show _ = y.step _ _; rw [step_eq hko]
        have es2 : o.getD p.2 0 = (y.stepP po.length p).2 := by show _ = y.step _ _; rw [step_eq hko]
        rw [es1] at j1
        rw [es2] at j2
        have ad : ∀ s, opAdd (logD w) (.tup [.int (po.length : Nat)]) s = .ok (logD (w ++ [po.length])) s := fun s => opAdd_log (a := w) (b := [po.length]) (by simp [hw]; omega) s
        have hB2 := hB.ins (q := y.stepP po.length p) (v := w ++ [po.length]) (by simp [hw])
        generalize hq : y.stepP po.length p = q at j1 j2 hB2
        have eq2 : D.tup [.int (q.1 : Int), .int (q.2 : Int)] = prD q := rfl
        have gd : (s ++ [O.dctT (kvs cP cV g)])[s.length]? = some (.dctT (kvs cP cV g)) := by simp
        have tg2 : ∀ ρ s, (gT 2 (gConsM (gN 6) (gConsM (gN 7) gNilM))) (.tup [.int (po.length : Nat), opD o]) ρ s = .ok ((ρ.set 6 (some (.int (po.length : Nat)))).set 7 (some (opD o))) s := fun ρ s => by simp
        have gt := get2_log (mo := mVar 2) (mk := mVar 8) (md := mVar 9) (ρ := [some y.D, some (.obj n), some (.obj s.length), some (.int (p.1 : Int)), some (.int (p.2 : Int)), some (logD w), some (.int (po.length : Nat)), some (opD o), some (prD q), some (logD (w ++ [po.length]))]) (q := q) (v := w ++ [po.length]) gd rfl rfl rfl
        have sp := set_pr cP cV gd (by omega) q (logD (minL (((g.find? fun x => decide (x.1 = q)).map (·.2)).getD (w ++ [po.length])) (w ++ [po.length])))
        rw [put_insB hB.nd, List.set_append_right _ _ (Nat.le_refl _)] at sp
        simp only [Nat.sub_self, List.set_cons_zero] at sp
        simp only [tg2, wp_ok, List.set_cons_succ, List.set_cons_zero, mSeq_eq, mPar_eq, mTup_eq, mCons_eq, mBin_eq, mVar_eq, get_0, List.getElem?_cons_succ, vg_some, R.bnd_ok, j1, j2, mNil_eq, List.length_cons, List.length_nil, Nat.reduceAdd, LIM_eq, Nat.reduceLeDiff, if_true, eq2, ad, seqF_nx, mAsg_eq, mCall_eq, gt, fMin2T_log, gIxU_eq, sp, turnK_nx]
        refine ⟨po ++ [o], os, _, _, _, _, _, by rw [ho]; simp, by simp, ?_, rfl, rfl⟩
        rw [List.length_append, List.length_singleton, List.range_succ, List.map_append, ← List.append_assoc]
        simp only [List.map_cons, List.map_nil, hq]
        exact hB2
    · rintro ρ s2 ⟨po, os, g, x6, x7, x8, x9, ho, hds, hB, rfl, rfl⟩
      have hos : os = [] := by cases os with | nil => rfl | cons o os => cases hds
      subst hos
      rw [List.append_nil] at ho
      refine ⟨g, _, _, _, _, _, _, _, ?_, rfl, rfl⟩
      rw [cands_snoc, ho]
      exact hB
  · rintro ρ s' ⟨g, x3, x4, x5, x6, x7, x8, x9, hB, rfl, rfl⟩
    simp only [seqF_nx, mRet_eq, mVar_eq, get_0, List.getElem?_cons_succ, vg_some, R.bnd_ok, wp_ok, endQ_ret]
    exact ⟨trivial, g, rfl, hB⟩
end VL
namespace VL
open PySem PySem.Spec PyProof.Rows L2

/-! ### pieces of first_log -/
theorem any_prs (p : Nat × Nat) : ∀ l : List (Nat × Nat), ((l.map pyP).any fun z => PyData.eqv z (pyP p)) = decide (p ∈ l)
  | [] => by simp
  | q :: l => by
    have ih := any_prs p l
    simp only [List.map_cons, List.any_cons, ih]
    have e : PyData.eqv (pyP q) (pyP p) = decide (p = q) := by
      obtain ⟨a, b⟩ := p
      obtain ⟨c, d⟩ := q
      simp only [pyP, PyData.eqv, PyData.eqvAll, Bool.and_true]
      rw [Bool.eq_iff_iff, Bool.and_eq_true, beq_iff_eq, beq_iff_eq, decide_eq_true_eq, Prod.mk.injEq]
      omega
    rw [e, Bool.eq_iff_iff, Bool.or_eq_true, decide_eq_true_eq, decide_eq_true_eq, decide_eq_true_eq, List.mem_cons]
theorem shaped_pr (p : Nat × Nat) : SeqAt.shaped (pyP p) = true := by
  simp [SeqAt.shaped, pyP, PyData.canLay0, PyData.canLayAll0, PyData.depth, PyData.depthAll]
theorem opIn_prs (f : Bool → Bool) (p : Nat × Nat) (l : List (Nat × Nat)) (s : S) : opInB f (prD p) (.lst (l.map prD)) s = .ok (.bl (f (decide (p ∈ l)))) s := by
  show (match toPyS s (prD p), toPyS s (.lst (l.map prD)) with
    | some d, some (.list ds) => if SeqAt.shaped d = true ∧ SeqAt.shaped (.list ds) = true then R.ok (D.bl (f (ds.any fun z => PyData.eqv z d))) s else .bad
    | _, _ => .bad) = _
  rw [show toPyS s (prD p) = some (pyP p) from rfl, show toPyS s (.lst (l.map prD)) = some (.list (l.map pyP)) by simp only [toPyS, toPy, toPys_prs, Option.map_some]]
  show (if SeqAt.shaped (pyP p) = true ∧ SeqAt.shaped (.list (l.map pyP)) = true then R.ok (D.bl (f ((l.map pyP).any fun z => PyData.eqv z (pyP p)))) s else R.bad) = _
  rw [if_pos ⟨shaped_pr p, shaped_prs l⟩, any_prs]
def pyG (l : List Nat) : PyData := .tuple (pyL l)
theorem toPys_lgs : ∀ l : List (List Nat), toPys (l.map logD) = some (l.map pyG)
  | [] => rfl
  | a :: l => by simp [toPys, toPy_log, toPys_lgs l, pyG]
theorem lay_lgs : ∀ l : List (List Nat), PyData.canLayAll0 (l.map pyG) = true ∧ PyData.depthAll (l.map pyG) ≤ 1
  | [] => ⟨rfl, by decide⟩
  | a :: l => by
    obtain ⟨h1, h2⟩ := lay_lgs l
    obtain ⟨h3, h4⟩ := lay_log a
    simp only [List.map_cons, PyData.canLayAll0, PyData.depthAll, h1, pyG, PyData.canLay0, PyData.depth, h3, h4, Bool.and_self, true_and]
    omega
theorem opEq_lgs (f : Bool → Bool) (l : List (List Nat)) (s : S) : opEqF f (.lst (l.map logD)) (.lst []) s = .ok (.bl (f (decide (l = [])))) s := by
  have hs : SeqAt.shaped (.list (l.map pyG)) = true := by
    obtain ⟨h1, h2⟩ := lay_lgs l
    have h3 : PyData.depth (.list (l.map pyG)) ≤ 64 := by
      simp only [PyData.depth]
      omega
    simp [SeqAt.shaped, PyData.canLay0, h1, h3]
  rw [opEqF_py (p := .list (l.map pyG)) (q := .list []) s (by simp only [toPyS, toPy, toPys_lgs, Option.map_some]) rfl hs rfl rfl]
  congr 3
  cases l <;> simp [PyData.eqv, PyData.eqvAll]
theorem toTs_lgs : ∀ l : List (List Nat), toTs (l.map logD) = some (l.map fun w => w.map fun (n : Nat) => (n : Int))
  | [] => rfl
  | a :: l => by simp only [List.map_cons, toTs, toT_log, toTs_lgs l]
theorem minI_N : ∀ (ls : List (List Nat)) (l : List Nat), minI (l.map fun (n : Nat) => (n : Int)) (ls.map fun w => w.map fun (n : Nat) => (n : Int)) = (ls.foldl minL l).map fun (n : Nat) => (n : Int)
  | [], l => rfl
  | y :: ls, l => by
    have ih := fun l => minI_N ls l
    unfold minI at ih ⊢
    simp only [List.map_cons, List.foldl_cons, ltI_N, minL]
    by_cases h : ltN y l = true
    · rw [if_pos h, if_pos h]; exact ih y
    · rw [if_neg h, if_neg h]; exact ih l
theorem fMinT_log (l : List Nat) (ls : List (List Nat)) (s : S) : fMinT [.lst ((l :: ls).map logD)] s = .ok (logD (ls.foldl minL l)) s := by
  have h := toTs_lgs (l :: ls)
  simp only [fMinT, asL, asX, Option.bind_some, h]
  simp only [List.map_cons, minI_N]
  simp [logD, Function.comp_def]
theorem foldl_minL {n : Nat} : ∀ (ls : List (List Nat)) (l : List Nat), l.length = n → (∀ x ∈ ls, x.length = n) → ls.foldl minL l ∈ l :: ls ∧ ∀ x ∈ l :: ls, LeL (ls.foldl minL l) x
  | [], l, _, _ => ⟨by simp, fun x hx => by rw [List.mem_singleton.1 hx]; exact .inl rfl⟩
  | y :: ls, l, hl, h => by
    have hy := h y (List.mem_cons_self ..)
    obtain ⟨m1, m2, m3⟩ := minL_le (a := l) (b := y) (by omega)
    obtain ⟨h1, h2⟩ := foldl_minL (n := n) ls (minL l y) (by rcases m3 with e | e <;> rw [e] <;> assumption) fun x hx => h x (List.mem_cons_of_mem _ hx)
    have h3 := h2 _ (List.mem_cons_self ..)
    rw [List.foldl_cons]
    refine ⟨?_, fun x hx => ?_⟩
    · rcases List.mem_cons.1 h1 with e | h1
      · rw [e]
        rcases m3 with e | e <;> rw [e] <;> simp
      · simp [h1]
    · rcases List.mem_cons.1 hx with rfl | hx
      · exact leL_trans h3 m1
      · rcases List.mem_cons.1 hx with rfl | hx
        · exact leL_trans h3 m2
        · exact h2 x (List.mem_cons_of_mem _ hx)
/-! a dict's making, sifted -/
theorem dc_fixF {α : Type} {g : α → D} {kf vf : α → D} {ky : α → List Key} {t : Tg} {tt : MT} {mk mv : ME} {ρw : Ev} {s : S} {c : α → Bool} : ∀ (xs : List α) (pre : List D) (acc : List (D × D)), acc.length + xs.length ≤ 1000000 →
    (∀ x ∈ xs, ∃ ρ1, tgM t (g x) ρw = some ρ1 ∧ tt ρ1 s = .ok (c x) s ∧ (c x = true → mk ρ1 s = .ok (kf x) s ∧ mv ρ1 s = .ok (vf x) s ∧ keyT (kf x) = some (ky x))) →
    dcGo (.fix (pre ++ xs.map g)) t tt mk mv ρw xs.length pre.length acc s = .ok ((xs.filter c).foldl (fun a x => put keyT a (kf x) (ky x) (vf x)) acc) s
  | [], pre, acc, _, _ => by simp [dcGo, srcAt]
  | x :: xs, pre, acc, hl, h => by
    obtain ⟨ρ1, h1, h0, h2⟩ := h x (List.mem_cons_self ..)
    have hx : (pre ++ (x :: xs).map g)[pre.length]? = some (g x) := by simp
    simp only [List.length_cons] at hl
    have hla : acc.length < LIM := by show acc.length < 1000000; omega
    have hp := put_len keyT acc (kf x) (ky x) (vf x)
    have ih := fun acc' ha => dc_fixF (g := g) (kf := kf) (vf := vf) (ky := ky) (t := t) (tt := tt) (mk := mk) (mv := mv) (ρw := ρw) (s := s) (c := c) xs (pre ++ [g x]) acc' ha (fun z hz => h z (List.mem_cons_of_mem _ hz))
    have e1 : pre ++ [g x] ++ xs.map g = pre ++ (x :: xs).map g := by simp
    have e2 : (pre ++ [g x]).length = pre.length + 1 := by simp
    rw [e1, e2] at ih
    cases hc : c x with
    | true =>
      obtain ⟨h3, h4, h5⟩ := h2 hc
      have i1 := ih (put keyT acc (kf x) (ky x) (vf x)) (by omega)
      simp only [List.length_cons, dcGo, srcAt, hx, h1, h0, hc, h3, h4, h5, if_pos hla, noX, R.bnd_ok, if_true, i1, List.filter_cons, List.foldl_cons]
    | false =>
      have i1 := ih acc (by omega)
      simp only [List.length_cons, dcGo, srcAt, hx, h1, h0, hc, noX, R.bnd_ok, Bool.false_eq_true, if_false, i1, List.filter_cons]
theorem mDcT_fixF {α : Type} {g : α → D} {kf vf : α → D} {ky : α → List Key} {it : MI} {t : Tg} {tt : MT} {mk mv : ME} {vs : List Nat} {ρ : Ev} {s s1 : S} {xs : List α} {c : α → Bool} (h : it ρ s = .ok (.fix (xs.map g)) s1) (hl : xs.length ≤ 1000000) (hs : (t.slots.all fun i => vs.contains i) = true)
    (hp : ∀ x ∈ xs, ∃ ρ1, tgM t (g x) (wipeD ρ vs) = some ρ1 ∧ tt ρ1 s1 = .ok (c x) s1 ∧ (c x = true → mk ρ1 s1 = .ok (kf x) s1 ∧ mv ρ1 s1 = .ok (vf x) s1 ∧ keyT (kf x) = some (ky x))) :
    mDcT it t tt mk mv vs ρ s = .ok (.obj s1.length) (s1 ++ [.dctT ((xs.filter c).foldl (fun a x => put keyT a (kf x) (ky x) (vf x)) [])]) := by
  have hs2 : ∀ i ∈ t.slots, i ∈ vs := fun i hi => by simpa using List.all_eq_true.mp hs i hi
  have k := dc_fixF (g := g) (kf := kf) (vf := vf) (ky := ky) (t := t) (tt := tt) (mk := mk) (mv := mv) (ρw := wipeD ρ vs) (s := s1) (c := c) xs [] [] (by simpa using hl) hp
  simp only [List.nil_append, List.length_nil] at k
  unfold mDcT
  simp only [h, R.bnd_ok, srcAt, if_pos hs2, List.length_map, k, finT]
/-- the same value for each: repeated keys do not matter -/
theorem fold_putD (c : D) : ∀ (xs f : List (Nat × Nat)), f.Nodup → ∃ g : List (Nat × Nat), xs.foldl (fun a x => put keyT a (prD x) (pk x) c) (kvs (fun p => p) (fun _ => c) f) = kvs (fun p => p) (fun _ => c) g ∧ g.Nodup ∧ ∀ p, p ∈ g ↔ p ∈ f ∨ p ∈ xs
  | [], f, h => ⟨f, rfl, h, by simp⟩
  | x :: xs, f, h => by
    rw [List.foldl_cons]
    by_cases hx : x ∈ f
    · have e : put keyT (kvs (fun p : Nat × Nat => p) (fun _ => c) f) (prD x) (pk x) c = kvs (fun p => p) (fun _ => c) f := by
        unfold put
        rw [if_pos]
        · unfold kvs
          rw [List.map_map]
          refine List.map_congr_left fun z hz => ?_
          simp only [Function.comp]
          split <;> rfl
        · exact List.any_eq_true.2 ⟨(prD x, c), List.mem_map.2 ⟨x, hx, rfl⟩, by simp [keyT_pr]⟩
      rw [e]
      obtain ⟨g, h1, h2, h3⟩ := fold_putD c xs f h
      refine ⟨g, h1, h2, fun p => ?_⟩
      rw [h3, List.mem_cons]
      constructor
      · rintro (a | a)
        · exact .inl a
        · exact .inr (.inr a)
      · rintro (a | rfl | a)
        · exact .inl a
        · exact .inl hx
        · exact .inr a
    · rw [put_prN (fun p : Nat × Nat => p) (fun _ => c) (by rw [show f.map (fun p : Nat × Nat => p) = f from List.map_id' f]; exact hx)]
      rw [show kvs (fun p : Nat × Nat => p) (fun _ => c) f ++ [(prD x, c)] = kvs (fun p => p) (fun _ => c) (f ++ [x]) by simp [kvs]]
      obtain ⟨g, h1, h2, h3⟩ := fold_putD c xs (f ++ [x]) (List.nodup_append.2 ⟨h, by simp, fun a ha b hb e => hx (by rw [← List.mem_singleton.1 hb, ← e]; exact ha)⟩)
      refine ⟨g, h1, h2, fun p => ?_⟩
      rw [h3, List.mem_append, List.mem_singleton, List.mem_cons]
      constructor
      · rintro ((a | a) | a)
        · exact .inl a
        · exact .inr (.inl a)
        · exact .inr (.inr a)
      · rintro (a | a | a)
        · exact .inl (.inl a)
        · exact .inl (.inr a)
        · exact .inr a
end VL
namespace VL
open PySem PySem.Spec PyProof.Rows L2

/-! ### first_log, whatever class its test is of -/
noncomputable def flB (tab : List (Str × FM)) : FM := mFn 8 (mSeq (mAsg (mTup (mCons (mDcT (mSrc (mVar 1)) (.one 6) mYes (mVar 6) (mTup mNil) [6]) (mCons (mLst mNil) mNil))) (gT 2 (gConsM (gN 3) (gConsM (gN 4) gNilM))))
  (mSeq (mWhile (mB (mBin opNeE (mVar 3) mNewT))
  (mSeq (mAsg (mLcF finL (mItems (mVar 3)) (.many [6, 7]) (mB (mCallI tab (mVar 2) (mCons (mVar 6) mNil))) (mVar 7) [6, 7]) (gN 5))
  (mSeq (mIfS (mB (mBin opNe (mVar 5) (mLst mNil)))
  (mRet (mCall fMinT (mCons (mVar 5) mNil)))
  mSkip)
  (mSeq (mAsg (mBin opAdd (mVar 4) (mCall fListOU (mCons (mVar 3) mNil))) (gN 4))
  (mAsg (mDcT (mItems (mUser m_longer (mCons (mVar 0) (mCons (mVar 3) mNil)))) (.many [6, 7]) (mB (mBin opNotIn (mVar 6) (mVar 4))) (mVar 6) (mVar 7) [6, 7]) (gN 3))))) 2000)
  (mRet (mC .non))))
theorem fListOU_prL {α : Type} (pp : α → Nat × Nat) (v : α → D) {s : S} {n : Nat} {f : List α} (h : s[n]? = some (.dctTL (kvs pp v f))) : fListOU [.obj n] s = .ok (.obj s.length) (s ++ [.lst (f.map fun x => prD (pp x))]) := by
  simp [fListOU, dkeys, h, kvs, Function.comp_def]
theorem mItems_at {mo : ME} {ρ : Ev} {s s1 : S} {n : Nat} {f : List Cd} (hm : mo ρ s = .ok (.obj n) s1) (h : s1[n]? = some (.dctT (kvs cP cV f))) : mItems mo ρ s = .ok (.fix (f.map fun x => .tup [prD x.1, logD x.2])) (s1.set n (.dctTL (kvs cP cV f))) := by
  unfold mItems
  simp only [hm, R.bnd_ok, h]
  simp [kvs, Function.comp_def]
theorem Found.lt {y : Sys} (hy : y.Ok) {P : List (Nat × Nat)} (hP : ∀ p ∈ P, Lt y p) {k : Nat} {f : List Cd} (F : Found y P k f) : ∀ p w, (p, w) ∈ f → Lt y p ∧ w.length = k := fun p w h => by
  obtain ⟨_, ⟨⟨hv, p0, hp0, rfl⟩, hl⟩, _⟩ := (F.mem p w).1 h
  exact ⟨runP_lt hy hv (hP p0 hp0), hl⟩
theorem MinR.lt {y : Sys} (hy : y.Ok) {P : List (Nat × Nat)} (hP : ∀ p ∈ P, Lt y p) {p : Nat × Nat} {k : Nat} (h : MinR y P p k) : Lt y p := by
  obtain ⟨w, ⟨hv, p0, hp0, rfl⟩, _⟩ := h.hit
  exact runP_lt hy hv (hP p0 hp0)
theorem first_log_ok {y : Sys} (hy : y.Ok) {P E : List (Nat × Nat)} (hP : ∀ p ∈ P, Lt y p) (hPl : P.length ≤ 1000) {tab : List (Str × FM)} {m : Nat} {s : S}
    (hbad : ∀ (u : S) (ρ : Ev) (p : Nat × Nat), ρ[2]? = some (some (.obj m)) → ρ[6]? = some (some (prD p)) → Lt y p → mCallI tab (mVar 2) (mCons (mVar 6) mNil) ρ (s ++ u) = .ok (.bl (decide (p ∈ E))) (s ++ u)) :
    wp (flB tab [y.D, .lst (P.map prD), .obj m] s) fun d s' => (∃ t, s' = s ++ t) ∧ ((d = .non ∧ ∀ p ∈ P, ∀ w, ¬ Hit y E p w) ∨ ∃ w, d = logD w ∧ FirstLog y E P w) := by
  unfold flB
  rw [mFn_eq, wp_fin]
  have hi : initE 8 [y.D, .lst (P.map prD), .obj m] = [some y.D, some (.lst (P.map prD)), some (.obj m), none, none, none, none, none] := rfl
  rw [hi]
  obtain ⟨Q, hQ1, hQ2, hQ3⟩ := fold_putD (logD []) P [] (by simp)
  have dc : mDcT (mSrc (mVar 1)) (.one 6) mYes (mVar 6) (mTup mNil) [6] [some y.D, some (.lst (P.map prD)), some (.obj m), none, none, none, none, none] s = .ok (.obj s.length) (s ++ [.dctT (kvs cP cV (Q.map fun p => (p, [])))]) := by
    rw [mDcT_fix (α := Nat × Nat) (g := prD) (kf := prD) (vf := fun _ => logD []) (ky := pk) (s1 := s) (xs := P) (by simp) (by omega) rfl (fun p hp => ⟨_, rfl, by simp [wipeD], rfl, rfl⟩)]
    have e : P.foldl (fun a x => put keyT a (prD x) (pk x) (logD [])) [] = kvs cP cV (Q.map fun p => (p, [])) := by
      have : ([] : List (D × D)) = kvs (fun p : Nat × Nat => p) (fun _ => logD []) [] := rfl
      rw [this, hQ1]
      simp [kvs, Function.comp_def]
    rw [e]
  have tg2 : ∀ a b ρ s, (gT 2 (gConsM (gN 3) (gConsM (gN 4) gNilM))) (.tup [a, b]) ρ s = .ok ((ρ.set 3 (some a)).set 4 (some b)) s := fun a b ρ s => by simp
  rw [mSeq_eq, mAsg_eq]
  simp only [mTup_eq, mCons_eq, dc, R.bnd_ok, mLst_eq, mNil_eq, List.length_nil, Nat.zero_le, LIM_eq, if_true, List.length_cons, Nat.reduceAdd, Nat.reduceLeDiff, tg2, List.set_cons_succ, List.set_cons_zero, seqF_nx]
  rw [mSeq_eq, wp_bnd]
  refine wp_while (fun n ρ s' => ∃ (k : Nat) (f : List Cd) (L : List (Nat × Nat)) (u : S) (ix : Nat) (x5 x6 x7 : Option D), Found y P k f ∧ Seen y P k L ∧ (∀ j, j < k → ∀ p, MinR y P p j → p ∉ E) ∧ k ≤ L.length ∧ 2000 ≤ n + k ∧ s.length ≤ ix ∧ s' = s ++ u ∧ (s ++ u)[ix]? = some (.dctT (kvs cP cV f)) ∧
    ρ = [some y.D, some (.lst (P.map prD)), some (.obj m), some (.obj ix), some (.lst (L.map prD)), x5, x6, x7]) ?_ ?_ 2000 _ _ ⟨0, Q.map fun p => (p, []), [], [.dctT (kvs cP cV (Q.map fun p => (p, [])))], s.length, _, _, _, Found.start hQ2 (fun p => by rw [hQ3]; simp), ⟨by simp, fun p => by simp⟩, (fun j hj => by omega), Nat.zero_le _, by omega, Nat.le_refl _, rfl, by simp, rfl⟩
  · rintro ρ s' ⟨k, f, L, u, ix, x5, x6, x7, hF, hS, hno, hk, hf, _⟩
    have := pairs_len hy hS.nd fun p hp => by
      obtain ⟨j, _, hm⟩ := (hS.mem p).1 hp
      exact hm.lt hy hP
    omega
  · rintro n ρ s' ⟨k, f, L, u, ix, x5, x6, x7, hF, hS, hno, hk, hfu, hix, rfl, hg, rfl⟩
    have hlt := hF.lt hy hP
    have hL36 := pairs_len hy hS.nd fun p hp => by
      obtain ⟨j, _, hm⟩ := (hS.mem p).1 hp
      exact hm.lt hy hP
    have hf36 : f.length ≤ 36 := by
      have := pairs_len hy hF.nd fun p hp => by
        obtain ⟨⟨q, w⟩, hq, rfl⟩ := List.mem_map.1 hp
        exact (hlt q w hq).1
      simpa using this
    have hixl : ix < (s ++ u).length := (List.getElem?_eq_some_iff.1 hg).1
    have hnew : ∀ (ρ : Ev) (s : S), mNewT ρ s = .ok (.obj s.length) (s ++ [.dctT []]) := fun _ _ => rfl
    have hg1 : (s ++ u ++ [O.dctT []])[ix]? = some (.dctT (kvs cP cV f)) := by rw [List.getElem?_append_left hixl]; exact hg
    have ne : opNeE (.obj ix) (.obj (s ++ u).length) (s ++ u ++ [.dctT []]) = .ok (.bl (!decide (f.length = 0))) (s ++ u ++ [.dctT []]) := by
      have h2 : (s ++ u ++ [O.dctT []])[(s ++ u).length]? = some (.dctT []) := by simp
      have k1 : dkeys (s ++ u ++ [O.dctT []]) (.obj ix) = some ((kvs cP cV f).map (·.1)) := by simp only [dkeys, hg1]
      have k2 : dkeys (s ++ u ++ [O.dctT []]) (.obj (s ++ u).length) = some [] := by simp only [dkeys, h2, List.map_nil]
      unfold opNeE
      simp only [k1, k2]
      simp [kvs]
    simp only [mB_eq, mBin_eq, mVar_eq, get_0, List.getElem?_cons_succ, vg_some, R.bnd_ok, hnew, ne, asB_ok, wp_ok]
    by_cases hf0 : f.length = 0
    · rw [if_neg (by simp [hf0])]
      rw [List.length_eq_zero_iff] at hf0
      subst hf0
      simp only [seqF_nx, mRet_eq, mC_eq, R.bnd_ok, wp_ok, endQ_ret]
      exact ⟨⟨u ++ [.dctT []], by rw [List.append_assoc]⟩, .inl ⟨trivial, hF.last hno⟩⟩
    · rw [if_pos (by simp [hf0])]
      -- found is walked
      obtain ⟨u1, hu1⟩ : ∃ u1, (s ++ u ++ [O.dctT []]).set ix (.dctTL (kvs cP cV f)) = s ++ u1 := ⟨_, by rw [List.append_assoc, List.set_append_right _ _ hix]⟩
      have g2 : (s ++ u1)[ix]? = some (.dctTL (kvs cP cV f)) := by
        rw [← hu1, List.getElem?_set_self (by rw [List.length_append]; omega)]
      have c1 : ∀ x5 x6 x7 : Option D, lcF finL (.many [6, 7]) (mB (mCallI tab (mVar 2) (mCons (mVar 6) mNil))) (mVar 7) [6, 7] [some y.D, some (.lst (P.map prD)), some (.obj m), some (.obj ix), some (.lst (L.map prD)), x5, x6, x7] (.fix (f.map fun x => .tup [prD x.1, logD x.2])) (s ++ u1) = .ok (.lst (((f.filter fun x => decide (x.1 ∈ E)).map (·.2)).map logD)) (s ++ u1) := fun x5 x6 x7 => by
        rw [lcF_fix (by simp; omega) rfl, llc_filt (p := fun x : Cd => decide (x.1 ∈ E)) (g := fun x => logD x.2) _ _ (fun x hx => ⟨_, rfl, ?_, fun _ => ?_⟩)]
        · simp [Function.comp_def]
        · have hb := hbad u1 ([some y.D, some (.lst (P.map prD)), some (.obj m), some (.obj ix), some (.lst (L.map prD)), x5, some (prD x.1), some (logD x.2)]) x.1 rfl rfl (hlt x.1 x.2 hx).1
          simp only [wipeD, setAll, List.set_cons_succ, List.set_cons_zero, mB_eq, hb, R.bnd_ok, asB_ok]
        · simp [wipeD, setAll]
      have it1 := mItems_at (mo := mVar 3) (ρ := [some y.D, some (.lst (P.map prD)), some (.obj m), some (.obj ix), some (.lst (L.map prD)), x5, x6, x7]) (s := s ++ u ++ [.dctT []]) (s1 := s ++ u ++ [.dctT []]) rfl hg1
      rw [hu1] at it1
      have hFst : ∀ w, w ∈ (f.filter fun x => decide (x.1 ∈ E)).map (·.2) ↔ ∃ p, (p, w) ∈ f ∧ p ∈ E := fun w => by
        rw [List.mem_map]
        constructor
        · rintro ⟨⟨p, w'⟩, h1, rfl⟩
          obtain ⟨h2, h3⟩ := List.mem_filter.1 h1
          exact ⟨p, h2, of_decide_eq_true h3⟩
        · rintro ⟨p, h1, h2⟩
          exact ⟨(p, w), List.mem_filter.2 ⟨h1, decide_eq_true h2⟩, rfl⟩
      generalize hls : (f.filter fun x => decide (x.1 ∈ E)).map (·.2) = ls at c1 hFst
      rw [mSeq_eq, wp_bnd, mAsg_eq]
      simp only [mLcF_eq, it1, R.bnd_ok, c1, gN_eq, List.set_cons_succ, List.set_cons_zero, wp_ok, seqF_nx]
      rw [mSeq_eq, wp_bnd, mIfS_eq]
      simp only [mB_eq, mBin_eq, mVar_eq, get_0, List.getElem?_cons_succ, vg_some, R.bnd_ok, mLst_eq, mNil_eq, List.length_nil, Nat.zero_le, LIM_eq, if_true]
      rw [show opNe (.lst (ls.map logD)) (.lst []) (s ++ u1) = _ from opEq_lgs (fun b => !b) _ _]
      simp only [R.bnd_ok, asB_ok]
      cases hlse : ls with
      | cons l lr =>
        have hlen : ∀ x ∈ ls, x.length = k := fun x hx => by
          obtain ⟨p, hp, _⟩ := (hFst x).1 hx
          exact (hlt p x hp).2
        rw [hlse] at hlen hFst
        obtain ⟨m1, m2⟩ := foldl_minL (n := k) lr l (hlen l (by simp)) fun x hx => hlen x (by simp [hx])
        simp only [reduceCtorEq, decide_false, Bool.not_false, if_true, mRet_eq, mCall_eq, mCons_eq, mVar_eq, get_0, List.getElem?_cons_succ, vg_some, R.bnd_ok, mNil_eq, fMinT_log, wp_ok, seqF_ret, turnK_ret, endQ_ret]
        exact ⟨⟨u1, rfl⟩, .inr ⟨_, rfl, hF.first hno ((hFst _).1 m1) fun p w h1 h2 => m2 w ((hFst w).2 ⟨p, h1, h2⟩)⟩⟩
      | nil =>
        rw [hlse] at hFst
        have hno2 : ∀ j, j < k + 1 → ∀ p, MinR y P p j → p ∉ E := fun j hj p hm hE => by
          by_cases e : j = k
          · subst e
            obtain ⟨w, hw⟩ := hF.key p hm
            have := (hFst w).2 ⟨p, hw, hE⟩
            cases this
          · exact hno j (by omega) p hm hE
        have hS2 := hS.next hF
        have hL2 : L.length + f.length ≤ 1000000 := by omega
        have lo := fListOU_prL cP cV g2
        have ad : opAdd (.lst (L.map prD)) (.obj (s ++ u1).length) (s ++ u1 ++ [.lst (f.map fun x => prD (cP x))]) = .ok (.lst ((L ++ f.map (·.1)).map prD)) (s ++ u1 ++ [.lst (f.map fun x => prD (cP x))]) := by
          rw [opAdd_asX (asX_lst _ _) (asX_obj (xs := f.map fun x => prD (cP x)) (by simp)) (by simp; omega)]
          simp [Function.comp_def]
        have g3 : (s ++ u1 ++ [O.lst (f.map fun x => prD (cP x))])[ix]? = some (.dctTL (kvs cP cV f)) := by
          rw [List.getElem?_append_left (List.getElem?_eq_some_iff.1 g2).1]
          exact g2
        obtain ⟨d4, s4, e4, rfl, g, rfl, hB⟩ := (longer_ok hy (k := k) (by omega) hlt g3).ok
        generalize hs2 : s ++ u1 ++ [O.lst (f.map fun x => prD (cP x))] = s2 at ad g3 e4
        have hs2' : ∃ u2, s2 = s ++ u2 := ⟨u1 ++ [.lst (f.map fun x => prD (cP x))], by rw [← hs2, List.append_assoc]⟩
        have hB2 := Found.next hF hB hS2
        have hgl : g.length ≤ 36 := by
          have := pairs_len hy hB.nd fun q hq => by
            obtain ⟨⟨q', v⟩, hqg, rfl⟩ := List.mem_map.1 hq
            obtain ⟨hc, _⟩ := (hB.mem q' v).1 hqg
            obtain ⟨p', w', e', h1, h2, rfl, _⟩ := cands_mem.1 hc
            obtain ⟨⟨a, b⟩, _⟩ := hlt p' w' h1
            exact ⟨hy.step_lt a h2, hy.step_lt b h2⟩
          simpa using this
        have it2 : ∀ x5 x6 x7 : Option D, mItems (mUser m_longer (mCons (mVar 0) (mCons (mVar 3) mNil))) [some y.D, some (.lst (P.map prD)), some (.obj m), some (.obj ix), some (.lst ((L ++ f.map (·.1)).map prD)), x5, x6, x7] s2 = .ok (.fix (g.map fun x => .tup [prD x.1, logD x.2])) (s2 ++ [.dctTL (kvs cP cV g)]) := fun x5 x6 x7 => by
          rw [mItems_at (n := s2.length) (s1 := s2 ++ [.dctT (kvs cP cV g)]) (f := g) (by
            simp only [mUser_eq, mCons_eq, mVar_eq, get_0, List.getElem?_cons_succ, vg_some, R.bnd_ok, mNil_eq, e4, retag_ok]) (by simp)]
          rw [List.set_append_right _ _ (Nat.le_refl _)]
          simp
        have dc2 : ∀ x5 x6 x7 : Option D, mDcT (mItems (mUser m_longer (mCons (mVar 0) (mCons (mVar 3) mNil)))) (.many [6, 7]) (mB (mBin opNotIn (mVar 6) (mVar 4))) (mVar 6) (mVar 7) [6, 7] [some y.D, some (.lst (P.map prD)), some (.obj m), some (.obj ix), some (.lst ((L ++ f.map (·.1)).map prD)), x5, x6, x7] s2 =
            R.ok (D.obj (s2 ++ [O.dctTL (kvs cP cV g)]).length) (s2 ++ [O.dctTL (kvs cP cV g)] ++ [O.dctT (kvs cP cV (g.filter fun x => decide (x.1 ∉ L ++ f.map (·.1))))]) := fun x5 x6 x7 => by
          rw [mDcT_fixF (α := Cd) (g := fun x => .tup [prD x.1, logD x.2]) (kf := fun x => prD x.1) (vf := fun x => logD x.2) (ky := fun x => pk x.1) (c := fun x => decide (x.1 ∉ L ++ f.map (·.1))) (it2 x5 x6 x7) (by omega) rfl (fun x hx => ⟨_, rfl, ?_, fun _ => ⟨?_, ?_, rfl⟩⟩)]
          · have := fold_put cP cV (g.filter fun x => decide (x.1 ∉ L ++ f.map (·.1))) [] (by rw [List.nil_append]; exact hB2.nd)
            simp only [List.nil_append] at this
            rw [show ([] : List (D × D)) = kvs cP cV [] from rfl, this]
          · simp only [wipeD, setAll, List.set_cons_succ, List.set_cons_zero, mB_eq, mBin_eq, mVar_eq, get_0, List.getElem?_cons_succ, vg_some, R.bnd_ok]
            rw [show opNotIn (prD x.1) (.lst ((L ++ f.map (·.1)).map prD)) (s2 ++ [.dctTL (kvs cP cV g)]) = _ from opIn_prs (fun b => !b) _ _ _]
            simp only [R.bnd_ok, asB_ok]
            congr 1
            simp
          · simp [wipeD, setAll]
          · simp [wipeD, setAll]
        simp only [decide_true, Bool.not_true, Bool.false_eq_true, if_false, mSkip_eq, wp_ok, seqF_nx]
        rw [mSeq_eq, wp_bnd, mAsg_eq]
        simp only [mBin_eq, mVar_eq, get_0, List.getElem?_cons_succ, vg_some, R.bnd_ok, mCall_eq, mCons_eq, mNil_eq, lo, hs2, ad, gN_eq, List.set_cons_succ, List.set_cons_zero, wp_ok, seqF_nx]
        rw [mAsg_eq]
        simp only [dc2, R.bnd_ok, gN_eq, List.set_cons_succ, List.set_cons_zero, wp_ok, turnK_nx]
        obtain ⟨u2, rfl⟩ := hs2'
        refine ⟨k + 1, _, L ++ f.map (·.1), u2 ++ [.dctTL (kvs cP cV g), .dctT (kvs cP cV (g.filter fun x => decide (x.1 ∉ L ++ f.map (·.1))))], (s ++ u2 ++ [O.dctTL (kvs cP cV g)]).length, _, _, _, hB2, hS2, hno2, ?_, by omega, (by rw [List.length_append, List.length_append]; omega), by simp, by simp, rfl⟩
        rw [List.length_append, List.length_map]
        omega
end VL
namespace VL
open PySem PySem.Spec PyProof.Rows L2

/-! ### first logs between: both sides told as one -/
open Classical in
noncomputable def btwD (y : Sys) (E P : List (Nat × Nat)) : D := if h : ∃ w, FirstLog y E P w then logD h.choose else .non
theorem btw_eq {y : Sys} {E P : List (Nat × Nat)} {d : D} (h : (d = .non ∧ ∀ p ∈ P, ∀ w, ¬ Hit y E p w) ∨ ∃ w, d = logD w ∧ FirstLog y E P w) : d = btwD y E P := by
  unfold btwD
  rcases h with ⟨rfl, h⟩ | ⟨w, rfl, h⟩
  · rw [dif_neg]
    rintro ⟨w, hw⟩
    obtain ⟨p, hp, hh⟩ := hw.hit
    exact h p hp w hh
  · have he : ∃ w, FirstLog y E P w := ⟨w, h⟩
    rw [dif_pos he, h.uniq he.choose_spec]
theorem first_len {y : Sys} (hy : y.Ok) {E P : List (Nat × Nat)} (hE : E.Nodup) (hlE : ∀ p ∈ E, Lt y p) (hP : ∀ p ∈ P, Lt y p) {w : List Nat} (h : FirstLog y E P w) : LogOk y 40 w := by
  obtain ⟨_, _, _, _, f, _, _, hf⟩ := (steps_to_ok hy hE hlE []).ok
  obtain ⟨p, hp, hh⟩ := h.hit
  obtain ⟨d, hd, hm⟩ := minD_ex hh
  have h1 := hf.le p d ((hf.mem p d).2 ⟨hP p hp, hm⟩)
  obtain ⟨w', hw', hl'⟩ := hm.hit
  have h2 := h.min w' ⟨p, hp, hw'⟩
  exact ⟨by omega, hh.1⟩
theorem fine_btw {y : Sys} (hy : y.Ok) {E P : List (Nat × Nat)} (hE : E.Nodup) (hlE : ∀ p ∈ E, Lt y p) (hP : ∀ p ∈ P, Lt y p) : Fine 1 40 (btwD y E P) := by
  unfold btwD
  split
  · rename_i h
    exact fine_logOk hy (first_len hy hE hlE hP h.choose_spec)
  · exact fine_non _ _
theorem need_operation_ok {y : Sys} {a : Nat} (ha : a < y.ops.length) (s : S) : m_need_operation [y.D, nD a] s = .ok .non s := by
  unfold m_need_operation
  rw [mFn_eq]
  have hb : (0 : Int) ≤ (a : Int) ∧ (a : Int) ≤ (y.ops.length : Int) - 1 := by omega
  simp [initE, ix_ops, hb, nD]
theorem starts_lt {y : Sys} (hy : y.Ok) {a : Nat} (ha : a < y.ops.length) : ∀ p ∈ y.starts a, Lt y p := fun p hp => by
  obtain ⟨st, hst, rfl⟩ := List.mem_map.1 hp
  have := reach_lt hy hst
  exact ⟨hy.step_lt this ha, this⟩
theorem ends_lt {y : Sys} {b : Nat} : ∀ p ∈ y.ends b, Lt y p := fun p hp => prs_mem.1 (List.mem_filter.1 hp).1
theorem ends_nd {y : Sys} {b : Nat} : (y.ends b).Nodup := (prs_nodup _).filter _
theorem m_first_eq : m_first_log = flB [("Unlike", m_Unlike_call)] := rfl
theorem uncovered_log_ok {y : Sys} (hy : y.Ok) {a b : Nat} (ha : a < y.ops.length) (hb : b < y.ops.length) (s : S) : wp (m_uncovered_log [y.D, nD a, nD b] s) fun d s' => d = btwD y (y.ends b) (y.starts a) ∧ ∃ t, s' = s ++ t := by
  unfold m_uncovered_log
  rw [mFn_eq, wp_fin]
  have hi : initE 6 [y.D, nD a, nD b] = [some y.D, some (nD a), some (nD b), none, none, none] := rfl
  rw [hi]
  have oa : y.ops.getD a [] ∈ y.ops := by rw [List.getD_eq_getElem?_getD, List.getElem?_eq_getElem ha, Option.getD_some]; exact List.getElem_mem _
  have ob : y.ops.getD b [] ∈ y.ops := by rw [List.getD_eq_getElem?_getD, List.getElem?_eq_getElem hb, Option.getD_some]; exact List.getElem_mem _
  have obl := hy.ol _ ob
  have n1 : ∀ ρ : Ev, ρ[0]? = some (some y.D) → ρ[2]? = some (some (.int (b : Int))) → mNew "Unlike" m_Unlike_init (mCons (mBin opIx (mBin opIx (mVar 0) (mC (.int 2))) (mVar 2)) mNil) ρ s = .ok (.obj s.length) (s ++ [.ins "Unlike" [("operation", opD (y.ops.getD b []))]]) := fun ρ h0 h2 =>
    mNew_at (ds := [opD (y.ops.getD b [])]) (by simp only [mCons_eq, mBin_eq, mVar_eq, h0, h2, vg_some, mC_eq, R.bnd_ok, ix_ops, nD, ix_op hb, mNil_eq]) (unlike_new s _ trivial)
  have tg2 : ∀ a b ρ s, (gT 2 (gConsM (gN 3) (gConsM (gN 4) gNilM))) (.tup [a, b]) ρ s = .ok ((ρ.set 3 (some a)).set 4 (some b)) s := fun a b ρ s => by simp
  have rq := reached_eq hy (s ++ [O.ins "Unlike" [("operation", opD (y.ops.getD b []))]])
  have hs0 : (s ++ [O.ins "Unlike" [("operation", opD (y.ops.getD b []))]] ++ gar m_reached [y.D] (s ++ [O.ins "Unlike" [("operation", opD (y.ops.getD b []))]]))[s.length]? = some (.ins "Unlike" [("operation", opD (y.ops.getD b []))]) := by simp
  have hs1 : ∃ t, s ++ [O.ins "Unlike" [("operation", opD (y.ops.getD b []))]] ++ gar m_reached [y.D] (s ++ [O.ins "Unlike" [("operation", opD (y.ops.getD b []))]]) = s ++ t := ⟨_, by rw [List.append_assoc]⟩
  have e0 : mAsg (mTup (mCons (mBin opIx (mBin opIx (mVar 0) (mC (.int 2))) (mVar 1)) (mCons (mNew "Unlike" m_Unlike_init (mCons (mBin opIx (mBin opIx (mVar 0) (mC (.int 2))) (mVar 2)) mNil)) mNil))) (gT 2 (gConsM (gN 3) (gConsM (gN 4) gNilM)))
      [some y.D, some (nD a), some (nD b), none, none, none] s = .ok (.nx [some y.D, some (nD a), some (nD b), some (opD (y.ops.getD a [])), some (.obj s.length), none]) (s ++ [.ins "Unlike" [("operation", opD (y.ops.getD b []))]]) := by
    simp only [mAsg_eq, mTup_eq, mCons_eq, mBin_eq, mVar_eq, get_0, List.getElem?_cons_succ, vg_some, mC_eq, R.bnd_ok, ix_ops, nD, ix_op ha, mNil_eq, n1, List.length_cons, List.length_nil, Nat.reduceAdd, LIM_eq, Nat.reduceLeDiff, if_true, tg2, List.set_cons_succ, List.set_cons_zero]
  rw [mSeq_eq, e0]
  simp only [R.bnd_ok, seqF_nx]
  generalize s ++ [O.ins "Unlike" [("operation", opD (y.ops.getD b []))]] ++ gar m_reached [y.D] (s ++ [O.ins "Unlike" [("operation", opD (y.ops.getD b []))]]) = s0 at rq hs0 hs1
  have k2 : ∀ s2 : S, lcF finL (.one 5) mYes (mTup (mCons (mBin opIx (mVar 3) (mVar 5)) (mCons (mVar 5) mNil))) [5] [some y.D, some (nD a), some (nD b), some (opD (y.ops.getD a [])), some (.obj s.length), none] (.fix (y.reach.map nD)) s2 = .ok (.lst ((y.starts a).map prD)) s2 := fun s2 => by
    rw [lcF_fix (by have := reach_len hy; have := hy.m6; simp; omega) rfl, llc_map (g := fun st => prD (y.step st a, st)) _ _ (fun st hst => ⟨_, rfl, ?_⟩)]
    · simp [Sys.starts, Function.comp_def]
    · have j1 := ix_o hy oa (reach_lt hy hst) s2
      rw [getD_step ha] at j1
      simp only [mTup_eq, mCons_eq, mBin_eq, mVar_eq, wipeD, nD, List.set_cons_succ, List.set_cons_zero, get_0, List.getElem?_cons_succ, vg_some, R.bnd_ok, j1, mNil_eq, List.length_cons, List.length_nil, Nat.reduceAdd, LIM_eq, Nat.reduceLeDiff, if_true]
      rfl
  have sq : ∀ s, srcF (logD y.reach) s = .ok (.fix (y.reach.map nD)) s := fun s => rfl
  simp only [mRet_eq, mUser_eq, mCons_eq, mLcF_eq, mSrc_eq, mVar_eq, get_0, List.getElem?_cons_succ, vg_some, R.bnd_ok, mNil_eq, rq, retag_ok, sq, k2, wp_bnd, wp_retag]
  rw [m_first_eq]
  refine (first_log_ok hy (E := y.ends b) (P := y.starts a) (starts_lt hy ha) (by have := reach_len hy; have := hy.m6; simp [Sys.starts]; omega) (fun u ρ p h2 h6 hp => ?_)).mono ?_
  · have hins : (s0 ++ u)[s.length]? = some (.ins "Unlike" [("operation", opD (y.ops.getD b []))]) := by
      rw [List.getElem?_append_left (List.getElem?_eq_some_iff.1 hs0).1]
      exact hs0
    rw [mCallI_at (n := s.length) (ds := [prD p]) (by simp [h2]) (by simp [h6]) hins, unlike_ok hins (by omega) (by omega)]
    simp only [retag_ok]
    congr 2
    rw [Bool.eq_iff_iff, Bool.not_eq_true', decide_eq_false_iff_not, decide_eq_true_eq]
    unfold Sys.ends
    rw [List.mem_filter, prs_mem, Bool.not_eq_true', decide_eq_false_iff_not]
    constructor
    · intro h
      exact ⟨hp, h⟩
    · rintro ⟨_, h⟩
      exact h
  · rintro d s' ⟨⟨t, rfl⟩, h⟩
    obtain ⟨v, rfl⟩ := hs1
    simp only [wp_ok, endQ_ret]
    exact ⟨btw_eq h, _, List.append_assoc ..⟩
theorem uncovered_ok {y : Sys} (hy : y.Ok) {a b : Nat} (ha : a < y.ops.length) (hb : b < y.ops.length) (s : S) : wp (m_uncovered [y.D, nD a, nD b] s) fun d s' => d = btwD y (y.ends b) (y.starts a) ∧ ∃ t, s' = s ++ t := by
  unfold m_uncovered
  rw [mFn_eq, wp_fin]
  have hi : initE 3 [y.D, nD a, nD b] = [some y.D, some (nD a), some (nD b)] := rfl
  rw [hi]
  simp only [mSeq_eq, mDrop_eq, mUser_eq, mCons_eq, mVar_eq, get_0, List.getElem?_cons_succ, vg_some, R.bnd_ok, mNil_eq, need_system_ok hy, need_operation_ok ha, need_operation_ok hb, retag_ok, seqF_nx, mRet_eq, wp_bnd, wp_retag]
  refine (uncovered_log_ok hy ha hb s).mono ?_
  rintro d s' ⟨rfl, t, rfl⟩
  simp only [wp_ok, endQ_ret]
  exact ⟨trivial, t, rfl⟩
theorem uncovered_eq {y : Sys} (hy : y.Ok) {a b : Nat} (ha : a < y.ops.length) (hb : b < y.ops.length) (s : S) : m_uncovered [y.D, nD a, nD b] s = .ok (btwD y (y.ends b) (y.starts a)) (s ++ gar m_uncovered [y.D, nD a, nD b] s) := eq_gar (uncovered_ok hy ha hb s)
theorem law_uncovered_eq {y : Sys} (hy : y.Ok) {a b : Nat} (ha : a < y.ops.length) (hb : b < y.ops.length) (s : S) : m__law_uncovered [y.D, nD a, nD b] s = .ok (btwD y (y.ends b) (y.starts a)) (s ++ gar m__law_uncovered [y.D, nD a, nD b] s) :=
  eq_gar ((law_uncovered_ok hy ha hb s).mono fun d s' ⟨ht, h⟩ => ⟨btw_eq (h.imp (fun z => ⟨z.1, (cov_iff hy ha).1 z.2⟩) fun ⟨w, h1, _, h2⟩ => ⟨w, h1, h2⟩), ht⟩)
end VL
namespace VL
open PySem PySem.Spec PyProof.Rows L2

/-! ### operations delivered again: Moved, both sides -/
def Sys.endsM (y : Sys) (b : Nat) : List (Nat × Nat) := ((List.range y.many).filter fun st => !decide (y.step st b = st)).map fun st => (st, st)
def Sys.startsM (y : Sys) (b : Nat) : List (Nat × Nat) := y.reach.map fun st => (y.step st b, y.step st b)
def Sys.endsP (y : Sys) (b : Nat) : List (Nat × Nat) := (prs y.many).filter fun p => !decide (y.step p.1 b = p.1)
theorem startsM_lt {y : Sys} (hy : y.Ok) {b : Nat} (hb : b < y.ops.length) : ∀ p ∈ y.startsM b, Lt y p := fun p hp => by
  obtain ⟨st, hst, rfl⟩ := List.mem_map.1 hp
  have := hy.step_lt (reach_lt hy hst) hb
  exact ⟨this, this⟩
theorem endsM_lt {y : Sys} {b : Nat} : ∀ p ∈ y.endsM b, Lt y p := fun p hp => by
  obtain ⟨st, hst, rfl⟩ := List.mem_map.1 hp
  have := List.mem_range.1 (List.mem_filter.1 hst).1
  exact ⟨this, this⟩
theorem endsM_nd {y : Sys} {b : Nat} : (y.endsM b).Nodup := nodup_map (fun x _ z _ e => (Prod.mk.inj e).1) (List.nodup_range.filter _)
theorem hit_same {y : Sys} (hy : y.Ok) {b : Nat} (hb : b < y.ops.length) {p : Nat × Nat} (hp : p ∈ y.startsM b) (w : List Nat) : Hit y (y.endsP b) p w ↔ Hit y (y.endsM b) p w := by
  obtain ⟨st, hst, rfl⟩ := List.mem_map.1 hp
  have hl := hy.step_lt (reach_lt hy hst) hb
  constructor
  · rintro ⟨hv, h⟩
    obtain ⟨h1, h2⟩ := List.mem_filter.1 h
    exact ⟨hv, List.mem_map.2 ⟨y.run (y.step st b) w, List.mem_filter.2 ⟨List.mem_range.2 (prs_mem.1 h1).1, h2⟩, rfl⟩⟩
  · rintro ⟨hv, h⟩
    obtain ⟨x, hx, e⟩ := List.mem_map.1 h
    obtain ⟨h1, h2⟩ := List.mem_filter.1 hx
    have ex : x = y.run (y.step st b) w := (Prod.mk.inj e).1
    subst ex
    exact ⟨hv, List.mem_filter.2 ⟨prs_mem.2 (runP_lt hy hv ⟨hl, hl⟩), h2⟩⟩
theorem FirstLog.congr {y : Sys} {E E' P : List (Nat × Nat)} (h : ∀ p ∈ P, ∀ w, Hit y E p w ↔ Hit y E' p w) {w : List Nat} (F : FirstLog y E P w) : FirstLog y E' P w := by
  have h2 : ∀ w, (∃ p ∈ P, Hit y E' p w) → ∃ p ∈ P, Hit y E p w := fun w ⟨p, hp, hh⟩ => ⟨p, hp, (h p hp w).2 hh⟩
  obtain ⟨p, hp, hh⟩ := F.hit
  exact ⟨⟨p, hp, (h p hp w).1 hh⟩, fun w' hw' => F.min w' (h2 w' hw'), fun w' hw' => F.lex w' (h2 w' hw')⟩
theorem moved_new (s : S) (x : D) : m_Moved_init [.obj s.length, x] (s ++ [.ins "Moved" []]) = .ok .non (s ++ [.ins "Moved" [("operation", x)]]) := by
  unfold m_Moved_init
  rw [mFn_eq]
  have g : (s ++ [O.ins "Moved" []])[s.length]? = some (.ins "Moved" []) := by simp
  have k : mSetFld ["Moved"] "operation" (mVar 0) (mVar 1) [some (.obj s.length), some x] (s ++ [.ins "Moved" []]) = .ok (.nx [some (.obj s.length), some x]) (s ++ [.ins "Moved" [("operation", x)]]) := by
    unfold mSetFld
    simp only [mVar_eq, List.getElem?_cons_succ, get_0, vg_some, R.bnd_ok, g]
    rw [if_pos ⟨List.mem_singleton.2 rfl, by decide⟩]
    simp [putFD]
  show fin (mSetFld ["Moved"] "operation" (mVar 0) (mVar 1) [some (.obj s.length), some x] (s ++ [.ins "Moved" []])) = _
  rw [k]
  rfl
theorem moved_ok {s : S} {n : Nat} {o : List Nat} (h : s[n]? = some (.ins "Moved" [("operation", opD o)])) {p : Nat × Nat} (h1 : p.1 < o.length) : m_Moved_call [.obj n, prD p] s = .ok (.bl (!decide (o.getD p.1 0 = p.1))) s := by
  unfold m_Moved_call
  rw [mFn_eq]
  have fl : mFld ["Moved"] "operation" (mVar 0) [some (.obj n), some (prD p)] s = .ok (opD o) s := mFld_at (n := n) (by simp) h (List.mem_singleton.2 rfl) (by simp)
  have e1 : opIx (prD p) (.int 0) s = .ok (.int (p.1 : Int)) s := by simp [prD]
  have i1 : opIx (opD o) (.int (p.1 : Int)) s = .ok (.int (o.getD p.1 0 : Nat)) s := by simp [opD, h1]
  have hi : initE 2 [.obj n, prD p] = [some (.obj n), some (prD p)] := rfl
  rw [hi]
  simp only [mRet_eq, mBin_eq, fl, R.bnd_ok, mVar_eq, mC_eq, List.getElem?_cons_succ, get_0, vg_some, e1, i1]
  rw [show opNe (.int (o.getD p.1 0 : Nat)) (.int (p.1 : Nat)) s = _ from opNe_nD (fun b => !b) _ _ s]
  rfl
/-- the program's unsteady: from its body on -/
noncomputable def unsB : FM := mFn 4 (mSeq (mDrop (mUser m_need_system (mCons (mVar 0) mNil)))
  (mSeq (mDrop (mUser m_need_operation (mCons (mVar 0) (mCons (mVar 1) mNil))))
  (mSeq (mAsg (mBin opIx (mBin opIx (mVar 0) (mC (.int 2))) (mVar 1)) (gN 2))
  (mRet (mUser (flB [("Moved", m_Moved_call)]) (mCons (mVar 0) (mCons (mLc (mSrc (mUser m_reached (mCons (mVar 0) mNil))) (.one 3) mYes (mTup (mCons (mBin opIx (mVar 2) (mVar 3)) (mCons (mBin opIx (mVar 2) (mVar 3)) mNil))) [3]) (mCons (mNew "Moved" m_Moved_init (mCons (mVar 2) mNil)) mNil))))))))
theorem unsteady_ok {y : Sys} (hy : y.Ok) {b : Nat} (hb : b < y.ops.length) (s : S) : wp (unsB [y.D, nD b] s) fun d s' => d = btwD y (y.endsM b) (y.startsM b) ∧ ∃ t, s' = s ++ t := by
  unfold unsB
  rw [mFn_eq, wp_fin]
  have hi : initE 4 [y.D, nD b] = [some y.D, some (nD b), none, none] := rfl
  rw [hi]
  have ob : y.ops.getD b [] ∈ y.ops := by rw [List.getD_eq_getElem?_getD, List.getElem?_eq_getElem hb, Option.getD_some]; exact List.getElem_mem _
  have obl := hy.ol _ ob
  have ib := fun s => ix_op (y := y) hb s
  have rq := reached_eq hy s
  generalize hs1 : s ++ gar m_reached [y.D] s = s1 at rq
  have hst : ∃ v, s1 = s ++ v := ⟨_, hs1.symm⟩
  have sq : ∀ s, srcF (logD y.reach) s = .ok (.fix (y.reach.map nD)) s := fun s => rfl
  have k2 : ∀ s2 : S, lcF finL (.one 3) mYes (mTup (mCons (mBin opIx (mVar 2) (mVar 3)) (mCons (mBin opIx (mVar 2) (mVar 3)) mNil))) [3] [some y.D, some (nD b), some (opD (y.ops.getD b [])), none] (.fix (y.reach.map nD)) s2 = .ok (.lst ((y.startsM b).map prD)) s2 := fun s2 => by
    rw [lcF_fix (by have := reach_len hy; have := hy.m6; simp; omega) rfl, llc_map (g := fun st => prD (y.step st b, y.step st b)) _ _ (fun st hst => ⟨_, rfl, ?_⟩)]
    · simp [Sys.startsM, Function.comp_def]
    · have j1 := ix_o hy ob (reach_lt hy hst) s2
      rw [getD_step hb] at j1
      simp only [mTup_eq, mCons_eq, mBin_eq, mVar_eq, wipeD, nD, List.set_cons_succ, List.set_cons_zero, get_0, List.getElem?_cons_succ, vg_some, R.bnd_ok, j1, mNil_eq, List.length_cons, List.length_nil, Nat.reduceAdd, LIM_eq, Nat.reduceLeDiff, if_true]
      rfl
  have n1 : mNew "Moved" m_Moved_init (mCons (mVar 2) mNil) [some y.D, some (nD b), some (opD (y.ops.getD b [])), none] s1 = .ok (.obj s1.length) (s1 ++ [.ins "Moved" [("operation", opD (y.ops.getD b []))]]) :=
    mNew_at (ds := [opD (y.ops.getD b [])]) rfl (moved_new s1 _)
  simp only [nD] at k2 n1 ⊢
  simp only [mSeq_eq, mDrop_eq, mUser_eq, mCons_eq, mVar_eq, get_0, List.getElem?_cons_succ, vg_some, R.bnd_ok, mNil_eq, need_system_ok hy, show m_need_operation [y.D, .int (b : Int)] s = .ok .non s from need_operation_ok hb s, retag_ok, seqF_nx, mAsg_eq, mBin_eq, mC_eq, ix_ops, ib, gN_eq, List.set_cons_succ, List.set_cons_zero, mRet_eq, mLcF_eq, mSrc_eq, rq, sq, k2, n1, wp_bnd, wp_retag]
  refine (first_log_ok hy (E := y.endsP b) (P := y.startsM b) (startsM_lt hy hb) (by have := reach_len hy; have := hy.m6; simp [Sys.startsM]; omega) (fun u ρ p h2 h6 hp => ?_)).mono ?_
  · have hins : (s1 ++ [O.ins "Moved" [("operation", opD (y.ops.getD b []))]] ++ u)[s1.length]? = some (.ins "Moved" [("operation", opD (y.ops.getD b []))]) := by simp
    rw [mCallI_at (n := s1.length) (ds := [prD p]) (by simp [h2]) (by simp [h6]) hins, moved_ok hins (by omega)]
    simp only [retag_ok]
    congr 2
    rw [Bool.eq_iff_iff, Bool.not_eq_true', decide_eq_false_iff_not, decide_eq_true_eq]
    unfold Sys.endsP
    rw [List.mem_filter, prs_mem, Bool.not_eq_true', decide_eq_false_iff_not]
    constructor
    · intro h
      exact ⟨hp, h⟩
    · rintro ⟨_, h⟩
      exact h
  · rintro d s' ⟨⟨t, rfl⟩, h⟩
    obtain ⟨v, rfl⟩ := hst
    simp only [wp_ok, endQ_ret]
    refine ⟨btw_eq (h.imp (fun z => ⟨z.1, fun p hp w hw => z.2 p hp w ((hit_same hy hb hp w).2 hw)⟩) fun ⟨w, h1, h2⟩ => ⟨w, h1, h2.congr fun p hp w => hit_same hy hb hp w⟩), v ++ ([O.ins "Moved" [("operation", opD (y.ops.getD b []))]] ++ t), ?_⟩
    simp only [List.append_assoc]
theorem unsteady_eq {y : Sys} (hy : y.Ok) {b : Nat} (hb : b < y.ops.length) (s : S) : unsB [y.D, nD b] s = .ok (btwD y (y.endsM b) (y.startsM b)) (s ++ gar unsB [y.D, nD b] s) := eq_gar (unsteady_ok hy hb s)
end VL
namespace VL
open PySem PySem.Spec PyProof.Rows L2

/-! ### for k21, k26: thinning, steadiness -/
theorem pick_pre {q : Nat → List Nat → Bool} : ∀ (l p p' : List Nat), pickL (fun _ e r => q e r) p l = pickL (fun _ e r => q e r) p' l
  | [], _, _ => rfl
  | e :: l, p, p' => by
    unfold pickL
    rw [pick_pre l (p ++ [e]) (p' ++ [e])]
theorem thin_cons (y : Sys) (e : Nat) (l : List Nat) : y.thin (e :: l) = if (l.any fun x => y.cov e x) = true then y.thin l else e :: y.thin l := by
  have h : ∀ p, pickL (thinP y) p l = y.thin l := fun p => pick_pre (q := fun e r => !(r.any fun x => y.cov e x)) l p []
  show pickL (thinP y) [] (e :: l) = _
  conv => lhs; unfold pickL
  rw [h]
  unfold thinP
  cases l.any fun x => y.cov e x <;> rfl
theorem thin_thin (y : Sys) : ∀ l : List Nat, y.thin (y.thin l) = y.thin l
  | [] => rfl
  | e :: l => by
    rw [thin_cons]
    by_cases h : (l.any fun x => y.cov e x) = true
    · rw [if_pos h, thin_thin y l]
    · rw [if_neg h, thin_cons, if_neg, thin_thin y l]
      intro z
      obtain ⟨x, hx, hc⟩ := List.any_eq_true.1 z
      exact h (List.any_eq_true.2 ⟨x, thin_sub y hx, hc⟩)
theorem cov_true {y : Sys} {a b : Nat} : y.cov a b = true ↔ y.Cov a b := by simp [Sys.cov]
theorem cov_drop {y : Sys} {e x st : Nat} {w r : List Nat} (h : y.Cov e x) (hst : st ∈ y.reach) (hw : Vl y w) : y.run st (e :: (w ++ x :: r)) = y.run st (w ++ x :: r) := by
  have := h st hst w hw
  rw [run_cons, run_app, run_app, run_cons, run_cons, this]
theorem run_thin {y : Sys} (hy : y.Ok) : ∀ {l : List Nat} {st : Nat}, Vl y l → st ∈ y.reach → y.run st (y.thin l) = y.run st l
  | [], _, _, _ => rfl
  | e :: l, st, hl, hst => by
    have he := hl e (List.mem_cons_self ..)
    have hl2 : Vl y l := fun x hx => hl x (List.mem_cons_of_mem _ hx)
    rw [thin_cons]
    by_cases h : (l.any fun x => y.cov e x) = true
    · rw [if_pos h, run_thin hy hl2 hst]
      obtain ⟨x, hx, hc⟩ := List.any_eq_true.1 h
      obtain ⟨w, r, rfl⟩ := List.append_of_mem hx
      exact (cov_drop (cov_true.1 hc) hst fun z hz => hl2 z (List.mem_append_left _ hz)).symm
    · rw [if_neg h, run_cons, run_cons, run_thin hy hl2 (reach_step hy hst he)]
/-- uncovered tells nothing just where it is covered -/
theorem btw_none {y : Sys} {E P : List (Nat × Nat)} : btwD y E P = .non ↔ ¬ ∃ w, FirstLog y E P w := by
  unfold btwD
  constructor
  · intro h z
    rw [dif_pos z] at h
    cases h
  · intro h
    rw [dif_neg h]
theorem btw_some {y : Sys} {E P : List (Nat × Nat)} (h : ∃ w, FirstLog y E P w) : ∃ w, btwD y E P = logD w ∧ FirstLog y E P w := by
  unfold btwD
  rw [dif_pos h]
  exact ⟨_, rfl, h.choose_spec⟩
theorem btw_cov {y : Sys} (hy : y.Ok) {a b : Nat} (ha : a < y.ops.length) (hb : b < y.ops.length) : (btwD y (y.ends b) (y.starts a) = .non ∧ y.Cov a b) ∨ ∃ w, btwD y (y.ends b) (y.starts a) = logD w ∧ ¬ y.Cov a b ∧ FirstLog y (y.ends b) (y.starts a) w := by
  obtain ⟨d, s', e, _, h⟩ := (law_uncovered_ok hy ha hb []).ok
  have hd : d = btwD y (y.ends b) (y.starts a) := btw_eq (h.imp (fun z => ⟨z.1, (cov_iff hy ha).1 z.2⟩) fun ⟨w, h1, _, h2⟩ => ⟨w, h1, h2⟩)
  rw [hd] at h
  exact h
/-- an operation that may be delivered again -/
def Sys.Steady (y : Sys) (b : Nat) : Prop := ∀ st ∈ y.reach, ∀ w, Vl y w → y.step (y.run (y.step st b) w) b = y.run (y.step st b) w
theorem steady_iff {y : Sys} (hy : y.Ok) {b : Nat} (hb : b < y.ops.length) : y.Steady b ↔ ∀ p ∈ y.startsM b, ∀ w, ¬ Hit y (y.endsM b) p w := by
  constructor
  · rintro h p hp w hh
    obtain ⟨hv, hw⟩ := (hit_same hy hb hp w).2 hh
    obtain ⟨st, hst, rfl⟩ := List.mem_map.1 hp
    have := (List.mem_filter.1 hw).2
    simp only [Bool.not_eq_true', decide_eq_false_iff_not] at this
    exact this (h st hst w hv)
  · intro h st hst w hv
    refine Classical.byContradiction fun hn => ?_
    have hp : (y.step st b, y.step st b) ∈ y.startsM b := List.mem_map.2 ⟨st, hst, rfl⟩
    refine h _ hp w ((hit_same hy hb hp w).1 ⟨hv, List.mem_filter.2 ⟨prs_mem.2 (runP_lt hy hv (startsM_lt hy hb _ hp)), ?_⟩⟩)
    simp only [Bool.not_eq_true', decide_eq_false_iff_not]
    exact hn
/-- short logs are enough -/
theorem steady_short {y : Sys} (hy : y.Ok) {b : Nat} (hb : b < y.ops.length) (h2 : ∀ st ∈ y.reach, y.run st [b, b] = y.run st [b]) (h3 : ∀ st ∈ y.reach, ∀ c, c < y.ops.length → y.run st [b, c, b] = y.run st [b, c]) : y.Steady b := by
  intro st hst w hw
  have key : ∀ w, Vl y w → y.step (y.run (y.step st b) w) b = y.run (y.step st b) w := by
    intro w
    induction hn : w.length generalizing w with
    | zero =>
      intro _
      rw [List.length_eq_zero_iff] at hn
      subst hn
      exact h2 st hst
    | succ n ih =>
      intro hw
      obtain ⟨u, c, rfl⟩ : ∃ u c, w = u ++ [c] := ⟨w.dropLast, w.getLast (by intro z; subst z; cases hn), (List.dropLast_concat_getLast _).symm⟩
      have hu : Vl y u := fun x hx => hw x (List.mem_append_left _ hx)
      have hc := hw c (by simp)
      have hz := ih u (by simpa using hn) hu
      have hr : y.run (y.step st b) u ∈ y.reach := reach_run hy (reach_step hy hst hb) hu
      have := h3 _ hr c hc
      rw [run_snoc]
      show y.step (y.step (y.run (y.step st b) u) c) b = y.step (y.run (y.step st b) u) c
      have e3 : y.step (y.step (y.step (y.run (y.step st b) u) b) c) b = y.step (y.step (y.run (y.step st b) u) b) c := this
      rwa [hz] at e3
  exact key w hw
end VL
namespace VL
open PySem PySem.Spec PyProof.Rows L2

/-! ### is_telling, shows_uncovered -/
def Sys.tell (y : Sys) (a b : Nat) (w : List Nat) : Bool := y.reach.any fun st => !decide (y.run st (a :: (w ++ [b])) = y.run st (w ++ [b]))
theorem findSome_if {α β : Type} (c : α → Bool) (d : β) (xs : List α) : (xs.findSome? fun x => if c x = true then some d else none) = if xs.any c = true then some d else none := by
  induction xs with
  | nil => rfl
  | cons x xs ih =>
    rw [List.findSome?_cons, List.any_cons]
    cases h : c x with
    | true => simp
    | false => simp only [Bool.false_eq_true, if_false, Bool.false_or]; exact ih
theorem is_telling_ok {y : Sys} (hy : y.Ok) {a b : Nat} (ha : a < y.ops.length) (hb : b < y.ops.length) {w : List Nat} (hw : Vl y w) (hl : w.length ≤ 1000) (s : S) : wp (m_is_telling [y.D, nD a, nD b, logD w] s) fun d s' => d = .bl (y.tell a b w) ∧ ∃ t, s' = s ++ t := by
  unfold m_is_telling
  rw [mFn_eq, wp_fin]
  have hi : initE 6 [y.D, nD a, nD b, logD w] = [some y.D, some (nD a), some (nD b), some (logD w), none, none] := rfl
  rw [hi]
  have ad : ∀ s, opAdd (logD w) (.tup [nD b]) s = .ok (logD (w ++ [b])) s := fun s => opAdd_log (a := w) (b := [b]) (by simp; omega) s
  have ad2 : ∀ s, opAdd (.tup [nD a]) (logD (w ++ [b])) s = .ok (logD (a :: (w ++ [b]))) s := fun s => opAdd_log (a := [a]) (b := w ++ [b]) (by simp; omega) s
  have hwb : Vl y (w ++ [b]) := hw.snoc hb
  have hawb : Vl y (a :: (w ++ [b])) := fun x hx => by
    rcases List.mem_cons.1 hx with rfl | hx
    · exact ha
    · exact hwb x hx
  have sq : ∀ s, srcF (logD y.reach) s = .ok (.fix (y.reach.map nD)) s := fun s => rfl
  simp only [mSeq_eq, mAsg_eq, mBin_eq, mVar_eq, get_0, List.getElem?_cons_succ, vg_some, R.bnd_ok, mTup_eq, mCons_eq, mNil_eq, List.length_cons, List.length_nil, Nat.reduceAdd, LIM_eq, Nat.reduceLeDiff, if_true, ad, gN_eq, List.set_cons_succ, List.set_cons_zero, seqF_nx, mFor_eq, mSrc_eq, mUser_eq, reached_eq hy, retag_ok, sq, forF_fix, wp_bnd]
  refine wp_find (f := nD) (fun ρ s' => (∃ x5, ρ = [some y.D, some (nD a), some (nD b), some (logD w), some (logD (w ++ [b])), x5]) ∧ ∃ t, s' = s ++ t) (fun s' => ∃ t, s' = s ++ t) (fun st => if (!decide (y.run st (a :: (w ++ [b])) = y.run st (w ++ [b]))) = true then some (.bl true) else none) _ _ _ ⟨⟨_, rfl⟩, _, rfl⟩ ?_ ?_ ?_
  · rintro st hst ρ s' ⟨⟨x5, rfl⟩, t, rfl⟩
    have r1 := fun s => run_from_ok hy (reach_lt hy hst) hawb s
    have r2 := fun s => run_from_ok hy (reach_lt hy hst) hwb s
    have ne : ∀ s : S, opNe (nD (y.run st (a :: (w ++ [b])))) (nD (y.run st (w ++ [b]))) s = .ok (.bl (!decide (y.run st (a :: (w ++ [b])) = y.run st (w ++ [b])))) s := fun s => opNe_nD (fun b => !b) _ _ s
    simp only [gN_eq, wp_ok, List.set_cons_succ, List.set_cons_zero, mIfS_eq, mB_eq, mBin_eq, mUser_eq, mCons_eq, mVar_eq, get_0, List.getElem?_cons_succ, vg_some, R.bnd_ok, mTup_eq, mNil_eq, List.length_cons, List.length_nil, Nat.reduceAdd, LIM_eq, Nat.reduceLeDiff, if_true, ad2, r1, r2, retag_ok, ne, asB_ok]
    cases hc : !decide (y.run st (a :: (w ++ [b])) = y.run st (w ++ [b])) with
    | true => simp
    | false => simp
  · intro r s' e hi
    rw [findSome_if] at e
    simp only [seqF_ret, wp_ok, endQ_ret]
    refine ⟨?_, hi⟩
    split at e
    · rename_i h
      cases e
      rw [show y.tell a b w = true from h]
    · cases e
  · rintro ρ' s' e ⟨⟨x5, rfl⟩, hi⟩
    rw [findSome_if] at e
    simp only [seqF_nx, mRet_eq, mC_eq, R.bnd_ok, wp_ok, endQ_ret]
    refine ⟨?_, hi⟩
    split at e
    · cases e
    · rename_i h
      rw [show y.tell a b w = false by simpa [Sys.tell] using h]
theorem is_telling_eq {y : Sys} (hy : y.Ok) {a b : Nat} (ha : a < y.ops.length) (hb : b < y.ops.length) {w : List Nat} (hw : Vl y w) (hl : w.length ≤ 1000) (s : S) : m_is_telling [y.D, nD a, nD b, logD w] s = .ok (.bl (y.tell a b w)) (s ++ gar m_is_telling [y.D, nD a, nD b, logD w] s) := eq_gar (is_telling_ok hy ha hb hw hl s)
theorem uncovered_log_eq {y : Sys} (hy : y.Ok) {a b : Nat} (ha : a < y.ops.length) (hb : b < y.ops.length) (s : S) : m_uncovered_log [y.D, nD a, nD b] s = .ok (btwD y (y.ends b) (y.starts a)) (s ++ gar m_uncovered_log [y.D, nD a, nD b] s) := eq_gar (uncovered_log_ok hy ha hb s)
theorem shows_unc_log {y : Sys} (hy : y.Ok) {a b : Nat} (ha : a < y.ops.length) (hb : b < y.ops.length) {w : List Nat} (hw : Vl y w) (hl : w.length ≤ 1000) (s : S) : m_shows_uncovered [y.D, nD a, nD b, logD w] s = .ok (.bl (y.tell a b w)) (s ++ gar m_is_telling [y.D, nD a, nD b, logD w] s) := by
  unfold m_shows_uncovered
  rw [mFn_eq]
  have hi : initE 4 [y.D, nD a, nD b, logD w] = [some y.D, some (nD a), some (nD b), some (logD w)] := rfl
  rw [hi]
  have isn : ∀ s : S, opIsN (logD w) .non s = .ok (.bl false) s := fun s => by rw [opIsN_eq]; rfl
  simp only [mSeq_eq, mDrop_eq, mUser_eq, mCons_eq, mVar_eq, get_0, List.getElem?_cons_succ, vg_some, R.bnd_ok, mNil_eq, need_system_ok hy, need_operation_ok ha, need_operation_ok hb, retag_ok, seqF_nx, mIfS_eq, mB_eq, mBin_eq, mC_eq, isn, asB_ok, Bool.false_eq_true, if_false, mSkip_eq, mRet_eq, mAndV_eq, is_log_ok hy hl hw, if_true, is_telling_eq hy ha hb hw hl]
  rfl
theorem shows_unc_non {y : Sys} (hy : y.Ok) {a b : Nat} (ha : a < y.ops.length) (hb : b < y.ops.length) (hn : btwD y (y.ends b) (y.starts a) = .non) (s : S) : m_shows_uncovered [y.D, nD a, nD b, .non] s = .ok (.bl true) (s ++ gar m_uncovered_log [y.D, nD a, nD b] s) := by
  unfold m_shows_uncovered
  rw [mFn_eq]
  have hi : initE 4 [y.D, nD a, nD b, .non] = [some y.D, some (nD a), some (nD b), some .non] := rfl
  rw [hi]
  have isn : ∀ s : S, opIsN .non .non s = .ok (.bl true) s := fun s => by rw [opIsN_eq]; rfl
  have ul := fun s => uncovered_log_eq hy ha hb s
  rw [hn] at ul
  simp only [mSeq_eq, mDrop_eq, mUser_eq, mCons_eq, mVar_eq, get_0, List.getElem?_cons_succ, vg_some, R.bnd_ok, mNil_eq, need_system_ok hy, need_operation_ok ha, need_operation_ok hb, retag_ok, seqF_nx, mIfS_eq, mB_eq, mBin_eq, mC_eq, isn, asB_ok, if_true, mRet_eq, ul]
  rfl
theorem tell_iff {y : Sys} {a b : Nat} {w : List Nat} : y.tell a b w = true ↔ ∃ st ∈ y.reach, y.run st (a :: (w ++ [b])) ≠ y.run st (w ++ [b]) := by
  unfold Sys.tell
  rw [List.any_eq_true]
  simp
theorem tell_first {y : Sys} {a b : Nat} {w : List Nat} (h : FirstLog y (y.ends b) (y.starts a) w) : y.tell a b w = true := by
  obtain ⟨p, hp, hv, hh⟩ := h.hit
  obtain ⟨st, hst, rfl⟩ := List.mem_map.1 hp
  have := (List.mem_filter.1 hh).2
  simp only [Bool.not_eq_true', decide_eq_false_iff_not] at this
  refine tell_iff.2 ⟨st, hst, ?_⟩
  rw [run_cons, run_snoc, run_snoc]
  exact this
theorem tell_cov {y : Sys} {a b : Nat} {w : List Nat} (h : y.Cov a b) (hw : Vl y w) : y.tell a b w = false := by
  have : ¬ y.tell a b w = true := fun z => by
    obtain ⟨st, hst, hn⟩ := tell_iff.1 z
    exact hn (cov_drop (r := []) h hst hw)
  simpa using this
end VL
namespace VL
open PySem PySem.Spec PyProof.Rows L2

/-! ### k21: one pair of operations -/
theorem apart_eq {y : Sys} (hy : y.Ok) {a b : List Nat} (la : a.length ≤ 1000) (lb : b.length ≤ 1000) (ha : Vl y a) (hb : Vl y b) (s : S) : m_apart [y.D, logD a, logD b] s = .ok (kD (y.apart a b)) (s ++ gar m_apart [y.D, logD a, logD b] s) := eq_gar (apart_ok hy la lb ha hb s)
theorem apart_none {y : Sys} {a b : List Nat} (h : ∀ st ∈ y.reach, y.run st a = y.run st b) : y.apart a b = none := by
  unfold Sys.apart Sys.apartIn
  rw [List.find?_eq_none]
  intro st hst
  simp [h st hst]
theorem apart_some {y : Sys} {a b : List Nat} {st : Nat} (hst : st ∈ y.reach) (h : y.run st a ≠ y.run st b) : y.apart a b ≠ none := by
  unfold Sys.apart Sys.apartIn
  intro z
  have := List.find?_eq_none.1 z st hst
  simp [h] at this
noncomputable def twoB : FM := mFn 9 (mSeq (mAsg (mUser m_uncovered (mCons (mVar 1) (mCons (mVar 2) (mCons (mVar 3) mNil)))) (gN 5))
(mSeq (mIfS (mOrT (mB (mBin opNe (mBin opIsN (mVar 5) (mC .non)) (mVar 4))) (mB (mBin opNotB (mUser m_shows_uncovered (mCons (mVar 1) (mCons (mVar 2) (mCons (mVar 3) (mCons (mVar 5) mNil))))) (mC (.bl true)))))
(mRet (mC (.bl false)))
mSkip)
(mSeq (mIfS (mB (mBin opNotN (mVar 5) (mC .non)))
(mRet (mBin opNotN (mUser m_apart (mCons (mVar 1) (mCons (mBin opAdd (mBin opAdd (mTup (mCons (mVar 2) mNil)) (mVar 5)) (mTup (mCons (mVar 3) mNil))) (mCons (mBin opAdd (mVar 5) (mTup (mCons (mVar 3) mNil))) mNil)))) (mC .non)))
mSkip)
(mSeq (mFor (mRng1 (mCons (mC (.int 3)) mNil)) (gN 6)
(mSeq (mPar 7 8 (mCons (mUser m__law_log (mCons (mVar 0) (mCons (mVar 1) (mCons (mC (.int 6)) mNil)))) (mCons (mUser m__law_log (mCons (mVar 0) (mCons (mVar 1) (mCons (mC (.int 4)) mNil)))) mNil)))
(mSeq (mIfS (mB (mBin opNotN (mUser m_apart (mCons (mVar 1) (mCons (mBin opAdd (mBin opAdd (mTup (mCons (mVar 2) mNil)) (mVar 7)) (mTup (mCons (mVar 3) mNil))) (mCons (mBin opAdd (mVar 7) (mTup (mCons (mVar 3) mNil))) mNil)))) (mC .non)))
(mRet (mC (.bl false)))
mSkip)
(mSeq (mAsg (mBin opAdd (mVar 7) (mTup (mCons (mVar 3) mNil))) (gN 7))
(mIfS (mB (mBin opNe (mUser m_outcome (mCons (mVar 1) (mCons (mBin opAdd (mBin opAdd (mVar 8) (mTup (mCons (mVar 2) mNil))) (mVar 7)) mNil))) (mUser m_outcome (mCons (mVar 1) (mCons (mBin opAdd (mVar 8) (mVar 7)) mNil)))))
(mRet (mC (.bl false)))
mSkip)))))
(mRet (mBin opIsB (mUser m_shows_uncovered (mCons (mVar 1) (mCons (mVar 2) (mCons (mVar 3) (mCons (mTup mNil) mNil))))) (mC (.bl false))))))))
theorem two_ok {y : Sys} (hy : y.Ok) {a b : Nat} (ha : a < y.ops.length) (hb : b < y.ops.length) {p f : Nat} {s : S} (hp : Pen p (f + 100) s) : wp (twoB [.obj p, y.D, nD a, nD b, .bl (y.cov a b)] s) fun d s' => d = .bl true ∧ Pen p f s' := by
  unfold twoB
  rw [mFn_eq, wp_fin]
  have hi : initE 9 [.obj p, y.D, nD a, nD b, .bl (y.cov a b)] = [some (.obj p), some y.D, some (nD a), some (nD b), some (.bl (y.cov a b)), none, none, none, none] := rfl
  rw [hi]
  have ue := fun s => uncovered_eq hy ha hb s
  have ad1 : ∀ (w : List Nat) s, w.length ≤ 900 → opAdd (.tup [nD a]) (logD w) s = .ok (logD (a :: w)) s := fun w s hw => opAdd_log (a := [a]) (b := w) (by simp; omega) s
  have ad2 : ∀ (w : List Nat) s, w.length ≤ 900 → opAdd (logD w) (.tup [nD b]) s = .ok (logD (w ++ [b])) s := fun w s hw => opAdd_log (a := w) (b := [b]) (by simp; omega) s
  have vla : ∀ w : List Nat, Vl y w → Vl y (a :: w) := fun w hw x hx => by
    rcases List.mem_cons.1 hx with rfl | hx
    · exact ha
    · exact hw x hx
  simp only [mSeq_eq, mAsg_eq, mUser_eq, mCons_eq, mVar_eq, get_0, List.getElem?_cons_succ, vg_some, R.bnd_ok, mNil_eq, ue, retag_ok, gN_eq, List.set_cons_succ, List.set_cons_zero, seqF_nx, mIfS_eq, mOrT_eq, mB_eq, mBin_eq, mC_eq, opIsN_eq, opNotN_eq]
  rcases btw_cov hy ha hb with ⟨hn, hc⟩ | ⟨w, hw, hc, hF⟩
  · -- covered
    have su := fun s => shows_unc_non hy ha hb hn s
    have hct : y.cov a b = true := cov_true.2 hc
    have nb : ∀ s : S, opNotB (.bl true) (.bl true) s = .ok (.bl false) s := fun s => rfl
    have ib : ∀ s : S, opIsB (.bl false) (.bl false) s = .ok (.bl true) s := fun s => rfl
    have ne1 : ∀ s : S, opNe (.bl true) (.bl true) s = .ok (.bl false) s := fun s => opEq_bl (fun b => !b) true true s
    have st := fun s => shows_unc_log hy ha hb (w := []) (by intro x hx; cases hx) (by simp) s
    rw [tell_cov hc (by intro x hx; cases hx)] at st
    simp only [mSeq_eq, mIfS_eq, mB_eq, mBin_eq, mVar_eq, mC_eq, get_0, List.getElem?_cons_succ, vg_some, opNotN_eq, hn, hct, isNonD_non, ne1, R.bnd_ok, asB_ok, Bool.false_eq_true, if_false, su, retag_ok, nb, mSkip_eq, seqF_nx, Bool.not_true, mFor_eq, mRng1_bnd, mCons_eq, mC_eq, mNil_eq]
    rw [rng1F_ok _ (by omega), rngD_nD]
    simp only [R.bnd_ok, forF_fix, wp_bnd]
    refine wp_each (f := nD) (fun pre ρ s' => (∃ x6 x7 x8, ρ = [some (.obj p), some y.D, some (nD a), some (nD b), some (.bl true), some .non, x6, x7, x8]) ∧ Pen p (f + (3 - pre.length) * 20) s') _ _ _ ⟨⟨_, _, _, rfl⟩, ((hp.mono (by simp)).app _).app _⟩ ?_ ?_
    · rintro pre x rest ρ s' he ⟨⟨x6, x7, x8, rfl⟩, hp'⟩
      have hlp : pre.length < 3 := by
        have := congrArg List.length he
        simp at this
        omega
      simp only [gN_eq, wp_ok, List.set_cons_succ, List.set_cons_zero, mSeq_eq, mPar_eq, mCons_eq, mUser_eq, mVar_eq, get_0, List.getElem?_cons_succ, vg_some, R.bnd_ok, mC_eq, mNil_eq, wp_bnd, wp_retag]
      refine (wp_log hy (c := 6) (f := f + (3 - (pre.length + 1)) * 20 + 10) (hp'.mono (by omega)) rfl (by omega)).mono ?_
      rintro d s1 ⟨w, rfl, hwl, hwv, hp1, _⟩
      refine (wp_log hy (c := 4) (f := f + (3 - (pre.length + 1)) * 20) (hp1.mono (by omega)) rfl (by omega)).mono ?_
      rintro d s2 ⟨h, rfl, hhl, hhv, hp2, _⟩
      have hwv : Vl y w := hwv
      have hhv : Vl y h := hhv
      have vb : Vl y (w ++ [b]) := hwv.snoc hb
      have vab := vla _ vb
      have a1 := fun s => ad1 w s (by omega)
      have a2 := fun s => ad2 (a :: w) s (by simp; omega)
      have a3 := fun s => ad2 w s (by omega)
      have ap := fun s => apart_eq hy (a := a :: (w ++ [b])) (b := w ++ [b]) (by simp; omega) (by simp; omega) vab vb s
      have apn : y.apart (a :: (w ++ [b])) (w ++ [b]) = none := apart_none fun st hst => cov_drop (r := []) hc hst hwv
      rw [apn] at ap
      have a4 : ∀ s, opAdd (logD h) (.tup [nD a]) s = .ok (logD (h ++ [a])) s := fun s => opAdd_log (a := h) (b := [a]) (by simp; omega) s
      have a5 : ∀ s, opAdd (logD (h ++ [a])) (logD (w ++ [b])) s = .ok (logD ((h ++ [a]) ++ (w ++ [b]))) s := fun s => opAdd_log (by simp; omega) s
      have a6 : ∀ s, opAdd (logD h) (logD (w ++ [b])) s = .ok (logD (h ++ (w ++ [b]))) s := fun s => opAdd_log (by simp; omega) s
      have o1 := fun s => outcome_ok hy (l := (h ++ [a]) ++ (w ++ [b])) (by simp; omega) (fun x hx => (List.mem_append.1 hx).elim (hhv.snoc ha x) (vb x)) s
      have o2 := fun s => outcome_ok hy (l := h ++ (w ++ [b])) (by simp; omega) (fun x hx => (List.mem_append.1 hx).elim (hhv x) (vb x)) s
      have eo : y.run y.start ((h ++ [a]) ++ (w ++ [b])) = y.run y.start (h ++ (w ++ [b])) := by
        rw [List.append_assoc, run_app y y.start h ([a] ++ (w ++ [b])), run_app y y.start h (w ++ [b])]
        exact cov_drop (r := []) hc (reach_run hy (reach_start y) hhv) hwv
      rw [eo] at o1
      have ne2 : ∀ s : S, opNe (nD (y.run y.start (h ++ (w ++ [b])))) (nD (y.run y.start (h ++ (w ++ [b])))) s = .ok (.bl false) s := fun s => by
        rw [show opNe (nD (y.run y.start (h ++ (w ++ [b])))) (nD (y.run y.start (h ++ (w ++ [b])))) s = _ from opNe_nD (fun b => !b) _ _ s]
        simp
      have nn : ∀ s : S, opNotN (kD none) .non s = .ok (.bl false) s := fun s => rfl
      simp only [wp_ok, List.set_cons_succ, List.set_cons_zero, seqF_nx, mSeq_eq, mIfS_eq, mB_eq, mBin_eq, mUser_eq, mCons_eq, mVar_eq, get_0, List.getElem?_cons_succ, vg_some, R.bnd_ok, mTup_eq, mNil_eq, List.length_cons, List.length_nil, Nat.reduceAdd, LIM_eq, Nat.reduceLeDiff, if_true, a1, a2, a3, List.cons_append, ap, retag_ok, mC_eq, nn, asB_ok, Bool.false_eq_true, if_false, mSkip_eq, mAsg_eq, gN_eq, a4, a5, a6, o1, o2, ne2, turnQ_nx]
      refine ⟨⟨_, _, _, rfl⟩, ?_⟩
      rw [List.length_append, List.length_singleton]
      exact hp2.app _
    · rintro ρ s' ⟨⟨x6, x7, x8, rfl⟩, hp'⟩
      have e : mTup mNil [some (.obj p), some y.D, some (nD a), some (nD b), some (.bl true), some .non, x6, x7, x8] s' = .ok (logD []) s' := rfl
      simp only [seqF_nx, mRet_eq, mBin_eq, mUser_eq, mCons_eq, mVar_eq, get_0, List.getElem?_cons_succ, vg_some, R.bnd_ok, e, mNil_eq, st, retag_ok, mC_eq, ib, wp_ok, endQ_ret]
      exact ⟨trivial, (hp'.mono (by omega)).app _⟩
  · -- not covered
    obtain ⟨hll, hwv⟩ := first_len hy ends_nd ends_lt (starts_lt hy ha) hF
    have hwv : Vl y w := hwv
    have hcf : y.cov a b = false := by
      have : ¬ y.cov a b = true := fun z => hc (cov_true.1 z)
      simpa using this
    have su := fun s => shows_unc_log hy ha hb hwv (by omega) s
    rw [tell_first hF] at su
    have nb : ∀ s : S, opNotB (.bl true) (.bl true) s = .ok (.bl false) s := fun s => rfl
    have ne1 : ∀ s : S, opNe (.bl false) (.bl false) s = .ok (.bl false) s := fun s => opEq_bl (fun b => !b) false false s
    have il : isNonD (logD w) = false := rfl
    have vb : Vl y (w ++ [b]) := hwv.snoc hb
    have a1 := fun s => ad1 w s (by omega)
    have a2 := fun s => ad2 (a :: w) s (by simp; omega)
    have a3 := fun s => ad2 w s (by omega)
    have ap := fun s => apart_eq hy (a := a :: (w ++ [b])) (b := w ++ [b]) (by simp; omega) (by simp; omega) (vla _ vb) vb s
    obtain ⟨st, hst, hne⟩ := tell_iff.1 (tell_first hF)
    have apn := apart_some hst hne
    simp only [mSeq_eq, mIfS_eq, mB_eq, hw, hcf, il, ne1, R.bnd_ok, asB_ok, Bool.false_eq_true, if_false, su, retag_ok, nb, mSkip_eq, seqF_nx, Bool.not_false, if_true, mRet_eq, mBin_eq, mUser_eq, mCons_eq, mVar_eq, get_0, List.getElem?_cons_succ, vg_some, mTup_eq, mNil_eq, List.length_cons, List.length_nil, Nat.reduceAdd, LIM_eq, Nat.reduceLeDiff, a1, a2, a3, List.cons_append, ap, mC_eq, opNotN_eq, kD_non, apn, decide_false, seqF_ret, wp_ok, endQ_ret]
    exact ⟨trivial, (((hp.mono (by omega)).app _).app _).app _⟩
end VL
namespace VL
open PySem PySem.Spec PyProof.Rows L2
noncomputable def m__law_due : FM := mFn 6 (mSeq (mAsg (mLstO mNil) (gN 1))
(mSeq (mFor (mSrc (mUser m__law_pairs (mCons (mCall fLen (mCons (mBin opIx (mVar 0) (mC (.int 2))) mNil)) mNil))) (gT 2 (gConsM (gN 2) (gConsM (gN 3) gNilM)))
(mFor (mSrc (mUser m__law_reached (mCons (mVar 0) mNil))) (gN 4)
(mSeq (mAsg (mUser m__law_run (mCons (mVar 0) (mCons (mVar 4) (mCons (mTup (mCons (mVar 2) (mCons (mVar 3) mNil))) mNil)))) (gN 5))
(mIfS (mAndT (mB (mBin opLt (mVar 2) (mVar 3))) (mB (mBin opNe (mVar 5) (mUser m__law_run (mCons (mVar 0) (mCons (mVar 4) (mCons (mTup (mCons (mVar 3) (mCons (mVar 2) mNil))) mNil)))))))
(mDrop (mAppend (mVar 1) (mTup (mCons (mVar 4) (mCons (mVar 2) (mCons (mVar 3) mNil))))))
mSkip))))
(mRet (mBin opIx (mBin opAdd (mCall fSortedTL (mCons (mVar 1) mNil)) (mLst (mCons (mC .non) mNil))) (mC (.int 0))))))
noncomputable def m__law_right : FM := mFn 5 (mSeq (mPar 2 3 (mCons (mUser m__law_due (mCons (mVar 1) mNil)) (mCons (mCall fRepr (mCons (mVar 1) mNil)) mNil)))
(mRet (mAndV (mUser m__law_same (mCons (mLc (mRng1 (mCons (mC (.int 2)) mNil)) (.one 4) mYes (mUser m_order_fault (mCons (mVar 1) mNil)) [4]) (mCons (mLst (mCons (mVar 2) (mCons (mVar 2) mNil))) mNil))) (mBin opEq (mCall fRepr (mCons (mVar 1) mNil)) (mVar 3)))))
noncomputable def m_law : FM := mFn 4 (mSeq (mFor (mRng1 (mCons (mCall fMax2 (mCons (mC (.int 1)) (mCons (mCall fMin2 (mCons (mCall fLen (mCons (mVar 0) mNil)) (mCons (mC (.int 3)) mNil))) mNil))) mNil)) (gN 1)
(mSeq (mAsg (mUser m__law_pen (mCons (mUser m__law_cell_at (mCons (mVar 0) (mCons (mVar 1) mNil))) mNil)) (gN 2))
(mFor (mRng1 (mCons (mC (.int 4)) mNil)) (gN 3)
(mIfS (mNotT (mB (mUser m__law_right (mCons (mVar 2) (mCons (mUser m__law_system (mCons (mVar 2) mNil)) mNil)))))
(mRet (mC (.bl false)))
mSkip))))
(mRet (mC (.bl true))))
end VL
namespace W
open PySem PySem.Spec PyProof.Rows L2 VL
def top (i : Nat) : Stmt := PySem.Challenge.pw_lastofkind_k27_faults_of_orders.main.body.getD i (.Pass ⟨0, 0, 0, 0⟩)
theorem sc_is_whole : FnScope ["thing"] ["thing"] (defScope (top 7)) := ⟨rfl, rfl, rfl, by decide +kernel, rfl, by decide +kernel, by decide +kernel⟩
theorem sc_is_between : FnScope ["thing", "low", "high"] ["thing", "low", "high"] (defScope (top 8)) := ⟨rfl, rfl, rfl, by decide +kernel, rfl, by decide +kernel, by decide +kernel⟩
theorem sc_are_states : FnScope ["thing", "long", "many", "one"] ["thing", "long", "many"] (defScope (top 9)) := ⟨rfl, rfl, rfl, by decide +kernel, rfl, by decide +kernel, by decide +kernel⟩
theorem sc_is_kind : FnScope ["thing"] ["thing"] (defScope (top 10)) := ⟨rfl, rfl, rfl, by decide +kernel, rfl, by decide +kernel, by decide +kernel⟩
theorem sc_is_system : FnScope ["thing", "many", "start", "operations", "kinds", "one"] ["thing"] (defScope (top 11)) := ⟨rfl, rfl, rfl, by decide +kernel, rfl, by decide +kernel, by decide +kernel⟩
theorem sc_need_system : FnScope ["thing"] ["thing"] (defScope (top 12)) := ⟨rfl, rfl, rfl, by decide +kernel, rfl, by decide +kernel, by decide +kernel⟩
theorem sc_run_from : FnScope ["system", "state", "log", "entry"] ["system", "state", "log"] (defScope (top 13)) := ⟨rfl, rfl, rfl, by decide +kernel, rfl, by decide +kernel, by decide +kernel⟩
theorem sc_paths_of : FnScope ["system", "found", "waiting", "at", "state", "number", "operation"] ["system"] (defScope (top 14)) := ⟨rfl, rfl, rfl, by decide +kernel, rfl, by decide +kernel, by decide +kernel⟩
theorem sc_reached : FnScope ["system"] ["system"] (defScope (top 15)) := ⟨rfl, rfl, rfl, by decide +kernel, rfl, by decide +kernel, by decide +kernel⟩
theorem sc_order_of : FnScope ["system", "many", "state", "one", "other"] ["system"] (defScope (top 17)) := ⟨rfl, rfl, rfl, by decide +kernel, rfl, by decide +kernel, by decide +kernel⟩
theorem sc_order_fault : FnScope ["system"] ["system"] (defScope (top 18)) := ⟨rfl, rfl, rfl, by decide +kernel, rfl, by decide +kernel, by decide +kernel⟩
theorem sc__law_cell_at : FnScope ["_law_script", "_law_k"] ["_law_script", "_law_k"] (defScope (top 20)) := ⟨rfl, rfl, rfl, by decide +kernel, rfl, by decide +kernel, by decide +kernel⟩
theorem sc__law_pen : FnScope ["_law_cell"] ["_law_cell"] (defScope (top 21)) := ⟨rfl, rfl, rfl, by decide +kernel, rfl, by decide +kernel, by decide +kernel⟩
theorem sc__law_draw : FnScope ["_law_pen_here", "_law_many", "_law_digit", "_law_stir"] ["_law_pen_here", "_law_many"] (defScope (top 22)) := ⟨rfl, rfl, rfl, by decide +kernel, rfl, by decide +kernel, by decide +kernel⟩
theorem sc__law_pick : FnScope ["_law_pen_here", "_law_things"] ["_law_pen_here", "_law_things"] (defScope (top 23)) := ⟨rfl, rfl, rfl, by decide +kernel, rfl, by decide +kernel, by decide +kernel⟩
theorem sc__law_same : FnScope ["_law_found", "_law_due_here"] ["_law_found", "_law_due_here"] (defScope (top 24)) := ⟨rfl, rfl, rfl, by decide +kernel, rfl, by decide +kernel, by decide +kernel⟩
theorem sc__law_drawn : FnScope ["_law_pen_here", "_law_many", "_law_size", "_law_operations", "_law_kinds", "_law_lap", "_law_state"] ["_law_pen_here"] (defScope (top 25)) := ⟨rfl, rfl, rfl, by decide +kernel, rfl, by decide +kernel, by decide +kernel⟩
theorem sc__law_cells : FnScope ["_law_pen_here", "_law_high", "_law_low", "_law_operations", "_law_kinds", "_law_names", "_law_lap", "_law_cell", "_law_value", "_law_moves", "_law_state"] ["_law_pen_here"] (defScope (top 26)) := ⟨rfl, rfl, rfl, by decide +kernel, rfl, by decide +kernel, by decide +kernel⟩
theorem sc__law_marks : FnScope ["_law_pen_here", "_law_operations", "_law_kinds", "_law_lap", "_law_mark", "_law_puts", "_law_moves", "_law_state", "_law_own", "_law_other", "_law_both", "_law_bit"] ["_law_pen_here"] (defScope (top 27)) := ⟨rfl, rfl, rfl, by decide +kernel, rfl, by decide +kernel, by decide +kernel⟩
theorem sc__law_turns : FnScope ["_law_pen_here", "_law_many", "_law_operations", "_law_kinds", "_law_lap", "_law_way", "_law_value", "_law_moves", "_law_state"] ["_law_pen_here"] (defScope (top 28)) := ⟨rfl, rfl, rfl, by decide +kernel, rfl, by decide +kernel, by decide +kernel⟩
theorem sc__law_system : FnScope ["_law_pen_here", "_law_way", "_law_found", "_law_many", "_law_start", "_law_operations", "_law_kinds", "_law_at", "_law_state", "_law_own"] ["_law_pen_here"] (defScope (top 29)) := ⟨rfl, rfl, rfl, by decide +kernel, rfl, by decide +kernel, by decide +kernel⟩
theorem sc__law_run : FnScope ["_law_system_here", "_law_state", "_law_log", "_law_entry"] ["_law_system_here", "_law_state", "_law_log"] (defScope (top 30)) := ⟨rfl, rfl, rfl, by decide +kernel, rfl, by decide +kernel, by decide +kernel⟩
theorem sc__law_paths : FnScope ["_law_system_here", "_law_found", "_law_at", "_law_seen", "_law_number", "_law_operation", "_law_state"] ["_law_system_here"] (defScope (top 31)) := ⟨rfl, rfl, rfl, by decide +kernel, rfl, by decide +kernel, by decide +kernel⟩
theorem sc__law_reached : FnScope ["_law_system_here", "_law_state", "_law_log"] ["_law_system_here"] (defScope (top 32)) := ⟨rfl, rfl, rfl, by decide +kernel, rfl, by decide +kernel, by decide +kernel⟩
theorem sc__law_pairs : FnScope ["_law_many", "_law_found", "_law_one", "_law_other"] ["_law_many"] (defScope (top 33)) := ⟨rfl, rfl, rfl, by decide +kernel, rfl, by decide +kernel, by decide +kernel⟩
theorem sc__law_due : FnScope ["_law_system_here", "_law_found", "_law_one", "_law_other", "_law_state", "_law_mine"] ["_law_system_here"] (defScope (top 34)) := ⟨rfl, rfl, rfl, by decide +kernel, rfl, by decide +kernel, by decide +kernel⟩
theorem sc__law_right : FnScope ["_law_pen_here", "_law_system_here", "_law_due_here", "_law_kept", "_law_turn"] ["_law_pen_here", "_law_system_here"] (defScope (top 35)) := ⟨rfl, rfl, rfl, by decide +kernel, rfl, by decide +kernel, by decide +kernel⟩
theorem sc_law : FnScope ["_law_script", "_law_k", "_law_pen_here", "_law_lap"] ["_law_script"] (defScope (top 36)) := ⟨rfl, rfl, rfl, by decide +kernel, rfl, by decide +kernel, by decide +kernel⟩
structure Tx (K : PySem.W.Frag) (mg : Str → Option Value) : Prop where
  bl : Bl mg
  f_is_whole : ∃ f fd, FunD K "is_whole" "is_whole" (defArgs (top 7)) (defBody (top 7)) (defScope (top 7)) [] [] f fd ∧ mg "is_whole" = some (.ref f)
  f_is_between : ∃ f fd, FunD K "is_between" "is_between" (defArgs (top 8)) (defBody (top 8)) (defScope (top 8)) [] [] f fd ∧ mg "is_between" = some (.ref f)
  f_are_states : ∃ f fd, FunD K "are_states" "are_states" (defArgs (top 9)) (defBody (top 9)) (defScope (top 9)) [] [] f fd ∧ mg "are_states" = some (.ref f)
  f_is_kind : ∃ f fd, FunD K "is_kind" "is_kind" (defArgs (top 10)) (defBody (top 10)) (defScope (top 10)) [] [] f fd ∧ mg "is_kind" = some (.ref f)
  f_is_system : ∃ f fd, FunD K "is_system" "is_system" (defArgs (top 11)) (defBody (top 11)) (defScope (top 11)) [] [] f fd ∧ mg "is_system" = some (.ref f)
  f_need_system : ∃ f fd, FunD K "need_system" "need_system" (defArgs (top 12)) (defBody (top 12)) (defScope (top 12)) [] [] f fd ∧ mg "need_system" = some (.ref f)
  f_run_from : ∃ f fd, FunD K "run_from" "run_from" (defArgs (top 13)) (defBody (top 13)) (defScope (top 13)) [] [] f fd ∧ mg "run_from" = some (.ref f)
  f_paths_of : ∃ f fd, FunD K "paths_of" "paths_of" (defArgs (top 14)) (defBody (top 14)) (defScope (top 14)) [] [] f fd ∧ mg "paths_of" = some (.ref f)
  f_reached : ∃ f fd, FunD K "reached" "reached" (defArgs (top 15)) (defBody (top 15)) (defScope (top 15)) [] [] f fd ∧ mg "reached" = some (.ref f)
  f_order_of : ∃ f fd, FunD K "order_of" "order_of" (defArgs (top 17)) (defBody (top 17)) (defScope (top 17)) [] [] f fd ∧ mg "order_of" = some (.ref f)
  f_order_fault : ∃ f fd, FunD K "order_fault" "order_fault" (defArgs (top 18)) (defBody (top 18)) (defScope (top 18)) [] [] f fd ∧ mg "order_fault" = some (.ref f)
  f__law_cell_at : ∃ f fd, FunD K "_law_cell_at" "_law_cell_at" (defArgs (top 20)) (defBody (top 20)) (defScope (top 20)) [] [] f fd ∧ mg "_law_cell_at" = some (.ref f)
  f__law_pen : ∃ f fd, FunD K "_law_pen" "_law_pen" (defArgs (top 21)) (defBody (top 21)) (defScope (top 21)) [] [] f fd ∧ mg "_law_pen" = some (.ref f)
  f__law_draw : ∃ f fd, FunD K "_law_draw" "_law_draw" (defArgs (top 22)) (defBody (top 22)) (defScope (top 22)) [] [] f fd ∧ mg "_law_draw" = some (.ref f)
  f__law_pick : ∃ f fd, FunD K "_law_pick" "_law_pick" (defArgs (top 23)) (defBody (top 23)) (defScope (top 23)) [] [] f fd ∧ mg "_law_pick" = some (.ref f)
  f__law_same : ∃ f fd, FunD K "_law_same" "_law_same" (defArgs (top 24)) (defBody (top 24)) (defScope (top 24)) [] [] f fd ∧ mg "_law_same" = some (.ref f)
  f__law_drawn : ∃ f fd, FunD K "_law_drawn" "_law_drawn" (defArgs (top 25)) (defBody (top 25)) (defScope (top 25)) [] [] f fd ∧ mg "_law_drawn" = some (.ref f)
  f__law_cells : ∃ f fd, FunD K "_law_cells" "_law_cells" (defArgs (top 26)) (defBody (top 26)) (defScope (top 26)) [] [] f fd ∧ mg "_law_cells" = some (.ref f)
  f__law_marks : ∃ f fd, FunD K "_law_marks" "_law_marks" (defArgs (top 27)) (defBody (top 27)) (defScope (top 27)) [] [] f fd ∧ mg "_law_marks" = some (.ref f)
  f__law_turns : ∃ f fd, FunD K "_law_turns" "_law_turns" (defArgs (top 28)) (defBody (top 28)) (defScope (top 28)) [] [] f fd ∧ mg "_law_turns" = some (.ref f)
  f__law_system : ∃ f fd, FunD K "_law_system" "_law_system" (defArgs (top 29)) (defBody (top 29)) (defScope (top 29)) [] [] f fd ∧ mg "_law_system" = some (.ref f)
  f__law_run : ∃ f fd, FunD K "_law_run" "_law_run" (defArgs (top 30)) (defBody (top 30)) (defScope (top 30)) [] [] f fd ∧ mg "_law_run" = some (.ref f)
  f__law_paths : ∃ f fd, FunD K "_law_paths" "_law_paths" (defArgs (top 31)) (defBody (top 31)) (defScope (top 31)) [] [] f fd ∧ mg "_law_paths" = some (.ref f)
  f__law_reached : ∃ f fd, FunD K "_law_reached" "_law_reached" (defArgs (top 32)) (defBody (top 32)) (defScope (top 32)) [] [] f fd ∧ mg "_law_reached" = some (.ref f)
  f__law_pairs : ∃ f fd, FunD K "_law_pairs" "_law_pairs" (defArgs (top 33)) (defBody (top 33)) (defScope (top 33)) [] [] f fd ∧ mg "_law_pairs" = some (.ref f)
  f__law_due : ∃ f fd, FunD K "_law_due" "_law_due" (defArgs (top 34)) (defBody (top 34)) (defScope (top 34)) [] [] f fd ∧ mg "_law_due" = some (.ref f)
  f__law_right : ∃ f fd, FunD K "_law_right" "_law_right" (defArgs (top 35)) (defBody (top 35)) (defScope (top 35)) [] [] f fd ∧ mg "_law_right" = some (.ref f)
  f_law : ∃ f fd, FunD K "law" "law" (defArgs (top 36)) (defBody (top 36)) (defScope (top 36)) [] [] f fd ∧ mg "law" = some (.ref f)
  g_MOST_STATES : ∃ t, mg "MOST_STATES" = some (.int 6 t)
  g_MOST_OPERATIONS : ∃ t, mg "MOST_OPERATIONS" = some (.int 6 t)
  g_MOST_KIND : ∃ t, mg "MOST_KIND" = some (.int 9 t)
section
variable {P : Program} {w : World} {K : PySem.W.Frag} {mg : Str → Option Value} {base : Heap}
theorem k_is_whole (T : Tx K mg)  : Cl P w K mg base 1 "is_whole" 1 m_is_whole := by
  obtain ⟨f, fd, F, gf⟩ := T.f_is_whole
  have bl := T.bl
  refine clG F gf (F.bindsN (ps := ["thing"]) fun _ _ _ _ _ _ us hl => match us, hl with | [_], _ => rfl) (fnG F sc_is_whole fun cdv A outer st H E hr hp tk => ?_) rfl
  have sc := sc_is_whole
  exact (vss_one (vs_ret (ve_and (ve_callB call_isi v_isi (by rfl) bl.isinstance (by decide +kernel) (va_cons (ve_v 0) (va_cons (ve_ty (by rfl) bl.int (by decide +kernel)) va_nil))) (ve_one (ve_not (ve_callB call_isi v_isi (by rfl) bl.isinstance (by decide +kernel) (va_cons (ve_v 0) (va_cons (ve_ty (by rfl) bl.bool (by decide +kernel)) va_nil))))))))
theorem k_is_between (T : Tx K mg) (c_is_whole : Cl P w K mg base 1 "is_whole" 1 m_is_whole) : Cl P w K mg base 2 "is_between" 3 m_is_between := by
  obtain ⟨f, fd, F, gf⟩ := T.f_is_between
  have bl := T.bl
  refine clG F gf (F.bindsN (ps := ["thing", "low", "high"]) fun _ _ _ _ _ _ us hl => match us, hl with | [_, _, _], _ => rfl) (fnG F sc_is_between fun cdv A outer st H E hr hp tk => ?_) rfl
  have sc := sc_is_between
  exact (vss_one (vs_ret (ve_and (ve_user c_is_whole tk hr (by decide) (by rfl) (va_cons (ve_v 0) va_nil) (len_cons len_nilF)) (ve_one (ve_chain op_le op_le k_le k_le.v (ve_v 1) (ve_v 0) (ve_v 2))))))
theorem k_are_states (T : Tx K mg) (c_is_between : Cl P w K mg base 2 "is_between" 3 m_is_between) : Cl P w K mg base 3 "are_states" 3 m_are_states := by
  obtain ⟨f, fd, F, gf⟩ := T.f_are_states
  have bl := T.bl
  refine clG F gf (F.bindsN (ps := ["thing", "long", "many"]) fun _ _ _ _ _ _ us hl => match us, hl with | [_, _, _], _ => rfl) (fnG F sc_are_states fun cdv A outer st H E hr hp tk => ?_) rfl
  have sc := sc_are_states
  exact (vss_one (vs_ret (ve_and (ve_callB call_isi v_isi (by rfl) bl.isinstance (by decide +kernel) (va_cons (ve_v 0) (va_cons (ve_ty (by rfl) bl.tuple (by decide +kernel)) va_nil))) (ve_and (ve_cmp (op_eqA (hu64 hr)) k_eq.v (ve_callB c_len v_len (by rfl) bl.len (by decide +kernel) (va_cons (ve_v 0) va_nil)) (ve_v 1) (nomark _)) (ve_one (ve_callB (cr_all rfl) v_all (by rfl) bl.all (by decide +kernel) (va_cons (ve_lcF finL_ok sc.nd (vi_seq (ve_v 0)) (blkOk_by (own := [("one", 3)]) (by kernel_rfl)) (fun _ _ _ _ _ => (pg_name (i := 3) sc.nd rfl (by first | exact Or.inl rfl | exact Or.inr rfl))) (fun _ _ _ _ _ => vts_nil) (fun _ _ _ _ _ => (ve_user c_is_between takes_W0 hr (by decide) (by rfl) (va_cons (ve_v 3) (va_cons ve_int (va_cons (ve_op op_sub v_sub (ve_v 2) ve_int) va_nil))) (len_cons (len_cons (len_cons len_nilF)))))) va_nil)))))))
theorem k_is_kind (T : Tx K mg) (c_is_between : Cl P w K mg base 2 "is_between" 3 m_is_between) : Cl P w K mg base 3 "is_kind" 1 m_is_kind := by
  obtain ⟨f, fd, F, gf⟩ := T.f_is_kind
  have bl := T.bl
  obtain ⟨_, hg_MOST_KIND⟩ := T.g_MOST_KIND
  refine clG F gf (F.bindsN (ps := ["thing"]) fun _ _ _ _ _ _ us hl => match us, hl with | [_], _ => rfl) (fnG F sc_is_kind fun cdv A outer st H E hr hp tk => ?_) rfl
  have sc := sc_is_kind
  exact (vss_one (vs_ret (ve_or (ve_cmp op_isN k_isN.v (ve_v 0) ve_non (nomark _)) (ve_one (ve_user c_is_between tk hr (by decide) (by rfl) (va_cons (ve_v 0) (va_cons ve_int (va_cons (ve_gint (by rfl) hg_MOST_KIND) va_nil))) (len_cons (len_cons (len_cons len_nilF))))))))
theorem k_is_system (T : Tx K mg) (c_is_between : Cl P w K mg base 2 "is_between" 3 m_is_between) (c_are_states : Cl P w K mg base 3 "are_states" 3 m_are_states) (c_is_kind : Cl P w K mg base 3 "is_kind" 1 m_is_kind) : Cl P w K mg base 4 "is_system" 1 m_is_system := by
  obtain ⟨f, fd, F, gf⟩ := T.f_is_system
  have bl := T.bl
  obtain ⟨_, hg_MOST_STATES⟩ := T.g_MOST_STATES
  obtain ⟨_, hg_MOST_OPERATIONS⟩ := T.g_MOST_OPERATIONS
  refine clG F gf (F.bindsN (ps := ["thing"]) fun _ _ _ _ _ _ us hl => match us, hl with | [_], _ => rfl) (fnG F sc_is_system fun cdv A outer st H E hr hp tk => ?_) rfl
  have sc := sc_is_system
  exact (vss_cons (vs_if (vw_or (vt_not (vt_val (ve_callB call_isi v_isi (by rfl) bl.isinstance (by decide +kernel) (va_cons (ve_v 0) (va_cons (ve_ty (by rfl) bl.tuple (by decide +kernel)) va_nil))))) (vw_or (vt_cmp (op_neA (hu64 hr)) k_ne.v (ve_callB c_len v_len (by rfl) bl.len (by decide +kernel) (va_cons (ve_v 0) va_nil)) ve_int (nomark _)) (vw_or1 (vt_not (vt_val (ve_user c_is_between tk hr (by decide) (by rfl) (va_cons (ve_ix (ve_v 0) ve_int) (va_cons ve_int (va_cons (ve_gint (by rfl) hg_MOST_STATES) va_nil))) (len_cons (len_cons (len_cons len_nilF))))))))).pt
    (vss_one (vs_ret ve_bl))
    vss_nil)
    (vss_cons (vs_asg (ve_v 0) (vg_t 4 (vgs_cons (vg_n 1 sc.nd) (vgs_cons (vg_n 2 sc.nd) (vgs_cons (vg_n 3 sc.nd) (vgs_cons (vg_n 4 sc.nd) vgs_nil))))))
    (vss_cons (vs_if (vw_or (vt_not (vt_val (ve_user c_is_between tk hr (by decide) (by rfl) (va_cons (ve_v 2) (va_cons ve_int (va_cons (ve_op op_sub v_sub (ve_v 1) ve_int) va_nil))) (len_cons (len_cons (len_cons len_nilF)))))) (vw_or (vt_not (vt_val (ve_callB call_isi v_isi (by rfl) bl.isinstance (by decide +kernel) (va_cons (ve_v 3) (va_cons (ve_ty (by rfl) bl.tuple (by decide +kernel)) va_nil))))) (vw_or1 (vt_not (vt_val (ve_callB call_isi v_isi (by rfl) bl.isinstance (by decide +kernel) (va_cons (ve_v 4) (va_cons (ve_ty (by rfl) bl.tuple (by decide +kernel)) va_nil)))))))).pt
    (vss_one (vs_ret ve_bl))
    vss_nil)
    (vss_cons (vs_if (vw_or (vt_not (vt_chain op_le op_le k_le k_le.v ve_int (ve_callB c_len v_len (by rfl) bl.len (by decide +kernel) (va_cons (ve_v 3) va_nil)) (ve_gint (by rfl) hg_MOST_OPERATIONS))) (vw_or1 (vt_cmp (op_neA (hu64 hr)) k_ne.v (ve_callB c_len v_len (by rfl) bl.len (by decide +kernel) (va_cons (ve_v 4) va_nil)) (ve_callB c_len v_len (by rfl) bl.len (by decide +kernel) (va_cons (ve_v 3) va_nil)) (nomark _)))).pt
    (vss_one (vs_ret ve_bl))
    vss_nil)
    (vss_one (vs_ret (ve_and (ve_callB (cr_all rfl) v_all (by rfl) bl.all (by decide +kernel) (va_cons (ve_lcF finL_ok sc.nd (vi_seq (ve_v 3)) (blkOk_by (own := [("one", 5)]) (by kernel_rfl)) (fun _ _ _ _ _ => (pg_name (i := 5) sc.nd rfl (by first | exact Or.inl rfl | exact Or.inr rfl))) (fun _ _ _ _ _ => vts_nil) (fun _ _ _ _ _ => (ve_user c_are_states takes_W0 hr (by decide) (by rfl) (va_cons (ve_v 5) (va_cons (ve_v 1) (va_cons (ve_v 1) va_nil))) (len_cons (len_cons (len_cons len_nilF)))))) va_nil)) (ve_one (ve_callB (cr_all rfl) v_all (by rfl) bl.all (by decide +kernel) (va_cons (ve_lcF finL_ok sc.nd (vi_seq (ve_v 4)) (blkOk_by (own := [("one", 5)]) (by kernel_rfl)) (fun _ _ _ _ _ => (pg_name (i := 5) sc.nd rfl (by first | exact Or.inl rfl | exact Or.inr rfl))) (fun _ _ _ _ _ => vts_nil) (fun _ _ _ _ _ => (ve_user c_is_kind takes_W0 hr (by decide) (by rfl) (va_cons (ve_v 5) va_nil) (len_cons len_nilF)))) va_nil))))))))))
theorem k_need_system (T : Tx K mg) (c_is_system : Cl P w K mg base 4 "is_system" 1 m_is_system) : Cl P w K mg base 5 "need_system" 1 m_need_system := by
  obtain ⟨f, fd, F, gf⟩ := T.f_need_system
  have bl := T.bl
  refine clG F gf (F.bindsN (ps := ["thing"]) fun _ _ _ _ _ _ us hl => match us, hl with | [_], _ => rfl) (fnG F sc_need_system fun cdv A outer st H E hr hp tk => ?_) rfl
  have sc := sc_need_system
  exact (vss_one (vs_if (vt_not (vt_val (ve_user c_is_system tk hr (by decide) (by rfl) (va_cons (ve_v 0) va_nil) (len_cons len_nilF))))
    (vss_one vs_never)
    vss_nil))
theorem k_run_from (T : Tx K mg)  : Cl P w K mg base 1 "run_from" 3 m_run_from := by
  obtain ⟨f, fd, F, gf⟩ := T.f_run_from
  have bl := T.bl
  refine clG F gf (F.bindsN (ps := ["system", "state", "log"]) fun _ _ _ _ _ _ us hl => match us, hl with | [_, _, _], _ => rfl) (fnG F sc_run_from fun cdv A outer st H E hr hp tk => ?_) rfl
  have sc := sc_run_from
  exact (vss_cons (vs_for hp (vi_seq (ve_v 2)) (vg_n 3 sc.nd)
    (vss_one (vs_asg (ve_ix (ve_ix (ve_ix (ve_v 0) ve_int) (ve_v 3)) (ve_v 1)) (vg_n 1 sc.nd))))
    (vss_one (vs_ret (ve_v 1))))
theorem k_paths_of (T : Tx K mg)  : Cl P w K mg base 1 "paths_of" 1 m_paths_of := by
  obtain ⟨f, fd, F, gf⟩ := T.f_paths_of
  have bl := T.bl
  refine clG F gf (F.bindsN (ps := ["system"]) fun _ _ _ _ _ _ us hl => match us, hl with | [_], _ => rfl) (fnG F sc_paths_of fun cdv A outer st H E hr hp tk => ?_) rfl
  have sc := sc_paths_of
  exact (vss_cons (vs_asg (ve_disp1 (ve_ix (ve_v 0) ve_int) (ve_tup va_nil)) (vg_n 1 sc.nd))
    (vss_cons (vs_asg (ve_lstO (va_cons (ve_ix (ve_v 0) ve_int) va_nil)) (vg_n 2 sc.nd))
    (vss_cons (vs_asg ve_int (vg_n 3 sc.nd))
    (vss_cons (vs_while 2000 hp (vt_cmp op_lt k_lt.v (ve_v 3) (ve_callB c_len v_len (by rfl) bl.len (by decide +kernel) (va_cons (ve_v 2) va_nil)) (nomark _))
    (vss_cons (vs_asg (ve_ix (ve_v 2) (ve_v 3)) (vg_n 4 sc.nd))
    (vss_cons (vs_augAdd 3 sc.nd ve_int)
    (vss_one (vs_for hp (vi_enum (by rfl) bl.enumerate (va_cons (ve_ix (ve_v 0) ve_int) va_nil)) (vg_t 2 (vgs_cons (vg_n 5 sc.nd) (vgs_cons (vg_n 6 sc.nd) vgs_nil)))
    (vss_one (vs_if (vt_cmp (op_notInU (hu65 hr)) v_notInU (ve_ix (ve_v 6) (ve_v 4)) (ve_v 1) (by rfl))
    (vss_cons (vs_asg (ve_op op_addA v_add (ve_ixU (hu64 hr) (ve_v 1) (ve_v 4)) (ve_tup (va_cons (ve_v 5) va_nil))) (vg_ixU (hu64 hr) (ve_v 1) (ve_ix (ve_v 6) (ve_v 4))))
    (vss_one (vs_expr (ve_append (ve_v 2) (ve_ix (ve_v 6) (ve_v 4))))))
    vss_nil)))))))
    (vss_one (vs_ret (ve_v 1)))))))
theorem k_reached (T : Tx K mg) (c_paths_of : Cl P w K mg base 1 "paths_of" 1 m_paths_of) : Cl P w K mg base 2 "reached" 1 m_reached := by
  obtain ⟨f, fd, F, gf⟩ := T.f_reached
  have bl := T.bl
  refine clG F gf (F.bindsN (ps := ["system"]) fun _ _ _ _ _ _ us hl => match us, hl with | [_], _ => rfl) (fnG F sc_reached fun cdv A outer st H E hr hp tk => ?_) rfl
  have sc := sc_reached
  exact (vss_one (vs_ret (ve_callTy call_tuple_of v_tuple (by rfl) bl.tuple (by decide +kernel) (va_cons (ve_callB (cr_sortedU rfl) v_sortedU (by rfl) bl.sorted (by decide +kernel) (va_cons (ve_user c_paths_of tk hr (by decide) (by rfl) (va_cons (ve_v 0) va_nil) (len_cons len_nilF)) va_nil)) va_nil))))
theorem k_order_of (T : Tx K mg) (c_reached : Cl P w K mg base 2 "reached" 1 m_reached) (c_run_from : Cl P w K mg base 1 "run_from" 3 m_run_from) : Cl P w K mg base 3 "order_of" 1 m_order_of := by
  obtain ⟨f, fd, F, gf⟩ := T.f_order_of
  have bl := T.bl
  refine clG F gf (F.bindsN (ps := ["system"]) fun _ _ _ _ _ _ us hl => match us, hl with | [_], _ => rfl) (fnG F sc_order_of fun cdv A outer st H E hr hp tk => ?_) rfl
  have sc := sc_order_of
  exact (vss_cons (vs_asg (ve_callB c_len v_len (by rfl) bl.len (by decide +kernel) (va_cons (ve_ix (ve_v 0) ve_int) va_nil)) (vg_n 1 sc.nd))
    (vss_cons (vs_for hp (vi_seq (ve_user c_reached tk hr (by decide) (by rfl) (va_cons (ve_v 0) va_nil) (len_cons len_nilF))) (vg_n 2 sc.nd)
    (vss_one (vs_for hp (vi_rng1 (by rfl) bl.range (va_cons (ve_v 1) va_nil)) (vg_n 3 sc.nd)
    (vss_one (vs_for hp (vi_rng2 (by rfl) bl.range (va_cons (ve_op op_addA v_add (ve_v 3) ve_int) (va_cons (ve_v 1) va_nil))) (vg_n 4 sc.nd)
    (vss_one (vs_if (vt_cmp (op_neA (hu64 hr)) k_ne.v (ve_user c_run_from tk hr (by decide) (by rfl) (va_cons (ve_v 0) (va_cons (ve_v 2) (va_cons (ve_tup (va_cons (ve_v 3) (va_cons (ve_v 4) va_nil))) va_nil))) (len_cons (len_cons (len_cons len_nilF)))) (ve_user c_run_from tk hr (by decide) (by rfl) (va_cons (ve_v 0) (va_cons (ve_v 2) (va_cons (ve_tup (va_cons (ve_v 4) (va_cons (ve_v 3) va_nil))) va_nil))) (len_cons (len_cons (len_cons len_nilF)))) (nomark _))
    (vss_one (vs_ret (ve_tup (va_cons (ve_v 2) (va_cons (ve_v 3) (va_cons (ve_v 4) va_nil))))))
    vss_nil)))))))
    (vss_one (vs_ret ve_non))))
theorem k_order_fault (T : Tx K mg) (c_need_system : Cl P w K mg base 5 "need_system" 1 m_need_system) (c_order_of : Cl P w K mg base 3 "order_of" 1 m_order_of) : Cl P w K mg base 6 "order_fault" 1 m_order_fault := by
  obtain ⟨f, fd, F, gf⟩ := T.f_order_fault
  have bl := T.bl
  refine clG F gf (F.bindsN (ps := ["system"]) fun _ _ _ _ _ _ us hl => match us, hl with | [_], _ => rfl) (fnG F sc_order_fault fun cdv A outer st H E hr hp tk => ?_) rfl
  have sc := sc_order_fault
  exact (vss_cons (vs_expr (ve_user c_need_system tk hr (by decide) (by rfl) (va_cons (ve_v 0) va_nil) (len_cons len_nilF)))
    (vss_one (vs_ret (ve_user c_order_of tk hr (by decide) (by rfl) (va_cons (ve_v 0) va_nil) (len_cons len_nilF)))))
theorem k__law_cell_at (T : Tx K mg)  : Cl P w K mg base 1 "_law_cell_at" 2 m__law_cell_at := by
  obtain ⟨f, fd, F, gf⟩ := T.f__law_cell_at
  have bl := T.bl
  refine clG F gf (F.bindsN (ps := ["_law_script", "_law_k"]) fun _ _ _ _ _ _ us hl => match us, hl with | [_, _], _ => rfl) (fnG F sc__law_cell_at fun cdv A outer st H E hr hp tk => ?_) rfl
  have sc := sc__law_cell_at
  exact (vss_cons (vs_if (vt_cmp op_lt k_lt.v (ve_v 1) (ve_callB c_len v_len (by rfl) bl.len (by decide +kernel) (va_cons (ve_v 0) va_nil)) (nomark _))
    (vss_one (vs_ret (ve_ix (ve_v 0) (ve_v 1))))
    vss_nil)
    (vss_one (vs_ret ve_int)))
theorem k__law_pen (T : Tx K mg)  : Cl P w K mg base 1 "_law_pen" 1 m__law_pen := by
  obtain ⟨f, fd, F, gf⟩ := T.f__law_pen
  have bl := T.bl
  refine clG F gf (F.bindsN (ps := ["_law_cell"]) fun _ _ _ _ _ _ us hl => match us, hl with | [_], _ => rfl) (fnG F sc__law_pen fun cdv A outer st H E hr hp tk => ?_) rfl
  have sc := sc__law_pen
  exact (vss_one (vs_ret (ve_lstO (va_cons (ve_callB (call_max2 rfl) v_max2 (by rfl) bl.max (by decide +kernel) (va_cons ve_int (va_cons (ve_op op_sub v_sub (ve_v 0) (ve_op op_pow v_pow ve_int ve_int)) va_nil))) (va_cons (ve_op op_mod v_mod (ve_v 0) ve_int) (va_cons ve_int va_nil))))))
theorem k__law_draw (T : Tx K mg)  : Cl P w K mg base 1 "_law_draw" 2 m__law_draw := by
  obtain ⟨f, fd, F, gf⟩ := T.f__law_draw
  have bl := T.bl
  refine clG F gf (F.bindsN (ps := ["_law_pen_here", "_law_many"]) fun _ _ _ _ _ _ us hl => match us, hl with | [_, _], _ => rfl) (fnG F sc__law_draw fun cdv A outer st H E hr hp tk => ?_) rfl
  have sc := sc__law_draw
  exact (vss_cons (vs_if (vt_cmp op_gt k_gt.v (ve_ix (ve_v 0) ve_int) ve_int (nomark _))
    (vss_cons (vs_asg (ve_op op_mod v_mod (ve_ix (ve_v 0) ve_int) (ve_v 1)) (vg_n 2 sc.nd))
    (vss_cons (vs_asg (ve_op op_fdiv v_div (ve_ix (ve_v 0) ve_int) (ve_v 1)) (vg_ix (ve_v 0) ve_int))
    (vss_one (vs_ret (ve_v 2)))))
    vss_nil)
    (vss_cons (vs_asg (ve_op op_addA v_add (ve_ix (ve_v 0) ve_int) ve_int) (vg_ix (ve_v 0) ve_int))
    (vss_cons (vs_asg (ve_op op_mod v_mod (ve_op op_mulA v_mul (ve_op op_addA v_add (ve_ix (ve_v 0) ve_int) (ve_op op_mulA v_mul ve_int (ve_ix (ve_v 0) ve_int))) (ve_op op_addA v_add ve_int (ve_op op_mulA v_mul ve_int (ve_ix (ve_v 0) ve_int)))) ve_int) (vg_n 3 sc.nd))
    (vss_cons (vs_asg (ve_op op_mod v_mod (ve_op op_addA v_add (ve_op op_addA v_add (ve_op op_mulA v_mul (ve_v 3) (ve_v 3)) (ve_op op_mulA v_mul ve_int (ve_ix (ve_v 0) ve_int))) ve_int) ve_int) (vg_n 3 sc.nd))
    (vss_one (vs_ret (ve_op op_mod v_mod (ve_op op_fdiv v_div (ve_op op_mod v_mod (ve_op op_mulA v_mul (ve_v 3) ve_int) ve_int) ve_int) (ve_v 1))))))))
theorem k__law_pick (T : Tx K mg) (c__law_draw : Cl P w K mg base 1 "_law_draw" 2 m__law_draw) : Cl P w K mg base 2 "_law_pick" 2 m__law_pick := by
  obtain ⟨f, fd, F, gf⟩ := T.f__law_pick
  have bl := T.bl
  refine clG F gf (F.bindsN (ps := ["_law_pen_here", "_law_things"]) fun _ _ _ _ _ _ us hl => match us, hl with | [_, _], _ => rfl) (fnG F sc__law_pick fun cdv A outer st H E hr hp tk => ?_) rfl
  have sc := sc__law_pick
  exact (vss_one (vs_ret (ve_ix (ve_v 1) (ve_user c__law_draw tk hr (by decide) (by rfl) (va_cons (ve_v 0) (va_cons (ve_callB c_len v_len (by rfl) bl.len (by decide +kernel) (va_cons (ve_v 1) va_nil)) va_nil)) (len_cons (len_cons len_nilF))))))
theorem k__law_same (T : Tx K mg)  : Cl P w K mg base 1 "_law_same" 2 m__law_same := by
  obtain ⟨f, fd, F, gf⟩ := T.f__law_same
  have bl := T.bl
  refine clG F gf (F.bindsN (ps := ["_law_found", "_law_due_here"]) fun _ _ _ _ _ _ us hl => match us, hl with | [_, _], _ => rfl) (fnG F sc__law_same fun cdv A outer st H E hr hp tk => ?_) rfl
  have sc := sc__law_same
  exact (vss_one (vs_ret (ve_cmp (op_eqA (hu64 hr)) k_eq.v (ve_callB (c_repr hr.g (hu64 hr)) v_repr (by rfl) bl.repr (by decide +kernel) (va_cons (ve_v 0) va_nil)) (ve_callB (c_repr hr.g (hu64 hr)) v_repr (by rfl) bl.repr (by decide +kernel) (va_cons (ve_v 1) va_nil)) (nomark _))))
theorem k__law_drawn (T : Tx K mg) (c__law_draw : Cl P w K mg base 1 "_law_draw" 2 m__law_draw) (c__law_pick : Cl P w K mg base 2 "_law_pick" 2 m__law_pick) : Cl P w K mg base 3 "_law_drawn" 1 m__law_drawn := by
  obtain ⟨f, fd, F, gf⟩ := T.f__law_drawn
  have bl := T.bl
  refine clG F gf (F.bindsN (ps := ["_law_pen_here"]) fun _ _ _ _ _ _ us hl => match us, hl with | [_], _ => rfl) (fnG F sc__law_drawn fun cdv A outer st H E hr hp tk => ?_) rfl
  have sc := sc__law_drawn
  exact (vss_cons (vs_asg (ve_tup (va_cons (ve_op op_addA v_add ve_int (ve_user c__law_draw tk hr (by decide) (by rfl) (va_cons (ve_v 0) (va_cons ve_int va_nil)) (len_cons (len_cons len_nilF)))) (va_cons (ve_op op_addA v_add ve_int (ve_user c__law_draw tk hr (by decide) (by rfl) (va_cons (ve_v 0) (va_cons ve_int va_nil)) (len_cons (len_cons len_nilF)))) va_nil))) (vg_t 2 (vgs_cons (vg_n 1 sc.nd) (vgs_cons (vg_n 2 sc.nd) vgs_nil))))
    (vss_cons (vs_par sc.nd (va_cons (ve_lstO va_nil) (va_cons (ve_lstO va_nil) va_nil)))
    (vss_cons (vs_for hp (vi_rng1 (by rfl) bl.range (va_cons (ve_v 2) va_nil)) (vg_n 5 sc.nd)
    (vss_cons (vs_expr (ve_append (ve_v 3) (ve_callTy call_tuple_of v_tuple (by rfl) bl.tuple (by decide +kernel) (va_cons (ve_lcF finL_ok sc.nd (vi_rng1 (by rfl) bl.range (va_cons (ve_v 1) va_nil)) (blkOk_by (own := [("_law_state", 6)]) (by kernel_rfl)) (fun _ _ _ _ _ => (pg_name (i := 6) sc.nd rfl (by first | exact Or.inl rfl | exact Or.inr rfl))) (fun _ _ _ _ _ => vts_nil) (fun _ _ _ _ _ => (ve_user c__law_draw takes_W0 hr (by decide) (by rfl) (va_cons (ve_v 0) (va_cons (ve_v 1) va_nil)) (len_cons (len_cons len_nilF))))) va_nil))))
    (vss_one (vs_expr (ve_append (ve_v 4) (ve_user c__law_pick tk hr (by decide) (by rfl) (va_cons (ve_v 0) (va_cons (ve_lst (va_cons ve_non (va_cons ve_int (va_cons ve_int (va_cons ve_int (va_cons ve_int va_nil)))))) va_nil)) (len_cons (len_cons len_nilF))))))))
    (vss_one (vs_ret (ve_tup (va_cons (ve_v 1) (va_cons (ve_user c__law_draw tk hr (by decide) (by rfl) (va_cons (ve_v 0) (va_cons (ve_v 1) va_nil)) (len_cons (len_cons len_nilF))) (va_cons (ve_callTy call_tuple_of v_tuple (by rfl) bl.tuple (by decide +kernel) (va_cons (ve_v 3) va_nil)) (va_cons (ve_callTy call_tuple_of v_tuple (by rfl) bl.tuple (by decide +kernel) (va_cons (ve_v 4) va_nil)) va_nil))))))))))
theorem k__law_cells (T : Tx K mg) (c__law_pick : Cl P w K mg base 2 "_law_pick" 2 m__law_pick) (c__law_draw : Cl P w K mg base 1 "_law_draw" 2 m__law_draw) : Cl P w K mg base 3 "_law_cells" 1 m__law_cells := by
  obtain ⟨f, fd, F, gf⟩ := T.f__law_cells
  have bl := T.bl
  refine clG F gf (F.bindsN (ps := ["_law_pen_here"]) fun _ _ _ _ _ _ us hl => match us, hl with | [_], _ => rfl) (fnG F sc__law_cells fun cdv A outer st H E hr hp tk => ?_) rfl
  have sc := sc__law_cells
  exact (vss_cons (vs_asg (ve_user c__law_pick tk hr (by decide) (by rfl) (va_cons (ve_v 0) (va_cons (ve_lst (va_cons (ve_tup (va_cons ve_int (va_cons ve_int va_nil))) (va_cons (ve_tup (va_cons ve_int (va_cons ve_int va_nil))) (va_cons (ve_tup (va_cons ve_int (va_cons ve_int va_nil))) (va_cons (ve_tup (va_cons ve_int (va_cons ve_int va_nil))) (va_cons (ve_tup (va_cons ve_int (va_cons ve_int va_nil))) va_nil)))))) va_nil)) (len_cons (len_cons len_nilF))) (vg_t 2 (vgs_cons (vg_n 1 sc.nd) (vgs_cons (vg_n 2 sc.nd) vgs_nil))))
    (vss_cons (vs_par sc.nd (va_cons (ve_lstO va_nil) (va_cons (ve_lstO va_nil) va_nil)))
    (vss_cons (vs_asg (ve_user c__law_pick tk hr (by decide) (by rfl) (va_cons (ve_v 0) (va_cons (ve_lst (va_cons (ve_tup (va_cons ve_int (va_cons ve_int va_nil))) (va_cons (ve_tup (va_cons ve_int (va_cons ve_int va_nil))) (va_cons (ve_tup (va_cons ve_int (va_cons ve_non va_nil))) (va_cons (ve_tup (va_cons ve_int (va_cons ve_int va_nil))) va_nil))))) va_nil)) (len_cons (len_cons len_nilF))) (vg_n 5 sc.nd))
    (vss_cons (vs_for hp (vi_rng1 (by rfl) bl.range (va_cons (ve_op op_addA v_add ve_int (ve_user c__law_draw tk hr (by decide) (by rfl) (va_cons (ve_v 0) (va_cons ve_int va_nil)) (len_cons (len_cons len_nilF)))) va_nil)) (vg_n 6 sc.nd)
    (vss_cons (vs_asg (ve_user c__law_draw tk hr (by decide) (by rfl) (va_cons (ve_v 0) (va_cons ve_int va_nil)) (len_cons (len_cons len_nilF))) (vg_n 7 sc.nd))
    (vss_cons (vs_asg (ve_user c__law_draw tk hr (by decide) (by rfl) (va_cons (ve_v 0) (va_cons (ve_ix (ve_lst (va_cons (ve_v 1) (va_cons (ve_v 2) va_nil))) (ve_v 7)) va_nil)) (len_cons (len_cons len_nilF))) (vg_n 8 sc.nd))
    (vss_cons (vs_setLcF finL_ok sc.nd (vi_rng1 (by rfl) bl.range (va_cons (ve_op op_mulA v_mul (ve_v 1) (ve_v 2)) va_nil)) (blkOk_by (own := [("_law_state", 10)]) (by kernel_rfl)) (fun _ _ _ _ _ => (pg_name (i := 10) sc.nd rfl (by first | exact Or.inl rfl | exact Or.inr rfl))) (fun _ _ _ _ _ => vts_nil) (fun _ _ _ _ _ => (ve_if (vt_cmp (op_eqA (hu64 hr)) k_eq.v (ve_v 7) ve_int (nomark _)) (ve_op op_addA v_add (ve_op op_mulA v_mul (ve_v 8) (ve_v 2)) (ve_op op_mod v_mod (ve_v 10) (ve_v 2))) (ve_op op_addA v_add (ve_op op_mulA v_mul (ve_op op_fdiv v_div (ve_v 10) (ve_v 2)) (ve_v 2)) (ve_v 8)))) (sw_true rfl rfl rfl (by decide +kernel)))
    (vss_cons (vs_expr (ve_append (ve_v 3) (ve_callTy call_tuple_of v_tuple (by rfl) bl.tuple (by decide +kernel) (va_cons (ve_v 9) va_nil))))
    (vss_one (vs_expr (ve_append (ve_v 4) (ve_ix (ve_v 5) (ve_v 7))))))))))
    (vss_one (vs_ret (ve_tup (va_cons (ve_op op_mulA v_mul (ve_v 1) (ve_v 2)) (va_cons (ve_user c__law_draw tk hr (by decide) (by rfl) (va_cons (ve_v 0) (va_cons (ve_op op_mulA v_mul (ve_v 1) (ve_v 2)) va_nil)) (len_cons (len_cons len_nilF))) (va_cons (ve_callTy call_tuple_of v_tuple (by rfl) bl.tuple (by decide +kernel) (va_cons (ve_v 3) va_nil)) (va_cons (ve_callTy call_tuple_of v_tuple (by rfl) bl.tuple (by decide +kernel) (va_cons (ve_v 4) va_nil)) va_nil)))))))))))
theorem k__law_marks (T : Tx K mg) (c__law_draw : Cl P w K mg base 1 "_law_draw" 2 m__law_draw) (c__law_pick : Cl P w K mg base 2 "_law_pick" 2 m__law_pick) : Cl P w K mg base 3 "_law_marks" 1 m__law_marks := by
  obtain ⟨f, fd, F, gf⟩ := T.f__law_marks
  have bl := T.bl
  refine clG F gf (F.bindsN (ps := ["_law_pen_here"]) fun _ _ _ _ _ _ us hl => match us, hl with | [_], _ => rfl) (fnG F sc__law_marks fun cdv A outer st H E hr hp tk => ?_) rfl
  have sc := sc__law_marks
  exact (vss_cons (vs_par sc.nd (va_cons (ve_lstO va_nil) (va_cons (ve_lstO va_nil) va_nil)))
    (vss_cons (vs_for hp (vi_rng1 (by rfl) bl.range (va_cons (ve_op op_addA v_add ve_int (ve_user c__law_draw tk hr (by decide) (by rfl) (va_cons (ve_v 0) (va_cons ve_int va_nil)) (len_cons (len_cons len_nilF)))) va_nil)) (vg_n 3 sc.nd)
    (vss_cons (vs_asg (ve_tup (va_cons (ve_user c__law_pick tk hr (by decide) (by rfl) (va_cons (ve_v 0) (va_cons (ve_lst (va_cons ve_int (va_cons ve_int (va_cons ve_int va_nil)))) va_nil)) (len_cons (len_cons len_nilF))) (va_cons (ve_cmp op_gt k_gt.v (ve_user c__law_draw tk hr (by decide) (by rfl) (va_cons (ve_v 0) (va_cons ve_int va_nil)) (len_cons (len_cons len_nilF))) ve_int (nomark _)) va_nil))) (vg_t 2 (vgs_cons (vg_n 4 sc.nd) (vgs_cons (vg_n 5 sc.nd) vgs_nil))))
    (vss_cons (vs_asg (ve_lstO va_nil) (vg_n 6 sc.nd))
    (vss_cons (vs_for hp (vi_rng1 (by rfl) bl.range (va_cons ve_int va_nil)) (vg_n 7 sc.nd)
    (vss_cons (vs_asg (ve_lcF finL_ok sc.nd (vi_seq (ve_tup (va_cons ve_int (va_cons ve_int va_nil)))) (blkOk_by (own := [("_law_bit", 11)]) (by kernel_rfl)) (fun _ _ _ _ _ => (pg_name (i := 11) sc.nd rfl (by first | exact Or.inl rfl | exact Or.inr rfl))) (fun _ _ _ _ _ => (vts_one (vt_cmp (op_eqA (hu64 hr)) k_eq.v (ve_op op_mod v_mod (ve_op op_fdiv v_div (ve_v 7) (ve_v 11)) ve_int) ve_int (nomark _)))) (fun _ _ _ _ _ => (ve_v 11))) (vg_n 8 sc.nd))
    (vss_cons (vs_asg (ve_lcF finL_ok sc.nd (vi_seq (ve_tup (va_cons ve_int (va_cons ve_int va_nil)))) (blkOk_by (own := [("_law_bit", 11)]) (by kernel_rfl)) (fun _ _ _ _ _ => (pg_name (i := 11) sc.nd rfl (by first | exact Or.inl rfl | exact Or.inr rfl))) (fun _ _ _ _ _ => (vts_one (vt_cmp (op_eqA (hu64 hr)) k_eq.v (ve_op op_mod v_mod (ve_op op_fdiv v_div (ve_v 4) (ve_v 11)) ve_int) ve_int (nomark _)))) (fun _ _ _ _ _ => (ve_v 11))) (vg_n 9 sc.nd))
    (vss_cons (vs_setLcF finL_ok sc.nd (vi_seq (ve_tup (va_cons ve_int (va_cons ve_int va_nil)))) (blkOk_by (own := [("_law_bit", 11)]) (by kernel_rfl)) (fun _ _ _ _ _ => (pg_name (i := 11) sc.nd rfl (by first | exact Or.inl rfl | exact Or.inr rfl))) (fun _ _ _ _ _ => (vts_one (vt_cmp (op_inA (hu65 hr)) v_in (ve_v 11) (ve_op op_addA v_add (ve_v 8) (ve_v 9)) (by rfl)))) (fun _ _ _ _ _ => (ve_v 11)) (sw_true rfl rfl rfl (by decide +kernel)))
    (vss_one (vs_expr (ve_append (ve_v 6) (ve_if (vt_val (ve_v 5)) (ve_callB (cr_sum rfl) v_sum (by rfl) bl.sum (by decide +kernel) (va_cons (ve_v 10) va_nil)) (ve_callB (cr_sum rfl) v_sum (by rfl) bl.sum (by decide +kernel) (va_cons (ve_lcF finL_ok sc.nd (vi_seq (ve_v 8)) (blkOk_by (own := [("_law_bit", 11)]) (by kernel_rfl)) (fun _ _ _ _ _ => (pg_name (i := 11) sc.nd rfl (by first | exact Or.inl rfl | exact Or.inr rfl))) (fun _ _ _ _ _ => (vts_one (vt_cmp (op_notInA (hu65 hr)) v_notIn (ve_v 11) (ve_v 9) (by rfl)))) (fun _ _ _ _ _ => (ve_v 11))) va_nil))))))))))
    (vss_cons (vs_expr (ve_append (ve_v 1) (ve_callTy call_tuple_of v_tuple (by rfl) bl.tuple (by decide +kernel) (va_cons (ve_v 6) va_nil))))
    (vss_one (vs_expr (ve_append (ve_v 2) (ve_user c__law_pick tk hr (by decide) (by rfl) (va_cons (ve_v 0) (va_cons (ve_lst (va_cons ve_non (va_cons (ve_v 4) (va_cons ve_int va_nil)))) va_nil)) (len_cons (len_cons len_nilF)))))))))))
    (vss_one (vs_ret (ve_tup (va_cons ve_int (va_cons (ve_user c__law_draw tk hr (by decide) (by rfl) (va_cons (ve_v 0) (va_cons ve_int va_nil)) (len_cons (len_cons len_nilF))) (va_cons (ve_callTy call_tuple_of v_tuple (by rfl) bl.tuple (by decide +kernel) (va_cons (ve_v 1) va_nil)) (va_cons (ve_callTy call_tuple_of v_tuple (by rfl) bl.tuple (by decide +kernel) (va_cons (ve_v 2) va_nil)) va_nil)))))))))
theorem k__law_turns (T : Tx K mg) (c__law_draw : Cl P w K mg base 1 "_law_draw" 2 m__law_draw) (c__law_pick : Cl P w K mg base 2 "_law_pick" 2 m__law_pick) : Cl P w K mg base 3 "_law_turns" 1 m__law_turns := by
  obtain ⟨f, fd, F, gf⟩ := T.f__law_turns
  have bl := T.bl
  refine clG F gf (F.bindsN (ps := ["_law_pen_here"]) fun _ _ _ _ _ _ us hl => match us, hl with | [_], _ => rfl) (fnG F sc__law_turns fun cdv A outer st H E hr hp tk => ?_) rfl
  have sc := sc__law_turns
  exact (vss_cons (vs_asg (ve_tup (va_cons (ve_op op_addA v_add ve_int (ve_user c__law_draw tk hr (by decide) (by rfl) (va_cons (ve_v 0) (va_cons ve_int va_nil)) (len_cons (len_cons len_nilF)))) (va_cons (ve_lstO va_nil) (va_cons (ve_lstO va_nil) va_nil)))) (vg_t 3 (vgs_cons (vg_n 1 sc.nd) (vgs_cons (vg_n 2 sc.nd) (vgs_cons (vg_n 3 sc.nd) vgs_nil)))))
    (vss_cons (vs_for hp (vi_rng1 (by rfl) bl.range (va_cons (ve_op op_addA v_add ve_int (ve_user c__law_draw tk hr (by decide) (by rfl) (va_cons (ve_v 0) (va_cons ve_int va_nil)) (len_cons (len_cons len_nilF)))) va_nil)) (vg_n 4 sc.nd)
    (vss_cons (vs_asg (ve_tup (va_cons (ve_user c__law_draw tk hr (by decide) (by rfl) (va_cons (ve_v 0) (va_cons ve_int va_nil)) (len_cons (len_cons len_nilF))) (va_cons (ve_user c__law_draw tk hr (by decide) (by rfl) (va_cons (ve_v 0) (va_cons (ve_v 1) va_nil)) (len_cons (len_cons len_nilF))) va_nil))) (vg_t 2 (vgs_cons (vg_n 5 sc.nd) (vgs_cons (vg_n 6 sc.nd) vgs_nil))))
    (vss_cons (vs_setLcF finL_ok sc.nd (vi_rng1 (by rfl) bl.range (va_cons (ve_v 1) va_nil)) (blkOk_by (own := [("_law_state", 8)]) (by kernel_rfl)) (fun _ _ _ _ _ => (pg_name (i := 8) sc.nd rfl (by first | exact Or.inl rfl | exact Or.inr rfl))) (fun _ _ _ _ _ => vts_nil) (fun _ _ _ _ _ => (ve_op op_mod v_mod (ve_op op_addA v_add (ve_v 8) (ve_v 6)) (ve_v 1))) (sw_true rfl rfl rfl (by decide +kernel)))
    (vss_cons (vs_if (vt_cmp (op_eqA (hu64 hr)) k_eq.v (ve_v 5) ve_int (nomark _))
    (vss_one (vs_setLcF finL_ok sc.nd (vi_rng1 (by rfl) bl.range (va_cons (ve_v 1) va_nil)) (blkOk_by (own := [("_law_state", 8)]) (by kernel_rfl)) (fun _ _ _ _ _ => (pg_name (i := 8) sc.nd rfl (by first | exact Or.inl rfl | exact Or.inr rfl))) (fun _ _ _ _ _ => vts_nil) (fun _ _ _ _ _ => (ve_callB (call_max2 rfl) v_max2 (by rfl) bl.max (by decide +kernel) (va_cons (ve_v 8) (va_cons (ve_v 6) va_nil)))) (sw_true rfl rfl rfl (by decide +kernel))))
    vss_nil)
    (vss_cons (vs_if (vt_cmp (op_eqA (hu64 hr)) k_eq.v (ve_v 5) ve_int (nomark _))
    (vss_one (vs_setLcF finL_ok sc.nd (vi_rng1 (by rfl) bl.range (va_cons (ve_v 1) va_nil)) (blkOk_by (own := [("_law_state", 8)]) (by kernel_rfl)) (fun _ _ _ _ _ => (pg_name (i := 8) sc.nd rfl (by first | exact Or.inl rfl | exact Or.inr rfl))) (fun _ _ _ _ _ => vts_nil) (fun _ _ _ _ _ => (ve_v 6)) (sw_true rfl rfl rfl (by decide +kernel))))
    vss_nil)
    (vss_cons (vs_if (vt_cmp (op_eqA (hu64 hr)) k_eq.v (ve_v 5) ve_int (nomark _))
    (vss_one (vs_asg (ve_listRg (ve_v 1) (by rfl) bl.list (by rfl) bl.range) (vg_n 7 sc.nd)))
    vss_nil)
    (vss_cons (vs_expr (ve_append (ve_v 2) (ve_callTy call_tuple_of v_tuple (by rfl) bl.tuple (by decide +kernel) (va_cons (ve_v 7) va_nil))))
    (vss_one (vs_expr (ve_append (ve_v 3) (ve_user c__law_pick tk hr (by decide) (by rfl) (va_cons (ve_v 0) (va_cons (ve_lst (va_cons ve_non (va_cons (ve_v 5) (va_cons ve_int va_nil)))) va_nil)) (len_cons (len_cons len_nilF)))))))))))))
    (vss_one (vs_ret (ve_tup (va_cons (ve_v 1) (va_cons (ve_user c__law_draw tk hr (by decide) (by rfl) (va_cons (ve_v 0) (va_cons (ve_v 1) va_nil)) (len_cons (len_cons len_nilF))) (va_cons (ve_callTy call_tuple_of v_tuple (by rfl) bl.tuple (by decide +kernel) (va_cons (ve_v 2) va_nil)) (va_cons (ve_callTy call_tuple_of v_tuple (by rfl) bl.tuple (by decide +kernel) (va_cons (ve_v 3) va_nil)) va_nil)))))))))
theorem k__law_system (T : Tx K mg) (c__law_draw : Cl P w K mg base 1 "_law_draw" 2 m__law_draw) (c__law_drawn : Cl P w K mg base 3 "_law_drawn" 1 m__law_drawn) (c__law_cells : Cl P w K mg base 3 "_law_cells" 1 m__law_cells) (c__law_marks : Cl P w K mg base 3 "_law_marks" 1 m__law_marks) (c__law_turns : Cl P w K mg base 3 "_law_turns" 1 m__law_turns) : Cl P w K mg base 4 "_law_system" 1 m__law_system := by
  obtain ⟨f, fd, F, gf⟩ := T.f__law_system
  have bl := T.bl
  refine clG F gf (F.bindsN (ps := ["_law_pen_here"]) fun _ _ _ _ _ _ us hl => match us, hl with | [_], _ => rfl) (fnG F sc__law_system fun cdv A outer st H E hr hp tk => ?_) rfl
  have sc := sc__law_system
  exact (vss_cons (vs_asg (ve_user c__law_draw tk hr (by decide) (by rfl) (va_cons (ve_v 0) (va_cons ve_int va_nil)) (len_cons (len_cons len_nilF))) (vg_n 1 sc.nd))
    (vss_cons (vs_if (vt_cmp (op_eqA (hu64 hr)) k_eq.v (ve_v 1) ve_int (nomark _))
    (vss_one (vs_ret (ve_user c__law_drawn tk hr (by decide) (by rfl) (va_cons (ve_v 0) va_nil) (len_cons len_nilF))))
    vss_nil)
    (vss_cons (vs_asg (ve_if (vt_cmp op_lt k_lt.v (ve_v 1) ve_int (nomark _)) (ve_user c__law_cells tk hr (by decide) (by rfl) (va_cons (ve_v 0) va_nil) (len_cons len_nilF)) (ve_if (vt_cmp (op_eqA (hu64 hr)) k_eq.v (ve_v 1) ve_int (nomark _)) (ve_user c__law_marks tk hr (by decide) (by rfl) (va_cons (ve_v 0) va_nil) (len_cons len_nilF)) (ve_user c__law_turns tk hr (by decide) (by rfl) (va_cons (ve_v 0) va_nil) (len_cons len_nilF)))) (vg_n 2 sc.nd))
    (vss_cons (vs_if (vt_cmp op_gt k_gt.v (ve_user c__law_draw tk hr (by decide) (by rfl) (va_cons (ve_v 0) (va_cons ve_int va_nil)) (len_cons (len_cons len_nilF))) ve_int (nomark _))
    (vss_one (vs_ret (ve_v 2)))
    vss_nil)
    (vss_cons (vs_asg (ve_v 2) (vg_t 4 (vgs_cons (vg_n 3 sc.nd) (vgs_cons (vg_n 4 sc.nd) (vgs_cons (vg_n 5 sc.nd) (vgs_cons (vg_n 6 sc.nd) vgs_nil))))))
    (vss_cons (vs_par sc.nd (va_cons (ve_user c__law_draw tk hr (by decide) (by rfl) (va_cons (ve_v 0) (va_cons (ve_callB c_len v_len (by rfl) bl.len (by decide +kernel) (va_cons (ve_v 5) va_nil)) va_nil)) (len_cons (len_cons len_nilF))) (va_cons (ve_user c__law_draw tk hr (by decide) (by rfl) (va_cons (ve_v 0) (va_cons (ve_v 3) va_nil)) (len_cons (len_cons len_nilF))) va_nil)))
    (vss_cons (vs_asg (ve_op op_addA v_add (ve_op op_addA v_add (ve_sl (ve_ix (ve_v 5) (ve_v 7)) vo_no (vo_some (ve_v 8))) (ve_tup (va_cons (ve_user c__law_draw tk hr (by decide) (by rfl) (va_cons (ve_v 0) (va_cons (ve_v 3) va_nil)) (len_cons (len_cons len_nilF))) va_nil))) (ve_sl (ve_ix (ve_v 5) (ve_v 7)) (vo_some (ve_op op_addA v_add (ve_v 8) ve_int)) vo_no)) (vg_n 9 sc.nd))
    (vss_one (vs_ret (ve_tup (va_cons (ve_v 3) (va_cons (ve_v 4) (va_cons (ve_op op_addA v_add (ve_op op_addA v_add (ve_sl (ve_v 5) vo_no (vo_some (ve_v 7))) (ve_tup (va_cons (ve_v 9) va_nil))) (ve_sl (ve_v 5) (vo_some (ve_op op_addA v_add (ve_v 7) ve_int)) vo_no)) (va_cons (ve_v 6) va_nil))))))))))))))
theorem k__law_run (T : Tx K mg)  : Cl P w K mg base 1 "_law_run" 3 m__law_run := by
  obtain ⟨f, fd, F, gf⟩ := T.f__law_run
  have bl := T.bl
  refine clG F gf (F.bindsN (ps := ["_law_system_here", "_law_state", "_law_log"]) fun _ _ _ _ _ _ us hl => match us, hl with | [_, _, _], _ => rfl) (fnG F sc__law_run fun cdv A outer st H E hr hp tk => ?_) rfl
  have sc := sc__law_run
  exact (vss_cons (vs_for hp (vi_seq (ve_v 2)) (vg_n 3 sc.nd)
    (vss_one (vs_asg (ve_ix (ve_ix (ve_ix (ve_v 0) ve_int) (ve_v 3)) (ve_v 1)) (vg_n 1 sc.nd))))
    (vss_one (vs_ret (ve_v 1))))
theorem k__law_paths (T : Tx K mg)  : Cl P w K mg base 1 "_law_paths" 1 m__law_paths := by
  obtain ⟨f, fd, F, gf⟩ := T.f__law_paths
  have bl := T.bl
  refine clG F gf (F.bindsN (ps := ["_law_system_here"]) fun _ _ _ _ _ _ us hl => match us, hl with | [_], _ => rfl) (fnG F sc__law_paths fun cdv A outer st H E hr hp tk => ?_) rfl
  have sc := sc__law_paths
  exact (vss_cons (vs_par sc.nd (va_cons (ve_lstO (va_cons (ve_tup (va_cons (ve_ix (ve_v 0) ve_int) (va_cons (ve_tup va_nil) va_nil))) va_nil)) (va_cons ve_int va_nil)))
    (vss_cons (vs_asg (ve_lstO (va_cons (ve_ix (ve_v 0) ve_int) va_nil)) (vg_n 3 sc.nd))
    (vss_cons (vs_while 2000 hp (vt_cmp op_lt k_lt.v (ve_v 2) (ve_callB c_len v_len (by rfl) bl.len (by decide +kernel) (va_cons (ve_v 1) va_nil)) (nomark _))
    (vss_cons (vs_for hp (vi_enum (by rfl) bl.enumerate (va_cons (ve_ix (ve_v 0) ve_int) va_nil)) (vg_t 2 (vgs_cons (vg_n 4 sc.nd) (vgs_cons (vg_n 5 sc.nd) vgs_nil)))
    (vss_cons (vs_asg (ve_ix (ve_v 5) (ve_ix (ve_ix (ve_v 1) (ve_v 2)) ve_int)) (vg_n 6 sc.nd))
    (vss_one (vs_if (vt_cmp (op_notInA (hu65 hr)) v_notIn (ve_v 6) (ve_v 3) (by rfl))
    (vss_cons (vs_expr (ve_append (ve_v 3) (ve_v 6)))
    (vss_one (vs_expr (ve_append (ve_v 1) (ve_tup (va_cons (ve_v 6) (va_cons (ve_op op_addA v_add (ve_ix (ve_ix (ve_v 1) (ve_v 2)) ve_int) (ve_tup (va_cons (ve_v 4) va_nil))) va_nil)))))))
    vss_nil))))
    (vss_one (vs_asg (ve_op op_addA v_add (ve_v 2) ve_int) (vg_n 2 sc.nd)))))
    (vss_one (vs_ret (ve_v 1))))))
theorem k__law_reached (T : Tx K mg) (c__law_paths : Cl P w K mg base 1 "_law_paths" 1 m__law_paths) : Cl P w K mg base 2 "_law_reached" 1 m__law_reached := by
  obtain ⟨f, fd, F, gf⟩ := T.f__law_reached
  have bl := T.bl
  refine clG F gf (F.bindsN (ps := ["_law_system_here"]) fun _ _ _ _ _ _ us hl => match us, hl with | [_], _ => rfl) (fnG F sc__law_reached fun cdv A outer st H E hr hp tk => ?_) rfl
  have sc := sc__law_reached
  exact (vss_one (vs_ret (ve_callB cr_sortedI v_sorted (by rfl) bl.sorted (by decide +kernel) (va_cons (ve_lcF finL_ok sc.nd (vi_seq (ve_user c__law_paths tk hr (by decide) (by rfl) (va_cons (ve_v 0) va_nil) (len_cons len_nilF))) (blkOk_by (own := [("_law_state", 1), ("_law_log", 2)]) (by kernel_rfl)) (fun _ _ _ _ _ => (pg_tup rfl (pgs_cons (pg_name (i := 1) sc.nd rfl (by first | exact Or.inl rfl | exact Or.inr rfl)) (pgs_cons (pg_name (i := 2) sc.nd rfl (by first | exact Or.inl rfl | exact Or.inr rfl)) pgs_nil)))) (fun _ _ _ _ _ => vts_nil) (fun _ _ _ _ _ => (ve_v 1))) va_nil))))
theorem k__law_pairs (T : Tx K mg)  : Cl P w K mg base 1 "_law_pairs" 1 m__law_pairs := by
  obtain ⟨f, fd, F, gf⟩ := T.f__law_pairs
  have bl := T.bl
  refine clG F gf (F.bindsN (ps := ["_law_many"]) fun _ _ _ _ _ _ us hl => match us, hl with | [_], _ => rfl) (fnG F sc__law_pairs fun cdv A outer st H E hr hp tk => ?_) rfl
  have sc := sc__law_pairs
  exact (vss_cons (vs_asg (ve_lstO va_nil) (vg_n 1 sc.nd))
    (vss_cons (vs_for hp (vi_rng1 (by rfl) bl.range (va_cons (ve_v 0) va_nil)) (vg_n 2 sc.nd)
    (vss_one (vs_expr (ve_extend (ve_v 1) (ve_lcF finL_ok sc.nd (vi_rng1 (by rfl) bl.range (va_cons (ve_v 0) va_nil)) (blkOk_by (own := [("_law_other", 3)]) (by kernel_rfl)) (fun _ _ _ _ _ => (pg_name (i := 3) sc.nd rfl (by first | exact Or.inl rfl | exact Or.inr rfl))) (fun _ _ _ _ _ => vts_nil) (fun _ _ _ _ _ => (ve_tup (va_cons (ve_v 2) (va_cons (ve_v 3) va_nil)))))))))
    (vss_one (vs_ret (ve_v 1)))))
theorem k__law_due (T : Tx K mg) (c__law_pairs : Cl P w K mg base 1 "_law_pairs" 1 m__law_pairs) (c__law_reached : Cl P w K mg base 2 "_law_reached" 1 m__law_reached) (c__law_run : Cl P w K mg base 1 "_law_run" 3 m__law_run) : Cl P w K mg base 3 "_law_due" 1 m__law_due := by
  obtain ⟨f, fd, F, gf⟩ := T.f__law_due
  have bl := T.bl
  refine clG F gf (F.bindsN (ps := ["_law_system_here"]) fun _ _ _ _ _ _ us hl => match us, hl with | [_], _ => rfl) (fnG F sc__law_due fun cdv A outer st H E hr hp tk => ?_) rfl
  have sc := sc__law_due
  exact (vss_cons (vs_asg (ve_lstO va_nil) (vg_n 1 sc.nd))
    (vss_cons (vs_for hp (vi_seq (ve_user c__law_pairs tk hr (by decide) (by rfl) (va_cons (ve_callB c_len v_len (by rfl) bl.len (by decide +kernel) (va_cons (ve_ix (ve_v 0) ve_int) va_nil)) va_nil) (len_cons len_nilF))) (vg_t 2 (vgs_cons (vg_n 2 sc.nd) (vgs_cons (vg_n 3 sc.nd) vgs_nil)))
    (vss_one (vs_for hp (vi_seq (ve_user c__law_reached tk hr (by decide) (by rfl) (va_cons (ve_v 0) va_nil) (len_cons len_nilF))) (vg_n 4 sc.nd)
    (vss_cons (vs_asg (ve_user c__law_run tk hr (by decide) (by rfl) (va_cons (ve_v 0) (va_cons (ve_v 4) (va_cons (ve_tup (va_cons (ve_v 2) (va_cons (ve_v 3) va_nil))) va_nil))) (len_cons (len_cons (len_cons len_nilF)))) (vg_n 5 sc.nd))
    (vss_one (vs_if (vw_and (vt_cmp op_lt k_lt.v (ve_v 2) (ve_v 3) (nomark _)) (vw_and1 (vt_cmp (op_neA (hu64 hr)) k_ne.v (ve_v 5) (ve_user c__law_run tk hr (by decide) (by rfl) (va_cons (ve_v 0) (va_cons (ve_v 4) (va_cons (ve_tup (va_cons (ve_v 3) (va_cons (ve_v 2) va_nil))) va_nil))) (len_cons (len_cons (len_cons len_nilF)))) (nomark _)))).pt
    (vss_one (vs_expr (ve_append (ve_v 1) (ve_tup (va_cons (ve_v 4) (va_cons (ve_v 2) (va_cons (ve_v 3) va_nil)))))))
    vss_nil))))))
    (vss_one (vs_ret (ve_ix (ve_op op_addA v_add (ve_callB cr_sortedTL v_sortedTL (by rfl) bl.sorted (by decide +kernel) (va_cons (ve_v 1) va_nil)) (ve_lst (va_cons ve_non va_nil))) ve_int)))))
theorem k__law_right (T : Tx K mg) (c__law_due : Cl P w K mg base 3 "_law_due" 1 m__law_due) (c__law_same : Cl P w K mg base 1 "_law_same" 2 m__law_same) (c_order_fault : Cl P w K mg base 6 "order_fault" 1 m_order_fault) : Cl P w K mg base 7 "_law_right" 2 m__law_right := by
  obtain ⟨f, fd, F, gf⟩ := T.f__law_right
  have bl := T.bl
  refine clG F gf (F.bindsN (ps := ["_law_pen_here", "_law_system_here"]) fun _ _ _ _ _ _ us hl => match us, hl with | [_, _], _ => rfl) (fnG F sc__law_right fun cdv A outer st H E hr hp tk => ?_) rfl
  have sc := sc__law_right
  exact (vss_cons (vs_par sc.nd (va_cons (ve_user c__law_due tk hr (by decide) (by rfl) (va_cons (ve_v 1) va_nil) (len_cons len_nilF)) (va_cons (ve_callB (c_repr hr.g (hu64 hr)) v_repr (by rfl) bl.repr (by decide +kernel) (va_cons (ve_v 1) va_nil)) va_nil)))
    (vss_one (vs_ret (ve_and (ve_user c__law_same tk hr (by decide) (by rfl) (va_cons (ve_lcF finL_ok sc.nd (vi_rng1 (by rfl) bl.range (va_cons ve_int va_nil)) (blkOk_by (own := [("_law_turn", 4)]) (by kernel_rfl)) (fun _ _ _ _ _ => (pg_name (i := 4) sc.nd rfl (by first | exact Or.inl rfl | exact Or.inr rfl))) (fun _ _ _ _ _ => vts_nil) (fun _ _ _ _ _ => (ve_user c_order_fault takes_W0 hr (by decide) (by rfl) (va_cons (ve_v 1) va_nil) (len_cons len_nilF)))) (va_cons (ve_lst (va_cons (ve_v 2) (va_cons (ve_v 2) va_nil))) va_nil)) (len_cons (len_cons len_nilF))) (ve_one (ve_cmp (op_eqA (hu64 hr)) k_eq.v (ve_callB (c_repr hr.g (hu64 hr)) v_repr (by rfl) bl.repr (by decide +kernel) (va_cons (ve_v 1) va_nil)) (ve_v 3) (nomark _)))))))
theorem g_law (T : Tx K mg) (c__law_pen : Cl P w K mg base 1 "_law_pen" 1 m__law_pen) (c__law_cell_at : Cl P w K mg base 1 "_law_cell_at" 2 m__law_cell_at) (c__law_right : Cl P w K mg base 7 "_law_right" 2 m__law_right) (c__law_system : Cl P w K mg base 4 "_law_system" 1 m__law_system) {f : Addr} {fd : FuncData} (F : FunD K "law" "law" (defArgs (top 36)) (defBody (top 36)) (defScope (top 36)) [] [] f fd) : FnG P w K mg base 8 f fd ["_law_script"] (spG ⟨K, mg⟩ 1 m_law) := by
  have bl := T.bl
  refine fnG F sc_law fun cdv A outer st H E hr hp tk => ?_
  have sc := sc_law
  exact (vss_cons (vs_for hp (vi_rng1 (by rfl) bl.range (va_cons (ve_callB (call_max2 rfl) v_max2 (by rfl) bl.max (by decide +kernel) (va_cons ve_int (va_cons (ve_callB (call_min2 rfl) v_min2 (by rfl) bl.min (by decide +kernel) (va_cons (ve_callB c_len v_len (by rfl) bl.len (by decide +kernel) (va_cons (ve_v 0) va_nil)) (va_cons ve_int va_nil))) va_nil))) va_nil)) (vg_n 1 sc.nd)
    (vss_cons (vs_asg (ve_user c__law_pen tk hr (by decide) (by rfl) (va_cons (ve_user c__law_cell_at tk hr (by decide) (by rfl) (va_cons (ve_v 0) (va_cons (ve_v 1) va_nil)) (len_cons (len_cons len_nilF))) va_nil) (len_cons len_nilF)) (vg_n 2 sc.nd))
    (vss_one (vs_for hp (vi_rng1 (by rfl) bl.range (va_cons ve_int va_nil)) (vg_n 3 sc.nd)
    (vss_one (vs_if (vt_not (vt_val (ve_user c__law_right tk hr (by decide) (by rfl) (va_cons (ve_v 2) (va_cons (ve_user c__law_system tk hr (by decide) (by rfl) (va_cons (ve_v 2) va_nil) (len_cons len_nilF)) va_nil)) (len_cons (len_cons len_nilF)))))
    (vss_one (vs_ret ve_bl))
    vss_nil))))))
    (vss_one (vs_ret ve_bl)))
end
end W
namespace VL
open PySem PySem.Spec PyProof.Rows L2
/-! the least triple -/
theorem findSome_min {β : Type} {P : Nat → Option β} {r : β} : ∀ {xs : List Nat}, xs.Pairwise (· < ·) → xs.findSome? P = some r → ∃ x ∈ xs, P x = some r ∧ ∀ z ∈ xs, P z ≠ none → x ≤ z
  | [], _, h => by simp at h
  | x :: xs, hp, h => by
    obtain ⟨h1, h2⟩ := List.pairwise_cons.1 hp
    cases hx : P x with
    | some b =>
      rw [List.findSome?_cons, hx] at h
      cases h
      refine ⟨x, List.mem_cons_self .., hx, fun z hz _ => ?_⟩
      rcases List.mem_cons.1 hz with rfl | hz
      · exact Nat.le_refl _
      · exact Nat.le_of_lt (h1 z hz)
    | none =>
      rw [List.findSome?_cons, hx] at h
      obtain ⟨z, hz, e, hm⟩ := findSome_min h2 h
      refine ⟨z, List.mem_cons_of_mem _ hz, e, fun w hw hn => ?_⟩
      rcases List.mem_cons.1 hw with rfl | hw
      · exact absurd hx hn
      · exact hm w hw hn
theorem srt_pw (l : List Nat) : (srt l).Pairwise (· ≤ ·) := by
  unfold srt
  rw [List.pairwise_map]
  exact (isort_pw _).imp fun h => by omega
theorem reach_pw {y : Sys} (hy : y.Ok) : y.reach.Pairwise (· < ·) := by
  have h1 : y.reach.Pairwise (· ≤ ·) := srt_pw _
  have h2 : y.reach.Pairwise (· ≠ ·) := reach_nodup hy
  exact (h1.and h2).imp fun ⟨a, b⟩ => by omega
theorem upL_pw (a m : Nat) : (upL a m).Pairwise (· < ·) := by
  unfold upL
  rw [List.pairwise_map]
  exact List.pairwise_lt_range.imp fun h => by omega
def iT (p : Nat × Nat × Nat) : List Int := [(p.1 : Int), (p.2.1 : Int), (p.2.2 : Int)]
theorem ofault_least {y : Sys} (hy : y.Ok) {p : Nat × Nat × Nat} (h : y.ofault = some p) {st a b : Nat} (hst : st ∈ y.reach) (hab : a < b) (hb : b < y.ops.length) (hs : y.swp st a b = true) : HT.lexLt (iT (st, a, b)) (iT p) = false := by
  unfold Sys.ofault at h
  obtain ⟨x1, m1, h1, l1⟩ := findSome_min (reach_pw hy) h
  obtain ⟨x2, m2, h2, l2⟩ := findSome_min List.pairwise_lt_range h1
  obtain ⟨x3, m3, h3, l3⟩ := findSome_min (upL_pw _ _) h2
  have hp : p = (x1, x2, x3) := by
    split at h3
    · cases h3; rfl
    · cases h3
  subst hp
  have n3 : ∀ st a b, y.swp st a b = true → (if y.swp st a b = true then some (st, a, b) else none) ≠ none := fun st a b h => by rw [if_pos h]; simp
  have fnn : ∀ {α β : Type} {P : α → Option β} {xs : List α} {x : α}, x ∈ xs → P x ≠ none → xs.findSome? P ≠ none := fun hx hn z => hn (List.findSome?_eq_none_iff.1 z _ hx)
  have k1 := l1 st hst (fnn (List.mem_range.2 (by omega : a < y.ops.length)) (fnn (upL_mem.2 ⟨hab, hb⟩) (n3 _ _ _ hs)))
  unfold iT
  rw [HT.lexLt_cons]
  by_cases e1 : st = x1
  · subst e1
    rw [if_pos rfl, HT.lexLt_cons]
    have k2 := l2 a (List.mem_range.2 (by omega)) (fnn (upL_mem.2 ⟨hab, hb⟩) (n3 _ _ _ hs))
    by_cases e2 : a = x2
    · subst e2
      rw [if_pos rfl, HT.lexLt_cons]
      have k3 := l3 b (upL_mem.2 ⟨hab, hb⟩) (n3 _ _ _ hs)
      by_cases e3 : b = x3
      · subst e3
        rw [if_pos rfl]
        rfl
      · rw [if_neg (by simp; omega)]
        exact decide_eq_false (by simp; omega)
    · rw [if_neg (by simp; omega)]
      exact decide_eq_false (by simp; omega)
  · rw [if_neg (by simp; omega)]
    exact decide_eq_false (by simp; omega)
/-- what the law finds -/
def Sys.swaps (y : Sys) (ls : List (List Nat)) : List (Nat × Nat × Nat) := ls.flatMap fun l => (y.reach.filter fun st => decide (l.getD 0 0 < l.getD 1 0) && y.swp st (l.getD 0 0) (l.getD 1 0)).map fun st => (st, l.getD 0 0, l.getD 1 0)
theorem swaps_mem {y : Sys} {p : Nat × Nat × Nat} : p ∈ y.swaps (pairsL y.ops.length) ↔ p.1 ∈ y.reach ∧ p.2.1 < p.2.2 ∧ p.2.2 < y.ops.length ∧ y.swp p.1 p.2.1 p.2.2 = true := by
  obtain ⟨st, a, b⟩ := p
  unfold Sys.swaps
  rw [List.mem_flatMap]
  constructor
  · rintro ⟨l, hl, h⟩
    unfold pairsL at hl
    obtain ⟨a', ha, hl⟩ := List.mem_flatMap.1 hl
    obtain ⟨b', hb, rfl⟩ := List.mem_map.1 hl
    obtain ⟨st', hs, e⟩ := List.mem_map.1 h
    obtain ⟨h1, h2⟩ := List.mem_filter.1 hs
    simp only [List.getD_cons_zero, List.getD_cons_succ, Bool.and_eq_true, decide_eq_true_eq, Prod.mk.injEq] at h2 e
    obtain ⟨rfl, rfl, rfl⟩ := e
    exact ⟨h1, h2.1, List.mem_range.1 hb, h2.2⟩
  · rintro ⟨h1, h2, h3, h4⟩
    have h2 : a < b := h2
    have h3 : b < y.ops.length := h3
    refine ⟨[a, b], ?_, ?_⟩
    · unfold pairsL
      exact List.mem_flatMap.2 ⟨a, List.mem_range.2 (by omega), List.mem_map.2 ⟨b, List.mem_range.2 h3, rfl⟩⟩
    · refine List.mem_map.2 ⟨st, List.mem_filter.2 ⟨h1, ?_⟩, rfl⟩
      simp only [List.getD_cons_zero, List.getD_cons_succ, Bool.and_eq_true, decide_eq_true_eq]
      exact ⟨h2, h4⟩
theorem sabO_iT (p : Nat × Nat × Nat) : sabO p = .tup ((iT p).map D.int) := rfl
theorem toTs_iT : ∀ ps : List (Nat × Nat × Nat), toTs (ps.map sabO) = some (ps.map iT)
  | [] => rfl
  | p :: ps => by
    simp only [List.map_cons, toTs, toTs_iT ps]
    rfl
theorem least_D {y : Sys} (hy : y.Ok) : ((sortL ((y.swaps (pairsL y.ops.length)).map iT)).map (fun l => D.tup (l.map D.int)) ++ [D.non])[0]? = some (sabD y.ofault) := by
  have pm := sortL_perm ((y.swaps (pairsL y.ops.length)).map iT)
  have pw := sortL_pw ((y.swaps (pairsL y.ops.length)).map iT)
  generalize sortL ((y.swaps (pairsL y.ops.length)).map iT) = ls at pm pw
  cases ho : y.ofault with
  | none =>
    have : y.swaps (pairsL y.ops.length) = [] := by
      rw [List.eq_nil_iff_forall_not_mem]
      intro p hp
      obtain ⟨h1, h2, h3, h4⟩ := swaps_mem.1 hp
      have := ofault_none.1 ho p.1 h1 p.2.1 p.2.2 h2 h3
      simp [Sys.swp, this] at h4
    rw [this] at pm
    have : ls = [] := List.Perm.eq_nil pm
    subst this
    rfl
  | some p =>
    obtain ⟨st, a, b⟩ := p
    obtain ⟨h1, h2, h3, h4⟩ := ofault_some ho
    have hm : iT (st, a, b) ∈ ls := pm.mem_iff.2 (List.mem_map.2 ⟨_, swaps_mem.2 ⟨h1, h2, h3, by simpa [Sys.swp] using h4⟩, rfl⟩)
    cases ls with
    | nil => cases hm
    | cons l r =>
      have e : l = iT (st, a, b) := by
        obtain ⟨q, hq, rfl⟩ := List.mem_map.1 (pm.mem_iff.1 (List.mem_cons_self ..))
        obtain ⟨g1, g2, g3, g4⟩ := swaps_mem.1 hq
        have k1 := ofault_least hy ho g1 g2 g3 g4
        have k2 : HT.lexLt (iT (st, a, b)) (iT q) = false := by
          rcases List.mem_cons.1 hm with e | hm
          · rw [e]; exact lexLt_self _
          · exact (List.pairwise_cons.1 pw).1 _ hm
        exact lexLt_anti _ _ k1 k2
      subst e
      rfl
theorem swaps_len {y : Sys} (hy : y.Ok) : ∀ ls : List (List Nat), (y.swaps ls).length ≤ ls.length * 6
  | [] => by simp [Sys.swaps]
  | l :: ls => by
    have ih := swaps_len hy ls
    have h1 : (y.swaps (l :: ls)).length = ((y.reach.filter fun st => decide (l.getD 0 0 < l.getD 1 0) && y.swp st (l.getD 0 0) (l.getD 1 0)).map fun st => (st, l.getD 0 0, l.getD 1 0)).length + (y.swaps ls).length := by
      unfold Sys.swaps
      rw [List.flatMap_cons, List.length_append]
    have h2 := List.length_filter_le (fun st => decide (l.getD 0 0 < l.getD 1 0) && y.swp st (l.getD 0 0) (l.getD 1 0)) y.reach
    have h3 := reach_len hy
    have h4 := hy.m6
    rw [List.length_map] at h1
    rw [List.length_cons]
    omega
theorem law_due27 {y : Sys} (hy : y.Ok) (s : S) : wp (m__law_due [y.D] s) fun d s' => d = sabD y.ofault ∧ ∃ t, s' = s ++ t := by
  have h6 := hy.o6
  have pl : (pairsL y.ops.length).length ≤ 36 := by
    have := pairsL_len y.ops.length
    have := sq6 h6
    omega
  unfold m__law_due
  rw [mFn_eq, wp_fin]
  have hi : initE 6 [y.D] = [some y.D, none, none, none, none, none] := rfl
  rw [hi]
  have lp := fun s => (show m__law_pairs [.int (y.ops.length : Int)] s = .ok (.obj s.length) (s ++ [.lst ((pairsL y.ops.length).map logD)]) from law_pairs_ok h6 s)
  have g1 : (s ++ [O.lst []] ++ [O.lst ((pairsL y.ops.length).map logD)])[(s ++ [O.lst []]).length]? = some (.lst ((pairsL y.ops.length).map logD)) := by simp
  simp only [mSeq_eq, mAsg_eq, mLstO_eq, mNil_eq, R.bnd_ok, List.length_nil, Nat.zero_le, LIM_eq, if_true, gN_eq, List.set_cons_succ, List.set_cons_zero, seqF_nx, mFor_eq, mSrc_eq, mUser_eq, mCons_eq, mCall_eq, mBin_eq, mVar_eq, get_0, List.getElem?_cons_succ, vg_some, mC_eq, ix_ops, fLen_tup, List.length_map, lp, retag_ok, srcF_obj g1, wp_bnd]
  refine wp_srcEach (f := logD) (fun pre ρ s' => (∃ x2 x3 x4 x5, ρ = [some y.D, some (.obj s.length), x2, x3, x4, x5]) ∧ ∃ u, s' = s ++ ([O.lst ((y.swaps pre).map sabO), O.lst ((pairsL y.ops.length).map logD)] ++ u)) (pairsL y.ops.length) ?_ ⟨⟨_, _, _, _, rfl⟩, [], by simp [Sys.swaps]⟩ ?_ ?_
  · rintro pre ρ s' ⟨_, u, rfl⟩
    simp [srcAt]
  · rintro pre l rest ρ s' he ⟨⟨x2, x3, x4, x5, rfl⟩, u, rfl⟩
    have hl : l ∈ pairsL y.ops.length := by rw [he]; simp
    unfold pairsL at hl
    obtain ⟨a, ha, hl⟩ := List.mem_flatMap.1 hl
    obtain ⟨b, hb, rfl⟩ := List.mem_map.1 hl
    have ha := List.mem_range.1 ha
    have hb := List.mem_range.1 hb
    have hpl : pre.length ≤ 36 := by
      have := congrArg List.length he
      simp at this
      omega
    have sl := swaps_len hy pre
    simp only [logD, List.map_cons, List.map_nil, gT_eq, gConsM_eq, gN_eq, gNilM_eq, List.length_cons, List.length_nil, Nat.reduceAdd, if_true, R.bnd_ok, wp_ok, List.set_cons_succ, List.set_cons_zero, mFor_eq, mSrc_eq, mUser_eq, mCons_eq, mVar_eq, get_0, List.getElem?_cons_succ, vg_some, mNil_eq, law_reached_eq hy, retag_ok, srcF_lst, forF_fix]
    refine wp_each (f := nD) (fun pre2 ρ s' => (∃ x4 x5, ρ = [some y.D, some (.obj s.length), some (nD a), some (nD b), x4, x5]) ∧ ∃ u, s' = s ++ ([O.lst ((y.swaps pre ++ (pre2.filter fun st => decide (a < b) && y.swp st a b).map fun st => (st, a, b)).map sabO), O.lst ((pairsL y.ops.length).map logD)] ++ u)) _ _ _ ⟨⟨_, _, rfl⟩, u ++ gar m__law_reached [y.D] (s ++ ([O.lst ((y.swaps pre).map sabO), O.lst ((pairsL y.ops.length).map logD)] ++ u)), by simp⟩ ?_ ?_
    · rintro pre2 st rest2 ρ s' he2 ⟨⟨x4, x5, rfl⟩, v, rfl⟩
      have hst : st ∈ y.reach := by rw [he2]; simp
      have hs := reach_lt hy hst
      have hl2 : pre2.length ≤ 6 := by
        have := congrArg List.length he2
        have := reach_len hy
        have := hy.m6
        simp at *
        omega
      have r1 := fun s => lrun2_ok hy hs ha hb s
      have r2 := fun s => lrun2_ok hy hs hb ha s
      have lt : ∀ s : S, opLt (nD a) (nD b) s = .ok (.bl (decide (a < b))) s := fun s => by simp [nD]
      simp only [gN_eq, wp_ok, List.set_cons_succ, List.set_cons_zero, mSeq_eq, mAsg_eq, mUser_eq, mCons_eq, mVar_eq, get_0, List.getElem?_cons_succ, vg_some, R.bnd_ok, mTup_eq, mNil_eq, List.length_cons, List.length_nil, Nat.reduceAdd, LIM_eq, Nat.reduceLeDiff, if_true, r1, r2, retag_ok, seqF_nx, mIfS_eq, mAndT_eq, mB_eq, mBin_eq, lt, asB_ok]
      have ne : ∀ s : S, opNe (nD (y.run st [a, b])) (nD (y.run st [b, a])) s = .ok (.bl (y.swp st a b)) s := fun s => by
        rw [show opNe (nD (y.run st [a, b])) (nD (y.run st [b, a])) s = _ from opNe_nD (fun b => !b) _ _ s]
        simp [Sys.swp]
      have e3 : (if decide (a < b) = true then R.ok (y.swp st a b) (s ++ ([O.lst ((y.swaps pre ++ (pre2.filter fun st => decide (a < b) && y.swp st a b).map fun st => (st, a, b)).map sabO), O.lst ((pairsL y.ops.length).map logD)] ++ v)) else R.ok false (s ++ ([O.lst ((y.swaps pre ++ (pre2.filter fun st => decide (a < b) && y.swp st a b).map fun st => (st, a, b)).map sabO), O.lst ((pairsL y.ops.length).map logD)] ++ v))) = .ok (decide (a < b) && y.swp st a b) (s ++ ([O.lst ((y.swaps pre ++ (pre2.filter fun st => decide (a < b) && y.swp st a b).map fun st => (st, a, b)).map sabO), O.lst ((pairsL y.ops.length).map logD)] ++ v)) := by
        cases decide (a < b) <;> simp
      simp only [ne, asB_ok, e3, R.bnd_ok]
      have gF : (s ++ ([O.lst ((y.swaps pre ++ (pre2.filter fun st => decide (a < b) && y.swp st a b).map fun st => (st, a, b)).map sabO), O.lst ((pairsL y.ops.length).map logD)] ++ v))[s.length]? = some (.lst ((y.swaps pre ++ (pre2.filter fun st => decide (a < b) && y.swp st a b).map fun st => (st, a, b)).map sabO)) := by simp
      have lenF : ((y.swaps pre ++ (pre2.filter fun st => decide (a < b) && y.swp st a b).map fun st => (st, a, b)).map sabO).length < 1000000 := by
        have := List.length_filter_le (fun st => decide (a < b) && y.swp st a b) pre2
        simp only [List.length_map, List.length_append]
        omega
      cases hc : decide (a < b) && y.swp st a b with
      | true =>
        simp only [if_true, mDrop_eq, mAppend_eq, mVar_eq, get_0, List.getElem?_cons_succ, vg_some, R.bnd_ok, isLstO_obj gF, mTup_eq, mCons_eq, mNil_eq, List.length_cons, List.length_nil, Nat.reduceAdd, LIM_eq, Nat.reduceLeDiff, fAppend_obj gF lenF, wp_ok, turnQ_nx]
        refine ⟨⟨_, _, rfl⟩, v, ?_⟩
        rw [set_app (Nat.le_refl _)]
        simp [List.filter_append, hc, sabO]
      | false =>
        simp only [Bool.false_eq_true, if_false, mSkip_eq, wp_ok, turnQ_nx]
        refine ⟨⟨_, _, rfl⟩, v, ?_⟩
        simp [List.filter_append, hc]
    · rintro ρ s' ⟨⟨x4, x5, rfl⟩, v, rfl⟩
      simp only [turnQ_nx]
      refine ⟨⟨_, _, _, _, rfl⟩, v, ?_⟩
      simp [Sys.swaps]
  · rintro ρ s' ⟨⟨x2, x3, x4, x5, rfl⟩, u, rfl⟩
    have gF : (s ++ ([O.lst ((y.swaps (pairsL y.ops.length)).map sabO), O.lst ((pairsL y.ops.length).map logD)] ++ u))[s.length]? = some (.lst ((y.swaps (pairsL y.ops.length)).map sabO)) := by simp
    have hne : (((y.swaps (pairsL y.ops.length)).map iT).all fun l => !l.isEmpty) = true := by simp [iT]
    have sr : fSortedTL [.obj s.length] (s ++ ([O.lst ((y.swaps (pairsL y.ops.length)).map sabO), O.lst ((pairsL y.ops.length).map logD)] ++ u)) = .ok (.lst ((sortL ((y.swaps (pairsL y.ops.length)).map iT)).map fun l : List Int => D.tup (l.map D.int))) (s ++ ([O.lst ((y.swaps (pairsL y.ops.length)).map sabO), O.lst ((pairsL y.ops.length).map logD)] ++ u)) := by
      show (match (asL _ (.obj s.length)).bind toTs with
        | some ls => if ls.all (fun l => !l.isEmpty) = true then R.ok (D.lst ((sortL ls).map fun l : List Int => D.tup (l.map D.int))) _ else .bad
        | none => .bad) = _
      rw [show asL (s ++ ([O.lst ((y.swaps (pairsL y.ops.length)).map sabO), O.lst ((pairsL y.ops.length).map logD)] ++ u)) (.obj s.length) = some ((y.swaps (pairsL y.ops.length)).map sabO) by simp [asL, asX]]
      show (match toTs ((y.swaps (pairsL y.ops.length)).map sabO) with
        | some ls => if ls.all (fun l => !l.isEmpty) = true then R.ok (D.lst ((sortL ls).map fun l : List Int => D.tup (l.map D.int))) _ else .bad
        | none => .bad) = _
      rw [toTs_iT]
      exact if_pos hne
    have sl := swaps_len hy (pairsL y.ops.length)
    have ll : (sortL ((y.swaps (pairsL y.ops.length)).map iT)).length ≤ 216 := by
      rw [(sortL_perm _).length_eq, List.length_map]
      omega
    have lD := least_D hy
    have a0 : atI ((sortL ((y.swaps (pairsL y.ops.length)).map iT)).map (fun l => D.tup (l.map D.int)) ++ [D.non]) 0 = some (sabD y.ofault) := by
      rw [← lD]
      exact atI_0 _
    simp only [seqF_nx, mRet_eq, mBin_eq, mCall_eq, mCons_eq, mVar_eq, get_0, List.getElem?_cons_succ, vg_some, R.bnd_ok, mNil_eq, sr, mLst_eq, mC_eq, List.length_cons, List.length_nil, Nat.reduceAdd, LIM_eq, Nat.reduceLeDiff, if_true, opAdd_lst, List.length_map]
    rw [if_pos (by omega)]
    simp only [R.bnd_ok, opIx_lst, a0, ixR_some, wp_ok, endQ_ret]
    exact ⟨trivial, _, rfl⟩
theorem law_right27 {y : Sys} (hy : y.Ok) {p f : Nat} {s : S} (hp : Pen p (f + 100000) s) : wp (m__law_right [.obj p, y.D] s) fun d s' => d = .bl true ∧ Pen p f s' := by
  have f2 : Fine 2 8 (.lst [sabD y.ofault, sabD y.ofault]) := by
    have := fine_lst (k := 1) (n := 3) (ds := [sabD y.ofault, sabD y.ofault]) fun d hd => by
      simp only [List.mem_cons, List.not_mem_nil, or_false, or_self] at hd
      subst hd
      exact fine_ofault hy
    exact this.mono (Nat.le_refl _) (by simp)
  have same := fun s => same_ok f2 (by decide) (by decide) s
  have due := fun s => eq_gar (law_due27 hy s)
  have rep := fun s => (fine_sys hy).repr (by decide) (by decide) s
  unfold m__law_right
  rw [mFn_eq]
  simp only [wp_fin, initE, List.length_cons, List.length_nil, Nat.reduceAdd, Nat.reduceSub, List.map_cons, List.map_nil, List.replicate_succ, List.replicate_zero, List.cons_append, List.nil_append, mSeq_eq, mPar_eq, mCall_eq, mCons_eq, mUser_eq, mVar_eq, get_0, List.getElem?_cons_succ, vg_some, R.bnd_ok, mNil_eq, due, retag_ok, rep, List.set_cons_succ, List.set_cons_zero, seqF_nx, mRet_eq, mAndV_eq, mLcF_eq, mRng1_bnd, mC_eq]
  rw [rng1F_ok _ (by omega), rngD_nD]
  simp only [R.bnd_ok]
  rw [lcF_fix (by simp) rfl]
  obtain ⟨u, hu⟩ := llc_up (f := nD) (t := .one 4) (el := mUser m_order_fault (mCons (mVar 1) mNil)) (ρw := wipeD [some (.obj p), some y.D, some (sabD y.ofault), some (.str (shw y.D)), none] [4]) (g := fun _ => sabD y.ofault) (List.range (2 : Int).toNat) [] (s ++ gar m__law_due [y.D] s)
    fun x hx s' => ⟨_, _, rfl, by simp [order_fault_ok hy]; rfl⟩
  rw [hu]
  simp only [R.bnd_ok, finL_eq, mLst_eq, mCons_eq, mVar_eq, get_0, List.getElem?_cons_succ, vg_some, mNil_eq, List.length_cons, List.length_nil, Nat.reduceAdd, LIM_eq, Nat.reduceLeDiff, if_true]
  rw [show ([] : List D) ++ (List.range (2 : Int).toNat).map (fun _ => sabD y.ofault) = [sabD y.ofault, sabD y.ofault] from rfl, same]
  simp only [retag_ok, R.bnd_ok, asB_ok, if_true, mBin_eq, mCall_eq, mCons_eq, mVar_eq, get_0, List.getElem?_cons_succ, vg_some, mNil_eq, rep, opEqF_str, decide_true, wp_ok, endQ_ret]
  exact ⟨trivial, ((hp.mono (by omega)).app _).app _⟩
theorem law27 (ns : List Int) : ∃ s', m_law [.scr (ns.map D.int)] [] = .ok (.bl true) s' :=
  law_A (n := 4) (c := 3) (by omega) (by omega) fun y p f s hy hp => law_right27 hy hp
end VL
namespace Hd
open PySem PySem.Spec PyProof.Rows L2 VL
open W (top)
def d7 : He.DefD := ⟨("is_whole", none), "is_whole", "is_whole", defArgs (top 7), defBody (top 7), defScope (top 7), [], []⟩
def d8 : He.DefD := ⟨("is_between", none), "is_between", "is_between", defArgs (top 8), defBody (top 8), defScope (top 8), [], []⟩
def d9 : He.DefD := ⟨("are_states", none), "are_states", "are_states", defArgs (top 9), defBody (top 9), defScope (top 9), [], []⟩
def d10 : He.DefD := ⟨("is_kind", none), "is_kind", "is_kind", defArgs (top 10), defBody (top 10), defScope (top 10), [], []⟩
def d11 : He.DefD := ⟨("is_system", none), "is_system", "is_system", defArgs (top 11), defBody (top 11), defScope (top 11), [], []⟩
def d12 : He.DefD := ⟨("need_system", none), "need_system", "need_system", defArgs (top 12), defBody (top 12), defScope (top 12), [], []⟩
def d13 : He.DefD := ⟨("run_from", none), "run_from", "run_from", defArgs (top 13), defBody (top 13), defScope (top 13), [], []⟩
def d14 : He.DefD := ⟨("paths_of", none), "paths_of", "paths_of", defArgs (top 14), defBody (top 14), defScope (top 14), [], []⟩
def d15 : He.DefD := ⟨("reached", none), "reached", "reached", defArgs (top 15), defBody (top 15), defScope (top 15), [], []⟩
def d17 : He.DefD := ⟨("order_of", none), "order_of", "order_of", defArgs (top 17), defBody (top 17), defScope (top 17), [], []⟩
def d18 : He.DefD := ⟨("order_fault", none), "order_fault", "order_fault", defArgs (top 18), defBody (top 18), defScope (top 18), [], []⟩
def d20 : He.DefD := ⟨("_law_cell_at", none), "_law_cell_at", "_law_cell_at", defArgs (top 20), defBody (top 20), defScope (top 20), [], []⟩
def d21 : He.DefD := ⟨("_law_pen", none), "_law_pen", "_law_pen", defArgs (top 21), defBody (top 21), defScope (top 21), [], []⟩
def d22 : He.DefD := ⟨("_law_draw", none), "_law_draw", "_law_draw", defArgs (top 22), defBody (top 22), defScope (top 22), [], []⟩
def d23 : He.DefD := ⟨("_law_pick", none), "_law_pick", "_law_pick", defArgs (top 23), defBody (top 23), defScope (top 23), [], []⟩
def d24 : He.DefD := ⟨("_law_same", none), "_law_same", "_law_same", defArgs (top 24), defBody (top 24), defScope (top 24), [], []⟩
def d25 : He.DefD := ⟨("_law_drawn", none), "_law_drawn", "_law_drawn", defArgs (top 25), defBody (top 25), defScope (top 25), [], []⟩
def d26 : He.DefD := ⟨("_law_cells", none), "_law_cells", "_law_cells", defArgs (top 26), defBody (top 26), defScope (top 26), [], []⟩
def d27 : He.DefD := ⟨("_law_marks", none), "_law_marks", "_law_marks", defArgs (top 27), defBody (top 27), defScope (top 27), [], []⟩
def d28 : He.DefD := ⟨("_law_turns", none), "_law_turns", "_law_turns", defArgs (top 28), defBody (top 28), defScope (top 28), [], []⟩
def d29 : He.DefD := ⟨("_law_system", none), "_law_system", "_law_system", defArgs (top 29), defBody (top 29), defScope (top 29), [], []⟩
def d30 : He.DefD := ⟨("_law_run", none), "_law_run", "_law_run", defArgs (top 30), defBody (top 30), defScope (top 30), [], []⟩
def d31 : He.DefD := ⟨("_law_paths", none), "_law_paths", "_law_paths", defArgs (top 31), defBody (top 31), defScope (top 31), [], []⟩
def d32 : He.DefD := ⟨("_law_reached", none), "_law_reached", "_law_reached", defArgs (top 32), defBody (top 32), defScope (top 32), [], []⟩
def d33 : He.DefD := ⟨("_law_pairs", none), "_law_pairs", "_law_pairs", defArgs (top 33), defBody (top 33), defScope (top 33), [], []⟩
def d34 : He.DefD := ⟨("_law_due", none), "_law_due", "_law_due", defArgs (top 34), defBody (top 34), defScope (top 34), [], []⟩
def d35 : He.DefD := ⟨("_law_right", none), "_law_right", "_law_right", defArgs (top 35), defBody (top 35), defScope (top 35), [], []⟩
def d36 : He.DefD := ⟨("law", none), "law", "law", defArgs (top 36), defBody (top 36), defScope (top 36), [], []⟩
def fn : List He.DefD := [d7, d8, d9, d10, d11, d12, d13, d14, d15, d17, d18, d20, d21, d22, d23, d24, d25, d26, d27, d28, d29, d30, d31, d32, d33, d34, d35, d36]
def fa : List He.Fa := [.glo "is_whole", .glo "is_between", .glo "are_states", .glo "is_kind", .glo "is_system", .glo "need_system", .glo "run_from", .glo "paths_of", .glo "reached", .glo "order_of", .glo "order_fault", .glo "_law_cell_at", .glo "_law_pen", .glo "_law_draw", .glo "_law_pick", .glo "_law_same", .glo "_law_drawn", .glo "_law_cells", .glo "_law_marks", .glo "_law_turns", .glo "_law_system", .glo "_law_run", .glo "_law_paths", .glo "_law_reached", .glo "_law_pairs", .glo "_law_due", .glo "_law_right", .glo "law", .free "all", .free "any", .free "dict", .free "enumerate", .free "int", .free "bool", .free "isinstance", .free "len", .free "list", .free "max", .free "min", .free "range", .free "repr", .free "set", .free "sorted", .free "str", .free "sum", .free "tuple", .free "zip", .free "ValueError", .int "MOST_STATES" 6, .int "MOST_OPERATIONS" 6, .int "MOST_KIND" 9]
abbrev R : PySem.W.OpenRow := PySem.W.OpenLaw.row PySem.Challenge.rw_lastofkind_k27_faults_of_orders
abbrev hk : PySem.W.Hook := He.hookD 4 fa fn
def ob (s : PySem.W.SharedT) : He.AlD := He.obsDG 4 fa fn (HandSHeadRun.getT s)
theorem ob_eq (s : PySem.W.SharedT) : ob s = hk.obs s.abs := He.obsDG_eq (HandSHeadRun.getT_eq s)
def loose0 : List PySem.Str := ["KindError", "NoSystem", "MOST_STATES", "MOST_OPERATIONS", "MOST_KIND", "is_whole", "is_between", "are_states", "is_kind", "is_system", "need_system", "run_from", "paths_of", "reached", "order_of", "order_fault", "_law_cell_at", "_law_pen", "_law_draw", "_law_pick", "_law_same", "_law_drawn", "_law_cells", "_law_marks", "_law_turns", "_law_system", "_law_run", "_law_paths", "_law_reached", "_law_pairs"]
def loose1 : List PySem.Str := ["_law_due", "_law_right"]
def loose : List PySem.Str := loose0 ++ loose1
theorem run (w : World) : HandSHeadRun.RunEq R (PySem.W.view R.prog [36]) hk ob 40000 loose w := by
  intro os
  kernel_rfl
section
variable {P : Program} {w : World} {K : PySem.W.Frag} {mg : Str → Option Value} {h base : Heap}
theorem tx (X : K.In h) (G : h.Ns mainGlobals mg) (c : He.SaysD fa fn K) : W.Tx K mg where
  bl := ⟨He.free_ok X G (c.fact 28 (f := .free "all") rfl), He.free_ok X G (c.fact 29 (f := .free "any") rfl), He.free_ok X G (c.fact 30 (f := .free "dict") rfl), He.free_ok X G (c.fact 31 (f := .free "enumerate") rfl), He.free_ok X G (c.fact 32 (f := .free "int") rfl), He.free_ok X G (c.fact 33 (f := .free "bool") rfl), He.free_ok X G (c.fact 34 (f := .free "isinstance") rfl), He.free_ok X G (c.fact 35 (f := .free "len") rfl), He.free_ok X G (c.fact 36 (f := .free "list") rfl), He.free_ok X G (c.fact 37 (f := .free "max") rfl), He.free_ok X G (c.fact 38 (f := .free "min") rfl), He.free_ok X G (c.fact 39 (f := .free "range") rfl), He.free_ok X G (c.fact 40 (f := .free "repr") rfl), He.free_ok X G (c.fact 41 (f := .free "set") rfl), He.free_ok X G (c.fact 42 (f := .free "sorted") rfl), He.free_ok X G (c.fact 43 (f := .free "str") rfl), He.free_ok X G (c.fact 44 (f := .free "sum") rfl), He.free_ok X G (c.fact 45 (f := .free "tuple") rfl), He.free_ok X G (c.fact 46 (f := .free "zip") rfl), He.free_ok X G (c.fact 47 (f := .free "ValueError") rfl)⟩
  f_is_whole := (c.def_ 0 (d := d7) rfl).elim fun fd F => ⟨_, fd, F, He.glo_ok X G (c.fact 0 (f := .glo "is_whole") rfl)⟩
  f_is_between := (c.def_ 1 (d := d8) rfl).elim fun fd F => ⟨_, fd, F, He.glo_ok X G (c.fact 1 (f := .glo "is_between") rfl)⟩
  f_are_states := (c.def_ 2 (d := d9) rfl).elim fun fd F => ⟨_, fd, F, He.glo_ok X G (c.fact 2 (f := .glo "are_states") rfl)⟩
  f_is_kind := (c.def_ 3 (d := d10) rfl).elim fun fd F => ⟨_, fd, F, He.glo_ok X G (c.fact 3 (f := .glo "is_kind") rfl)⟩
  f_is_system := (c.def_ 4 (d := d11) rfl).elim fun fd F => ⟨_, fd, F, He.glo_ok X G (c.fact 4 (f := .glo "is_system") rfl)⟩
  f_need_system := (c.def_ 5 (d := d12) rfl).elim fun fd F => ⟨_, fd, F, He.glo_ok X G (c.fact 5 (f := .glo "need_system") rfl)⟩
  f_run_from := (c.def_ 6 (d := d13) rfl).elim fun fd F => ⟨_, fd, F, He.glo_ok X G (c.fact 6 (f := .glo "run_from") rfl)⟩
  f_paths_of := (c.def_ 7 (d := d14) rfl).elim fun fd F => ⟨_, fd, F, He.glo_ok X G (c.fact 7 (f := .glo "paths_of") rfl)⟩
  f_reached := (c.def_ 8 (d := d15) rfl).elim fun fd F => ⟨_, fd, F, He.glo_ok X G (c.fact 8 (f := .glo "reached") rfl)⟩
  f_order_of := (c.def_ 9 (d := d17) rfl).elim fun fd F => ⟨_, fd, F, He.glo_ok X G (c.fact 9 (f := .glo "order_of") rfl)⟩
  f_order_fault := (c.def_ 10 (d := d18) rfl).elim fun fd F => ⟨_, fd, F, He.glo_ok X G (c.fact 10 (f := .glo "order_fault") rfl)⟩
  f__law_cell_at := (c.def_ 11 (d := d20) rfl).elim fun fd F => ⟨_, fd, F, He.glo_ok X G (c.fact 11 (f := .glo "_law_cell_at") rfl)⟩
  f__law_pen := (c.def_ 12 (d := d21) rfl).elim fun fd F => ⟨_, fd, F, He.glo_ok X G (c.fact 12 (f := .glo "_law_pen") rfl)⟩
  f__law_draw := (c.def_ 13 (d := d22) rfl).elim fun fd F => ⟨_, fd, F, He.glo_ok X G (c.fact 13 (f := .glo "_law_draw") rfl)⟩
  f__law_pick := (c.def_ 14 (d := d23) rfl).elim fun fd F => ⟨_, fd, F, He.glo_ok X G (c.fact 14 (f := .glo "_law_pick") rfl)⟩
  f__law_same := (c.def_ 15 (d := d24) rfl).elim fun fd F => ⟨_, fd, F, He.glo_ok X G (c.fact 15 (f := .glo "_law_same") rfl)⟩
  f__law_drawn := (c.def_ 16 (d := d25) rfl).elim fun fd F => ⟨_, fd, F, He.glo_ok X G (c.fact 16 (f := .glo "_law_drawn") rfl)⟩
  f__law_cells := (c.def_ 17 (d := d26) rfl).elim fun fd F => ⟨_, fd, F, He.glo_ok X G (c.fact 17 (f := .glo "_law_cells") rfl)⟩
  f__law_marks := (c.def_ 18 (d := d27) rfl).elim fun fd F => ⟨_, fd, F, He.glo_ok X G (c.fact 18 (f := .glo "_law_marks") rfl)⟩
  f__law_turns := (c.def_ 19 (d := d28) rfl).elim fun fd F => ⟨_, fd, F, He.glo_ok X G (c.fact 19 (f := .glo "_law_turns") rfl)⟩
  f__law_system := (c.def_ 20 (d := d29) rfl).elim fun fd F => ⟨_, fd, F, He.glo_ok X G (c.fact 20 (f := .glo "_law_system") rfl)⟩
  f__law_run := (c.def_ 21 (d := d30) rfl).elim fun fd F => ⟨_, fd, F, He.glo_ok X G (c.fact 21 (f := .glo "_law_run") rfl)⟩
  f__law_paths := (c.def_ 22 (d := d31) rfl).elim fun fd F => ⟨_, fd, F, He.glo_ok X G (c.fact 22 (f := .glo "_law_paths") rfl)⟩
  f__law_reached := (c.def_ 23 (d := d32) rfl).elim fun fd F => ⟨_, fd, F, He.glo_ok X G (c.fact 23 (f := .glo "_law_reached") rfl)⟩
  f__law_pairs := (c.def_ 24 (d := d33) rfl).elim fun fd F => ⟨_, fd, F, He.glo_ok X G (c.fact 24 (f := .glo "_law_pairs") rfl)⟩
  f__law_due := (c.def_ 25 (d := d34) rfl).elim fun fd F => ⟨_, fd, F, He.glo_ok X G (c.fact 25 (f := .glo "_law_due") rfl)⟩
  f__law_right := (c.def_ 26 (d := d35) rfl).elim fun fd F => ⟨_, fd, F, He.glo_ok X G (c.fact 26 (f := .glo "_law_right") rfl)⟩
  f_law := (c.def_ 27 (d := d36) rfl).elim fun fd F => ⟨_, fd, F, He.glo_ok X G (c.fact 27 (f := .glo "law") rfl)⟩
  g_MOST_STATES := He.int_ok X G (c.fact 48 (f := .int "MOST_STATES" 6) rfl)
  g_MOST_OPERATIONS := He.int_ok X G (c.fact 49 (f := .int "MOST_OPERATIONS" 6) rfl)
  g_MOST_KIND := He.int_ok X G (c.fact 50 (f := .int "MOST_KIND" 9) rfl)
theorem lawG (T : W.Tx K mg) {f : Addr} {fd : FuncData} (F : FunD K "law" "law" (defArgs (top 36)) (defBody (top 36)) (defScope (top 36)) [] [] f fd) : FnG P w K mg base 8 f fd ["_law_script"] (spG ⟨K, mg⟩ 1 m_law) := by
  have c_is_whole := W.k_is_whole (P := P) (w := w) (base := base) T
  have c_is_between := W.k_is_between (P := P) (w := w) (base := base) T c_is_whole
  have c_are_states := W.k_are_states (P := P) (w := w) (base := base) T c_is_between
  have c_is_kind := W.k_is_kind (P := P) (w := w) (base := base) T c_is_between
  have c_is_system := W.k_is_system (P := P) (w := w) (base := base) T c_is_between c_are_states c_is_kind
  have c_need_system := W.k_need_system (P := P) (w := w) (base := base) T c_is_system
  have c_run_from := W.k_run_from (P := P) (w := w) (base := base) T
  have c_paths_of := W.k_paths_of (P := P) (w := w) (base := base) T
  have c_reached := W.k_reached (P := P) (w := w) (base := base) T c_paths_of
  have c_order_of := W.k_order_of (P := P) (w := w) (base := base) T c_reached c_run_from
  have c_order_fault := W.k_order_fault (P := P) (w := w) (base := base) T c_need_system c_order_of
  have c__law_cell_at := W.k__law_cell_at (P := P) (w := w) (base := base) T
  have c__law_pen := W.k__law_pen (P := P) (w := w) (base := base) T
  have c__law_draw := W.k__law_draw (P := P) (w := w) (base := base) T
  have c__law_pick := W.k__law_pick (P := P) (w := w) (base := base) T c__law_draw
  have c__law_same := W.k__law_same (P := P) (w := w) (base := base) T
  have c__law_drawn := W.k__law_drawn (P := P) (w := w) (base := base) T c__law_draw c__law_pick
  have c__law_cells := W.k__law_cells (P := P) (w := w) (base := base) T c__law_pick c__law_draw
  have c__law_marks := W.k__law_marks (P := P) (w := w) (base := base) T c__law_draw c__law_pick
  have c__law_turns := W.k__law_turns (P := P) (w := w) (base := base) T c__law_draw c__law_pick
  have c__law_system := W.k__law_system (P := P) (w := w) (base := base) T c__law_draw c__law_drawn c__law_cells c__law_marks c__law_turns
  have c__law_run := W.k__law_run (P := P) (w := w) (base := base) T
  have c__law_paths := W.k__law_paths (P := P) (w := w) (base := base) T
  have c__law_reached := W.k__law_reached (P := P) (w := w) (base := base) T c__law_paths
  have c__law_pairs := W.k__law_pairs (P := P) (w := w) (base := base) T
  have c__law_due := W.k__law_due (P := P) (w := w) (base := base) T c__law_pairs c__law_reached c__law_run
  have c__law_right := W.k__law_right (P := P) (w := w) (base := base) T c__law_due c__law_same c_order_fault
  exact W.g_law T c__law_pen c__law_cell_at c__law_right c__law_system F
end
end Hd
open PySem PySem.W PySem.Calls PyProof.Rows
theorem PySem.Challenge.cw_lastofkind_k27_faults_of_orders_holds : PySem.Challenge.rw_lastofkind_k27_faults_of_orders.Holds := by
  w_on; o_law
  refine HandSHeadRun.head_any (r := OpenLaw.row PySem.Challenge.rw_lastofkind_k27_faults_of_orders) (q := view (OpenLaw.row PySem.Challenge.rw_lastofkind_k27_faults_of_orders).prog [36]) (H := Hd.hk) (ob := Hd.ob) (M := 40000) (loose := Hd.loose) (d := HandSHeadRun.topDef (OpenLaw.row PySem.Challenge.rw_lastofkind_k27_faults_of_orders).prog 36) (kwd := []) Hd.ob_eq
    (by kernel_rfl) (fun s => by kernel_rfl) Hd.run (by kernel_rfl) (by kernel_rfl) (by kernel_rfl) (by rfl) (by first | assumption | decide +kernel) (by decide +kernel) ⟨rfl, rfl, rfl, rfl, rfl, by decide +kernel⟩ ?hw ?hc
  case hw => w_witness2
  case hc =>
    refine VL.walk_ofG (l := PySem.Challenge.rw_lastofkind_k27_faults_of_orders) (n := 63) (k := 8) (x := "_law_script") rfl (by decide) (by kernel_rfl) ⟨⟨rfl, by decide, by decide⟩, rfl⟩ ?F
    intro w mg fa h Y G hmg0
    obtain ⟨K, KX, c⟩ := Y
    have hmg : mg ("law" : PySem.Str) = some (.ref fa) := by
      have e : (HandSHeadRun.topDef (OpenLaw.row PySem.Challenge.rw_lastofkind_k27_faults_of_orders).prog 36).name = ("law" : PySem.Str) := by kernel_rfl
      rw [← e]
      exact hmg0
    have T := Hd.tx KX G c
    obtain ⟨f, fd, F, gf⟩ := T.f_law
    have e := hmg.symm.trans gf
    cases e
    exact ⟨K, fd, VL.m_law, KX, fun s v => (L2.FunD.bindsA (ps := ["_law_script"]) F fun _ _ _ _ _ _ us hl => match us, hl with | [_], _ => rfl) s [v] rfl, fun ns hl => VL.law27 ns, fun base hb hn => Hd.lawG T F⟩
