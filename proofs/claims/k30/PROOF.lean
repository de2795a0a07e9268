import PyProof.Rows.All
import Wide.All
import OpenK.AllK
import Wide.FinOn
import KE.KStateDown
import HandS.ForMost
import HandS.Exc
import HandS.ExcOwn
import HandS.WordsExc
import HandS.CallSlots
import HandS.Defaults
import HandS.TupAny
import HandS.Deep
import HandS.Lambda
import HandS.EndTab
import HandS.TupMul
import HandS.Style
import HandS.IsInst
import HandS.Ends
import HandS.Conv
import HandS.SortInts
import HandS.HeadEnd
import HandS.HeadHook1
import HandS.HeadHook2
import HandS.Head2
import HandS.Iter
import KE.GoesEnum
import HandS.Dict
import HandS.More
import HandS.TupLe
import HandS.Star
import HandS.DictComp
import HandS.DictTup
import KE.DataMinMax
import HandS.SortRule
import HandS.NamedTupSort
import HandS.Text
import HandS.FStr
import HandS.Comp
import HandS.TryOnly
import HandS.SetKeys
import HandS.Zip
import HandS.Property
import HandS.ClsMeth
import HandS.HeadNt
import HandS.SetFor
import HandS.ReCall
import KE.KIndexOf
import KE.KFmtOwn
import KE.KOpsOwn
import KE.KEqNest
import HandS.Codes
import KE.KUnpackStar
import HandS.Nested
import KE.KSuper
import HandS.MakeKw
import OpenK.KOps
import OpenK.KMeth
import HandS.HotCalls
import HandS.ExcIs
import PyProof.Rows.CountFlat
import KE.KExcSuper
import HandS.ExcInit
import HandS.ExcField
import KE.KExcIs
import KE.KRevSl
import HandS.Flow
import HandS.Head0
import HandS.Strs
import HandS.ReplaceLit
import HandS.Steps
import HandS.GenList
import HandS.GenCall
import HandS.TupSets
import HandS.Head1
import PySem.Challenge.RW_lastofkind_k30_whole_orders_and_sets
set_option Elab.async false
set_option linter.all false
set_option maxRecDepth 100000
set_option maxHeartbeats 4000000
/-! VL: a layer by values over the hand layer: data D, a store of changeable objects, results R; every rule is a judgement PE, PS .. whose reading is rdE, rdS .. of a Lean function. -/
namespace VL
open PySem PySem.Spec PyProof.Rows L2

/-- data: tuples and lists that nobody changes are values; obj n is the n-th changeable object -/
inductive D where
  | non | bl (b : Bool) | int (i : Int) | str (x : Str) | tup (ds : List D) | lst (ds : List D) | scr (ds : List D) | obj (n : Nat) | glo (x : Str) | ty (n : String) | tupF (ds : List D) | adr (a : Addr) | exc (a dx : Addr) (ks : List (Str × Int))

inductive O where
  | lst (ds : List D) | dct (kvs : List (D × D)) | dctT (kvs : List (D × D)) | dctL (kvs : List (D × D)) | dctTL (kvs : List (D × D)) | ins (c : Str) (fs : List (Str × D)) | tab (x : Str)

abbrev S := List O
abbrev Ev := List (Option D)

inductive R (α : Type) where
  | ok (a : α) (s : S) | exn (c : Str) (fs : Option (List (Str × D))) (ρ : Ev) (s : S) | bad

def R.bnd {α β : Type} (r : R α) (f : α → S → R β) : R β := match r with
  | .ok a s => f a s
  | .exn c fs ρ s => .exn c fs ρ s
  | .bad => .bad
@[simp] theorem R.bnd_ok {α β : Type} (a : α) (s : S) (f : α → S → R β) : (R.ok a s).bnd f = f a s := rfl
@[simp] theorem R.bnd_exn {α β : Type} (c fs ρ) (s : S) (f : α → S → R β) : (R.exn c fs ρ s : R α).bnd f = .exn c fs ρ s := rfl
@[simp] theorem R.bnd_bad {α β : Type} (f : α → S → R β) : (R.bad : R α).bnd f = .bad := rfl

abbrev ME := Ev → S → R D
abbrev MA := Ev → S → R (List D)
abbrev MT := Ev → S → R Bool
inductive Fl where
  | nx (ρ : Ev) | ret (d : D) | bk (ρ : Ev) | ct (ρ : Ev)
abbrev MS := Ev → S → R Fl

structure Cg where
  K : PySem.W.Frag
  mg : Str → Option Value
abbrev cg (X : Cx) : Cg := ⟨X.K, X.mg⟩

def noH : Hp := fun _ => none
/-- where the changeable objects stand; the addresses of lists and dicts that are being made -/
structure Z where
  ad : List Addr
  res : List Addr
def Z.off (z : Z) (a : Addr) : Prop := a ∉ z.ad ∧ a ∉ z.res
def Z.push (z : Z) (a : Addr) : Z := ⟨z.ad ++ [a], z.res⟩
def Z.keep (z : Z) (a : Addr) : Z := ⟨z.ad, a :: z.res⟩
def TupAt (_ : Cg) (ι : Z) (H : Hp) (a : Addr) (xs : List V) : Prop := ι.off a ∧ H a = some (.tup xs)
/-- a tuple that is known to have no dict (its methods may be called) -/
def TupF (ι : Z) (H : Hp) (a : Addr) (xs : List V) : Prop := ι.off a ∧ ∃ ob : Obj, ob.dict = none ∧ H a = some (.frz ob (.tup xs))
def LstAt (ι : Z) (H : Hp) (a : Addr) (xs : List V) : Prop := ι.off a ∧ H a = some (.lst xs)
def ScrAt (G : Cg) (ι : Z) (H : Hp) (a : Addr) (xs : List V) : Prop := (ι.off a ∧ Rd H a (.lst xs)) ∨ SqL G.K noH a xs

mutual
def RelD (G : Cg) (ι : Z) (H : Hp) : D → V → Prop
  | .non, v => v = .non
  | .bl b, v => v = .bl b
  | .int i, v => v = .int i
  | .str x, v => v = .str x
  | .tup ds, v => ∃ a xs, v = .ref a ∧ TupAt G ι H a xs ∧ RelDs G ι H ds xs
  | .lst ds, v => ∃ a xs, v = .ref a ∧ LstAt ι H a xs ∧ RelDs G ι H ds xs
  | .scr ds, v => ∃ a xs, v = .ref a ∧ ScrAt G ι H a xs ∧ RelDs G ι H ds xs
  | .obj n, v => ∃ a, v = .ref a ∧ ι.ad[n]? = some a
  | .glo x, v => ∃ a, v = .ref a ∧ G.mg x = some (.ref a)
  | .ty n, v => v = .ty n
  | .tupF ds, v => ∃ a xs, v = .ref a ∧ TupF ι H a xs ∧ RelDs G ι H ds xs
  | .adr a, v => v = .ref a
  | .exc a dx ks, v => v = .ref a ∧ ι.off dx ∧ H dx = some (.xd (ks.map fun p => (p.1, V.int p.2)))
def RelDs (G : Cg) (ι : Z) (H : Hp) : List D → List V → Prop
  | [], xs => xs = []
  | d :: ds, xs => ∃ x r, xs = x :: r ∧ RelD G ι H d x ∧ RelDs G ι H ds r
end

theorem rd_noH {a : Addr} {o : HO} : ¬ Rd noH a o := fun h => by
  rcases h with h | ⟨_, h⟩ <;> cases h
theorem sqL_noH {K : PySem.W.Frag} {H : Hp} {a : Addr} {xs : List V} (h : SqL K noH a xs) : SqL K H a xs := by
  rcases h with h | h
  · exact absurd h rd_noH
  · exact .inr h
theorem TupAt.sq {G : Cg} {ι H a xs} (h : TupAt G ι H a xs) : SqT G.K H a xs := .inl (.inl h.2)
theorem TupF.sq {K : PySem.W.Frag} {ι H a xs} (h : TupF ι H a xs) : SqT K H a xs := let ⟨_, ob, _, h⟩ := h; .inl (.inr ⟨ob, h⟩)
theorem LstAt.sq {G : Cg} {ι H a xs} (h : LstAt ι H a xs) : SqL G.K H a xs := .inl (.inl h.2)
theorem ScrAt.sq {G : Cg} {ι H a xs} (h : ScrAt G ι H a xs) : SqL G.K H a xs := by
  rcases h with ⟨_, h⟩ | h
  · exact .inl h
  · exact sqL_noH h

/-- what nobody changes any more -/
def fixO : HO → Bool
  | .tup _ => true
  | .frz _ _ => true
  | .ext _ => true
  | .tbl _ => true
  | .xd _ => true
  | _ => false
/-- a table of code objects: it may grow -/
def tabO : HO → Bool
  | .tbl _ => true
  | _ => false
/-- what stays for ever -/
def stO (o : HO) : Bool := fixO o && !tabO o
theorem stO.fx {o : HO} (h : stO o = true) : fixO o = true := by
  unfold stO at h
  simp only [Bool.and_eq_true] at h
  exact h.1
theorem stO.tb {o : HO} (h : stO o = true) : tabO o = false := by
  unfold stO at h
  simp only [Bool.and_eq_true, Bool.not_eq_true'] at h
  exact h.2
theorem ntab_of {o : HO} (h : fixO o = false) : tabO o = false := by cases o <;> first | rfl | cases h
theorem nfix {H : Hp} {a : Addr} {o : HO} (h : H a = some o) (k : fixO o = false) : ∀ o', H a = some o' → fixO o' = false := fun o' e => by
  rw [h] at e
  cases e
  exact k
/-- what has become of the heap, seen by data -/
structure ExtW (ι : Z) (H : Hp) (ι' : Z) (H' : Hp) : Prop where
  get : ∀ (n : Nat) (a : Addr), ι.ad[n]? = some a → ι'.ad[n]? = some a
  off : ∀ a, ι.off a → H a ≠ none → ι'.off a
  dom : ∀ a, H a ≠ none → H' a ≠ none
  keep : ∀ a o, ι.off a → tabO o = false → H a = some o → H' a = some o
  fix : ∀ a o, stO o = true → H a = some o → H' a = some o
/-- .. what a piece of the program does: everything tracked that is no changeable object stands as it stood -/
structure Ext (ι : Z) (H : Hp) (ι' : Z) (H' : Hp) : Prop where
  more : ∃ μ, ι'.ad = ι.ad ++ μ ∧ ∀ a ∈ μ, H a = none
  res : ι'.res = ι.res
  keep : ∀ a o, a ∉ ι.ad → tabO o = false → H a = some o → H' a = some o
  dom : ∀ a, H a ≠ none → H' a ≠ none
  fix : ∀ a o, stO o = true → H a = some o → H' a = some o

theorem Ext.refl (ι H) : Ext ι H ι H := ⟨⟨[], by simp, by simp⟩, rfl, fun _ _ _ _ h => h, fun _ h => h, fun _ _ _ h => h⟩
theorem Ext.trans {ι H ι1 H1 ι2 H2} (e : Ext ι H ι1 H1) (f : Ext ι1 H1 ι2 H2) : Ext ι H ι2 H2 := by
  obtain ⟨μ, e1, e2⟩ := e.more
  obtain ⟨ν, f1, f2⟩ := f.more
  refine ⟨⟨μ ++ ν, by rw [f1, e1, List.append_assoc], fun a ha => ?_⟩, f.res.trans e.res, fun a o n tb h => ?_, fun a h => f.dom a (e.dom a h), fun a o k h => f.fix a o k (e.fix a o k h)⟩
  · rcases List.mem_append.mp ha with h | h
    · exact e2 a h
    · have := f2 a h
      cases q : H a with
      | none => rfl
      | some o => exact absurd this (e.dom a (by rw [q]; simp))
  · refine f.keep a o (fun z => ?_) tb (e.keep a o n tb h)
    rw [e1] at z
    rcases List.mem_append.mp z with z | z
    · exact n z
    · rw [e2 a z] at h; cases h
theorem Ext.new {ι H p o} (h : H p = none) : Ext ι H ι (upd H p o) :=
  ⟨⟨[], by simp, by simp⟩, rfl, fun a u _ _ q => by rw [upd_ne (ne_of_none q h)]; exact q, fun a q => by
    by_cases e : a = p
    · subst e; exact absurd h q
    · rw [upd_ne e]; exact q, fun a u _ q => by rw [upd_ne (ne_of_none q h)]; exact q⟩
theorem Ext.newObj {ι : Z} {H p o} (h : H p = none) : Ext ι H (ι.push p) (upd H p o) :=
  ⟨⟨[p], rfl, fun a ha => by rw [List.mem_singleton.mp ha]; exact h⟩, rfl, (Ext.new (ι := ι) h).keep, (Ext.new (ι := ι) h).dom, (Ext.new (ι := ι) h).fix⟩
theorem Ext.write {ι : Z} {H a o} (h : a ∈ ι.ad) (hn : ∀ o', H a = some o' → fixO o' = false) : Ext ι H ι (upd H a o) :=
  ⟨⟨[], by simp, by simp⟩, rfl, fun b u n _ q => by rw [upd_ne (show b ≠ a from fun e => n (by rw [e]; exact h))]; exact q, fun b q => by
    by_cases e : b = a
    · subst e; rw [upd_same]; simp
    · rw [upd_ne e]; exact q, fun b u k q => by
    rw [upd_ne (show b ≠ a from fun e => by
      subst e
      have := hn u q
      rw [stO.fx k] at this
      cases this)]
    exact q⟩
theorem Ext.mem {ι H ι' H'} (e : Ext ι H ι' H') {a} (h : a ∈ ι.ad) : a ∈ ι'.ad := by
  obtain ⟨μ, e1, _⟩ := e.more
  rw [e1]; exact List.mem_append_left _ h
theorem Ext.get {ι H ι' H'} (e : Ext ι H ι' H') {n : Nat} {a : Addr} (h : ι.ad[n]? = some a) : ι'.ad[n]? = some a := by
  obtain ⟨μ, e1, _⟩ := e.more
  rw [e1, List.getElem?_append_left (List.getElem?_eq_some_iff.mp h).1]; exact h
theorem Ext.nin {ι H ι' H'} (e : Ext ι H ι' H') {a} (n : a ∉ ι.ad) (h : H a ≠ none) : a ∉ ι'.ad := by
  obtain ⟨μ, e1, e2⟩ := e.more
  rw [e1]
  intro z
  rcases List.mem_append.mp z with z | z
  · exact n z
  · exact h (e2 a z)
theorem Ext.w {ι H ι' H'} (e : Ext ι H ι' H') : ExtW ι H ι' H' := ⟨fun _ _ h => e.get h, fun a n h => ⟨e.nin n.1 h, by rw [e.res]; exact n.2⟩, e.dom, fun a o n tb h => e.keep a o n.1 tb h, e.fix⟩
theorem ExtW.trans {ι H ι1 H1 ι2 H2} (e : ExtW ι H ι1 H1) (f : ExtW ι1 H1 ι2 H2) : ExtW ι H ι2 H2 :=
  ⟨fun n a h => f.get n a (e.get n a h), fun a n h => f.off a (e.off a n h) (e.dom a h), fun a h => f.dom a (e.dom a h), fun a o n tb h => f.keep a o (e.off a n (by rw [h]; simp)) tb (e.keep a o n tb h), fun a o k h => f.fix a o k (e.fix a o k h)⟩
theorem ExtW.rd {ι H ι' H'} (e : ExtW ι H ι' H') {a o} (n : ι.off a) (tb : tabO o = false) (h : Rd H a o) : Rd H' a o := by
  rcases h with h | ⟨u, h⟩
  · exact .inl (e.keep a _ n tb h)
  · exact .inr ⟨u, e.keep a _ n rfl h⟩
theorem rd_ne {H : Hp} {a o} (h : Rd H a o) : H a ≠ none := by
  rcases h with h | ⟨_, h⟩ <;> (rw [h]; simp)
theorem TupAt.monoW {G ι H ι' H' a xs} (e : ExtW ι H ι' H') (h : TupAt G ι H a xs) : TupAt G ι' H' a xs :=
  ⟨e.off _ h.1 (by rw [h.2]; simp), e.keep a _ h.1 rfl h.2⟩
theorem TupF.monoW {ι H ι' H' a xs} (e : ExtW ι H ι' H') (h : TupF ι H a xs) : TupF ι' H' a xs := by
  obtain ⟨h1, ob, h2, h3⟩ := h
  exact ⟨e.off _ h1 (by rw [h3]; simp), ob, h2, e.keep a _ h1 rfl h3⟩
theorem LstAt.monoW {ι H ι' H' a xs} (e : ExtW ι H ι' H') (h : LstAt ι H a xs) : LstAt ι' H' a xs :=
  ⟨e.off _ h.1 (by rw [h.2]; simp), e.keep a _ h.1 rfl h.2⟩
theorem ScrAt.monoW {G ι H ι' H' a xs} (e : ExtW ι H ι' H') (h : ScrAt G ι H a xs) : ScrAt G ι' H' a xs := by
  rcases h with ⟨n, h⟩ | h
  · exact .inl ⟨e.off _ n (rd_ne h), e.rd n rfl h⟩
  · exact .inr h
mutual
theorem RelD.monoW {G ι H ι' H'} (e : ExtW ι H ι' H') : ∀ (d : D) {v : V}, RelD G ι H d v → RelD G ι' H' d v
  | .non, v, h => by simpa only [RelD] using h
  | .bl b, v, h => by simpa only [RelD] using h
  | .int i, v, h => by simpa only [RelD] using h
  | .str x, v, h => by simpa only [RelD] using h
  | .tup ds, v, h => by
    simp only [RelD] at h ⊢
    obtain ⟨a, xs, h1, h2, h3⟩ := h
    exact ⟨a, xs, h1, h2.monoW e, RelDs.monoW e ds h3⟩
  | .lst ds, v, h => by
    simp only [RelD] at h ⊢
    obtain ⟨a, xs, h1, h2, h3⟩ := h
    exact ⟨a, xs, h1, h2.monoW e, RelDs.monoW e ds h3⟩
  | .scr ds, v, h => by
    simp only [RelD] at h ⊢
    obtain ⟨a, xs, h1, h2, h3⟩ := h
    exact ⟨a, xs, h1, h2.monoW e, RelDs.monoW e ds h3⟩
  | .obj n, v, h => by
    simp only [RelD] at h ⊢
    obtain ⟨a, h1, h2⟩ := h
    exact ⟨a, h1, e.get _ _ h2⟩
  | .glo x, v, h => by simpa only [RelD] using h
  | .ty n, v, h => by simpa only [RelD] using h
  | .tupF ds, v, h => by
    simp only [RelD] at h ⊢
    obtain ⟨a, xs, h1, h2, h3⟩ := h
    exact ⟨a, xs, h1, h2.monoW e, RelDs.monoW e ds h3⟩
  | .adr a, v, h => by simpa only [RelD] using h
  | .exc a dx ks, v, h => by
    simp only [RelD] at h ⊢
    obtain ⟨h1, h2, h3⟩ := h
    exact ⟨h1, e.off _ h2 (by rw [h3]; simp), e.keep _ _ h2 rfl h3⟩
theorem RelDs.monoW {G ι H ι' H'} (e : ExtW ι H ι' H') : ∀ (ds : List D) {vs : List V}, RelDs G ι H ds vs → RelDs G ι' H' ds vs
  | [], vs, h => by simpa only [RelDs] using h
  | d :: ds, vs, h => by
    simp only [RelDs] at h ⊢
    obtain ⟨x, r, h1, h2, h3⟩ := h
    exact ⟨x, r, h1, RelD.monoW e d h2, RelDs.monoW e ds h3⟩
end
theorem TupAt.mono {G ι H ι' H' a xs} (e : Ext ι H ι' H') (h : TupAt G ι H a xs) : TupAt G ι' H' a xs := h.monoW e.w
theorem LstAt.mono {ι H ι' H' a xs} (e : Ext ι H ι' H') (h : LstAt ι H a xs) : LstAt ι' H' a xs := h.monoW e.w
theorem ScrAt.mono {G ι H ι' H' a xs} (e : Ext ι H ι' H') (h : ScrAt G ι H a xs) : ScrAt G ι' H' a xs := h.monoW e.w
theorem RelD.mono {G ι H ι' H'} (e : Ext ι H ι' H') {d : D} {v : V} (h : RelD G ι H d v) : RelD G ι' H' d v := RelD.monoW e.w d h
theorem RelDs.mono {G ι H ι' H'} (e : Ext ι H ι' H') {ds : List D} {vs : List V} (h : RelDs G ι H ds vs) : RelDs G ι' H' ds vs := RelDs.monoW e.w ds h
section
variable {G : Cg} {ι : Z} {H : Hp}
theorem RelDs.len : ∀ {ds : List D} {vs : List V}, RelDs G ι H ds vs → vs.length = ds.length
  | [], vs, h => by simp only [RelDs] at h; subst h; rfl
  | d :: ds, vs, h => by
    simp only [RelDs] at h
    obtain ⟨x, r, rfl, _, h3⟩ := h
    simp [RelDs.len h3]
theorem RelDs.get : ∀ {ds : List D} {vs : List V} {i : Nat} {d : D}, RelDs G ι H ds vs → ds[i]? = some d → ∃ v, vs[i]? = some v ∧ RelD G ι H d v
  | [], vs, i, d, h, e => by simp at e
  | x :: ds, vs, 0, d, h, e => by
    simp only [RelDs] at h
    obtain ⟨y, r, rfl, h2, h3⟩ := h
    simp at e; subst e
    exact ⟨y, rfl, h2⟩
  | x :: ds, vs, i + 1, d, h, e => by
    simp only [RelDs] at h
    obtain ⟨y, r, rfl, h2, h3⟩ := h
    obtain ⟨v, e1, e2⟩ := RelDs.get (i := i) h3 (by simpa using e)
    exact ⟨v, by simpa using e1, e2⟩
theorem RelDs.app : ∀ {ds es : List D} {vs ws : List V}, RelDs G ι H ds vs → RelDs G ι H es ws → RelDs G ι H (ds ++ es) (vs ++ ws)
  | [], es, vs, ws, h, k => by simp only [RelDs] at h; subst h; exact k
  | d :: ds, es, vs, ws, h, k => by
    simp only [RelDs] at h
    obtain ⟨x, r, rfl, h2, h3⟩ := h
    have := RelDs.app h3 k
    simp only [List.cons_append, RelDs]
    exact ⟨x, r ++ ws, rfl, h2, this⟩
theorem RelDs.one {d : D} {v : V} (h : RelD G ι H d v) : RelDs G ι H [d] [v] := by
  simp only [RelDs]; exact ⟨v, [], rfl, h, rfl⟩
theorem RelDs.cons {d : D} {v : V} {ds vs} (h : RelD G ι H d v) (k : RelDs G ι H ds vs) : RelDs G ι H (d :: ds) (v :: vs) := by
  simp only [RelDs]; exact ⟨v, vs, rfl, h, k⟩
theorem RelDs.nil : RelDs G ι H [] [] := by simp only [RelDs]
theorem RelDs.take : ∀ (n : Nat) {ds : List D} {vs : List V}, RelDs G ι H ds vs → RelDs G ι H (ds.take n) (vs.take n)
  | 0, ds, vs, _ => by simp only [List.take_zero]; exact .nil
  | n + 1, [], vs, h => by simp only [RelDs] at h; subst h; simp only [List.take_nil]; exact .nil
  | n + 1, d :: ds, vs, h => by
    simp only [RelDs] at h
    obtain ⟨x, r, rfl, h2, h3⟩ := h
    simp only [List.take_succ_cons]
    exact .cons h2 (RelDs.take n h3)
theorem RelDs.drop : ∀ (n : Nat) {ds : List D} {vs : List V}, RelDs G ι H ds vs → RelDs G ι H (ds.drop n) (vs.drop n)
  | 0, ds, vs, h => h
  | n + 1, [], vs, h => by simp only [RelDs] at h; subst h; simp only [List.drop_nil]; exact .nil
  | n + 1, d :: ds, vs, h => by
    simp only [RelDs] at h
    obtain ⟨x, r, rfl, h2, h3⟩ := h
    simp only [List.drop_succ_cons]
    exact RelDs.drop n h3
theorem RelDs.set {d : D} {v : V} (k : RelD G ι H d v) : ∀ (n : Nat) {ds : List D} {vs : List V}, RelDs G ι H ds vs → RelDs G ι H (ds.set n d) (vs.set n v)
  | _, [], vs, h => by simp only [RelDs] at h; subst h; exact .nil
  | 0, x :: ds, vs, h => by
    simp only [RelDs] at h
    obtain ⟨y, r, rfl, h2, h3⟩ := h
    exact .cons k h3
  | n + 1, x :: ds, vs, h => by
    simp only [RelDs] at h
    obtain ⟨y, r, rfl, h2, h3⟩ := h
    exact .cons h2 (RelDs.set k n h3)
theorem RelDs.ints {ns : List Int} : ∀ {vs : List V}, RelDs G ι H (ns.map D.int) vs → vs = ns.map V.int := by
  induction ns with
  | nil => intro vs h; simpa only [RelDs, List.map_nil] using h
  | cons n ns ih =>
    intro vs h
    simp only [List.map_cons, RelDs, RelD] at h
    obtain ⟨x, r, rfl, rfl, h3⟩ := h
    rw [ih h3]; rfl
theorem RelDs.ofInts {ns : List Int} : RelDs G ι H (ns.map D.int) (ns.map V.int) := by
  induction ns with
  | nil => exact .nil
  | cons n ns ih => exact .cons (by simp only [RelD]) ih
end

/-- keys of dicts -/
def keyD : D → Option Key
  | .int i => some (.inl i)
  | .str x => some (.inr x)
  | _ => none
def keyDs : List D → Option (List Key)
  | [] => some []
  | d :: ds => match keyD d, keyDs ds with
    | some k, some ks => some (k :: ks)
    | _, _ => none
def keyT : D → Option (List Key)
  | .tup ds => keyDs ds
  | _ => none

/-- the code object of the def x and its table -/
def codeTab (G : Cg) (x : Str) : Option (Addr × Addr) := match G.mg x with
  | some (.ref f) => (match G.K.lookup f with
    | some ⟨_, _, .func fd, _⟩ => (match fd.code with
      | .ref c => (match G.K.lookup c with
        | some ⟨_, _, .fields vs, _⟩ => (match (vs[11]? : Option Value) with | some (.ref P) => some (c, P) | _ => none)
        | _ => none)
      | _ => none)
    | _ => none)
  | _ => none
/-- the name of the lambdas within the def x -/
def lamQ (x : Str) : Str := x ++ ".<locals>.<lambda>"
def RelO (G : Cg) (ι : Z) (H : Hp) (a : Addr) : O → Prop
  | .lst ds => ∃ xs, H a = some (.lst xs) ∧ RelDs G ι H ds xs
  | .dct kvs => ∃ ks : List (Key × V), H a = some (.dK ks) ∧ Paired (fun (p : D × D) q => keyD p.1 = some q.1 ∧ RelD G ι H p.2 q.2) kvs ks
  | .dctT kvs => ∃ ks : List (List Key × V), H a = some (.dT ks) ∧ Paired (fun (p : D × D) q => keyT p.1 = some q.1 ∧ RelD G ι H p.2 q.2) kvs ks
  | .dctL kvs => ∃ o, ∃ ks : List (Key × V), H a = some (.frz o (.dK ks)) ∧ Paired (fun (p : D × D) q => keyD p.1 = some q.1 ∧ RelD G ι H p.2 q.2) kvs ks
  | .dctTL kvs => ∃ o, ∃ ks : List (List Key × V), H a = some (.frz o (.dT ks)) ∧ Paired (fun (p : D × D) q => keyT p.1 = some q.1 ∧ RelD G ι H p.2 q.2) kvs ks
  | .ins c fs => ∃ C dx gs, G.mg c = some (.ref C) ∧ H a = some (.ins C dx gs) ∧ Paired (fun (p : Str × D) q => p.1 = q.1 ∧ RelD G ι H p.2 q.2) fs gs
  | .tab x => ∃ c, codeTab G x = some (c, a) ∧ LamX.TabS H a (lamQ x)

theorem RelO.tr {G ι H a o} (h : RelO G ι H a o) : H a ≠ none := by
  cases o with
  | lst ds => obtain ⟨xs, h, _⟩ := h; rw [h]; simp
  | dct kvs => obtain ⟨xs, h, _⟩ := h; rw [h]; simp
  | dctT kvs => obtain ⟨xs, h, _⟩ := h; rw [h]; simp
  | dctL kvs => obtain ⟨o, xs, h, _⟩ := h; rw [h]; simp
  | dctTL kvs => obtain ⟨o, xs, h, _⟩ := h; rw [h]; simp
  | ins c fs => obtain ⟨C, dx, gs, _, h, _⟩ := h; rw [h]; simp
  | tab x => obtain ⟨_, _, ps, h, _⟩ := h; rw [h]; simp
theorem RelO.monoW {G ι H ι' H' a o} (e : ExtW ι H ι' H') (k : H' a = H a) (h : RelO G ι H a o) : RelO G ι' H' a o := by
  cases o with
  | lst ds => obtain ⟨xs, h, r⟩ := h; exact ⟨xs, k.trans h, RelDs.monoW e _ r⟩
  | dct kvs =>
    obtain ⟨xs, h, r⟩ := h
    exact ⟨xs, k.trans h, Paired.mapP r fun _ _ z => ⟨z.1, RelD.monoW e _ z.2⟩⟩
  | dctT kvs =>
    obtain ⟨xs, h, r⟩ := h
    exact ⟨xs, k.trans h, Paired.mapP r fun _ _ z => ⟨z.1, RelD.monoW e _ z.2⟩⟩
  | dctL kvs =>
    obtain ⟨o, xs, h, r⟩ := h
    exact ⟨o, xs, k.trans h, Paired.mapP r fun _ _ z => ⟨z.1, RelD.monoW e _ z.2⟩⟩
  | dctTL kvs =>
    obtain ⟨o, xs, h, r⟩ := h
    exact ⟨o, xs, k.trans h, Paired.mapP r fun _ _ z => ⟨z.1, RelD.monoW e _ z.2⟩⟩
  | ins c fs =>
    obtain ⟨C, dx, gs, h1, h, r⟩ := h
    exact ⟨C, dx, gs, h1, k.trans h, Paired.mapP r fun _ _ z => ⟨z.1, RelD.monoW e _ z.2⟩⟩
  | tab x =>
    obtain ⟨c, h1, ps, h2, h3, h4⟩ := h
    exact ⟨c, h1, ps, k.trans h2, h3, fun pos cv hc => by
      obtain ⟨c', e1, e2⟩ := h4 pos cv hc
      exact ⟨c', e1, e.fix _ _ rfl e2⟩⟩

theorem RelO.mono {G ι H ι' H' a o} (e : Ext ι H ι' H') (k : H' a = H a) (h : RelO G ι H a o) : RelO G ι' H' a o := h.monoW e.w k

structure Sim (G : Cg) (ι : Z) (H : Hp) (s : S) : Prop where
  len : ι.ad.length = s.length
  nd : ι.ad.Nodup
  at_ : ∀ (n : Nat) (o : O) (a : Addr), s[n]? = some o → ι.ad[n]? = some a → RelO G ι H a o
  rs : ∀ a ∈ ι.res, (∃ o, H a = some o ∧ fixO o = false) ∧ a ∉ ι.ad
section
variable {G : Cg} {ι : Z} {H : Hp} {s : S}
theorem Sim.addr (q : Sim G ι H s) {n : Nat} {o : O} (h : s[n]? = some o) : ∃ a, ι.ad[n]? = some a ∧ a ∈ ι.ad ∧ RelO G ι H a o := by
  have hl : n < ι.ad.length := by rw [q.len]; exact (List.getElem?_eq_some_iff.mp h).1
  exact ⟨ι.ad[n], List.getElem?_eq_getElem hl, List.getElem_mem hl, q.at_ n o _ h (List.getElem?_eq_getElem hl)⟩
theorem Sim.tr (q : Sim G ι H s) {a : Addr} (h : a ∈ ι.ad) : H a ≠ none := by
  obtain ⟨n, hn, e⟩ := List.getElem_of_mem h
  have hl : n < s.length := by rw [← q.len]; exact hn
  exact (q.at_ n s[n] a (List.getElem?_eq_getElem hl) (by rw [List.getElem?_eq_getElem hn, e])).tr
theorem Sim.off (q : Sim G ι H s) {a : Addr} (h : H a = none) : ι.off a := ⟨fun z => q.tr z h, fun z => by
  obtain ⟨o, e, _⟩ := (q.rs a z).1
  rw [h] at e
  cases e⟩
theorem Sim.rsn (q : Sim G ι H s) {a : Addr} (h : a ∈ ι.res) : ∀ o', H a = some o' → fixO o' = false := by
  obtain ⟨o, e, k⟩ := (q.rs a h).1
  exact nfix e k
theorem Sim.ext {H' : Hp} (q : Sim G ι H s) (e : Ext ι H ι H') (k : ∀ a ∈ ι.ad, H' a = H a) : Sim G ι H' s :=
  ⟨q.len, q.nd, fun n o a h1 h2 => (q.at_ n o a h1 h2).mono e (k a (List.mem_of_getElem? h2)), fun a h => by
    obtain ⟨⟨o, e1, e2⟩, n⟩ := q.rs a h
    exact ⟨⟨o, e.keep a o n (ntab_of e2) e1, e2⟩, n⟩⟩
theorem Sim.new {p : Addr} {o : HO} (q : Sim G ι H s) (h : H p = none) : Sim G ι (upd H p o) s :=
  q.ext (.new h) fun a ha => upd_ne fun e => q.tr ha (e ▸ h)
/-- a new object joins, its address new to the changeable ones -/
theorem Sim.join {ι' : Z} {H' : Hp} {p : Addr} {o : O} (q : Sim G ι H s) (hp : p ∉ ι.ad) (ha : ι'.ad = ι.ad ++ [p]) (hr : ∀ a ∈ ι'.res, a ∈ ι.res ∧ a ≠ p) (e : ExtW ι H ι' H') (k : ∀ a ∈ ι.ad, H' a = H a) (kr : ∀ a ∈ ι'.res, H' a = H a) (r : RelO G ι' H' p o) :
    Sim G ι' H' (s ++ [o]) := by
  refine ⟨by rw [ha]; simp [q.len], by rw [ha]; exact List.nodup_append.mpr ⟨q.nd, by simp, fun a ha b hb e => hp (by rw [← List.mem_singleton.mp hb, ← e]; exact ha)⟩, fun n u a h1 h2 => ?_, fun a h => ?_⟩
  · rw [ha] at h2
    by_cases hn : n < s.length
    · rw [List.getElem?_append_left hn] at h1
      rw [List.getElem?_append_left (by rw [q.len]; exact hn)] at h2
      exact (q.at_ n u a h1 h2).monoW e (k a (List.mem_of_getElem? h2))
    · have hn2 : n = s.length := by
        have := (List.getElem?_eq_some_iff.mp h1).1
        simp at this; omega
      subst hn2
      rw [List.getElem?_append_right (Nat.le_refl _)] at h1
      rw [List.getElem?_append_right (by rw [q.len]; exact Nat.le_refl _), q.len] at h2
      simp at h1 h2
      subst h1 h2
      exact r
  · obtain ⟨h1, h2⟩ := hr a h
    refine ⟨by rw [kr a h]; exact (q.rs a h1).1, ?_⟩
    rw [ha]
    intro z
    rcases List.mem_append.mp z with z | z
    · exact (q.rs a h1).2 z
    · exact h2 (List.mem_singleton.mp z)
theorem Sim.newObj {p : Addr} {ho : HO} {o : O} (q : Sim G ι H s) (h : H p = none) (r : RelO G (ι.push p) (upd H p ho) p o) : Sim G (ι.push p) (upd H p ho) (s ++ [o]) :=
  q.join (q.off h).1 rfl (fun a ha => ⟨ha, fun e => (q.off h).2 (e ▸ ha)⟩) (Ext.newObj h).w (fun a ha => upd_ne fun e => q.tr ha (e ▸ h)) (fun a ha => upd_ne fun e => (q.off h).2 (e ▸ ha)) r
theorem Sim.write {n : Nat} {a : Addr} {ho : HO} {o : O} (q : Sim G ι H s) (h : ι.ad[n]? = some a) (hn : ∀ o', H a = some o' → fixO o' = false) (r : RelO G ι (upd H a ho) a o) : Sim G ι (upd H a ho) (s.set n o) := by
  refine ⟨by simp [q.len], q.nd, fun m u b h1 h2 => ?_, fun b h2 => by
    obtain ⟨⟨u, e1, e2⟩, n2⟩ := q.rs b h2
    exact ⟨⟨u, by rw [upd_ne (show b ≠ a from fun e => n2 (by rw [e]; exact List.mem_of_getElem? h))]; exact e1, e2⟩, n2⟩⟩
  by_cases hm : m = n
  · subst hm
    have hl : m < s.length := by rw [← q.len]; exact (List.getElem?_eq_some_iff.mp h).1
    rw [List.getElem?_set_self hl] at h1
    rw [h] at h2
    cases h1; cases h2
    exact r
  · rw [List.getElem?_set_ne (Ne.symm hm)] at h1
    have hb : b ≠ a := fun e => by
      subst e
      obtain ⟨l1, e1⟩ := List.getElem?_eq_some_iff.mp h
      obtain ⟨l2, e2⟩ := List.getElem?_eq_some_iff.mp h2
      exact hm ((List.getElem_inj q.nd).mp (e2.trans e1.symm))
    exact (q.at_ m u b h1 h2).mono (.write (List.mem_of_getElem? h) hn) (upd_ne hb)
/-- a list that is being made -/
theorem Ext.toKeep {p : Addr} {ho : HO} (q : Sim G ι H s) (h : H p = none) : ExtW ι H (ι.keep p) (upd H p ho) :=
  ⟨fun _ _ h => h, fun a n k => ⟨n.1, fun z => by
    rcases List.mem_cons.mp z with e | z
    · exact k (e ▸ h)
    · exact n.2 z⟩, (Ext.new (ι := ι) h).dom, fun a o n _ k => by rw [upd_ne (ne_of_none k h)]; exact k, fun a o _ k => by rw [upd_ne (ne_of_none k h)]; exact k⟩
theorem Sim.toKeep {p : Addr} {ho : HO} (q : Sim G ι H s) (h : H p = none) (hf : fixO ho = false) : Sim G (ι.keep p) (upd H p ho) s :=
  ⟨q.len, q.nd, fun n o a h1 h2 => (q.at_ n o a h1 h2).monoW (Ext.toKeep q h) (upd_ne fun e => q.tr (List.mem_of_getElem? h2) (e ▸ h)), fun a ha => by
    rcases List.mem_cons.mp ha with e | z
    · subst e; exact ⟨⟨ho, upd_same, hf⟩, (q.off h).1⟩
    · obtain ⟨⟨u, e1, e2⟩, n2⟩ := q.rs a z
      exact ⟨⟨u, by rw [upd_ne (ne_of_none e1 h)]; exact e1, e2⟩, n2⟩⟩
theorem ExtW.inKeep {p : Addr} {ho : HO} (h : p ∈ ι.res) (hn : ∀ o', H p = some o' → fixO o' = false) : ExtW ι H ι (upd H p ho) :=
  ⟨fun _ _ h => h, fun _ n _ => n, fun b q => by
    by_cases e : b = p
    · subst e; rw [upd_same]; simp
    · rw [upd_ne e]; exact q, fun a o n _ k => by rw [upd_ne (show a ≠ p from fun e => n.2 (by rw [e]; exact h))]; exact k, fun b u k q => by
    rw [upd_ne (show b ≠ p from fun e => by
      subst e
      have := hn u q
      rw [stO.fx k] at this
      cases this)]
    exact q⟩
theorem Sim.inKeep {p : Addr} {ho : HO} (q : Sim G ι H s) (h : p ∈ ι.res) (hf : fixO ho = false) : Sim G ι (upd H p ho) s :=
  ⟨q.len, q.nd, fun n o a h1 h2 => (q.at_ n o a h1 h2).monoW (.inKeep h (q.rsn h)) (upd_ne fun e => (q.rs p h).2 (e ▸ List.mem_of_getElem? h2)), fun a ha => ⟨by
    by_cases e : a = p
    · subst e; exact ⟨ho, upd_same, hf⟩
    · rw [upd_ne e]; exact (q.rs a ha).1, (q.rs a ha).2⟩⟩
/-- it is made -/
theorem ExtW.ofKeep {p : Addr} {r : List Addr} (hr : ι.res = p :: r) : ExtW ι H ⟨ι.ad, r⟩ H :=
  ⟨fun _ _ h => h, fun _ n _ => ⟨n.1, fun z => n.2 (by rw [hr]; exact List.mem_cons_of_mem _ z)⟩, fun _ k => k, fun _ _ _ _ k => k, fun _ _ _ k => k⟩
theorem Sim.ofKeep {p : Addr} {r : List Addr} (q : Sim G ι H s) (hr : ι.res = p :: r) : Sim G ⟨ι.ad, r⟩ H s :=
  ⟨q.len, q.nd, fun n o a h1 h2 => (q.at_ n o a h1 h2).monoW (.ofKeep hr) rfl, fun a ha => q.rs a (by rw [hr]; exact List.mem_cons_of_mem _ ha)⟩
/-- .. and is a changeable object from here on -/
theorem ExtW.adopt {p : Addr} {r : List Addr} (hr : ι.res = p :: r) : ExtW ι H ⟨ι.ad ++ [p], r⟩ H :=
  ⟨fun n a h => by
    show (ι.ad ++ [p])[n]? = _
    rw [List.getElem?_append_left (List.getElem?_eq_some_iff.mp h).1]; exact h, fun a n _ => ⟨fun z => by
    rcases List.mem_append.mp z with z | z
    · exact n.1 z
    · exact n.2 (by rw [hr, List.mem_singleton.mp z]; exact List.mem_cons_self ..), fun z => n.2 (by rw [hr]; exact List.mem_cons_of_mem _ z)⟩, fun _ k => k, fun _ _ _ _ k => k, fun _ _ _ k => k⟩
theorem Sim.adopt {p : Addr} {r : List Addr} {o : O} (q : Sim G ι H s) (hr : ι.res = p :: r) (hn : p ∉ r) (ro : RelO G ⟨ι.ad ++ [p], r⟩ H p o) : Sim G ⟨ι.ad ++ [p], r⟩ H (s ++ [o]) :=
  q.join (q.rs p (by rw [hr]; exact List.mem_cons_self ..)).2 rfl (fun a ha => ⟨by rw [hr]; exact List.mem_cons_of_mem _ ha, fun e => hn (e ▸ ha)⟩) (.adopt hr) (fun _ _ => rfl) (fun _ _ => rfl) ro
end

/-- the frame's slots -/
def EnvR (G : Cg) (ι : Z) (H : Hp) (σ : L2.St) (ρ : Ev) : Prop := σ.length = ρ.length ∧ ∀ (i : Nat) (d : D), ρ[i]? = some (some d) → ∃ v, σ[i]? = some (some v) ∧ RelD G ι H d v
section
variable {G : Cg} {ι ι' : Z} {H H' : Hp} {σ : L2.St} {ρ : Ev}
theorem EnvR.monoW (e : ExtW ι H ι' H') (h : EnvR G ι H σ ρ) : EnvR G ι' H' σ ρ := ⟨h.1, fun i d q => let ⟨v, a, b⟩ := h.2 i d q; ⟨v, a, RelD.monoW e _ b⟩⟩
theorem EnvR.mono (e : Ext ι H ι' H') (h : EnvR G ι H σ ρ) : EnvR G ι' H' σ ρ := h.monoW e.w
theorem EnvR.set {i : Nat} {d : D} {v : V} (h : EnvR G ι H σ ρ) (r : RelD G ι H d v) : EnvR G ι H (σ.set i (some v)) (ρ.set i (some d)) := by
  refine ⟨by simp [h.1], fun j e q => ?_⟩
  by_cases hj : i = j
  · subst hj
    have hl : i < ρ.length := by
      have := (List.getElem?_eq_some_iff.mp q).1
      simpa using this
    rw [List.getElem?_set_self hl] at q
    cases q
    exact ⟨v, List.getElem?_set_self (by rw [h.1]; exact hl), r⟩
  · rw [List.getElem?_set_ne hj] at q ⊢
    exact h.2 j e q
theorem EnvR.unset {i : Nat} (h : EnvR G ι H σ ρ) : EnvR G ι H (σ.set i none) (ρ.set i none) := by
  refine ⟨by simp [h.1], fun j e q => ?_⟩
  by_cases hj : i = j
  · subst hj
    have hl : i < ρ.length := by
      have := (List.getElem?_eq_some_iff.mp q).1
      simpa using this
    rw [List.getElem?_set_self hl] at q
    cases q
  · rw [List.getElem?_set_ne hj] at q ⊢
    exact h.2 j e q
end

def ExD (G : Cg) (ι : Z) (H : Hp) (dx : Option Addr) : Option (List (Str × D)) → Prop
  | none => dx = none
  | some fs => ∃ dd gs, dx = some dd ∧ H dd = some (.xd gs) ∧ Paired (fun (p : Str × D) q => p.1 = q.1 ∧ RelD G ι H p.2 q.2) fs gs

/-- what is wanted behind a result -/
def Post {α : Type} (G : Cg) (W : WX) (ι : Z) (H : Hp) (P : α → Z → Hp → S → Prop) : R α → Prop
  | .ok a s => ∀ ι' H', Ext ι H ι' H' → Sim G ι' H' s → P a ι' H' s
  | .exn c fs ρ s => ∀ ι' H' C dx σ, Ext ι H ι' H' → Sim G ι' H' s → G.mg c = some (.ref C) → ExD G ι' H' dx fs → EnvR G ι' H' σ ρ → W (.ref C) dx σ H'
  | .bad => False
section
variable {α β : Type} {G : Cg} {W : WX} {ι ι' : Z} {H H' : Hp} {P : α → Z → Hp → S → Prop}
theorem Post.imp {P' : α → Z → Hp → S → Prop} {r : R α} (h : Post G W ι H P r) (k : ∀ a ι' H' s, P a ι' H' s → P' a ι' H' s) : Post G W ι H P' r := by
  cases r with
  | ok a s => exact fun ι' H' e q => k _ _ _ _ (h ι' H' e q)
  | exn c fs ρ s => exact h
  | bad => exact h
theorem Post.mono {r : R α} (e : Ext ι H ι' H') (h : Post G W ι H P r) : Post G W ι' H' P r := by
  cases r with
  | ok a s => exact fun ι2 H2 e2 q => h ι2 H2 (e.trans e2) q
  | exn c fs ρ s => exact fun ι2 H2 C dx σ e2 => h ι2 H2 C dx σ (e.trans e2)
  | bad => exact h
theorem Post.bnd {r : R α} {f : α → S → R β} {P : β → Z → Hp → S → Prop} (h : Post G W ι H P (r.bnd f)) :
    Post G W ι H (fun a ι' H' s => Ext ι H ι' H' ∧ Sim G ι' H' s ∧ Post G W ι' H' P (f a s)) r := by
  cases r with
  | ok a s => exact fun ι' H' e q => ⟨e, q, Post.mono e h⟩
  | exn c fs ρ s => exact h
  | bad => exact h
/-- the result is here -/
theorem Post.here {a : α} {s : S} (h : Post G W ι H P (.ok a s)) (q : Sim G ι H s) : P a ι H s := h ι H (.refl ι H) q
end

/-! ### readings -/
def rdE (G : Cg) (W : WX) (m : ME) : TE := fun σ H Q => ∃ ι s ρ, Sim G ι H s ∧ EnvR G ι H σ ρ ∧ Post G W ι H (fun d ι' H' _ => ∀ v, RelD G ι' H' d v → Q v H') (m ρ s)
def rdA (G : Cg) (W : WX) (m : MA) : TA := fun σ H Q => ∃ ι s ρ, Sim G ι H s ∧ EnvR G ι H σ ρ ∧ Post G W ι H (fun ds ι' H' _ => ∀ vs, RelDs G ι' H' ds vs → Q vs H') (m ρ s)
def rdT (G : Cg) (W : WX) (m : MT) : TT := fun σ H Q => ∃ ι s ρ, Sim G ι H s ∧ EnvR G ι H σ ρ ∧ Post G W ι H (fun b _ H' _ => Q b H') (m ρ s)
def EndsP (G : Cg) (Dn : Ends) : Fl → Z → Hp → S → Prop := fun fl ι' H' _ => match fl with
  | .nx ρ' => ∀ σ', EnvR G ι' H' σ' ρ' → Dn.nx σ' H'
  | .ret d => ∀ v, RelD G ι' H' d v → Dn.rt v H'
  | .bk ρ' => ∀ σ', EnvR G ι' H' σ' ρ' → Dn.bk σ' H'
  | .ct ρ' => ∀ σ', EnvR G ι' H' σ' ρ' → Dn.ct σ' H'
def rdS (G : Cg) (W : WX) (m : MS) : TS := fun Dn σ H => ∃ ι s ρ, Sim G ι H s ∧ EnvR G ι H σ ρ ∧ Post G W ι H (EndsP G Dn) (m ρ s)

abbrev VE (X : Cx) (W : WX) (e : Expr) (m : ME) : Prop := PE X e (rdE (cg X) W m)
abbrev VA (X : Cx) (W : WX) (es : List Expr) (m : MA) : Prop := PA X es (rdA (cg X) W m)
abbrev VT (X : Cx) (W : WX) (e : Expr) (m : MT) : Prop := PT X e (rdT (cg X) W m)
abbrev VW (X : Cx) (W : WX) (e : Expr) (m : MT) : Prop := PW X e (rdT (cg X) W m)
abbrev VS (X : Cx) (W : WX) (st : Stmt) (m : MS) : Prop := PS X st (rdS (cg X) W m)
abbrev VSs (X : Cx) (W : WX) (st : List Stmt) (m : MS) : Prop := PSs X st (rdS (cg X) W m)

theorem pe_imp {X : Cx} {e : Expr} {t t' : TE} (h : PE X e t) (k : ∀ σ H Q, t' σ H Q → t σ H Q) : PE X e t' := ⟨fun pins s σ H Q I q => h.run pins s σ H Q I (k σ H Q q)⟩
theorem pt_imp {X : Cx} {e : Expr} {t t' : TT} (h : PT X e t) (k : ∀ σ H Q, t' σ H Q → t σ H Q) : PT X e t' := ⟨fun pins s σ H Q I q => h.run pins s σ H Q I (k σ H Q q)⟩
theorem pw_imp {X : Cx} {e : Expr} {t t' : TT} (h : PW X e t) (k : ∀ σ H Q, t' σ H Q → t σ H Q) : PW X e t' := ⟨fun wh pins s σ H Q I q => h.run wh pins s σ H Q I (k σ H Q q)⟩
theorem pa_imp {X : Cx} {e : List Expr} {t t' : TA} (h : PA X e t) (k : ∀ σ H Q, t' σ H Q → t σ H Q) : PA X e t' := ⟨fun pos pins s σ H Q I q => h.run pos pins s σ H Q I (k σ H Q q)⟩
theorem ps_imp {X : Cx} {e : Stmt} {t t' : TS} (h : PS X e t) (k : ∀ Dn σ H, t' Dn σ H → t Dn σ H) : PS X e t' := ⟨fun pins s σ H Dn I q => h.run pins s σ H Dn I (k Dn σ H q)⟩
theorem pss_imp {X : Cx} {e : List Stmt} {t t' : TS} (h : PSs X e t) (k : ∀ Dn σ H, t' Dn σ H → t Dn σ H) : PSs X e t' := ⟨fun pins s σ H Dn I q => h.run pins s σ H Dn I (k Dn σ H q)⟩

/-- an expression's reading, read on -/
theorem rdE_on {G : Cg} {W : WX} {m : ME} {σ : L2.St} {H : Hp} {ι s ρ} {β : Type} {P : β → Z → Hp → S → Prop} {f : D → S → R β} {Q : VK} (q : Sim G ι H s) (e : EnvR G ι H σ ρ) (h : Post G W ι H P ((m ρ s).bnd f))
    (k : ∀ d v ι' H' s', Ext ι H ι' H' → Sim G ι' H' s' → RelD G ι' H' d v → Post G W ι' H' P (f d s') → Q v H') : rdE G W m σ H Q :=
  ⟨ι, s, ρ, q, e, h.bnd.imp fun d ι' H' s' ⟨e1, q1, h1⟩ v r => k d v ι' H' s' e1 q1 r h1⟩
theorem rdA_on {G : Cg} {W : WX} {m : MA} {σ : L2.St} {H : Hp} {ι s ρ} {β : Type} {P : β → Z → Hp → S → Prop} {f : List D → S → R β} {Q : List V → Hp → Prop} (q : Sim G ι H s) (e : EnvR G ι H σ ρ) (h : Post G W ι H P ((m ρ s).bnd f))
    (k : ∀ d v ι' H' s', Ext ι H ι' H' → Sim G ι' H' s' → RelDs G ι' H' d v → Post G W ι' H' P (f d s') → Q v H') : rdA G W m σ H Q :=
  ⟨ι, s, ρ, q, e, h.bnd.imp fun d ι' H' s' ⟨e1, q1, h1⟩ v r => k d v ι' H' s' e1 q1 r h1⟩
theorem rdT_on {G : Cg} {W : WX} {m : MT} {σ : L2.St} {H : Hp} {ι s ρ} {β : Type} {P : β → Z → Hp → S → Prop} {f : Bool → S → R β} {Q : Bool → Hp → Prop} (q : Sim G ι H s) (e : EnvR G ι H σ ρ) (h : Post G W ι H P ((m ρ s).bnd f))
    (k : ∀ b ι' H' s', Ext ι H ι' H' → Sim G ι' H' s' → Post G W ι' H' P (f b s') → Q b H') : rdT G W m σ H Q :=
  ⟨ι, s, ρ, q, e, h.bnd.imp fun d ι' H' s' ⟨e1, q1, h1⟩ => k d ι' H' s' e1 q1 h1⟩
end VL
namespace VL
open PySem PySem.Spec PyProof.Rows L2

def LIM : Nat := 1000000
theorem LIM_le : LIM ≤ sizeLine := by rw [sizeLine_eq]; decide
theorem le_LIM {n : Nat} (h : n ≤ LIM) : n ≤ sizeLine := Nat.le_trans h LIM_le
theorem lt_LIM {n : Nat} (h : n < LIM) : n < sizeLine := Nat.lt_of_lt_of_le h LIM_le

/-! ### new values -/
section
variable {G : Cg} {W : WX} {ι : Z} {H : Hp} {s : S} {Q : VK}
abbrev QE (G : Cg) (Q : VK) : D → Z → Hp → S → Prop := fun d ι' H' _ => ∀ v, RelD G ι' H' d v → Q v H'
theorem Post.val {d : D} {v : V} (h : Post G W ι H (QE G Q) (.ok d s)) (q : Sim G ι H s) (r : RelD G ι H d v) : Q v H := h.here q v r
theorem Post.newT {ds : List D} {xs : List V} {p : Addr} (h : Post G W ι H (QE G Q) (.ok (.tup ds) s)) (q : Sim G ι H s) (r : RelDs G ι H ds xs) (n : H p = none) : Q (.ref p) (upd H p (.tup xs)) :=
  h ι _ (.new n) (q.new n) (.ref p) (by
    simp only [RelD]
    exact ⟨p, xs, rfl, ⟨q.off n, upd_same⟩, r.mono (.new n)⟩)
theorem Post.newL {ds : List D} {xs : List V} {p : Addr} (h : Post G W ι H (QE G Q) (.ok (.lst ds) s)) (q : Sim G ι H s) (r : RelDs G ι H ds xs) (n : H p = none) : Q (.ref p) (upd H p (.lst xs)) :=
  h ι _ (.new n) (q.new n) (.ref p) (by
    simp only [RelD]
    exact ⟨p, xs, rfl, ⟨q.off n, upd_same⟩, r.mono (.new n)⟩)
theorem Post.newLO {ds : List D} {xs : List V} {p : Addr} (h : Post G W ι H (QE G Q) (.ok (.obj s.length) (s ++ [.lst ds]))) (q : Sim G ι H s) (r : RelDs G ι H ds xs) (n : H p = none) : Q (.ref p) (upd H p (.lst xs)) :=
  h (ι.push p) _ (.newObj n) (q.newObj n ⟨xs, upd_same, r.mono (.newObj n)⟩) (.ref p) (by
    simp only [RelD]
    exact ⟨p, rfl, by rw [← q.len]; simp [Z.push]⟩)
end

/-! ### names, constants -/
def mVar (i : Nat) : ME := fun ρ s => match ρ[i]? with
  | some (some d) => .ok d s
  | _ => .bad
def mC (d : D) : ME := fun _ s => .ok d s
section
variable {X : Cx} {W : WX}
theorem ve_v (i : Nat) {x : Str} {pos : Pos} (hN : X.N[i]? = some x := by rfl) (hv : Vis X.env.scope x := by first | exact Or.inl rfl | exact Or.inr (Or.inl rfl) | exact Or.inr (Or.inr rfl)) (hd : (x == ("__debug__" : Str)) = false := by decide)
    (hcd : (x == ("__classdict__" : Str)) = false := by decide) : VE X W (.Name x pos) (mVar i) := by
  refine pe_imp (pe_var hN hv hd hcd) fun σ H Q h => ?_
  obtain ⟨ι, s, ρ, q, e, h⟩ := h
  unfold mVar at h
  split at h
  · rename_i d hd
    obtain ⟨v, h1, h2⟩ := e.2 i d hd
    exact ⟨v, h1, h.val q h2⟩
  · exact h.elim
theorem rdC {G : Cg} {d : D} {v : V} (r : ∀ ι H, RelD G ι H d v) {σ H Q} (h : rdE G W (mC d) σ H Q) : tC v σ H Q := by
  obtain ⟨ι, s, ρ, q, e, h⟩ := h
  exact Post.val h q (r ι H)
theorem ve_int {i j pos} : VE X W (.Constant (.int i) j pos) (mC (.int i)) := pe_imp pe_int fun _ _ _ h => rdC (v := .int i) (fun _ _ => by simp only [RelD]) h
theorem ve_bl {b j pos} : VE X W (.Constant (.bool b) j pos) (mC (.bl b)) := pe_imp pe_bl fun _ _ _ h => rdC (v := .bl b) (fun _ _ => by simp only [RelD]) h
theorem ve_non {j pos} : VE X W (.Constant .none j pos) (mC .non) := pe_imp pe_non fun _ _ _ h => rdC (v := .non) (fun _ _ => by simp only [RelD]) h
theorem ve_gint {x : Str} {i : Int} {t : Tok} {pos : Pos} (hg : Gl X x) (hm : X.mg x = some (.int i t)) (hd : (x == ("__debug__" : Str)) = false := by decide) : VE X W (.Name x pos) (mC (.int i)) :=
  pe_imp (pe_glob hg hm (v := .int i) ⟨t, rfl⟩ hd) fun _ _ _ h => rdC (v := .int i) (fun _ _ => by simp only [RelD]) h
theorem ve_ty {x : Str} {n : String} {pos : Pos} (hg : Gl X x) (hm : X.mg x = none) (hv : bootBuiltins x = some (.type n)) (hn : x ≠ "__name__" := by decide) (hd : (x == ("__debug__" : Str)) = false := by decide) : VE X W (.Name x pos) (mC (.ty n)) :=
  pe_imp (pe_bltn hg hm hv (v := .ty n) rfl hn hd) fun _ _ _ h => rdC (v := .ty n) (fun _ _ => by simp only [RelD]) h
end

/-! ### operators by values -/
abbrev F2 := D → D → S → R D
def OpV (G : Cg) (W : WX) (r : R2) (f : F2) : Prop := ∀ (ι : Z) (H : Hp) (s : S) (x y : D) (v u : V) (Q : VK), Sim G ι H s → RelD G ι H x v → RelD G ι H y u → Post G W ι H (QE G Q) (f x y s) → r v u H Q
def mBin (f : F2) (ma mb : ME) : ME := fun ρ s => (ma ρ s).bnd fun x s1 => (mb ρ s1).bnd fun y s2 => f x y s2
abbrev F1 := D → S → R D
def UnV (G : Cg) (W : WX) (r : V → Hp → VK → Prop) (f : F1) : Prop := ∀ (ι : Z) (H : Hp) (s : S) (x : D) (v : V) (Q : VK), Sim G ι H s → RelD G ι H x v → Post G W ι H (QE G Q) (f x s) → r v H Q
def mUn (f : F1) (ma : ME) : ME := fun ρ s => (ma ρ s).bnd fun x s1 => f x s1
abbrev FA := List D → S → R D
def CallV (G : Cg) (W : WX) (r : List V → Hp → VK → Prop) (f : FA) : Prop := ∀ (ι : Z) (H : Hp) (s : S) (xs : List D) (vs : List V) (Q : VK), Sim G ι H s → RelDs G ι H xs vs → Post G W ι H (QE G Q) (f xs s) → r vs H Q
def mCall (f : FA) (ma : MA) : ME := fun ρ s => (ma ρ s).bnd fun xs s1 => f xs s1

section
variable {X : Cx} {W : WX} {a b c : Expr} {ma mb mc : ME} {pos p apos : Pos}
theorem rd_bin {r : R2} {f : F2} {ta tb : TE} (hr : OpV (cg X) W r f) (ka : ∀ σ H Q, rdE (cg X) W ma σ H Q → ta σ H Q) (kb : ∀ σ H Q, rdE (cg X) W mb σ H Q → tb σ H Q) (σ : L2.St) (H : Hp) (Q : VK) (h : rdE (cg X) W (mBin f ma mb) σ H Q) : tOp r ta tb σ H Q := by
  obtain ⟨ι, s, ρ, q, e, h⟩ := h
  refine ka _ _ _ (rdE_on q e h fun x v ι1 H1 s1 e1 q1 r1 h1 => kb _ _ _ (rdE_on q1 (e.mono e1) h1 fun y u ι2 H2 s2 e2 q2 r2 h2 => ?_))
  exact hr ι2 H2 s2 x y v u Q q2 (r1.mono e2) r2 h2
theorem ve_op {op : Operator} {r : R2} {f : F2} (ho : OpR X (binaryOp op) r) (hr : OpV (cg X) W r f) (ha : VE X W a ma) (hb : VE X W b mb) : VE X W (.BinOp a op b pos) (mBin f ma mb) :=
  pe_imp (pe_op ho ha hb) (rd_bin hr (fun _ _ _ h => h) fun _ _ _ h => h)
theorem ve_cmp {op : CmpOp} {r : R2} {f : F2} (ho : OpR X (compareOp op) r) (hr : OpV (cg X) W r f) (ha : VE X W a ma) (hb : VE X W b mb) (hm : behindInMarks op b = false) : VE X W (.Compare a [op] [b] pos) (mBin f ma mb) :=
  pe_imp (pe_cmpR ho ha hb hm) (rd_bin hr (fun _ _ _ h => h) fun _ _ _ h => h)
/-- a value as a test: a bool -/
def asB (r : R D) : R Bool := r.bnd fun d s => match d with
  | .bl b => .ok b s
  | _ => .bad
def mB (m : ME) : MT := fun ρ s => asB (m ρ s)
theorem relB {G : Cg} {ι H b v} (h : RelD G ι H (.bl b) v) : v = .bl b := by simpa only [RelD] using h
theorem relI {G : Cg} {ι H b v} (h : RelD G ι H (.int b) v) : v = .int b := by simpa only [RelD] using h
theorem relS {G : Cg} {ι H b v} (h : RelD G ι H (.str b) v) : v = .str b := by simpa only [RelD] using h
theorem relN {G : Cg} {ι H v} (h : RelD G ι H .non v) : v = .non := by simpa only [RelD] using h
theorem rdB {G : Cg} {m : ME} {σ : L2.St} {H : Hp} {Q : Bool → Hp → Prop} (h : rdT G W (mB m) σ H Q) : rdE G W m σ H fun x H1 => ∃ k, x = .bl k ∧ Q k H1 := by
  obtain ⟨ι, s, ρ, q, e, h⟩ := h
  refine rdE_on q e h fun d v ι1 H1 s1 e1 q1 r1 h1 => ?_
  cases d with
  | bl b => exact ⟨b, relB r1, h1.here q1⟩
  | _ => exact h1.elim
theorem vt_val {e : Expr} {m : ME} (h : VE X W e m) (he : ∀ whole, isTrue e X.env whole = (do let v ← whole; standAt e.pos; holding [v] (truthy v)) := by intro _; rfl) : VT X W e (mB m) :=
  pt_imp (pt_val h he) fun _ _ _ q => rdB q
theorem vt_cmp {op : CmpOp} {r : R2} {f : F2} (ho : OpR X (compareOp op) r) (hr : OpV (cg X) W r f) (ha : VE X W a ma) (hb : VE X W b mb) (hm : behindInMarks op b = false) : VT X W (.Compare a [op] [b] pos) (mB (mBin f ma mb)) :=
  pt_imp (pt_cmpR ho ha hb hm) fun σ H Q q => rd_bin hr (fun _ _ _ h => h) (fun _ _ _ h => h) σ H _ (rdB q)
/-- a < b < c -/
def mChn (f g : F2) (ma mb mc : ME) : ME := fun ρ s => (ma ρ s).bnd fun x s1 => (mb ρ s1).bnd fun y s2 => (f x y s2).bnd fun z s3 => match z with
  | .bl true => (mc ρ s3).bnd fun w s4 => g y w s4
  | .bl false => .ok (.bl false) s3
  | _ => .bad
/-- a comparison that changes nothing, whose wish may be read on -/
def OpK (G : Cg) (W : WX) (r : R2) (f : F2) : Prop := ∀ (ι : Z) (H : Hp) (s : S) (x y : D) (v u : V) (P : D → Z → Hp → S → Prop) (Q : VK), Sim G ι H s → RelD G ι H x v → RelD G ι H y u → Post G W ι H P (f x y s) →
  (∀ d w, f x y s = .ok d s → RelD G ι H d w → P d ι H s → Q w H) → r v u H Q
theorem OpK.v {G : Cg} {W : WX} {r : R2} {f : F2} (h : OpK G W r f) : OpV G W r f := fun ι H s x y v u Q q r1 r2 p => h ι H s x y v u (QE G Q) Q q r1 r2 p fun d w _ r3 k => k w r3
theorem ve_chain {op op' : CmpOp} {r r' : R2} {f g : F2} (ho : OpR X (compareOp op) r) (ho' : OpR X (compareOp op') r') (hr : OpK (cg X) W r f) (hr' : OpV (cg X) W r' g) (ha : VE X W a ma) (hb : VE X W b mb) (hc : VE X W c mc)
    (hm : lastMarks [op, op'] [b, c] = false := by rfl) : VE X W (.Compare a [op, op'] [b, c] pos) (mChn f g ma mb mc) := by
  refine pe_imp (pe_chain ho ho' ha hb hc hm) fun σ H Q h => ?_
  obtain ⟨ι, s, ρ, q, e, h⟩ := h
  refine rdE_on q e h fun x v ι1 H1 s1 e1 q1 r1 h1 => rdE_on q1 (e.mono e1) h1 fun y u ι2 H2 s2 e2 q2 r2 h2 => ?_
  refine hr ι2 H2 s2 x y v u _ _ q2 (r1.mono e2) r2 h2.bnd fun z w ez rz hz => ?_
  obtain ⟨_, _, h3⟩ := hz
  cases z with
  | bl k =>
    refine ⟨k, relB rz, ?_⟩
    cases k with
    | true =>
      rw [if_pos rfl]
      exact rdE_on q2 ((e.mono e1).mono e2) h3 fun w' t ι3 H3 s3 e3 q3 r3 h4 => hr' ι3 H3 s3 y w' u t Q q3 (r2.mono e3) r3 h4
    | false =>
      rw [if_neg Bool.false_ne_true]
      exact h3.val q2 (by simp only [RelD])
  | _ => exact h3.elim
end

/-! ### and, or, not, if -/
def mAndT (a b : MT) : MT := fun ρ s => (a ρ s).bnd fun k s1 => if k = true then b ρ s1 else .ok false s1
def mOrT (a b : MT) : MT := fun ρ s => (a ρ s).bnd fun k s1 => if k = true then .ok true s1 else b ρ s1
def mNotT (a : MT) : MT := fun ρ s => (a ρ s).bnd fun k s1 => .ok (!k) s1
def mAndV (a b : ME) : ME := fun ρ s => (asB (a ρ s)).bnd fun k s1 => if k = true then b ρ s1 else .ok (.bl false) s1
def mOrV (a b : ME) : ME := fun ρ s => (asB (a ρ s)).bnd fun k s1 => if k = true then .ok (.bl true) s1 else b ρ s1
def mNotV (a : ME) : ME := fun ρ s => (asB (a ρ s)).bnd fun k s1 => .ok (.bl (!k)) s1
def mIf (t : MT) (a b : ME) : ME := fun ρ s => (t ρ s).bnd fun k s1 => if k = true then a ρ s1 else b ρ s1
section
variable {X : Cx} {W : WX} {a b c : Expr} {ta tb : MT} {ma mb : ME} {rest : List Expr} {pos : Pos}
theorem vw_and1 (h : VT X W a ta) : VW X W (.BoolOp .And [a] pos) ta := pw_and1 h
theorem vw_or1 (h : VT X W a ta) : VW X W (.BoolOp .Or [a] pos) ta := pw_or1 h
theorem vw_and (h1 : VT X W a ta) (h2 : VW X W (.BoolOp .And (b :: rest) pos) tb) : VW X W (.BoolOp .And (a :: b :: rest) pos) (mAndT ta tb) := by
  refine pw_imp (pw_and h1 h2) fun σ H Q h => ?_
  obtain ⟨ι, s, ρ, q, e, h⟩ := h
  refine rdT_on q e h fun k ι1 H1 s1 e1 q1 h1 => ?_
  cases k with
  | true => rw [if_pos rfl] at h1 ⊢; exact ⟨ι1, s1, ρ, q1, e.mono e1, h1⟩
  | false => rw [if_neg Bool.false_ne_true] at h1 ⊢; exact h1.here q1
theorem vw_or (h1 : VT X W a ta) (h2 : VW X W (.BoolOp .Or (b :: rest) pos) tb) : VW X W (.BoolOp .Or (a :: b :: rest) pos) (mOrT ta tb) := by
  refine pw_imp (pw_or h1 h2) fun σ H Q h => ?_
  obtain ⟨ι, s, ρ, q, e, h⟩ := h
  refine rdT_on q e h fun k ι1 H1 s1 e1 q1 h1 => ?_
  cases k with
  | false => rw [if_neg Bool.false_ne_true] at h1 ⊢; exact ⟨ι1, s1, ρ, q1, e.mono e1, h1⟩
  | true => rw [if_pos rfl] at h1 ⊢; exact h1.here q1
theorem vt_not (h : VT X W a ta) : VT X W (.UnaryOp .Not a pos) (mNotT ta) := by
  refine pt_imp (pt_not h) fun σ H Q h => ?_
  obtain ⟨ι, s, ρ, q, e, h⟩ := h
  exact rdT_on q e h fun k ι1 H1 s1 e1 q1 h1 => h1.here q1
theorem ve_one {op} {m : ME} (h : VE X W a m) : VE X W (.BoolOp op [a] pos) m := pe_one h
theorem rd_asB {G : Cg} {m : ME} {f : Bool → S → R D} {σ : L2.St} {H : Hp} {ι s ρ} {Q Q' : VK} (q : Sim G ι H s) (e : EnvR G ι H σ ρ) (h : Post G W ι H (QE G Q') ((asB (m ρ s)).bnd f))
    (k : ∀ b ι' H' s', EnvR G ι' H' σ ρ → Sim G ι' H' s' → Post G W ι' H' (QE G Q') (f b s') → Q (.bl b) H') : rdE G W m σ H Q := by
  have h' : Post G W ι H (QE G Q') ((m ρ s).bnd fun d s1 => match d with | .bl b => f b s1 | _ => .bad) := by
    unfold asB at h
    cases hm : m ρ s with
    | ok d s1 =>
      rw [hm] at h
      cases d <;> exact h
    | exn c fs ρ s => rw [hm] at h; exact h
    | bad => rw [hm] at h; exact h
  refine rdE_on q e h' fun d v ι1 H1 s1 e1 q1 r1 h1 => ?_
  cases d with
  | bl b => rw [relB r1]; exact k b ι1 H1 s1 (e.mono e1) q1 h1
  | _ => exact h1.elim
theorem ve_and (h1 : VE X W a ma) (h2 : VE X W (.BoolOp .And (b :: rest) pos) mb) : VE X W (.BoolOp .And (a :: b :: rest) pos) (mAndV ma mb) := by
  refine pe_imp (pe_and h1 h2) fun σ H Q h => ?_
  obtain ⟨ι, s, ρ, q, e, h⟩ := h
  refine rd_asB q e h fun k ι1 H1 s1 e1 q1 h1 => ⟨k, rfl, ?_⟩
  cases k with
  | true => rw [if_pos rfl] at h1 ⊢; exact ⟨ι1, s1, ρ, q1, e1, h1⟩
  | false => rw [if_neg Bool.false_ne_true] at h1 ⊢; exact h1.val q1 (by simp only [RelD])
theorem ve_or (h1 : VE X W a ma) (h2 : VE X W (.BoolOp .Or (b :: rest) pos) mb) : VE X W (.BoolOp .Or (a :: b :: rest) pos) (mOrV ma mb) := by
  refine pe_imp (pe_or h1 h2) fun σ H Q h => ?_
  obtain ⟨ι, s, ρ, q, e, h⟩ := h
  refine rd_asB q e h fun k ι1 H1 s1 e1 q1 h1 => ⟨k, rfl, ?_⟩
  cases k with
  | false => rw [if_neg Bool.false_ne_true] at h1 ⊢; exact ⟨ι1, s1, ρ, q1, e1, h1⟩
  | true => rw [if_pos rfl] at h1 ⊢; exact h1.val q1 (by simp only [RelD])
theorem ve_not (h1 : VE X W a ma) : VE X W (.UnaryOp .Not a pos) (mNotV ma) := by
  refine pe_imp (pe_not h1) fun σ H Q h => ?_
  obtain ⟨ι, s, ρ, q, e, h⟩ := h
  exact rd_asB q e h fun k ι1 H1 s1 e1 q1 h1 => ⟨k, rfl, h1.val q1 (by simp only [RelD])⟩
theorem ve_if (hc : VT X W c ta) (h1 : VE X W a ma) (h2 : VE X W b mb) : VE X W (.IfExp c a b pos) (mIf ta ma mb) := by
  refine pe_imp (pe_ifExp hc h1 h2) fun σ H Q h => ?_
  obtain ⟨ι, s, ρ, q, e, h⟩ := h
  refine rdT_on q e h fun k ι1 H1 s1 e1 q1 h1 => ?_
  cases k with
  | true => rw [if_pos rfl] at h1 ⊢; exact ⟨ι1, s1, ρ, q1, e.mono e1, h1⟩
  | false => rw [if_neg Bool.false_ne_true] at h1 ⊢; exact ⟨ι1, s1, ρ, q1, e.mono e1, h1⟩
end

/-! ### argument lists, displays -/
def mNil : MA := fun _ s => .ok [] s
def mCons (m : ME) (ms : MA) : MA := fun ρ s => (m ρ s).bnd fun x s1 => (ms ρ s1).bnd fun xs s2 => .ok (x :: xs) s2
def mTup (m : MA) : ME := fun ρ s => (m ρ s).bnd fun xs s1 => if xs.length ≤ LIM then .ok (.tup xs) s1 else .bad
def mLst (m : MA) : ME := fun ρ s => (m ρ s).bnd fun xs s1 => if xs.length ≤ LIM then .ok (.lst xs) s1 else .bad
def mLstO (m : MA) : ME := fun ρ s => (m ρ s).bnd fun xs s1 => if xs.length ≤ LIM then .ok (.obj s1.length) (s1 ++ [.lst xs]) else .bad
section
variable {X : Cx} {W : WX} {e : Expr} {es : List Expr} {m : ME} {ms : MA} {pos : Pos}
theorem va_nil : VA X W [] mNil := pa_imp pa_nil fun σ H Q ⟨ι, s, ρ, q, e, h⟩ => h.here q [] .nil
theorem va_cons (h1 : VE X W e m) (h2 : VA X W es ms) (hs : starEach (e :: es) X.env = (false, eval e X.env) :: starEach es X.env := by rfl) : VA X W (e :: es) (mCons m ms) := by
  refine pa_imp (pa_cons h1 h2 hs) fun σ H Q h => ?_
  obtain ⟨ι, s, ρ, q, e, h⟩ := h
  refine rdE_on q e h fun x v ι1 H1 s1 e1 q1 r1 h1 => rdA_on q1 (e.mono e1) h1 fun xs vs ι2 H2 s2 e2 q2 r2 h2 => ?_
  exact h2.here q2 (v :: vs) (.cons (r1.mono e2) r2)
theorem ve_tup {k} (h : VA X W es ms) : VE X W (.Tuple es k pos) (mTup ms) := by
  refine pe_imp (pe_tup h) fun σ H Q h => ?_
  obtain ⟨ι, s, ρ, q, e, h⟩ := h
  refine rdA_on q e h fun xs vs ι1 H1 s1 e1 q1 r1 h1 => ?_
  split at h1
  · rename_i hl
    exact ⟨by rw [r1.len]; exact le_LIM hl, fun p hp => h1.newT q1 r1 hp⟩
  · exact h1.elim
theorem ve_lst (h : VA X W es ms) : VE X W (.List es pos) (mLst ms) := by
  refine pe_imp (pe_lst h) fun σ H Q h => ?_
  obtain ⟨ι, s, ρ, q, e, h⟩ := h
  refine rdA_on q e h fun xs vs ι1 H1 s1 e1 q1 r1 h1 => ?_
  split at h1
  · rename_i hl
    exact ⟨by rw [r1.len]; exact le_LIM hl, fun p hp => h1.newL q1 r1 hp⟩
  · exact h1.elim
theorem ve_lstO (h : VA X W es ms) : VE X W (.List es pos) (mLstO ms) := by
  refine pe_imp (pe_lst h) fun σ H Q h => ?_
  obtain ⟨ι, s, ρ, q, e, h⟩ := h
  refine rdA_on q e h fun xs vs ι1 H1 s1 e1 q1 r1 h1 => ?_
  split at h1
  · rename_i hl
    exact ⟨by rw [r1.len]; exact le_LIM hl, fun p hp => h1.newLO q1 r1 hp⟩
  · exact h1.elim
/-! built-ins called -/
theorem rd_call {r : List V → Hp → VK → Prop} {f : FA} (hr : CallV (cg X) W r f) (σ : L2.St) (H : Hp) (Q : VK) (h : rdE (cg X) W (mCall f ms) σ H Q) : tCB r (rdA (cg X) W ms) σ H Q := by
  obtain ⟨ι, s, ρ, q, e, h⟩ := h
  exact rdA_on q e h fun xs vs ι1 H1 s1 e1 q1 r1 h1 => hr ι1 H1 s1 xs vs Q q1 r1 h1
theorem ve_callB {id : String} {x : Str} {p : Pos} {r : List V → Hp → VK → Prop} {f : FA} (hc : CallR X (.builtin id) r) (hr : CallV (cg X) W r f) (hg : Gl X x) (hm : X.mg x = none) (hv : bootBuiltins x = some (.builtin id)) (ha : VA X W (e :: es) ms) (hn : x ≠ "__name__" := by decide) (hdb : (x == ("__debug__" : Str)) = false := by decide)
    (he : starEach (e :: es) X.env = (false, eval e X.env) :: starEach es X.env := by rfl) (hpl : (backTo pos (starEach es X.env)).any (·.1) = false := by rfl) : VE X W (.Call (.Name x p) (e :: es) [] pos) (mCall f ms) :=
  pe_imp (pe_callB hc hg hm hv ha hn hdb he hpl) (rd_call hr)
theorem ve_callTy {T : String} {x : Str} {p : Pos} {r : List V → Hp → VK → Prop} {f : FA} (hc : CallR X (.type T) r) (hr : CallV (cg X) W r f) (hg : Gl X x) (hm : X.mg x = none) (hv : bootBuiltins x = some (.type T)) (ha : VA X W (e :: es) ms) (hn : x ≠ "__name__" := by decide) (hdb : (x == ("__debug__" : Str)) = false := by decide)
    (he : starEach (e :: es) X.env = (false, eval e X.env) :: starEach es X.env := by rfl) (hpl : (backTo pos (starEach es X.env)).any (·.1) = false := by rfl) : VE X W (.Call (.Name x p) (e :: es) [] pos) (mCall f ms) :=
  pe_imp (pe_callTy hc hg hm hv ha hn hdb he hpl) (rd_call hr)
end
end VL
namespace VL
open PySem PySem.Spec PyProof.Rows L2

/-! ### data as the library's data -/
mutual
def toPy : D → Option PyData
  | .non => some .none
  | .bl b => some (.bool b)
  | .int i => some (.int i)
  | .str x => some (.str x)
  | .tup ds => (toPys ds).map .tuple
  | .lst ds => (toPys ds).map .list
  | .scr ds => (toPys ds).map .list
  | .tupF ds => (toPys ds).map .tuple
  | _ => none
def toPys : List D → Option (List PyData)
  | [] => some []
  | d :: ds => match toPy d, toPys ds with
    | some p, some ps => some (p :: ps)
    | _, _ => none
end
/-- a list, by its items: asL to read, asX exact -/
def asX (s : S) : D → Option (List D)
  | .lst ds => some ds
  | .obj n => match s[n]? with
    | some (.lst ds) => some ds
    | _ => none
  | _ => none
def asL (s : S) : D → Option (List D)
  | .scr ds => some ds
  | d => asX s d
def toPyS (s : S) (d : D) : Option PyData := match d with
  | .obj n => (match s[n]? with
    | some (.lst ds) => (toPys ds).map .list
    | _ => none)
  | d => toPy d
section
variable {G : Cg} {W : WX} {ι : Z} {H : Hp} {s : S}
theorem asX_at (q : Sim G ι H s) {d : D} {v : V} {ds : List D} (r : RelD G ι H d v) (h : asX s d = some ds) : ∃ a xs, v = .ref a ∧ H a = some (.lst xs) ∧ RelDs G ι H ds xs := by
  cases d with
  | lst es =>
    simp only [asX, Option.some.injEq] at h
    subst h
    simp only [RelD] at r
    obtain ⟨a, xs, h1, h2, h3⟩ := r
    exact ⟨a, xs, h1, h2.2, h3⟩
  | obj n =>
    simp only [asX] at h
    split at h
    · rename_i es he
      cases h
      obtain ⟨a, h1, h2, xs, h3, h4⟩ := q.addr he
      simp only [RelD] at r
      obtain ⟨b, rfl, e⟩ := r
      rw [h1] at e; cases e
      exact ⟨a, xs, rfl, h3, h4⟩
    · cases h
  | _ => simp [asX] at h
theorem asL_at (q : Sim G ι H s) {d : D} {v : V} {ds : List D} (r : RelD G ι H d v) (h : asL s d = some ds) : ∃ a xs, v = .ref a ∧ SqL G.K H a xs ∧ RelDs G ι H ds xs := by
  cases d with
  | scr es =>
    simp only [asL, Option.some.injEq] at h
    subst h
    simp only [RelD] at r
    obtain ⟨a, xs, h1, h2, h3⟩ := r
    exact ⟨a, xs, h1, h2.sq, h3⟩
  | lst es => obtain ⟨a, xs, h1, h2, h3⟩ := asX_at q r (show asX s _ = some ds from h); exact ⟨a, xs, h1, .inl (.inl h2), h3⟩
  | obj n => obtain ⟨a, xs, h1, h2, h3⟩ := asX_at q r (show asX s _ = some ds from h); exact ⟨a, xs, h1, .inl (.inl h2), h3⟩
  | _ => simp [asL, asX] at h
mutual
theorem dp_of : ∀ (d : D) {v : V} {p : PyData}, RelD G ι H d v → toPy d = some p → Dp G.K H v p
  | .non, v, p, r, h => by simp only [toPy, Option.some.injEq] at h; subst h; rw [relN r]; exact .non
  | .bl b, v, p, r, h => by simp only [toPy, Option.some.injEq] at h; subst h; rw [relB r]; exact .bl b
  | .int b, v, p, r, h => by simp only [toPy, Option.some.injEq] at h; subst h; rw [relI r]; exact .int b
  | .str b, v, p, r, h => by simp only [toPy, Option.some.injEq] at h; subst h; rw [relS r]; exact .str b
  | .tup ds, v, p, r, h => by
    simp only [toPy, Option.map_eq_some_iff] at h
    obtain ⟨ps, hp, rfl⟩ := h
    simp only [RelD] at r
    obtain ⟨a, xs, rfl, h2, h3⟩ := r
    exact .tup h2.sq (dps_of ds h3 hp)
  | .lst ds, v, p, r, h => by
    simp only [toPy, Option.map_eq_some_iff] at h
    obtain ⟨ps, hp, rfl⟩ := h
    simp only [RelD] at r
    obtain ⟨a, xs, rfl, h2, h3⟩ := r
    exact .lst h2.sq (dps_of ds h3 hp)
  | .scr ds, v, p, r, h => by
    simp only [toPy, Option.map_eq_some_iff] at h
    obtain ⟨ps, hp, rfl⟩ := h
    simp only [RelD] at r
    obtain ⟨a, xs, rfl, h2, h3⟩ := r
    exact .lst h2.sq (dps_of ds h3 hp)
  | .obj n, v, p, r, h => by simp [toPy] at h
  | .glo n, v, p, r, h => by simp [toPy] at h
  | .ty n, v, p, r, h => by simp [toPy] at h
  | .tupF ds, v, p, r, h => by
    simp only [toPy, Option.map_eq_some_iff] at h
    obtain ⟨ps, hp, rfl⟩ := h
    simp only [RelD] at r
    obtain ⟨a, xs, rfl, h2, h3⟩ := r
    exact .tup h2.sq (dps_of ds h3 hp)
theorem dps_of : ∀ (ds : List D) {vs : List V} {ps : List PyData}, RelDs G ι H ds vs → toPys ds = some ps → DpAll G.K H vs ps
  | [], vs, ps, r, h => by simp only [toPys, Option.some.injEq] at h; subst h; simp only [RelDs] at r; subst r; exact .nil
  | d :: ds, vs, ps, r, h => by
    simp only [toPys] at h
    split at h
    · rename_i p qs h1 h2
      cases h
      simp only [RelDs] at r
      obtain ⟨x, t, rfl, r1, r2⟩ := r
      exact .cons (dp_of d r1 h1) (dps_of ds r2 h2)
    · cases h
end
theorem dp_ofS (q : Sim G ι H s) {d : D} {v : V} {p : PyData} (r : RelD G ι H d v) (h : toPyS s d = some p) : Dp G.K H v p := by
  cases d with
  | obj n =>
    simp only [toPyS] at h
    split at h
    · rename_i ds hd
      obtain ⟨ps, hp, rfl⟩ := Option.map_eq_some_iff.mp h
      obtain ⟨a, xs, rfl, h2, h3⟩ := asX_at q r (ds := ds) (by simp [asX, hd])
      exact .lst (.inl (.inl h2)) (dps_of ds h3 hp)
    · cases h
  | _ => exact dp_of _ r h
end

/-! ### == and != of data -/
def opEqP (f : Bool → Bool) : F2 := fun x y s => match toPyS s x, toPyS s y with
  | some p, some q => if SeqAt.shaped p = true ∧ SeqAt.shaped q = true then .ok (.bl (f (PyData.eqv p q))) s else .bad
  | _, _ => .bad
def bothS : D → D → Option (Str × Str)
  | .str a, .str b => some (a, b)
  | _, _ => none
def opEqF (f : Bool → Bool) : F2 := fun x y s => match bothS x y with
  | some (a, b) => .ok (.bl (f (decide (a = b)))) s
  | none => opEqP f x y s
abbrev opEq : F2 := opEqF fun b => b
abbrev opNe : F2 := opEqF fun b => !b
def isNonD : D → Bool
  | .non => true
  | _ => false
def opIsN : F2 := fun x y s => match y with
  | .non => .ok (.bl (isNonD x)) s
  | _ => .bad
def opNotN : F2 := fun x y s => match y with
  | .non => .ok (.bl (!isNonD x)) s
  | _ => .bad
def opI (g : Int → Int → D) (c : Int → Int → Prop) [∀ i j, Decidable (c i j)] : F2 := fun x y s => match x, y with
  | .int i, .int j => if c i j then .ok (g i j) s else .bad
  | _, _ => .bad
abbrev opLt : F2 := opI (fun i j => .bl (decide (i < j))) fun _ _ => True
abbrev opLe : F2 := opI (fun i j => .bl (decide (i ≤ j))) fun _ _ => True
abbrev opGt : F2 := opI (fun i j => .bl (decide (j < i))) fun _ _ => True
abbrev opGe : F2 := opI (fun i j => .bl (decide (j ≤ i))) fun _ _ => True
section
variable {G : Cg} {W : WX}
theorem relNon {ι H} {x : D} {v : V} (r : RelD G ι H x v) : decide (v = .non) = isNonD x := by
  cases x with
  | non => rw [relN r]; rfl
  | bl b => rw [relB r]; rfl
  | int b => rw [relI r]; rfl
  | str b => rw [relS r]; rfl
  | tup ds => simp only [RelD] at r; obtain ⟨a, xs, rfl, _⟩ := r; rfl
  | lst ds => simp only [RelD] at r; obtain ⟨a, xs, rfl, _⟩ := r; rfl
  | scr ds => simp only [RelD] at r; obtain ⟨a, xs, rfl, _⟩ := r; rfl
  | obj n => simp only [RelD] at r; obtain ⟨a, rfl, _⟩ := r; rfl
  | glo n => simp only [RelD] at r; obtain ⟨a, rfl, _⟩ := r; rfl
  | ty n => simp only [RelD] at r; subst r; rfl
  | tupF ds => simp only [RelD] at r; obtain ⟨a, xs, rfl, _⟩ := r; rfl
  | adr a => simp only [RelD] at r; subst r; rfl
  | exc a dx ks => simp only [RelD] at r; obtain ⟨rfl, _⟩ := r; rfl
theorem k_isN : OpK G W (fun x y H Q => y = .non ∧ Q (.bl (decide (x = .non))) H) opIsN := fun ι H s x y v u P Q q r1 r2 h k => by
  cases y with
  | non => exact ⟨relN r2, k _ _ rfl (by simp only [RelD]; rw [relNon r1]) (h.here q)⟩
  | _ => exact h.elim
theorem k_notN : OpK G W (fun x y H Q => y = .non ∧ Q (.bl (!decide (x = .non))) H) opNotN := fun ι H s x y v u P Q q r1 r2 h k => by
  cases y with
  | non => exact ⟨relN r2, k _ _ rfl (by simp only [RelD]; rw [relNon r1]) (h.here q)⟩
  | _ => exact h.elim
abbrev rEqA (K : PySem.W.Frag) : R2 := fun x y H Q => rEq x y H Q ∨ rEqD K x y H Q
abbrev rNeA (K : PySem.W.Frag) : R2 := fun x y H Q => rNe x y H Q ∨ rNeD K x y H Q
theorem op_eqA {X : Cx} (hu : X.A.units + 64 < cLine) : OpR X (compareOp .Eq) (rEqA X.K) := op_eq.or (op_eqD hu)
theorem op_neA {X : Cx} (hu : X.A.units + 64 < cLine) : OpR X (compareOp .NotEq) (rNeA X.K) := op_ne.or (op_neD hu)
theorem k_eqF {f : Bool → Bool} {ι : Z} {H : Hp} {s : S} {x y : D} {v u : V} {P : D → Z → Hp → S → Prop} {Q : VK} (q : Sim G ι H s) (r1 : RelD G ι H x v) (r2 : RelD G ι H y u) (h : Post G W ι H P (opEqF f x y s))
    (k : ∀ d w, opEqF f x y s = .ok d s → RelD G ι H d w → P d ι H s → Q w H) :
    (scal v u = true ∧ Q (.bl (f (decide (v = u)))) H) ∨ (∃ d e, Dp G.K H v d ∧ Dp G.K H u e ∧ SeqAt.shaped d = true ∧ SeqAt.shaped e = true ∧ Q (.bl (f (PyData.eqv d e))) H) := by
  unfold opEqF at h k
  split at h
  · rename_i a b hab
    left
    unfold bothS at hab
    split at hab
    · rename_i a' b'
      cases hab
      rw [relS r1, relS r2]
      refine ⟨rfl, ?_⟩
      have e : decide (V.str a = V.str b) = decide (a = b) := by
        by_cases z : a = b
        · subst z; simp
        · rw [decide_eq_false z, decide_eq_false (fun e => z (V.str.inj e))]
      rw [e]
      exact k _ _ rfl (by simp only [RelD]) (h.here q)
    · cases hab
  · rename_i hab
    right
    rw [hab] at k
    unfold opEqP at h k
    split at h
    · rename_i a b ha hb
      split at h
      · rename_i hs
        refine ⟨a, b, dp_ofS q r1 ha, dp_ofS q r2 hb, hs.1, hs.2, k _ _ ?_ (by simp only [RelD]) (h.here q)⟩
        simp only [ha, hb, if_pos hs]
      · exact h.elim
    · exact h.elim
theorem k_eq : OpK G W (rEqA G.K) opEq := fun ι H s x y v u P Q q r1 r2 h k => k_eqF q r1 r2 h k
theorem k_ne : OpK G W (rNeA G.K) opNe := fun ι H s x y v u P Q q r1 r2 h k => k_eqF q r1 r2 h k
theorem k_int {g : Int → Int → D} {gV : Int → Int → V} {c : Int → Int → Prop} [∀ i j, Decidable (c i j)] (hg : ∀ ι H i j, RelD G ι H (g i j) (gV i j)) : OpK G W (rI c gV) (opI g c) := fun ι H s x y v u P Q q r1 r2 h k => by
  cases x with
  | int i =>
    cases y with
    | int j =>
      simp only [opI] at h k
      split at h
      · rename_i hc
        exact ⟨i, j, relI r1, relI r2, hc, k _ _ (if_pos hc) (hg ι H i j) (h.here q)⟩
      · exact h.elim
    | _ => exact h.elim
  | _ => exact h.elim
theorem k_int0 {g : Int → Int → D} {gV : Int → Int → V} (hg : ∀ ι H i j, RelD G ι H (g i j) (gV i j)) : OpK G W (rI0 gV) (opI g fun _ _ => True) := fun ι H s x y v u P Q q r1 r2 h k => by
  obtain ⟨i, j, a, b, _, c⟩ := k_int (c := fun _ _ => True) hg ι H s x y v u P Q q r1 r2 h k
  exact ⟨i, j, a, b, c⟩
theorem rb {ι H} (b : Bool) : RelD G ι H (.bl b) (.bl b) := by simp only [RelD]
theorem ri {ι H} (b : Int) : RelD G ι H (.int b) (.int b) := by simp only [RelD]
theorem k_lt : OpK G W (rI0 fun i j => .bl (decide (i < j))) opLt := k_int0 fun _ _ _ _ => rb _
theorem k_le : OpK G W (rI0 fun i j => .bl (decide (i ≤ j))) opLe := k_int0 fun _ _ _ _ => rb _
theorem k_gt : OpK G W (rI0 fun i j => .bl (decide (j < i))) opGt := k_int0 fun _ _ _ _ => rb _
end

/-! ### arithmetic, + of texts, tuples, lists -/
def opAdd : F2 := fun x y s => match x, y with
  | .int i, .int j => .ok (.int (i + j)) s
  | .str i, .str j => if i.length + j.length ≤ LIM then .ok (.str (i ++ j)) s else .bad
  | .tup xs, .tup ys => if xs.length + ys.length ≤ LIM then .ok (.tup (xs ++ ys)) s else .bad
  | x, y => match asX s x, asX s y with
    | some xs, some ys => if xs.length + ys.length ≤ LIM then .ok (.lst (xs ++ ys)) s else .bad
    | _, _ => .bad
abbrev opSub : F2 := opI (fun i j => .int (i - j)) fun _ _ => True
def CMulD (i j : Int) : Prop := (-(2 ^ 64) < i ∧ i < 2 ^ 64) ∨ (-(2 ^ 64) < j ∧ j < 2 ^ 64)
noncomputable instance (i j : Int) : Decidable (CMulD i j) := Classical.propDecidable _
noncomputable def opMul : F2 := fun x y s => match x, y with
  | .int i, .int j => if CMulD i j then .ok (.int (i * j)) s else .bad
  | .tup xs, .int k => if xs ≠ [] ∧ 2 ≤ k ∧ k ≤ 1000 ∧ xs.length ≤ 1000 then .ok (.tup (List.replicate k.toNat xs).flatten) s else .bad
  | x, .int k => match asX s x with
    | some xs => if 0 ≤ k ∧ k ≤ 1000 ∧ xs.length ≤ 1000 then .ok (.lst (List.replicate k.toNat xs).flatten) s else .bad
    | none => .bad
  | _, _ => .bad
abbrev opMod : F2 := opI (fun i j => .int (i % j)) fun _ j => 0 < j
noncomputable instance (i j : Int) : Decidable (CDiv i j) := Classical.propDecidable _
noncomputable instance (i j : Int) : Decidable (CPow i j) := Classical.propDecidable _
noncomputable abbrev opDiv : F2 := opI (fun i j => .int (i / j)) CDiv
noncomputable abbrev opPow : F2 := opI (fun i j => .int (i ^ j.toNat)) CPow
theorem RelDs.nil_iff {G ι H ds xs} (r : RelDs G ι H ds xs) : xs = [] ↔ ds = [] := by
  rw [← List.length_eq_zero_iff, ← List.length_eq_zero_iff, r.len]
section
variable {G : Cg} {W : WX} {X : Cx}
abbrev rAddA (K : PySem.W.Frag) : R2 := fun x y H Q => (rI0 fun i j => .int (i + j)) x y H Q ∨ (∃ i j, x = .str i ∧ y = .str j ∧ i.length + j.length ≤ sizeLine ∧ Q (.str (i ++ j)) H) ∨ rCatA K x y H Q ∨ rCat x y H Q
theorem op_addA : OpR X (binaryOp .Add) (rAddA X.K) := op_add.or (op_add_str.or (op_catA.or op_cat))
theorem v_cat {ι H s x y v u Q} (q : Sim G ι H s) (r1 : RelD G ι H x v) (r2 : RelD G ι H y u) (h : Post G W ι H (QE G Q) (match asX s x, asX s y with
    | some xs, some ys => if xs.length + ys.length ≤ LIM then .ok (.lst (xs ++ ys)) s else .bad
    | _, _ => .bad)) : rCat v u H Q := by
  split at h
  · rename_i xs ys h1 h2
    split at h
    · rename_i hl
      obtain ⟨a, vs, rfl, e1, k1⟩ := asX_at q r1 h1
      obtain ⟨b, ws, rfl, e2, k2⟩ := asX_at q r2 h2
      exact ⟨a, b, vs, ws, rfl, rfl, e1, e2, by rw [k1.len, k2.len]; exact le_LIM hl, fun p hp => h.newL q (k1.app k2) hp⟩
    · exact h.elim
  · exact h.elim
theorem v_add : OpV G W (rAddA G.K) opAdd := fun ι H s x y v u Q q r1 r2 h => by
  unfold opAdd at h
  split at h
  · rename_i i j
    exact .inl ⟨i, j, relI r1, relI r2, h.val q (ri _)⟩
  · rename_i i j
    split at h
    · rename_i hl
      exact .inr (.inl ⟨i, j, relS r1, relS r2, le_LIM hl, h.val q (by simp only [RelD])⟩)
    · exact h.elim
  · rename_i xs ys
    split at h
    · rename_i hl
      have r1' := r1; have r2' := r2
      simp only [RelD] at r1 r2
      obtain ⟨a, vs, rfl, t1, k1⟩ := r1
      obtain ⟨b, ws, rfl, t2, k2⟩ := r2
      refine .inr (.inr (.inl ⟨a, b, vs, ws, rfl, rfl, t1.sq, t2.sq, by rw [k1.len, k2.len]; exact le_LIM hl, fun e => ?_, fun _ e => ?_, fun _ _ p hp => h.newT q (k1.app k2) hp⟩))
      · rw [k1.nil_iff] at e
        subst e
        exact h.val q r2'
      · rw [k2.nil_iff] at e
        subst e
        rw [List.append_nil] at h
        exact h.val q r1'
    · exact h.elim
  · exact .inr (.inr (.inr (v_cat q r1 r2 h)))
theorem v_sub : OpV G W (rI0 fun i j => .int (i - j)) opSub := (k_int0 fun _ _ _ _ => ri _).v
abbrev rMulA (K : PySem.W.Frag) : R2 := fun x y H Q => (rI CMul fun i j => .int (i * j)) x y H Q ∨ rRepT K x y H Q ∨ rRep x y H Q
theorem op_mulA : OpR X (binaryOp .Mult) (rMulA X.K) := op_mul.or (op_repT.or op_rep)
theorem RelDs.rep {ι H} {xs : List D} {vs : List V} (r : RelDs G ι H xs vs) : ∀ n, RelDs G ι H (List.replicate n xs).flatten (List.replicate n vs).flatten
  | 0 => by simp only [List.replicate_zero, List.flatten_nil]; exact .nil
  | n + 1 => by
    simp only [List.replicate_succ, List.flatten_cons]
    exact r.app (RelDs.rep r n)
theorem v_mul : OpV G W (rMulA G.K) opMul := fun ι H s x y v u Q q r1 r2 h => by
  unfold opMul at h
  split at h
  · rename_i i j
    split at h
    · rename_i hc
      exact .inl ⟨i, j, relI r1, relI r2, hc, h.val q (ri _)⟩
    · exact h.elim
  · rename_i xs k
    split at h
    · rename_i hc
      simp only [RelD] at r1
      obtain ⟨a, vs, rfl, t1, k1⟩ := r1
      exact .inr (.inl ⟨a, k, vs, rfl, relI r2, t1.sq, fun e => hc.1 (k1.nil_iff.mp e), hc.2.1, hc.2.2.1, by rw [k1.len]; exact hc.2.2.2, fun p hp => h.newT q (k1.rep _) hp⟩)
    · exact h.elim
  · rename_i x k _ _
    split at h
    · rename_i xs hx
      split at h
      · rename_i hc
        obtain ⟨a, vs, rfl, e1, k1⟩ := asX_at q r1 hx
        refine .inr (.inr ⟨a, k, vs, rfl, relI r2, e1, by omega, by omega, ?_, fun p hp => h.newL q (k1.rep _) hp⟩)
        rw [k1.len]
        have a1 : xs.length * k.toNat ≤ 1000 * 1000 := Nat.mul_le_mul (by omega) (by omega)
        exact Nat.le_trans a1 LIM_le
      · exact h.elim
    · exact h.elim
  · exact h.elim
theorem v_mod : OpV G W (rI (fun _ j => 0 < j) fun i j => .int (i % j)) opMod := (k_int fun _ _ _ _ => ri _).v
theorem v_div : OpV G W (rI CDiv fun i j => .int (i / j)) opDiv := (k_int fun _ _ _ _ => ri _).v
theorem v_pow : OpV G W (rI CPow fun i j => .int (i ^ j.toNat)) opPow := (k_int fun _ _ _ _ => ri _).v
def opNeg : F1 := fun x s => match x with
  | .int i => .ok (.int (-i)) s
  | _ => .bad
end

/-! ### in, not in -/
def flatD : D → Bool
  | .non | .bl _ | .int _ | .str _ => true
  | _ => false
def eqF : D → D → Bool
  | .non, .non => true
  | .bl a, .bl b => a == b
  | .bl a, .int b => (if a then 1 else 0) == b
  | .int a, .bl b => a == (if b then 1 else 0)
  | .int a, .int b => a == b
  | .str a, .str b => a == b
  | _, _ => false
def anyF (x : D) (ys : List D) : Bool := ys.any fun y => eqF y x
def opInB (f : Bool → Bool) : F2 := fun x y s => match y with
  | .tup ys => if flatD x = true ∧ ys.all flatD = true then .ok (.bl (f (anyF x ys))) s else .bad
  | .tupF ys => if flatD x = true ∧ ys.all flatD = true then .ok (.bl (f (anyF x ys))) s else .bad
  | y => match toPyS s x, toPyS s y with
    | some d, some (.list ds) => if SeqAt.shaped d = true ∧ SeqAt.shaped (.list ds) = true then .ok (.bl (f (ds.any fun z => PyData.eqv z d))) s else .bad
    | _, _ => .bad
abbrev opIn : F2 := opInB fun b => b
abbrev opNotIn : F2 := opInB fun b => !b
section
variable {G : Cg} {W : WX} {X : Cx} {ι : Z} {H : Hp}
theorem flat_rel {x : D} {v : V} (r : RelD G ι H x v) (h : flatD x = true) : flatV v = true := by
  cases x with
  | non => rw [relN r]; rfl
  | bl b => rw [relB r]; rfl
  | int b => rw [relI r]; rfl
  | str b => rw [relS r]; rfl
  | _ => cases h
theorem eqF_rel {x y : D} {v u : V} (r1 : RelD G ι H x v) (r2 : RelD G ι H y u) (h1 : flatD x = true) (h2 : flatD y = true) : eqV v u = eqF x y := by
  cases x with
  | non => rw [relN r1]; (cases y <;> first | exact Bool.noConfusion h2 | (first | rw [relN r2] | rw [relB r2] | rw [relI r2] | rw [relS r2]) <;> rfl)
  | bl b => rw [relB r1]; (cases y <;> first | exact Bool.noConfusion h2 | (first | rw [relN r2] | rw [relB r2] | rw [relI r2] | rw [relS r2]) <;> rfl)
  | int b => rw [relI r1]; (cases y <;> first | exact Bool.noConfusion h2 | (first | rw [relN r2] | rw [relB r2] | rw [relI r2] | rw [relS r2]) <;> rfl)
  | str b => rw [relS r1]; (cases y <;> first | exact Bool.noConfusion h2 | (first | rw [relN r2] | rw [relB r2] | rw [relI r2] | rw [relS r2]) <;> rfl)
  | _ => cases h1
theorem anyF_rel {x : D} {v : V} (r1 : RelD G ι H x v) (h1 : flatD x = true) : ∀ {ys : List D} {us : List V}, RelDs G ι H ys us → ys.all flatD = true → us.all flatV = true ∧ inV v us = anyF x ys
  | [], us, r2, _ => by simp only [RelDs] at r2; subst r2; exact ⟨rfl, rfl⟩
  | y :: ys, us, r2, h2 => by
    simp only [RelDs] at r2
    obtain ⟨u, us', rfl, k1, k2⟩ := r2
    simp only [List.all_cons, Bool.and_eq_true] at h2
    obtain ⟨i1, i2⟩ := anyF_rel r1 h1 k2 h2.2
    refine ⟨by simp only [List.all_cons, Bool.and_eq_true]; exact ⟨flat_rel k1 h2.1, i1⟩, ?_⟩
    unfold inV anyF at i2 ⊢
    simp only [List.any_cons]
    rw [eqF_rel k1 r1 h2.1 h1, i2]
abbrev rInA (K : PySem.W.Frag) : R2 := fun x y H Q => rIn K false x y H Q ∨ rInD K x y H Q
abbrev rNotInA (K : PySem.W.Frag) : R2 := fun x y H Q => rIn K true x y H Q ∨ rNotInD K x y H Q
theorem op_inA (hu : X.A.units + 65 < cLine) : OpR X (compareOp .In) (rInA X.K) := op_in_seq.or (op_inD hu)
theorem op_notInA (hu : X.A.units + 65 < cLine) : OpR X (compareOp .NotIn) (rNotInA X.K) := op_notIn_seq.or (op_notInD hu)
theorem v_inB {f : Bool → Bool} {s : S} {x y : D} {v u : V} {Q : VK} (q : Sim G ι H s) (r1 : RelD G ι H x v) (r2 : RelD G ι H y u) (h : Post G W ι H (QE G Q) (opInB f x y s)) :
    (∃ p xs, u = .ref p ∧ SqT G.K H p xs ∧ flatV v = true ∧ xs.all flatV = true ∧ Q (.bl (f (inV v xs))) H) ∨
      (∃ d ds, Dp G.K H v d ∧ Dp G.K H u (.list ds) ∧ SeqAt.shaped d = true ∧ SeqAt.shaped (.list ds) = true ∧ Q (.bl (f (ds.any fun z => PyData.eqv z d))) H) := by
  unfold opInB at h
  split at h
  · rename_i ys
    split at h
    · rename_i hc
      simp only [RelD] at r2
      obtain ⟨a, us, rfl, t, k⟩ := r2
      obtain ⟨i1, i2⟩ := anyF_rel r1 hc.1 k hc.2
      exact .inl ⟨a, us, rfl, t.sq, flat_rel r1 hc.1, i1, by rw [i2]; exact h.val q (rb _)⟩
    · exact h.elim
  · rename_i ys
    split at h
    · rename_i hc
      simp only [RelD] at r2
      obtain ⟨a, us, rfl, t, k⟩ := r2
      obtain ⟨i1, i2⟩ := anyF_rel r1 hc.1 k hc.2
      exact .inl ⟨a, us, rfl, t.sq, flat_rel r1 hc.1, i1, by rw [i2]; exact h.val q (rb _)⟩
    · exact h.elim
  · split at h
    · rename_i d ds h1 h2
      split at h
      · rename_i hc
        exact .inr ⟨d, ds, dp_ofS q r1 h1, dp_ofS q r2 h2, hc.1, hc.2, h.val q (rb _)⟩
      · exact h.elim
    · exact h.elim
theorem v_in : OpV G W (rInA G.K) opIn := fun ι H s x y v u Q q r1 r2 h => by
  rcases v_inB q r1 r2 h with ⟨p, xs, e, t, f1, f2, k⟩ | h
  · exact .inl ⟨p, xs, e, .inr t, f1, f2, k⟩
  · exact .inr h
theorem v_notIn : OpV G W (rNotInA G.K) opNotIn := fun ι H s x y v u Q q r1 r2 h => by
  rcases v_inB q r1 r2 h with ⟨p, xs, e, t, f1, f2, k⟩ | h
  · exact .inl ⟨p, xs, e, .inr t, f1, f2, k⟩
  · exact .inr h
end

/-! ### items, slices -/
def opIx : F2 := fun x y s => match x, y with
  | .tup xs, .int i => (match atI xs i with
    | some d => .ok d s
    | none => .bad)
  | .tupF xs, .int i => (match atI xs i with
    | some d => .ok d s
    | none => .bad)
  | .str z, .int i => if z.length ≤ LIM then (match atI z.cps.toList i with
    | some c => .ok (.str ⟨#[c]⟩) s
    | none => .bad) else .bad
  | x, .int i => (match asL s x with
    | some xs => (match atI xs i with
      | some d => .ok d s
      | none => .bad)
    | none => .bad)
  | _, _ => .bad
section
variable {G : Cg} {W : WX} {X : Cx} {ι : Z} {H : Hp}
theorem at_rel {xs : List D} {vs : List V} (r : RelDs G ι H xs vs) {i : Int} {d : D} (h : atI xs i = some d) : ∃ v, atI vs i = some v ∧ RelD G ι H d v := by
  unfold atI at h ⊢
  rw [r.len]
  cases hj : ixN xs.length i with
  | none => rw [hj] at h; cases h
  | some j =>
    rw [hj] at h
    exact r.get (i := j) h
theorem v_ix : OpV G W (rIx G.K) opIx := fun ι H s x y v u Q q r1 r2 h => by
  unfold opIx at h
  split at h
  · rename_i xs i
    split at h
    · rename_i d hd
      simp only [RelD] at r1
      obtain ⟨a, us, rfl, t, k⟩ := r1
      obtain ⟨w, hw, rw'⟩ := at_rel k hd
      exact .inr (.inl ⟨a, us, i, w, rfl, relI r2, t.sq, hw, h.val q rw'⟩)
    · exact h.elim
  · rename_i xs i
    split at h
    · rename_i d hd
      simp only [RelD] at r1
      obtain ⟨a, us, rfl, t, k⟩ := r1
      obtain ⟨w, hw, rw'⟩ := at_rel k hd
      exact .inr (.inl ⟨a, us, i, w, rfl, relI r2, t.sq, hw, h.val q rw'⟩)
    · exact h.elim
  · rename_i z i
    split at h
    · rename_i hl
      split at h
      · rename_i c hc
        exact .inr (.inr ⟨z, i, c, relS r1, relI r2, le_LIM hl, hc, h.val q (by simp only [RelD])⟩)
      · exact h.elim
    · exact h.elim
  · rename_i x i _ _ _
    split at h
    · rename_i xs hx
      split at h
      · rename_i d hd
        obtain ⟨a, vs, rfl, t, k⟩ := asL_at q r1 hx
        obtain ⟨w, hw, rw'⟩ := at_rel k hd
        exact .inl ⟨a, vs, i, w, rfl, relI r2, t, hw, h.val q rw'⟩
      · exact h.elim
    · exact h.elim
  · exact h.elim
theorem ve_ix {a b : Expr} {ma mb : ME} {pos : Pos} (ha : VE X W a ma) (hb : VE X W b mb) (hs : PlainIx b := by exact fun _ _ => rfl) : VE X W (.Subscript a b pos) (mBin opIx ma mb) :=
  pe_imp (pe_ix ix_seq ha hb hs) (rd_bin v_ix (fun _ _ _ h => h) fun _ _ _ h => h)

def cutD (xs : List D) (lo hi : Option Int) : List D := (xs.drop (HT.sIx xs.length 0 lo)).take (HT.sIx xs.length xs.length hi - HT.sIx xs.length 0 lo)
theorem cut_rel {xs : List D} {vs : List V} (r : RelDs G ι H xs vs) (lo hi : Option Int) : RelDs G ι H (cutD xs lo hi) (cutV vs lo hi) := by
  unfold cutD cutV
  rw [r.len]
  exact (r.drop _).take _
def opSl (x : D) (lo hi : Option Int) (s : S) : R D := match x with
  | .tup xs => .ok (.tup (cutD xs lo hi)) s
  | .str z => if z.length ≤ LIM then .ok (.str (cutS z lo hi)) s else .bad
  | x => match asL s x with
    | some xs => .ok (.lst (cutD xs lo hi)) s
    | none => .bad
abbrev MO := Ev → S → R (Option Int)
def rdO (G : Cg) (W : WX) (m : MO) : TO := fun σ H Q => ∃ ι s ρ, Sim G ι H s ∧ EnvR G ι H σ ρ ∧ Post G W ι H (fun o _ H' _ => Q o H') (m ρ s)
abbrev VO (X : Cx) (W : WX) (e : Option Expr) (m : MO) : Prop := PO X e (rdO (cg X) W m)
def mNo : MO := fun _ s => .ok none s
def mPart (m : ME) : MO := fun ρ s => (m ρ s).bnd fun d s1 => match d with
  | .int i => .ok (some i) s1
  | _ => .bad
theorem po_imp {e : Option Expr} {t t' : TO} (h : PO X e t) (k : ∀ σ H Q, t' σ H Q → t σ H Q) : PO X e t' := ⟨fun pins s σ H Q I q => h.run pins s σ H Q I (k σ H Q q)⟩
theorem vo_no : VO X W none mNo := po_imp po_none fun σ H Q ⟨ι, s, ρ, q, e, h⟩ => h.here q
theorem vo_some {e : Expr} {m : ME} (h : VE X W e m) : VO X W (some e) (mPart m) := by
  refine po_imp (po_some h) fun σ H Q h => ?_
  obtain ⟨ι, s, ρ, q, e, h⟩ := h
  refine rdE_on q e h fun d v ι1 H1 s1 e1 q1 r1 h1 => ?_
  cases d with
  | int i => exact ⟨i, relI r1, h1.here q1⟩
  | _ => exact h1.elim
def mSl (m : ME) (lo hi : MO) : ME := fun ρ s => (m ρ s).bnd fun x s1 => (lo ρ s1).bnd fun l s2 => (hi ρ s2).bnd fun h s3 => opSl x l h s3
abbrev rSlU (K : PySem.W.Frag) : V → Option Int → Option Int → Hp → VK → Prop := fun x lo hi H Q => rSlA K x lo hi H Q ∨ rSlS x lo hi H Q ∨ rSlL K x lo hi H Q
theorem sl_any : SlR X (rSlU X.K) := sl_tupA.or (sl_str.or sl_list)
theorem v_sl {s : S} {x : D} {v : V} {lo hi : Option Int} {Q : VK} (q : Sim G ι H s) (r : RelD G ι H x v) (h : Post G W ι H (QE G Q) (opSl x lo hi s)) : rSlU G.K v lo hi H Q := by
  unfold opSl at h
  split at h
  · rename_i xs
    have r' := r
    simp only [RelD] at r
    obtain ⟨a, us, rfl, t, k⟩ := r
    refine .inl ⟨a, us, rfl, t.sq, fun hw => ?_, fun _ p hp => h.newT q (cut_rel k lo hi) hp⟩
    rw [k.len] at hw
    have e : cutD xs lo hi = xs := by
      unfold cutD
      rw [hw.1, hw.2, List.drop_zero, Nat.sub_zero, List.take_length]
    rw [e] at h
    exact h.val q r'
  · rename_i z
    split at h
    · rename_i hl
      exact .inr (.inl ⟨z, relS r, le_LIM hl, h.val q (by simp only [RelD])⟩)
    · exact h.elim
  · split at h
    · rename_i xs hx
      obtain ⟨a, vs, rfl, t, k⟩ := asL_at q r hx
      exact .inr (.inr ⟨a, vs, rfl, t, fun p hp => h.newL q (cut_rel k lo hi) hp⟩)
    · exact h.elim
theorem ve_sl {e : Expr} {lo hi : Option Expr} {m : ME} {ml mh : MO} {p2 pos : Pos} (he : VE X W e m) (hl : VO X W lo ml) (hh : VO X W hi mh) : VE X W (.Subscript e (.Slice lo hi none p2) pos) (mSl m ml mh) := by
  refine pe_imp (pe_slice sl_any he hl hh) fun σ H Q h => ?_
  obtain ⟨ι, s, ρ, q, e, h⟩ := h
  refine rdE_on q e h fun d v ι1 H1 s1 e1 q1 r1 h1 => ⟨ι1, s1, ρ, q1, e.mono e1, h1.bnd.imp fun l ι2 H2 s2 ⟨e2, q2, h2⟩ => ⟨ι2, s2, ρ, q2, (e.mono e1).mono e2, h2.bnd.imp fun u ι3 H3 s3 ⟨e3, q3, h3⟩ => ?_⟩⟩
  exact v_sl q3 ((r1.mono e2).mono e3) h3
end
end VL
namespace VL
open PySem PySem.Spec PyProof.Rows L2

/-! ### statements -/
def mSkip : MS := fun ρ s => .ok (.nx ρ) s
def mSeq (a b : MS) : MS := fun ρ s => (a ρ s).bnd fun fl s1 => match fl with
  | .nx ρ1 => b ρ1 s1
  | fl => .ok fl s1
def mRet (m : ME) : MS := fun ρ s => (m ρ s).bnd fun d s1 => .ok (.ret d) s1
def mRetN : MS := fun _ s => .ok (.ret .non) s
def mDrop (m : ME) : MS := fun ρ s => (m ρ s).bnd fun _ s1 => .ok (.nx ρ) s1
def mIfS (t : MT) (a b : MS) : MS := fun ρ s => (t ρ s).bnd fun k s1 => if k = true then a ρ s1 else b ρ s1
def mBad : MS := fun _ _ => .bad
def mBreak : MS := fun ρ s => .ok (.bk ρ) s
def mCont : MS := fun ρ s => .ok (.ct ρ) s
section
variable {X : Cx} {W : WX} {st : Stmt} {rest sts : List Stmt} {a b : MS} {e c : Expr} {m : ME} {t : MT} {pos : Pos}
theorem vss_nil : VSs X W [] mSkip := pss_imp pss_nil fun Dn σ H ⟨ι, s, ρ, q, e, h⟩ => h.here q σ e
theorem rd_seq {G : Cg} {Dn : Ends} {σ : L2.St} {H : Hp} (h : rdS G W (mSeq a b) Dn σ H) : rdS G W a { Dn with nx := rdS G W b Dn } σ H := by
  obtain ⟨ι, s, ρ, q, e, h⟩ := h
  refine ⟨ι, s, ρ, q, e, h.bnd.imp fun fl ι1 H1 s1 ⟨e1, q1, h1⟩ => ?_⟩
  cases fl with
  | nx ρ1 => exact fun σ' e' => ⟨ι1, s1, ρ1, q1, e', h1⟩
  | ret d => exact h1.here q1
  | bk ρ1 => exact h1.here q1
  | ct ρ1 => exact h1.here q1
theorem vss_cons (h1 : VS X W st a) (h2 : VSs X W rest b) : VSs X W (st :: rest) (mSeq a b) := pss_imp (pss_cons h1 h2) fun _ _ _ h => rd_seq h
theorem vss_one (h1 : VS X W st a) : VSs X W [st] a := pss_one h1
theorem vs_ret (h : VE X W e m) : VS X W (.Return (some e) pos) (mRet m) := by
  refine ps_imp (ps_ret h) fun Dn σ H h => ?_
  obtain ⟨ι, s, ρ, q, e, h⟩ := h
  exact rdE_on q e h fun d v ι1 H1 s1 e1 q1 r1 h1 => h1.here q1 v r1
theorem vs_expr (h : VE X W e m) (hs : swapsWith e none pos.line X.env = pure false := by rfl) : VS X W (.Expr e pos) (mDrop m) := by
  refine ps_imp (ps_expr h hs) fun Dn σ H h => ?_
  obtain ⟨ι, s, ρ, q, e, h⟩ := h
  exact rdE_on q e h fun d v ι1 H1 s1 e1 q1 r1 h1 => h1.here q1 σ (e.mono e1)
theorem vs_if (hc : VT X W c t) (h1 : VSs X W sts a) (h2 : VSs X W rest b) : VS X W (.If c sts rest pos) (mIfS t a b) := by
  refine ps_imp (ps_if hc h1 h2) fun Dn σ H h => ?_
  obtain ⟨ι, s, ρ, q, e, h⟩ := h
  refine rdT_on q e h fun k ι1 H1 s1 e1 q1 h1 => ?_
  cases k with
  | true => rw [if_pos rfl] at h1 ⊢; exact ⟨ι1, s1, ρ, q1, e.mono e1, h1⟩
  | false => rw [if_neg Bool.false_ne_true] at h1 ⊢; exact ⟨ι1, s1, ρ, q1, e.mono e1, h1⟩
theorem vs_never : VS X W st mBad := ps_imp ps_never fun Dn σ H ⟨ι, s, ρ, q, e, h⟩ => h.elim
end

/-! ### targets -/
abbrev MG := D → Ev → S → R Ev
abbrev MGs := List D → Ev → S → R Ev
def rdG (G : Cg) (W : WX) (m : MG) : TG := fun v σ H Q => ∃ ι s ρ d, Sim G ι H s ∧ EnvR G ι H σ ρ ∧ RelD G ι H d v ∧ Post G W ι H (fun ρ' ι' H' _ => ∀ σ', EnvR G ι' H' σ' ρ' → Q σ' H') (m d ρ s)
def rdGs (G : Cg) (W : WX) (m : MGs) : TGs := fun vs σ H Q => ∃ ι s ρ ds, Sim G ι H s ∧ EnvR G ι H σ ρ ∧ RelDs G ι H ds vs ∧ Post G W ι H (fun ρ' ι' H' _ => ∀ σ', EnvR G ι' H' σ' ρ' → Q σ' H') (m ds ρ s)
abbrev VG (X : Cx) (W : WX) (tg : Expr) (m : MG) : Prop := PG X tg (rdG (cg X) W m)
abbrev VGs (X : Cx) (W : WX) (tgs : List Expr) (m : MGs) : Prop := PGs X tgs (rdGs (cg X) W m)
theorem pg_imp {X : Cx} {e : Expr} {t t' : TG} (h : PG X e t) (k : ∀ v σ H Q, t' v σ H Q → t v σ H Q) : PG X e t' := ⟨fun pins s σ H v u Q I r q => h.run pins s σ H v u Q I r (k v σ H Q q)⟩
theorem pgs_imp {X : Cx} {e : List Expr} {t t' : TGs} (h : PGs X e t) (k : ∀ v σ H Q, t' v σ H Q → t v σ H Q) : PGs X e t' := ⟨fun pins s σ H v u Q I r q => h.run pins s σ H v u Q I r (k v σ H Q q)⟩
def gN (i : Nat) : MG := fun d ρ s => .ok (ρ.set i (some d)) s
def gNilM : MGs := fun ds ρ s => match ds with
  | [] => .ok ρ s
  | _ => .bad
def gConsM (g : MG) (gs : MGs) : MGs := fun ds ρ s => match ds with
  | d :: ds => (g d ρ s).bnd fun ρ1 s1 => gs ds ρ1 s1
  | [] => .bad
def gT (n : Nat) (gs : MGs) : MG := fun d ρ s => match d with
  | .tup ds => if ds.length = n then gs ds ρ s else .bad
  | _ => .bad
section
variable {X : Cx} {W : WX} {pos : Pos}
theorem vg_n (i : Nat) {x : Str} (hN : X.N.Nodup) (hi : X.N[i]? = some x := by rfl) (hx : Loc X.env.scope x := by first | exact Or.inl rfl | exact Or.inr rfl) (hf : X.fn x = true ∨ X.env.scope.names.lookup x = some .local := by first | exact .inl rfl | exact .inr rfl | assumption) : VG X W (.Name x pos) (gN i) :=
  pg_imp (pg_name hN hi hx hf) fun v σ H Q ⟨ι, s, ρ, d, q, e, r, h⟩ => h.here q _ (e.set r)
theorem vgs_nil : VGs X W [] gNilM := pgs_imp pgs_nil fun v σ H Q ⟨ι, s, ρ, d, q, e, r, h⟩ => by
  cases d with
  | nil => simp only [RelDs] at r; exact ⟨r, h.here q σ e⟩
  | cons d ds => exact h.elim
theorem vgs_cons {e : Expr} {es : List Expr} {g : MG} {gs : MGs} (h1 : VG X W e g) (h2 : VGs X W es gs) (hs : (assignEach (e :: es) X.env).map (·.2) = assign e X.env :: (assignEach es X.env).map (·.2) := by rfl) : VGs X W (e :: es) (gConsM g gs) :=
  pgs_imp (pgs_cons h1 h2 hs) fun vs σ H Q ⟨ι, s, ρ, ds, q, e, r, h⟩ => by
    cases ds with
    | nil => exact h.elim
    | cons d ds =>
      simp only [RelDs] at r
      obtain ⟨v, vr, rfl, r1, r2⟩ := r
      exact ⟨v, vr, rfl, ι, s, ρ, d, q, e, r1, h.bnd.imp fun ρ1 ι1 H1 s1 ⟨e1, q1, h1⟩ σ' e' => ⟨ι1, s1, ρ1, ds, q1, e', r2.mono e1, h1⟩⟩
theorem vg_t {es : List Expr} {k : Nat} {gs : MGs} (n : Nat) (h : VGs X W es gs) (hc : X.calm = true := by rfl) (hn : (assignEach es X.env).length = n := by rfl) (hst : (assignEach es X.env).findIdx? (·.1) = none := by rfl) : VG X W (.Tuple es k pos) (gT n gs) :=
  pg_imp (pg_tup hc h hn hst) fun v σ H Q ⟨ι, s, ρ, d, q, e, r, h⟩ => by
    unfold gT at h
    split at h
    · rename_i ds
      split at h
      · rename_i hl
        simp only [RelD] at r
        obtain ⟨a, xs, rfl, t, k⟩ := r
        exact ⟨a, xs, rfl, t.sq, by rw [k.len]; exact hl, ι, s, ρ, ds, q, e, k, h⟩
      · exact h.elim
    · exact h.elim
/-- xs[i] = v -/
def setIx (o i v : D) (s : S) : Option S := match o, i with
  | .obj n, .int k => (match s[n]? with
    | some (.lst ds) => (match ixN ds.length k with
      | some j => some (s.set n (.lst (ds.set j v)))
      | none => none)
    | _ => none)
  | _, _ => none
def gIx (mo mi : ME) : MG := fun d ρ s => (mo ρ s).bnd fun o s1 => (mi ρ s1).bnd fun i s2 => match setIx o i d s2 with
  | some s3 => .ok ρ s3
  | none => .bad
theorem vg_ix {o i : Expr} {mo mi : ME} (ho : VE X W o mo) (hi : VE X W i mi) (ha : ∀ v, assign (.Subscript o i pos) X.env v = (do
      let ov ← holding [v] (eval o X.env)
      let iv ← holding [v, ov] (eval i X.env)
      standAt pos
      holding [v, ov, iv] (setItem ov iv v)
      release [v, ov, iv] []) := by intro _; rfl) : VG X W (.Subscript o i pos) (gIx mo mi) :=
  pg_imp (pg_sub ho hi set_list ha) fun v σ H Q ⟨ι, s, ρ, d, q, e, r, h⟩ => by
    refine rdE_on q e h fun x w ι1 H1 s1 e1 q1 r1 h1 => rdE_on q1 (e.mono e1) h1 fun y u ι2 H2 s2 e2 q2 r2 h2 => ?_
    split at h2
    · rename_i s3 hs
      unfold setIx at hs
      split at hs
      · rename_i n k
        split at hs
        · rename_i ds hd
          split at hs
          · rename_i j hj
            cases hs
            obtain ⟨a, g1, g2, xs, g3, g4⟩ := q2.addr hd
            have r1' := r1.mono e2
            simp only [RelD] at r1'
            obtain ⟨b, rfl, eb⟩ := r1'
            rw [g1] at eb; cases eb
            refine ⟨a, xs, k, j, rfl, relI r2, g3, by rw [g4.len]; exact hj, ?_⟩
            refine h2 ι2 _ (.write g2 (nfix g3 rfl)) (q2.write g1 (nfix g3 rfl) ⟨_, upd_same, ?_⟩) σ (((e.mono e1).mono e2).mono (.write g2 (nfix g3 rfl)))
            exact RelDs.set ((((r.mono e1).mono e2)).mono (.write g2 (nfix g3 rfl))) j (g4.mono (.write g2 (nfix g3 rfl)))
          · cases hs
        · cases hs
      · cases hs
    · exact h2.elim
/-- target = value -/
def mAsg (m : ME) (g : MG) : MS := fun ρ s => (m ρ s).bnd fun d s1 => (g d ρ s1).bnd fun ρ1 s2 => .ok (.nx ρ1) s2
theorem rd_asg {m : ME} {g : MG} {tm : TE} (km : ∀ σ H Q, rdE (cg X) W m σ H Q → tm σ H Q) {Dn : Ends} {σ : L2.St} {H : Hp} (h : rdS (cg X) W (mAsg m g) Dn σ H) : tAsg tm (rdG (cg X) W g) Dn σ H := by
  obtain ⟨ι, s, ρ, q, e, h⟩ := h
  refine km _ _ _ (rdE_on q e h fun x v ι1 H1 s1 e1 q1 r1 h1 => ⟨ι1, s1, ρ, x, q1, e.mono e1, r1, h1.bnd.imp fun ρ2 ι2 H2 s2 ⟨e2, q2, h2⟩ σ' e' => h2.here q2 σ' e'⟩)
theorem vs_asg {tg e : Expr} {m : ME} {g : MG} (he : VE X W e m) (hg : VG X W tg g) (hs : swapsWithSole [tg] e pos.line X.env = pure false := by rfl) (hw : swappedStores [tg] e X.env = pure none := by rfl)
    (h1 : (assignEach [tg] X.env).map (·.2) = [assign tg X.env] := by rfl) : VS X W (.Assign [tg] e pos) (mAsg m g) :=
  ps_imp (ps_asg he hg hs hw h1) fun _ _ _ h => rd_asg (fun _ _ _ h => h) h
/-- a, b = e1, e2 -/
def mPar (i j : Nat) (ms : MA) : MS := fun ρ s => (ms ρ s).bnd fun ds s1 => match ds with
  | [x, y] => .ok (.nx ((ρ.set i (some x)).set j (some y))) s1
  | _ => .bad
def mPar3 (i j k : Nat) (ms : MA) : MS := fun ρ s => (ms ρ s).bnd fun ds s1 => match ds with
  | [x, y, z] => .ok (.nx (((ρ.set i (some x)).set j (some y)).set k (some z))) s1
  | _ => .bad
theorem vs_par {i j : Nat} {x y : Str} {a b : Expr} {ms : MA} {px py pt : Pos} {kt k2 pt2} (hN : X.N.Nodup) (ha : VA X W [a, b] ms) (hi : X.N[i]? = some x := by rfl) (hj : X.N[j]? = some y := by rfl) (hij : i ≠ j := by decide)
    (hx : X.env.scope.names.lookup x = some .local := by rfl) (hy : X.env.scope.names.lookup y = some .local := by rfl) (hc : X.calm = true := by rfl)
    (hw : swappedStores [.Tuple [.Name x px, .Name y py] kt pt] (.Tuple [a, b] k2 pt2) X.env = pure (some [x, y]) := by rfl)
    (hs : swapsWithSole [.Tuple [.Name x px, .Name y py] kt pt] (.Tuple [a, b] k2 pt2) pos.line X.env = pure false := by rfl) :
    VS X W (.Assign [.Tuple [.Name x px, .Name y py] kt pt] (.Tuple [a, b] k2 pt2) pos) (mPar i j ms) :=
  ps_imp (ps_par hc hN hi hj hij hx hy ha hw hs) fun Dn σ H ⟨ι, s, ρ, q, e, h⟩ => by
    refine rdA_on q e h fun xs vs ι1 H1 s1 e1 q1 r1 h1 => ?_
    split at h1
    · rename_i x y
      simp only [RelDs] at r1
      obtain ⟨v, _, rfl, r1, w, _, rfl, r2, rfl⟩ := r1
      exact ⟨v, w, rfl, h1.here q1 _ (((e.mono e1).set r1).set r2)⟩
    · exact h1.elim
end

/-! ### loops -/
inductive Src where
  | fix (xs : List D) | live (n : Nat) | enl (n : Nat)
def enumD (xs : List D) : List D := xs.zipIdx.map fun p => .tup [.int (p.2 : Nat), p.1]
def srcAt (s : S) : Src → Option (List D)
  | .fix xs => some xs
  | .live n => match s[n]? with
    | some (.lst ds) => some ds
    | _ => none
  | .enl n => match s[n]? with
    | some (.lst ds) => some (enumD ds)
    | _ => none
/-- the iterator gives the items, whatever has become of the heap -/
def ItOk (G : Cg) (ι₀ : Z) (H₀ : Hp) (src : Src) (J : It) : Prop := ∀ (ι : Z) (H : Hp) (s : S) (xs : List D), ExtW ι₀ H₀ ι H → Sim G ι H s → srcAt s src = some xs → ∀ i,
  (∀ d, xs[i]? = some d → J.go i H ∧ ∀ x H', J.yld i H x H' → Ext ι H ι H' ∧ (∀ a ∈ ι.ad, H' a = H a) ∧ RelD G ι H' d x) ∧ (xs.length ≤ i → J.stop i H)
theorem ItOk.mono {G : Cg} {ι H ι' H' src J} (e : ExtW ι H ι' H') (h : ItOk G ι H src J) : ItOk G ι' H' src J := fun ι2 H2 s xs e2 => h ι2 H2 s xs (e.trans e2)
abbrev MI := Ev → S → R Src
def rdI (G : Cg) (W : WX) (m : MI) : TI := fun σ H Rr => ∃ ι s ρ, Sim G ι H s ∧ EnvR G ι H σ ρ ∧ Post G W ι H (fun src ι' H' _ => ∀ J, ItOk G ι' H' src J → Rr J H') (m ρ s)
abbrev VI (X : Cx) (W : WX) (tg iter : Expr) (m : MI) : Prop := PI X tg iter (rdI (cg X) W m)
theorem pi_imp {X : Cx} {tg e : Expr} {t t' : TI} (h : PI X tg e t) (k : ∀ σ H Q, t' σ H Q → t σ H Q) : PI X tg e t' := ⟨fun pins s σ H Q I q => h.run pins s σ H Q I (k σ H Q q)⟩
/-- the rest of a loop: n turns are left, i are done -/
def mLoop (src : Src) (g : MG) (body : MS) : Nat → Nat → MS
  | 0, i, ρ, s => (match srcAt s src with
    | some xs => if xs.length = i then .ok (.nx ρ) s else .bad
    | none => .bad)
  | n + 1, i, ρ, s => (match srcAt s src with
    | some xs => (match xs[i]? with
      | some d => (g d ρ s).bnd fun ρ1 s1 => (body ρ1 s1).bnd fun fl s2 => match fl with
        | .nx ρ2 => mLoop src g body n (i + 1) ρ2 s2
        | .ct ρ2 => mLoop src g body n (i + 1) ρ2 s2
        | .bk ρ2 => .ok (.nx ρ2) s2
        | .ret d => .ok (.ret d) s2
      | none => .bad)
    | none => .bad)
def mFor (it : MI) (g : MG) (body : MS) : MS := fun ρ s => (it ρ s).bnd fun src s1 => match srcAt s1 src with
  | some xs => mLoop src g body xs.length 0 ρ s1
  | none => .bad
section
variable {X : Cx} {W : WX} {pos : Pos}
theorem vs_for {tg iter : Expr} {body : List Stmt} {it : MI} {g : MG} {b : MS} (hp : PassesOwn (model X.prog X.w) X.A X.env X.xe) (hi : VI X W tg iter it) (hg : VG X W tg g) (hb : VSs X W body b) (hc : X.calm = true := by rfl)
    (hs : ∀ x, foldedSetIterable iter X.env x = pure x := by intro _; rfl) : VS X W (.For tg iter body [] pos) (mFor it g b) := by
  refine ps_imp (ps_for hp hc hi hg hb hs) fun Dn σ H h => ?_
  obtain ⟨ι, s, ρ, q, e, h⟩ := h
  refine ⟨ι, s, ρ, q, e, h.bnd.imp fun src ι1 H1 s1 ⟨e1, q1, h1⟩ J hJ => ?_⟩
  split at h1
  · rename_i xs hx
    refine ⟨fun i m σ' H' => ∃ ι' s' ρ', Ext ι1 H1 ι' H' ∧ Sim (cg X) ι' H' s' ∧ EnvR (cg X) ι' H' σ' ρ' ∧ Post (cg X) W ι' H' (EndsP (cg X) Dn) (mLoop src g b m i ρ' s'),
      ⟨xs.length, ι1, s1, ρ, .refl _ _, q1, e.mono e1, h1⟩, fun i m σ' H' hW => ?_⟩
    obtain ⟨ι', s', ρ', x', q', e', p'⟩ := hW
    cases m with
    | zero =>
      simp only [mLoop] at p'
      split at p'
      · rename_i ys hy
        split at p'
        · rename_i hl
          exact .inl ⟨(hJ ι' H' s' ys x'.w q' hy i).2 (Nat.le_of_eq hl), p'.here q' σ' e'⟩
        · exact p'.elim
      · exact p'.elim
    | succ m =>
      simp only [mLoop] at p'
      split at p'
      · rename_i ys hy
        split at p'
        · rename_i d hd
          obtain ⟨go, yl⟩ := (hJ ι' H' s' ys x'.w q' hy i).1 d hd
          refine .inr ⟨go, fun σ2 H2 => ∃ ι2 s2 ρ2, Ext ι1 H1 ι2 H2 ∧ Sim (cg X) ι2 H2 s2 ∧ EnvR (cg X) ι2 H2 σ2 ρ2 ∧ Post (cg X) W ι2 H2 (EndsP (cg X) Dn) (mLoop src g b m (i + 1) ρ2 s2), fun σ2 H2 n2 => ⟨m, Nat.lt_succ_self m, n2⟩, fun x H2 hy2 => ?_⟩
          obtain ⟨y1, y2, y3⟩ := yl x H2 hy2
          have q2 : Sim (cg X) ι' H2 s' := q'.ext y1 y2
          refine ⟨ι', s', ρ', d, q2, e'.mono y1, y3, (p'.mono y1).bnd.imp fun ρ3 ι3 H3 s3 ⟨x3, q3, p3⟩ σ3 e3 => ⟨ι3, s3, ρ3, q3, e3, p3.bnd.imp fun fl ι4 H4 s4 ⟨x4, q4, p4⟩ => ?_⟩⟩
          cases fl with
          | nx ρ4 => exact fun σ4 e4 => ⟨ι4, s4, ρ4, ((x'.trans y1).trans x3).trans x4, q4, e4, p4⟩
          | ct ρ4 => exact fun σ4 e4 => ⟨ι4, s4, ρ4, ((x'.trans y1).trans x3).trans x4, q4, e4, p4⟩
          | bk ρ4 => exact fun σ4 e4 => p4.here q4 σ4 e4
          | ret d => exact p4.here q4
        · exact p'.elim
      · exact p'.elim
  · exact h1.elim
/-- while, at most n turns -/
def mWhile (t : MT) (body : MS) : Nat → MS
  | 0, _, _ => .bad
  | n + 1, ρ, s => (t ρ s).bnd fun k s1 => if k = true then (body ρ s1).bnd fun fl s2 => match fl with
      | .nx ρ2 => mWhile t body n ρ2 s2
      | .ct ρ2 => mWhile t body n ρ2 s2
      | .bk ρ2 => .ok (.nx ρ2) s2
      | .ret d => .ok (.ret d) s2
    else .ok (.nx ρ) s1
theorem vs_while {c : Expr} {body : List Stmt} {t : MT} {b : MS} (n : Nat) (hp : PassesOwn (model X.prog X.w) X.A X.env X.xe) (ht : VT X W c t) (hb : VSs X W body b) : VS X W (.While c body [] pos) (mWhile t b n) := by
  refine ps_imp (ps_while hp ht hb) fun Dn σ H h => ?_
  obtain ⟨ι, s, ρ, q, e, h⟩ := h
  refine ⟨fun m σ' H' => ∃ ι' s' ρ', Sim (cg X) ι' H' s' ∧ EnvR (cg X) ι' H' σ' ρ' ∧ Post (cg X) W ι' H' (EndsP (cg X) Dn) (mWhile t b m ρ' s'), ⟨n, ι, s, ρ, q, e, h⟩, fun m σ' H' hW => ?_⟩
  obtain ⟨ι', s', ρ', q', e', p'⟩ := hW
  cases m with
  | zero => exact p'.elim
  | succ m =>
    refine rdT_on q' e' p' fun k ι1 H1 s1 e1 q1 h1 => ?_
    cases k with
    | true =>
      rw [if_pos rfl] at h1
      refine ⟨fun σ2 H2 => ∃ ι2 s2 ρ2, Sim (cg X) ι2 H2 s2 ∧ EnvR (cg X) ι2 H2 σ2 ρ2 ∧ Post (cg X) W ι2 H2 (EndsP (cg X) Dn) (mWhile t b m ρ2 s2), fun σ2 H2 n2 => ⟨m, Nat.lt_succ_self m, n2⟩, ?_⟩
      refine ⟨ι1, s1, ρ', q1, e'.mono e1, h1.bnd.imp fun fl ι4 H4 s4 ⟨x4, q4, p4⟩ => ?_⟩
      cases fl with
      | nx ρ4 => exact fun σ4 e4 => ⟨ι4, s4, ρ4, q4, e4, p4⟩
      | ct ρ4 => exact fun σ4 e4 => ⟨ι4, s4, ρ4, q4, e4, p4⟩
      | bk ρ4 => exact fun σ4 e4 => p4.here q4 σ4 e4
      | ret d => exact p4.here q4
    | false =>
      rw [if_neg Bool.false_ne_true] at h1
      exact h1.here q1 σ' (e'.mono e1)
end
end VL
namespace VL
open PySem PySem.Spec PyProof.Rows L2

/-! ### what is walked -/
def mSrc (m : ME) : MI := fun ρ s => (m ρ s).bnd fun d s1 => match d with
  | .tup xs => .ok (.fix xs) s1
  | .lst xs => .ok (.fix xs) s1
  | .scr xs => .ok (.fix xs) s1
  | .tupF xs => .ok (.fix xs) s1
  | .obj n => (match s1[n]? with
    | some (.lst _) => .ok (.live n) s1
    | _ => .bad)
  | _ => .bad
section
variable {X : Cx} {W : WX}
theorem itok_tup {G : Cg} {ι H xs a vs} (t : TupAt G ι H a vs) (r : RelDs G ι H xs vs) : ItOk G ι H (.fix xs) (Itt G.K a) := fun ι1 H1 s ys e q hy i => by
  simp only [srcAt, Option.some.injEq] at hy
  subst hy
  have t1 := (t.monoW e).sq
  have r1 := RelDs.monoW e _ r
  refine ⟨fun d hd => ?_, fun hl => ⟨vs, t1, by rw [r1.len]; exact hl⟩⟩
  obtain ⟨v, hv, rv⟩ := r1.get hd
  refine ⟨⟨vs, v, t1, hv⟩, fun x H' hy => ?_⟩
  obtain ⟨rfl, hx⟩ := hy
  have := hx vs t1
  rw [hv] at this; cases this
  exact ⟨.refl _ _, fun _ _ => rfl, rv⟩
theorem itok_tupF {G : Cg} {ι H xs a vs} (t : TupF ι H a vs) (r : RelDs G ι H xs vs) : ItOk G ι H (.fix xs) (Itt G.K a) := fun ι1 H1 s ys e q hy i => by
  simp only [srcAt, Option.some.injEq] at hy
  subst hy
  have t1 : SqT G.K H1 a vs := (t.monoW e).sq
  have r1 := RelDs.monoW e _ r
  refine ⟨fun d hd => ?_, fun hl => ⟨vs, t1, by rw [r1.len]; exact hl⟩⟩
  obtain ⟨v, hv, rv⟩ := r1.get hd
  refine ⟨⟨vs, v, t1, hv⟩, fun x H' hy => ?_⟩
  obtain ⟨rfl, hx⟩ := hy
  have := hx vs t1
  rw [hv] at this; cases this
  exact ⟨.refl _ _, fun _ _ => rfl, rv⟩
theorem itok_sq {G : Cg} {ι H xs a vs} (t : ∀ ι' H', ExtW ι H ι' H' → SqL G.K H' a vs) (r : RelDs G ι H xs vs) : ItOk G ι H (.fix xs) (Itl G.K a) := fun ι1 H1 s ys e q hy i => by
  simp only [srcAt, Option.some.injEq] at hy
  subst hy
  have t1 := t _ _ e
  have r1 := RelDs.monoW e _ r
  refine ⟨fun d hd => ?_, fun hl => ⟨vs, t1, by rw [r1.len]; exact hl⟩⟩
  obtain ⟨v, hv, rv⟩ := r1.get hd
  refine ⟨⟨vs, v, t1, hv⟩, fun x H' hy => ?_⟩
  obtain ⟨rfl, hx⟩ := hy
  have := hx vs t1
  rw [hv] at this; cases this
  exact ⟨.refl _ _, fun _ _ => rfl, rv⟩
theorem itok_live {G : Cg} {ι H n a} (t : ι.ad[n]? = some a) : ItOk G ι H (.live n) (Itl G.K a) := fun ι1 H1 s ys e q hy i => by
  simp only [srcAt] at hy
  split at hy
  · rename_i ds hd
    cases hy
    obtain ⟨b, g1, g2, vs, g3, r1⟩ := q.addr hd
    rw [e.get _ _ t] at g1; cases g1
    have t1 : SqL G.K H1 a vs := .inl (.inl g3)
    refine ⟨fun d hd => ?_, fun hl => ⟨vs, t1, by rw [r1.len]; exact hl⟩⟩
    obtain ⟨v, hv, rv⟩ := r1.get hd
    refine ⟨⟨vs, v, t1, hv⟩, fun x H' hy => ?_⟩
    obtain ⟨rfl, hx⟩ := hy
    have := hx vs t1
    rw [hv] at this; cases this
    exact ⟨.refl _ _, fun _ _ => rfl, rv⟩
  · cases hy
theorem pi_or {tg e : Expr} {t t' : TI} (h : PI X tg e t) (h' : PI X tg e t') : PI X tg e (fun σ H Rr => t σ H Rr ∨ t' σ H Rr) :=
  ⟨fun pins s σ H Q I q => q.elim (fun q => h.run pins s σ H Q I q) fun q => h'.run pins s σ H Q I q⟩
theorem vi_seq {tg e : Expr} {m : ME} (h : VE X W e m) : VI X W tg e (mSrc m) :=
  pi_imp (pi_or (pi_list h) (pi_tup h)) fun σ H Rr ⟨ι, s, ρ, q, e, h⟩ => by
    unfold mSrc at h
    cases hm : m ρ s with
    | bad => rw [hm] at h; exact h.elim
    | exn c fs ρ' s' =>
      rw [hm] at h
      refine .inl ⟨ι, s, ρ, q, e, ?_⟩
      rw [hm]
      exact h
    | ok d s' =>
      rw [hm] at h
      cases d with
      | tup xs =>
        refine .inr ⟨ι, s, ρ, q, e, ?_⟩
        rw [hm]
        intro ι1 H1 e1 q1 v r
        have h1 := h ι1 H1 e1 q1
        simp only [RelD] at r
        obtain ⟨a, vs, rfl, t, k⟩ := r
        exact ⟨a, rfl, ⟨vs, t.sq⟩, h1 _ (itok_tup t k)⟩
      | tupF xs =>
        refine .inr ⟨ι, s, ρ, q, e, ?_⟩
        rw [hm]
        intro ι1 H1 e1 q1 v r
        have h1 := h ι1 H1 e1 q1
        simp only [RelD] at r
        obtain ⟨a, vs, rfl, t, k⟩ := r
        exact ⟨a, rfl, ⟨vs, t.sq⟩, h1 _ (itok_tupF t k)⟩
      | lst xs =>
        refine .inl ⟨ι, s, ρ, q, e, ?_⟩
        rw [hm]
        intro ι1 H1 e1 q1 v r
        have h1 := h ι1 H1 e1 q1
        simp only [RelD] at r
        obtain ⟨a, vs, rfl, t, k⟩ := r
        exact ⟨a, rfl, ⟨vs, .inl (.inl t.2)⟩, h1 _ (itok_sq (fun ι' H' e => .inl (.inl (t.monoW e).2)) k)⟩
      | scr xs =>
        refine .inl ⟨ι, s, ρ, q, e, ?_⟩
        rw [hm]
        intro ι1 H1 e1 q1 v r
        have h1 := h ι1 H1 e1 q1
        simp only [RelD] at r
        obtain ⟨a, vs, rfl, t, k⟩ := r
        exact ⟨a, rfl, ⟨vs, t.sq⟩, h1 _ (itok_sq (fun ι' H' e => (t.monoW e).sq) k)⟩
      | obj n =>
        simp only [R.bnd_ok] at h
        split at h
        · rename_i ds hd
          refine .inl ⟨ι, s, ρ, q, e, ?_⟩
          rw [hm]
          intro ι1 H1 e1 q1 v r
          have h1 := h ι1 H1 e1 q1
          simp only [RelD] at r
          obtain ⟨a, rfl, ha⟩ := r
          obtain ⟨b, g1, g2, vs, g3, r1⟩ := q1.addr hd
          rw [ha] at g1; cases g1
          exact ⟨a, rfl, ⟨vs, .inl (.inl g3)⟩, h1 _ (itok_live ha)⟩
        · exact h.elim
      | _ => exact h.elim
def rngD (lo : Int) (n : Nat) : List D := (List.range n).map fun k => .int (lo + (k : Nat))
theorem rngD_get {lo : Int} {n i : Nat} {d : D} (h : (rngD lo n)[i]? = some d) : i < n ∧ d = .int (lo + (i : Nat)) := by
  unfold rngD at h
  rw [List.getElem?_map] at h
  obtain ⟨k, h1, h2⟩ := Option.map_eq_some_iff.mp h
  obtain ⟨h3, h4⟩ := List.getElem?_eq_some_iff.mp h1
  rw [List.getElem_range] at h4
  subst h4
  exact ⟨by simpa using h3, h2.symm⟩
theorem rngD_len {lo : Int} {n : Nat} : (rngD lo n).length = n := by unfold rngD; simp
theorem itok_rng {G : Cg} {ι H lo n} : ItOk G ι H (.fix (rngD lo n)) (Itr lo n) := fun ι1 H1 s ys e q hy i => by
  simp only [srcAt, Option.some.injEq] at hy
  subst hy
  refine ⟨fun d hd => ?_, fun hl => by rw [rngD_len] at hl; exact hl⟩
  obtain ⟨h1, rfl⟩ := rngD_get hd
  refine ⟨h1, fun x H' hy => ?_⟩
  obtain ⟨rfl, rfl⟩ := hy
  exact ⟨.refl _ _, fun _ _ => rfl, by simp only [RelD]⟩
def inR (j : Int) : Prop := -(2 ^ 62) ≤ j ∧ j < 2 ^ 62
noncomputable instance (j : Int) : Decidable (inR j) := Classical.propDecidable _
noncomputable def mRng1 (ms : MA) : MI := fun ρ s => (ms ρ s).bnd fun ds s1 => match ds with
  | [.int j] => if inR j then .ok (.fix (rngD 0 j.toNat)) s1 else .bad
  | _ => .bad
noncomputable def mRng2 (ms : MA) : MI := fun ρ s => (ms ρ s).bnd fun ds s1 => match ds with
  | [.int i, .int j] => if inR i ∧ inR j then .ok (.fix (rngD i (j - i).toNat)) s1 else .bad
  | _ => .bad
theorem vi_rng1 {tg a : Expr} {ms : MA} {p pos : Pos} (hg : Gl X "range") (hm : X.mg "range" = none) (ha : VA X W [a] ms) (hs : starEach [a] X.env = [(false, eval a X.env)] := by rfl) : VI X W tg (.Call (.Name "range" p) [a] [] pos) (mRng1 ms) :=
  pi_imp (pi_range1 hg hm ha hs) fun σ H Rr ⟨ι, s, ρ, q, e, h⟩ => by
    refine rdA_on q e h fun ds vs ι1 H1 s1 e1 q1 r1 h1 => ?_
    split at h1
    · rename_i j
      split at h1
      · rename_i hj
        simp only [RelDs, RelD] at r1
        obtain ⟨v, _, rfl, rfl, rfl⟩ := r1
        exact ⟨j, rfl, hj.1, hj.2, h1.here q1 _ itok_rng⟩
      · exact h1.elim
    · exact h1.elim
theorem vi_rng2 {tg a b : Expr} {ms : MA} {p pos : Pos} (hg : Gl X "range") (hm : X.mg "range" = none) (ha : VA X W [a, b] ms) (hs : starEach [a, b] X.env = [(false, eval a X.env), (false, eval b X.env)] := by rfl) (hs2 : starEach [b] X.env = [(false, eval b X.env)] := by rfl) :
    VI X W tg (.Call (.Name "range" p) [a, b] [] pos) (mRng2 ms) :=
  pi_imp (pi_range2 hg hm ha hs hs2) fun σ H Rr ⟨ι, s, ρ, q, e, h⟩ => by
    refine rdA_on q e h fun ds vs ι1 H1 s1 e1 q1 r1 h1 => ?_
    split at h1
    · rename_i i j
      split at h1
      · rename_i hj
        simp only [RelDs, RelD] at r1
        obtain ⟨v, _, rfl, rfl, w, _, rfl, rfl, rfl⟩ := r1
        exact ⟨i, j, rfl, ⟨hj.1.1, hj.1.2, hj.2.1, hj.2.2⟩, h1.here q1 _ itok_rng⟩
      · exact h1.elim
    · exact h1.elim
end

/-! ### comprehensions -/
inductive Tg where
  | one (i : Nat) | many (is : List Nat)
def Tg.slots : Tg → List Nat
  | .one i => [i]
  | .many is => is
def gsL : List Nat → TGs
  | [] => gNil
  | i :: is => gCons (gName i) (gsL is)
def tgL (K : PySem.W.Frag) : Tg → TG
  | .one i => gName i
  | .many is => gTup K is.length (gsL is)
def setAll : List Nat → List D → Ev → Ev
  | i :: is, d :: ds, ρ => setAll is ds (ρ.set i (some d))
  | _, _, ρ => ρ
def tgM : Tg → D → Ev → Option Ev
  | .one i, d, ρ => some (ρ.set i (some d))
  | .many is, .tup ds, ρ => if ds.length = is.length then some (setAll is ds ρ) else none
  | .many _, _, _ => none
theorem wipe_get {i : Nat} : ∀ (vs : List Nat) (σ : L2.St), (wipe σ vs)[i]? = if i ∈ vs ∧ i < σ.length then some none else σ[i]?
  | [], σ => by simp [wipe]
  | v :: vs, σ => by
    unfold wipe
    by_cases hv : i = v
    · subst hv
      rw [List.getElem?_set]
      simp only [if_true, wipe_length, List.mem_cons, true_or, true_and]
      by_cases hl : i < σ.length
      · rw [if_pos hl, if_pos hl]
      · rw [if_neg hl, if_neg hl, List.getElem?_eq_none (by omega)]
    · rw [List.getElem?_set_ne (Ne.symm hv), wipe_get vs σ]
      simp [hv]
theorem wipe_set {σ : L2.St} {vs : List Nat} {i : Nat} {x : Option V} (h : i ∈ vs) : wipe (σ.set i x) vs = wipe σ vs := by
  apply List.ext_getElem?
  intro k
  rw [wipe_get, wipe_get, List.length_set]
  by_cases hk : k ∈ vs ∧ k < σ.length
  · rw [if_pos hk, if_pos hk]
  · rw [if_neg hk, if_neg hk]
    by_cases e : i = k
    · subst e
      have : ¬ i < σ.length := fun z => hk ⟨h, z⟩
      rw [List.getElem?_eq_none (by simpa using this), List.getElem?_eq_none (by omega)]
    · rw [List.getElem?_set_ne e]
theorem wipe_wipe {σ : L2.St} {vs : List Nat} : wipe (wipe σ vs) vs = wipe σ vs := by
  apply List.ext_getElem?
  intro k
  rw [wipe_get, wipe_length, wipe_get]
  by_cases hk : k ∈ vs ∧ k < σ.length
  · simp only [if_pos hk]
  · simp only [if_neg hk]
def wipeD (ρ : Ev) : List Nat → Ev
  | [] => ρ
  | v :: vs => (wipeD ρ vs).set v none
theorem EnvR.wipe {G ι H σ ρ} (e : EnvR G ι H σ ρ) : ∀ vs : List Nat, EnvR G ι H (wipe σ vs) (wipeD ρ vs)
  | [] => e
  | v :: vs => by
    unfold wipeD L2.wipe
    exact (e.wipe vs).unset
theorem gsL_ok {G : Cg} {ι H} {Q : L2.St → Hp → Prop} {vs : List Nat} : ∀ {is : List Nat} {ds : List D} {xs : List V} {σ : L2.St} {ρ : Ev}, EnvR G ι H σ ρ → RelDs G ι H ds xs → ds.length = is.length → (∀ i ∈ is, i ∈ vs) →
    (∀ σ', EnvR G ι H σ' (setAll is ds ρ) → L2.wipe σ' vs = L2.wipe σ vs → Q σ' H) → gsL is xs σ H Q
  | [], ds, xs, σ, ρ, e, r, hl, hs, k => by
    have : ds = [] := List.length_eq_zero_iff.mp hl
    subst this
    simp only [RelDs] at r
    exact ⟨r, k σ e rfl⟩
  | i :: is, [], xs, σ, ρ, e, r, hl, hs, k => by simp at hl
  | i :: is, d :: ds, xs, σ, ρ, e, r, hl, hs, k => by
    simp only [RelDs] at r
    obtain ⟨v, ws, rfl, r1, r2⟩ := r
    refine ⟨v, ws, rfl, ?_⟩
    show gsL is ws (σ.set i (some v)) H Q
    refine gsL_ok (e.set r1) r2 (by simpa using hl) (fun j hj => hs j (List.mem_cons_of_mem _ hj)) fun σ' e' w => k σ' e' ?_
    rw [w, wipe_set (hs i (List.mem_cons_self ..))]
theorem tgL_ok {G : Cg} {ι H} {Q : L2.St → Hp → Prop} {vs : List Nat} {t : Tg} {d : D} {v : V} {σ : L2.St} {ρ ρ' : Ev} (e : EnvR G ι H σ ρ) (r : RelD G ι H d v) (h : tgM t d ρ = some ρ') (hs : ∀ i ∈ t.slots, i ∈ vs)
    (k : ∀ σ', EnvR G ι H σ' ρ' → L2.wipe σ' vs = L2.wipe σ vs → Q σ' H) : tgL G.K t v σ H Q := by
  cases t with
  | one i =>
    simp only [tgM, Option.some.injEq] at h
    subst h
    exact k _ (e.set r) (wipe_set (hs i (by simp [Tg.slots])))
  | many is =>
    unfold tgM at h
    split at h
    · rename_i he
      cases he
    · rename_i ds _ he
      cases he
      split at h
      · rename_i hl
        cases h
        simp only [RelD] at r
        obtain ⟨a, xs, rfl, t, k1⟩ := r
        exact ⟨a, xs, rfl, t.sq, by rw [k1.len]; exact hl, gsL_ok e k1 hl hs k⟩
      · cases h
    · cases h
/-- nothing is raised -/
def noX {α : Type} (r : R α) : R α := match r with
  | .ok a s => .ok a s
  | _ => .bad
def W0 : WX := fun _ _ _ _ => False
theorem Post.noX {α β : Type} {G : Cg} {W : WX} {ι H} {r : R α} {f : α → S → R β} {P : β → Z → Hp → S → Prop} (h : Post G W ι H P ((VL.noX r).bnd f)) :
    Post G W0 ι H (fun a ι' H' s => Ext ι H ι' H' ∧ Sim G ι' H' s ∧ Post G W ι' H' P (f a s)) r := by
  cases r with
  | ok a s => exact fun ι' H' e q => ⟨e, q, Post.mono e h⟩
  | exn c fs ρ s => exact h.elim
  | bad => exact h
def mYes : MT := fun _ s => .ok true s
def mLcGo (src : Src) (t : Tg) (tt : MT) (el : ME) (ρw : Ev) : Nat → Nat → List D → S → R (List D)
  | 0, i, acc, s => (match srcAt s src with
    | some xs => if xs.length = i then .ok acc s else .bad
    | none => .bad)
  | n + 1, i, acc, s => (match srcAt s src with
    | some xs => (match xs[i]? with
      | some d => (match tgM t d ρw with
        | some ρ1 => (noX (tt ρ1 s)).bnd fun k s1 => if k = true then (noX (el ρ1 s1)).bnd fun y s2 => mLcGo src t tt el ρw n (i + 1) (acc ++ [y]) s2 else mLcGo src t tt el ρw n (i + 1) acc s1
        | none => .bad)
      | none => .bad)
    | none => .bad)
def mLc0 (it : MI) (t : Tg) (tt : MT) (el : ME) (vs : List Nat) : MA := fun ρ s => (it ρ s).bnd fun src s1 => match srcAt s1 src with
  | some xs => if xs.length ≤ LIM ∧ (∀ i ∈ t.slots, i ∈ vs) then mLcGo src t tt el (wipeD ρ vs) xs.length 0 [] s1 else .bad
  | none => .bad
def mLcF (fin : List D → S → R D) (it : MI) (t : Tg) (tt : MT) (el : ME) (vs : List Nat) : ME := fun ρ s => (mLc0 it t tt el vs ρ s).bnd fin
def finL : List D → S → R D := fun xs s => .ok (.lst xs) s
def finO : List D → S → R D := fun xs s => .ok (.obj s.length) (s ++ [.lst xs])
abbrev mLc := mLcF finL
abbrev mLcO := mLcF finO
theorem noX_bnd {α β : Type} {G : Cg} {W : WX} {ι H} {r : R α} {f : α → S → R β} {P : β → Z → Hp → S → Prop} (h : Post G W ι H P ((VL.noX r).bnd f)) : ∃ a s, r = .ok a s ∧ Post G W ι H P (f a s) := by
  cases r with
  | ok a s => exact ⟨a, s, rfl, h⟩
  | exn c fs ρ s => exact h.elim
  | bad => exact h.elim
theorem bnd_assoc {α β γ : Type} (r : R α) (f : α → S → R β) (g : β → S → R γ) : (r.bnd f).bnd g = r.bnd fun a s => (f a s).bnd g := by cases r <;> rfl
structure LcI (G : Cg) (ι1 : Z) (H1 : Hp) (p : Addr) (ι' : Z) (H' : Hp) (s' : S) : Prop where
  w : ExtW ι1 H1 ι' H'
  x : Ext ι1 H1 ⟨ι'.ad, ι1.res⟩ H'
  q : Sim G ι' H' s'
  r : ι'.res = p :: ι1.res
section
variable {G : Cg} {ι1 ι' : Z} {H1 H' : Hp} {p : Addr} {s1 s' : S}
theorem LcI.start (q : Sim G ι1 H1 s1) (h : H1 p = none) {o : HO} (hf : fixO o = false := by rfl) : LcI G ι1 H1 p (ι1.keep p) (upd H1 p o) s1 :=
  ⟨Ext.toKeep q h, Ext.new (ι := ι1) h, q.toKeep h hf, rfl⟩
theorem LcI.step (I : LcI G ι1 H1 p ι' H' s') {ι2 H2 s2} (e : Ext ι' H' ι2 H2) (q : Sim G ι2 H2 s2) : LcI G ι1 H1 p ι2 H2 s2 := by
  refine ⟨I.w.trans e.w, ?_, q, e.res.trans I.r⟩
  have : Ext ⟨ι'.ad, ι1.res⟩ H' ⟨ι2.ad, ι1.res⟩ H2 := ⟨e.more, rfl, e.keep, e.dom, e.fix⟩
  exact I.x.trans this
theorem LcI.write (I : LcI G ι1 H1 p ι' H' s') (h : H1 p = none) {o : HO} (hf : fixO o = false := by rfl) : LcI G ι1 H1 p ι' (upd H' p o) s' := by
  have hm : p ∈ ι'.res := by rw [I.r]; exact List.mem_cons_self ..
  have np := I.q.rs p hm
  refine ⟨I.w.trans (.inKeep hm (I.q.rsn hm)), ⟨I.x.more, I.x.res, fun a u n tb k => ?_, fun a k => ?_, fun a u n k => ?_⟩, I.q.inKeep hm hf, I.r⟩
  · rw [upd_ne (ne_of_none k h)]; exact I.x.keep a u n tb k
  · by_cases e : a = p
    · subst e; rw [upd_same]; simp
    · rw [upd_ne e]; exact I.x.dom a k
  · rw [upd_ne (ne_of_none k h)]; exact I.x.fix a u n k
end
def FinOk (G : Cg) (W : WX) (fin : List D → S → R D) : Prop := ∀ (ι1 : Z) (H1 : Hp) (p : Addr) (ι' : Z) (H' : Hp) (s' : S) (xs : List D) (vs : List V) (Q : VK), LcI G ι1 H1 p ι' H' s' → RelDs G ι' H' xs vs → H' p = some (.lst vs) → p ∉ ι1.res →
  Post G W ι1 H1 (QE G Q) (fin xs s') → Q (.ref p) H'
theorem finL_ok {G : Cg} {W : WX} : FinOk G W finL := fun ι1 H1 p ι' H' s' xs vs Q I r hp hn h => by
  refine h _ H' I.x (I.q.ofKeep I.r) _ ?_
  simp only [RelD]
  exact ⟨p, vs, rfl, ⟨⟨(I.q.rs p (by rw [I.r]; exact List.mem_cons_self ..)).2, hn⟩, hp⟩, RelDs.monoW (.ofKeep I.r) _ r⟩
section
variable {X : Cx} {W : WX}
theorem rd_lc {G : Cg} {fin : List D → S → R D} (hf : FinOk G W fin) {it : MI} {t : Tg} {tt : MT} {el : ME} {vs : List Nat} {tI : TI} (kI : ∀ σ H Rr, rdI G W it σ H Rr → tI σ H Rr) {σ : L2.St} {H : Hp} {Q : VK} (h : rdE G W (mLcF fin it t tt el vs) σ H Q) :
    tLc tI (tgL G.K t) (rdT G W0 tt) (rdE G W0 el) vs σ H Q := by
  obtain ⟨ι, s, ρ, q, e, h⟩ := h
  unfold mLcF mLc0 at h
  rw [bnd_assoc] at h
  refine kI _ _ _ ⟨ι, s, ρ, q, e, h.bnd.imp fun src ι1 H1 s1 ⟨e1, q1, h1⟩ J hJ p hp => ?_⟩
  split at h1
  · rename_i xs hx
    split at h1
    · rename_i hl
      have ew : EnvR G (ι1.keep p) (upd H1 p (.lst [])) (L2.wipe σ vs) (wipeD ρ vs) := ((e.mono e1).wipe vs).monoW (Ext.toKeep q1 hp)
      have npr : p ∉ ι1.res := (q1.off hp).2
      refine ⟨fun i m H' => ∃ ι' s' acc av, LcI G ι1 H1 p ι' H' s' ∧ EnvR G ι' H' (L2.wipe σ vs) (wipeD ρ vs) ∧ RelDs G ι' H' acc av ∧ H' p = some (.lst av) ∧ acc.length ≤ i ∧ i + m ≤ LIM ∧
        Post G W ι1 H1 (QE G Q) ((mLcGo src t tt el (wipeD ρ vs) m i acc s').bnd fin),
        ⟨xs.length, ι1.keep p, s1, [], [], .start q1 hp, ew, .nil, upd_same, Nat.le_refl _, by rw [Nat.zero_add]; exact hl.1, h1⟩, fun i m H' hW => ?_⟩
      obtain ⟨ι', s', acc, av, I, e', ra, hpa, hle, hlim, h'⟩ := hW
      cases m with
      | zero =>
        simp only [mLcGo] at h'
        split at h'
        · rename_i ys hy
          split at h'
          · rename_i hyl
            exact .inl ⟨(hJ ι' H' s' ys I.w I.q hy i).2 (Nat.le_of_eq hyl), hf ι1 H1 p ι' H' s' acc av Q I ra hpa npr h'⟩
          · exact h'.elim
        · exact h'.elim
      | succ m =>
        simp only [mLcGo] at h'
        split at h'
        · rename_i ys hy
          split at h'
          · rename_i d hd
            split at h'
            · rename_i ρ1 hρ
              rw [bnd_assoc] at h'
              obtain ⟨k, s2, hk, h2⟩ := noX_bnd h'
              obtain ⟨go, yl⟩ := (hJ ι' H' s' ys I.w I.q hy i).1 d hd
              refine .inr ⟨go, fun H2 => ∃ ι' s' acc av, LcI G ι1 H1 p ι' H2 s' ∧ EnvR G ι' H2 (L2.wipe σ vs) (wipeD ρ vs) ∧ RelDs G ι' H2 acc av ∧ H2 p = some (.lst av) ∧ acc.length ≤ i + 1 ∧ (i + 1) + m ≤ LIM ∧
                Post G W ι1 H1 (QE G Q) ((mLcGo src t tt el (wipeD ρ vs) m (i + 1) acc s').bnd fin), fun H2 n2 => ⟨m, Nat.lt_succ_self m, n2⟩, fun x H2 hy2 => ?_⟩
              obtain ⟨y1, y2, y3⟩ := yl x H2 hy2
              have I2 : LcI G ι1 H1 p ι' H2 s' := I.step y1 (I.q.ext y1 y2)
              have np : p ∉ ι'.ad := (I.q.rs p (by rw [I.r]; exact List.mem_cons_self ..)).2
              have hp2 : H2 p = some (.lst av) := y1.keep p _ np rfl hpa
              refine tgL_ok (vs := vs) (e'.mono y1) y3 hρ hl.2 fun σ3 e3 w3 => ⟨by rw [w3, wipe_wipe], ι', s', ρ1, I2.q, e3, ?_⟩
              rw [hk]
              intro ι3 H3 x3 q3
              have I3 := I2.step x3 q3
              have hp3 : H3 p = some (.lst av) := x3.keep p _ np rfl hp2
              cases k with
              | false =>
                rw [if_neg Bool.false_ne_true] at h2
                refine L2.iteF ?_
                exact ⟨ι3, s2, acc, av, I3, (e'.mono y1).mono x3, (ra.mono y1).mono x3, hp3, by omega, by omega, h2⟩
              | true =>
                rw [if_pos rfl] at h2
                refine L2.iteT ?_
                rw [bnd_assoc] at h2
                obtain ⟨y, s4, hy4, h4⟩ := noX_bnd h2
                refine ⟨ι3, s2, ρ1, q3, e3.mono x3, ?_⟩
                rw [hy4]
                intro ι4 H4 x4 q4 v rv
                have I4 := I3.step x4 q4
                have np3 : p ∉ ι3.ad := (I3.q.rs p (by rw [I3.r]; exact List.mem_cons_self ..)).2
                have hp4 : H4 p = some (.lst av) := x4.keep p _ np3 rfl hp3
                have ra4 := ((ra.mono y1).mono x3).mono x4
                refine ⟨av, hp4, by rw [ra4.len]; exact lt_LIM (by omega), ?_⟩
                have hm4 : p ∈ ι4.res := by rw [I4.r]; exact List.mem_cons_self ..
                refine ⟨ι4, s4, acc ++ [y], av ++ [v], I4.write hp, (((e'.mono y1).mono x3).mono x4).monoW (.inKeep hm4 (I4.q.rsn hm4)), ?_, upd_same, by simp; omega, by omega, h4⟩
                exact RelDs.monoW (.inKeep hm4 (I4.q.rsn hm4)) _ (ra4.app (.one rv))
            · exact h'.elim
          · exact h'.elim
        · exact h'.elim
    · exact h1.elim
  · exact h1.elim
/-- a comprehension's block -/
theorem ve_lcF {fin : List D → S → R D} (hf : FinOk (cg X) W fin) {elt tg iter : Expr} {ifs : List Expr} {scope : Scope} {own : List (Str × Nat)} {pos : Pos} {it : MI} {t : Tg} {tt : MT} {el : ME} (hN : X.N.Nodup) (hi : VI X W tg iter it)
    (ok : BlkOk X.N X.env.scope scope own) (hg : ∀ (s : Shared) (H : Hp) (C : Addr) (cl : List (Str × Addr)) (fp : List Addr), PG (X.blk s H scope (compEnvC scope cl C X.env) fp) tg (tgL X.K t))
    (ht : ∀ (s : Shared) (H : Hp) (C : Addr) (cl : List (Str × Addr)) (fp : List Addr), PTs (X.blk s H scope (compEnvC scope cl C X.env) fp) ifs (rdT (cg X) W0 tt))
    (he : ∀ (s : Shared) (H : Hp) (C : Addr) (cl : List (Str × Addr)) (fp : List Addr), PE (X.blk s H scope (compEnvC scope cl C X.env) fp) elt (rdE (cg X) W0 el)) (hc : X.calm = true := by rfl) (hs : ∀ x, foldedSetIterable iter X.env x = pure x := by intro _; rfl) :
    VE X W (.ListComp elt [⟨tg, iter, ifs, 0⟩] scope pos) (mLcF fin it t tt el (own.map (·.2))) :=
  pe_imp (pe_lc hc hN hi ok hg ht he hs) fun _ _ _ h => rd_lc hf (fun _ _ _ h => h) h
theorem vs_setLcF {fin : List D → S → R D} (hf : FinOk (cg X) W fin) {i : Nat} {y : Str} {py : Pos} {elt tg iter : Expr} {ifs : List Expr} {scope : Scope} {own : List (Str × Nat)} {pos spos : Pos} {it : MI} {t : Tg} {tt : MT} {el : ME} (hN : X.N.Nodup) (hi : VI X W tg iter it)
    (ok : BlkOk X.N X.env.scope scope own) (hg : ∀ (s : Shared) (H : Hp) (C : Addr) (cl : List (Str × Addr)) (fp : List Addr), PG (X.blk s H scope (compEnvC scope cl C X.env) fp) tg (tgL X.K t))
    (ht : ∀ (s : Shared) (H : Hp) (C : Addr) (cl : List (Str × Addr)) (fp : List Addr), PTs (X.blk s H scope (compEnvC scope cl C X.env) fp) ifs (rdT (cg X) W0 tt))
    (he : ∀ (s : Shared) (H : Hp) (C : Addr) (cl : List (Str × Addr)) (fp : List Addr), PE (X.blk s H scope (compEnvC scope cl C X.env) fp) elt (rdE (cg X) W0 el))
    (hsw : swapsWith (.ListComp elt [⟨tg, iter, ifs, 0⟩] scope pos) (some (.Name y py)) spos.line X.env = pure true)
    (hy : X.N[i]? = some y := by rfl) (hyl : X.env.scope.names.lookup y = some .local := by rfl) (hc : X.calm = true := by rfl) (hs : ∀ x, foldedSetIterable iter X.env x = pure x := by intro _; rfl) :
    VS X W (.Assign [.Name y py] (.ListComp elt [⟨tg, iter, ifs, 0⟩] scope pos) spos) (mAsg (mLcF fin it t tt el (own.map (·.2))) (gN i)) :=
  ps_imp (ps_setLc hc hN hy hyl hsw hi ok hg ht he hs) fun Dn σ H h => by
    obtain ⟨ι, s, ρ, q, e, h⟩ := h
    refine rd_lc hf (fun _ _ _ h => h) (Q := fun x H1 => gName i x σ H1 Dn.nx) (rdE_on q e h fun d v ι1 H1 s1 e1 q1 r1 h1 => ?_)
    exact h1.here q1 _ ((e.mono e1).set r1)
end
end VL
namespace VL
open PySem PySem.Spec PyProof.Rows L2

/-! ### defs: what they promise, where no repr runs around -/
structure RoomG (k : Nat) (A : Around) : Prop where
  r : Room k A
  g : A.guards = some []
theorem RoomG.mono {j k : Nat} {A : Around} (r : RoomG k A) (h : j ≤ k) : RoomG j A := ⟨r.r.mono h, r.g⟩
structure FnG (P : Program) (w : World) (K : PySem.W.Frag) (mg : Str → Option Value) (base : Heap) (k : Nat) (f : Addr) (fd : FuncData) (ps : List Str) (sp : Sp) : Prop where
  len : ∀ vs H Q E, sp vs H Q E → vs.length = ps.length
  run : ∀ (A : Around) (outer : List Env) (st : Shared) (H : Hp) (args : Args) (us : List Value) (vs : List V) (Q : VK) (E : XK), RoomG k A → Env0 P w K mg base A outer st H → BindsTo st fd args (ps.zip us) → Vals vs us → sp vs H Q E →
    codeAny (model P w) A (.call (.ref f) args) (CR (L2.CX P w) outer P w H st Q E) st
def WD (E : XK) : WX := fun c d _ H => E c d H
abbrev FM := List D → S → R D
def spG (G : Cg) (n : Nat) (m : FM) : Sp := fun vs H Q E => ∃ ι s ds, vs.length = n ∧ Sim G ι H s ∧ RelDs G ι H ds vs ∧ Post G (WD E) ι H (QE G Q) (m ds s)
/-- a def's body as a function -/
def initE (N : Nat) (ds : List D) : Ev := ds.map some ++ List.replicate (N - ds.length) none
def mFn (N : Nat) (body : MS) : FM := fun ds s => match body (initE N ds) s with
  | .ok (.nx _) s1 => .ok .non s1
  | .ok (.ret d) s1 => .ok d s1
  | .ok _ _ => .bad
  | .exn c fs _ s1 => .exn c fs [] s1
  | .bad => .bad
theorem start_get {N : List Str} {vs : List V} {i : Nat} {v : V} (h : vs[i]? = some v) : (L2.start N vs)[i]? = some (some v) := by
  unfold L2.start
  have hl := (List.getElem?_eq_some_iff.mp h).1
  rw [List.getElem?_append_left (by simpa using hl), List.getElem?_map, h]; rfl
theorem envR_start {G : Cg} {ι H} {N : List Str} {ds : List D} {vs : List V} (r : RelDs G ι H ds vs) : EnvR G ι H (L2.start N vs) (initE N.length ds) := by
  refine ⟨by simp [L2.start, initE, r.len], fun i d h => ?_⟩
  unfold initE at h
  by_cases hi : i < ds.length
  · rw [List.getElem?_append_left (by simpa using hi), List.getElem?_map] at h
    cases hd : ds[i]? with
    | none => rw [hd] at h; cases h
    | some e =>
      rw [hd] at h
      cases h
      obtain ⟨v, h1, h2⟩ := r.get hd
      exact ⟨v, start_get h1, h2⟩
  · rw [List.getElem?_append_right (by simpa using hi), List.getElem?_replicate] at h
    split at h <;> cases h
section
variable {P : Program} {w : World} {K : PySem.W.Frag} {mg : Str → Option Value} {base : Heap}
theorem fnG {x qual : Str} {params : Arguments} {body : List Stmt} {scope : Scope} {f : Addr} {fd : FuncData} {N ps : List Str} {k : Nat} {b : MS} (F : FunD K x qual params body scope [] [] f fd) (C : FnScope N ps scope)
    (hbody : ∀ (cdv : Value) (A : Around) (outer : List Env) (st : Shared) (H : Hp) (E : XK), RoomG k (A.deeper (envOfC qual scope st.heap.objs.size f cdv)) →
      PassesOwn (model P w) (A.deeper (envOfC qual scope st.heap.objs.size f cdv)) (envOfC qual scope st.heap.objs.size f cdv) (cxOf (L2.CX P w) P w K mg base N qual scope f cdv A outer st H E).xe →
      Takes (cxOf (L2.CX P w) P w K mg base N qual scope f cdv A outer st H E) (WD E) → VSs (cxOf (L2.CX P w) P w K mg base N qual scope f cdv A outer st H E) (WD E) body b) : FnG P w K mg base (k + 1) f fd ps (spG ⟨K, mg⟩ ps.length (mFn N.length b)) := by
  obtain ⟨oc, od, dV, kV, doc, pm, an, cdv, ct, osl, rfl, lk, hcd, hD, hK⟩ := F.ex
  refine ⟨fun vs H Q E ⟨ι, s, ds, h, _⟩ => h, fun A outer st H args us vs Q E hr e0 hb r hsp => ?_⟩
  have hl : vs.length = ps.length := hsp.choose_spec.choose_spec.choose_spec.1
  have kh : K.In st.heap := e0.mod.kin.keeps fun b o e => (e0.bs b o e).1
  have nl : st.heap.NoLimit := e0.mod.nolimit.keeps fun b o e => (e0.bs b o e).1
  refine codeAny_call_function hr.r.depth (kh _ _ lk) rfl C.co C.gen rfl (PySem.W.codeRec_of kh hcd) (hb _ _ _ _ ?_)
  refine wpAny_newFunctionEnv_cells C.kind (fun y hy => ?_) fun env he s1 x1 => ?_
  · obtain ⟨n, v⟩ := y
    rcases C.par n (List.of_mem_zip hy).1 with q | q
    · exact .inl q
    · exact .inr ⟨q, PySem.W.cellsFrom_some _ _ _ (.inl q)⟩
  · subst he
    refine ⟨nl.keeps x1.toInCall.keep, codeAny_func ?_⟩
    have I : Inv (cxOf (L2.CX P w) P w K mg base N qual scope f cdv A outer st H E) [] (L2.start N vs) H s1 := inv_start C hr.r.hd e0 hl r x1
    obtain ⟨ι, s, ds, _, q, rd, hp⟩ := hsp
    have hq : rdS ⟨K, mg⟩ (WD E) b { nx := fun _ H' => Q .non H', rt := Q } (L2.start N vs) H := by
      refine ⟨ι, s, initE N.length ds, q, envR_start rd, ?_⟩
      unfold mFn at hp
      cases hb : b (initE N.length ds) s with
      | ok fl s' =>
        rw [hb] at hp
        cases fl with
        | nx ρ => exact fun ι' H' e q σ _ => hp ι' H' e q .non (by simp only [RelD])
        | ret d => exact fun ι' H' e q v r => hp ι' H' e q v r
        | bk ρ => exact hp.elim
        | ct ρ => exact hp.elim
      | exn c fs ρ s' =>
        rw [hb] at hp
        exact fun ι' H' C dx σ e q hC hD _ => hp ι' H' C dx [] e q hC hD ⟨rfl, fun i d h => by simp at h⟩
      | bad => rw [hb] at hp; exact hp.elim
    have fin : ∀ {s' : Shared} {σ' : L2.St} {H' : Hp} {v : V} {u : Value}, Inv (cxOf (L2.CX P w) P w K mg base N qual scope f cdv A outer st H E) [] σ' H' s' → RelV v u → Q v H' → CE outer P w H st Q u s' :=
      fun {s' σ' H' v u} J rv q => ⟨v, H', J.os, J.bare, J.base, J.hok, rv, q⟩
    have room : RoomG k (A.deeper (envOfC qual scope st.heap.objs.size f cdv)) := ⟨hr.r.deeper _, hr.g⟩
    refine wpAny_mono ((hbody cdv A outer st H E room (passes_of (X := cxOf (L2.CX P w) P w K mg base N qual scope f cdv A outer st H E) rfl) (takes_of rfl rfl rfl rfl)).run [] s1 (L2.start N vs) H _ I hq) (fun fl s' hs => ?_) fun e s' hs => hs
    cases fl with
    | ret u => obtain ⟨v, σ', H', J, rv, q⟩ := hs; exact fin J rv q
    | next => obtain ⟨σ', H', J, q⟩ := hs; exact fin (v := V.non) (u := Value.none) J rfl q
    | brk => obtain ⟨_, _, _, q⟩ := hs; exact q.elim
    | cont => obtain ⟨_, _, _, q⟩ := hs; exact q.elim
end
/-- a def that may be called by its name -/
structure Cl (P : Program) (w : World) (K : PySem.W.Frag) (mg : Str → Option Value) (base : Heap) (k : Nat) (x : Str) (n : Nat) (m : FM) : Prop where
  ex : ∃ (f : Addr) (fd : FuncData) (ps : List Str), FnG P w K mg base k f fd ps (spG ⟨K, mg⟩ n m) ∧ mg x = some (.ref f) ∧ PySem.W.keepIn K (.ref f) = true ∧ Binds K fd ps []
/-- what it hands on to a caller -/
def retag (ρ : Ev) : R D → R D
  | .exn c fs _ s => .exn c fs ρ s
  | r => r
def mUser (m : FM) (ms : MA) : ME := fun ρ s => (ms ρ s).bnd fun ds s1 => retag ρ (m ds s1)
section
variable {X : Cx} {W : WX} {k j n : Nat} {x : Str} {p pos : Pos} {e : Expr} {es : List Expr} {ms : MA} {m : FM}
theorem runG {f : Addr} {fd : FuncData} {ps : List Str} {sp : Sp} {E : XK} {pins : List (Addr × Obj)} {σ : L2.St} {H : Hp} {st : Shared} {Q : VK} {us : List Value} {vs : List V} (F : FnG X.prog X.w X.K X.mg X.base k f fd ps sp) (hr : RoomG k X.A)
    (hb : Binds X.K fd ps []) (hx : PassesAt (L2.CX X.prog X.w) X σ E) (I : Inv X pins σ H st) (r : Vals vs us) (h : sp vs H Q E) : wpAny (model X.prog X.w) X.A (call (.ref f) us) (EP X pins σ Q) X.xe st := by
  have hl : us.length = ps.length := by rw [← r.length]; exact F.len _ _ _ _ h
  have hbt := hb st us I.kIn (by rw [List.append_nil]; exact hl)
  rw [List.append_nil] at hbt
  refine wpAny_call (codeAny_mono (F.run X.A X.stack st H ⟨us, []⟩ us vs Q E hr I.env0 hbt r h) fun rr s' hq => ?_)
  cases rr with
  | error e => exact hx pins H st e s' I hq
  | ok fl => cases fl with
    | ret u => exact I.after hq
    | next => exact hq.elim
    | brk => exact hq.elim
    | cont => exact hq.elim
/-- the promise from a caller's result -/
theorem spG_of {G : Cg} {ι H s ds vs Q σ ρ} (hn : vs.length = n) (q : Sim G ι H s) (r : RelDs G ι H ds vs) (e : EnvR G ι H σ ρ) (h : Post G W ι H (QE G Q) (retag ρ (m ds s))) : spG G n m vs H Q (WE W σ) := by
  refine ⟨ι, s, ds, hn, q, r, ?_⟩
  cases hm : m ds s with
  | ok d s1 => rw [hm] at h; exact h
  | bad => rw [hm] at h; exact h
  | exn c fs ρ' s1 =>
    rw [hm] at h
    exact fun ι' H' C dx σ' x' q' hC hD _ => h ι' H' C dx σ x' q' hC hD (e.mono x')
theorem ve_user (c : Cl X.prog X.w X.K X.mg X.base k x n m) (tk : Takes X W) (hr : RoomG j X.A) (hk : k ≤ j) (hg : Gl X x) (ha : VA X W (e :: es) ms) (hlen : ∀ ρ s ds s', ms ρ s = .ok ds s' → ds.length = n) (hdb : (x == ("__debug__" : Str)) = false := by decide)
    (he : starEach (e :: es) X.env = (false, eval e X.env) :: starEach es X.env := by rfl) (hpl : (backTo pos (starEach es X.env)).any (·.1) = false := by rfl) : VE X W (.Call (.Name x p) (e :: es) [] pos) (mUser m ms) := by
  obtain ⟨f, fd, ps, F, gf, kp, bd⟩ := c.ex
  refine ⟨fun pins st σ H Q I h => ?_⟩
  obtain ⟨ι, s, ρ, q, en, h⟩ := h
  refine wpAny_Call_Name_kw (ld_glob I hg gf ?_ hdb)
  have hA : rdA (cg X) W ms σ H fun vs H1 => spG (cg X) n m vs H1 Q (WE W σ) := by
    refine ⟨ι, s, ρ, q, en, ?_⟩
    have h2 := Post.bnd h
    cases hm : ms ρ s with
    | bad => rw [hm] at h2; exact h2
    | exn c fs ρ' s1 => rw [hm] at h2; exact h2
    | ok ds s1 =>
      rw [hm] at h2
      intro ι1 H1 e1 q1 vs r1
      obtain ⟨_, _, h3⟩ := h2 ι1 H1 e1 q1
      exact spG_of (by rw [r1.len]; exact hlen ρ s ds s1 hm) q1 r1 (en.mono e1) h3
  refine PySem.W.callWith_K (h₀ := X.base) I.ok.mod.kin kp (thn (ha.run pos pins st σ H _ I hA) fun us s1 ⟨vs, H1, I1, r, q1⟩ => ⟨I1.kIn, ?_⟩) he hpl
  exact runG F (hr.mono hk) bd (passAt tk σ) I1 r q1
theorem len_nil {ρ s ds s'} (h : mNil ρ s = .ok ds s') : ds.length = 0 := by cases h; rfl
theorem len_cons {m : ME} {ms : MA} {n : Nat} (k : ∀ ρ s ds s', ms ρ s = .ok ds s' → ds.length = n) : ∀ ρ s ds s', mCons m ms ρ s = .ok ds s' → ds.length = n + 1 := by
  intro ρ s ds s' h
  unfold mCons at h
  cases h1 : m ρ s with
  | ok d s1 =>
    rw [h1] at h
    simp only [R.bnd_ok] at h
    cases h2 : ms ρ s1 with
    | ok es s2 => rw [h2] at h; cases h; simp [k _ _ _ _ h2]
    | exn c fs ρ' s2 => rw [h2] at h; cases h
    | bad => rw [h2] at h; cases h
  | exn c fs ρ' s2 => rw [h1] at h; cases h
  | bad => rw [h1] at h; cases h
/-- where nothing is let out (a comprehension's block) -/
theorem takes_W0 {X : Cx} : Takes X W0 := fun u s' h => by
  obtain ⟨_, _, _, _, _, _, _, _, _, _, _, _, _, _, _, _, z⟩ := h
  exact z.elim
end
end VL
namespace VL
open PySem PySem.Spec PyProof.Rows L2

/-! ### built-ins -/
def fLen : FA := fun xs s => match xs with
  | [.tup ds] => .ok (.int (ds.length : Nat)) s
  | [.tupF ds] => .ok (.int (ds.length : Nat)) s
  | [.str z] => if z.length ≤ LIM then .ok (.int (z.length : Nat)) s else .bad
  | [x] => (match asL s x with
    | some ds => .ok (.int (ds.length : Nat)) s
    | none => .bad)
  | _ => .bad
def fMax2 : FA := fun xs s => match xs with
  | [.int i, .int j] => .ok (.int (if j > i then j else i)) s
  | _ => .bad
def fMin2 : FA := fun xs s => match xs with
  | [.int i, .int j] => .ok (.int (if j < i then j else i)) s
  | _ => .bad
def toI : List D → Option (List Int)
  | [] => some []
  | .int i :: ds => (toI ds).map (i :: ·)
  | _ => none
def toB : List D → Option (List Bool)
  | [] => some []
  | .bl i :: ds => (toB ds).map (i :: ·)
  | _ => none
def fSum : FA := fun xs s => match xs with
  | [x] => (match (asL s x).bind toI with
    | some ns => .ok (.int ns.sum) s
    | none => .bad)
  | _ => .bad
def fAll : FA := fun xs s => match xs with
  | [x] => (match (asL s x).bind toB with
    | some bs => .ok (.bl (bs.all id)) s
    | none => .bad)
  | _ => .bad
def fAny : FA := fun xs s => match xs with
  | [x] => (match (asL s x).bind toB with
    | some bs => .ok (.bl (bs.any id)) s
    | none => .bad)
  | _ => .bad
def fTuple : FA := fun xs s => match xs with
  | [.tup ds] => .ok (.tup ds) s
  | [x] => (match asL s x with
    | some ds => .ok (.tup ds) s
    | none => .bad)
  | _ => .bad
def fList : FA := fun xs s => match xs with
  | [.tup ds] => .ok (.lst ds) s
  | [x] => (match asL s x with
    | some ds => .ok (.lst ds) s
    | none => .bad)
  | _ => .bad
def fListO : FA := fun xs s => match xs with
  | [.tup ds] => .ok (.obj s.length) (s ++ [.lst ds])
  | [x] => (match asL s x with
    | some ds => .ok (.obj s.length) (s ++ [.lst ds])
    | none => .bad)
  | _ => .bad
def isort (ns : List Int) : List Int := ns.mergeSort (fun a b => decide (a ≤ b))
def fSorted : FA := fun xs s => match xs with
  | [x] => (match (asL s x).bind toI with
    | some ns => .ok (.lst ((isort ns).map .int)) s
    | none => .bad)
  | _ => .bad
def fRepr : FA := fun xs s => match xs with
  | [x] => (match toPyS s x with
    | some p => if p.showable = true ∧ p.shown.length ≤ sizeLine ∧ p.hasDict = false ∧ p.depth ≤ 60 then .ok (.str p.shown) s else .bad
    | none => .bad)
  | _ => .bad
/-! isinstance: the type's name of plain data -/
def tyOf (s : S) : D → Option String
  | .non => some "NoneType"
  | .bl _ => some "bool"
  | .int _ => some "int"
  | .str _ => some "str"
  | .tup _ => some "tuple"
  | .tupF _ => some "tuple"
  | .lst _ => some "list"
  | .obj n => (match s[n]? with
    | some (.lst _) => some "list"
    | some (.dct _) => some "dict"
    | some (.dctT _) => some "dict"
    | _ => none)
  | _ => none
def isT (T t : String) : Bool := t == T || (t == "bool" && T == "int")
def fIsi : FA := fun xs s => match xs with
  | [x, .ty T] => if T = "int" ∨ T = "bool" ∨ T = "tuple" ∨ T = "str" then (match tyOf s x with
    | some t => .ok (.bl (isT T t)) s
    | none => .bad) else .bad
  | _ => .bad
section
variable {G : Cg} {W : WX} {X : Cx} {ι : Z} {H : Hp}
theorem rel1 {x : D} {vs : List V} (r : RelDs G ι H [x] vs) : ∃ v, vs = [v] ∧ RelD G ι H x v := by
  simp only [RelDs] at r
  obtain ⟨v, _, rfl, r1, rfl⟩ := r
  exact ⟨v, rfl, r1⟩
theorem rel2 {x y : D} {vs : List V} (r : RelDs G ι H [x, y] vs) : ∃ v u, vs = [v, u] ∧ RelD G ι H x v ∧ RelD G ι H y u := by
  simp only [RelDs] at r
  obtain ⟨v, _, rfl, r1, u, _, rfl, r2, rfl⟩ := r
  exact ⟨v, u, rfl, r1, r2⟩
theorem relTup {ds : List D} {v : V} (r : RelD G ι H (.tup ds) v) : ∃ a xs, v = .ref a ∧ SqT G.K H a xs ∧ RelDs G ι H ds xs := by
  simp only [RelD] at r
  obtain ⟨a, xs, h1, h2, h3⟩ := r
  exact ⟨a, xs, h1, h2.sq, h3⟩
abbrev rLenA (K : PySem.W.Frag) : List V → Hp → VK → Prop := fun xs H Q => (∃ p ys, xs = [.ref p] ∧ (SqL K H p ys ∨ SqT K H p ys) ∧ Q (.int ys.length) H) ∨ (∃ z, xs = [.str z] ∧ z.length ≤ sizeLine ∧ Q (.int z.length) H)
theorem c_len : CallR X (.builtin "len") (rLenA X.K) := call_len_seq.or call_len_str
theorem v_len : CallV G W (rLenA G.K) fLen := fun ι H s xs vs Q q r h => by
  unfold fLen at h
  split at h
  · rename_i ds
    obtain ⟨v, rfl, r1⟩ := rel1 r
    obtain ⟨a, ys, rfl, t, k⟩ := relTup r1
    exact .inl ⟨a, ys, rfl, .inr t, by rw [k.len]; exact h.val q (ri _)⟩
  · rename_i ds
    obtain ⟨v, rfl, r1⟩ := rel1 r
    simp only [RelD] at r1
    obtain ⟨a, ys, rfl, t, k⟩ := r1
    exact .inl ⟨a, ys, rfl, .inr t.sq, by rw [k.len]; exact h.val q (ri _)⟩
  · rename_i z
    split at h
    · rename_i hl
      obtain ⟨v, rfl, r1⟩ := rel1 r
      exact .inr ⟨z, by rw [relS r1], le_LIM hl, h.val q (ri _)⟩
    · exact h.elim
  · rename_i x _ _ _
    split at h
    · rename_i ds hd
      obtain ⟨v, rfl, r1⟩ := rel1 r
      obtain ⟨a, ys, rfl, t, k⟩ := asL_at q r1 hd
      exact .inl ⟨a, ys, rfl, .inl t, by rw [k.len]; exact h.val q (ri _)⟩
    · exact h.elim
  · exact h.elim
theorem v_max2 : CallV G W (fun xs H Q => ∃ i j, xs = [.int i, .int j] ∧ Q (.int (if j > i then j else i)) H) fMax2 := fun ι H s xs vs Q q r h => by
  unfold fMax2 at h
  split at h
  · rename_i i j
    obtain ⟨v, u, rfl, r1, r2⟩ := rel2 r
    exact ⟨i, j, by rw [relI r1, relI r2], h.val q (ri _)⟩
  · exact h.elim
theorem v_min2 : CallV G W (fun xs H Q => ∃ i j, xs = [.int i, .int j] ∧ Q (.int (if j < i then j else i)) H) fMin2 := fun ι H s xs vs Q q r h => by
  unfold fMin2 at h
  split at h
  · rename_i i j
    obtain ⟨v, u, rfl, r1, r2⟩ := rel2 r
    exact ⟨i, j, by rw [relI r1, relI r2], h.val q (ri _)⟩
  · exact h.elim
theorem toI_rel : ∀ {ds : List D} {ns : List Int} {vs : List V}, toI ds = some ns → RelDs G ι H ds vs → vs = ns.map V.int
  | [], ns, vs, h, r => by simp only [toI, Option.some.injEq] at h; subst h; simp only [RelDs] at r; exact r
  | d :: ds, ns, vs, h, r => by
    cases d with
    | int i =>
      simp only [toI] at h
      obtain ⟨ms, h1, rfl⟩ := Option.map_eq_some_iff.mp h
      simp only [RelDs] at r
      obtain ⟨v, ws, rfl, r1, r2⟩ := r
      rw [relI r1, toI_rel h1 r2]; rfl
    | _ => simp [toI] at h
theorem toB_rel : ∀ {ds : List D} {ns : List Bool} {vs : List V}, toB ds = some ns → RelDs G ι H ds vs → vs = ns.map V.bl
  | [], ns, vs, h, r => by simp only [toB, Option.some.injEq] at h; subst h; simp only [RelDs] at r; exact r
  | d :: ds, ns, vs, h, r => by
    cases d with
    | bl i =>
      simp only [toB] at h
      obtain ⟨ms, h1, rfl⟩ := Option.map_eq_some_iff.mp h
      simp only [RelDs] at r
      obtain ⟨v, ws, rfl, r1, r2⟩ := r
      rw [relB r1, toB_rel h1 r2]; rfl
    | _ => simp [toB] at h
theorem seqI {s : S} {x : D} {v : V} {ns : List Int} (q : Sim G ι H s) (r : RelD G ι H x v) (h : (asL s x).bind toI = some ns) : ∃ a, v = .ref a ∧ SqL G.K H a (ns.map V.int) := by
  obtain ⟨ds, h1, h2⟩ := Option.bind_eq_some_iff.mp h
  obtain ⟨a, ys, rfl, t, k⟩ := asL_at q r h1
  rw [toI_rel h2 k] at t
  exact ⟨a, rfl, t⟩
theorem seqB {s : S} {x : D} {v : V} {ns : List Bool} (q : Sim G ι H s) (r : RelD G ι H x v) (h : (asL s x).bind toB = some ns) : ∃ a, v = .ref a ∧ SqL G.K H a (ns.map V.bl) := by
  obtain ⟨ds, h1, h2⟩ := Option.bind_eq_some_iff.mp h
  obtain ⟨a, ys, rfl, t, k⟩ := asL_at q r h1
  rw [toB_rel h2 k] at t
  exact ⟨a, rfl, t⟩
theorem v_sum : CallV G W (rSum G.K) fSum := fun ι H s xs vs Q q r h => by
  unfold fSum at h
  split at h
  · split at h
    · rename_i ns hn
      obtain ⟨v, rfl, r1⟩ := rel1 r
      obtain ⟨a, rfl, t⟩ := seqI q r1 hn
      exact ⟨a, ns, rfl, t, h.val q (ri _)⟩
    · exact h.elim
  · exact h.elim
theorem v_all : CallV G W (rAll G.K) fAll := fun ι H s xs vs Q q r h => by
  unfold fAll at h
  split at h
  · split at h
    · rename_i ns hn
      obtain ⟨v, rfl, r1⟩ := rel1 r
      obtain ⟨a, rfl, t⟩ := seqB q r1 hn
      exact ⟨a, ns, rfl, t, h.val q (rb _)⟩
    · exact h.elim
  · exact h.elim
theorem v_tuple : CallV G W (fun xs H Q => ∃ p ys, xs = [.ref p] ∧ ((SqL G.K H p ys ∧ ∀ l, H l = none → Q (.ref l) (upd H l (.tup ys))) ∨ (SqT G.K H p ys ∧ Q (.ref p) H))) fTuple := fun ι H s xs vs Q q r h => by
  unfold fTuple at h
  split at h
  · rename_i ds
    obtain ⟨v, rfl, r1⟩ := rel1 r
    obtain ⟨a, ys, e, t, k⟩ := relTup r1
    exact ⟨a, ys, by rw [e], .inr ⟨t, by rw [← e]; exact h.val q r1⟩⟩
  · split at h
    · rename_i ds hd
      obtain ⟨v, rfl, r1⟩ := rel1 r
      obtain ⟨a, ys, rfl, t, k⟩ := asL_at q r1 hd
      exact ⟨a, ys, rfl, .inl ⟨t, fun p hp => h.newT q k hp⟩⟩
    · exact h.elim
  · exact h.elim
abbrev rListA (K : PySem.W.Frag) : List V → Hp → VK → Prop := fun xs H Q => ∃ p ys, xs = [.ref p] ∧ (SqL K H p ys ∨ SqT K H p ys) ∧ ∀ l, H l = none → Q (.ref l) (upd H l (.lst ys))
theorem isort_perm (ns : List Int) : (isort ns).Perm ns := List.mergeSort_perm ..
theorem isort_pw (ns : List Int) : (isort ns).Pairwise (· ≤ ·) := by
  have := List.pairwise_mergeSort (le := fun a b : Int => decide (a ≤ b)) (fun a b c h1 h2 => by simp at h1 h2 ⊢; omega) (fun a b => by simp; omega) ns
  exact this.imp fun h => by simpa using h
theorem isort_of {ns ms : List Int} (p : ms.Perm ns) (w : ms.Pairwise (· ≤ ·)) : ms = isort ns :=
  (p.trans (isort_perm ns).symm).eq_of_pairwise (fun a b _ _ h1 h2 => by omega) w (isort_pw ns)
theorem v_sorted : CallV G W (rSortedI G.K) fSorted := fun ι H s xs vs Q q r h => by
  unfold fSorted at h
  split at h
  · split at h
    · rename_i ns hn
      obtain ⟨v, rfl, r1⟩ := rel1 r
      obtain ⟨a, rfl, t⟩ := seqI q r1 hn
      exact ⟨a, ns, rfl, t, fun ms p pm pw hp => by rw [isort_of pm pw]; exact h.newL q RelDs.ofInts hp⟩
    · exact h.elim
  · exact h.elim
/-! repr of data -/
def rReprD (K : PySem.W.Frag) : List V → Hp → VK → Prop := fun xs H Q => ∃ x p, xs = [x] ∧ Dp K H x p ∧ p.showable = true ∧ p.shown.length ≤ sizeLine ∧ p.hasDict = false ∧ p.depth ≤ 60 ∧ Q (.str p.shown) H
theorem c_repr (hg : X.A.guards = some []) (hu : X.A.units + 64 < cLine) : CallR X (.builtin "repr") (rReprD X.K) := by
  intro pins st σ H xs us Q I r h
  obtain ⟨x, p, rfl, hp, hs, hz, hd, hdp, k⟩ := h
  obtain ⟨u, rfl, ru⟩ := vals1 r
  obtain ⟨as, hr⟩ := Dp.reads I p x u hp ru
  have fin : ∀ (h' : Heap) (t : Tok) (tk : Nat), (∀ b o, st.heap.get? b = some o → h'.get? b = some o) → EP X pins σ Q (.str p.shown t) { st with heap := h', toks := tk } := fun h' t tk hk => ⟨.str p.shown, H, I.kept hk, ⟨t, rfl⟩, k⟩
  cases x with
  | ref a =>
    obtain rfl : u = Value.ref a := ru
    exact repr_of_reads' hr hs (fun z => by rw [hd] at z; cases z) hg (by omega) (fun _ _ e => e) (fun h' u tk hk => fin h' u tk hk) hz
  | non =>
    cases hp
    obtain rfl : u = Value.none := ru
    exact PySem.P.repr_of_none (fin st.heap _ _ fun _ _ e => e)
  | bl b =>
    cases hp
    obtain rfl : u = Value.bool b := ru
    have := fin st.heap st.toks (st.toks + 1) fun _ _ e => e
    simp only [PyData.shown] at this
    exact PySem.P.repr_of_bool this
  | int i =>
    cases hp
    obtain ⟨t, rfl⟩ := ru
    have := fin st.heap st.toks (st.toks + 1) fun _ _ e => e
    simp only [PyData.shown] at this
    exact PySem.P.repr_of_int (by simpa [PyData.showable] using hs) this
  | str z =>
    cases hp
    obtain ⟨t, rfl⟩ := ru
    have := fin st.heap st.toks (st.toks + 1) fun _ _ e => e
    simp only [PyData.shown] at this
    exact PySem.P.repr_of_str this (by simpa only [PyData.shown] using hz)
  | _ => cases hp
theorem v_repr : CallV G W (rReprD G.K) fRepr := fun ι H s xs vs Q q r h => by
  unfold fRepr at h
  split at h
  · split at h
    · rename_i p hp
      split at h
      · rename_i hc
        obtain ⟨v, rfl, r1⟩ := rel1 r
        exact ⟨v, p, rfl, dp_ofS q r1 hp, hc.1, hc.2.1, hc.2.2.1, hc.2.2.2, h.val q (by simp only [RelD])⟩
      · exact h.elim
    · exact h.elim
  · exact h.elim
theorem kit_all {K : PySem.W.Frag} {T t : String} (hT : T = "int" ∨ T = "bool" ∨ T = "tuple" ∨ T = "str") (ht : t = "NoneType" ∨ t = "bool" ∨ t = "int" ∨ t = "str" ∨ t = "tuple" ∨ t = "list" ∨ t = "dict") : PySem.W.kitOne K (.type t) (.type T) = some (isT T t) := by
  rcases hT with rfl | rfl | rfl | rfl <;> rcases ht with rfl | rfl | rfl | rfl | rfl | rfl | rfl <;> exact kit_ty (by decide +kernel)
theorem v_isi : CallV G W (rIsi G.K) fIsi := fun ι H s xs vs Q q r h => by
  unfold fIsi at h
  split at h
  · rename_i x T
    split at h
    · rename_i hT
      split at h
      · rename_i t ht
        obtain ⟨v, u, rfl, r1, r2⟩ := rel2 r
        have eu : u = .ty T := by simpa only [RelD] using r2
        subst eu
        have key : (t = "NoneType" ∨ t = "bool" ∨ t = "int" ∨ t = "str" ∨ t = "tuple" ∨ t = "list" ∨ t = "dict") ∧ TyX G.K H v (.type t) := by
          cases x with
          | non => cases ht; rw [relN r1]; exact ⟨.inl rfl, .base .non⟩
          | bl b => cases ht; rw [relB r1]; exact ⟨.inr (.inl rfl), .base (.bl b)⟩
          | int b => cases ht; rw [relI r1]; exact ⟨.inr (.inr (.inl rfl)), .base (.int b)⟩
          | str b => cases ht; rw [relS r1]; exact ⟨.inr (.inr (.inr (.inl rfl))), .base (.str b)⟩
          | tup ds =>
            cases ht
            refine ⟨.inr (.inr (.inr (.inr (.inl rfl)))), ?_⟩
            simp only [RelD] at r1
            obtain ⟨a, ys, rfl, tt, k⟩ := r1
            exact .base (.tup tt.2)
          | tupF ds =>
            cases ht
            refine ⟨.inr (.inr (.inr (.inr (.inl rfl)))), ?_⟩
            simp only [RelD] at r1
            obtain ⟨a, ys, rfl, ⟨_, ob, _, tt⟩, k⟩ := r1
            exact .fTuple tt
          | lst ds =>
            cases ht
            refine ⟨.inr (.inr (.inr (.inr (.inr (.inl rfl))))), ?_⟩
            simp only [RelD] at r1
            obtain ⟨a, ys, rfl, tt, k⟩ := r1
            exact .base (.lst tt.2)
          | obj n =>
            simp only [tyOf] at ht
            split at ht
            · rename_i ds hd
              cases ht
              obtain ⟨a, g1, _, ys, g3, _⟩ := q.addr hd
              simp only [RelD] at r1
              obtain ⟨b, rfl, eb⟩ := r1
              rw [g1] at eb; cases eb
              exact ⟨.inr (.inr (.inr (.inr (.inr (.inl rfl))))), .base (.lst g3)⟩
            · rename_i ds hd
              cases ht
              obtain ⟨a, g1, _, g3⟩ := q.addr hd
              simp only [RelD] at r1
              obtain ⟨b, rfl, eb⟩ := r1
              rw [g1] at eb; cases eb
              obtain ⟨ks, g3, _⟩ := g3
              exact ⟨.inr (.inr (.inr (.inr (.inr (.inr rfl))))), .base (.dK g3)⟩
            · rename_i ds hd
              cases ht
              obtain ⟨a, g1, _, g3⟩ := q.addr hd
              simp only [RelD] at r1
              obtain ⟨b, rfl, eb⟩ := r1
              rw [g1] at eb; cases eb
              obtain ⟨ks, g3, _⟩ := g3
              exact ⟨.inr (.inr (.inr (.inr (.inr (.inr rfl))))), .base (.dT g3)⟩
            · cases ht
          | _ => simp [tyOf] at ht
        exact ⟨v, .ty T, .type t, .type T, isT T t, rfl, .ty T, key.2, kit_all hT key.1, h.val q (rb _)⟩
      · exact h.elim
    · exact h.elim
  · exact h.elim
/-! range as a list, a tuple -/
def rgOkD (j : Int) : Prop := -(2 ^ 62) ≤ j ∧ j ≤ 1000
noncomputable instance (j : Int) : Decidable (rgOkD j) := Classical.propDecidable _
noncomputable def mListRg (m : ME) : ME := fun ρ s => (m ρ s).bnd fun d s1 => match d with
  | .int j => if rgOkD j then .ok (.lst (rngD 0 j.toNat)) s1 else .bad
  | _ => .bad
noncomputable def mTupRg (m : ME) : ME := fun ρ s => (m ρ s).bnd fun d s1 => match d with
  | .int j => if rgOkD j then .ok (.tup (rngD 0 j.toNat)) s1 else .bad
  | _ => .bad
theorem rgV_rel {j : Int} : RelDs G ι H (rngD 0 j.toNat) (rgV 0 j) := by
  have : ∀ l : List Nat, RelDs G ι H (l.map fun k => D.int (0 + (k : Nat))) (l.map fun i => V.int (0 + (i : Nat))) := by
    intro l
    induction l with
    | nil => exact .nil
    | cons a l ih => exact .cons (ri _) ih
  unfold rngD rgV
  rw [show j - 0 = j by omega]
  exact this _
theorem ve_listRg {a : Expr} {m : ME} {p p2 pos pos2 : Pos} (h : VE X W a m) (hg : Gl X "list") (hm : X.mg "list" = none) (hg2 : Gl X "range") (hm2 : X.mg "range" = none) (hc : X.calm = true := by rfl)
    (na2 : starEach [a] X.env = (false, eval a X.env) :: starEach [] X.env := by rfl) (na : starEach [.Call (.Name "range" p2) [a] [] pos2] X.env = (false, eval (.Call (.Name "range" p2) [a] [] pos2) X.env) :: starEach [] X.env := by rfl) :
    VE X W (.Call (.Name "list" p) [.Call (.Name "range" p2) [a] [] pos2] [] pos) (mListRg m) :=
  pe_imp (pe_listRg hc hg hm (prg_1 hg2 hm2 h na2) na) fun σ H Q ⟨ι, s, ρ, q, e, h⟩ => by
    refine rdE_on q e h fun d v ι1 H1 s1 e1 q1 r1 h1 => ?_
    split at h1
    · rename_i j
      split at h1
      · rename_i hj
        exact ⟨j, relI r1, ⟨by omega, by omega, hj.1, by have := hj.2; omega, by have := hj.2; omega⟩, fun p hp => h1.newL q1 rgV_rel hp⟩
      · exact h1.elim
    · exact h1.elim
/-! methods of lists -/
def isLstO (s : S) (x : D) : Bool := match x with
  | .obj n => (match s[n]? with
    | some (.lst _) => true
    | _ => false)
  | _ => false
def fAppend (x : D) (y : D) (s : S) : R D := match x with
  | .obj n => (match s[n]? with
    | some (.lst ds) => if ds.length < LIM then .ok .non (s.set n (.lst (ds ++ [y]))) else .bad
    | _ => .bad)
  | _ => .bad
def mAppend (mo me : ME) : ME := fun ρ s => (mo ρ s).bnd fun x s1 => if isLstO s1 x = true then (me ρ s1).bnd fun y s2 => fAppend x y s2 else .bad
theorem ve_append {o e : Expr} {mo me : ME} {apos cpos : Pos} (ho : VE X W o mo) (he : VE X W e me)
    (hbase : attributeBase o "append" X.env (eval o X.env) = eval o X.env := by rfl)
    (hfew : ((backTo cpos (starEach [e] X.env)).all (fun x => !x.1) && (backToKw cpos (keywordEach [] X.env)).all (fun x => x.1.isSome)
      && decide ([e].length + ([] : List Keyword).length + (if ([] : List Keyword).isEmpty then 0 else 1) < 30)) = true := by rfl)
    (hline : (apos.endLine == cpos.line) = true := by rfl) (hs : starEach [e] X.env = (false, eval e X.env) :: starEach [] X.env := by rfl) (hplain : (backTo cpos (starEach [] X.env)).any (·.1) = false := by rfl) :
    VE X W (.Call (.Attribute o "append" apos) [e] [] cpos) (mAppend mo me) :=
  pe_imp (pe_bm PySem.F.plainAttrs_list PySem.F.slot_list_append PySem.F.type_list_append mt_append ho (pa_cons he pa_nil hs) hbase hfew hline hs hplain) fun σ H Q ⟨ι, s, ρ, q, e, h⟩ => by
    refine rdE_on q e h fun x v ι1 H1 s1 e1 q1 r1 h1 => ?_
    split at h1
    · rename_i hi
      cases x with
      | obj n =>
        simp only [isLstO] at hi
        split at hi
        · rename_i ds hd
          obtain ⟨a, g1, g2, ys, g3, _⟩ := q1.addr hd
          have r1' := r1
          simp only [RelD] at r1
          obtain ⟨b, rfl, eb⟩ := r1
          rw [g1] at eb; cases eb
          refine ⟨.inl ⟨rfl, ys, .inl (.inl g3)⟩, rdE_on q1 (e.mono e1) h1 fun y w ι2 H2 s2 e2 q2 r2 h2 => ?_⟩
          unfold fAppend at h2
          simp only at h2
          split at h2
          · rename_i es he
            split at h2
            · rename_i hl
              obtain ⟨a', k1, k2, zs, k3, k4⟩ := q2.addr he
              rw [e2.get g1] at k1; cases k1
              refine ⟨a, zs, w, rfl, rfl, k3, by rw [k4.len]; exact lt_LIM hl, ?_⟩
              refine h2 ι2 _ (.write k2 (nfix k3 rfl)) (q2.write (e2.get g1) (nfix k3 rfl) ⟨_, upd_same, ?_⟩) .non (by simp only [RelD])
              exact (k4.app (.one r2)).mono (.write k2 (nfix k3 rfl))
            · exact h2.elim
          · exact h2.elim
        · cases hi
      | _ => simp [isLstO] at hi
    · exact h1.elim
end
end VL
namespace VL
open PySem PySem.Spec PyProof.Rows L2

/-- the law's call at the heap behind the top -/
theorem law_callG {P : Program} {w : World} {K : PySem.W.Frag} {mg mb : Str → Option Value} {k : Nat} {fa a : Addr} {fd : FuncData} {x : Str} {m : FM} {s1 : Shared} {us : List Value} {ns : List Int}
    (kin : K.In s1.heap) (hns : s1.heap.Ns mainGlobals mg) (hb : s1.heap.Ns builtinsNs mb) (hbb : ∀ x : Str, x ≠ "__name__" → mb x = bootBuiltins x) (nl : s1.heap.NoLimit) (hg : s1.gens = #[])
    (ha : s1.heap.get? a = some { cls := .type "list", data := .seq us.toArray }) (hi : IntsAre us ns) (hl : ns.length ≤ sizeLine) (hr : RoomG k callerA)
    (F : ∀ base : Heap, K.In base → base.Ns mainGlobals mg → FnG P w K mg base k fa fd [x] (spG ⟨K, mg⟩ 1 m)) (hbind : ∀ (st : Shared) (u : Value), BindsTo st fd ⟨[u], []⟩ [(x, u)])
    (hm : ∃ s', m [.scr (ns.map D.int)] [] = .ok (.bl true) s') :
    codeAny (model P w) callerA (.call (.ref fa) ⟨[.ref a], []⟩) (fun r s' => r = .ok (.ret (.bool true)) ∧ OldK s1.heap s'.heap ∧ s'.os = s1.os ∧ AllBare s'.gens) s1 := by
  have rv : Vals (ns.map V.int) us := vals_ints hi
  have lu := hi.length
  have core : ∀ H : Hp, (∀ b u, H b = some u → b = a ∧ K.lookup a = none ∧ u = .frz { cls := .type "list", data := .seq us.toArray } (.lst (ns.map V.int))) → ScrAt ⟨K, mg⟩ ⟨[], []⟩ H a (ns.map V.int) → HOk P w H s1.heap →
      codeAny (model P w) callerA (.call (.ref fa) ⟨[.ref a], []⟩) (fun r s' => r = .ok (.ret (.bool true)) ∧ OldK s1.heap s'.heap ∧ s'.os = s1.os ∧ AllBare s'.gens) s1 := by
    intro H only hS hok
    have hid : ∀ {b : Addr} {o : Obj}, s1.heap.get? b = some o → H b = none → (hidT s1.heap H).get? b = some o := fun e n => hidT_get e n
    have isd : ∀ {b : Addr} {o : Obj} {es : Array DictEntry} {ep : Nat}, s1.heap.get? b = some o → o.data = .dict es ep → H b = none := fun {b o es ep} e d => by
      cases q : H b with
      | none => rfl
      | some u =>
        obtain ⟨rfl, _, _⟩ := only b u q
        rw [ha] at e; cases e
        exact absurd d (by intro z; cases z)
    have nsk : ∀ {b : Addr} {mm : Str → Option Value}, s1.heap.Ns b mm → (hidT s1.heap H).Ns b mm := fun {b mm} ⟨o, es, ep, e, d, r⟩ => ⟨o, es, ep, hid e (isd e d), d, r⟩
    have kb : K.In (hidT s1.heap H) := fun b o e => hid (kin b o e) (by
      cases q : H b with
      | none => rfl
      | some u =>
        obtain ⟨rfl, z, _⟩ := only b u q
        rw [z] at e; cases e)
    have md : Mod K mg (hidT s1.heap H) := ⟨kb, nsk hns, ⟨mb, nsk hb, hbb⟩, let ⟨mc, h1, h2⟩ := nl; ⟨mc, nsk h1, h2⟩⟩
    have e0 : Env0 P w K mg (hidT s1.heap H) callerA [] s1 H := ⟨rfl, md, fun b o e => of_hidT e, Nat.le_of_eq (hidT_size _ _), trivial, fun b z => absurd (show b ∈ ([] : List Addr) from z) (by simp), hok, .of_eq hg⟩
    obtain ⟨s', hm⟩ := hm
    have sp : spG ⟨K, mg⟩ 1 m [.ref a] H (fun v _ => v = .bl true) (fun _ _ _ => False) := by
      refine ⟨⟨[], []⟩, [], [.scr (ns.map D.int)], rfl, ⟨rfl, List.nodup_nil, fun n o b h => by simp at h, fun b z => absurd (show b ∈ ([] : List Addr) from z) (by simp)⟩, .one (by simp only [RelD]; exact ⟨a, _, rfl, hS, RelDs.ofInts⟩), ?_⟩
      rw [hm]
      intro ι' H' e q v r
      exact relB r
    refine codeAny_mono ((F _ kb (nsk hns)).run callerA [] s1 H ⟨[.ref a], []⟩ [.ref a] [.ref a] _ _ hr e0 (hbind s1 (.ref a)) (.cons rfl .nil) sp) fun r s2 h => ?_
    cases r with
    | error e =>
      obtain ⟨_, _, _, _, _, _, _, _, _, _, _, _, z⟩ := h
      exact z.elim
    | ok fl =>
      cases fl with
      | next => exact h.elim
      | brk => exact h.elim
      | cont => exact h.elim
      | ret u =>
        obtain ⟨v, H', os, bare, un, hok', r', q⟩ := h
        have q' : v = .bl true := q
        subst q'
        obtain rfl : u = Value.bool true := r'
        refine ⟨rfl, OldK.of_keep fun b o e => ?_, os, bare⟩
        cases q : H b with
        | none => exact un.keep b o e q (by intro z; exact absurd (show b ∈ ([] : List Addr) from z) (by simp)) (by simp)
        | some u =>
          obtain ⟨rfl, _, rfl⟩ := only b u q
          have z2 := un.frzs b _ _ q
          obtain ⟨e2, _⟩ := hok' b _ z2
          rw [ha] at e; cases e
          exact e2
  cases hk : K.lookup a with
  | some o =>
    have e := kin a o hk
    rw [ha] at e
    cases e
    exact core (fun _ => none) (fun b u z => by have z' : (none : Option HO) = some u := z; cases z') (.inr (.inr ⟨_, us.toArray, _, hk, rfl, rfl, rfl, by rw [List.size_toArray, lu]; exact hl, by simpa using rv⟩)) fun b u z => by
      have z' : (none : Option HO) = some u := z; cases z'
  | none =>
    refine core (fun b => if b = a then some (.frz { cls := .type "list", data := .seq us.toArray } (.lst (ns.map V.int))) else none) (fun b u z => ?_) (.inl ⟨⟨by simp, by simp⟩, .inr ⟨_, if_pos rfl⟩⟩) (fun b u z => ?_)
    · by_cases hb : b = a
      · exact ⟨hb, hk, by have z' := (if_pos hb).symm.trans z; cases z'; rfl⟩
      · have z' := (if_neg hb).symm.trans z
        cases z'
    · by_cases hb : b = a
      · have z' := (if_pos hb).symm.trans z
        cases z'
        subst hb
        exact ⟨ha, by rw [List.length_map]; exact hl, us, _, rv, ha⟩
      · have z' := (if_neg hb).symm.trans z
        cases z'
theorem walk_ofG {l : PySem.W.OpenLaw} {n k : Nat} {q : Program} {loose : List Str} {XP : (Str → Option Value) → Heap → Prop} {YP : World → Heap → Prop} {d : DefRec} {x : Str}
    (hn : l.most = some n) (hn2 : n ≤ sizeLine) (hdf : d.params.defaults = []) (hr : RoomG k callerA)
    (F : ∀ (w : World) (mg : Str → Option Value) (fa : Addr) (h : Heap), YP w h → h.Ns mainGlobals mg → mg d.name = some (.ref fa) →
      ∃ (K : PySem.W.Frag) (fd : FuncData) (m : FM), K.In h ∧ (∀ (s : Shared) (u : Value), BindsTo s fd ⟨[u], []⟩ [(x, u)]) ∧ (∀ ns : List Int, ns.length ≤ n → ∃ s', m [.scr (ns.map D.int)] [] = .ok (.bl true) s') ∧
        ∀ base : Heap, K.In base → base.Ns mainGlobals mg → FnG l.prog w K mg base k fa fd [x] (spG ⟨K, mg⟩ 1 m)) :
    PySem.W.WalkO q loose XP YP l.row.toRowW d [] (fun f vs => PySem.call f vs) := by
  refine Att.attach_call hn hdf fun w s0 s1 mg mb fa o pm cd doc a us ns G Y ho hd hcd hmg hobj hints hlen hg => ?_
  obtain ⟨K, fd, m, KX, hb, hm, hF⟩ := F w mg fa _ Y G.T.g hmg
  exact law_callG KX G.T.g G.T.b G.T.builtins G.T.nolimit hg hobj hints (Nat.le_trans hlen hn2) hr hF hb (hm ns hlen)
end VL
namespace VL
open PySem PySem.Spec PyProof.Rows L2
section
variable {X : Cx} {W : WX} {a b c : Expr} {ma mb mc : ME} {pos : Pos}
theorem hu64 {k : Nat} {A : Around} (r : RoomG k A) : A.units + 64 < cLine := r.r.units
theorem hu65 {k : Nat} {A : Around} (r : RoomG k A) : A.units + 65 < cLine := by have := r.r.un; omega
theorem vts_nil : PTs X [] (rdT (cg X) W mYes) := ⟨fun pins s σ H Q I h => pts_nil.run pins s σ H Q I (by
  obtain ⟨ι, s, ρ, q, e, h⟩ := h
  exact h.here q)⟩
theorem vts_one {t : MT} (h : VT X W c t) : PTs X [c] (rdT (cg X) W t) := pts_one h
theorem vt_chain {op op' : CmpOp} {r r' : R2} {f g : F2} (ho : OpR X (compareOp op) r) (ho' : OpR X (compareOp op') r') (hr : OpK (cg X) W r f) (hr' : OpV (cg X) W r' g) (ha : VE X W a ma) (hb : VE X W b mb) (hc : VE X W c mc)
    (hm : lastMarks [op, op'] [b, c] = false := by with_unfolding_all rfl) : VT X W (.Compare a [op, op'] [b, c] pos) (mB (mChn f g ma mb mc)) := by
  refine pt_imp (pt_chain ho ho' ha hb hc hm) fun σ H Q h => ?_
  obtain ⟨ι, s, ρ, q, e, h⟩ := rdB h
  refine rdE_on q e h fun x v ι1 H1 s1 e1 q1 r1 h1 => rdE_on q1 (e.mono e1) h1 fun y u ι2 H2 s2 e2 q2 r2 h2 => ?_
  refine hr ι2 H2 s2 x y v u _ _ q2 (r1.mono e2) r2 h2.bnd fun z w ez rz hz => ?_
  obtain ⟨_, _, h3⟩ := hz
  cases z with
  | bl k =>
    refine ⟨k, relB rz, ?_⟩
    cases k with
    | true =>
      refine L2.iteT ?_
      exact rdE_on q2 ((e.mono e1).mono e2) h3 fun w' t ι3 H3 s3 e3 q3 r3 h4 => hr' ι3 H3 s3 y w' u t _ q3 (r2.mono e3) r3 h4
    | false =>
      refine L2.iteF ?_
      exact h3.val q2 (by simp only [RelD])
  | _ => exact h3.elim
theorem len_nilF : ∀ (ρ : Ev) (s : S) (ds : List D) (s' : S), mNil ρ s = .ok ds s' → ds.length = 0 := fun ρ s ds s' h => len_nil h
/-- the free built-in names -/
structure Bl (mg : Str → Option Value) : Prop where
  all : mg "all" = none
  any : mg "any" = none
  dict : mg "dict" = none
  enumerate : mg "enumerate" = none
  int : mg "int" = none
  bool : mg "bool" = none
  isinstance : mg "isinstance" = none
  len : mg "len" = none
  list : mg "list" = none
  max : mg "max" = none
  min : mg "min" = none
  range : mg "range" = none
  repr : mg "repr" = none
  set : mg "set" = none
  sorted : mg "sorted" = none
  str : mg "str" = none
  sum : mg "sum" = none
  tuple : mg "tuple" = none
  zip : mg "zip" = none
  ValueError : mg "ValueError" = none
/-- a def as a name that may be called -/
theorem clG {P : Program} {w : World} {K : PySem.W.Frag} {mg : Str → Option Value} {base : Heap} {k n : Nat} {x : Str} {m : FM} {f : Addr} {fd : FuncData} {ps : List Str} {params : Arguments} {body : List Stmt} {scope : Scope} (F : FunD K x x params body scope [] [] f fd) (gf : mg x = some (.ref f)) (b : Binds K fd ps [])
    (h : FnG P w K mg base k f fd ps (spG ⟨K, mg⟩ ps.length m)) (hn : ps.length = n) : Cl P w K mg base k x n m := by
  subst hn
  exact ⟨f, fd, ps, h, gf, F.kp, b⟩
end
end VL
namespace VL
open PySem PySem.Spec PyProof.Rows L2

/-! ### enumerate over a tuple: the hand layer's rule is for lists alone -/
theorem meets_enum1 {v : Value} {o : Obj} {H : Heap → Prop} (B : Begins v o H) :
    Meets (Builtin.«enumerate.__new__» ⟨[.type "enumerate", v], []⟩) (fun _ R s => H s.heap ∧
      R (.ok (.ret (.ref (s.heap.push o).objs.size))) { s with heap := (s.heap.push o).push { cls := .type "enumerate", data := .fields #[.none, .bool false, .ref s.heap.objs.size, rawInt 0, .none, .none] } }) :=
  .of_wp fun prog w A R s h => by
    obtain ⟨hp, g, d, tk, os⟩ := s; obtain ⟨h1, h⟩ := h
    have hsub := sub_enumerate
    have q1 : ∀ {A' : Around} {E : Value → Shared → Prop} {Q : Value → Shared → Prop}, Q (.ref hp.objs.size) ⟨hp.push o, g, d, tk, os⟩ → wpAny (model prog w) A' (pyIter v) Q E ⟨hp, g, d, tk, os⟩ :=
      fun q => B.iter prog w _ _ ⟨hp, g, d, tk, os⟩ _ h1 q
    wp_walk using q1
    refine wpAny_stack_any fun st => wpAny_pure ?_
    split
    · rename_i c _ _ _ _ _
      cases (c == Value.type "enumerate")
      · wp_walk using q1
        exact ⟨_, rfl, h⟩
      · wp_walk using q1
        exact ⟨_, rfl, h⟩
    · wp_walk using q1
      exact ⟨_, rfl, h⟩
section
variable {prog : Program} {w : World} {A : Around} {E : Value → Shared → Prop} {s : Shared}
theorem call_enum1 {v : Value} {o : Obj} {H : Heap → Prop} {Q : Value → Shared → Prop} (B : Begins v o H) (h1 : H s.heap)
    (h : ∀ h', IsEnum h' (s.heap.objs.size + 1) s.heap.objs.size 0 .none → h'.get? s.heap.objs.size = some o → h'.objs.size = s.heap.objs.size + 2 →
      (∀ b o, s.heap.get? b = some o → h'.get? b = some o) → Q (.ref (s.heap.objs.size + 1)) { s with heap := h' }) :
    wpAny (model prog w) A (call (.type "enumerate") [v]) Q E s := by
  refine callType_new F.called_enumerate (by decide) (F.typeCall_enumerate_1 _) (F.newCall_enumerate_1 _) (fun obj => F.args_object_init_2 obj _) F.entry_enumerate_new
    (meets_enum1 B) ⟨h1, ?_⟩
  have hz : (s.heap.push o).objs.size = s.heap.objs.size + 1 := Heap.size_push ..
  show _ ∧ _
  rw [hz]
  have he : IsEnum ((s.heap.push o).push { cls := .type "enumerate", data := .fields #[.none, .bool false, .ref s.heap.objs.size, rawInt 0, .none, .none] }) (s.heap.objs.size + 1) s.heap.objs.size 0 .none := by
    have := Heap.get?_push_size (s.heap.push o) (o := { cls := .type "enumerate", data := .fields #[.none, .bool false, .ref s.heap.objs.size, rawInt 0, .none, .none] }) rfl
    rw [hz] at this; exact this
  refine ⟨⟨_, he, rfl⟩, h _ he (Heap.get?_push_of_some _ (Heap.get?_push_size _ B.free)) (by rw [Heap.size_push, hz]) fun b o x => Heap.get?_push_of_some _ (Heap.get?_push_of_some _ x)⟩
end
/-- the tuple at a, each item in a new pair -/
def IteT (K : PySem.W.Frag) (a : Addr) : It :=
  ⟨fun i H => ∃ (xs : List V) (x : V), SqT K H a xs ∧ xs[i]? = some x, fun i H v H' => ∃ T x, v = .ref T ∧ H T = none ∧ H' = upd H T (.tup [.int (i : Nat), x]) ∧ ∀ xs, SqT K H a xs → xs[i]? = some x, fun i H => ∃ xs : List V, SqT K H a xs ∧ xs.length ≤ i⟩
theorem turn_enumT {P : Program} {w : World} {K : PySem.W.Frag} {elts : List Expr} {kk : Nat} {tpos : Pos} (a e it : Addr) :
    Turn P w K (.Tuple elts kk tpos) (IteT K a) [e, it] e (fun i h => (∃ old, IsEnum h e it ((i : Nat) : Int) old) ∧ h.IsTupleIter it a i ∧ e ≠ it ∧ a ≠ it ∧ a ≠ e) where
  mem := by simp
  obj := fun i h st b hb => by
    obtain ⟨⟨old, he⟩, ⟨o, ho, hc, hd⟩, _⟩ := st
    have e' : b = e ∨ b = it := by simpa using hb
    rcases e' with z | z
    · rw [z]; exact ⟨_, he, fun v q => nomatch q⟩
    · rw [z]; exact ⟨o, ho, fun v q => by rw [hd] at q; cases q⟩
  keep := fun i h h' st k => let ⟨⟨old, he⟩, hi, hne⟩ := st; ⟨⟨old, k e (by simp) _ he⟩, hi.at fun o q => k it (by simp) o q, hne⟩
  item := by
    intro X hP hw hK hc i pins s σ H E I hf st hg
    subst hP hw hK
    obtain ⟨⟨old, he⟩, hit, hne, hai, hae⟩ := st
    obtain ⟨xs, x, hq, hx⟩ := hg
    obtain ⟨its, rv, p, hz⟩ := I.tuple hq
    obtain ⟨u, hu, ru⟩ := rv.get hx
    have hel : e < s.heap.objs.size := Heap.lt_size he
    have hil : it < s.heap.objs.size := by obtain ⟨_, q, _⟩ := hit; exact Heap.lt_size q
    have hh : X.A.in1.handled = none := I.ok.hd hc
    have D := Draws.tuple (prog := X.prog) (w := X.w) (A := X.A.in1) hh it a hai its.toArray
    have hlt : i < its.toArray.size := by
      have := (List.getElem?_eq_some_iff.mp hu).1
      simpa using this
    have hef : e ∉ [it, a] := by
      simp only [List.mem_cons, List.not_mem_nil, or_false, not_or]
      exact ⟨hne, fun z => hae z.symm⟩
    refine wpAny_pyNext_enum_itemD D he ⟨hit, p⟩ hlt hne hef fun y h' tk hy ho st' hT hsz hk => ?_
    have hyu : y = u := by
      have hu' : its.toArray[i]? = some u := by simpa using hu
      rw [hu'] at hy
      exact (Option.some.inj hy).symm
    subst hyu
    refine ⟨_, rfl, wpAny_letOwnedTupleGo_enum (s := { s with heap := h', toks := tk + 1 }) ho fun h'' he' sb => ?_⟩
    have hT2 : h''.get? s.heap.objs.size = some { cls := .type "tuple", data := .seq #[.int i tk, y] } := (sb.2 _ (Nat.ne_of_gt hel)).trans hT
    have new : ObjOk X.prog X.w (upd H s.heap.objs.size (.tup [.int (i : Nat), x])) h'' s.heap.objs.size (.tup [.int (i : Nat), x]) :=
      ⟨by show 2 ≤ sizeLine; decide, [.int i tk, y], .cons ⟨_, rfl⟩ (.cons ru .nil), ⟨_, hT2, rfl, _, rfl⟩⟩
    have I1 : Inv X pins σ (upd H s.heap.objs.size (.tup [.int (i : Nat), x])) { s with heap := h'', toks := tk + 1 } :=
      I.turnedNew (ch := [e, it]) (fun b ob hb q => (sb.2 b (fun z => hb (by simp [z]))).trans (hk b ob (fun z => hb (by simp [z])) (fun z => hb (by simp [z])) q)) hf (Nat.le_refl _) new
    refine ⟨.ref s.heap.objs.size, _, I1, rfl, ⟨_, x, rfl, I.hok.fresh (Nat.le_refl _), rfl, fun ys hy => by rw [I.tuple_inj hy hq]; exact hx⟩, ⟨⟨y, ?_⟩, st'.1.at fun o q => (sb.2 it (Ne.symm hne)).trans q, hne, hai, hae⟩, fun b hb => ?_⟩
    · have e1 : ((i + 1 : Nat) : Int) = (i : Int) + 1 := by omega
      rw [e1]; exact he'
    · have hb' : b < s.heap.objs.size := by
        have e' : b = e ∨ b = it := by simpa using hb
        rcases e' with z | z
        · rw [z]; exact hel
        · rw [z]; exact hil
      rw [upd_ne (Nat.ne_of_lt hb')]
      exact (hf b hb).1
  done := by
    intro X hP hw hK hc i pins s σ H E I hf st hg
    subst hP hw hK
    obtain ⟨⟨old, he⟩, hit, hne, hai, hae⟩ := st
    obtain ⟨xs, hq, hx⟩ := hg
    obtain ⟨its, rv, p, hz⟩ := I.tuple hq
    obtain ⟨f0, f1, f2, f3, f4, f5⟩ := hf it (by simp)
    have hl := rv.length
    have hh : X.A.in1.handled = none := I.ok.hd hc
    have hT : s.TypeIs (.ref e) "enumerate" := ⟨_, he, rfl⟩
    unfold pyNext
    refine wpAny_bind (wpAny_attempt (wpAny_callSpecial?_slot (name := Str.ofString "__next__") hT F.slot_enumerate_next
      (wpAny_call_entry F.slot_enumerate_next hT F.entry_enumerate_next ?_ (F.args_enumerate_next_1 _))))
    show wpAny _ _ (field (.ref e) 2 >>= _) _ _ _
    refine wpAny_bind (wpAny_field he rfl (x := .ref it) rfl ?_)
    refine wpAny_bind (wpAny_nextOf_tuple_end hh hit p (by simp; omega) fun h' x he' hx' => ?_)
    obtain ⟨o, ho, hc⟩ := hx'
    refine wpAny_bind (wpAny_isInstance (T := "StopIteration") (b := true) ⟨o, ho, hc⟩ isSubtype_stop ?_)
    exact wpAny_pure ⟨rfl, I.turned (t' := s.toks) (fun b o hb q => he' b o hb q) f0 f1 f3 f4 f5⟩
  self := fun A i s Q E st h => let ⟨⟨_, he⟩, _⟩ := st; wpAny_pyIter_enum he h
def iEnumT (K : PySem.W.Frag) (ta : TA) : TI := fun σ H R => ta σ H fun vs H1 => ∃ a xs, vs = [.ref a] ∧ SqT K H1 a xs ∧ R (IteT K a) H1
theorem pi_enumT {X : Cx} {e : Expr} {ta : TA} {p pos tpos : Pos} {elts : List Expr} {kk : Nat} (hg : Gl X "enumerate") (hm : X.mg "enumerate" = none) (ha : PA X [e] ta) (hs : starEach [e] X.env = [(false, eval e X.env)] := by rfl) :
    PI X (.Tuple elts kk tpos) (.Call (.Name "enumerate" p) [e] [] pos) (iEnumT X.K ta) := by
  refine ⟨fun pins s σ H R I h => ?_⟩
  refine Call_ (ld_blt I hg hm boot_enumerate (PyProof.Rows.callWith_type1 (thn (ha.run pos pins s σ H _ I h) fun us s1 ⟨vs, H1, I1, r1, q1⟩ => ?_) hs rfl))
  obtain ⟨a, xs, ex, hq, q⟩ := q1
  subst ex
  cases r1 with
  | cons r rr =>
    cases rr
    cases r
    obtain ⟨its, rv, p', hz⟩ := I1.tuple hq
    have hal : a < s1.heap.objs.size := by obtain ⟨_, z, _⟩ := id p'; exact Heap.lt_size z
    refine call_enum1 (begins_tuple a its.toArray) p' fun h' he hit hsz hk => wpAny_pyIter_enum he ?_
    have I2 : Inv X pins σ H1 { s1 with heap := h' } := I1.kept (t' := s1.toks) hk
    refine ⟨s1.heap.objs.size + 1, [s1.heap.objs.size + 1, s1.heap.objs.size], _, _, H1, rfl, I2, turn_enumT a (s1.heap.objs.size + 1) s1.heap.objs.size, ⟨⟨.none, he⟩, ⟨_, hit, rfl, rfl⟩, Nat.succ_ne_self _, Nat.ne_of_lt hal, Nat.ne_of_lt (Nat.lt_succ_of_lt hal)⟩, fun b hb => ?_, q⟩
    have e' : b = s1.heap.objs.size + 1 ∨ b = s1.heap.objs.size := by simpa using hb
    have hle : s1.heap.objs.size ≤ b := by
      rcases e' with z | z
      · rw [z]; exact Nat.le_add_right _ _
      · rw [z]; exact Nat.le_refl _
    exact I1.fpOk hle (I1.hok.fresh hle)

/-! ### .. by values -/
theorem enumD_get {xs : List D} {i : Nat} : (enumD xs)[i]? = xs[i]?.map fun d => .tup [.int (i : Nat), d] := by
  unfold enumD
  rw [List.getElem?_map, List.getElem?_zipIdx]
  cases xs[i]? <;> simp
theorem enumD_len {xs : List D} : (enumD xs).length = xs.length := by simp [enumD]
def enumF : List D → S → R Src := fun ds s1 => match ds with
  | [.tup xs] => .ok (.fix (enumD xs)) s1
  | [.lst xs] => .ok (.fix (enumD xs)) s1
  | [.scr xs] => .ok (.fix (enumD xs)) s1
  | [.obj n] => (match s1[n]? with
    | some (.lst _) => .ok (.enl n) s1
    | _ => .bad)
  | _ => .bad
def mEnum (ms : MA) : MI := fun ρ s => (ms ρ s).bnd enumF
section
variable {G : Cg} {ι : Z} {H : Hp} {xs : List D} {vs : List V} {a : Addr}
theorem itok_pair {J : It} {Sq : Hp → Prop} (hgo : ∀ ι1 H1 i v, ExtW ι H ι1 H1 → vs[i]? = some v → J.go i H1) (hstop : ∀ ι1 H1 i, ExtW ι H ι1 H1 → vs.length ≤ i → J.stop i H1)
    (hy : ∀ ι1 H1 i v H', ExtW ι H ι1 H1 → J.yld i H1 v H' → ∃ T x, v = .ref T ∧ H1 T = none ∧ H' = upd H1 T (.tup [.int (i : Nat), x]) ∧ vs[i]? = some x) (r : RelDs G ι H xs vs) : ItOk G ι H (.fix (enumD xs)) J := fun ι1 H1 s ys e q hys i => by
  simp only [srcAt, Option.some.injEq] at hys
  subst hys
  have r1 := RelDs.monoW e _ r
  refine ⟨fun d hd => ?_, fun hl => hstop ι1 H1 i e (by rw [r1.len]; rw [enumD_len] at hl; exact hl)⟩
  rw [enumD_get] at hd
  obtain ⟨d0, hd0, rfl⟩ := Option.map_eq_some_iff.1 hd
  obtain ⟨v, hv, rv⟩ := r1.get hd0
  refine ⟨hgo ι1 H1 i v e hv, fun x H' hyy => ?_⟩
  obtain ⟨T, u, rfl, hT, rfl, hu⟩ := hy ι1 H1 i x H' e hyy
  rw [hv] at hu; cases hu
  refine ⟨.new hT, fun b hb => upd_ne fun z => q.tr hb (z ▸ hT), ?_⟩
  simp only [RelD]
  refine ⟨T, _, rfl, ⟨q.off hT, upd_same⟩, ?_⟩
  simp only [RelDs]
  exact ⟨_, _, rfl, by simp only [RelD], _, _, rfl, rv.mono (.new hT), rfl⟩
theorem itok_enumT (t : TupAt G ι H a vs) (r : RelDs G ι H xs vs) : ItOk G ι H (.fix (enumD xs)) (IteT G.K a) :=
  itok_pair (Sq := fun _ => True) (fun ι1 H1 i v e hv => ⟨vs, v, (t.monoW e).sq, hv⟩) (fun ι1 H1 i e hl => ⟨vs, (t.monoW e).sq, hl⟩) (fun ι1 H1 i v H' e ⟨T, x, h1, h2, h3, h4⟩ => ⟨T, x, h1, h2, h3, h4 vs (t.monoW e).sq⟩) r
theorem itok_enumL (t : ∀ ι' H', ExtW ι H ι' H' → SqL G.K H' a vs) (r : RelDs G ι H xs vs) : ItOk G ι H (.fix (enumD xs)) (Ite G.K a) :=
  itok_pair (Sq := fun _ => True) (fun ι1 H1 i v e hv => ⟨vs, v, t _ _ e, hv⟩) (fun ι1 H1 i e hl => ⟨vs, t _ _ e, hl⟩) (fun ι1 H1 i v H' e ⟨T, x, h1, h2, h3, h4⟩ => ⟨T, x, h1, h2, h3, h4 vs (t _ _ e)⟩) r
end
theorem itok_enl {G : Cg} {ι : Z} {H : Hp} {n : Nat} {a : Addr} (ha : ι.ad[n]? = some a) : ItOk G ι H (.enl n) (Ite G.K a) := fun ι1 H1 s ys e q hys i => by
  simp only [srcAt] at hys
  split at hys
  · rename_i ds hds
    cases hys
    obtain ⟨b, g1, _, us, g3, r1⟩ := q.addr hds
    rw [e.get _ _ ha] at g1; cases g1
    have sq : SqL G.K H1 a us := .inl (.inl g3)
    refine ⟨fun d hd => ?_, fun hl => ⟨us, sq, by rw [r1.len]; rw [enumD_len] at hl; exact hl⟩⟩
    rw [enumD_get] at hd
    obtain ⟨d0, hd0, rfl⟩ := Option.map_eq_some_iff.1 hd
    obtain ⟨v, hv, rv⟩ := r1.get hd0
    refine ⟨⟨us, v, sq, hv⟩, fun x H' hyy => ?_⟩
    obtain ⟨T, u, rfl, hT, rfl, hu⟩ := hyy
    have hu := hu us sq
    rw [hv] at hu; cases hu
    refine ⟨.new hT, fun b hb => upd_ne fun z => q.tr hb (z ▸ hT), ?_⟩
    simp only [RelD]
    refine ⟨T, _, rfl, ⟨q.off hT, upd_same⟩, ?_⟩
    simp only [RelDs]
    exact ⟨_, _, rfl, by simp only [RelD], _, _, rfl, rv.mono (.new hT), rfl⟩
  · cases hys
section
variable {X : Cx} {W : WX}
theorem vi_enum {e : Expr} {ms : MA} {p pos tpos : Pos} {elts : List Expr} {kk : Nat} (hg : Gl X "enumerate") (hm : X.mg "enumerate" = none) (ha : VA X W [e] ms) (hs : starEach [e] X.env = [(false, eval e X.env)] := by rfl) :
    VI X W (.Tuple elts kk tpos) (.Call (.Name "enumerate" p) [e] [] pos) (mEnum ms) :=
  pi_imp (pi_or (pi_enum hg hm ha hs) (pi_enumT hg hm ha hs)) fun σ H Rr ⟨ι, s, ρ, q, e, h⟩ => by
    unfold mEnum at h
    cases hm : ms ρ s with
    | bad => rw [hm] at h; exact h.elim
    | exn c fs ρ' s' =>
      rw [hm] at h
      refine .inl ⟨ι, s, ρ, q, e, ?_⟩
      rw [hm]
      exact h
    | ok ds s' =>
      rw [hm] at h
      simp only [R.bnd_ok] at h
      unfold enumF at h
      split at h
      · refine .inr ⟨ι, s, ρ, q, e, ?_⟩
        rw [hm]
        intro ι1 H1 e1 q1 vs r
        have h1 := h ι1 H1 e1 q1
        simp only [RelDs, RelD] at r
        obtain ⟨_, _, rfl, ⟨a, us, rfl, t, k⟩, rfl⟩ := r
        exact ⟨a, us, rfl, t.sq, h1 _ (itok_enumT t k)⟩
      · refine .inl ⟨ι, s, ρ, q, e, ?_⟩
        rw [hm]
        intro ι1 H1 e1 q1 vs r
        have h1 := h ι1 H1 e1 q1
        simp only [RelDs, RelD] at r
        obtain ⟨_, _, rfl, ⟨a, us, rfl, t, k⟩, rfl⟩ := r
        exact ⟨a, us, rfl, .inl (.inl t.2), h1 _ (itok_enumL (fun ι' H' e => .inl (.inl (t.monoW e).2)) k)⟩
      · refine .inl ⟨ι, s, ρ, q, e, ?_⟩
        rw [hm]
        intro ι1 H1 e1 q1 vs r
        have h1 := h ι1 H1 e1 q1
        simp only [RelDs, RelD] at r
        obtain ⟨_, _, rfl, ⟨a, us, rfl, t, k⟩, rfl⟩ := r
        exact ⟨a, us, rfl, t.sq, h1 _ (itok_enumL (fun ι' H' e => (t.monoW e).sq) k)⟩
      · split at h
        · rename_i n ds hds
          refine .inl ⟨ι, s, ρ, q, e, ?_⟩
          rw [hm]
          intro ι1 H1 e1 q1 vs r
          have h1 := h ι1 H1 e1 q1
          simp only [RelDs, RelD] at r
          obtain ⟨_, _, rfl, ⟨a, rfl, ha⟩, rfl⟩ := r
          obtain ⟨b, g1, _, us, g3, _⟩ := q1.addr hds
          rw [ha] at g1; cases g1
          exact ⟨a, us, rfl, .inl (.inl g3), h1 _ (itok_enl ha)⟩
        · exact h.elim
      · exact h.elim
end
end VL
namespace VL
open PySem PySem.Spec PyProof.Rows L2

/-! ### dicts by values -/
section
variable {κ : Type} [DecidableEq κ]
def look (kf : D → Option κ) (kvs : List (D × D)) (k : κ) : Option D := (kvs.find? fun p => decide (kf p.1 = some k)).map (·.2)
def put (kf : D → Option κ) (kvs : List (D × D)) (kd : D) (k : κ) (v : D) : List (D × D) :=
  if (kvs.any fun p => decide (kf p.1 = some k)) = true then kvs.map (fun p => if kf p.1 = some k then (p.1, v) else p) else kvs ++ [(kd, v)]
abbrev PR (G : Cg) (ι : Z) (H : Hp) (kf : D → Option κ) (kvs : List (D × D)) (ks : List (κ × V)) : Prop := Paired (fun (p : D × D) q => kf p.1 = some q.1 ∧ RelD G ι H p.2 q.2) kvs ks
def OptR (G : Cg) (ι : Z) (H : Hp) : Option D → Option V → Prop
  | some d, some v => RelD G ι H d v
  | none, none => True
  | _, _ => False
variable {G : Cg} {ι : Z} {H : Hp} {kf : D → Option κ}
theorem look_rel {k : κ} : ∀ {kvs : List (D × D)} {ks : List (κ × V)}, PR G ι H kf kvs ks → OptR G ι H (look kf kvs k) (valV ks k)
  | _, _, .nil => trivial
  | _, _, .cons (a := a) (b := b) (l₁ := l1) (l₂ := l2) h t => by
    by_cases e : b.1 = k
    · rw [valV_pos e]
      have : look kf (a :: l1) k = some a.2 := by simp [look, List.find?_cons, h.1, e]
      rw [this]
      exact h.2
    · rw [valV_neg e]
      have e' : ¬ kf a.1 = some k := by rw [h.1]; exact fun z => e (Option.some.inj z)
      have : look kf (a :: l1) k = look kf l1 k := by simp [look, List.find?_cons, e']
      rw [this]
      exact look_rel t
theorem pr_any {k : κ} : ∀ {kvs : List (D × D)} {ks : List (κ × V)}, PR G ι H kf kvs ks → (kvs.any fun p => decide (kf p.1 = some k)) = ks.any fun q => decide (q.1 = k)
  | _, _, .nil => rfl
  | _, _, .cons (a := a) (b := b) h t => by
    have ih := pr_any (k := k) t
    simp only [List.any_cons, ih, h.1, Option.some.injEq]
theorem pr_map {k : κ} {v : V} {d : D} (r : RelD G ι H d v) : ∀ {kvs : List (D × D)} {ks : List (κ × V)}, PR G ι H kf kvs ks → PR G ι H kf (kvs.map fun p => if kf p.1 = some k then (p.1, d) else p) (ks.map fun q => if q.1 = k then (q.1, v) else q)
  | _, _, .nil => .nil
  | _, _, .cons (a := a) (b := b) h t => by
    refine .cons ?_ (pr_map r t)
    by_cases e : b.1 = k
    · have e' : kf a.1 = some k := by rw [h.1, e]
      simp only [if_pos e, if_pos e']
      exact ⟨h.1, r⟩
    · have e' : ¬ kf a.1 = some k := by rw [h.1]; exact fun z => e (Option.some.inj z)
      simp only [if_neg e, if_neg e']
      exact h
theorem put_rel {kd : D} {k : κ} {v : V} {d : D} (hk : kf kd = some k) (r : RelD G ι H d v) {kvs : List (D × D)} {ks : List (κ × V)} (h : PR G ι H kf kvs ks) : PR G ι H kf (put kf kvs kd k d) (putK ks k v) := by
  unfold put putK
  rw [pr_any h]
  split
  · exact pr_map r h
  · exact Paired.snoc h ⟨hk, r⟩
theorem pr_len {kvs : List (D × D)} {ks : List (κ × V)} (h : PR G ι H kf kvs ks) : kvs.length = ks.length := Paired.length h
end
theorem key_rel {G : Cg} {ι H y u k} (r : RelD G ι H y u) (h : keyD y = some k) : u = kV k := by
  cases y with
  | int i => simp only [keyD, Option.some.injEq] at h; subst h; exact relI r
  | str x => simp only [keyD, Option.some.injEq] at h; subst h; exact relS r
  | _ => cases h
theorem keys_rel {G : Cg} {ι H} : ∀ {ds : List D} {us : List V} {ks : List Key}, RelDs G ι H ds us → keyDs ds = some ks → us = ks.map kV
  | [], us, ks, r, h => by simp only [RelDs] at r; subst r; simp only [keyDs, Option.some.injEq] at h; subst h; rfl
  | d :: ds, us, ks, r, h => by
    simp only [RelDs] at r
    obtain ⟨x, t, rfl, r1, r2⟩ := r
    simp only [keyDs] at h
    split at h
    · rename_i k ks' h1 h2
      cases h
      rw [key_rel r1 h1, keys_rel r2 h2]
      rfl
    · cases h
theorem keyT_rel {G : Cg} {ι H y u k} (r : RelD G ι H y u) (h : keyT y = some k) : ∃ b, u = .ref b ∧ H b = some (.tup (k.map kV)) := by
  cases y with
  | tup ds =>
    simp only [RelD] at r
    obtain ⟨a, xs, rfl, t, rr⟩ := r
    have := keys_rel rr (show keyDs ds = some k from h)
    subst this
    exact ⟨a, rfl, t.2⟩
  | _ => cases h
/-- what stands in the dict n at y; none: no such dict, no such key -/
def dgetD (s : S) (x y : D) : Option (Option D) := match x with
  | .obj n => (match s[n]? with
    | some (.dct kvs) => (keyD y).map (look keyD kvs)
    | some (.dctL kvs) => (keyD y).map (look keyD kvs)
    | some (.dctT kvs) => (keyT y).map (look keyT kvs)
    | some (.dctTL kvs) => (keyT y).map (look keyT kvs)
    | _ => none)
  | _ => none
section
variable {G : Cg} {W : WX} {X : Cx} {ι : Z} {H : Hp}
theorem dget_ok {s : S} (q : Sim G ι H s) {x y : D} {w u : V} {o : Option D} (h : dgetD s x y = some o) (r1 : RelD G ι H x w) (r2 : RelD G ι H y u) : ∃ a r, w = .ref a ∧ DGet H a u r ∧ OptR G ι H o r := by
  unfold dgetD at h
  split at h
  · rename_i n
    simp only [RelD] at r1
    obtain ⟨a, rfl, ha⟩ := r1
    split at h
    · rename_i kvs hs
      obtain ⟨b, g1, _, ks, g3, g4⟩ := q.addr hs
      rw [ha] at g1; cases g1
      obtain ⟨k, hk, rfl⟩ := Option.map_eq_some_iff.1 h
      rw [key_rel r2 hk]
      exact ⟨a, _, rfl, .k g3, look_rel g4⟩
    · rename_i kvs hs
      obtain ⟨b, g1, _, f, ks, g3, g4⟩ := q.addr hs
      rw [ha] at g1; cases g1
      obtain ⟨k, hk, rfl⟩ := Option.map_eq_some_iff.1 h
      rw [key_rel r2 hk]
      exact ⟨a, _, rfl, .inl ⟨ks, k, .inr ⟨f, g3⟩, rfl, rfl⟩, look_rel g4⟩
    · rename_i kvs hs
      obtain ⟨b, g1, _, ks, g3, g4⟩ := q.addr hs
      rw [ha] at g1; cases g1
      obtain ⟨k, hk, rfl⟩ := Option.map_eq_some_iff.1 h
      obtain ⟨c, rfl, hc⟩ := keyT_rel r2 hk
      exact ⟨a, _, rfl, .t g3 hc, look_rel g4⟩
    · rename_i kvs hs
      obtain ⟨b, g1, _, f, ks, g3, g4⟩ := q.addr hs
      rw [ha] at g1; cases g1
      obtain ⟨k, hk, rfl⟩ := Option.map_eq_some_iff.1 h
      obtain ⟨c, rfl, hc⟩ := keyT_rel r2 hk
      exact ⟨a, _, rfl, .inr ⟨ks, k, c, .inr ⟨f, g3⟩, rfl, hc, rfl⟩, look_rel g4⟩
    · cases h
  · cases h
/-! d[k] -/
def opIxU : F2 := fun x y s => match dgetD s x y with
  | some (some d) => .ok d s
  | some none => .bad
  | none => opIx x y s
abbrev rIxU (K : PySem.W.Frag) : R2 := fun x y H Q => (∃ a v, x = .ref a ∧ DGet H a y (some v) ∧ Q v H) ∨ rIx K x y H Q
theorem ix_dict (hu : X.A.units + 64 < cLine) : IxR X (fun x y H Q => ∃ a v, x = .ref a ∧ DGet H a y (some v) ∧ Q v H) := by
  intro value slice pins s σ H x y v u Q I rx ry h hs
  obtain ⟨a, w, rfl, g, q⟩ := h
  cases rx
  exact tail_any (dict_typeIs I g) PySem.F.slot_dict_getitem.lookup (d_getItem (by omega) I g ry fun w' s3 I3 rw' => ⟨w, H, I3, rw', q⟩) hs
theorem v_ixU : OpV G W (rIxU G.K) opIxU := fun ι H s x y v u Q q r1 r2 h => by
  unfold opIxU at h
  split at h
  · rename_i d hd
    obtain ⟨a, r, rfl, g, o⟩ := dget_ok q hd r1 r2
    cases r with
    | none => exact o.elim
    | some w => exact .inl ⟨a, w, rfl, g, h.val q o⟩
  · exact h.elim
  · exact .inr (v_ix ι H s x y v u Q q r1 r2 h)
theorem ve_ixU {a b : Expr} {ma mb : ME} {pos : Pos} (hu : X.A.units + 64 < cLine) (ha : VE X W a ma) (hb : VE X W b mb) (hs : PlainIx b := by exact fun _ _ => rfl) : VE X W (.Subscript a b pos) (mBin opIxU ma mb) :=
  pe_imp (pe_ix ((ix_dict hu).or ix_seq) ha hb hs) (rd_bin v_ixU (fun _ _ _ h => h) fun _ _ _ h => h)
/-! k in d -/
def opInU (f : Bool → Bool) : F2 := fun x y s => match dgetD s y x with
  | some o => .ok (.bl (f o.isSome)) s
  | none => opInB f x y s
abbrev opInD : F2 := opInU fun b => b
abbrev opNotInD : F2 := opInU fun b => !b
def rDI (f : Bool → Bool) : R2 := fun y x H Q => ∃ a o, x = .ref a ∧ DGet H a y o ∧ Q (.bl (f o.isSome)) H
theorem op_dnotin (hu : X.A.units + 65 < cLine) : OpR X (compareOp .NotIn) (rDI fun b => !b) := by
  intro pins s σ H y x u v Q I ry rx h
  obtain ⟨a, o, rfl, g, q⟩ := h
  cases rx
  exact d_notIn (by omega) I g ry fun s3 I3 => ⟨.bl (!o.isSome), H, I3, rfl, q⟩
theorem opt_some {o : Option D} {r : Option V} (h : OptR G ι H o r) : o.isSome = r.isSome := by
  cases o <;> cases r <;> first | rfl | exact h.elim
theorem op_notInU (hu : X.A.units + 65 < cLine) : OpR X (compareOp .NotIn) (fun x y H Q => rDI (fun b => !b) x y H Q ∨ rNotInA X.K x y H Q) := (op_dnotin hu).or (op_notInA hu)
theorem v_notInU : OpV G W (fun x y H Q => rDI (fun b => !b) x y H Q ∨ rNotInA G.K x y H Q) opNotInD := fun ι H s x y v u Q q r1 r2 h => by
  unfold opNotInD opInU at h
  split at h
  · rename_i o hd
    obtain ⟨a, r, rfl, g, oo⟩ := dget_ok q hd r2 r1
    exact .inl ⟨a, r, rfl, g, by rw [← opt_some oo]; exact h.val q (rb _)⟩
  · exact .inr (v_notIn ι H s x y v u Q q r1 r2 h)
/-! d[k] = v -/
def dputD (s : S) (x y v : D) : Option S := match x with
  | .obj n => (match s[n]? with
    | some (.dct kvs) => (keyD y).bind fun k => if kvs.length < LIM then some (s.set n (.dct (put keyD kvs y k v))) else none
    | some (.dctT kvs) => (keyT y).bind fun k => if kvs.length < LIM then some (s.set n (.dctT (put keyT kvs y k v))) else none
    | _ => none)
  | _ => none
theorem dput_ok {s s' : S} (q : Sim G ι H s) {x y d : D} {w u v : V} (h : dputD s x y d = some s') (r1 : RelD G ι H x w) (r2 : RelD G ι H y u) (r3 : RelD G ι H d v) :
    ∃ a H', w = .ref a ∧ DPut H a u v H' ∧ Ext ι H ι H' ∧ Sim G ι H' s' := by
  unfold dputD at h
  split at h
  · rename_i n
    simp only [RelD] at r1
    obtain ⟨a, rfl, ha⟩ := r1
    split at h
    · rename_i kvs hs
      obtain ⟨b, g1, g2, ks, g3, g4⟩ := q.addr hs
      rw [ha] at g1; cases g1
      obtain ⟨k, hk, h⟩ := Option.bind_eq_some_iff.1 h
      split at h
      · rename_i hl
        cases h
        rw [key_rel r2 hk]
        have hl2 : ks.length < sizeLine := by rw [← pr_len g4, sizeLine_eq]; have := hl; rw [show LIM = 1000000 from rfl] at this; omega
        refine ⟨a, _, rfl, .k g3 hl2, .write g2 (nfix g3 rfl), q.write ha (nfix g3 rfl) ⟨_, upd_same, ?_⟩⟩
        exact Paired.mapP (put_rel hk r3 g4) fun _ _ z => ⟨z.1, RelD.mono (.write g2 (nfix g3 rfl)) z.2⟩
      · cases h
    · rename_i kvs hs
      obtain ⟨b, g1, g2, ks, g3, g4⟩ := q.addr hs
      rw [ha] at g1; cases g1
      obtain ⟨k, hk, h⟩ := Option.bind_eq_some_iff.1 h
      split at h
      · rename_i hl
        cases h
        obtain ⟨c, rfl, hc⟩ := keyT_rel r2 hk
        have hl2 : ks.length < sizeLine := by rw [← pr_len g4, sizeLine_eq]; have := hl; rw [show LIM = 1000000 from rfl] at this; omega
        refine ⟨a, _, rfl, .t g3 hc hl2, .write g2 (nfix g3 rfl), q.write ha (nfix g3 rfl) ⟨_, upd_same, ?_⟩⟩
        exact Paired.mapP (put_rel hk r3 g4) fun _ _ z => ⟨z.1, RelD.mono (.write g2 (nfix g3 rfl)) z.2⟩
      · cases h
    · cases h
  · cases h
def rSetD : V → V → V → Hp → (Hp → Prop) → Prop := fun o i v H Q => ∃ a H', o = .ref a ∧ DPut H a i v H' ∧ Q H'
theorem set_dict (hu : X.A.units + 64 < cLine) : PSet X rSetD := by
  intro pins s σ H o i v ov iv u Q I ro ri rv h
  obtain ⟨a, H', rfl, g, q⟩ := h
  cases ro
  exact d_setItem (by omega) I g ri rv fun s' I' => ⟨H', I', q⟩
theorem set_or {t t' : TSet} (h : PSet X t) (h' : PSet X t') : PSet X (fun o i v H Q => t o i v H Q ∨ t' o i v H Q) := by
  intro pins s σ H o i v ov iv u Q I ro ri rv z
  exact z.elim (h pins s σ H o i v ov iv u Q I ro ri rv) (h' pins s σ H o i v ov iv u Q I ro ri rv)
def setIxU (o i v : D) (s : S) : Option S := match dputD s o i v with
  | some s' => some s'
  | none => setIx o i v s
def gIxU (mo mi : ME) : MG := fun d ρ s => (mo ρ s).bnd fun o s1 => (mi ρ s1).bnd fun i s2 => match setIxU o i d s2 with
  | some s3 => .ok ρ s3
  | none => .bad
theorem vg_ixU {o i : Expr} {mo mi : ME} {pos : Pos} (hu : X.A.units + 64 < cLine) (ho : VE X W o mo) (hi : VE X W i mi) (ha : ∀ v, assign (.Subscript o i pos) X.env v = (do
      let ov ← holding [v] (eval o X.env)
      let iv ← holding [v, ov] (eval i X.env)
      standAt pos
      holding [v, ov, iv] (setItem ov iv v)
      release [v, ov, iv] []) := by intro _; rfl) : VG X W (.Subscript o i pos) (gIxU mo mi) :=
  pg_imp (pg_sub ho hi (set_or (set_dict hu) set_list) ha) fun v σ H Q ⟨ι, s, ρ, d, q, e, r, h⟩ => by
    refine rdE_on q e h fun x w ι1 H1 s1 e1 q1 r1 h1 => rdE_on q1 (e.mono e1) h1 fun y u ι2 H2 s2 e2 q2 r2 h2 => ?_
    split at h2
    · rename_i s3 hs
      unfold setIxU at hs
      split at hs
      · rename_i s4 hd
        cases hs
        obtain ⟨a, H', rfl, g, ex, q3⟩ := dput_ok q2 hd (r1.mono e2) r2 ((r.mono e1).mono e2)
        exact .inl ⟨a, H', rfl, g, h2 ι2 _ ex q3 σ (((e.mono e1).mono e2).mono ex)⟩
      · refine .inr ?_
        unfold setIx at hs
        split at hs
        · rename_i n k hnone
          split at hs
          · rename_i ds hd
            split at hs
            · rename_i j hj
              cases hs
              obtain ⟨a, g1, g2, xs, g3, g4⟩ := q2.addr hd
              have r1' := r1.mono e2
              simp only [RelD] at r1'
              obtain ⟨b, rfl, eb⟩ := r1'
              rw [g1] at eb; cases eb
              refine ⟨a, xs, k, j, rfl, relI r2, g3, by rw [g4.len]; exact hj, ?_⟩
              refine h2 ι2 _ (.write g2 (nfix g3 rfl)) (q2.write g1 (nfix g3 rfl) ⟨_, upd_same, ?_⟩) σ (((e.mono e1).mono e2).mono (.write g2 (nfix g3 rfl)))
              exact RelDs.set ((((r.mono e1).mono e2)).mono (.write g2 (nfix g3 rfl))) j (g4.mono (.write g2 (nfix g3 rfl)))
            · cases hs
          · cases hs
        · cases hs
    · exact h2.elim
/-! {} -/
def mNewK : ME := fun _ s => .ok (.obj s.length) (s ++ [.dct []])
def mNewT : ME := fun _ s => .ok (.obj s.length) (s ++ [.dctT []])
end
end VL
namespace VL
open PySem PySem.Spec PyProof.Rows L2

/-! ### {k: v} -/
def mDisp1 (mk mv : ME) : ME := fun ρ s => (noX (mk ρ s)).bnd fun k s1 => (noX (mv ρ s1)).bnd fun v s2 => if (keyD k).isSome = true then .ok (.obj s2.length) (s2 ++ [.dct [(k, v)]]) else .bad
section
variable {X : Cx} {W : WX} {pos : Pos}
theorem disp_end {G : Cg} {ι1 : Z} {H1 : Hp} {p : Addr} {ι' : Z} {H' : Hp} {s' : S} {o : O} {ho : HO} {Q : VK} (hf : fixO ho = false) (I : LcI G ι1 H1 p ι' H' s') (hn : H1 p = none) (np : p ∉ ι1.res) (ro : RelO G ⟨ι'.ad ++ [p], ι1.res⟩ (upd H' p ho) p o)
    (h : Post G W ι1 H1 (QE G Q) (.ok (.obj s'.length) (s' ++ [o]))) : Q (.ref p) (upd H' p ho) := by
  have J := I.write (o := ho) hn hf
  refine h ⟨ι'.ad ++ [p], ι1.res⟩ _ ⟨?_, rfl, J.x.keep, J.x.dom, J.x.fix⟩ (J.q.adopt J.r np ro) _ ?_
  · obtain ⟨μ, e1, e2⟩ := J.x.more
    refine ⟨μ ++ [p], by show ι'.ad ++ [p] = _; rw [show ι'.ad = ι1.ad ++ μ from e1, List.append_assoc], fun a ha => ?_⟩
    rcases List.mem_append.mp ha with z | z
    · exact e2 a z
    · rw [List.mem_singleton.mp z]; exact hn
  · simp only [RelD]
    refine ⟨p, rfl, ?_⟩
    show (ι'.ad ++ [p])[s'.length]? = _
    rw [← J.q.len]; simp
theorem ve_disp1 {k v : Expr} {mk mv : ME} (hk : VE X W0 k mk) (hv : VE X W0 v mv) : VE X W (.Dict [some k] [v] pos) (mDisp1 mk mv) :=
  pe_imp (pe_disp (pps_cons hk hv pps_nil) rfl rfl (by simp) (by simp)) fun σ H Q ⟨ι, s, ρ, q, e, h⟩ p hn => by
    unfold mDisp1 at h
    obtain ⟨kd, s1, ek, h⟩ := noX_bnd h
    obtain ⟨vd, s2, ev, h⟩ := noX_bnd h
    have npr : p ∉ ι.res := (q.off hn).2
    have I0 : LcI (cg X) ι H p (ι.keep p) (upd H p (.dK [])) s := .start q hn
    have e0 : EnvR (cg X) (ι.keep p) (upd H p (.dK [])) σ ρ := e.monoW (Ext.toKeep q hn)
    have hp0 : (upd H p (.dK [])) p = some (.dK []) := upd_same
    refine ⟨ι.keep p, s, ρ, I0.q, e0, ?_⟩
    rw [ek]
    intro ι1 H1 x1 q1 w1 r1
    have I1 := I0.step x1 q1
    have np1 : p ∉ (ι.keep p).ad := (I0.q.rs p (by rw [I0.r]; exact List.mem_cons_self ..)).2
    have hp1 : H1 p = some (.dK []) := x1.keep p _ np1 rfl hp0
    refine ⟨ι1, s1, ρ, q1, e0.mono x1, ?_⟩
    rw [ev]
    intro ι2 H2 x2 q2 w2 r2
    have I2 := I1.step x2 q2
    have np2 : p ∉ ι1.ad := (I1.q.rs p (by rw [I1.r]; exact List.mem_cons_self ..)).2
    have hp2 : H2 p = some (.dK []) := x2.keep p _ np2 rfl hp1
    split at h
    · rename_i hs
      obtain ⟨ky, hky⟩ := Option.isSome_iff_exists.1 hs
      refine ⟨hp2, [(ky, w2)], ?_, by simp, ?_⟩
      · rw [key_rel r1 hky]; rfl
      · refine disp_end rfl I2 hn npr ?_ h
        refine ⟨_, upd_same, .cons ⟨hky, ?_⟩ .nil⟩
        have J := I2.write (o := .dK (mergeK [] [(ky, w2)])) hn
        have hm : p ∈ ι2.res := by rw [I2.r]; exact List.mem_cons_self ..
        exact RelD.monoW (ExtW.adopt J.r) _ (RelD.monoW (ExtW.inKeep hm (I2.q.rsn hm)) _ r2)
    · exact h.elim
/-! ### x += n -/
def mAugAdd (i : Nat) (m : ME) : MS := fun ρ s => match ρ[i]? with
  | some (some (.int a)) => (m ρ s).bnd fun d s1 => (match d with
    | .int b => .ok (.nx (ρ.set i (some (.int (a + b))))) s1
    | _ => .bad)
  | _ => .bad
theorem vs_augAdd (i : Nat) {x : Str} {e : Expr} {m : ME} {pos' : Pos} (hN : X.N.Nodup) (he : VE X W e m) (hi : X.N[i]? = some x := by rfl) (hx : Loc X.env.scope x := by exact .inl rfl) (hf : X.fn x = true ∨ X.env.scope.names.lookup x = some .local := by first | exact .inl rfl | exact .inr rfl | assumption) :
    VS X W (.AugAssign (.Name x pos') .Add e pos) (mAugAdd i m) :=
  ps_imp (ps_aug hN hi hx he ip_add hf) fun Dn σ H h => by
    obtain ⟨ι, s, ρ, q, e, h⟩ := h
    unfold mAugAdd at h
    split at h
    · rename_i a ha
      obtain ⟨v, hv, rv⟩ := e.2 i _ ha
      refine ⟨v, hv, rdE_on q e h fun d w ι1 H1 s1 e1 q1 r1 h1 => ?_⟩
      split at h1
      · rename_i b
        refine ⟨a, b, relI rv, relI r1, ?_⟩
        exact h1.here q1 _ ((e.mono e1).set (by simp only [RelD]))
      · exact h1.elim
    · exact h.elim
/-! ### sorted(d), len(d) -/
def keyI : List (D × D) → Option (List Int)
  | [] => some []
  | (.int i, _) :: r => (keyI r).map (i :: ·)
  | _ => none
def fSortedU : FA := fun xs s => match xs with
  | [.obj n] => (match s[n]? with
    | some (.dct kvs) => (match keyI kvs with
      | some ks => if ks.length < 64 then .ok (.lst ((isort ks).map .int)) s else .bad
      | none => .bad)
    | _ => fSorted [.obj n] s)
  | xs => fSorted xs s
theorem keyI_rel {G : Cg} {ι : Z} {H : Hp} : ∀ {kvs : List (D × D)} {ks : List (Key × V)} {is : List Int}, PR G ι H keyD kvs ks → keyI kvs = some is → ks.map (·.1) = is.map Sum.inl
  | _, _, _, .nil, h => by simp only [keyI, Option.some.injEq] at h; subst h; rfl
  | _, _, _, .cons (a := a) (b := b) h t, hk => by
    obtain ⟨x, y⟩ := a
    cases x with
    | int i =>
      simp only [keyI, Option.map_eq_some_iff] at hk
      obtain ⟨is, h1, rfl⟩ := hk
      have e := h.1
      simp only [keyD, Option.some.injEq] at e
      simp only [List.map_cons, keyI_rel t h1, ← e]
    | _ => simp [keyI] at hk
abbrev rSortedD : List V → Hp → VK → Prop := fun xs H Q => ∃ (a : Addr) (kvs : List (Key × V)) (ks : List Int), xs = [.ref a] ∧ Rd H a (.dK kvs) ∧ kvs.map (·.1) = ks.map Sum.inl ∧ ks.length < 64 ∧
    ∀ (ys : List Int) (p : Addr), ys.Perm ks → ys.Pairwise (· ≤ ·) → H p = none → Q (.ref p) (upd H p (.lst (ys.map V.int)))
theorem cr_or {f : Value} {r r' : List V → Hp → VK → Prop} (h : CallR X f r) (h' : CallR X f r') : CallR X f (fun xs H Q => r xs H Q ∨ r' xs H Q) := by
  intro pins s σ H xs us Q I rv z
  exact z.elim (h pins s σ H xs us Q I rv) (h' pins s σ H xs us Q I rv)
theorem cr_sortedU (hc : X.calm = true) : CallR X (.builtin "sorted") (fun xs H Q => rSortedD xs H Q ∨ rSortedI X.K xs H Q) := cr_or (call_sortedDI hc) cr_sortedI
theorem v_sortedU {G : Cg} : CallV G W (fun xs H Q => rSortedD xs H Q ∨ rSortedI G.K xs H Q) fSortedU := fun ι H s xs vs Q q r h => by
  unfold fSortedU at h
  split at h
  · rename_i n
    split at h
    · rename_i kvs hs
      split at h
      · rename_i is hi
        split at h
        · rename_i h64
          obtain ⟨v, rfl, r1⟩ := rel1 r
          simp only [RelD] at r1
          obtain ⟨a, rfl, ha⟩ := r1
          obtain ⟨b, g1, _, ks, g3, g4⟩ := q.addr hs
          rw [ha] at g1; cases g1
          exact .inl ⟨a, ks, is, rfl, .inl g3, keyI_rel g4 hi, h64, fun ms p pm pw hp => by rw [isort_of pm pw]; exact h.newL q RelDs.ofInts hp⟩
        · exact h.elim
      · exact h.elim
    · exact .inr (v_sorted ι H s _ vs Q q r h)
  · exact .inr (v_sorted ι H s _ vs Q q r h)
end
end VL
namespace VL
open PySem PySem.Spec PyProof.Rows L2

/-! ### list comprehensions of any number of clauses: what follows a clause's tests is handed on -/
def testsOf (ifs : List Expr) (env : Env) : Sem Bool :=
  forIn ifs true fun q r => if r = true then do
    let b ← isTrue q env (eval q env)
    pure (ForInStep.yield b)
  else pure (ForInStep.yield r)
def turnOf (t i : Expr) (ifs : List Expr) (rest : Sem PySem.Fin → Sem PySem.Fin) (c : Code) (it : Value) (env : Env) : Sem PySem.Fin :=
  standAt i.pos >>= fun _ => pyNext it >>= fun r => match r with
    | none => pure (.done .next)
    | some v => letOwnedTupleGo t it v >>= fun _ => assign t env v >>= fun _ => testsOf ifs env >>= fun ok => if ok = true then rest (again c) else again c
def restApp (elt : Expr) (acc : Value) (env : Env) : Sem PySem.Fin → Sem PySem.Fin := fun k =>
  (eval elt env >>= fun x => call (.builtin "list.append") [acc, x] >>= fun _ => pure PUnit.unit) >>= fun _ => k
def restIn (i1 : Expr) (e : Expr) (n : Nat) (acc : Value) (env : Env) : Sem PySem.Fin → Sem PySem.Fin := fun k =>
  eval i1 env >>= fun x => standAt i1.pos >>= fun _ => foldedSetIterable i1 env x >>= fun y => holding [y] (pyIter y) >>= fun z => runOwn (.compStart e n z acc env) env >>= fun _ => k
section
variable {prog : Program} {w : World} {A : Around} {s : Shared} {elt t0 i0 t1 i1 t2 i2 : Expr} {ifs0 ifs1 ifs2 : List Expr} {scope : Scope} {pos : Pos} {it acc : Value} {env : Env}
/-- nothing is raised -/
abbrev Fls : Value → Shared → Prop := fun _ _ => False
end

/-- what follows the tests: from tb it comes to Nx, the slots vs forgotten -/
def BO (X : Cx) (vs : List Nat) (rest : Sem PySem.Fin → Sem PySem.Fin) (tb : L2.St → Hp → (Hp → Prop) → Prop) : Prop :=
  ∀ (pins : List (Addr × Obj)) (s : Shared) (σ : L2.St) (H : Hp) (Nx : Hp → Prop) (k : Sem PySem.Fin) (Q : PySem.Fin → Shared → Prop), Inv X pins σ H s → tb σ H Nx →
    (∀ s' H', Inv X pins (L2.wipe σ vs) H' s' → Nx H' → wpAny (model X.prog X.w) X.A k Q Fls s') → wpAny (model X.prog X.w) X.A (rest k) Q Fls s
section
variable {X : Cx}
def tApp (D : Addr) (te : TE) : L2.St → Hp → (Hp → Prop) → Prop := fun σ H Nx => te σ H fun y H1 => ∃ acc, H1 D = some (.lst acc) ∧ acc.length < sizeLine ∧ Nx (upd H1 D (.lst (acc ++ [y])))
def tIn (wi : TI) (g : TG) (tt : TT) (tb : L2.St → Hp → (Hp → Prop) → Prop) (vs : List Nat) : L2.St → Hp → (Hp → Prop) → Prop := fun σ H Nx => wi σ H fun J H1 => ∃ W : Nat → Nat → Hp → Prop, (∃ m, W 0 m H1) ∧ ∀ j m H, W j m H →
  (J.stop j H ∧ Nx H) ∨ (J.go j H ∧ ∃ Ny : Hp → Prop, (∀ H', Ny H' → ∃ m', m' < m ∧ W (j + 1) m' H') ∧ ∀ x H', J.yld j H x H' → g x (L2.wipe σ vs) H' fun σ2 H2 => L2.wipe σ2 vs = L2.wipe σ vs ∧ tt σ2 H2 fun b H3 => if b = true then tb σ2 H3 Ny else Ny H3)
/-- the whole -/
def tLcN (wi : TI) (g : TG) (tt : TT) (tb : Addr → L2.St → Hp → (Hp → Prop) → Prop) (vs : List Nat) : TE := fun σ H Q => wi σ H fun J H1 => ∀ D, H1 D = none → ∃ W : Nat → Nat → Hp → Prop, (∃ m, W 0 m (upd H1 D (.lst []))) ∧ ∀ j m H, W j m H →
  (J.stop j H ∧ Q (.ref D) H) ∨ (J.go j H ∧ ∃ Ny : Hp → Prop, (∀ H', Ny H' → ∃ m', m' < m ∧ W (j + 1) m' H') ∧ ∀ x H', J.yld j H x H' → g x (L2.wipe σ vs) H' fun σ2 H2 => L2.wipe σ2 vs = L2.wipe σ vs ∧ tt σ2 H2 fun b H3 => if b = true then tb D σ2 H3 Ny else Ny H3)
end
end VL
namespace VL
open PySem PySem.Spec PyProof.Rows L2

abbrev MB := Ev → List D → S → R (List D)
def bApp (el : ME) : MB := fun ρ acc s => (noX (el ρ s)).bnd fun y s1 => if acc.length < LIM then .ok (acc ++ [y]) s1 else .bad
def bGo (src : Src) (t : Tg) (tt : MT) (b : MB) (ρw : Ev) : Nat → Nat → List D → S → R (List D)
  | 0, i, acc, s => (match srcAt s src with
    | some xs => if xs.length = i then .ok acc s else .bad
    | none => .bad)
  | n + 1, i, acc, s => (match srcAt s src with
    | some xs => (match xs[i]? with
      | some d => (match tgM t d ρw with
        | some ρ1 => (noX (tt ρ1 s)).bnd fun k s1 => if k = true then (noX (b ρ1 acc s1)).bnd fun acc' s2 => bGo src t tt b ρw n (i + 1) acc' s2 else bGo src t tt b ρw n (i + 1) acc s1
        | none => .bad)
      | none => .bad)
    | none => .bad)
def bIn (it : MI) (t : Tg) (tt : MT) (b : MB) (vs : List Nat) : MB := fun ρ acc s => (noX (it ρ s)).bnd fun src s1 => match srcAt s1 src with
  | some xs => if (∀ i ∈ t.slots, i ∈ vs) then bGo src t tt b (wipeD ρ vs) xs.length 0 acc s1 else .bad
  | none => .bad
def mLcN (fin : List D → S → R D) (it : MI) (t : Tg) (tt : MT) (b : MB) (vs : List Nat) : ME := fun ρ s => ((it ρ s).bnd fun src s1 => match srcAt s1 src with
  | some xs => if (∀ i ∈ t.slots, i ∈ vs) then bGo src t tt b (wipeD ρ vs) xs.length 0 [] s1 else .bad
  | none => .bad).bnd fin
/-- a body's reading: from here it reaches Nx, the list at p made longer -/
def rdMB (G : Cg) (b : MB) (p : Addr) : L2.St → Hp → (Hp → Prop) → Prop := fun σ H Nx => ∃ ι1 H1 ι s ρ acc av, LcI G ι1 H1 p ι H s ∧ EnvR G ι H σ ρ ∧ RelDs G ι H acc av ∧ H p = some (.lst av) ∧ H1 p = none ∧
  ∃ acc' s', b ρ acc s = .ok acc' s' ∧ ∀ ι' H' av', LcI G ι1 H1 p ι' H' s' → ExtW ι H ι' H' → RelDs G ι' H' acc' av' → H' p = some (.lst av') → Nx H'
theorem ExtW.refl (ι : Z) (H : Hp) : ExtW ι H ι H := ⟨fun _ _ h => h, fun _ h _ => h, fun _ h => h, fun _ _ _ _ h => h, fun _ _ _ h => h⟩
section
variable {X : Cx} {W : WX}
abbrev VB (X : Cx) (vs : List Nat) (rest : Value → Env → Sem PySem.Fin → Sem PySem.Fin) (b : MB) : Prop := ∀ D : Addr, BO X vs (rest (.ref D) X.env) (rdMB (cg X) b D)
end
end VL
namespace VL
open PySem PySem.Spec PyProof.Rows L2
section
variable {X : Cx} {W : WX}
/-! xs.extend(ys) -/
def fExtend (x : D) (y : D) (s : S) : R D := match x, asX s y with
  | .obj n, some zs => (match s[n]? with
    | some (.lst ds) => if ds.length + zs.length ≤ LIM then .ok .non (s.set n (.lst (ds ++ zs))) else .bad
    | _ => .bad)
  | _, _ => .bad
def mExtend (mo me : ME) : ME := fun ρ s => (mo ρ s).bnd fun x s1 => if isLstO s1 x = true then (me ρ s1).bnd fun y s2 => fExtend x y s2 else .bad
/-! x is True, x is not True -/
def opIsB : F2 := fun x y s => match x, y with
  | .bl a, .bl b => .ok (.bl (decide (a = b))) s
  | _, _ => .bad
def opNotB : F2 := fun x y s => match x, y with
  | .bl a, .bl b => .ok (.bl (!decide (a = b))) s
  | _, _ => .bad
variable {G : Cg}
end
end VL
namespace VL
open PySem PySem.Spec PyProof.Rows L2

/-! ### instances of own classes -/
theorem RoomG.make {k : Nat} {A : Around} (r : RoomG (k + 1) A) (C : Addr) (us : List Value) (kw : List (Str × Value)) : RoomG k (A.under (.builtin "type.__call__" ⟨.ref C :: us, kw⟩)) :=
  ⟨r.r.make C us kw, by simp [Around.under, Code.guards, Code.isGuard, guardIds, pushGuards, r.g]⟩
def fldG (fs : List (Str × D)) (f : Str) : Option D := fs.lookup f
def putFD (f : Str) (v : D) : List (Str × D) → List (Str × D)
  | [] => [(f, v)]
  | (g, x) :: r => if g = f then (g, v) :: r else (g, x) :: putFD f v r
abbrev FR (G : Cg) (ι : Z) (H : Hp) (fs : List (Str × D)) (gs : List (Str × V)) : Prop := Paired (fun (p : Str × D) q => p.1 = q.1 ∧ RelD G ι H p.2 q.2) fs gs
/-- the class of an instance, its fields -/
def insOf (s : S) : D → Option (Str × List (Str × D))
  | .obj n => match s[n]? with
    | some (.ins c fs) => some (c, fs)
    | _ => none
  | _ => none
/-- a class whose instances have plain fields of these names -/
structure FldOk (K : PySem.W.Frag) (mg : Str → Option Value) (cs : List Str) (f : Str) : Prop where
  ok : ∀ c ∈ cs, ∀ C, mg c = some (.ref C) → Cls K C ∧ NoAttr K C f
def mFld (cs : List Str) (f : Str) (m : ME) : ME := fun ρ s => (m ρ s).bnd fun d s1 => match insOf s1 d with
  | some (c, fs) => if c ∈ cs then (match fs.lookup f with
    | some v => .ok v s1
    | none => .bad) else .bad
  | none => .bad
def mSetFld (cs : List Str) (f : Str) (mo mv : ME) : MS := fun ρ s => (mv ρ s).bnd fun v s1 => (mo ρ s1).bnd fun o s2 => match o with
  | .obj n => (match s2[n]? with
    | some (.ins c fs) => if c ∈ cs ∧ fs.length < 1000 then .ok (.nx ρ) (s2.set n (.ins c (putFD f v fs))) else .bad
    | _ => .bad)
  | _ => .bad
/-- C(..) -/
structure ClN (P : Program) (w : World) (K : PySem.W.Frag) (mg : Str → Option Value) (base : Heap) (k : Nat) (x : Str) (n : Nat) (m : FM) : Prop where
  ex : ∃ (C f : Addr) (fd : FuncData) (ps : List Str), mg x = some (.ref C) ∧ Mk K C f ∧ FnG P w K mg base k f fd ps (spG ⟨K, mg⟩ (n + 1) m) ∧ Binds K fd ps []
def mNew (c : Str) (m : FM) (ms : MA) : ME := fun ρ s => (ms ρ s).bnd fun ds s1 => (retag ρ (m (.obj s1.length :: ds) (s1 ++ [.ins c []]))).bnd fun d s2 => match d with
  | .non => .ok (.obj s1.length) s2
  | _ => .bad
/-- an instance that may be called -/
structure ClI (P : Program) (w : World) (K : PySem.W.Frag) (mg : Str → Option Value) (base : Heap) (k : Nat) (x : Str) (n : Nat) (m : FM) : Prop where
  ex : ∀ C, mg x = some (.ref C) → ∃ (f : Addr) (fd : FuncData) (ps : List Str), StX.CallO K C f ∧ FnG P w K mg base k f fd ps (spG ⟨K, mg⟩ (n + 1) m) ∧ Binds K fd ps []
def isObjD : D → Bool
  | .obj _ => true
  | _ => false
def mCallI (cs : List (Str × FM)) (mf : ME) (ms : MA) : ME := fun ρ s => (mf ρ s).bnd fun d s1 => if isObjD d = true then (ms ρ s1).bnd fun ds s2 => (match insOf s2 d with
  | some (c, _) => (match cs.lookup c with
    | some m => retag ρ (m (d :: ds) s2)
    | none => .bad)
  | none => .bad) else .bad
/-- o.meth(..) -/
structure ClM (P : Program) (w : World) (K : PySem.W.Frag) (mg : Str → Option Value) (base : Heap) (k : Nat) (x meth : Str) (n : Nat) (m : FM) : Prop where
  ex : ∀ C, mg x = some (.ref C) → ∃ (f : Addr) (fd : FuncData) (ps : List Str), Cls K C ∧ Meth K C meth f ∧ FnG P w K mg base k f fd ps (spG ⟨K, mg⟩ (n + 1) m) ∧ Binds K fd ps []
def mMeth (cs : List (Str × FM)) (meth : Str) (mo : ME) (ms : MA) : ME := fun ρ s => (mo ρ s).bnd fun d s1 => match insOf s1 d with
  | some (c, fs) => (match cs.lookup c with
    | some m => if fs.lookup meth = none then (ms ρ s1).bnd fun ds s2 => retag ρ (m (d :: ds) s2) else .bad
    | none => .bad)
  | none => .bad
section
variable {X : Cx} {W : WX} {k j n : Nat} {x f : Str} {p pos pos' apos cpos : Pos} {e o fe : Expr} {es : List Expr} {mo mv mf : ME} {ms : MA} {m : FM} {cs : List Str}
end
end VL
namespace VL
open PySem PySem.Spec PyProof.Rows L2

/-! ### {k: v for .. in ..}, keys tuples -/
def tDcT (wi : TI) (g : TG) (tt : TT) (tk tv : TE) (vs : List Nat) : TE := fun σ H Q => wi σ H fun J H1 => ∀ D, H1 D = none → ∃ Wd : Nat → Nat → Hp → Prop, (∃ m, Wd 0 m (upd H1 D (.dT []))) ∧ ∀ j m H, Wd j m H →
  (J.stop j H ∧ Q (.ref D) H) ∨ (J.go j H ∧ ∃ Ny : Hp → Prop, (∀ H', Ny H' → ∃ m', m' < m ∧ Wd (j + 1) m' H') ∧ ∀ x H', J.yld j H x H' → g x (L2.wipe σ vs) H' fun σ2 H2 => L2.wipe σ2 vs = L2.wipe σ vs ∧ tt σ2 H2 fun b H3 =>
    if b = true then tk σ2 H3 fun y H4 => tv σ2 H4 fun z H5 => ∃ kvs k b, y = .ref b ∧ H5 b = some (.tup (k.map kV)) ∧ H5 D = some (.dT kvs) ∧ kvs.length < sizeLine ∧ Ny (upd H5 D (.dT (putK kvs k z))) else Ny H3)
section
variable {X : Cx}
end
/-! its mirror -/
def dcGo (src : Src) (t : Tg) (tt : MT) (mk mv : ME) (ρw : Ev) : Nat → Nat → List (D × D) → S → R (List (D × D))
  | 0, i, acc, s => (match srcAt s src with
    | some xs => if xs.length = i then .ok acc s else .bad
    | none => .bad)
  | n + 1, i, acc, s => (match srcAt s src with
    | some xs => (match xs[i]? with
      | some d => (match tgM t d ρw with
        | some ρ1 => (noX (tt ρ1 s)).bnd fun k s1 => if k = true then (noX (mk ρ1 s1)).bnd fun kd s2 => (noX (mv ρ1 s2)).bnd fun vd s3 => (match keyT kd with
            | some ky => if acc.length < LIM then dcGo src t tt mk mv ρw n (i + 1) (put keyT acc kd ky vd) s3 else .bad
            | none => .bad) else dcGo src t tt mk mv ρw n (i + 1) acc s1
        | none => .bad)
      | none => .bad)
    | none => .bad)
def finT (acc : List (D × D)) (s : S) : R D := .ok (.obj s.length) (s ++ [.dctT acc])
def mDcT (it : MI) (t : Tg) (tt : MT) (mk mv : ME) (vs : List Nat) : ME := fun ρ s => ((it ρ s).bnd fun src s1 => match srcAt s1 src with
  | some xs => if (∀ i ∈ t.slots, i ∈ vs) then dcGo src t tt mk mv (wipeD ρ vs) xs.length 0 [] s1 else .bad
  | none => .bad).bnd finT
section
variable {X : Cx} {W : WX}
variable {kx vx tg iter : Expr} {ifs : List Expr} {scope : Scope} {own : List (Str × Nat)} {pos spos : Pos} {it : MI} {t : Tg} {tt : MT} {mk mv : ME}
end
end VL
namespace VL
open PySem PySem.Spec PyProof.Rows L2

/-! ### min of a list of ints -/
def fMinL : FA := fun xs s => match xs with
  | [x] => (match (asL s x).bind toI with
    | some (n :: ns) => .ok (.int (ns.foldl min n)) s
    | _ => .bad)
  | _ => .bad
/-! ### list(d), keys tuples -/
def dkeys (s : S) : D → Option (List D)
  | .obj n => match s[n]? with
    | some (.dctT kvs) => some (kvs.map (·.1))
    | some (.dctTL kvs) => some (kvs.map (·.1))
    | _ => none
  | _ => none
def fListOU : FA := fun xs s => match xs with
  | [x] => (match dkeys s x with
    | some ds => .ok (.obj s.length) (s ++ [.lst ds])
    | none => fListO [x] s)
  | _ => .bad
section
variable {G : Cg} {W : WX} {ι : Z} {H : Hp} {s : S}
abbrev rListDT : List V → Hp → VK → Prop := fun xs H Q => ∃ d kvs, xs = [V.ref d] ∧ Rd H d (.dT kvs) ∧ ∀ p bs, H p = none → IsKeys H kvs bs → Q (.ref p) (upd H p (.lst (bs.map V.ref)))
end
/-! ### d.get(k, x) -/
def isDO (s : S) : D → Bool
  | .obj n => match s[n]? with
    | some (.dct _) => true
    | some (.dctT _) => true
    | some (.dctL _) => true
    | some (.dctTL _) => true
    | _ => false
  | _ => false
def mGet2 (mo mk md : ME) : ME := fun ρ s => (mo ρ s).bnd fun x s1 => if isDO s1 x = true then (mk ρ s1).bnd fun y s2 => (md ρ s2).bnd fun z s3 => (match dgetD s3 x y with
  | some o => .ok (o.getD z) s3
  | none => .bad) else .bad
section
variable {X : Cx} {W : WX} {o e f : Expr} {mo mk md : ME} {apos cpos : Pos}
end
/-! tables of classes whose instances are called -/
def mst (s : Stmt) (j : Nat) : Stmt := match s with
  | .ClassDef _ _ _ body _ _ _ _ _ _ _ => body.getD j (.Pass ⟨0, 0, 0, 0⟩)
  | _ => .Pass ⟨0, 0, 0, 0⟩
section
variable {P : Program} {w : World} {K : PySem.W.Frag} {mg : Str → Option Value} {base : Heap} {k n : Nat}
end
end VL
namespace VL
open PySem PySem.Spec PyProof.Rows L2

/-! ### for (..), v in d.items(), keys tuples: the dict is locked for good -/
def Itit (d : Addr) (o : Obj) (kvs : List (List Key × V)) : It :=
  ⟨fun i H => H d = some (.frz o (.dT kvs)) ∧ i < kvs.length, fun i H x H' => ∃ (T q : Addr) (k : List Key) (v : V), kvs[i]? = some (k, v) ∧ x = .ref T ∧ H T = none ∧ H q = some (.tup (k.map kV)) ∧ H' = upd H T (.tup [.ref q, v]), fun i H => H d = some (.frz o (.dT kvs)) ∧ kvs.length ≤ i⟩
section
variable {P : Program} {w : World} {K : PySem.W.Frag} {d : Addr} {o : Obj} {es : Array DictEntry} {ep : Nat}
end
def iItemsT (td : TE) : TI := fun σ H R => td σ H fun x H1 => ∃ d kvs, x = .ref d ∧ ((H1 d = some (.dT kvs) ∧ ∀ o, R (Itit d o kvs) (upd H1 d (.frz o (.dT kvs)))) ∨ ∃ o, H1 d = some (.frz o (.dT kvs)) ∧ R (Itit d o kvs) H1)
section
variable {X : Cx} {W : WX} {e : Expr} {td : TE} {apos cpos tpos : Pos} {elts : List Expr} {kk : Nat}
end
def mItems (mo : ME) : MI := fun ρ s => (mo ρ s).bnd fun x s1 => match x with
  | .obj n => (match s1[n]? with
    | some (.dctT kvs) => .ok (.fix (kvs.map fun p => .tup [p.1, p.2])) (s1.set n (.dctTL kvs))
    | some (.dctTL kvs) => .ok (.fix (kvs.map fun p => .tup [p.1, p.2])) s1
    | _ => .bad)
  | _ => .bad
section
variable {X : Cx} {W : WX} {e : Expr} {mo : ME} {apos cpos tpos : Pos} {elts : List Expr} {kk : Nat}
end
end VL
namespace VL
open PySem PySem.Spec PyProof.Rows L2
open PySem.W (AlikeAll minD readsAll_len iter_listW iter_tupleW cmpIn_lt moved_old argBest_fold reads_keeps)

/-! ### min of tuples of numbers -/
section
variable {prog : Program} {w : World} {A : Around} {E : Value → Shared → Prop} {s : Shared}
end
def pyT (l : List Int) : PyData := .tuple (l.map .int)
def ltI : List Int → List Int → Bool
  | [], [] => false
  | [], _ :: _ => true
  | _ :: _, [] => false
  | a :: as, b :: bs => if a = b then ltI as bs else decide (a < b)
def minI (l : List Int) (ls : List (List Int)) : List Int := ls.foldl (fun a y => if ltI y a = true then y else a) l
abbrev rMinD (K : PySem.W.Frag) : List V → Hp → VK → Prop := fun vs H Q => ∃ (a : Addr) (us : List V) (x : PyData) (xs : List PyData), vs = [V.ref a] ∧ SqL K H a us ∧ DpAll K H us (x :: xs) ∧ AlikeAll (x :: xs) ∧ PyData.depthAll (x :: xs) ≤ 60 ∧ ∀ (i : Nat) (v : V), us[i]? = some v → (x :: xs).getD i .none = minD x xs → Q v H
abbrev rMin2D (K : PySem.W.Frag) : List V → Hp → VK → Prop := fun vs H Q => ∃ (a b : V) (x y : PyData), vs = [a, b] ∧ Dp K H a x ∧ Dp K H b y ∧ AlikeAll [x, y] ∧ PyData.depthAll [x, y] ≤ 60 ∧ ∀ (i : Nat) (v : V), [a, b][i]? = some v → [x, y].getD i .none = minD x [y] → Q v H
/-! their mirrors -/
def toT : D → Option (List Int)
  | .tup ds => toI ds
  | _ => none
def toTs : List D → Option (List (List Int))
  | [] => some []
  | d :: ds => match toT d, toTs ds with
    | some l, some ls => some (l :: ls)
    | _, _ => none
def fMinT : FA := fun xs s => match xs with
  | [x] => (match (asL s x).bind toTs with
    | some (l :: ls) => .ok (.tup ((minI l ls).map .int)) s
    | _ => .bad)
  | _ => .bad
def fMin2T : FA := fun xs s => match xs with
  | [x, y] => (match toT x, toT y with
    | some a, some b => .ok (.tup ((minI a [b]).map .int)) s
    | _, _ => .bad)
  | _ => .bad
section
variable {G : Cg} {W : WX}
end
end VL
namespace VL
open PySem PySem.Spec PyProof.Rows L2

/-! ### d != {} -/
section
variable {prog : Program} {w : World} {A : Around} {E : Value → Shared → Prop} {s : Shared}
end
def rNeE : R2 := fun x y H Q => ∃ a b ks, x = .ref a ∧ y = .ref b ∧ Rd H a (.dT ks) ∧ Rd H b (.dT []) ∧ Q (.bl (!decide (ks.length = 0))) H
def opNeE : F2 := fun x y s => match dkeys s x, dkeys s y with
  | some ds, some [] => .ok (.bl (!decide (ds.length = 0))) s
  | _, _ => .bad
end VL
namespace VL
open PySem PySem.Spec PyProof.Rows L2

/-! ### sorted of tuples of ints, any number of them, any lengths but 0 -/
section
variable {prog : Program} {w : World} {A : Around} {E : Value → Shared → Prop} {s : Shared} {Q : Bool → Shared → Prop}
end
def rSortedTL (K : PySem.W.Frag) : List V → Hp → VK → Prop := fun vs H Q => ∃ (a : Addr) (xs : List V) (k : V → List Int), vs = [V.ref a] ∧ SqL K H a xs ∧ (∀ x ∈ xs, k x ≠ [] ∧ ∃ t, x = V.ref t ∧ H t = some (.tup ((k x).map V.int))) ∧
  ∀ ys p, ys.Pairwise (fun x y => HT.lexLt (k y) (k x) = false) → ys.Perm xs → H p = none → Q (.ref p) (upd H p (.lst ys))
/-! its mirror -/
def sortLe (a b : List Int) : Bool := !HT.lexLt b a
def sortL (ls : List (List Int)) : List (List Int) := ls.mergeSort sortLe
theorem lexLt_self : ∀ a : List Int, HT.lexLt a a = false
  | [] => rfl
  | x :: xs => by rw [HT.lexLt_cons, if_pos rfl]; exact lexLt_self xs
def fSortedTL : FA := fun xs s => match xs with
  | [x] => (match (asL s x).bind toTs with
    | some ls => if ls.all (fun l => !l.isEmpty) = true then .ok (.lst ((sortL ls).map fun l => .tup (l.map .int))) s else .bad
    | none => .bad)
  | _ => .bad
section
variable {G : Cg} {ι : Z} {H : Hp}
/-- the ints of a tuple of the heap -/
def intsV (H : Hp) : V → List Int
  | .ref a => match H a with
    | some (.tup xs) => xs.map fun v => match v with
      | .int i => i
      | _ => 0
    | _ => []
  | _ => []
end
end VL
namespace VL
open PySem PySem.Spec PyProof.Rows L2

/-! ### xs.pop(i), xs.index(x) of lists -/
theorem RelDs.erase {G : Cg} {ι : Z} {H : Hp} : ∀ {xs : List D} {vs : List V}, RelDs G ι H xs vs → ∀ k, RelDs G ι H (xs.eraseIdx k) (vs.eraseIdx k)
  | [], vs, r, k => by simp only [RelDs] at r; subst r; simp only [List.eraseIdx_nil]; exact .nil
  | x :: xs, vs, r, 0 => by
    simp only [RelDs] at r
    obtain ⟨v, t, rfl, _, r2⟩ := r
    exact r2
  | x :: xs, vs, r, k + 1 => by
    simp only [RelDs] at r
    obtain ⟨v, t, rfl, r1, r2⟩ := r
    simp only [List.eraseIdx_cons_succ]
    exact .cons r1 (RelDs.erase r2 k)
noncomputable def fPopAt (x y : D) (s : S) : R D := match x, y with
  | .obj n, .int i => (match s[n]? with
    | some (.lst ds) => if inR i then (match seqIndex? i ds.length with
      | some k => (match ds[k]? with
        | some d => .ok d (s.set n (.lst (ds.eraseIdx k)))
        | none => .bad)
      | none => .bad) else .bad
    | _ => .bad)
  | _, _ => .bad
noncomputable def mPopAt (mo mi : ME) : ME := fun ρ s => (mo ρ s).bnd fun x s1 => if isLstO s1 x = true then (mi ρ s1).bnd fun y s2 => fPopAt x y s2 else .bad
def fIndex (x y : D) (s : S) : R D := match asL s x with
  | some ds => if flatD y = true ∧ ds.all flatD = true then (match ds.findIdx? fun d => eqF d y with
    | some j => .ok (.int (j : Nat)) s
    | none => .bad) else .bad
  | none => .bad
def mIndex (mo mi : ME) : ME := fun ρ s => (mo ρ s).bnd fun x s1 => if (asL s1 x).isSome = true then (mi ρ s1).bnd fun y s2 => fIndex x y s2 else .bad
section
variable {X : Cx} {W : WX} {o e : Expr} {mo me : ME} {apos cpos : Pos}
end

noncomputable def mListRgO (m : ME) : ME := fun ρ s => (m ρ s).bnd fun d s1 => match d with
  | .int j => if rgOkD j then .ok (.obj s1.length) (s1 ++ [.lst (rngD 0 j.toNat)]) else .bad
  | _ => .bad
/-! ### texts: str(n), sep.join(xs), f-strings -/
def CStr (i : Int) : Prop := i.natAbs.log2 < 1920
noncomputable instance (i : Int) : Decidable (CStr i) := Classical.propDecidable _
noncomputable def fStrI : FA := fun xs s => match xs with
  | [.int i] => if CStr i then .ok (.str (toString i)) s else .bad
  | _ => .bad
def toSs : List D → Option (List Str)
  | [] => some []
  | .str x :: ds => (toSs ds).map (x :: ·)
  | _ :: _ => none
def fJoin (x y : D) (s : S) : R D := match x, (asL s y).bind toSs with
  | .str a, some ys => if (ys.map (·.length)).sum + ys.length * a.length ≤ LIM then .ok (.str (Txt.join a ys)) s else .bad
  | _, _ => .bad
def isStrD : D → Bool
  | .str _ => true
  | _ => false
def mJoin (mo ml : ME) : ME := fun ρ s => (mo ρ s).bnd fun x s1 => if isStrD x = true then (ml ρ s1).bnd fun y s2 => fJoin x y s2 else .bad
/-- the parts of an f-string -/
noncomputable def mFmt (m : ME) : ME := fun ρ s => (m ρ s).bnd fun d s1 => match d with
  | .str y => if y.length ≤ LIM then .ok (.str y) s1 else .bad
  | .int i => if CStr i then .ok (.str (toString i)) s1 else .bad
  | _ => .bad
def mJs : List ME → Str → ME
  | [], acc, _, s => .ok (.str acc) s
  | m :: ms, acc, ρ, s => (m ρ s).bnd fun d s1 => match d with
    | .str y => if (acc ++ y).length ≤ LIM then mJs ms (acc ++ y) ρ s1 else .bad
    | _ => .bad
section
variable {X : Cx} {W : WX} {o e : Expr} {mo me : ME} {apos pos : Pos}
end
end VL
namespace VL
open PySem PySem.Spec PyProof.Rows L2

/-! ### raise C(), try .. except C: (no name) -/
structure ExcOk (K : PySem.W.Frag) (mg : Str → Option Value) (x : Str) (C : Addr) : Prop where
  g : mg x = some (.ref C)
  e : PySem.W.excIn K C He.veBase "ValueError.__new__" = true
  k : PySem.W.keepIn K (.ref C) = true
  b : PySem.W.subIn K (.ref C) (.type "BaseException") = some true
  t : PySem.W.typeIn K (.ref C) = some (.type "type")
def mRaise (c : Str) : MS := fun ρ s => .exn c none ρ s
def mTry (tab : List (Str × Bool)) (body suite : MS) : MS := fun ρ s => match body ρ s with
  | .exn c fs ρ' s' => (match tab.lookup c with
    | some true => noX (suite ρ' s')
    | some false => .exn c fs ρ' s'
    | none => .bad)
  | r => r
section
variable {X : Cx} {W : WX}
end

/-! ### dicts with plain keys: items(), get(k), setdefault(k, v), list(d) -/
def tLockK (td : TE) : TE := fun σ H Q => td σ H fun x H1 => ∃ d kvs, x = .ref d ∧ ((H1 d = some (.dK kvs) ∧ ∀ o, Q x (upd H1 d (.frz o (.dK kvs)))) ∨ ∃ o, H1 d = some (.frz o (.dK kvs)) ∧ Q x H1)
def mItemsK (mo : ME) : MI := fun ρ s => (mo ρ s).bnd fun x s1 => match x with
  | .obj n => (match s1[n]? with
    | some (.dct kvs) => .ok (.fix (kvs.map fun p => .tup [p.1, p.2])) (s1.set n (.dctL kvs))
    | some (.dctL kvs) => .ok (.fix (kvs.map fun p => .tup [p.1, p.2])) s1
    | _ => .bad)
  | _ => .bad
def mSetd (mo mk mv : ME) : ME := fun ρ s => (mo ρ s).bnd fun x s1 => if isDO s1 x = true then (mk ρ s1).bnd fun y s2 => (mv ρ s2).bnd fun z s3 => (match x with
  | .obj n => (match s3[n]? with
    | some (.dct kvs) => (match keyD y with
      | some k => if kvs.length < LIM then (match look keyD kvs k with
        | some v => .ok v s3
        | none => .ok z (s3.set n (.dct (put keyD kvs y k z)))) else .bad
      | none => .bad)
    | _ => .bad)
  | _ => .bad) else .bad
def mGet1 (mo mk : ME) : ME := fun ρ s => (mo ρ s).bnd fun x s1 => if isDO s1 x = true then (mk ρ s1).bnd fun y s2 => (match dgetD s2 x y with
  | some o => .ok (o.getD .non) s2
  | none => .bad) else .bad
/-- list(d) of a dict with plain keys -/
def dkeysK (s : S) : D → Option (List D)
  | .obj n => match s[n]? with
    | some (.dct kvs) => some (kvs.map (·.1))
    | _ => none
  | _ => none
def fListK : FA := fun xs s => match xs with
  | [x] => (match dkeysK s x with
    | some ds => .ok (.lst ds) s
    | none => .bad)
  | _ => .bad
section
variable {X : Cx} {W : WX} {o e f : Expr} {mo mk mv : ME} {apos cpos tpos : Pos} {elts : List Expr} {kk : Nat}
end
end VL
namespace VL
open PySem PySem.Spec PyProof.Rows L2

/-! ### zip of a list and a tuple, by what the two iterators do -/
/-- an iterator at it over what stands at l: St i, i items are out -/
structure Nx (P : Program) (w : World) (it l : Addr) (St : Nat → Heap → Prop) (xs : Array Value) : Prop where
  item : ∀ {A : Around} {E : Value → Shared → Prop} {s : Shared} {i : Nat} {x : Value} {Q : Value → Shared → Prop}, St i s.heap → xs[i]? = some x → (∀ h', St (i + 1) h' → Heap.SameBut it s.heap h' → Q x { s with heap := h' }) →
    wpAny (model P w) A (Builtin.SmallTypes.nextOf (.ref it)) Q E s
  fin : ∀ {A : Around} {E : Value → Shared → Prop} {s : Shared} {i : Nat} {Q : Value → Shared → Prop}, A.handled = none → St i s.heap → xs[i]? = none →
    (∀ h' e, Heap.ExtBut it s.heap h' → (∃ o, h'.get? e = some o ∧ o.cls = .type "StopIteration") → E (.ref e) { s with heap := h' }) → wpAny (model P w) A (Builtin.SmallTypes.nextOf (.ref it)) Q E s
  keep : ∀ {i : Nat} {h h' : Heap}, St i h → (∀ c o, c = it ∨ c = l → h.get? c = some o → h'.get? c = some o) → St i h'
  obj : ∀ {i : Nat} {h : Heap}, St i h → ∃ o, h.get? it = some o
def StL (it l : Addr) (xs : Array Value) (i : Nat) (h : Heap) : Prop := h.IsListIter it l i ∧ h.IsList l xs
def StT (it l : Addr) (xs : Array Value) (i : Nat) (h : Heap) : Prop := h.IsTupleIter it l i ∧ h.IsTuple l xs
section
variable {P : Program} {w : World} {it l : Addr} {xs ys : Array Value}
end
section
variable {P : Program} {w : World} {A : Around} {E : Value → Shared → Prop} {s : Shared} {z TI TO i1 i2 l1 l2 : Addr} {k1 k2 : Nat} {xs ys : Array Value} {x y a b : Value} {S1 S2 : Nat → Heap → Prop}
end
/-! .. made -/
abbrev zm1 (h : Heap) (l1 : Addr) : Heap := h.push { cls := .type "list_iterator", data := .fields #[.ref l1, .int 0 0] }
abbrev zm2 (h : Heap) (l1 l2 : Addr) : Heap := (zm1 h l1).push { cls := .type "tuple_iterator", data := .fields #[.ref l2, .int 0 0] }
abbrev zm3 (h : Heap) (l1 l2 : Addr) : Heap := (zm2 h l1 l2).push { cls := .type "tuple", data := .seq #[.ref h.objs.size, .ref (zm1 h l1).objs.size] }
abbrev zm4 (h : Heap) (l1 l2 : Addr) : Heap := (zm3 h l1 l2).push { cls := .type "tuple", data := .seq #[.none, .none] }
abbrev zm5 (h : Heap) (l1 l2 : Addr) : Heap := (zm4 h l1 l2).push { cls := .type "zip", data := .fields #[.none, .bool false, .bool false, .ref (zm2 h l1 l2).objs.size, .ref (zm3 h l1 l2).objs.size] }
section
variable {P : Program} {w : World} {A : Around} {E : Value → Shared → Prop} {s : Shared}
end
/-- the list at a, the tuple at b, as they stand at each turn -/
def ItzM (K : PySem.W.Frag) (a b : Addr) : It :=
  ⟨fun i H => ∃ (xs ys : List V) (x y : V), SqL K H a xs ∧ SqT K H b ys ∧ xs[i]? = some x ∧ ys[i]? = some y,
    fun i H v H' => ∃ T x y, v = .ref T ∧ H T = none ∧ H' = upd H T (.tup [x, y]) ∧ (∀ xs, SqL K H a xs → xs[i]? = some x) ∧ ∀ ys, SqT K H b ys → ys[i]? = some y,
    fun i H => ∃ xs ys : List V, SqL K H a xs ∧ SqT K H b ys ∧ (xs.length ≤ i ∨ ys.length ≤ i)⟩
def iZipM (K : PySem.W.Frag) (ta : TA) : TI := fun σ H R => ta σ H fun vs H1 => ∃ a b xs ys, vs = [.ref a, .ref b] ∧ ((SqL K H1 a xs ∧ SqL K H1 b ys ∧ R (Itz K a b) H1) ∨ (SqT K H1 a xs ∧ SqT K H1 b ys ∧ R (RZ.ItzT K a b) H1) ∨ (SqL K H1 a xs ∧ SqT K H1 b ys ∧ R (ItzM K a b) H1))
/-! .. by values -/
def zipD (xs ys : List D) : List D := List.zipWith (fun a b => .tup [a, b]) xs ys
def zipF : List D → S → R Src := fun ds s1 => match ds with
  | [.tup xs, .tup ys] => .ok (.fix (zipD xs ys)) s1
  | [.lst xs, .lst ys] => .ok (.fix (zipD xs ys)) s1
  | [.lst xs, .tup ys] => .ok (.fix (zipD xs ys)) s1
  | [.tupF xs, .tup ys] => .ok (.fix (zipD xs ys)) s1
  | [.tupF xs, .tupF ys] => .ok (.fix (zipD xs ys)) s1
  | [.lst xs, .tupF ys] => .ok (.fix (zipD xs ys)) s1
  | _ => .bad
def mZip (ms : MA) : MI := fun ρ s => (ms ρ s).bnd zipF
section
variable {G : Cg} {ι : Z} {H : Hp} {xs ys : List D} {vs us : List V} {a b : Addr}
end
section
variable {X : Cx} {W : WX}
end
end VL
namespace VL
open PySem PySem.Spec PyProof.Rows L2

/-! ### properties, classmethods, cls(..), methods, repr by an own __repr__ -/
structure ClP (P : Program) (w : World) (K : PySem.W.Frag) (mg : Str → Option Value) (base : Heap) (k : Nat) (x f : Str) (m : FM) : Prop where
  ex : ∀ C, mg x = some (.ref C) → ∃ (p g : Addr) (fd : FuncData) (ps : List Str), Cls K C ∧ PropOf K C f p g ∧ FnG P w K mg base k g fd ps (spG ⟨K, mg⟩ 1 m) ∧ Binds K fd ps []
structure ClC (P : Program) (w : World) (K : PySem.W.Frag) (mg : Str → Option Value) (base : Heap) (k : Nat) (x meth : Str) (n : Nat) (m : FM) : Prop where
  ex : ∃ (C p g : Addr) (fd : FuncData) (ps : List Str), mg x = some (.ref C) ∧ ClX.CRead K C (.type "type") ∧ ClX.CMet K C (.type "type") meth p g ∧ FnG P w K mg base k g fd ps (spG ⟨K, mg⟩ (n + 1) m) ∧ Binds K fd ps []
def mProp (tab : List (Str × FM)) (mo : ME) : ME := fun ρ s => (mo ρ s).bnd fun d s1 => match insOf s1 d with
  | some (c, _) => (match tab.lookup c with
    | some m => noX (m [d] s1)
    | none => .bad)
  | none => .bad
def mClsM (x : Str) (m : FM) (ms : MA) : ME := fun ρ s => (ms ρ s).bnd fun ds s1 => retag ρ (m (.glo x :: ds) s1)
def mNewV (tab : List (Str × FM)) (mf : ME) (ms : MA) : ME := fun ρ s => (mf ρ s).bnd fun d s1 => match d with
  | .glo c => (match tab.lookup c with
    | some m => mNew c m ms ρ s1
    | none => .bad)
  | _ => .bad
def fReprI (tab : List (Str × FM)) : FA := fun xs s => match xs with
  | [d] => (match insOf s d with
    | some (c, _) => (match tab.lookup c with
      | some m => (noX (m [d] s)).bnd fun r s2 => (match r with
        | .str x => .ok (.str x) s2
        | _ => .bad)
      | none => .bad)
    | none => .bad)
  | _ => .bad
theorem RoomG.in1 {k : Nat} {A : Around} (r : RoomG (k + 1) A) : RoomG k A.in1 := ⟨r.r.in1, r.g⟩
def XN : XK := fun _ _ _ => False
section
variable {X : Cx} {W : WX} {k j n : Nat} {x f meth : Str} {p pos pos' apos cpos : Pos} {e o fe : Expr} {es : List Expr} {mo mv mf : ME} {ms : MA} {m : FM} {tab : List (Str × FM)}
theorem cx_none {outer : List Env} {H : Hp} {s s' : Shared} {e : Value} (h : L2.CX X.prog X.w outer H s XN e s') : False := by
  obtain ⟨_, _, _, _, _, _, _, _, _, _, _, _, w⟩ := h
  exact w
/-- repr(o) by an own __repr__ -/
def rReprI (X : Cx) (k : Nat) : List V → Hp → VK → Prop := fun xs H Q => ∃ a C dx fs g fd ps m, xs = [V.ref a] ∧ H a = some (.ins C dx fs) ∧ Meth X.K C "__repr__" g ∧ FnG X.prog X.w X.K X.mg X.base k g fd ps (spG (cg X) 1 m) ∧ Binds X.K fd ps [] ∧
  spG (cg X) 1 m [V.ref a] H (fun v H' => ∃ y, v = .str y ∧ Q (.str y) H') XN
end
end VL
namespace VL
open PySem PySem.Spec PyProof.Rows L2

/-! ### facts about classes; what a head tells -/
section
variable {P : Program} {w : World} {K : PySem.W.Frag} {mg : Str → Option Value} {base : Heap} {k n : Nat} {x f meth : Str} {C q g : Addr} {fd : FuncData} {ps : List Str} {m : FM}
theorem FnG.mono {j : Nat} {sp : Sp} (F : FnG P w K mg base k g fd ps sp) (h : k ≤ j) : FnG P w K mg base j g fd ps sp := ⟨F.len, fun A outer st H args us vs Q E hr => F.run A outer st H args us vs Q E (hr.mono h)⟩
theorem ClP.mono {j : Nat} (c : ClP P w K mg base k x f m) (h : k ≤ j) : ClP P w K mg base j x f m := ⟨fun C g => let ⟨p, g, fd, ps, a, b, F, d⟩ := c.ex C g; ⟨p, g, fd, ps, a, b, F.mono h, d⟩⟩
theorem ClM.mono {j : Nat} (c : ClM P w K mg base k x meth n m) (h : k ≤ j) : ClM P w K mg base j x meth n m := ⟨fun C g => let ⟨g, fd, ps, a, b, F, d⟩ := c.ex C g; ⟨g, fd, ps, a, b, F.mono h, d⟩⟩
theorem ClN.mono {j : Nat} (c : ClN P w K mg base k x n m) (h : k ≤ j) : ClN P w K mg base j x n m := let ⟨C, f, fd, ps, a, b, F, d⟩ := c.ex; ⟨C, f, fd, ps, a, b, F.mono h, d⟩
end
inductive FaV where
  | fa (f : He.Fa) | prop (x f : Str) | cread (x : Str) | cmet (x m : Str) | gen (b : PySem.W.Frag → Bool)
def propB (K : PySem.W.Frag) (C : Addr) (f : Str) : Bool := He.eqO (PySem.W.findIn K (.ref C) f) (some (some (.ref (He.ma K C f)))) && (He.eqO (PySem.W.specialIn K (.ref (He.ma K C f)) "__get__") (some (some (.builtin "property.__get__"))) &&
  (decide (PySem.W.takesIn K (.ref (He.ma K C f)) = some true) && (match PySem.W.recIn K (He.ma K C f) "property" with
    | some (.ref _ :: _) => true
    | _ => false)))
def FaV.ok (K : PySem.W.Frag) : FaV → Bool
  | .fa f => f.ok K
  | .prop x f => propB K (He.ga K x) f
  | .cread x => PySem.W.readsIn K (He.ga K x) (.type "type") && He.eqO (PySem.W.specialIn K (.ref (He.ga K x)) "__getattribute__") (some (some (.builtin "type.__getattribute__")))
  | .gen b => b K
  | .cmet x m => He5.wrapB K (He.ga K x) "classmethod" "classmethod.__get__" m && PySem.W.fnIn K (He5.wf K (He.ga K x) "classmethod" m)
/-- where a def stands -/
abbrev atG (x : Str) : PySem.W.Frag → Addr := fun K => He.ga K x
abbrev atM (x m : Str) : PySem.W.Frag → Addr := fun K => He.ma K (He.ga K x) m
abbrev atW (x : Str) (T : String) (m : Str) : PySem.W.Frag → Addr := fun K => He5.wf K (He.ga K x) T m
def obsV (fa : List FaV) (fn : List He5.DefA) (K : PySem.W.Frag) : He.AlD := ((fa.all fun f => f.ok K) && fn.all fun d => d.ok K, fn.map fun d => He5.fnA K (d.at_ K))
def SaysV (fa : List FaV) (fn : List He5.DefA) (K : PySem.W.Frag) : Prop := obsV fa fn K = He5.valA fn
def obsVG (n : Nat) (fa : List FaV) (fn : List He5.DefA) (g : Addr → Option Obj) : He.AlD := obsV fa fn (He.frG g (He5.asA g n))
def hookV (n : Nat) (fa : List FaV) (fn : List He5.DefA) : PySem.W.Hook where
  α := He.AlD
  obs := fun s => obsVG n fa fn s.heap.get?
  val := fun _ => He5.valA fn
  says := fun _ h => ∃ K : PySem.W.Frag, K.In h ∧ SaysV fa fn K
  of := fun _ _ e => ⟨_, He.frG_in, e⟩
  keeps := fun _ _ _ ⟨K, hK, c⟩ k => ⟨K, PySem.W.Frag.In.keeps hK k, c⟩
section
variable {fa : List FaV} {fn : List He5.DefA} {K : PySem.W.Frag}
theorem SaysV.fact (c : SaysV fa fn K) (i : Nat) {f : FaV} (h : fa[i]? = some f := by rfl) : f.ok K = true := by
  have c1 := (He.ba (show ((fa.all fun f => f.ok K) && fn.all fun d => d.ok K) = true from congrArg (fun z : He.AlD => z.1) c)).1
  exact List.all_eq_true.mp c1 f (List.mem_of_getElem? h)
theorem SaysV.def_ (c : SaysV fa fn K) (i : Nat) {d : He5.DefA} (h : fn[i]? = some d := by rfl) : ∃ fd, L2.FunD K d.name d.qual d.params d.body d.scope (d.dvs K) (d.kws K) (d.at_ K) fd := by
  have c2 := (He.ba (show ((fa.all fun f => f.ok K) && fn.all fun d => d.ok K) = true from congrArg (fun z : He.AlD => z.1) c)).2
  have e : fn.map (fun d => He5.fnA K (d.at_ K)) = fn.map He5.DefA.val := congrArg (fun z : He.AlD => z.2) c
  have e2 : (fn.map fun d => He5.fnA K (d.at_ K))[i]? = (fn.map He5.DefA.val)[i]? := by rw [e]
  rw [List.getElem?_map, List.getElem?_map, h] at e2
  exact He5.DefA.funD (Option.some.inj e2) (List.all_eq_true.mp c2 d (List.mem_of_getElem? h))
end
end VL
namespace VL
open PySem PySem.Spec PyProof.Rows L2

/-! ### tuples whose methods are called: t.count(i), t.index(i) of ints -/
def rTupF (K : PySem.W.Frag) : List V → Hp → VK → Prop := fun vs H Q => ∃ p xs, vs = [.ref p] ∧ SqL K H p xs ∧ ∀ q (ob : Obj), ob.dict = none → H q = none → Q (.ref q) (upd H q (.frz ob (.tup xs)))
def fTupleF : FA := fun xs s => match xs with
  | [x] => (match asL s x with
    | some ds => .ok (.tupF ds) s
    | none => .bad)
  | _ => .bad
def tyF (x : V) (H : Hp) : Prop := ∃ a ob xs, x = .ref a ∧ ob.dict = none ∧ H a = some (.frz ob (.tup xs))
def mCountF (mo me : ME) : ME := fun ρ s => (mo ρ s).bnd fun d s1 => match d with
  | .tupF ds => (match toI ds with
    | some ns => (me ρ s1).bnd fun e s2 => (match e with
      | .int k => .ok (.int (ns.count k : Nat)) s2
      | _ => .bad)
    | none => .bad)
  | _ => .bad
def mIndexF (mo me : ME) : ME := fun ρ s => (mo ρ s).bnd fun d s1 => match d with
  | .tupF ds => (match toI ds with
    | some ns => (me ρ s1).bnd fun e s2 => (match e with
      | .int k => if k ∈ ns then .ok (.int (ns.idxOf k : Nat)) s2 else .bad
      | _ => .bad)
    | none => .bad)
  | _ => .bad
section
variable {X : Cx} {W : WX} {o e : Expr} {mo me : ME} {apos cpos : Pos}
end
end VL
namespace VL
open PySem PySem.Spec PyProof.Rows L2

/-! ### own operators -/
section
variable {prog : Program} {w : World} {M : Model} {A : Around} {E : Value → Shared → Prop} {s : Shared} {K : PySem.W.Frag} {x y C L f : Addr} {h₀ : Heap} {m : Str → Option Value} {ox : Obj} {od : Option Obj} {name : Str}
end
structure NeOk (K : PySem.W.Frag) (C : Addr) : Prop where
  ne : PySem.W.findIn K (.ref C) "__ne__" = some (some (.builtin "object.__ne__"))
  mro : PySem.W.mroIn K C (.type "object") = some true
def relV_ni {v : V} (r : RelV v .notImplemented) : False := by
  cases v <;> first | exact (nomatch (show Value.notImplemented = _ from r)) | (obtain ⟨t, e⟩ := r; cases e)
section
variable {X : Cx} {W : WX} {k j : Nat} {tab : List (Str × FM)}
def rOwn2 (X : Cx) (k : Nat) (meth : Str) (P : Addr → Prop) (P2 : V → VK → Hp → Prop) : R2 := fun x y H Q => ∃ a b C dx dy fs gs g fd ps m, x = V.ref a ∧ y = V.ref b ∧ H a = some (.ins C dx fs) ∧ H b = some (.ins C dy gs) ∧ Meth X.K C meth g ∧ P C ∧
  FnG X.prog X.w X.K X.mg X.base k g fd ps (spG (cg X) 2 m) ∧ Binds X.K fd ps [] ∧ spG (cg X) 2 m [x, y] H (fun v H' => P2 v Q H') XN
end
/-! ### the value layer's side -/
def opOwn (tab : List (Str × FM)) (f : D → Option D) : F2 := fun x y s => match insOf s x, insOf s y with
  | some (c, _), some (c', _) => if c = c' then (match tab.lookup c with
    | some m => (noX (m [x, y] s)).bnd fun r s2 => (match f r with
      | some d => .ok d s2
      | none => .bad)
    | none => .bad) else .bad
  | _, _ => .bad
def fBl (f : Bool → Bool) : D → Option D
  | .bl b => some (.bl (f b))
  | _ => none
def opEqI (tab : List (Str × FM)) : F2 := opOwn tab (fBl id)
def opNeI (tab : List (Str × FM)) : F2 := opOwn tab (fBl not)
def opAddI (tab : List (Str × FM)) : F2 := opOwn tab some
section
variable {X : Cx} {W : WX} {k j n : Nat} {tab : List (Str × FM)} {meth : Str} {P : Addr → Prop} {P2 : V → VK → Hp → Prop} {f : D → Option D} {x : Str} {C : Addr}
/-! ### `*` by an int -/
structure MulOk (K : PySem.W.Frag) (C : Addr) : Prop where
  sf : PySem.W.selfFirst K C = true
  rr : PySem.W.findIn K (.ref C) "__rmul__" = some none
  i1 : ∃ fo, PySem.W.findIn K (.type "int") "__mul__" = some fo
  i2 : ∃ fo, PySem.W.findIn K (.type "int") "__rmul__" = some fo
  sub : PySem.W.subIn K (.type "int") (.ref C) = some false
def rMulI (X : Cx) (k : Nat) : R2 := fun x y H Q => ∃ a C dx fs i g fd ps m, x = V.ref a ∧ y = V.int i ∧ H a = some (.ins C dx fs) ∧ Meth X.K C "__mul__" g ∧ MulOk X.K C ∧
  FnG X.prog X.w X.K X.mg X.base k g fd ps (spG (cg X) 2 m) ∧ Binds X.K fd ps [] ∧ spG (cg X) 2 m [x, y] H Q XN
def opMulI (tab : List (Str × FM)) : F2 := fun x y s => match insOf s x, y with
  | some (c, _), .int i => (match tab.lookup c with
    | some m => noX (m [x, .int i] s)
    | none => .bad)
  | _, _ => .bad
/-! ### isinstance(x, C) -/
def fIsiC (x : Str) : FA := fun xs s => match xs with
  | [d, .glo x'] => if x' = x then (match insOf s d with
    | some (c, _) => if c = x then .ok (.bl true) s else .bad
    | none => .bad) else .bad
  | _ => .bad
/-! ### t == () -/
def rEqE (K : PySem.W.Frag) : R2 := fun x y H Q => ∃ a b xs, x = V.ref a ∧ y = V.ref b ∧ SqT K H a xs ∧ SqT K H b [] ∧ Q (.bl xs.isEmpty) H
def opEqE : F2 := fun x y s => match x, y with
  | .tup xs, .tup ys => if ys.isEmpty then .ok (.bl xs.isEmpty) s else .bad
  | _, _ => .bad
end
end VL
namespace VL
open PySem PySem.Spec PyProof.Rows L2

/-! ### a, *b = t -/
section
variable {prog : Program} {w : World} {A : Around} {E : Value → Shared → Prop} {s : Shared}
end
section
variable {X : Cx} {W : WX} {pos p : Pos} {e1 e2 : Expr} {k : Nat}
def gStar2 (K : PySem.W.Frag) (t : TGs) : TG := fun v σ H Q => ∃ a x xs, v = .ref a ∧ SqT K H a (x :: xs) ∧ xs.length ≤ 16000 ∧ ∀ p, H p = none → t [x, .ref p] σ (upd H p (.lst xs)) Q
def gTS (gs : MGs) : MG := fun d ρ s => match d with
  | .tup (d0 :: ds) => if ds.length ≤ 16000 then gs [d0, .lst ds] ρ s else .bad
  | _ => .bad
end

/-! ### C.m(..), m a static method -/
structure ClS (P : Program) (w : World) (K : PySem.W.Frag) (mg : Str → Option Value) (base : Heap) (k : Nat) (x meth : Str) (n : Nat) (m : FM) : Prop where
  ex : ∃ (C p g : Addr) (fd : FuncData) (ps : List Str), mg x = some (.ref C) ∧ ClX.CRead K C (.type "type") ∧ PySem.W.findCls K (.ref C) (.type "type") meth = some (.get (.builtin "staticmethod.__get__") (.ref p) .none (.ref C)) ∧
    (∃ rest, PySem.W.recIn K p "staticmethod" = some (.ref g :: rest)) ∧ PySem.W.keepIn K (.ref g) = true ∧ FnG P w K mg base k g fd ps (spG ⟨K, mg⟩ n m) ∧ Binds K fd ps []
section
variable {X : Cx} {W : WX} {k j n : Nat} {x meth : Str} {pos apos : Pos} {e o : Expr} {es : List Expr} {ms : MA} {m : FM}
end
section
variable {P : Program} {w : World} {K : PySem.W.Frag} {mg : Str → Option Value} {base : Heap} {k n : Nat} {x meth : Str} {C q g : Addr} {fd : FuncData} {ps : List Str} {m : FM}
/-- C.m is a staticmethod: its record at p, its def at g -/
structure SMet (K : PySem.W.Frag) (C : Addr) (m : Str) (p g : Addr) : Prop where
  at_ : PySem.W.findCls K (.ref C) (.type "type") m = some (.get (.builtin "staticmethod.__get__") (.ref p) .none (.ref C))
  rc : ∃ rest, PySem.W.recIn K p "staticmethod" = some (.ref g :: rest)
  kp : PySem.W.keepIn K (.ref g) = true
def smetB (x m : Str) (K : PySem.W.Frag) : Bool := He5.wrapB K (He.ga K x) "staticmethod" "staticmethod.__get__" m && PySem.W.keepIn K (.ref (He5.wf K (He.ga K x) "staticmethod" m))
def isiB (x : Str) (K : PySem.W.Frag) : Bool := He.eqO (PySem.W.findIn K (.ref (He.ga K x)) "__class__") (some (some (.builtin "object.__class__"))) && (He.eqO (PySem.W.specialIn K (.builtin "object.__class__") "__get__") (some (some (.builtin "getset_descriptor.__get__"))) &&
  (decide (PySem.W.takesIn K (.builtin "object.__class__") = some true) && (decide (PySem.W.mroIn K (He.ga K x) (.type "object") = some true) && decide (PySem.W.kitOne K (.ref (He.ga K x)) (.ref (He.ga K x)) = some true))))
def neB (x : Str) (K : PySem.W.Frag) : Bool := He.eqO (PySem.W.findIn K (.ref (He.ga K x)) "__ne__") (some (some (.builtin "object.__ne__"))) && decide (PySem.W.mroIn K (He.ga K x) (.type "object") = some true)
def mulB (x : Str) (K : PySem.W.Frag) : Bool := PySem.W.selfFirst K (He.ga K x) && (He.eqO (PySem.W.findIn K (.ref (He.ga K x)) "__rmul__") (some none) && ((PySem.W.findIn K (.type "int") "__mul__").isSome && ((PySem.W.findIn K (.type "int") "__rmul__").isSome &&
  decide (PySem.W.subIn K (.type "int") (.ref (He.ga K x)) = some false))))
end
def sfB (x : Str) (K : PySem.W.Frag) : Bool := PySem.W.selfFirst K (He.ga K x)
section
variable {X : Cx} {W : WX} {pos : Pos}
end
end VL
namespace VL
open PySem PySem.Spec PyProof.Rows L2
/-! tuple * k, k any small number, the tuple of any length -/
section
variable {X : Cx} {G : Cg} {W : WX}
def rRepS (K : PySem.W.Frag) : R2 := fun x y H Q => ∃ l k xs, x = .ref l ∧ y = .int k ∧ SqT K H l xs ∧ (xs = [] ∨ k = 1) ∧ -1000 ≤ k ∧ k ≤ 1000 ∧ Q (.ref l) H
def rRepZ (K : PySem.W.Frag) : R2 := fun x y H Q => ∃ l k xs, x = .ref l ∧ y = .int k ∧ SqT K H l xs ∧ xs ≠ [] ∧ k ≤ 0 ∧ -1000 ≤ k ∧ ∀ p, H p = none → Q (.ref p) (upd H p (.tup []))
abbrev rRepTA (K : PySem.W.Frag) : R2 := fun x y H Q => rRepS K x y H Q ∨ rRepZ K x y H Q ∨ rRepT K x y H Q
def opMulT : F2 := fun x y s => match x, y with
  | .tup xs, .int k => if -1000 ≤ k ∧ k ≤ 1000 ∧ xs.length ≤ 1000 then .ok (.tup (List.replicate k.toNat xs).flatten) s else .bad
  | _, _ => .bad
end
end VL
namespace VL
open PySem PySem.Spec PyProof.Rows L2

/-! ### super().m(..) -/
def mSup (c : Str) (m : FM) (ms : MA) : ME := fun ρ s => match ρ[0]? with
  | some (some d) => (match insOf s d with
    | some (c', _) => if c' = c then (ms ρ s).bnd fun ds s1 => retag ρ (m (d :: ds) s1) else .bad
    | none => .bad)
  | _ => .bad
/-- where super().meth of an instance of C, told in the text of D, is the def g; i: the slot of __class__ -/
structure SupX (X : Cx) (C D g : Addr) (meth : Str) (i : Nat) : Prop where
  ks : X.env.scope.names.lookup ("super" : Str) = some .globalImplicit
  kc : X.env.scope.names.lookup ("__class__" : Str) = some .free
  nm : X.N[i]? = some "__class__"
  fu : ∃ (f : Addr) (fd : FuncData) (oc : Value) (od : Option Addr) (osl : Array (Option Value)) (ar : Arg), X.env.func = some f ∧ X.K.lookup f = some ⟨oc, od, .func fd, osl⟩ ∧ (fd.params.posonlyargs ++ fd.params.args).head? = some ar ∧ X.N[0]? = some ar.arg ∧ X.env.scope.names.lookup ar.arg = some .local ∧
    (ar.arg == ("__classdict__" : Str)) = false
  co : ∃ (cda : Addr) (ccl : Value) (cdd : Option Addr) (vs : Array Value) (ccs : Array (Option Value)) (file : Str) (tf : Tok), X.env.code = .ref cda ∧ X.K.lookup cda = some ⟨ccl, cdd, .fields vs, ccs⟩ ∧ vs[2]? = some (.str file tf) ∧ ((X.prog.main.file : Str) == file) = true
  top : (X.prog.main.scope.names.lookup ("super" : Str)).isSome = false
  mg : X.mg "super" = none
  cD : ∃ cdD, PySem.W.clsIn X.K D = some cdD
  sub : PySem.W.mroIn X.K C (.ref D) = some true
  op : PySem.W.nsIn X.K cStatics "thirdparty.any" = some none
  at_ : PySem.W.ks_superIn X.K C D meth = some (some (.ref g))
  ty : PySem.W.typeIn X.K (.ref g) = some (.type "function")
  fi : PySem.W.fnIn X.K g = true
section
variable {X : Cx} {pins : List (Addr × Obj)} {σ : L2.St} {H : Hp} {st : Shared} {a C D g dx : Addr} {fs : List (Str × V)} {meth : Str} {i : Nat} {body : List Stmt} {p0 p1 apos cpos : Pos} {whole : Sem Value} {pl : Sem Bool}
open PySem.W in
end
end VL
namespace VL
open PySem PySem.Spec PyProof.Rows L2

/-! ### what is run in a body that is known to stand on top -/
/-- i: the slot of __class__, D: the class that stands there -/
structure PEa (X : Cx) (b : List Stmt) (i : Nat) (D : Addr) (e : Expr) (t : TE) : Prop where
  run : ∀ (pins : List (Addr × Obj)) (s : Shared) (σ : L2.St) (H : Hp) (Q : VK), Inv X pins σ H s → σ[i]? = some (some (.ref D)) → t σ H Q → _root_.PySem.wpAt (model X.prog X.w) X.A (.func b X.env) (eval e X.env) (EP X pins σ Q) X.xe s
structure PSa (X : Cx) (b : List Stmt) (i : Nat) (D : Addr) (st : List Stmt) (t : TS) : Prop where
  run : ∀ (pins : List (Addr × Obj)) (s : Shared) (σ : L2.St) (H : Hp) (Dn : Ends), Inv X pins σ H s → σ[i]? = some (some (.ref D)) → t Dn σ H → _root_.PySem.wpAt (model X.prog X.w) X.A (.func b X.env) (execs st X.env) (SP X pins Dn) X.xe s
abbrev VEa (X : Cx) (W : WX) (b : List Stmt) (i : Nat) (D : Addr) (e : Expr) (m : ME) : Prop := PEa X b i D e (rdE (cg X) W m)
abbrev VSa (X : Cx) (W : WX) (b : List Stmt) (i : Nat) (D : Addr) (st : List Stmt) (m : MS) : Prop := PSa X b i D st (rdS (cg X) W m)
section
variable {X : Cx} {W : WX} {k j n i : Nat} {C D g dx : Addr} {fd : FuncData} {ps : List Str} {c x : Str} {m : FM} {ms : MA} {e : Expr} {es rest : List Expr} {sts body : List Stmt} {meth : Str} {p p0 p1 apos cpos pos : Pos} {pl : Sem Bool} {me : ME} {mr : MS}
open PySem.W in
end
/-! ### defs that close over __class__ -/
structure FunC (K : PySem.W.Frag) (D : Addr) (file x qual : Str) (params : Arguments) (body : List Stmt) (scope : Scope) (dvs : List V) (f : Addr) (fd : FuncData) : Prop where
  ex : ∃ (oc : Value) (od : Option Addr) (dV kV doc pm : Value) (an : Option Addr) (cda : Addr) (ct : Value) (osl : Array (Option Value)) (cc : Addr) (cl : Value) (cld : Option Addr) (csl : Array (Option Value)) (ccl : Value) (cdd : Option Addr) (vs : Array Value) (ccs : Array (Option Value)) (tf : Tok),
    fd = PySem.W.fnX x qual params body scope [("__class__", cc)] dV kV doc pm an (.ref cda) ct ∧ K.lookup f = some ⟨oc, od, .func fd, osl⟩ ∧ PySem.W.codeIn K (.ref cda) qual = true ∧ K.lookup cc = some ⟨cl, cld, .cell (some (.ref D)), csl⟩ ∧
      K.lookup cda = some ⟨ccl, cdd, .fields vs, ccs⟩ ∧ vs[2]? = some (.str file tf) ∧ DflV K dV dvs
  kp : PySem.W.keepIn K (.ref f) = true
/-- the context of its body -/
abbrev cxC (P : Program) (w : World) (K : PySem.W.Frag) (mg : Str → Option Value) (base : Heap) (N : List Str) (x qual : Str) (params : Arguments) (body : List Stmt) (scope : Scope) (cda cc f : Addr) (A : Around) (outer : List Env) (st : Shared) (H : Hp) (E : XK) : Cx :=
  NdefX.ncx (L2.CX P w) P w K mg base N ⟨x, qual, params, body, scope, [("__class__", cc)], cda⟩ f A outer st H E
section
variable {P : Program} {w : World} {K : PySem.W.Frag} {mg : Str → Option Value} {base : Heap}
end
/-! ### what super() needs -/
structure SupK (K : PySem.W.Frag) (C D g : Addr) (meth : Str) : Prop where
  cD : ∃ cdD, PySem.W.clsIn K D = some cdD
  sub : PySem.W.mroIn K C (.ref D) = some true
  at_ : PySem.W.ks_superIn K C D meth = some (some (.ref g))
  ty : PySem.W.typeIn K (.ref g) = some (.type "function")
  fi : PySem.W.fnIn K g = true
structure SupG (K : PySem.W.Frag) (mg : Str → Option Value) : Prop where
  mg : mg "super" = none
  op : PySem.W.nsIn K cStatics "thirdparty.any" = some none
structure SupP (P : Program) (file : Str) : Prop where
  top : (P.main.scope.names.lookup ("super" : Str)).isSome = false
  fl : ((P.main.file : Str) == file) = true
/-- of an instance of c, told in the text of D: the def that super().meth is -/
structure ClU (P : Program) (w : World) (K : PySem.W.Frag) (mg : Str → Option Value) (base : Heap) (k : Nat) (c : Str) (D : Addr) (meth : Str) (n : Nat) (m : FM) : Prop where
  ex : ∃ (C g : Addr) (fd : FuncData) (ps : List Str), mg c = some (.ref C) ∧ SupK K C D g meth ∧ FnG P w K mg base k g fd ps (spG ⟨K, mg⟩ (n + 1) m) ∧ Binds K fd ps []
section
variable {P : Program} {w : World} {K : PySem.W.Frag} {mg : Str → Option Value} {base : Heap}
theorem ClU.mono {k j n : Nat} {c meth : Str} {D : Addr} {m : FM} (cl : ClU P w K mg base k c D meth n m) (h : k ≤ j) : ClU P w K mg base j c D meth n m := let ⟨C, g, fd, ps, a, b, F, d⟩ := cl.ex; ⟨C, g, fd, ps, a, b, F.mono h, d⟩
end
end VL
namespace VL
open PySem PySem.Spec PyProof.Rows L2
/-! ### the head, with defs that close over __class__ -/
def supA (c d meth : Str) (K : PySem.W.Frag) : Addr := match PySem.W.ks_superIn K (He.ga K c) (He.ga K d) meth with
  | some (some (.ref a)) => a
  | _ => 0
def supB (c d meth : Str) (K : PySem.W.Frag) : Bool := (PySem.W.clsIn K (He.ga K d)).isSome && (decide (PySem.W.mroIn K (He.ga K c) (.ref (He.ga K d)) = some true) && (He.eqO (PySem.W.ks_superIn K (He.ga K c) (He.ga K d) meth) (some (some (.ref (supA c d meth K)))) &&
  (decide (PySem.W.typeIn K (.ref (supA c d meth K)) = some (.type "function")) && PySem.W.fnIn K (supA c d meth K))))
def opaB (K : PySem.W.Frag) : Bool := He.eqO (PySem.W.nsIn K cStatics "thirdparty.any") (some none)
structure DefC where
  at_ : PySem.W.Frag → Addr
  name : PySem.Str
  qual : PySem.Str
  params : Arguments
  body : List Stmt
  scope : Scope
  dfl : List He.Dv := []
  cls : PySem.Str
  file : PySem.Str
abbrev FnC : Type := Option (Str × Str × Arguments × FuncBody × Scope × Addr × List Str × Addr)
def fnC (K : PySem.W.Frag) (a : Addr) : FnC := match K.lookup a with
  | some ⟨_, _, .func fd, _⟩ => some (fd.name, fd.qualname, fd.params, fd.body, fd.scope, fd.globals, fd.closure.map (·.1), fd.builtins)
  | _ => none
def DefC.val (d : DefC) : FnC := some (d.name, d.qual, d.params, .stmts d.body, d.scope, mainGlobals, ["__class__"], builtinsNs)
def DefC.dvs (K : PySem.W.Frag) (d : DefC) : List L2.V := d.dfl.map (He.Dv.v K)
def cellB (K : PySem.W.Frag) (D : Addr) : List (Str × Addr) → Bool
  | [(_, cc)] => (match K.lookup cc with
    | some ⟨_, _, .cell (some (.ref D')), _⟩ => decide (D' = D)
    | _ => false)
  | _ => false
def fileB (K : PySem.W.Frag) (file : Str) : Value → Bool
  | .ref cda => (match K.lookup cda with
    | some ⟨_, _, .fields vs, _⟩ => (match vs[2]? with
      | some (Value.str f _) => decide (f = file)
      | _ => false)
    | _ => false)
  | _ => false
def DefC.ok (K : PySem.W.Frag) (d : DefC) : Bool := PySem.W.keepIn K (.ref (d.at_ K)) && (match K.lookup (d.at_ K) with
  | some ⟨_, _, .func fd, _⟩ => PySem.W.codeIn K fd.code d.qual && (He.dflB K fd.defaults (d.dvs K) && (cellB K (He.ga K d.cls) fd.closure && fileB K d.file fd.code))
  | _ => false)
abbrev AlW : Type := Bool × List He5.FnW × List FnC
def obsW (fa : List FaV) (fn : List He5.DefA) (fc : List DefC) (K : PySem.W.Frag) : AlW := ((fa.all fun f => f.ok K) && ((fn.all fun d => d.ok K) && fc.all fun d => d.ok K), fn.map fun d => He5.fnA K (d.at_ K), fc.map fun d => fnC K (d.at_ K))
def valW (fn : List He5.DefA) (fc : List DefC) : AlW := (true, fn.map He5.DefA.val, fc.map DefC.val)
def SaysW (fa : List FaV) (fn : List He5.DefA) (fc : List DefC) (K : PySem.W.Frag) : Prop := obsW fa fn fc K = valW fn fc
/-- what is of use of what an object names -/
def refsW (o : Obj) : List Addr := match o.data with
  | .dict es _ => es.toList.flatMap fun e => He.refV e.val
  | .func fd => He.refV fd.code ++ (He.refV fd.defaults ++ fd.closure.map (·.2))
  | .cls cd => cd.ns :: cd.mro.flatMap He.refV
  | .fields vs => (match o.cls with
    | .type "property" => vs.toList.flatMap He.refV
    | .type "classmethod" => vs.toList.flatMap He.refV
    | .type "staticmethod" => vs.toList.flatMap He.refV
    | _ => [])
  | _ => []
def nextW (g : Addr → Option Obj) (as : List Addr) : List Addr := (as.flatMap fun a => match g a with
  | some o => refsW o
  | none => []).eraseDups
def levW (g : Addr → Option Obj) : Nat → List Addr → List Addr
  | 0, as => as
  | n + 1, as => as ++ levW g n (nextW g as)
def asW (g : Addr → Option Obj) (n : Nat) : List Addr := levW g n [mainGlobals] ++ [cStatics]
def obsWG (n : Nat) (fa : List FaV) (fn : List He5.DefA) (fc : List DefC) (g : Addr → Option Obj) : AlW := obsW fa fn fc (He.frG g (asW g n))
def hookW (n : Nat) (fa : List FaV) (fn : List He5.DefA) (fc : List DefC) : PySem.W.Hook where
  α := AlW
  obs := fun s => obsWG n fa fn fc s.heap.get?
  val := fun _ => valW fn fc
  says := fun _ h => ∃ K : PySem.W.Frag, K.In h ∧ SaysW fa fn fc K
  of := fun _ _ e => ⟨_, He.frG_in, e⟩
  keeps := fun _ _ _ ⟨K, hK, c⟩ k => ⟨K, PySem.W.Frag.In.keeps hK k, c⟩
section
variable {fa : List FaV} {fn : List He5.DefA} {fc : List DefC} {K : PySem.W.Frag}
theorem SaysW.fact (c : SaysW fa fn fc K) (i : Nat) {f : FaV} (h : fa[i]? = some f := by rfl) : f.ok K = true := by
  have c1 := (He.ba (show ((fa.all fun f => f.ok K) && ((fn.all fun d => d.ok K) && fc.all fun d => d.ok K)) = true from congrArg (fun z : AlW => z.1) c)).1
  exact List.all_eq_true.mp c1 f (List.mem_of_getElem? h)
theorem SaysW.def_ (c : SaysW fa fn fc K) (i : Nat) {d : He5.DefA} (h : fn[i]? = some d := by rfl) : ∃ fd, L2.FunD K d.name d.qual d.params d.body d.scope (d.dvs K) (d.kws K) (d.at_ K) fd := by
  have c2 := (He.ba (He.ba (show ((fa.all fun f => f.ok K) && ((fn.all fun d => d.ok K) && fc.all fun d => d.ok K)) = true from congrArg (fun z : AlW => z.1) c)).2).1
  have e : fn.map (fun d => He5.fnA K (d.at_ K)) = fn.map He5.DefA.val := congrArg (fun z : AlW => z.2.1) c
  have e2 : (fn.map fun d => He5.fnA K (d.at_ K))[i]? = (fn.map He5.DefA.val)[i]? := by rw [e]
  rw [List.getElem?_map, List.getElem?_map, h] at e2
  exact He5.DefA.funD (Option.some.inj e2) (List.all_eq_true.mp c2 d (List.mem_of_getElem? h))
end
end VL
namespace VL
open PySem PySem.Spec PyProof.Rows L2
/-! ### instances of a class that stands below another one -/
/-- isinstance(x, D), x an instance of c -/
def fIsiD (c d : Str) : FA := fun xs s => match xs with
  | [x, .glo d'] => if d' = d then (match insOf s x with
    | some (c', _) => if c' = c then .ok (.bl true) s else .bad
    | none => .bad) else .bad
  | _ => .bad
structure IsD (K : PySem.W.Frag) (C D : Addr) : Prop where
  ins : C8.InsC K C
  md : PySem.W.kitOne K (.ref C) (.ref D) = some true
theorem RelDs.append {G : Cg} {ι : Z} {H : Hp} : ∀ {ds es : List D} {vs ws : List V}, RelDs G ι H ds vs → RelDs G ι H es ws → RelDs G ι H (ds ++ es) (vs ++ ws)
  | [], _, vs, ws, h1, h2 => by
    simp only [RelDs] at h1
    subst h1
    exact h2
  | d :: ds, _, vs, ws, h1, h2 => by
    simp only [RelDs] at h1
    obtain ⟨x, r, rfl, h3, h4⟩ := h1
    show RelDs G ι H (d :: (ds ++ _)) (x :: (r ++ ws))
    simp only [RelDs]
    exact ⟨x, _, rfl, h3, RelDs.append h4 h2⟩
section
variable {X : Cx} {W : WX} {C D : Addr} {c d : Str}
/-! ### constants of the class -/
def mCon (c f : Str) (y : Str) (mo : ME) : ME := fun ρ s => (mo ρ s).bnd fun d s1 => match insOf s1 d with
  | some (c', fs) => if c' = c ∧ fs.lookup f = none then .ok (.str y) s1 else .bad
  | none => .bad
structure ConS (K : PySem.W.Frag) (C : Addr) (f y : Str) : Prop where
  ex : ∃ t, Con K C f (.str y) (.str y t)
/-! ### *e in a display -/
def mStarC (m : ME) (ms : MA) : MA := fun ρ s => (m ρ s).bnd fun x s1 => match x with
  | .tup xs => (ms ρ s1).bnd fun ys s2 => .ok (xs ++ ys) s2
  | _ => .bad
/-! ### C(e, k = v) -/
structure ClNK (P : Program) (w : World) (K : PySem.W.Frag) (mg : Str → Option Value) (base : Heap) (k : Nat) (x kw : Str) (n : Nat) (m : FM) : Prop where
  ex : ∃ (C f : Addr) (fd : FuncData) (ps : List Str), mg x = some (.ref C) ∧ Mk K C f ∧ FnG P w K mg base k f fd ps (spG ⟨K, mg⟩ (n + 2) m) ∧ KBn K fd ps (n + 1) [kw] (fun us ws => us ++ ws) (fun vs zs => vs ++ zs)
def mSnoc (ms : MA) (mv : ME) : MA := fun ρ s => (ms ρ s).bnd fun ds s1 => (mv ρ s1).bnd fun d s2 => .ok (ds ++ [d]) s2
variable {k j n : Nat} {x kw : Str} {p pos kpos : Pos} {e v : Expr} {es : List Expr} {ms : MA} {mv : ME} {m : FM}
end
/-! ### facts -/
def isdB (c d : Str) (K : PySem.W.Frag) : Bool := isiB c K && decide (PySem.W.kitOne K (.ref (He.ga K c)) (.ref (He.ga K d)) = some true)
def conB (c f y : Str) (K : PySem.W.Frag) : Bool := match PySem.W.findIn K (.ref (He.ga K c)) f with
  | some (some (Value.str z t)) => decide (z = y) && (He.eqO (PySem.W.specialIn K (Value.str z t) "__get__") (some none) && !PySem.W.copiedNames.contains f)
  | _ => false
end VL
/-! a lambda without parameters, handed to a def that calls it; the table of code objects is a thing of the store -/
namespace VL
open PySem PySem.Spec PyProof.Rows L2
/-- what the making of a lambda does to the heap: nothing, or the table at P grows by a new code object -/
def LamH (H H1 : Hp) (P : Addr) (q : Str) : Prop := H1 = H ∨ ∃ (ps more : Array Value) (c' : Addr), H P = some (.tbl ps) ∧ H c' = none ∧ H1 = upd (upd H P (.tbl (ps ++ more))) c' (LamX.CodeO c' q)
section
variable {X : Cx} {pins : List (Addr × Obj)} {σ : L2.St} {H : Hp} {s : Shared}
end
end VL
namespace VL
open PySem PySem.Spec PyProof.Rows L2
/-- where nothing is let out -/
def R.nox {α : Type} : R α → R α
  | .ok a s => .ok a s
  | _ => .bad
@[simp] theorem R.nox_ok {α : Type} (a : α) (s : S) : (R.ok a s).nox = .ok a s := rfl
/-- x(lambda: e), x's def: try: return repr(a()) except .. (never reached); the table is the store's n-th thing -/
def mSaid (n : Nat) (x : Str) (mb : ME) : ME := fun ρ s => match s[n]? with
  | some (.tab y) => if y = x then (mb ρ s).nox.bnd fun d s1 => fRepr [d] s1 else .bad
  | _ => .bad
section
variable {X : Cx} {W : WX}
/-- what is asked of the def that is handed the lambda -/
structure SaidD (K : PySem.W.Frag) (mg : Str → Option Value) (x a ec en : Str) (Ng : List Str) (sg : Scope) (bg : List Stmt) (pg : Arguments) : Prop where
  ex : ∃ (g C : Addr) (fd : FuncData), FunD K x x pg bg sg [] [] g fd ∧ mg x = some (.ref g) ∧ Binds K fd [a] [] ∧ mg ec = some (.ref C)
  rp : mg "repr" = none
  sc : FnScope Ng [a] sg
  v0 : Ng[0]? = some a
  va : Vis sg a
  v1 : Ng[1]? = some en
  vn : sg.names.lookup en = some .local
  ge : sg.names.lookup ec = some .globalImplicit
  gr : sg.names.lookup ("repr" : Str) = some .globalImplicit
  ne : (ec == ("__debug__" : Str)) = false
  na : (a == ("__debug__" : Str)) = false
  nc : (a == ("__classdict__" : Str)) = false
  nx : (x == ("__debug__" : Str)) = false
end
end VL
/-! the law's end and its head where the law makes lambdas: the store begins with the table of the law's code objects -/
namespace VL
open PySem PySem.Spec PyProof.Rows L2
/-! the hook: as hookW, and what is known of the table of the def x -/
/-- the table at P is empty -/
def isTabB : Option Obj → Bool
  | some ⟨.none, none, .fields ⟨[]⟩, ⟨[]⟩⟩ => true
  | _ => false
theorem isTabB_ok {o : Option Obj} (h : isTabB o = true) : o = some { cls := .none, data := .fields #[] } := by
  unfold isTabB at h
  split at h
  · rfl
  · cases h
/-- the code object of the function at f and its table -/
def codeTabF (K : PySem.W.Frag) (f : Addr) : Option (Addr × Addr) := match K.lookup f with
  | some ⟨_, _, .func fd, _⟩ => (match fd.code with
    | .ref c => (match K.lookup c with
      | some ⟨_, _, .fields vs, _⟩ => (match (vs[11]? : Option Value) with | some (.ref P) => some (c, P) | _ => none)
      | _ => none)
    | _ => none)
  | _ => none
def tabB (x : Str) (g : Addr → Option Obj) (K : PySem.W.Frag) : Bool := match codeTabF K (He.ga K x) with
  | some (c, P) => isTabB (g P) && ((K.lookup P).isNone && PySem.W.codeHdIn K c P)
  | none => false
def hookT (x : Str) (n : Nat) (fa : List FaV) (fn : List He5.DefA) (fc : List DefC) : PySem.W.Hook where
  α := AlW × Bool
  obs := fun s => (obsWG n fa fn fc s.heap.get?, tabB x s.heap.get? (He.frG s.heap.get? (asW s.heap.get? n)))
  val := fun _ => (valW fn fc, true)
  says := fun _ h => ∃ K : PySem.W.Frag, K.In h ∧ SaysW fa fn fc K ∧ ∃ c P : Addr, codeTabF K (He.ga K x) = some (c, P) ∧ h.get? P = some { cls := .none, data := .fields #[] } ∧ K.lookup P = none ∧ PySem.W.codeHdIn K c P = true
  of := fun _ _ e => by
    refine ⟨_, He.frG_in, (Prod.mk.inj e).1, ?_⟩
    have e2 := (Prod.mk.inj e).2
    unfold tabB at e2
    split at e2
    · rename_i c P hq
      obtain ⟨h1, h2⟩ := He.ba e2
      obtain ⟨h2, h3⟩ := He.ba h2
      exact ⟨c, P, hq, isTabB_ok h1, Option.isNone_iff_eq_none.mp h2, h3⟩
    · cases e2
  keeps := fun _ _ _ ⟨K, hK, c, cc, P, h1, h2, h3, h4⟩ k => ⟨K, PySem.W.Frag.In.keeps hK k, c, cc, P, h1, k _ _ h2, h3, h4⟩
def obsTG (x : Str) (n : Nat) (fa : List FaV) (fn : List He5.DefA) (fc : List DefC) (g : Addr → Option Obj) : AlW × Bool := (obsWG n fa fn fc g, tabB x g (He.frG g (asW g n)))
end VL
/-! xs.pop(), len(o) and o[i] by own defs -/
namespace VL
open PySem PySem.Spec PyProof.Rows L2
def fPopL (x : D) (s : S) : R D := match x with
  | .obj n => (match s[n]? with
    | some (.lst ds) => (match ds[ds.length - 1]? with
      | some d => .ok d (s.set n (.lst ds.dropLast))
      | none => .bad)
    | _ => .bad)
  | _ => .bad
def mPopL (mo : ME) : ME := fun ρ s => (mo ρ s).bnd fun x s1 => fPopL x s1
theorem RelDs.dropLast {G : Cg} {ι : Z} {H : Hp} {xs : List D} {vs : List V} (r : RelDs G ι H xs vs) : RelDs G ι H xs.dropLast vs.dropLast := by
  rw [List.dropLast_eq_take, List.dropLast_eq_take, r.len]
  exact r.take _
section
variable {X : Cx} {W : WX} {o : Expr} {mo : ME} {apos cpos : Pos}
end
/-! ### len(o) -/
def CLen (n : Int) : Prop := 0 ≤ n ∧ n < 1000000
noncomputable instance (n : Int) : Decidable (CLen n) := Classical.propDecidable _
noncomputable def fLenI (tab : List (Str × FM)) : FA := fun xs s => match xs with
  | [d] => (match insOf s d with
    | some (c, _) => (match tab.lookup c with
      | some m => (noX (m [d] s)).bnd fun r s2 => (match r with
        | .int n => if CLen n then .ok (.int n) s2 else .bad
        | _ => .bad)
      | none => .bad)
    | none => .bad)
  | _ => .bad
section
variable {X : Cx} {W : WX} {k j : Nat} {tab : List (Str × FM)}
def rLenI (X : Cx) (k : Nat) : List V → Hp → VK → Prop := fun xs H Q => ∃ a C dx fs g fd ps m, xs = [V.ref a] ∧ H a = some (.ins C dx fs) ∧ Meth X.K C "__len__" g ∧ FnG X.prog X.w X.K X.mg X.base k g fd ps (spG (cg X) 1 m) ∧ Binds X.K fd ps [] ∧
  spG (cg X) 1 m [V.ref a] H (fun v H' => ∃ n : Int, v = .int n ∧ (0 ≤ n ∧ n < 1000000) ∧ Q (.int n) H') XN
/-! ### o[i] -/
def GetOk (K : PySem.W.Frag) (C : Addr) : Prop := ∀ f : Addr, PySem.W.findIn K (.ref C) "__getitem__" = some (some (.ref f)) → PySem.W.fnIn K f = true
def getB (x : Str) (K : PySem.W.Frag) : Bool := match PySem.W.findIn K (.ref (He.ga K x)) "__getitem__" with
  | some (some (.ref f)) => PySem.W.fnIn K f
  | _ => false
def opIxI (tab : List (Str × FM)) : F2 := fun x y s => match insOf s x with
  | some (c, _) => (match tab.lookup c with
    | some m => noX (m [x, y] s)
    | none => .bad)
  | none => .bad
end
end VL
/-! a def whose code object is known (fnG of VL6, and that) -/
namespace VL
open PySem PySem.Spec PyProof.Rows L2
section
variable {P : Program} {w : World} {K : PySem.W.Frag} {mg : Str → Option Value} {base : Heap}
end
end VL
/-! defs called within an except suite; isinstance of the handled exception; xs.count(True), xs.index(True) -/
namespace VL
open PySem PySem.Spec PyProof.Rows L2
/-! ### defs that may be called where an exception is handled -/
structure RoomP (k : Nat) (A : Around) : Prop where
  r : L2H.RoomH k A
  g : A.guards = some []
theorem RoomP.mono {j k : Nat} {A : Around} (r : RoomP k A) (h : j ≤ k) : RoomP j A := ⟨r.r.mono h, r.g⟩
theorem RoomP.units {k : Nat} {A : Around} (r : RoomP k A) : A.units + 65 < cLine := by have := r.r.un; omega
/-- p's object: the exception that is handled; the def is told of it -/
structure FnP (P : Program) (w : World) (K : PySem.W.Frag) (mg : Str → Option Value) (base : Heap) (p : Addr × Obj) (k : Nat) (f : Addr) (fd : FuncData) (ps : List Str) (sp : Sp) : Prop where
  len : ∀ vs H Q E, sp vs H Q E → vs.length = ps.length
  run : ∀ (A : Around) (outer : List Env) (st : Shared) (H : Hp) (args : Args) (us : List Value) (vs : List V) (Q : VK) (E : XK), RoomP k A → L2H.PinOk outer H st p → Env0 P w K mg base A outer st H → BindsTo st fd args (ps.zip us) → Vals vs us → sp vs H Q E →
    codeAny (model P w) A (.call (.ref f) args) (CR (L2.CX P w) outer P w H st Q E) st
section
variable {P : Program} {w : World} {K : PySem.W.Frag} {mg : Str → Option Value} {base : Heap}
end
/-- a call of such a def, where the exception is handled -/
def mHot (m : FM) (ms : MA) : ME := fun ρ s => (ms ρ s).bnd fun ds s1 => noX (m ds s1)
section
variable {X : Cx} {W : WX} {k j n : Nat} {x : Str} {q pos : Pos} {e : Expr} {es : List Expr} {ms : MA} {m : FM} {p : Addr × Obj}
theorem runP {f : Addr} {fd : FuncData} {ps : List Str} {sp : Sp} {pins : List (Addr × Obj)} {σ : L2.St} {H : Hp} {st : Shared} {Q : VK} {us : List Value} {vs : List V} (F : FnP X.prog X.w X.K X.mg X.base p k f fd ps sp) (hp : p ∈ X.pn) (hr : RoomP k X.A)
    (hb : Binds X.K fd ps []) (I : Inv X pins σ H st) (r : Vals vs us) (h : sp vs H Q XN) : wpAny (model X.prog X.w) X.A (call (.ref f) us) (EP X pins σ Q) X.xe st := by
  have hl : us.length = ps.length := by rw [← r.length]; exact F.len _ _ _ _ h
  have hbt := hb st us I.kIn (by rw [List.append_nil]; exact hl)
  rw [List.append_nil] at hbt
  have P1 := I.pin p (List.mem_append_left _ hp)
  have hpin : L2H.PinOk X.stack H st p := ⟨P1.1, P1.2.1, fun hm => (List.mem_cons.mp (I.stkSub p.1 hm)).elim P1.2.2.1 P1.2.2.2.1, P1.2.2.2.2⟩
  refine wpAny_call (codeAny_mono (F.run X.A X.stack st H ⟨us, []⟩ us vs Q XN hr hpin I.env0 hbt r h) fun rr s' hq => ?_)
  cases rr with
  | error e => exact (cx_none hq).elim
  | ok fl => cases fl with
    | ret u => exact I.after hq
    | next => exact hq.elim
    | brk => exact hq.elim
    | cont => exact hq.elim
/-- what is never reached -/
def mNeverE : ME := fun _ _ => .bad
end
/-! ### isinstance of the handled exception -/
section
variable {X : Cx} {W : WX} {a D : Addr} {oe : Obj}
/-- tab: own classes; tv: built-in ones -/
def fIsE (a : Addr) (tab : List (Str × Bool)) (tv : List (String × Bool)) : FA := fun xs s => match xs with
  | [.adr a', .glo c] => if a' = a then (match tab.lookup c with
    | some b => .ok (.bl b) s
    | none => .bad) else .bad
  | [.adr a', .ty n] => if a' = a then (match tv.lookup n with
    | some b => .ok (.bl b) s
    | none => .bad) else .bad
  | _ => .bad
end
end VL
/-! xs.count(True); a lambda handed to a def that catches what it lets out -/
namespace VL
open PySem PySem.Spec PyProof.Rows L2
def toBs : List D → Option (List Bool)
  | [] => some []
  | .bl b :: ds => (toBs ds).map fun bs => b :: bs
  | _ :: _ => none
def mCountB (mo me : ME) : ME := fun ρ s => (mo ρ s).bnd fun x s1 => if (asL s1 x).isSome = true then (me ρ s1).bnd fun y s2 => (match asL s2 x, y with
  | some ds, .bl k => (match toBs ds with
    | some bs => .ok (.int (bs.count k : Nat)) s2
    | none => .bad)
  | _, _ => .bad) else .bad
section
variable {X : Cx} {W : WX} {o e : Expr} {mo me : ME} {apos cpos : Pos}
end
/-! ### a lambda that may let exceptions out -/
section
variable {X : Cx} {pins : List (Addr × Obj)} {σ : L2.St} {H : Hp} {s : Shared}
end
/-- as mSaid, and the exceptions of tab's classes are told by their words -/
def mSaidX (n : Nat) (x : Str) (tab : List (Str × Str)) (mb : ME) : ME := fun ρ s => match s[n]? with
  | some (.tab y) => if y = x then (match mb ρ s with
    | .ok d s1 => fRepr [d] s1
    | .exn c none _ s1 => (match tab.lookup c with
      | some w => .ok (.str w) s1
      | none => .bad)
    | _ => .bad) else .bad
  | _ => .bad
section
variable {X : Cx} {W : WX}
end
/-! the words of the kinds of exceptions: the facts, the checks -/
def kTab (ks : List Str) (cn : Str) : List (Str × Bool) := ks.map fun k => (k, decide (k = cn))
def vTab : List (String × Bool) := [("ValueError", true)]
/-- what is known of the class cn, an exception of the kinds ks -/
structure KindX (K : PySem.W.Frag) (mg : Str → Option Value) (ks : List Str) (ec cn : Str) : Prop where
  C : ExcC K (He.ga K cn)
  g : mg cn = some (.ref (He.ga K cn))
  ge : mg ec = some (.ref (He.ga K ec))
  gk : ∀ k, k ∈ ks → mg k = some (.ref (He.ga K k))
  is : ∀ k, k ∈ ks → PySem.W.kitOne K (.ref (He.ga K cn)) (.ref (He.ga K k)) = some (decide (k = cn))
  ty : PySem.W.kitOne K (.ref (He.ga K cn)) (.type "ValueError") = some true
  ex : PySem.W.exmOne K (.ref (He.ga K cn)) (.ref (He.ga K ec)) = some true
def kindXB (ks : List Str) (ec cn : Str) (K : PySem.W.Frag) : Bool :=
  He.eqO (PySem.W.findIn K (.ref (He.ga K cn)) "__getattribute__") (some (some (.builtin "BaseException.__getattribute__"))) && (He.eqO (PySem.W.findIn K (.ref (He.ga K cn)) "__getattr__") (some none) && (decide (PySem.W.subIn K (.ref (He.ga K cn)) (.type "BaseException") = some true) &&
  (PySem.W.hasDictIn K (He.ga K cn) && (He.eqO (PySem.W.findIn K (.ref (He.ga K cn)) "__class__") (some (some (.builtin "object.__class__"))) && (He.eqO (PySem.W.specialIn K (.builtin "object.__class__") "__get__") (some (some (.builtin "getset_descriptor.__get__"))) &&
  (decide (PySem.W.takesIn K (.builtin "object.__class__") = some true) && (decide (PySem.W.mroIn K (He.ga K cn) (.type "object") = some true) && ((ks.all fun k => decide (PySem.W.kitOne K (.ref (He.ga K cn)) (.ref (He.ga K k)) = some (decide (k = cn)))) &&
  (decide (PySem.W.kitOne K (.ref (He.ga K cn)) (.type "ValueError") = some true) && decide (PySem.W.exmOne K (.ref (He.ga K cn)) (.ref (He.ga K ec)) = some true))))))))))
section
variable {X : Cx} {W : WX} {ks : List Str} {ec cn : Str}
theorem KindX.h1 (x : KindX X.K X.mg ks ec cn) : ∀ c b, (c, b) ∈ kTab ks cn → ∃ C, X.mg c = some (.ref C) ∧ PySem.W.kitOne X.K (.ref (He.ga X.K cn)) (.ref C) = some b := fun c b h => by
  obtain ⟨k, hk, e⟩ := List.mem_map.1 h
  injection e with e1 e2
  subst e1 e2
  exact ⟨_, x.gk k hk, x.is k hk⟩
theorem KindX.h2 (x : KindX X.K X.mg ks ec cn) : ∀ n b, (n, b) ∈ vTab → PySem.W.kitOne X.K (.ref (He.ga X.K cn)) (.type n) = some b := fun n b h => by
  rcases List.mem_cons.1 h with e | h
  · cases e; exact x.ty
  · cases h
end
/-! xs[lo:hi] of a list, the slice a changeable object -/
def opSlO (x : D) (lo hi : Option Int) (s : S) : R D := match asL s x with
  | some xs => .ok (.obj s.length) (s ++ [.lst (cutD xs lo hi)])
  | none => .bad
def mSlO (m : ME) (lo hi : MO) : ME := fun ρ s => (m ρ s).bnd fun x s1 => (lo ρ s1).bnd fun l s2 => (hi ρ s2).bnd fun h s3 => opSlO x l h s3
section
variable {X : Cx} {W : WX}
end
end VL
/-! _law_said of a lambda that gives an instance with an own __repr__ -/
namespace VL
open PySem PySem.Spec PyProof.Rows L2
/-- as mSaidX, what the lambda gives is an instance whose own __repr__ rt has -/
def mSaidXI (rt : List (Str × FM)) (n : Nat) (x : Str) (tab : List (Str × Str)) (mb : ME) : ME := fun ρ s => match s[n]? with
  | some (.tab y) => if y = x then (match mb ρ s with
    | .ok d s1 => fReprI rt [d] s1
    | .exn c none _ s1 => (match tab.lookup c with
      | some w => .ok (.str w) s1
      | none => .bad)
    | _ => .bad) else .bad
  | _ => .bad
section
variable {X : Cx} {W : WX}
end
end VL
/-! exceptions with fields: an __init__ that says super().__init__(text); self.f = a; self.g = b -/
namespace VL
open PySem PySem.Spec PyProof.Rows L2
/-- what super().__init__ of an exception of C, told in the text of C, needs; i: the slot of __class__ -/
structure SupE (X : Cx) (C : Addr) (i : Nat) : Prop where
  ks : X.env.scope.names.lookup ("super" : Str) = some .globalImplicit
  kc : X.env.scope.names.lookup ("__class__" : Str) = some .free
  nm : X.N[i]? = some "__class__"
  fu : ∃ (f : Addr) (fd : FuncData) (oc : Value) (od : Option Addr) (osl : Array (Option Value)) (ar : Arg), X.env.func = some f ∧ X.K.lookup f = some ⟨oc, od, .func fd, osl⟩ ∧ (fd.params.posonlyargs ++ fd.params.args).head? = some ar ∧ X.N[0]? = some ar.arg ∧ X.env.scope.names.lookup ar.arg = some .local ∧
    (ar.arg == ("__classdict__" : Str)) = false
  co : ∃ (cda : Addr) (ccl : Value) (cdd : Option Addr) (vs : Array Value) (ccs : Array (Option Value)) (file : Str) (tf : Tok), X.env.code = .ref cda ∧ X.K.lookup cda = some ⟨ccl, cdd, .fields vs, ccs⟩ ∧ vs[2]? = some (.str file tf) ∧ ((X.prog.main.file : Str) == file) = true
  top : (X.prog.main.scope.names.lookup ("super" : Str)).isSome = false
  mg : X.mg "super" = none
  sub : PySem.W.mroIn X.K C (.ref C) = some true
  op : PySem.W.nsIn X.K cStatics "thirdparty.any" = some none
  at_ : PySem.W.ks_superIn X.K C C "__init__" = some (some (.builtin "ValueError.__init__"))
  isB : PySem.W.subIn X.K (.ref C) (.type "ValueError") = some true
section
variable {X : Cx} {pins : List (Addr × Obj)} {σ : L2.St} {H : Hp} {st : Shared} {a C : Addr} {i : Nat} {body : List Stmt} {p0 p1 p2 p3 cpos : Pos} {whole : Sem Value} {pl : Sem Bool}
open PySem.W in
end
end VL
/-! exceptions with fields: raise C(x, y) -/
namespace VL
open PySem PySem.Spec PyProof.Rows L2
/-- the heap behind self.f1 = x; self.f2 = y -/
def hTM (H : Hp) (a C dx : Addr) (f1 f2 : Str) (x y : V) : Hp := upd (upd (upd H dx (exd dx [(f1, x)])) a (exo a C (some dx))) dx (exd dx [(f2, y), (f1, x)])
def spTM (C : Addr) (f1 f2 : Str) : Sp := fun vs H Q _ => ∃ a x y, vs = [V.ref a, x, y] ∧ H a = some (exo a C none) ∧ ∀ dx, H dx = none → dx ≠ a → Q .non (hTM H a C dx f1 f2 x y)
def tTM (C : Addr) (f1 f2 : Str) : TS := fun Dn σ H => ∃ a x y, σ[0]? = some (some (V.ref a)) ∧ σ[1]? = some (some x) ∧ σ[2]? = some (some y) ∧ H a = some (exo a C none) ∧ ∀ dx, H dx = none → dx ≠ a → Dn.nx σ (hTM H a C dx f1 f2 x y)
/-- what the written part says of such a class -/
structure TooC (K : PySem.W.Frag) (C fI : Addr) (f1 f2 : Str) : Prop where
  o : OexC K C
  n1 : PySem.W.findIn K (.ref C) f1 = some none
  n2 : PySem.W.findIn K (.ref C) f2 = some none
  iC : PySem.W.findIn K (.ref C) "__init__" = some (some (.ref fI))
  tI : PySem.W.typeIn K (.ref fI) = some (.type "function")
  sub : PySem.W.mroIn K C (.ref C) = some true
  op : PySem.W.nsIn K cStatics "thirdparty.any" = some none
  at_ : PySem.W.ks_superIn K C C "__init__" = some (some (.builtin "ValueError.__init__"))
  isB : PySem.W.subIn K (.ref C) (.type "ValueError") = some true
def oexB (K : PySem.W.Frag) (C : Addr) : Bool := (match K.lookup C with
  | some ⟨.type "type", _, .cls cd, sl⟩ => (match cd.mro, sl.toList with
    | .ref C' :: bm, [_, _, _, _, some (.builtin n), _] => decide (C' = C) && (decide (n = "ValueError.__new__") && (!cd.hasDel && (cd.hasDict && PySem.HandSPX.refsVE bm)))
    | _, _ => false)
  | _ => false) && (He.eqO (PySem.W.findIn K (.ref C) "__setattr__") (some (some (.builtin "object.__setattr__"))) && (decide (PySem.W.subIn K (.ref C) (.type "BaseException") = some true) && (decide (PySem.W.typeIn K (.ref C) = some (.type "type")) && PySem.W.keepIn K (.ref C))))
def tooB (c f1 f2 : Str) (K : PySem.W.Frag) : Bool := oexB K (He.ga K c) && (He.eqO (PySem.W.findIn K (.ref (He.ga K c)) f1) (some none) && (He.eqO (PySem.W.findIn K (.ref (He.ga K c)) f2) (some none) && (He.eqO (PySem.W.findIn K (.ref (He.ga K c)) "__init__") (some (some (.ref (He.ma K (He.ga K c) "__init__")))) &&
  (decide (PySem.W.typeIn K (.ref (He.ma K (He.ga K c) "__init__")) = some (.type "function")) && (decide (PySem.W.mroIn K (He.ga K c) (.ref (He.ga K c)) = some true) && (opaB K && (He.eqO (PySem.W.ks_superIn K (He.ga K c) (He.ga K c) "__init__") (some (some (.builtin "ValueError.__init__"))) &&
  decide (PySem.W.subIn K (.ref (He.ga K c)) (.type "ValueError") = some true))))))))
section
variable {X : Cx} {C fI : Addr} {f1 f2 : Str}
variable {P : Program} {w : World} {K : PySem.W.Frag} {mg : Str → Option Value} {base : Heap}
end
/-- the class x, its exceptions made with two values, the fields f1 and f2 -/
structure TooK (P : Program) (w : World) (K : PySem.W.Frag) (mg : Str → Option Value) (base : Heap) (k : Nat) (x f1 f2 : Str) : Prop where
  ex : ∃ (C fI : Addr) (fd : FuncData) (ps : List Str), mg x = some (.ref C) ∧ TooC K C fI f1 f2 ∧ FnOk P w K mg base (L2.CX P w) k fI fd ps (spTM C f1 f2) ∧ Binds K fd ps []
/-- raise c(x, y) -/
def mRaiseF (c f1 f2 : Str) (ms : MA) : MS := fun ρ s => (ms ρ s).bnd fun ds s1 => match ds with
  | [x, y] => .exn c (some [(f2, y), (f1, x)]) ρ s1
  | _ => .bad
section
variable {X : Cx} {W : WX} {k j : Nat} {x f1 f2 : Str} {p pos cpos : Pos} {e : Expr} {es : List Expr} {ms : MA}
end
end VL
/-! a caught exception with fields: isinstance, err.f; a lambda handed to a def that catches such ones too -/
namespace VL
open PySem PySem.Spec PyProof.Rows L2
section
variable {G : Cg} {ι : Z} {H : Hp} {s : S}
end
section
variable {X : Cx} {W : WX} {a D dx : Addr} {oe : Obj}
/-- isinstance(e, c), e the handled exception, its dict at dx -/
def rIsX (K : PySem.W.Frag) (D a dx : Addr) : List V → Hp → VK → Prop := fun xs H Q => ∃ (c : V) (cv : Value) (b : Bool) (gs : List (Str × V)), xs = [.ref a, c] ∧ (∀ u, RelV c u → u = cv) ∧ PySem.W.kitOne K (.ref D) cv = some b ∧ H dx = some (.xd gs) ∧ Q (.bl b) H
def fIsX (a dx : Addr) (tab : List (Str × Bool)) (tv : List (String × Bool)) : FA := fun xs s => match xs with
  | [.exc a' dx' ks, .glo c] => if a' = a ∧ dx' = dx then (match tab.lookup c with
    | some b => .ok (.bl b) s
    | none => .bad) else .bad
  | [.exc a' dx' ks, .ty n] => if a' = a ∧ dx' = dx then (match tv.lookup n with
    | some b => .ok (.bl b) s
    | none => .bad) else .bad
  | _ => .bad
/-- err.f -/
def mXf (a dx : Addr) (f : Str) (m : ME) : ME := fun ρ s => (m ρ s).bnd fun d s1 => match d with
  | .exc a' dx' ks => if a' = a ∧ dx' = dx then (match ks.lookup f with
    | some i => .ok (.int i) s1
    | none => .bad) else .bad
  | _ => .bad
end
/-! repr of plain data and of instances with an own __repr__ -/
def fReprU (rt : List (Str × FM)) : FA := fun xs s => match xs with
  | [d] => (match insOf s d with
    | some _ => fReprI rt xs s
    | none => fRepr xs s)
  | _ => .bad
section
variable {X : Cx} {W : WX} {k j kr : Nat}
def rReprU (X : Cx) (k : Nat) : List V → Hp → VK → Prop := fun xs H Q => rReprD X.K xs H Q ∨ rReprI X k xs H Q
/-- the fields as numbers -/
def toKs : List (Str × D) → Option (List (Str × Int))
  | [] => some []
  | (f, .int i) :: fs => (toKs fs).map fun ks => (f, i) :: ks
  | _ :: _ => none
/-- x(lambda: e), x's def: try: return repr(a()) except .. as err: ..; tab: what is said of exceptions without fields, wf: .. with fields -/
def mSaidU (rt : List (Str × FM)) (n : Nat) (x : Str) (tab : List (Str × Str)) (wf : Str → List (Str × Int) → Option Str) (mb : ME) : ME := fun ρ s => match s[n]? with
  | some (.tab y) => if y = x then (match mb ρ s with
    | .ok d s1 => fReprU rt [d] s1
    | .exn c none _ s1 => (match tab.lookup c with
      | some w => .ok (.str w) s1
      | none => .bad)
    | .exn c (some fs) _ s1 => (match toKs fs with
      | some ks => (match wf c ks with
        | some w => .ok (.str w) s1
        | none => .bad)
      | none => .bad)
    | _ => .bad) else .bad
  | _ => .bad
end
end VL
/-! as VL37, where several defs make lambdas; what is said of TooMany -/
namespace VL
open PySem PySem.Spec PyProof.Rows L2
def noW : Str → List (Str × Int) → Option Str := fun _ _ => none
def manyS (x y : Int) : Str := "! many" ++ " " ++ toString x ++ " " ++ toString y
def manyW : Str → List (Str × Int) → Option Str := fun c ks => match ks with
  | [(l, y), (m, x)] => if (decide (c = "TooMany") && (decide (l = "limit") && (decide (m = "amount") && (decide (0 ≤ x) && (decide (x < 100) && (decide (0 ≤ y) && decide (y < 100))))))) = true then some (manyS x y) else none
  | _ => none
/-- a def, its code object, its table -/
abbrev Host : Type := Str × Addr × Addr
def Hosts (G : Cg) (base : Heap) (ys : List Str) : Prop := ∀ y ∈ ys, ∃ c P, codeTab G y = some (c, P) ∧ LamX.TabB base G.mg c P
/-- what the hook says of the hosts -/
def HostsH (K : PySem.W.Frag) (ys : List Str) (h : Heap) : Prop := ∃ hs : List Host, hs.map (·.1) = ys ∧ (hs.map fun p => p.2.2).Nodup ∧ ∀ p ∈ hs, codeTabF K (He.ga K p.1) = some p.2 ∧ h.get? p.2.2 = some { cls := .none, data := .fields #[] } ∧ K.lookup p.2.2 = none ∧ PySem.W.codeHdIn K p.2.1 p.2.2 = true
def hostP (x : Str) (K : PySem.W.Frag) : Option Host := (codeTabF K (He.ga K x)).map fun p => (x, p)
def tabsB (xs : List Str) (g : Addr → Option Obj) (K : PySem.W.Frag) : Bool := (xs.all fun x => tabB x g K) && decide ((xs.filterMap fun x => (codeTabF K (He.ga K x)).map fun p => p.2).Nodup)
theorem hosts_of {K : PySem.W.Frag} {h : Heap} : ∀ {xs : List Str}, (xs.all fun x => tabB x h.get? K) = true → ∃ hs : List Host, hs.map (·.1) = xs ∧ (hs.map fun p => p.2.2) = (xs.filterMap fun x => (codeTabF K (He.ga K x)).map fun p => p.2) ∧
    ∀ p ∈ hs, codeTabF K (He.ga K p.1) = some p.2 ∧ h.get? p.2.2 = some { cls := .none, data := .fields #[] } ∧ K.lookup p.2.2 = none ∧ PySem.W.codeHdIn K p.2.1 p.2.2 = true
  | [], _ => ⟨[], rfl, rfl, fun _ h => nomatch h⟩
  | x :: xs, hx => by
    rw [List.all_cons] at hx
    obtain ⟨e1, e2⟩ := He.ba hx
    obtain ⟨hs, h1, h2, h3⟩ := hosts_of e2
    unfold tabB at e1
    split at e1
    · rename_i c P hq
      obtain ⟨k1, k2⟩ := He.ba e1
      obtain ⟨k2, k3⟩ := He.ba k2
      refine ⟨(x, c, P) :: hs, by simp [h1], by simp [hq, h2], fun p hp => ?_⟩
      rcases List.mem_cons.1 hp with rfl | hp
      · exact ⟨hq, isTabB_ok k1, Option.isNone_iff_eq_none.mp k2, k3⟩
      · exact h3 p hp
    · cases e1
def hookTs (xs : List Str) (n : Nat) (fa : List FaV) (fn : List He5.DefA) (fc : List DefC) : PySem.W.Hook where
  α := AlW × Bool
  obs := fun s => (obsWG n fa fn fc s.heap.get?, tabsB xs s.heap.get? (He.frG s.heap.get? (asW s.heap.get? n)))
  val := fun _ => (valW fn fc, true)
  says := fun _ h => ∃ K : PySem.W.Frag, K.In h ∧ SaysW fa fn fc K ∧ HostsH K xs h
  of := fun _ _ e => by
    refine ⟨_, He.frG_in, (Prod.mk.inj e).1, ?_⟩
    obtain ⟨e2, e3⟩ := He.ba (Prod.mk.inj e).2
    obtain ⟨hs, h1, h2, h3⟩ := hosts_of e2
    exact ⟨hs, h1, by rw [h2]; exact of_decide_eq_true e3, h3⟩
  keeps := fun _ _ _ ⟨K, hK, c, hs, h1, h2, h3⟩ k => ⟨K, PySem.W.Frag.In.keeps hK k, c, hs, h1, h2, fun p hp => ⟨(h3 p hp).1, k _ _ (h3 p hp).2.1, (h3 p hp).2.2⟩⟩
def obsTsG (xs : List Str) (n : Nat) (fa : List FaV) (fn : List He5.DefA) (fc : List DefC) (g : Addr → Option Obj) : AlW × Bool := (obsWG n fa fn fc g, tabsB xs g (He.frG g (asW g n)))
end VL
/-! C(e, ..) where __init__ has a default, called in all ways; isinstance that tells False -/
namespace VL
open PySem PySem.Spec PyProof.Rows L2
/-- n values are written, the defaults fill up -/
structure DBn (K : PySem.W.Frag) (fd : FuncData) (ps : List Str) (n : Nat) (dvs : List V) : Prop where
  to : ∀ (s : Shared) (us : List Value), K.In s.heap → us.length = n → ∃ its : List Value, Vals dvs its ∧ BindsTo s fd ⟨us, []⟩ (ps.zip (us ++ its))
structure ClNA (P : Program) (w : World) (K : PySem.W.Frag) (mg : Str → Option Value) (base : Heap) (k : Nat) (x kw : Str) (n : Nat) (dvs : List V) (m : FM) : Prop where
  ex : ∃ (C f : Addr) (fd : FuncData) (ps : List Str), mg x = some (.ref C) ∧ Mk K C f ∧ FnG P w K mg base k f fd ps (spG ⟨K, mg⟩ (n + 2) m) ∧ Binds K fd ps [] ∧ KBn K fd ps (n + 1) [kw] (fun us ws => us ++ ws) (fun vs zs => vs ++ zs) ∧ DBn K fd ps (n + 1) dvs
section
variable {P : Program} {w : World} {K : PySem.W.Frag} {mg : Str → Option Value} {base : Heap} {k n : Nat} {x kw : Str} {dvs : List V} {m : FM}
end
section
variable {X : Cx} {W : WX} {k j n : Nat} {x kw : Str} {p pos : Pos} {e : Expr} {es : List Expr} {ms : MA} {m : FM} {C : Addr} {dv : Int}
end
/-- isinstance(x, D), x an instance of c, that is none of D -/
def fIsiN (c d : Str) : FA := fun xs s => match xs with
  | [x, .glo d'] => if d' = d then (match insOf s x with
    | some (c', _) => if c' = c then .ok (.bl false) s else .bad
    | none => .bad) else .bad
  | _ => .bad
structure IsN (K : PySem.W.Frag) (C D : Addr) : Prop where
  ins : C8.InsC K C
  md : PySem.W.kitOne K (.ref C) (.ref D) = some false
section
variable {X : Cx} {W : WX} {C D : Addr} {c d : Str}
end
def isnB (c d : Str) (K : PySem.W.Frag) : Bool := isiB c K && decide (PySem.W.kitOne K (.ref (He.ga K c)) (.ref (He.ga K d)) = some false)
theorem ClI.mono {P : Program} {w : World} {K : PySem.W.Frag} {mg : Str → Option Value} {base : Heap} {k j n : Nat} {x : Str} {m : FM} (c : ClI P w K mg base k x n m) (h : k ≤ j) : ClI P w K mg base j x n m := ⟨fun C g => let ⟨f, fd, ps, a, F, d⟩ := c.ex C g; ⟨f, fd, ps, a, F.mono h, d⟩⟩
end VL
/-! t[::-1], t a tuple -/
namespace VL
open PySem PySem.Spec PyProof.Rows L2 HT
section
variable {prog : Program} {w : World} {A : Around} {E : Value → Shared → Prop} {s : Shared}
end
section
variable {X : Cx} {W : WX}
def rRvT (K : PySem.W.Frag) : V → Hp → VK → Prop := fun x H Q => ∃ a xs, x = .ref a ∧ SqT K H a xs ∧ ∀ p, H p = none → Q (.ref p) (upd H p (.tup xs.reverse))
def tRv (K : PySem.W.Frag) (te : TE) (tk : TO) : TE := fun σ H Q => te σ H fun x H1 => tk σ H1 fun k H2 => k = some (-1) ∧ rRvT K x H2 Q
def mRev (m : ME) (ml : MO) : ME := fun ρ s => (m ρ s).bnd fun x s1 => (ml ρ s1).bnd fun l s2 => match x with
  | .tup ds => if l = some (-1) then .ok (.tup ds.reverse) s2 else .bad
  | _ => .bad
end
end VL
/-! repr of tuples and of empty dicts in them -/
namespace VL
open PySem PySem.Spec PyProof.Rows L2
mutual
inductive Ep (K : PySem.W.Frag) (H : Hp) : V → PyData → Prop
  | non : Ep K H .non .none
  | bl (b : Bool) : Ep K H (.bl b) (.bool b)
  | int (i : Int) : Ep K H (.int i) (.int i)
  | str (x : Str) : Ep K H (.str x) (.str x)
  | dct {a : Addr} : H a = some (.dK []) → Ep K H (.ref a) (.dict [])
  | tup {a : Addr} {xs : List V} {ds : List PyData} : SqT K H a xs → EpAll K H xs ds → Ep K H (.ref a) (.tuple ds)
inductive EpAll (K : PySem.W.Frag) (H : Hp) : List V → List PyData → Prop
  | nil : EpAll K H [] []
  | cons {v : V} {vs : List V} {d : PyData} {ds : List PyData} : Ep K H v d → EpAll K H vs ds → EpAll K H (v :: vs) (d :: ds)
end
section
variable {X : Cx} {pins : List (Addr × Obj)} {σ : L2.St} {H : Hp} {s : Shared}
mutual
theorem Ep.reads (I : L2.Inv X pins σ H s) : ∀ (d : PyData) (v : V) (u : Value), Ep X.K H v d → RelV v u → ∃ as, Reads s.heap u d as ∧ sysModules ∉ as
  | .none, _, _, h, r => by
    cases h
    cases r
    exact ⟨_, Reads.none, by simp⟩
  | .bool b, _, _, h, r => by
    cases h
    cases r
    exact ⟨_, Reads.bool b, by simp⟩
  | .int i, _, _, h, r => by
    cases h
    obtain ⟨t, rfl⟩ := r
    exact ⟨_, Reads.int i t, by simp⟩
  | .str x, _, _, h, r => by
    cases h
    obtain ⟨t, rfl⟩ := r
    exact ⟨_, Reads.str x t, by simp⟩
  | .list ds, _, _, h, r => by cases h
  | .tuple ds, _, _, h, r => by
    cases h with
    | tup hs ha =>
      cases r
      obtain ⟨its, rv, ⟨o, ho, hc, n, hd⟩, _⟩ := I.tuple hs
      obtain ⟨as, hr, hm⟩ := Ep.readsAll I ds _ its ha rv
      exact ⟨_, Reads.tuple ho hc hd hr, hm⟩
  | .dict kvs, _, _, h, r => by
    cases h with
    | @dct a e =>
      cases r
      obtain ⟨_, hm, vs, rel, o, es, ep, ho, hc, hd, hk, hp, _⟩ := dk_of I.hok e
      have e0 : vs = [] := by cases rel; rfl
      subst e0
      have e1 : es.toList = [] := by
        cases z : es.toList with
        | nil => rfl
        | cons x l => rw [z] at hp; cases hp
      have hr := Reads.dict (kvs := []) ho hc.1 hd (by rw [e1]; exact ReadsAll.nil) (by rw [e1]; exact ReadsAll.nil)
      refine ⟨_, hr, ?_⟩
      have hm : a ≠ sysModules := beq_eq_false_iff_ne.mp hm
      simpa using hm.symm
theorem Ep.readsAll (I : L2.Inv X pins σ H s) : ∀ (ds : List PyData) (vs : List V) (us : List Value), EpAll X.K H vs ds → Vals vs us → ∃ as, ReadsAll s.heap us ds as ∧ sysModules ∉ as
  | [], _, _, h, r => by
    cases h
    cases r
    exact ⟨_, ReadsAll.nil, by simp⟩
  | d :: ds, _, _, h, r => by
    cases h with
    | cons h1 h2 =>
      cases r with
      | cons r1 r2 =>
        obtain ⟨as, q1, m1⟩ := Ep.reads I d _ _ h1 r1
        obtain ⟨bs, q2, m2⟩ := Ep.readsAll I ds _ _ h2 r2
        exact ⟨_, ReadsAll.cons q1 q2, by simp [m1, m2]⟩
end
end
section
variable {X : Cx} {W : WX}
def rReprT (K : PySem.W.Frag) : List V → Hp → VK → Prop := fun xs H Q => ∃ a p, xs = [V.ref a] ∧ Ep K H (.ref a) p ∧ p.showable = true ∧ p.shown.length ≤ sizeLine ∧ p.depth ≤ 60 ∧ Q (.str p.shown) H
mutual
/-- the data of a tuple, in which empty dicts may stand -/
def toPyE (s : S) : D → Option PyData
  | .non => some .none
  | .bl b => some (.bool b)
  | .int i => some (.int i)
  | .str x => some (.str x)
  | .tup ds => (toPyEs s ds).map .tuple
  | .obj n => match s[n]? with
    | some (.dct []) => some (.dict [])
    | _ => none
  | _ => none
def toPyEs (s : S) : List D → Option (List PyData)
  | [] => some []
  | d :: ds => match toPyE s d, toPyEs s ds with
    | some p, some ps => some (p :: ps)
    | _, _ => none
end
section
variable {G : Cg} {ι : Z} {H : Hp} {s : S}
mutual
theorem ep_of (q : Sim G ι H s) : ∀ (d : D) {v : V} {p : PyData}, RelD G ι H d v → toPyE s d = some p → Ep G.K H v p
  | .non, v, p, r, h => by simp only [toPyE, Option.some.injEq] at h; subst h; rw [relN r]; exact .non
  | .bl b, v, p, r, h => by simp only [toPyE, Option.some.injEq] at h; subst h; rw [relB r]; exact .bl b
  | .int b, v, p, r, h => by simp only [toPyE, Option.some.injEq] at h; subst h; rw [relI r]; exact .int b
  | .str b, v, p, r, h => by simp only [toPyE, Option.some.injEq] at h; subst h; rw [relS r]; exact .str b
  | .tup ds, v, p, r, h => by
    simp only [toPyE, Option.map_eq_some_iff] at h
    obtain ⟨ps, hp, rfl⟩ := h
    simp only [RelD] at r
    obtain ⟨a, xs, rfl, h2, h3⟩ := r
    exact .tup h2.sq (eps_of q ds h3 hp)
  | .obj n, v, p, r, h => by
    simp only [toPyE] at h
    split at h
    · rename_i hn
      cases h
      obtain ⟨a, h1, _, ks, h3, h4⟩ := q.addr hn
      simp only [RelD] at r
      obtain ⟨b, rfl, e⟩ := r
      rw [h1] at e
      cases e
      cases h4
      exact .dct h3
    · cases h
  | .lst ds, v, p, r, h => by simp [toPyE] at h
  | .scr ds, v, p, r, h => by simp [toPyE] at h
  | .glo n, v, p, r, h => by simp [toPyE] at h
  | .ty n, v, p, r, h => by simp [toPyE] at h
  | .tupF ds, v, p, r, h => by simp [toPyE] at h
  | .adr _, v, p, r, h => by simp [toPyE] at h
  | .exc _ _ _, v, p, r, h => by simp [toPyE] at h
theorem eps_of (q : Sim G ι H s) : ∀ (ds : List D) {vs : List V} {ps : List PyData}, RelDs G ι H ds vs → toPyEs s ds = some ps → EpAll G.K H vs ps
  | [], vs, ps, r, h => by simp only [toPyEs, Option.some.injEq] at h; subst h; simp only [RelDs] at r; subst r; exact .nil
  | d :: ds, vs, ps, r, h => by
    simp only [toPyEs] at h
    split at h
    · rename_i p qs h1 h2
      cases h
      simp only [RelDs] at r
      obtain ⟨x, t, rfl, r1, r2⟩ := r
      exact .cons (ep_of q d r1 h1) (eps_of q ds r2 h2)
    · cases h
end
end
/-- repr, also of empty dicts -/
def fReprE : FA := fun xs s => match xs with
  | [x] => (match toPyS s x with
    | some p => if p.showable = true ∧ p.shown.length ≤ sizeLine ∧ p.hasDict = false ∧ p.depth ≤ 60 then .ok (.str p.shown) s else .bad
    | none => (match toPyE s x with
      | some p => if p.showable = true ∧ p.shown.length ≤ sizeLine ∧ p.depth ≤ 60 then .ok (.str p.shown) s else .bad
      | none => .bad))
  | _ => .bad
def rReprE (K : PySem.W.Frag) : List V → Hp → VK → Prop := fun xs H Q => rReprD K xs H Q ∨ rReprT K xs H Q
end
end VL
/-! o[i] by an own __getitem__ that may raise -/
namespace VL
open PySem PySem.Spec PyProof.Rows L2
section
variable {X : Cx} {W : WX} {k j : Nat} {tab : List (Str × FM)}
def mIxR (tab : List (Str × FM)) (ma mb : ME) : ME := fun ρ s => (ma ρ s).bnd fun x s1 => (mb ρ s1).bnd fun y s2 => match insOf s2 x with
  | some (c, _) => (match tab.lookup c with
    | some m => retag ρ (m [x, y] s2)
    | none => .bad)
  | none => .bad
end
end VL
/-! xs + ys, the sum a changeable object -/
namespace VL
open PySem PySem.Spec PyProof.Rows L2
section
variable {G : Cg} {W : WX}
def opAddO : F2 := fun x y s => match asX s x, asX s y with
  | some xs, some ys => if xs.length + ys.length ≤ LIM then .ok (.obj s.length) (s ++ [.lst (xs ++ ys)]) else .bad
  | _, _ => .bad
end
end VL
/-! repr of a tuple in which instances with an own __repr__ stand -/
namespace VL
open PySem PySem.Spec PyProof.Rows L2
section
variable {prog : Program} {w : World} {A : Around} {E : Value → Shared → Prop} {s : Shared} {K : PySem.W.Frag} {x C f : Addr} {ox : Obj} {od : Option Obj}
end
/-- an own __repr__ that may be called where a repr runs -/
structure ClR (P : Program) (w : World) (K : PySem.W.Frag) (mg : Str → Option Value) (base : Heap) (k : Nat) (x : Str) (m : FM) : Prop where
  ex : ∀ C, mg x = some (.ref C) → ∃ (f : Addr) (fd : FuncData) (ps : List Str), Cls K C ∧ Meth K C "__repr__" f ∧ FnOk P w K mg base (L2.CX P w) k f fd ps (spG ⟨K, mg⟩ 1 m) ∧ Binds K fd ps []
theorem fnOk_G {P : Program} {w : World} {K : PySem.W.Frag} {mg : Str → Option Value} {base : Heap} {k : Nat} {f : Addr} {fd : FuncData} {ps : List Str} {sp : Sp} (F : FnOk P w K mg base (L2.CX P w) k f fd ps sp) : FnG P w K mg base k f fd ps sp :=
  ⟨F.len, fun A outer st H args us vs Q E hr => F.run A outer st H args us vs Q E hr.r⟩
theorem ClR.m {P : Program} {w : World} {K : PySem.W.Frag} {mg : Str → Option Value} {base : Heap} {k : Nat} {x : Str} {m : FM} (c : ClR P w K mg base k x m) : ClM P w K mg base k x "__repr__" 0 m :=
  ⟨fun C g => let ⟨f, fd, ps, a, b, F, d⟩ := c.ex C g; ⟨f, fd, ps, a, b, fnOk_G F, d⟩⟩
theorem ClR.mono {P : Program} {w : World} {K : PySem.W.Frag} {mg : Str → Option Value} {base : Heap} {k j : Nat} {x : Str} {m : FM} (c : ClR P w K mg base k x m) (h : k ≤ j) : ClR P w K mg base j x m :=
  ⟨fun C g => let ⟨f, fd, ps, a, b, F, d⟩ := c.ex C g; ⟨f, fd, ps, a, b, F.mono h, d⟩⟩
/-! the value layer's side -/
open Classical in
noncomputable def rpItem (tab : List (Str × FM)) (s : S) (d : D) : Option Str := match toPyS s d with
  | some p => if p.showable = true ∧ p.shown.length ≤ sizeLine ∧ p.hasDict = false ∧ p.depth ≤ 50 then some p.shown else none
  | none => (match insOf s d with
    | some (c, _) => (match tab.lookup c with
      | some m => (match m [d] s with
        | .ok (.str x) s2 => if s2 = s then some x else none
        | _ => none)
      | none => none)
    | none => none)
noncomputable def rpItems (tab : List (Str × FM)) (s : S) : List D → Option (List Str)
  | [] => some []
  | d :: ds => match rpItem tab s d, rpItems tab s ds with
    | some t, some ts => some (t :: ts)
    | _, _ => none
def hasIns (s : S) (ds : List D) : Bool := ds.any fun d => (insOf s d).isSome
/-- repr of data, of instances, and of a tuple of these -/
noncomputable def fReprN (tab : List (Str × FM)) : FA := fun xs s => match xs with
  | [d] => (match insOf s d with
    | some _ => fReprI tab [d] s
    | none => (match toPyS s d with
      | some _ => fRepr [d] s
      | none => (match d with
        | .tup ds => if hasIns s ds then (match rpItems tab s ds with
            | some ts => if (tupleText ts).length ≤ sizeLine then .ok (.str (tupleText ts)) s else .bad
            | none => .bad) else fReprE [d] s
        | _ => fReprE [d] s)))
  | _ => .bad
section
variable {X : Cx} {W : WX} {k j : Nat} {tab : List (Str × FM)}
/-- where the items' reprs run -/
structure UnderA (X : Cx) (k : Nat) (a : Addr) (A : Around) : Prop where
  r : Room k A
  f : A.frames = some X.stack
  g : ∃ id, A.guards = some [.builtin id ⟨[.ref a], []⟩]
  u : A.units + 60 < cLine
def rReprTup (X : Cx) (k : Nat) (tab : List (Str × FM)) : List V → Hp → VK → Prop := fun xs H Q => ∃ a vs ι s ds ts, xs = [V.ref a] ∧ TupAt (cg X) ι H a vs ∧ Sim (cg X) ι H s ∧ RelDs (cg X) ι H ds vs ∧ hasIns s ds = true ∧ rpItems tab s ds = some ts ∧ (tupleText ts).length ≤ sizeLine ∧
  (∀ c m, (c, m) ∈ tab → ClR X.prog X.w X.K X.mg X.base k c m) ∧ ∀ ι' H', Ext ι H ι' H' → Sim (cg X) ι' H' s → Q (.str (tupleText ts)) H'
/-- repr of data, of empty dicts, of instances, of tuples of these -/
def rReprN (X : Cx) (k : Nat) (tab : List (Str × FM)) : List V → Hp → VK → Prop := fun xs H Q => rReprE X.K xs H Q ∨ rReprI X k xs H Q ∨ rReprTup X k tab xs H Q
end
/-! ### walks of defs that may be called where a repr runs -/
section
variable {P : Program} {w : World} {K : PySem.W.Frag} {mg : Str → Option Value} {base : Heap}
end
/-- a property that may be read where a repr runs -/
structure ClPR (P : Program) (w : World) (K : PySem.W.Frag) (mg : Str → Option Value) (base : Heap) (k : Nat) (x f : Str) (m : FM) : Prop where
  ex : ∀ C, mg x = some (.ref C) → ∃ (p g : Addr) (fd : FuncData) (ps : List Str), Cls K C ∧ PropOf K C f p g ∧ FnOk P w K mg base (L2.CX P w) k g fd ps (spG ⟨K, mg⟩ 1 m) ∧ Binds K fd ps []
theorem ClPR.p {P : Program} {w : World} {K : PySem.W.Frag} {mg : Str → Option Value} {base : Heap} {k : Nat} {x f : Str} {m : FM} (c : ClPR P w K mg base k x f m) : ClP P w K mg base k x f m :=
  ⟨fun C g => let ⟨p, f, fd, ps, a, b, F, d⟩ := c.ex C g; ⟨p, f, fd, ps, a, b, fnOk_G F, d⟩⟩
section
variable {P : Program} {w : World} {K : PySem.W.Frag} {mg : Str → Option Value} {base : Heap} {k : Nat} {x f meth : Str} {m : FM} {C q g : Addr} {fd : FuncData} {ps : List Str}
end
section
variable {X : Cx} {W : WX} {k j : Nat} {f : Str} {pos : Pos} {e : Expr} {mo : ME} {tab : List (Str × FM)}
end
end VL
/-! isinstance of instances and of any value -/
namespace VL
open PySem PySem.Spec PyProof.Rows L2
/-- instances of C are none of the four built-in types that are asked for -/
structure IsT (K : PySem.W.Frag) (C : Addr) : Prop where
  ins : C8.InsC K C
  no : ∀ T : String, T = "int" ∨ T = "bool" ∨ T = "tuple" ∨ T = "str" → PySem.W.kitOne K (.ref C) (.type T) = some false
def isTB (c : Str) (K : PySem.W.Frag) : Bool := isiB c K && decide (PySem.W.kitOne K (.ref (He.ga K c)) (.type "int") = some false) && decide (PySem.W.kitOne K (.ref (He.ga K c)) (.type "bool") = some false) && decide (PySem.W.kitOne K (.ref (He.ga K c)) (.type "tuple") = some false) && decide (PySem.W.kitOne K (.ref (He.ga K c)) (.type "str") = some false)
/-- no value of a built-in type is an instance of D -/
structure IsNo (K : PySem.W.Frag) (D : Addr) : Prop where
  no : ∀ t : String, t = "NoneType" ∨ t = "bool" ∨ t = "int" ∨ t = "str" ∨ t = "tuple" ∨ t = "list" ∨ t = "dict" → PySem.W.kitOne K (.type t) (.ref D) = some false
def isNoB (d : Str) (K : PySem.W.Frag) : Bool := ["NoneType", "bool", "int", "str", "tuple", "list", "dict"].all fun t => decide (PySem.W.kitOne K (.type t) (.ref (He.ga K d)) = some false)
/-- isinstance(x, T), T a built-in type, x any value or an instance of one of the classes -/
def fIsiO (tab : List Str) : FA := fun xs s => match xs with
  | [x, .ty T] => (match insOf s x with
    | some (c, _) => if tab.contains c ∧ (T = "int" ∨ T = "bool" ∨ T = "tuple" ∨ T = "str") then .ok (.bl false) s else .bad
    | none => fIsi [x, .ty T] s)
  | _ => .bad
section
variable {X : Cx} {W : WX} {D : Addr} {d : Str}
/-- isinstance(x, C), C an own class: the table tells it for instances -/
def fIsiA (d : Str) (tab : List (Str × Bool)) : FA := fun xs s => match xs with
  | [x, .glo d'] => if d' = d then (match insOf s x with
    | some (c, _) => (match tab.lookup c with
      | some b => .ok (.bl b) s
      | none => .bad)
    | none => (match tyOf s x with
      | some _ => .ok (.bl false) s
      | none => .bad)) else .bad
  | _ => .bad
structure IsIn (K : PySem.W.Frag) (C D : Addr) (b : Bool) : Prop where
  ins : C8.InsC K C
  md : PySem.W.kitOne K (.ref C) (.ref D) = some b
theorem IsD.i {K : PySem.W.Frag} {C D : Addr} (h : IsD K C D) : IsIn K C D true := ⟨h.ins, h.md⟩
theorem IsN.i {K : PySem.W.Frag} {C D : Addr} (h : IsN K C D) : IsIn K C D false := ⟨h.ins, h.md⟩
end
end VL
/-! x or y by truth -/
namespace VL
open PySem PySem.Spec PyProof.Rows L2
def truD : D → Option Bool
  | .non => some false
  | .bl b => some b
  | .int i => some (i != 0)
  | .tup ds => some (!ds.isEmpty)
  | _ => none
def mOrD (a b : ME) : ME := fun ρ s => (a ρ s).bnd fun d s1 => match truD d with
  | some true => .ok d s1
  | some false => b ρ s1
  | none => .bad
section
variable {X : Cx} {W : WX} {a b : Expr} {ma mb : ME} {rest : List Expr} {pos : Pos}
end
end VL
/-! repr of any nesting of tuples, lists and dicts -/
namespace VL
open PySem PySem.Spec PyProof.Rows L2
mutual
inductive RdS (h : Heap) : Value → PyData → Prop
  | none : RdS h .none .none
  | bool (b : Bool) : RdS h (.bool b) (.bool b)
  | int (i : Int) (t : Tok) : RdS h (.int i t) (.int i)
  | str (x : Str) (t : Tok) : RdS h (.str x t) (.str x)
  | list {a : Addr} {o : Obj} {vs : Array Value} {n : Nat} {xs : List PyData} : h.get? a = some o → o.cls = .type "list" → o.data = .seq vs n → RdSs h vs.toList xs → RdS h (.ref a) (.list xs)
  | tuple {a : Addr} {o : Obj} {vs : Array Value} {n : Nat} {xs : List PyData} : h.get? a = some o → o.cls = .type "tuple" → o.data = .seq vs n → RdSs h vs.toList xs → RdS h (.ref a) (.tuple xs)
  | dict {a : Addr} {o : Obj} {es : Array DictEntry} {n : Nat} {kvs : List (PyData × PyData)} : h.get? a = some o → o.cls = .type "dict" → o.data = .dict es n → (a == sysModules) = false →
      RdSs h (es.toList.map (·.key)) (kvs.map (·.1)) → RdSs h (es.toList.map (·.val)) (kvs.map (·.2)) → RdS h (.ref a) (.dict kvs)
inductive RdSs (h : Heap) : List Value → List PyData → Prop
  | nil : RdSs h [] []
  | cons {v : Value} {vs : List Value} {d : PyData} {ds : List PyData} : RdS h v d → RdSs h vs ds → RdSs h (v :: vs) (d :: ds)
end
mutual
theorem RdS.reads {h : Heap} : ∀ {v : Value} {d : PyData}, RdS h v d → ∃ as, Reads h v d as
  | _, _, .none => ⟨_, .none⟩
  | _, _, .bool b => ⟨_, .bool b⟩
  | _, _, .int i t => ⟨_, .int i t⟩
  | _, _, .str x t => ⟨_, .str x t⟩
  | _, _, .list h1 h2 h3 h4 => let ⟨_, r⟩ := h4.reads; ⟨_, .list h1 h2 h3 r⟩
  | _, _, .tuple h1 h2 h3 h4 => let ⟨_, r⟩ := h4.reads; ⟨_, .tuple h1 h2 h3 r⟩
  | _, _, .dict h1 h2 h3 _ h4 h5 => let ⟨_, r⟩ := h4.reads; let ⟨_, q⟩ := h5.reads; ⟨_, .dict h1 h2 h3 r q⟩
theorem RdSs.reads {h : Heap} : ∀ {vs : List Value} {ds : List PyData}, RdSs h vs ds → ∃ as, ReadsAll h vs ds as
  | _, _, .nil => ⟨_, .nil⟩
  | _, _, .cons h1 h2 => let ⟨_, r⟩ := h1.reads; let ⟨_, q⟩ := h2.reads; ⟨_, .cons r q⟩
end
section
variable {prog : Program} {w : World} {h₀ : Heap}
mutual
theorem RdS.repr : ∀ {v : Value} {d : PyData}, RdS h₀ v d → d.showable = true → d.shown.length ≤ sizeLine → ∃ bs, ReadAtMost h₀ d.depth bs ∧ ReprK prog w bs h₀ d.depth v d.shown
  | _, _, .none, _, _ => ⟨[], (fun _ h => nomatch h), by simp only [PyData.shown]; exact .of_is ReprIs.none _ _ _⟩
  | _, _, .bool b, _, _ => ⟨[], (fun _ h => nomatch h), by simp only [PyData.shown]; exact .of_is (ReprIs.bool b) _ _ _⟩
  | _, _, .int i t, hs, _ => ⟨[], (fun _ h => nomatch h), by simp only [PyData.shown]; exact .of_is (ReprIs.int t (by simpa [PyData.showable] using hs)) _ _ _⟩
  | _, _, .str x t, _, hz => ⟨[], (fun _ h => nomatch h), by simp only [PyData.shown]; exact .of_is (ReprIs.str x t (by simpa only [PyData.shown] using hz)) _ _ _⟩
  | _, _, .list (a := a) (vs := vs) (xs := xs) h1 h2 h3 h4, hs, hz => by
    have hz' : (listText (PyData.shownAll xs)).length ≤ sizeLine := by simpa only [PyData.shown] using hz
    obtain ⟨bs, hb, hk⟩ := h4.repr (by simpa [PyData.showable] using hs) (fun t ht => Nat.le_trans (listText_mem_le ht) hz')
    obtain ⟨_, r4⟩ := h4.reads
    have r : Reads h₀ (.ref a) (.list xs) _ := .list h1 h2 h3 r4
    have hna : a ∉ bs := not_mem_of_deeper r (by simp only [PyData.depth]; omega) hb
    refine ⟨a :: bs, ReadAtMost.cons r (by simp only [PyData.depth]; omega) hb, ?_⟩
    simp only [PyData.depth, PyData.shown]
    obtain ⟨l⟩ := vs
    cases l with
    | nil =>
      have h4' : RdSs h₀ [] xs := h4
      cases h4'
      simp only [PyData.shownAll, listText_nil]
      exact ReprK.listEmpty h1 h2 h3
    | cons x l => exact ReprK.list h1 h2 h3 hna (by simpa using hk.length_eq) (fun i y e => hk.item i y (by simpa using e))
  | _, _, .tuple (a := a) (xs := xs) h1 h2 h3 h4, hs, hz => by
    have hz' : (tupleText (PyData.shownAll xs)).length ≤ sizeLine := by simpa only [PyData.shown] using hz
    obtain ⟨bs, hb, hk⟩ := h4.repr (by simpa [PyData.showable] using hs) (fun t ht => Nat.le_trans (tupleText_mem_le ht) hz')
    obtain ⟨_, r4⟩ := h4.reads
    have r : Reads h₀ (.ref a) (.tuple xs) _ := .tuple h1 h2 h3 r4
    have hna : a ∉ bs := not_mem_of_deeper r (by simp only [PyData.depth]; omega) hb
    refine ⟨a :: bs, ReadAtMost.cons r (by simp only [PyData.depth]; omega) hb, ?_⟩
    simp only [PyData.depth, PyData.shown]
    exact ReprK.tuple h1 h2 h3 hna hk
  | _, _, .dict (a := a) (es := es) (kvs := kvs) h1 h2 h3 hsys h4 h5, hs, hz => by
    have hz' : (dictText (PyData.shownKv kvs)).length ≤ sizeLine := by simpa only [PyData.shown] using hz
    obtain ⟨hs1, hs2⟩ := PyData.showableKv_split kvs (by simpa [PyData.showable] using hs)
    obtain ⟨b1, hb1, k1⟩ := h4.repr hs1 (fun t ht => let ⟨p, hp, hl⟩ := PyData.shownKv_key_le kvs t ht; Nat.le_trans hl (Nat.le_trans (dictText_mem_le hp) hz'))
    obtain ⟨b2, hb2, k2⟩ := h5.repr hs2 (fun t ht => let ⟨p, hp, hl⟩ := PyData.shownKv_val_le kvs t ht; Nat.le_trans hl (Nat.le_trans (dictText_mem_le hp) hz'))
    obtain ⟨_, r4⟩ := h4.reads
    obtain ⟨_, r5⟩ := h5.reads
    have r : Reads h₀ (.ref a) (.dict kvs) _ := .dict h1 h2 h3 r4 r5
    have hb : ReadAtMost h₀ (PyData.depthKv kvs) (b1 ++ b2) := (hb1.mono (PyData.depthAll_keys_le kvs)).append (hb2.mono (PyData.depthAll_vals_le kvs))
    have hna : a ∉ b1 ++ b2 := not_mem_of_deeper r (by simp only [PyData.depth]; omega) hb
    refine ⟨a :: (b1 ++ b2), ReadAtMost.cons r (by simp only [PyData.depth]; omega) hb, ?_⟩
    simp only [PyData.depth, PyData.shown, PyData.shownKv_eq]
    exact ReprK.dict h1 h2 h3 hsys hna (ReprEntriesK.of_two es.toList _ _
      (k1.more_le (fun b hb => List.mem_append_left _ hb) (PyData.depthAll_keys_le kvs)) (k2.more_le (fun b hb => List.mem_append_right _ hb) (PyData.depthAll_vals_le kvs)))
theorem RdSs.repr : ∀ {vs : List Value} {ds : List PyData}, RdSs h₀ vs ds → PyData.showableAll ds = true → (∀ t ∈ PyData.shownAll ds, t.length ≤ sizeLine) →
    ∃ bs, ReadAtMost h₀ (PyData.depthAll ds) bs ∧ ReprAllK prog w bs h₀ (PyData.depthAll ds) vs (PyData.shownAll ds)
  | _, _, .nil, _, _ => ⟨[], (fun _ h => nomatch h), by simp only [PyData.shownAll]; exact .nil⟩
  | _, _, .cons (d := d) (ds := ds) r rs, hs, hz => by
    have hs' : d.showable = true ∧ PyData.showableAll ds = true := by simpa [PyData.showableAll] using hs
    obtain ⟨b1, hb1, k1⟩ := r.repr hs'.1 (hz _ (by simp only [PyData.shownAll]; exact List.mem_cons_self ..))
    obtain ⟨b2, hb2, k2⟩ := rs.repr hs'.2 (fun t ht => hz t (by simp only [PyData.shownAll]; exact List.mem_cons_of_mem _ ht))
    refine ⟨b1 ++ b2, ?_, ?_⟩
    · intro b hm
      simp only [PyData.depthAll]
      rcases List.mem_append.mp hm with hm | hm
      · obtain ⟨d', as', r', hd'⟩ := hb1 b hm
        exact ⟨d', as', r', Nat.le_trans hd' (Nat.le_max_left _ _)⟩
      · obtain ⟨d', as', r', hd'⟩ := hb2 b hm
        exact ⟨d', as', r', Nat.le_trans hd' (Nat.le_max_right _ _)⟩
    · simp only [PyData.depthAll, PyData.shownAll]
      exact .cons ((k1.more fun b hb => List.mem_append_left _ hb).level_le (Nat.le_max_left _ _)) (k2.more_le (fun b hb => List.mem_append_right _ hb) (Nat.le_max_right _ _))
end
variable {A : Around} {E : Value → Shared → Prop} {s : Shared} {Q : Value → Shared → Prop} {a : Addr} {d : PyData}
end
/-! seen by the hand layer -/
def keyPy : Key → PyData
  | .inl i => .int i
  | .inr x => .str x
mutual
inductive Ea (K : PySem.W.Frag) (H : Hp) : V → PyData → Prop
  | non : Ea K H .non .none
  | bl (b : Bool) : Ea K H (.bl b) (.bool b)
  | int (i : Int) : Ea K H (.int i) (.int i)
  | str (x : Str) : Ea K H (.str x) (.str x)
  | dct {a : Addr} {kvs : List (Key × V)} {ds : List (PyData × PyData)} : H a = some (.dK kvs) → EaKv K H kvs ds → Ea K H (.ref a) (.dict ds)
  | tup {a : Addr} {xs : List V} {ds : List PyData} : SqT K H a xs → EaAll K H xs ds → Ea K H (.ref a) (.tuple ds)
  | lst {a : Addr} {xs : List V} {ds : List PyData} : SqL K H a xs → EaAll K H xs ds → Ea K H (.ref a) (.list ds)
inductive EaAll (K : PySem.W.Frag) (H : Hp) : List V → List PyData → Prop
  | nil : EaAll K H [] []
  | cons {v : V} {vs : List V} {d : PyData} {ds : List PyData} : Ea K H v d → EaAll K H vs ds → EaAll K H (v :: vs) (d :: ds)
inductive EaKv (K : PySem.W.Frag) (H : Hp) : List (Key × V) → List (PyData × PyData) → Prop
  | nil : EaKv K H [] []
  | cons {k : Key} {v : V} {vs : List (Key × V)} {d : PyData} {ds : List (PyData × PyData)} : Ea K H v d → EaKv K H vs ds → EaKv K H ((k, v) :: vs) ((keyPy k, d) :: ds)
end
theorem keyPy_rd {h : Heap} {k : Key} {v : Value} (e : keyIs k v = true) : RdS h v (keyPy k) := by
  rcases keyIs_shape e with ⟨i, t, rfl, rfl⟩ | ⟨x, t, rfl, rfl⟩
  · exact .int i t
  · exact .str x t
section
variable {X : Cx} {pins : List (Addr × Obj)} {σ : L2.St} {H : Hp} {s : Shared}
mutual
theorem Ea.rd (I : L2.Inv X pins σ H s) : ∀ (d : PyData) (v : V) (u : Value), Ea X.K H v d → RelV v u → RdS s.heap u d
  | .none, _, _, h, r => by
    cases h
    cases r
    exact .none
  | .bool b, _, _, h, r => by
    cases h
    cases r
    exact .bool b
  | .int i, _, _, h, r => by
    cases h
    obtain ⟨t, rfl⟩ := r
    exact .int i t
  | .str x, _, _, h, r => by
    cases h
    obtain ⟨t, rfl⟩ := r
    exact .str x t
  | .list ds, _, _, h, r => by
    cases h with
    | lst hs ha =>
      cases r
      obtain ⟨its, rv, ⟨o, n, ho, hc, _, hd⟩, _⟩ := I.list hs
      exact .list ho hc hd (Ea.rdAll I ds _ its ha rv)
  | .tuple ds, _, _, h, r => by
    cases h with
    | tup hs ha =>
      cases r
      obtain ⟨its, rv, ⟨o, ho, hc, n, hd⟩, _⟩ := I.tuple hs
      exact .tuple ho hc hd (Ea.rdAll I ds _ its ha rv)
  | .dict ds, _, _, h, r => by
    cases h with
    | @dct a kvs _ e hk =>
      cases r
      obtain ⟨_, hm, vs, rel, o, es, ep, ho, hc, hd, _, hp, _⟩ := dk_of I.hok e
      obtain ⟨h1, h2⟩ := Ea.rdKv I ds kvs vs es.toList hk rel hp
      exact .dict ho hc.1 hd hm h1 h2
theorem Ea.rdAll (I : L2.Inv X pins σ H s) : ∀ (ds : List PyData) (vs : List V) (us : List Value), EaAll X.K H vs ds → Vals vs us → RdSs s.heap us ds
  | [], _, _, h, r => by
    cases h
    cases r
    exact .nil
  | d :: ds, _, _, h, r => by
    cases h with
    | cons h1 h2 =>
      cases r with
      | cons r1 r2 => exact .cons (Ea.rd I d _ _ h1 r1) (Ea.rdAll I ds _ _ h2 r2)
theorem Ea.rdKv (I : L2.Inv X pins σ H s) : ∀ (ds : List (PyData × PyData)) (kvs : List (Key × V)) (vs : List (Key × Value)) (es : List DictEntry), EaKv X.K H kvs ds → KV kvs vs → Pairs (mixKind X.prog X.w) es vs → RdSs s.heap (es.map (·.key)) (ds.map (·.1)) ∧ RdSs s.heap (es.map (·.val)) (ds.map (·.2))
  | [], _, _, _, h, r, q => by
    cases h
    cases r
    cases q
    exact ⟨.nil, .nil⟩
  | (k, d) :: ds, _, _, _, h, r, q => by
    cases h with
    | cons h1 h2 =>
      cases r with
      | cons r1 r2 =>
        cases q with
        | cons q1 q2 q3 =>
          obtain ⟨i1, i2⟩ := Ea.rdKv I ds _ _ _ h2 r2 q3
          obtain ⟨e1, e2⟩ := r1
          rename_i k0 v0 _ _ _ _ _
          have e1 : k0 = _ := e1
          refine ⟨.cons (keyPy_rd ?_) i1, .cons (Ea.rd I d _ _ h1 ?_) i2⟩
          · show keyIs k0 (DictEntry.key _) = true
            rw [e1]
            exact q1
          · show RelV _ (DictEntry.val _)
            rw [q2]
            exact e2
end
end
/-! the value layer -/
def keyPyD : VL.D → Option PyData
  | .int i => some (.int i)
  | .str x => some (.str x)
  | _ => none
mutual
/-- the data of a value, dicts of plain keys with plain values within -/
def toPyA (s : S) : VL.D → Option PyData
  | .non => some .none
  | .bl b => some (.bool b)
  | .int i => some (.int i)
  | .str x => some (.str x)
  | .tup ds => (toPyAs s ds).map .tuple
  | .lst ds => (toPyAs s ds).map .list
  | .obj n => match s[n]? with
    | some (.dct kvs) => (toPyKv kvs).map .dict
    | _ => none
  | _ => none
def toPyAs (s : S) : List VL.D → Option (List PyData)
  | [] => some []
  | d :: ds => match toPyA s d, toPyAs s ds with
    | some p, some ps => some (p :: ps)
    | _, _ => none
def toPyKv : List (VL.D × VL.D) → Option (List (PyData × PyData))
  | [] => some []
  | (k, v) :: r => match keyPyD k, toPy v, toPyKv r with
    | some a, some b, some c => some ((a, b) :: c)
    | _, _, _ => none
end
section
variable {G : Cg} {ι : Z} {H : Hp} {s : S}
mutual
theorem dp_ea {K : PySem.W.Frag} : ∀ (d : PyData) (v : V), Dp K H v d → Ea K H v d
  | .none, _, h => by cases h; exact .non
  | .bool b, _, h => by cases h; exact .bl b
  | .int i, _, h => by cases h; exact .int i
  | .str x, _, h => by cases h; exact .str x
  | .list ds, _, h => by
    cases h with
    | lst hs ha => exact .lst hs (dp_eas ds _ ha)
  | .tuple ds, _, h => by
    cases h with
    | tup hs ha => exact .tup hs (dp_eas ds _ ha)
  | .dict ds, _, h => by cases h
theorem dp_eas {K : PySem.W.Frag} : ∀ (ds : List PyData) (vs : List V), DpAll K H vs ds → EaAll K H vs ds
  | [], _, h => by cases h; exact .nil
  | d :: ds, _, h => by
    cases h with
    | cons h1 h2 => exact .cons (dp_ea d _ h1) (dp_eas ds _ h2)
end
theorem keyPyD_ok {k : VL.D} {q : Key} {p : PyData} (h1 : keyD k = some q) (h2 : keyPyD k = some p) : p = keyPy q := by
  cases k <;> first | (cases h1; done) | skip
  all_goals (cases h1; cases h2; rfl)
theorem kv_ea (q : Sim G ι H s) : ∀ (kvs : List (VL.D × VL.D)) (ks : List (Key × V)) (ps : List (PyData × PyData)), toPyKv kvs = some ps → Paired (fun (p : VL.D × VL.D) q => keyD p.1 = some q.1 ∧ RelD G ι H p.2 q.2) kvs ks → EaKv G.K H ks ps
  | [], _, _, h, r => by
    cases h
    cases r
    exact .nil
  | (k, v) :: kvs, _, ps, h, r => by
    cases r with
    | @cons _ b _ ks' r1 r2 =>
      obtain ⟨k', v'⟩ := b
      simp only [toPyKv] at h
      split at h
      · rename_i a b c h1 h2 h3
        cases h
        obtain ⟨e1, e2⟩ := r1
        rw [keyPyD_ok e1 h1]
        have hv : toPyS s v = some b := by
          cases v with
          | obj n => simp [toPy] at h2
          | _ => exact h2
        exact .cons (dp_ea _ _ (dp_ofS q e2 hv)) (kv_ea q kvs ks' c h3 r2)
      · cases h
mutual
theorem ea_of (q : Sim G ι H s) : ∀ (d : VL.D) {v : V} {p : PyData}, RelD G ι H d v → toPyA s d = some p → Ea G.K H v p
  | .non, v, p, r, h => by simp only [toPyA, Option.some.injEq] at h; subst h; rw [relN r]; exact .non
  | .bl b, v, p, r, h => by simp only [toPyA, Option.some.injEq] at h; subst h; rw [relB r]; exact .bl b
  | .int b, v, p, r, h => by simp only [toPyA, Option.some.injEq] at h; subst h; rw [relI r]; exact .int b
  | .str b, v, p, r, h => by simp only [toPyA, Option.some.injEq] at h; subst h; rw [relS r]; exact .str b
  | .tup ds, v, p, r, h => by
    simp only [toPyA, Option.map_eq_some_iff] at h
    obtain ⟨ps, hp, rfl⟩ := h
    simp only [RelD] at r
    obtain ⟨a, xs, rfl, h2, h3⟩ := r
    exact .tup h2.sq (eas_of q ds h3 hp)
  | .lst ds, v, p, r, h => by
    simp only [toPyA, Option.map_eq_some_iff] at h
    obtain ⟨ps, hp, rfl⟩ := h
    simp only [RelD] at r
    obtain ⟨a, xs, rfl, h2, h3⟩ := r
    exact .lst (LstAt.sq h2) (eas_of q ds h3 hp)
  | .obj n, v, p, r, h => by
    simp only [toPyA] at h
    split at h
    · rename_i kvs hn
      simp only [Option.map_eq_some_iff] at h
      obtain ⟨ps, hp, rfl⟩ := h
      obtain ⟨a, h1, _, ks, h3, h4⟩ := q.addr hn
      simp only [RelD] at r
      obtain ⟨b, rfl, e⟩ := r
      rw [h1] at e
      cases e
      exact .dct h3 (kv_ea q kvs ks ps hp h4)
    · cases h
  | .scr ds, v, p, r, h => by simp [toPyA] at h
  | .glo n, v, p, r, h => by simp [toPyA] at h
  | .ty n, v, p, r, h => by simp [toPyA] at h
  | .tupF ds, v, p, r, h => by simp [toPyA] at h
  | .adr _, v, p, r, h => by simp [toPyA] at h
  | .exc _ _ _, v, p, r, h => by simp [toPyA] at h
theorem eas_of (q : Sim G ι H s) : ∀ (ds : List VL.D) {vs : List V} {ps : List PyData}, RelDs G ι H ds vs → toPyAs s ds = some ps → EaAll G.K H vs ps
  | [], vs, ps, r, h => by simp only [toPyAs, Option.some.injEq] at h; subst h; simp only [RelDs] at r; subst r; exact .nil
  | d :: ds, vs, ps, r, h => by
    simp only [toPyAs] at h
    split at h
    · rename_i p qs h1 h2
      cases h
      simp only [RelDs] at r
      obtain ⟨x, t, rfl, r1, r2⟩ := r
      exact .cons (ea_of q d r1 h1) (eas_of q ds r2 h2)
    · cases h
end
end
section
variable {X : Cx} {W : WX} {k j : Nat} {tab : List (Str × FM)}
def rReprA (K : PySem.W.Frag) : List V → Hp → VK → Prop := fun xs H Q => ∃ a p, xs = [V.ref a] ∧ Ea K H (.ref a) p ∧ p.showable = true ∧ p.shown.length ≤ sizeLine ∧ p.depth ≤ 60 ∧ Q (.str p.shown) H
/-- repr of any value: data, dicts and lists within, instances, and tuples of data and instances -/
noncomputable def fReprV (tab : List (Str × FM)) : FA := fun xs s => match xs with
  | [d] => (match toPyA s d with
    | some p => if p.showable = true ∧ p.shown.length ≤ sizeLine ∧ p.depth ≤ 60 then .ok (.str p.shown) s else .bad
    | none => fReprN tab [d] s)
  | _ => .bad
def rReprV (X : Cx) (k : Nat) (tab : List (Str × FM)) : List V → Hp → VK → Prop := fun xs H Q => rReprN X k tab xs H Q ∨ rReprA X.K xs H Q
end
end VL
/-! the hook of VL27 with the objects found level by level, those seen in a mask: the top's look takes less time and memory -/
namespace VL
open PySem PySem.Spec PyProof.Rows L2
def addF {β : Type} (k : Nat → List Addr → β) : List Addr → Nat → List Addr → β
  | [], m, acc => k m acc
  | a :: r, m, acc => match Nat.beq (Nat.land (Nat.shiftRight m a) 1) 1 with
    | true => addF k r m acc
    | false => HandSHeadRun.frNat (Nat.lor m (Nat.shiftLeft 1 a)) fun m' => addF k r m' (a :: acc)
def levF {β : Type} (g : Addr → Option Obj) (k : Nat → List Addr → β) : List Addr → Nat → List Addr → β
  | [], m, acc => k m acc
  | a :: r, m, acc => match g a with
    | some o => addF (fun m acc => levF g k r m acc) (He.refsD o) m acc
    | none => levF g k r m acc
def allF (g : Addr → Option Obj) : Nat → List Addr → Nat → List Addr → List Addr
  | 0, _, _, all => all
  | n + 1, fr, m, all => levF g (fun m new => allF g n new m (all ++ new)) fr m []
def asF (g : Addr → Option Obj) (n : Nat) : List Addr := allF g n [mainGlobals] (Nat.shiftLeft 1 mainGlobals) [mainGlobals] ++ [PySem.cStatics]
def obsFG (n : Nat) (fa : List FaV) (fn : List He5.DefA) (g : Addr → Option Obj) : He.AlD := obsV fa fn (He.frG g (asF g n))
def hookF (n : Nat) (fa : List FaV) (fn : List He5.DefA) : PySem.W.Hook where
  α := He.AlD
  obs := fun s => obsFG n fa fn s.heap.get?
  val := fun _ => He5.valA fn
  says := fun _ h => ∃ K : PySem.W.Frag, K.In h ∧ SaysV fa fn K
  of := fun _ _ e => ⟨_, He.frG_in, e⟩
  keeps := fun _ _ _ ⟨K, hK, c⟩ k => ⟨K, PySem.W.Frag.In.keeps hK k, c⟩
end VL
/-! == and != where at least one side is an instance, the other one any value -/
namespace VL
open PySem PySem.Spec PyProof.Rows L2
section
variable {prog : Program} {w : World} {A : Around} {E : Value → Shared → Prop} {s : Shared} {K : PySem.W.Frag} {x y C f : Addr} {ox oy : Obj} {od : Option Obj} {v ta : Value} {T id : String} {Q : Value → Shared → Prop}
/-- what an own comparison does: its value is not NotImplemented -/
def Tried (prog : Program) (w : World) (A : Around) (E : Value → Shared → Prop) (s : Shared) (a : Value) (n : Str) (b : Value) (Q : Value → Shared → Prop) : Prop :=
  wpAny (model prog w) A (tryCompare a n b) (fun r s' => ∃ z, r = some z ∧ Q z s') E s
end
/-! ### the built-in types decline -/
open MeetsSeq in
section
variable {prog : Program} {w : World} {A : Around} {E : Value → Shared → Prop} {s : Shared} {x a : Addr} {Q : Value → Shared → Prop}
end
/-! ### the two operations -/
def seven : List String := ["NoneType", "bool", "int", "str", "tuple", "list", "dict"]
/-- of the class at C: no built-in type stands above it or below it, its != is object's -/
structure EqS (K : PySem.W.Frag) (C : Addr) : Prop where
  nf : ∀ t ∈ seven, PySem.W.subIn K (.type t) (.ref C) = some false
  sb : ∀ t ∈ seven, PySem.W.subIn K (.ref C) (.type t) = some false
  ne : NeOk K C
def eqSB (x : Str) (K : PySem.W.Frag) : Bool := (seven.all fun t => decide (PySem.W.subIn K (.type t) (.ref (He.ga K x)) = some false) && decide (PySem.W.subIn K (.ref (He.ga K x)) (.type t) = some false)) && neB x K
/-- whether D stands below C, which is another class -/
structure Below (K : PySem.W.Frag) (C D : Addr) (b : Bool) : Prop where
  ne : C ≠ D
  sub : PySem.W.subIn K (.ref D) (.ref C) = some b
def belB (c d : Str) (b : Bool) (K : PySem.W.Frag) : Bool := (He.ga K c != He.ga K d) && decide (PySem.W.subIn K (.ref (He.ga K d)) (.ref (He.ga K c)) = some b)
section
variable {X : Cx} {W : WX} {k j : Nat} {pins : List (Addr × Obj)} {σ : L2.St} {H : Hp} {s : Shared}
end
section
variable {X : Cx} {W : WX} {k j : Nat} {pins : List (Addr × Obj)} {σ : L2.St} {H : Hp} {s : Shared}
/-- the other side: sw tells that the own side stands at the right -/
inductive OthOk (K : PySem.W.Frag) (H : Hp) (ne : Bool) : Bool → Addr → V → Prop where
  | ld {C : Addr} {z : V} {T : String} (ty : TyX K H z (.type T)) (hT : T ∈ seven) (hn : PySem.W.subIn K (.type T) (.ref C) = some false) : OthOk K H ne false C z
  | li {C D b dy : Addr} {gs : List (Str × V)} (e : H b = some (.ins D dy gs)) (hn : PySem.W.notFirst K C (.ref D) = true) : OthOk K H ne false C (.ref b)
  | ri {C D b dy : Addr} {gs : List (Str × V)} (e : H b = some (.ins D dy gs)) (hn : D ≠ C) (hs : PySem.W.subIn K (.ref C) (.ref D) = some true) : OthOk K H ne true C (.ref b)
  | rd {C : Addr} {z : V} {T : String} (ty : TyX K H z (.type T)) (hT : T ∈ seven) (hs : PySem.W.subIn K (.ref C) (.type T) = some false) (h : ne = false) : OthOk K H ne true C z
def neF (ne c : Bool) : Bool := if ne then !c else c
def rEqX (X : Cx) (k : Nat) (ne : Bool) : R2 := fun x y H Q => ∃ (sw : Bool) (z : V) (a C dx : Addr) (fs : List (Str × V)) (g : Addr) (fd : FuncData) (ps : List Str) (m : FM), x = (if sw then z else V.ref a) ∧ y = (if sw then V.ref a else z) ∧
  H a = some (.ins C dx fs) ∧ Meth X.K C "__eq__" g ∧ (ne = true → NeOk X.K C) ∧ OthOk X.K H ne sw C z ∧ FnG X.prog X.w X.K X.mg X.base k g fd ps (spG (cg X) 2 m) ∧ Binds X.K fd ps [] ∧ spG (cg X) 2 m [V.ref a, z] H (fun v H' => ∃ c, v = .bl c ∧ Q (.bl (neF ne c)) H') XN
end
section
variable {X : Cx} {W : WX} {k j : Nat}
end
/-! ### by values -/
def callEq (tab : List (Str × FM)) (ne : Bool) (c : Str) (x y : D) (s : S) : R D := match tab.lookup c with
  | some m => (noX (m [x, y] s)).bnd fun r s2 => (match r with
    | .bl b => .ok (.bl (neF ne b)) s2
    | _ => .bad)
  | none => .bad
def opEqX (tab : List (Str × FM)) (rel : List ((Str × Str) × Bool)) (ne : Bool) : F2 := fun x y s => match insOf s x with
  | some (c, _) => (match insOf s y with
    | some (d, _) => if c = d then callEq tab ne c x y s else (match rel.lookup (c, d) with
      | some false => callEq tab ne c x y s
      | some true => callEq tab ne d y x s
      | none => .bad)
    | none => (match tyOf s y with
      | some _ => callEq tab ne c x y s
      | none => .bad))
  | none => (match insOf s y with
    | some (d, _) => if ne then .bad else (match tyOf s x with
      | some _ => callEq tab ne d y x s
      | none => .bad)
    | none => .bad)
section
variable {X : Cx} {W : WX} {k : Nat} {tab : List (Str × FM)} {rel : List ((Str × Str) × Bool)}
end
end VL
/-! in and not in of own classes; sorted(set(t)), t a tuple of ints -/
namespace VL
open PySem PySem.Spec PyProof.Rows L2
def rInX (X : Cx) (k : Nat) (ne : Bool) : R2 := fun x y H Q => ∃ (a C dx : Addr) (fs : List (Str × V)) (g : Addr) (fd : FuncData) (ps : List Str) (m : FM), y = V.ref a ∧ H a = some (.ins C dx fs) ∧ Meth X.K C "__contains__" g ∧
  FnG X.prog X.w X.K X.mg X.base k g fd ps (spG (cg X) 2 m) ∧ Binds X.K fd ps [] ∧ spG (cg X) 2 m [V.ref a, x] H (fun v H' => ∃ c, v = .bl c ∧ Q (.bl (neF ne c)) H') XN
section
variable {X : Cx} {W : WX} {k j : Nat}
def opInX (tab : List (Str × FM)) (ne : Bool) : F2 := fun x y s => match insOf s y with
  | some (c, _) => callEq tab ne c y x s
  | none => .bad
variable {tab : List (Str × FM)}
end
/-! ### sorted(set(t)) -/
def insS (k : Int) : List Int → List Int
  | [] => [k]
  | x :: r => if k < x then k :: x :: r else if k = x then x :: r else x :: insS k r
def srtSet (ns : List Int) : List Int := ns.foldr insS []
theorem mem_insS {k j : Int} : ∀ {l : List Int}, j ∈ insS k l ↔ j = k ∨ j ∈ l
  | [] => by simp [insS]
  | x :: r => by
    unfold insS
    split
    · simp
    · split
      · rename_i h
        subst h
        simp
      · rw [List.mem_cons, mem_insS, List.mem_cons]
        exact ⟨fun h => by rcases h with h | h | h <;> simp [h], fun h => by rcases h with h | h | h <;> simp [h]⟩
theorem pw_insS {k : Int} : ∀ {l : List Int}, l.Pairwise (· < ·) → (insS k l).Pairwise (· < ·)
  | [], _ => by simp [insS]
  | x :: r, h => by
    obtain ⟨h1, h2⟩ := List.pairwise_cons.1 h
    unfold insS
    split
    · rename_i hk
      exact List.pairwise_cons.2 ⟨fun y hy => by
        rcases List.mem_cons.1 hy with rfl | hy
        · exact hk
        · have := h1 y hy; omega, h⟩
    · split
      · exact h
      · exact List.pairwise_cons.2 ⟨fun y hy => by
          rcases mem_insS.1 hy with rfl | hy
          · omega
          · exact h1 y hy, pw_insS h2⟩
theorem mem_srtSet {j : Int} : ∀ {ns : List Int}, j ∈ srtSet ns ↔ j ∈ ns
  | [] => by simp [srtSet]
  | n :: ns => by
    show j ∈ insS n (srtSet ns) ↔ _
    rw [mem_insS, mem_srtSet, List.mem_cons]
theorem pw_srtSet : ∀ {ns : List Int}, (srtSet ns).Pairwise (· < ·)
  | [] => List.Pairwise.nil
  | n :: ns => pw_insS (k := n) pw_srtSet
theorem asc_uniq : ∀ {a b : List Int}, a.Pairwise (· < ·) → b.Pairwise (· < ·) → (∀ k, k ∈ a ↔ k ∈ b) → a = b
  | [], [], _, _, _ => rfl
  | [], y :: b, _, _, h => by have := (h y).2 (List.mem_cons_self ..); simp at this
  | x :: a, [], _, _, h => by have := (h x).1 (List.mem_cons_self ..); simp at this
  | x :: a, y :: b, ha, hb, h => by
    obtain ⟨a1, a2⟩ := List.pairwise_cons.1 ha
    obtain ⟨b1, b2⟩ := List.pairwise_cons.1 hb
    have e : x = y := by
      have h1 := (h x).1 (List.mem_cons_self ..)
      have h2 := (h y).2 (List.mem_cons_self ..)
      rcases List.mem_cons.1 h1 with e | e
      · exact e
      · rcases List.mem_cons.1 h2 with e' | e'
        · exact e'.symm
        · have z1 := b1 x e
          have z2 := a1 y e'
          omega
    subst e
    rw [asc_uniq a2 b2 fun k => ?_]
    constructor
    · intro hk
      have z := a1 k hk
      rcases List.mem_cons.1 ((h k).1 (List.mem_cons_of_mem _ hk)) with e | e
      · omega
      · exact e
    · intro hk
      have z := b1 k hk
      rcases List.mem_cons.1 ((h k).2 (List.mem_cons_of_mem _ hk)) with e | e
      · omega
      · exact e
def tSrtSet (K : PySem.W.Frag) (ta : TE) : TE := fun σ H Q => ta σ H fun x H1 => ∃ (p : Addr) (ns : List Int), x = V.ref p ∧ SqT K H1 p (ns.map V.int) ∧ ns.length < 64 ∧ ∀ q : Addr, H1 q = none → Q (.ref q) (upd H1 q (.lst ((srtSet ns).map V.int)))
section
variable {X : Cx} {W : WX} {a : Expr} {m : ME} {p p2 q pos : Pos}
theorem pe_srtSet {ta : TE} (hc : X.calm = true) (hg : Gl X "sorted") (hm : X.mg "sorted" = none) (hg2 : Gl X "set") (hm2 : X.mg "set" = none) (ha : PE X a ta)
    (na : starEach [a] X.env = (false, eval a X.env) :: starEach [] X.env := by rfl) : PE X (.Call (.Name "sorted" p) [.Call (.Name "set" p2) [a] [] q] [] pos) (tSrtSet X.K ta) := by
  refine ⟨fun pins s σ H Q I h => ?_⟩
  refine Call_ (ld_blt I hg hm PyProof.Rows.boot_sorted ?_)
  refine PyProof.Rows.callWith_builtin1 (PyProof.Rows.args_cons ?_ rfl) rfl rfl
  refine Call_ (ld_blt I hg2 hm2 PyProof.Rows.boot_set ?_)
  refine PyProof.Rows.callWith_type1 (PyProof.Rows.args_cons (thn (ha.run pins s σ H _ I h) fun v s1 ⟨x, H1, I1, r1, q1⟩ => PyProof.Rows.args_nil ?_) na) na rfl
  obtain ⟨l, ns, rfl, hq, h1, q1⟩ := q1
  cases r1
  obtain ⟨its, rv, pt, hz⟩ := I1.tuple hq
  have hi : IntsAre its.toArray.toList ns := by simpa using ints_of_vals rv
  have hd := I1.ok.hd hc
  refine call_set_tupI ns hd (show s1.heap.IsTuple l its.toArray from pt) hi (by unfold scanBound; omega) fun h' tk c R1 hcn k => ?_
  have I2 : L2.Inv X pins σ H1 { s1 with heap := h', toks := tk } := I1.kept k
  refine PyProof.Rows.args_nil ?_
  refine sorted_set (s := { s1 with heap := h', toks := tk }) R1 (I2.ok.hd hc) (by omega) fun s' p out c ms k g o hp hg hi hs hm hl => ?_
  have hlen : (ms.map V.int).length ≤ sizeLine := by rw [List.length_map, hl, sizeLine_eq]; omega
  have hn : H1 p = none := I2.hok.fresh hp
  have J : L2.Inv X pins σ (upd H1 p (.lst (ms.map V.int))) { ({ s1 with heap := h', toks := tk } : Shared) with heap := s'.heap, gens := s'.gens, drawn := s'.drawn, toks := s'.toks } :=
    I2.call (s := { s1 with heap := h', toks := tk }) (ch := []) (Un.laid k hp hn) (I2.hok.laid k hp ⟨hlen, out.toList, c, vals_of_ints hi, hg⟩) (by rw [g]; exact I2.bare) (fun _ z => nomatch z)
  have e : s' = { s1 with heap := s'.heap, gens := s'.gens, drawn := s'.drawn, toks := s'.toks } := by
    cases s'
    cases s1
    cases o
    rfl
  rw [e]
  have em : ms = srtSet ns := asc_uniq hs pw_srtSet fun k => by rw [hm k, mem_srtSet]; simp
  exact ⟨.ref p, _, J, rfl, by rw [em]; exact q1 p hn⟩
def mSrtSet (ma : ME) : ME := fun ρ s => (ma ρ s).bnd fun d s1 => match d with
  | .tup ds => (match toI ds with
    | some ns => if ns.length < 64 then .ok (.lst ((srtSet ns).map .int)) s1 else .bad
    | none => .bad)
  | _ => .bad
theorem ve_srtSet (h : VE X W a m) (hg : Gl X "sorted") (hm : X.mg "sorted" = none) (hg2 : Gl X "set") (hm2 : X.mg "set" = none) (hc : X.calm = true := by rfl)
    (na : starEach [a] X.env = (false, eval a X.env) :: starEach [] X.env := by rfl) : VE X W (.Call (.Name "sorted" p) [.Call (.Name "set" p2) [a] [] q] [] pos) (mSrtSet m) :=
  pe_imp (pe_srtSet hc hg hm hg2 hm2 h na) fun σ H Q ⟨ι, s, ρ, qq, e, h⟩ => rdE_on qq e h fun d v ι1 H1 s1 e1 q1 r1 h1 => by
    split at h1
    · rename_i ds
      split at h1
      · rename_i ns hn
        split at h1
        · rename_i hl
          obtain ⟨b, xs, rfl, t, k⟩ := relTup r1
          rw [toI_rel hn k] at t
          exact ⟨b, ns, rfl, t, hl, fun p hp => h1.newL q1 RelDs.ofInts hp⟩
        · exact h1.elim
      · exact h1.elim
    · exact h1.elim
end
/-! ### constants of the class, of several classes -/
def mConT (tab : List (Str × Str)) (f : Str) (mo : ME) : ME := fun ρ s => (mo ρ s).bnd fun d s1 => match insOf s1 d with
  | some (c, fs) => (match tab.lookup c with
    | some y => if fs.lookup f = none then .ok (.str y) s1 else .bad
    | none => .bad)
  | none => .bad
section
variable {X : Cx} {W : WX}
end
end VL
/-! own + and * that may raise, the right one any value -/
namespace VL
open PySem PySem.Spec PyProof.Rows L2
section
open PySem.W PySem.Calls
variable {prog : Program} {w : World} {A : Around} {E : Value → Shared → Prop} {s : Shared} {K : PySem.W.Frag} {x y C D f : Addr} {ox oy : Obj} {od od' : Option Obj} {T nm : String} {Q : Value → Shared → Prop}
end
/-- what the operator nm of the class at C asks of the built-in types -/
structure BinOk (K : PySem.W.Frag) (C : Addr) (nm : String) : Prop where
  sf : PySem.W.selfFirst K C = true
  rr : PySem.W.findIn K (.ref C) (dunderR nm) = some none
  ty : ∀ t ∈ seven, (∃ fo, PySem.W.findIn K (.type t) (PySem.dunder nm) = some fo) ∧ (∃ ro, PySem.W.findIn K (.type t) (dunderR nm) = some ro) ∧ PySem.W.subIn K (.type t) (.ref C) = some false
def binB (x : Str) (nm : String) (K : PySem.W.Frag) : Bool := PySem.W.selfFirst K (He.ga K x) && (He.eqO (PySem.W.findIn K (.ref (He.ga K x)) (dunderR nm)) (some none) && seven.all fun t => (PySem.W.findIn K (.type t) (PySem.dunder nm)).isSome && ((PySem.W.findIn K (.type t) (dunderR nm)).isSome && decide (PySem.W.subIn K (.type t) (.ref (He.ga K x)) = some false)))
/-- instances of the class at D, below object alone, have neither slot of nm -/
structure NoNm (K : PySem.W.Frag) (D : Addr) (nm : String) : Prop where
  cd : ∃ cd, PySem.W.clsIn K D = some cd ∧ cd.mro = [.ref D, .type "object"]
  h1 : PySem.W.findIn K (.ref D) (PySem.dunder nm) = some none
  h2 : PySem.W.findIn K (.ref D) (dunderR nm) = some none
  h3 : PySem.W.findIn K (.type "object") (PySem.dunder nm) = some none
  h4 : PySem.W.findIn K (.type "object") (dunderR nm) = some none
def noNmB (x : Str) (nm : String) (K : PySem.W.Frag) : Bool := (match PySem.W.clsIn K (He.ga K x) with
  | some cd => cd.mro == [.ref (He.ga K x), .type "object"]
  | none => false) && (He.eqO (PySem.W.findIn K (.ref (He.ga K x)) (PySem.dunder nm)) (some none) && (He.eqO (PySem.W.findIn K (.ref (He.ga K x)) (dunderR nm)) (some none) && (He.eqO (PySem.W.findIn K (.type "object") (PySem.dunder nm)) (some none) && He.eqO (PySem.W.findIn K (.type "object") (dunderR nm)) (some none))))
inductive RtOk (K : PySem.W.Frag) (H : Hp) (C : Addr) (nm : String) : V → Prop where
  | da {u : V} {T : String} (ty : TyX K H u (.type T)) (hT : T ∈ seven) : RtOk K H C nm u
  | sa {b dy : Addr} {gs : List (Str × V)} (e : H b = some (.ins C dy gs)) : RtOk K H C nm (.ref b)
  | ot {b D dy : Addr} {gs : List (Str × V)} (e : H b = some (.ins D dy gs)) (hn : C ≠ D) (no : NoNm K D nm) : RtOk K H C nm (.ref b)
def okRt (oth : List Str) (s : S) (c : Str) (y : D) : Bool := match insOf s y with
  | some (d, _) => decide (d = c) || oth.contains d
  | none => (tyOf s y).isSome
def mOpX (tab : List (Str × FM)) (oth : List Str) (ma mb : ME) : ME := fun ρ s => (ma ρ s).bnd fun x s1 => (mb ρ s1).bnd fun y s2 => match insOf s2 x with
  | some (c, _) => (match tab.lookup c with
    | some m => if okRt oth s2 c y = true then retag ρ (m [x, y] s2) else .bad
    | none => .bad)
  | none => .bad
section
variable {X : Cx} {W : WX} {k j : Nat} {tab : List (Str × FM)} {oth : List Str}
end
end VL
namespace VL
open PySem PySem.Spec PyProof.Rows L2

/-! ### int(x) of a text -/
def fIntS : FA := fun xs s => match xs with
  | [.str a] => (match PySem.intText? a with
    | some n => if a.length ≤ 640 then .ok (.int n) s else .bad
    | none => .bad)
  | _ => .bad
/-! ### one sign in a text -/
def opInS : F2 := fun x y s => match x, y with
  | .str a, .str z => (match a.cps.toList with
    | [c] => .ok (.bl (decide (c ∈ z.cps.toList))) s
    | _ => .bad)
  | _, _ => .bad
/-! ### x.split(y) -/
def splF (x y : D) (s : S) : R D := match x, y with
  | .str a, .str b => if (b.length == 0) = false ∧ a.length ≤ 1000000 then .ok (.lst ((Txt.split a b).map .str)) s else .bad
  | _, _ => .bad
def mSplit (mo me : ME) : ME := fun ρ s => (mo ρ s).bnd fun x s1 => if isStrD x = true then (me ρ s1).bnd fun y s2 => splF x y s2 else .bad
/-! ### x.upper() -/
def mUpper (mo : ME) : ME := fun ρ s => (mo ρ s).bnd fun x s1 => match x with
  | .str a => if a.length ≤ 1000000 then .ok (.str (Txt.upper a)) s1 else .bad
  | _ => .bad
section
variable {X : Cx} {W : WX} {o e : Expr} {mo me : ME} {apos pos : Pos}
end

/-! ### x.replace(y, z) of written texts: a token must be out -/
abbrev VET (X : Cx) (W : WX) (e : Expr) (m : ME) : Prop := PET X e (rdE (cg X) W m)
abbrev VAT (X : Cx) (W : WX) (es : List Expr) (ms : MA) : Prop := PAT X es (rdA (cg X) W ms)
abbrev VST (X : Cx) (W : WX) (st : Stmt) (a : MS) : Prop := PST X st (rdS (cg X) W a)
abbrev VSsT (X : Cx) (W : WX) (st : List Stmt) (a : MS) : Prop := PSsT X st (rdS (cg X) W a)
/-- an expression behind which a token is out -/
def PEK (X : Cx) (e : Expr) (t : TE) : Prop :=
  ∀ (pins : List (Addr × Obj)) (s : Shared) (σ : L2.St) (H : Hp) (Q : VK), Inv X pins σ H s → t σ H Q → wpAny (model X.prog X.w) X.A (eval e X.env) (fun v s1 => 1 ≤ s1.toks ∧ EP X pins σ Q v s1) X.xe s
abbrev VEK (X : Cx) (W : WX) (e : Expr) (m : ME) : Prop := PEK X e (rdE (cg X) W m)
def mReplC (y z : Str) (mo : ME) : ME := fun ρ s => (mo ρ s).bnd fun x s1 => match x with
  | .str a => if a.length + (a.length + 1) * z.length ≤ 1000000 then .ok (.str (Txt.replace a y z)) s1 else .bad
  | _ => .bad
section
variable {X : Cx} {W : WX} {o e f : Expr} {es : List Expr} {mo me mf : ME} {ms : MA} {apos pos : Pos} {st : Stmt} {rest : List Stmt} {a b : MS}
end
end VL
namespace VL
open PySem PySem.Spec PyProof.Rows L2

/-! ### a, *b = a list -/
section
variable {prog : Program} {w : World} {A : Around} {E : Value → Shared → Prop} {s : Shared}
end
section
variable {X : Cx} {W : WX} {pos p : Pos} {e1 e2 : Expr} {k : Nat}
def gStarL (K : PySem.W.Frag) (t : TGs) : TG := fun v σ H Q => ∃ a x xs, v = .ref a ∧ SqL K H a (x :: xs) ∧ xs.length ≤ 16000 ∧ ∀ p, H p = none → t [x, .ref p] σ (upd H p (.lst xs)) Q
def gTSL (gs : MGs) : MG := fun d ρ s => match asL s d with
  | some (d0 :: ds) => if ds.length ≤ 16000 then gs [d0, .lst ds] ρ s else .bad
  | _ => .bad
end
end VL
/-! generators that sleep: what may change while they do; the frame's facts taken up again -/
namespace VL
open PySem PySem.Spec PyProof.Rows L2 GenW

/-! ### the first objects of a heap -/
def trunc (h : Heap) (n : Nat) : Heap := ⟨h.objs.extract 0 n, h.life⟩
theorem trunc_size {h : Heap} {n : Nat} (hn : n ≤ h.objs.size) : (trunc h n).objs.size = n := by
  show (h.objs.extract 0 n).size = n
  simp
  omega
theorem trunc_get (h : Heap) (n : Nat) (b : Addr) : (trunc h n).get? b = if b < n then h.get? b else none := by
  have e : (h.objs.extract 0 n)[b]? = if b < n then h.objs[b]? else none := by
    rw [Array.getElem?_extract]
    rcases Nat.lt_or_ge b n with h1 | h1
    · rcases Nat.lt_or_ge b h.objs.size with h2 | h2
      · rw [if_pos h1, if_pos (by rw [Nat.sub_zero]; exact Nat.lt_min.mpr ⟨h1, h2⟩), Nat.zero_add]
      · rw [if_pos h1, if_neg (by rw [Nat.sub_zero]; exact fun q => absurd (Nat.lt_min.mp q).2 (Nat.not_lt.mpr h2)), Array.getElem?_eq_none h2]
    · rw [if_neg (Nat.not_lt.mpr h1), if_neg (by rw [Nat.sub_zero]; exact fun q => absurd (Nat.lt_min.mp q).1 (Nat.not_lt.mpr h1))]
  unfold Heap.get? trunc
  simp only [e]
  by_cases hb : b < n
  · simp [hb]
  · simp [hb]
theorem trunc_of {h : Heap} {n : Nat} {b : Addr} {o : Obj} (e : (trunc h n).get? b = some o) : b < n ∧ h.get? b = some o := by
  rw [trunc_get] at e
  split at e
  · exact ⟨by assumption, e⟩
  · cases e
theorem trunc_at {h : Heap} {n : Nat} {b : Addr} {o : Obj} (hb : b < n) (e : h.get? b = some o) : (trunc h n).get? b = some o := by
  rw [trunc_get, if_pos hb, e]
/-! ### the context of a generator def's body, at any of its turns -/
def gcx (P : Program) (w : World) (K : PySem.W.Frag) (mg : Str → Option Value) (base : Heap) (N : List Str) (qual : Str) (scope : Scope) (f : Addr) (cd : Value) (A : Around) (outer : List Env) (n0 : Nat) (s : Shared) (H : Hp) (E : XK) (pn : List (Addr × Obj)) : Cx where
  prog := P
  w := w
  K := K
  mg := mg
  base := base
  A := A.deeper (envOfC qual scope n0 f cd)
  N := N
  s_0 := s
  H_0 := H
  env := envOfC qual scope n0 f cd
  outer := outer
  stack := envOfC qual scope n0 f cd :: outer
  ex := []
  calm := true
  fn := fun _ => true
  pn := pn
  xe := fun e s' => wpAny (model P w) (A.deeper (envOfC qual scope n0 f cd)) (leaving (envOfC qual scope n0 f cd) e)
      (fun _ s'' => L2.CX P w outer H s E e s'' ∧ ∀ p ∈ pn, s''.heap.get? p.1 = some p.2) (fun _ _ => False) s'
section
variable {P : Program} {w : World} {K : PySem.W.Frag} {mg : Str → Option Value} {base : Heap} {N : List Str} {qual : Str} {scope : Scope} {f : Addr} {cd : Value} {A A' : Around} {outer : List Env} {n0 g : Nat} {s0 s s' : Shared} {H0 H Hr : Hp} {E E' : XK} {pn pins : List (Addr × Obj)} {σ : L2.St} {C : List Addr}
end
end VL
/-! generators: values as they lie in a heap (whole numbers, tuples ..), what a run of a generator keeps -/
namespace VL
open PySem PySem.Spec PyProof.Rows L2 GenW

mutual
/-- the value v is d, by the heap alone -/
def PhD (h : Heap) : D → Value → Prop
  | .non, v => v = .none
  | .bl b, v => v = .bool b
  | .int i, v => ∃ t, v = .int i t
  | .str x, v => ∃ t, v = .str x t
  | .tup ds, v => ∃ (a : Addr) (its : List Value), v = .ref a ∧ IsTup h a its.toArray ∧ PhDs h ds its
  | _, _ => False
def PhDs (h : Heap) : List D → List Value → Prop
  | [], vs => vs = []
  | d :: ds, vs => ∃ v r, vs = v :: r ∧ PhD h d v ∧ PhDs h ds r
end
mutual
/-- made of whole numbers, truths, texts, None and tuples of these -/
def pureD : D → Bool
  | .non => true
  | .bl _ => true
  | .int _ => true
  | .str _ => true
  | .tup ds => pureDs ds
  | _ => false
def pureDs : List D → Bool
  | [] => true
  | d :: ds => pureD d && pureDs ds
end
theorem isTup_inj {h : Heap} {a : Addr} {i j : Array Value} (x : IsTup h a i) (y : IsTup h a j) : i = j := by
  obtain ⟨o, e1, _, n, d1⟩ := x
  obtain ⟨o2, e2, _, n2, d2⟩ := y
  rw [e1] at e2
  cases e2
  rw [d1] at d2
  cases d2
  rfl
/-- two lists of values that are read as the same -/
def SameV (us vs : List Value) : Prop := us = vs ∨ ∃ xs, Vals xs us ∧ Vals xs vs
/-- tuples stay tuples of the same values -/
def TK (h h' : Heap) : Prop := ∀ (a : Addr) (its : List Value), IsTup h a its.toArray → ∃ its', IsTup h' a its'.toArray ∧ SameV its its'
theorem TK.refl (h : Heap) : TK h h := fun a its x => ⟨its, x, .inl rfl⟩
theorem TK.kept {h h' : Heap} (k : ∀ b o, h.get? b = some o → h'.get? b = some o) : TK h h' := fun a its x => ⟨its, x.keeps k, .inl rfl⟩
theorem ph_same {h : Heap} {d : D} {x : V} {u v : Value} (p : PhD h d u) (r1 : RelV x u) (r2 : RelV x v) : PhD h d v := by
  cases d with
  | non =>
    simp only [PhD] at p ⊢
    subst p
    cases x <;> simp only [L2.RelV] at r1 r2 <;> first | exact r2 | (obtain ⟨_, q⟩ := r1; cases q) | cases r1
  | bl b =>
    simp only [PhD] at p ⊢
    subst p
    cases x <;> simp only [L2.RelV] at r1 r2 <;> first | (cases r1; exact r2) | (obtain ⟨_, q⟩ := r1; cases q) | cases r1
  | int i =>
    simp only [PhD] at p ⊢
    obtain ⟨t, rfl⟩ := p
    cases x <;> simp only [L2.RelV] at r1 r2 <;> first | (obtain ⟨_, q⟩ := r1; cases q; exact r2) | (obtain ⟨_, q⟩ := r1; cases q) | cases r1
  | str i =>
    simp only [PhD] at p ⊢
    obtain ⟨t, rfl⟩ := p
    cases x <;> simp only [L2.RelV] at r1 r2 <;> first | (obtain ⟨_, q⟩ := r1; cases q; exact r2) | (obtain ⟨_, q⟩ := r1; cases q) | cases r1
  | tup ds =>
    simp only [PhD] at p ⊢
    obtain ⟨a, its, rfl, q⟩ := p
    have : v = .ref a := by
      cases x <;> simp only [L2.RelV] at r1 r2 <;> first | (cases r1; exact r2) | (obtain ⟨_, q⟩ := r1; cases q) | cases r1
    exact ⟨a, its, this, q⟩
  | _ => simp only [PhD] at p
theorem phs_same {h : Heap} : ∀ {ds : List D} {xs : List V} {us vs : List Value}, PhDs h ds us → Vals xs us → Vals xs vs → PhDs h ds vs
  | [], xs, us, vs, p, r1, r2 => by
    simp only [PhDs] at p ⊢
    subst p
    cases r1
    cases r2
    rfl
  | d :: ds, xs, us, vs, p, r1, r2 => by
    simp only [PhDs] at p ⊢
    obtain ⟨u, r, rfl, p1, p2⟩ := p
    cases r1 with
    | cons q1 t1 =>
      cases r2 with
      | cons q2 t2 => exact ⟨_, _, rfl, ph_same p1 q1 q2, phs_same p2 t1 t2⟩
theorem phs_sameV {h : Heap} {ds : List D} {us vs : List Value} (p : PhDs h ds us) (s : SameV us vs) : PhDs h ds vs := by
  rcases s with rfl | ⟨xs, r1, r2⟩
  · exact p
  · exact phs_same p r1 r2
mutual
theorem ph_tk {h h' : Heap} (k : TK h h') : ∀ (d : D) (v : Value), PhD h d v → PhD h' d v
  | .non, v, p => p
  | .bl _, v, p => p
  | .int _, v, p => p
  | .str _, v, p => p
  | .tup ds, v, p => by
    simp only [PhD] at p ⊢
    obtain ⟨a, its, e, ht, q⟩ := p
    obtain ⟨its', ht', sv⟩ := k a its ht
    exact ⟨a, its', e, ht', phs_sameV (phs_tk k ds its q) sv⟩
  | .lst _, v, p => by simp only [PhD] at p
  | .scr _, v, p => by simp only [PhD] at p
  | .obj _, v, p => by simp only [PhD] at p
  | .glo _, v, p => by simp only [PhD] at p
  | .ty _, v, p => by simp only [PhD] at p
  | .tupF _, v, p => by simp only [PhD] at p
  | .adr _, v, p => by simp only [PhD] at p
  | .exc _ _ _, v, p => by simp only [PhD] at p
theorem phs_tk {h h' : Heap} (k : TK h h') : ∀ (ds : List D) (vs : List Value), PhDs h ds vs → PhDs h' ds vs
  | [], vs, p => p
  | d :: ds, vs, p => by
    simp only [PhDs] at p ⊢
    obtain ⟨v, r, e, p1, p2⟩ := p
    exact ⟨v, r, e, ph_tk k d v p1, phs_tk k ds r p2⟩
end
theorem TK.trans {h h1 h2 : Heap} (a : TK h h1) (b : TK h1 h2) : ∀ (d : D) (v : Value), PhD h d v → PhD h2 d v := fun d v p => ph_tk b d v (ph_tk a d v p)
/-! from what is tracked -/
mutual
theorem ph_rel {P : Program} {w : World} {G : Cg} {ι : Z} {H : Hp} {h : Heap} (ok : HOk P w H h) : ∀ (d : D) (x : V) (v : Value), pureD d = true → RelD G ι H d x → RelV x v → PhD h d v
  | .non, x, v, _, r, rv => by simp only [RelD] at r; subst r; exact rv
  | .bl _, x, v, _, r, rv => by simp only [RelD] at r; subst r; exact rv
  | .int _, x, v, _, r, rv => by simp only [RelD] at r; subst r; exact rv
  | .str _, x, v, _, r, rv => by simp only [RelD] at r; subst r; exact rv
  | .tup ds, x, v, hp, r, rv => by
    simp only [RelD] at r
    obtain ⟨a, xs, rfl, t, rs⟩ := r
    have q : ObjOk P w H h a (.tup xs) := ok a _ t.2
    obtain ⟨_, its, vs, ht⟩ := q
    simp only [PhD]
    exact ⟨a, its, rv, ht, phs_rel ok ds xs its (by simpa only [pureD] using hp) rs vs⟩
  | .lst _, x, v, hp, r, rv => by simp [pureD] at hp
  | .scr _, x, v, hp, r, rv => by simp [pureD] at hp
  | .obj _, x, v, hp, r, rv => by simp [pureD] at hp
  | .glo _, x, v, hp, r, rv => by simp [pureD] at hp
  | .ty _, x, v, hp, r, rv => by simp [pureD] at hp
  | .tupF _, x, v, hp, r, rv => by simp [pureD] at hp
  | .adr _, x, v, hp, r, rv => by simp [pureD] at hp
  | .exc _ _ _, x, v, hp, r, rv => by simp [pureD] at hp
theorem phs_rel {P : Program} {w : World} {G : Cg} {ι : Z} {H : Hp} {h : Heap} (ok : HOk P w H h) : ∀ (ds : List D) (xs : List V) (vs : List Value), pureDs ds = true → RelDs G ι H ds xs → Vals xs vs → PhDs h ds vs
  | [], xs, vs, _, r, rv => by
    simp only [RelDs] at r
    subst r
    cases rv
    simp only [PhDs]
  | d :: ds, xs, vs, hp, r, rv => by
    simp only [pureDs, Bool.and_eq_true] at hp
    simp only [RelDs] at r
    obtain ⟨x, t, rfl, r1, r2⟩ := r
    cases rv with
    | cons q1 q2 =>
      simp only [PhDs]
      exact ⟨_, _, rfl, ph_rel ok d x _ hp.1 r1 q1, phs_rel ok ds t _ hp.2 r2 q2⟩
end
/-! ### only the tuples are tracked -/
def Tonly (H : Hp) : Prop := ∀ b u, H b = some u → ∃ xs, u = .tup xs
def rst (H : Hp) : Hp := fun b => match H b with
  | some (.tup xs) => some (.tup xs)
  | _ => none
theorem rst_tup {H : Hp} {b : Addr} {xs : List V} : rst H b = some (.tup xs) ↔ H b = some (.tup xs) := by
  unfold rst
  cases e : H b with
  | none => simp
  | some u => cases u <;> simp
theorem rst_only (H : Hp) : Tonly (rst H) := fun b u e => by
  unfold rst at e
  cases q : H b with
  | none => rw [q] at e; cases e
  | some o =>
    rw [q] at e
    cases o <;> first | (cases e; exact ⟨_, rfl⟩) | cases e
theorem rst_none {H : Hp} {b : Addr} (h : H b = none) : rst H b = none := by
  unfold rst
  rw [h]
theorem rst_ok {P : Program} {w : World} {H : Hp} {h : Heap} (ok : HOk P w H h) : HOk P w (rst H) h := fun b u e => by
  obtain ⟨xs, rfl⟩ := rst_only H b u e
  exact ok b _ (rst_tup.1 e)
def Z0 : Z := ⟨[], []⟩
theorem z0_off (a : Addr) : Z0.off a := ⟨by simp [Z0], by simp [Z0]⟩
mutual
theorem rel_rst {G : Cg} {ι : Z} {H : Hp} : ∀ (d : D) (x : V), pureD d = true → RelD G ι H d x → RelD G Z0 (rst H) d x
  | .non, x, _, r => r
  | .bl _, x, _, r => r
  | .int _, x, _, r => r
  | .str _, x, _, r => r
  | .tup ds, x, hp, r => by
    simp only [RelD] at r ⊢
    obtain ⟨a, xs, e, t, rs⟩ := r
    exact ⟨a, xs, e, ⟨z0_off a, rst_tup.2 t.2⟩, rels_rst ds xs (by simpa only [pureD] using hp) rs⟩
  | .lst _, x, hp, r => by simp [pureD] at hp
  | .scr _, x, hp, r => by simp [pureD] at hp
  | .obj _, x, hp, r => by simp [pureD] at hp
  | .glo _, x, hp, r => by simp [pureD] at hp
  | .ty _, x, hp, r => by simp [pureD] at hp
  | .tupF _, x, hp, r => by simp [pureD] at hp
  | .adr _, x, hp, r => by simp [pureD] at hp
  | .exc _ _ _, x, hp, r => by simp [pureD] at hp
theorem rels_rst {G : Cg} {ι : Z} {H : Hp} : ∀ (ds : List D) (xs : List V), pureDs ds = true → RelDs G ι H ds xs → RelDs G Z0 (rst H) ds xs
  | [], xs, _, r => r
  | d :: ds, xs, hp, r => by
    simp only [pureDs, Bool.and_eq_true] at hp
    simp only [RelDs] at r ⊢
    obtain ⟨x, t, e, r1, r2⟩ := r
    exact ⟨x, t, e, rel_rst d x hp.1 r1, rels_rst ds t hp.2 r2⟩
end
theorem sim0 {G : Cg} {H : Hp} : Sim G Z0 H [] where
  len := rfl
  nd := by simp [Z0]
  at_ := fun n o a e => by simp at e
  rs := fun a h => by simp [Z0] at h
def pureEnv (ρ : Ev) : Bool := ρ.all fun d => match d with
  | some d => pureD d
  | none => true
theorem env_rst {G : Cg} {ι : Z} {H : Hp} {σ : L2.St} {ρ : Ev} (hp : pureEnv ρ = true) (e : EnvR G ι H σ ρ) : EnvR G Z0 (rst H) σ ρ := ⟨e.1, fun i d h => by
  obtain ⟨v, h1, h2⟩ := e.2 i d h
  have q := List.all_eq_true.1 hp _ (List.mem_of_getElem? h)
  exact ⟨v, h1, rel_rst d v q h2⟩⟩
end VL
/-! generators: what holds from a turn's begin on, what a turn keeps, facts taken up again -/
namespace VL
open PySem PySem.Spec PyProof.Rows L2 GenW

theorem relV_inj {x y : V} {u : Value} (r1 : RelV x u) (r2 : RelV y u) : x = y := by
  cases x <;> cases y <;> simp only [L2.RelV] at r1 r2 <;> first
    | rfl
    | (subst r1; cases r2; rfl)
    | (obtain ⟨t, rfl⟩ := r1; obtain ⟨t', e⟩ := r2; cases e; rfl)
    | (subst r1; cases r2; done)
    | (obtain ⟨t, rfl⟩ := r1; cases r2; done)
    | (subst r1; obtain ⟨t', e⟩ := r2; cases e; done)
    | (obtain ⟨t, rfl⟩ := r1; obtain ⟨t', e⟩ := r2; cases e; done)
theorem vals_inj : ∀ {xs ys : List V} {us : List Value}, Vals xs us → Vals ys us → xs = ys
  | [], ys, us, r1, r2 => by cases r1; cases r2; rfl
  | x :: xs, ys, us, r1, r2 => by
    cases r1 with
    | cons p1 t1 =>
      cases r2 with
      | cons p2 t2 => rw [relV_inj p1 p2, vals_inj t1 t2]
theorem SameV.to {xs : List V} {us vs : List Value} (s : SameV us vs) (r : Vals xs us) : Vals xs vs := by
  rcases s with rfl | ⟨ys, r1, r2⟩
  · exact r
  · rw [vals_inj r r1]; exact r2
theorem SameV.trans {us vs ws : List Value} (a : SameV us vs) (b : SameV vs ws) : SameV us ws := by
  rcases a with rfl | ⟨xs, r1, r2⟩
  · exact b
  · exact .inr ⟨xs, r1, b.to r2⟩
theorem TK.tr {h h1 h2 : Heap} (a : TK h h1) (b : TK h1 h2) : TK h h2 := fun x its t => by
  obtain ⟨its1, t1, s1⟩ := a x its t
  obtain ⟨its2, t2, s2⟩ := b x its1 t1
  exact ⟨its2, t2, s1.trans s2⟩
theorem isTup_list {h : Heap} {a : Addr} {xs ys : List Value} (x : IsTup h a xs.toArray) (y : IsTup h a ys.toArray) : xs = ys := by
  have := congrArg Array.toList (isTup_inj x y)
  simpa using this
theorem hok_tk {P : Program} {w : World} {H : Hp} {h h' : Heap} (to : Tonly H) (k : TK h h') (ok : HOk P w H h) : HOk P w H h' := fun b u e => by
  obtain ⟨xs, rfl⟩ := to b u e
  have q : ObjOk P w H h b (.tup xs) := ok b _ e
  obtain ⟨hl, its, vs, ht⟩ := q
  obtain ⟨its', ht', sv⟩ := k b its ht
  exact ⟨hl, its', sv.to vs, ht'⟩

/-- a generator: its def, the frames that called it, its own object (pn), the records that those who walk it may change (C), its number, the heap at its call, what was tracked there -/
structure GP where
  P : Program
  w : World
  K : PySem.W.Frag
  mg : Str → Option Value
  base : Heap
  N : List Str
  qual : Str
  scope : Scope
  f : Addr
  cd : Value
  outer : List Env
  pn : List (Addr × Obj)
  C : List Addr
  g : Nat
  sc : Heap
  HC : Hp
abbrev GP.n0 (p : GP) : Nat := p.sc.objs.size
abbrev GP.env (p : GP) : Env := envOfC p.qual p.scope p.n0 p.f p.cd
abbrev GP.X (p : GP) (A : Around) (s : Shared) (H : Hp) (E : XK) : Cx := gcx p.P p.w p.K p.mg p.base p.N p.qual p.scope p.f p.cd A p.outer p.n0 s H E p.pn
/-- no cell, nothing with items -/
def NT (o : Obj) : Prop := (∀ v, o.data ≠ .cell v) ∧ ∀ its n, o.data ≠ .seq its n
def isFr : GenState → Bool
  | .fresh _ => true
  | _ => false
structure GP.Ok (p : GP) : Prop where
  cb : ∀ b ∈ p.C, p.base.get? b = none
  cp : ∀ q ∈ p.pn, q.1 ∉ p.C
  cl : ∀ b ∈ p.C, b ≠ p.n0
  cf : ∀ b ∈ p.C, b ∉ frs p.outer
  cells : p.env.cells = []
  py : ∀ q ∈ p.pn, p.n0 ≤ q.1 ∧ NT q.2
/-- while it sleeps: base and young objects stay, tuples stay tuples of the same values, the records at C may change, new objects may come, and generators younger than it stay -/
structure Slp (p : GP) (s s' : Shared) : Prop where
  os : s'.os = s.os
  bare : AllBare s'.gens
  size : s.heap.objs.size ≤ s'.heap.objs.size
  keepB : ∀ b o, p.base.get? b = some o → s.heap.get? b = some o → s'.heap.get? b = some o
  keepY : ∀ b o, p.n0 ≤ b → b ∉ p.C → NT o → s.heap.get? b = some o → s'.heap.get? b = some o
  tk : TK s.heap s'.heap
  there : ∀ b oc o, p.sc.get? b = some oc → s.heap.get? b = some o → ∃ o', s'.heap.get? b = some o'
  cs : ∀ b ∈ p.C, ∃ o, s'.heap.get? b = some o ∧ ∀ v, o.data ≠ .cell v
  frm : ∀ b o, b ∈ frs p.outer → s.heap.get? b = some o → (∀ vs, o.data ≠ .fields vs) → ∃ o', s'.heap.get? b = some o' ∧ ∀ vs, o'.data ≠ .fields vs
  gens : ∀ i x, p.g < i → isFr x = false → s.gens[i]? = some x → s'.gens[i]? = some x
  gsz : s.gens.size ≤ s'.gens.size
theorem Slp.same {p : GP} {s s' : Shared} (hh : s'.heap = s.heap) (ho : s'.os = s.os) (hb : AllBare s'.gens) (cs : ∀ b ∈ p.C, ∃ o, s.heap.get? b = some o ∧ ∀ v, o.data ≠ .cell v) (hg : ∀ i x, p.g < i → s.gens[i]? = some x → s'.gens[i]? = some x) (hz : s.gens.size ≤ s'.gens.size) : Slp p s s' where
  os := ho
  bare := hb
  size := by rw [hh]; exact Nat.le_refl _
  keepB := fun b o _ e => by rw [hh]; exact e
  keepY := fun b o _ _ _ e => by rw [hh]; exact e
  tk := by rw [hh]; exact TK.refl _
  there := fun b oc o _ e => ⟨o, by rw [hh]; exact e⟩
  cs := by rw [hh]; exact cs
  frm := fun b o _ e hd => ⟨o, by rw [hh]; exact e, hd⟩
  gens := fun i x h _ e => hg i x h e
  gsz := hz
/-- the facts at a turn's begin: the ghost entry (γs, γH), the pins W -/
structure Wk (p : GP) (s₀ γs : Shared) (γH : Hp) (W : List (Addr × Obj)) : Prop where
  sz : γs.heap.objs.size = p.n0
  os : γs.os = s₀.os
  tr : ∀ b o, b < p.n0 → s₀.heap.get? b = some o → γs.heap.get? b = some o
  to : Tonly γH
  ok : HOk p.P p.w γH s₀.heap
  tw : ∀ b its, p.n0 ≤ b → γH b = none → IsTup s₀.heap b its → ∃ o, (b, o) ∈ W ∧ s₀.heap.get? b = some o
  cw : ∀ b ∈ p.C, ∃ o, (b, o) ∈ W ∧ s₀.heap.get? b = some o
  wt : ∀ q ∈ W, q.1 ∈ p.C ∨ ∃ its n, q.2.data = .seq its n
  th : ∀ b o, p.sc.get? b = some o → ∃ o', s₀.heap.get? b = some o'
  fr : ∀ b o, p.sc.get? b = some o → p.HC b = none → γH b = none
/-- what a turn keeps -/
structure Rn (p : GP) (s₀ s : Shared) : Prop where
  os : s.os = s₀.os
  bare : AllBare s.gens
  lim : s.heap.NoLimit
  tk : TK s₀.heap s.heap
  low : ∀ b oc o, p.sc.get? b = some oc → p.HC b = none → b ∉ frs p.outer → s₀.heap.get? b = some o → s.heap.get? b = some o
  slot : ∀ b o, b ∈ frs p.outer → s₀.heap.get? b = some o → ∃ sl, s.heap.get? b = some { o with slots := sl }
  cs : ∀ b ∈ p.C, ∀ o, s₀.heap.get? b = some o → s.heap.get? b = some o
  pn : ∀ q ∈ p.pn, s.heap.get? q.1 = some q.2
  th : ∀ b oc, p.sc.get? b = some oc → ∃ o, s.heap.get? b = some o
theorem Rn.trans {p : GP} {a b c : Shared} (x : Rn p a b) (y : Rn p b c) : Rn p a c where
  os := y.os.trans x.os
  bare := y.bare
  lim := y.lim
  tk := x.tk.tr y.tk
  low := fun d oc o h1 h2 h3 e => y.low d oc o h1 h2 h3 (x.low d oc o h1 h2 h3 e)
  slot := fun d o h e => by
    obtain ⟨sl, e1⟩ := x.slot d o h e
    obtain ⟨sl2, e2⟩ := y.slot d _ h e1
    exact ⟨sl2, e2⟩
  cs := fun d h o e => y.cs d h o (x.cs d h o e)
  pn := y.pn
  th := y.th
section
variable {p : GP} {A A' : Around} {s₀ γs s s' : Shared} {γH H Hr : Hp} {E E' : XK} {W ip : List (Addr × Obj)} {σ : L2.St}
theorem rn_of (k : Wk p s₀ γs γH W) (I : Inv (p.X A γs γH E) (W ++ ip) σ H s) : Rn p s₀ s where
  os := I.os.trans k.os
  bare := I.bare
  lim := I.nolimit
  tk := fun a its ht => by
    cases e : γH a with
    | some u =>
      obtain ⟨xs, rfl⟩ := k.to a u e
      obtain ⟨_, its0, vs, ht0⟩ := k.ok a _ e
      have q2 : its = its0 := isTup_list ht ht0
      subst q2
      obtain ⟨_, its', vs', ht'⟩ := I.hok a _ (I.base.tups a xs e)
      exact ⟨its', ht', .inr ⟨xs, vs, vs'⟩⟩
    | none =>
      rcases Nat.lt_or_ge a p.n0 with hb | hb
      · obtain ⟨o, e1, e2, n, e3⟩ := ht
        have q := k.tr a o hb e1
        by_cases hf : a ∈ frs p.outer
        · obtain ⟨sl, e4⟩ := I.base.slot a o q e hf (fun z => by cases z)
          exact ⟨its, ⟨_, e4, e2, n, e3⟩, .inl rfl⟩
        · exact ⟨its, ⟨o, I.base.keep a o q e hf (fun z => by cases z), e2, n, e3⟩, .inl rfl⟩
      · obtain ⟨o, hm, e1⟩ := k.tw a _ hb e ht
        obtain ⟨o2, e2, e3, e4⟩ := ht
        rw [e1] at e2
        cases e2
        exact ⟨its, ⟨o, (I.pin (a, o) (List.mem_append_right _ (List.mem_append_left _ hm))).1, e3, e4⟩, .inl rfl⟩
  low := fun b oc o hc hn hf e => by
    have hb : b < p.n0 := Heap.lt_size hc
    exact I.base.keep b o (k.tr b o hb e) (k.fr b oc hc hn) hf (fun z => by cases z)
  slot := fun b o hf e => by
    have hb : b < p.n0 := by
      obtain ⟨_, o', ho, _⟩ := I.ok.funs.mem hf
      have := Heap.lt_size ho
      rw [← k.sz]
      exact this
    exact I.base.slot b o (k.tr b o hb e) (I.ok.frf b hf) hf (fun z => by cases z)
  cs := fun b hb o e => by
    obtain ⟨o', hm, e'⟩ := k.cw b hb
    rw [e] at e'
    cases e'
    exact (I.pin (b, o) (List.mem_append_right _ (List.mem_append_left _ hm))).1
  pn := fun q hq => (I.pin q (List.mem_append_left _ hq)).1
  th := fun b oc e => by
    obtain ⟨o1, e1⟩ := k.th b oc e
    exact I.base.there b o1 (k.tr b o1 (Heap.lt_size e) e1) (fun z => by cases z)
open Classical in
noncomputable def pinsW (p : GP) (H : Hp) (h : Heap) : List (Addr × Obj) := (List.range h.objs.size).filterMap fun b => match h.get? b with
  | some o => if H b = none ∧ ((p.n0 ≤ b ∧ ∃ its, IsTup h b its) ∨ b ∈ p.C) then some (b, o) else none
  | none => none
theorem mem_pinsW {h : Heap} {H : Hp} {q : Addr × Obj} : q ∈ pinsW p H h ↔ h.get? q.1 = some q.2 ∧ H q.1 = none ∧ ((p.n0 ≤ q.1 ∧ ∃ its, IsTup h q.1 its) ∨ q.1 ∈ p.C) := by
  classical
  unfold pinsW
  rw [List.mem_filterMap]
  constructor
  · rintro ⟨b, _, e⟩
    cases hb : h.get? b with
    | none => rw [hb] at e; cases e
    | some o =>
      rw [hb] at e
      simp only at e
      split at e
      · rename_i hc
        cases e
        exact ⟨hb, hc⟩
      · cases e
  · rintro ⟨e, hc⟩
    refine ⟨q.1, List.mem_range.mpr (Heap.lt_size e), ?_⟩
    rw [e]
    simp only
    rw [if_pos hc]
/-- what has become of the heap, by what the frame's facts need -/
structure WdG (p : GP) (ip : List (Addr × Obj)) (Hr : Hp) (s s' : Shared) : Prop where
  bare : AllBare s'.gens
  bs : ∀ b o, p.base.get? b = some o → s.heap.get? b = some o → s'.heap.get? b = some o
  ns : ∀ m, s.heap.Ns p.n0 m → s'.heap.Ns p.n0 m
  pin : ∀ q ∈ p.pn ++ ip, s.heap.get? q.1 = some q.2 → s'.heap.get? q.1 = some q.2
  frm : ∀ b o, b ∈ frs p.outer → s.heap.get? b = some o → (∀ vs, o.data ≠ .fields vs) → ∃ o', s'.heap.get? b = some o' ∧ ∀ vs, o'.data ≠ .fields vs
  th : ∀ b oc, p.sc.get? b = some oc → ∃ o', s'.heap.get? b = some o'
  cs : ∀ b ∈ p.C, ∃ o, s'.heap.get? b = some o ∧ ∀ v, o.data ≠ .cell v
  hok : HOk p.P p.w Hr s'.heap
  to : Tonly Hr
  fb : ∀ b o, p.base.get? b = some o → Hr b = none
  ff : ∀ b ∈ frs p.outer, Hr b = none
  fl : Hr p.n0 = none
  fp : ∀ q ∈ p.pn ++ ip, Hr q.1 = none
  fc : ∀ b ∈ p.C, Hr b = none
  fs : ∀ b o, p.sc.get? b = some o → p.HC b = none → Hr b = none
/-- the frame's facts taken up again, told from here -/
theorem rewake (po : p.Ok) (I : Inv (p.X A γs γH E) ip σ H s) (sz : γs.heap.objs.size = p.n0) (wd : WdG p ip Hr s s') (hA : A'.handled = none) (hf : A'.frames = some p.outer) :
    ∃ (γs' : Shared) (W' : List (Addr × Obj)), Wk p s' γs' Hr W' ∧ Inv (p.X A' γs' Hr E') (W' ++ ip) σ Hr s' := by
  have hnS : p.n0 < s'.heap.objs.size := by
    obtain ⟨m, hn, _⟩ := I.loc
    have := (wd.ns m hn).lt
    exact this
  have hsz : (trunc s'.heap p.n0).objs.size = p.n0 := trunc_size (Nat.le_of_lt hnS)
  have ncell : ∀ x c, p.env.cells.lookup x = some c → False := fun x c h => by
    rw [po.cells] at h
    cases h
  have frLt : ∀ b ∈ frs p.outer, b < p.n0 := fun b hb => by
    obtain ⟨_, o, ho, _⟩ := I.ok.funs.mem hb
    have := Heap.lt_size ho
    rw [← sz]
    exact this
  have bsK : ∀ b o, p.base.get? b = some o → s'.heap.get? b = some o := fun b o e => wd.bs b o e (I.bs b o e).1
  have frm' : ∀ (l : List Env), (∀ b ∈ frs l, b ∈ frs p.outer) → s.heap.FunFrames p.base l → (trunc s'.heap p.n0).FunFrames p.base l := by
    intro l
    induction l with
    | nil => intro _ _; trivial
    | cons env r ih =>
      intro hs hl
      obtain ⟨hk, ⟨L, o, hfr, hb, ho, hd⟩, hr⟩ := hl
      have hm : L ∈ frs p.outer := hs L (by unfold frs; rw [List.filterMap_cons, hfr]; exact List.mem_cons_self)
      obtain ⟨o', e1, e2⟩ := wd.frm L o hm ho hd
      exact ⟨hk, ⟨L, o', hfr, hb, trunc_at (frLt L hm) e1, e2⟩, ih (fun b hb => hs b (by
        unfold frs at hb ⊢
        rw [List.filterMap_cons, hfr]
        exact List.mem_cons_of_mem _ hb)) hr⟩
  have R : Inv (p.X A' { s' with heap := trunc s'.heap p.n0 } Hr E') ip σ Hr s' := by
    refine ⟨⟨I.ok.mod, I.ok.kind, I.ok.glob, I.ok.blt, Nat.le_of_eq hsz, I.ok.inj, I.ok.has, fun x c _ h => (ncell x c h).elim, fun _ => hA, Around.frames_deeper hf, .inr ⟨rfl, rfl⟩, (fun b q => by cases q), fun b o e => ?_, ?_, (fun b _ _ q => by cases q), (fun b q => by cases q), ?_, wd.ff⟩,
      rfl, wd.bare, ?_, ?_, fun x c e => (ncell x c e).elim, wd.fl, fun x c e => (ncell x c e).elim, fun q hq => ?_, wd.hok, I.len⟩
    · have hb : b < p.n0 := by
        rw [← sz]
        exact Nat.lt_of_lt_of_le (Heap.lt_size e) I.ok.bsz
      exact ⟨trunc_at hb (bsK b o e), wd.fb b o e⟩
    · show p.base.objs.size ≤ (trunc s'.heap p.n0).objs.size
      rw [hsz, ← sz]
      exact I.ok.bsz
    · exact frm' p.outer (fun _ hb => hb) I.funs
    · exact ⟨fun b o e _ _ _ => (trunc_of e).2, fun b o e _ _ _ => ⟨o.slots, (trunc_of e).2⟩, fun _ _ _ n _ => n, fun b o e _ => ⟨o, (trunc_of e).2⟩, fun _ _ q => q, fun _ _ _ q => q, fun _ ps q => ⟨#[], by rw [Array.append_empty]; exact q⟩⟩
    · obtain ⟨m, hn, hl⟩ := I.loc
      refine ⟨m, wd.ns m hn, fun i x v e1 e2 e3 => ?_⟩
      obtain ⟨u, r, l⟩ := hl i x v e1 e2 e3
      refine ⟨u, r, ?_⟩
      rcases l with l | ⟨k, c, e, q⟩
      · exact .inl l
      · exact (ncell x c e).elim
    · obtain ⟨e1, e2, e3, e4, e5⟩ := I.pin q hq
      exact ⟨wd.pin q hq e1, wd.fp q hq, e3, e4, e5⟩
  have pinsOk : ∀ q ∈ pinsW p Hr s'.heap, s'.heap.get? q.1 = some q.2 ∧ Hr q.1 = none ∧ q.1 ≠ (p.X A' { s' with heap := trunc s'.heap p.n0 } Hr E').env.locals ∧ q.1 ∉ frs p.outer ∧ ∀ v, q.2.data ≠ .cell v := fun q hq => by
    obtain ⟨e1, e2, hc⟩ := mem_pinsW.1 hq
    rcases hc with ⟨h1, its, o, e3, e4, n, e5⟩ | hc
    · rw [e1] at e3
      cases e3
      refine ⟨e1, e2, fun hL => ?_, fun hb => absurd (Nat.lt_of_lt_of_le (frLt _ hb) h1) (Nat.lt_irrefl _), fun v hv => ?_⟩
      · obtain ⟨m, ⟨o2, es, ep, ho, hd, _⟩, _⟩ := R.loc
        rw [← hL, e1] at ho
        cases ho
        rw [e5] at hd
        cases hd
      · rw [e5] at hv
        cases hv
    · obtain ⟨o, f4, f5⟩ := wd.cs q.1 hc
      rw [e1] at f4
      cases f4
      exact ⟨e1, e2, po.cl _ hc, po.cf _ hc, f5⟩
  refine ⟨{ s' with heap := trunc s'.heap p.n0 }, pinsW p Hr s'.heap, ⟨hsz, rfl, fun b o hb e => trunc_at hb e, wd.to, wd.hok, fun b its hb hn ht => ?_, fun b hb => ?_, fun q hq => ?_, fun b o e => wd.th b o e, wd.fs⟩, R.pins_of fun q hq => ?_⟩
  · obtain ⟨o, e1, _⟩ := id ht
    exact ⟨o, mem_pinsW.2 ⟨e1, hn, .inl ⟨hb, its, ht⟩⟩, e1⟩
  · obtain ⟨o, e1, _⟩ := wd.cs b hb
    exact ⟨o, mem_pinsW.2 ⟨e1, wd.fc b hb, .inr hb⟩, e1⟩
  · obtain ⟨e1, _, hc⟩ := mem_pinsW.1 hq
    rcases hc with ⟨_, its, o, e3, _, n, e5⟩ | hc
    · rw [e1] at e3
      cases e3
      exact .inr ⟨_, n, e5⟩
    · exact .inl hc
  · rcases List.mem_append.mp hq with h | h
    · exact pinsOk q h
    · exact R.pin q (List.mem_append_right _ h)
end
end VL
/-! generators: pieces of a run (for, if), what may not be, quiet expressions -/
namespace VL
open PySem PySem.Spec PyProof.Rows L2 GenW

/-! ### nothing is wanted: it cannot run -/
theorem wp_false {α : Type} (M : Model) (Γ : PySem.Ctx) (t : Sem α) : ∀ (p : Pos) (s : Shared), Sem.wp M Γ t (fun _ _ _ => False) (fun _ _ _ => False) p s → False := by
  induction t with
  | pure a => intro p s h; exact h
  | raise e => intro p s h; exact h
  | unsupported _ => intro p s h; exact h
  | finish _ => intro p s h; exact h
  | rule _ k ih => intro p s h; exact ih () p s h
  | «at» p' k ih => intro p s h; exact ih () p' s h
  | load a _ k ih => intro p s h; obtain ⟨o, ho, h⟩ := h; exact ih o p s h
  | update a _ f k ih => intro p s h; exact ih () p _ h.2
  | loadIfAlive a k ih => intro p s h; exact ih _ p s h
  | point _ k ih => intro p s h; exact ih () p s h
  | register _ _ => intro p s h; exact h
  | alloc o k ih => intro p s h; exact ih _ p _ h
  | fresh k ih => intro p s h; exact ih _ p _ h
  | ask k ih => intro p s h; exact ih _ p s h
  | choose src m k ih => intro p s h; exact ih _ p _ h.2
  | os q _ k ih => intro p s h; exact ih _ p _ h
  | call c hd _ _ k ih => intro p s h; obtain ⟨r, s', hr, h⟩ := h; exact ih r p s' h
  | handled own k ih => intro p s h; exact ih _ p _ h
  | genState g k ih => intro p s h; obtain ⟨st, hs, h⟩ := h; exact ih _ p s h
  | newGen c k ih => intro p s h; exact ih _ p _ h
  | resume g r l k ih => intro p s h; obtain ⟨res, s₁, hwk, h⟩ := h; exact ih res p s₁ h
  | yield v g l k => intro p s h; exact h
  | stack k ih => intro p s h; exact ih _ p s h
  | fork c k => intro p s h; exact h
  | thread k ih => intro p s h; exact ih _ p s h
  | await a f d l k => intro p s h; exact h
section
variable {M : Model} {A : Around} {R : GenEnd} {Y : Protocol} {n : Nat} {s₀ : Shared} {c : Code} {fs : List Frame} {s : Shared} {env : Env}
  {K : Flow → Sem PySem.Fin} {J : Value → Sem PySem.Fin} {gd : Bool → Bool} {lv : List Value → List Value}
theorem seg_absurd {α : Type} {t : Sem α} {T : Sem PySem.Fin} (h : wpAny M (A.over c fs) t (fun _ _ => False) (fun _ _ => False) s) : Seg M A R Y n s₀ c T fs s := by
  rw [seg_iff]
  rintro Γ p rfl hΓ
  exact (wp_false M _ t p s (h (Γ.over fs) p (hΓ.over fs))).elim
theorem seg_If {test : Expr} {body orelse : List Stmt} {pos : Pos}
    (h : wpAny M (A.over c fs) (isTrue test env (eval test env)) (fun b s' => if b = true then Seg M A R Y n s₀ c ((execs body env).wrap K J gd lv) fs s' else Seg M A R Y n s₀ c ((execs orelse env).wrap K J gd lv) fs s') (fun x s' => Seg M A R Y n s₀ c (J x) fs s') s) :
    Seg M A R Y n s₀ c ((exec (.If test body orelse pos) env).wrap K J gd lv) fs s := by
  rw [exec_If]
  refine seg_bind_wrap (wpAny_standAt ?_)
  refine seg_bind_wrap (wpAny_mono h (fun b s' hb => ?_) fun _ _ x => x)
  cases b with
  | true => rw [if_pos rfl] at hb ⊢; exact hb
  | false => rw [if_neg Bool.false_ne_true] at hb ⊢; exact hb
theorem seg_For {target iter : Expr} {body orelse : List Stmt} {pos : Pos}
    (h : wpAny M (A.over c fs) (eval iter env) (fun x s1 => wpAny M (A.over c fs) (pyIter x) (fun it s2 => ∀ p, Seg M A R Y n s₀ (.forLoop target it body orelse env) (M.den (.forLoop target it body orelse env))
        (.ret (fun r => ((match r with | .ok f => (.pure f : Sem Flow) | .error e => .raise e).onRaise (cameBack env)).wrap K J gd lv) none (gd false) (lv []) c p [] :: fs) s2)
      (fun x s' => Seg M A R Y n s₀ c (J x) fs s') s1) (fun x s' => Seg M A R Y n s₀ c (J x) fs s') s) (hs : ∀ x, foldedSetIterable iter env x = pure x) :
    Seg M A R Y n s₀ c ((exec (.For target iter body orelse pos) env).wrap K J gd lv) fs s := by
  rw [exec_For]
  refine seg_bind_wrap (wpAny_standAt ?_)
  refine seg_bind_wrap (wpAny_mono h (fun x s1 h1 => ?_) fun _ _ x => x)
  refine seg_bind_wrap ?_
  rw [hs x]
  refine wpAny_pure ?_
  refine seg_bind_wrap (wpAny_standAt ?_)
  refine seg_bind_wrap (wpAny_holding (wpAny_mono h1 (fun it s2 h2 => ?_) fun _ _ x => x))
  exact seg_call h2
end
section
variable {prog : Program} {w : World} {A : Around} {R : GenEnd} {Y : Protocol} {n : Nat} {s₀ : Shared} {fs : List Frame} {s : Shared} {env : Env}
theorem seg_forLoop {target : Expr} {it : Value} {body : List Stmt}
    (h : wpAny (model prog w) (A.over (.forLoop target it body [] env) fs) (pyNext it) (fun r s1 => match r with
        | none => Seg (model prog w) A R Y n s₀ (.block [] env) (.pure (.done .next)) fs s1
        | some v => wpAny (model prog w) (A.over (.forLoop target it body [] env) fs) (letOwnedTupleGo target it v) (fun _ s2 => wpAny (model prog w) (A.over (.forLoop target it body [] env) fs) (assign target env v) (fun _ s3 =>
            Seg (model prog w) A R Y n s₀ (.forLoop target it body [] env) ((execs body env).wrap (fun f => match f with
              | .next | .cont => .pure (.again (.forLoop target it body [] env))
              | .brk => .pure (.done .next)
              | .ret v => .pure (.done (.ret v))) (fun e => (do noteFrame e env; theTreesLotGoes e : Sem Unit).wrap (fun _ => .raise e) .raise id id) id id) fs s3) (fun _ s' => ∀ T : Sem PySem.Fin, Seg (model prog w) A R Y n s₀ (.forLoop target it body [] env) T fs s') s2) (fun _ s' => ∀ T : Sem PySem.Fin, Seg (model prog w) A R Y n s₀ (.forLoop target it body [] env) T fs s') s1)
      (fun _ s' => ∀ T : Sem PySem.Fin, Seg (model prog w) A R Y n s₀ (.forLoop target it body [] env) T fs s') s) :
    Seg (model prog w) A R Y n s₀ (.forLoop target it body [] env) ((model prog w).den (.forLoop target it body [] env)) fs s := by
  show Seg _ A R Y n s₀ _ ((forTurn target it body [] env).onRaise (fun x => do noteFrame x env; theTreesLotGoes x)) fs s
  unfold forTurn
  rw [Sem.onRaise_eq_wrap]
  refine seg_bind_wrap (wpAny_standAt ?_)
  refine seg_bind_wrap (wpAny_onRaise (wpAny_mono h (fun r s1 h1 => ?_) fun _ _ x => wpAny_standAt (x _)))
  cases r with
  | none =>
    refine seg_again rfl ?_
    show Seg _ A R Y n s₀ _ ((do return Fin.done (← (execs [] env).onRaise (fun x => do noteFrame x env; theTreesLotGoes x)) : Sem PySem.Fin)) fs s1
    exact h1
  | some v =>
    refine seg_bind_wrap (wpAny_mono h1 (fun _ s2 h2 => ?_) fun _ _ x => x _)
    refine seg_bind_wrap (wpAny_mono h2 (fun _ s3 h3 => ?_) fun _ _ x => x _)
    rw [Sem.bind_eq_wrap', Sem.wrap_wrap]
    rw [Sem.wrap_congr (execs body env) _ _ (K' := fun f => match f with
              | .next | .cont => .pure (.again (.forLoop target it body [] env))
              | .brk => .pure (.done .next)
              | .ret v => .pure (.done (.ret v))) (H' := (fun e => (do noteFrame e env; theTreesLotGoes e : Sem Unit).wrap (fun _ => .raise e) .raise id id))
        (fun f => by cases f <;> rfl)
        (fun e => by first | exact Sem.bind_eq_wrap _ _ | (show (do noteFrame e env; theTreesLotGoes e : Sem Unit).bind (fun _ => .raise e) = _; rw [Sem.bind_eq_wrap]))]
    exact h3
end

/-! ### states of a run -/
abbrev XNo : XK := C8.E0
/-- a young tuple of the numbers ks -/
def YT (n : Nat) (h : Heap) (ks : List Int) (v : Value) : Prop := ks.length ≤ sizeLine ∧ ∃ a its, v = .ref a ∧ n ≤ a ∧ IsTup h a its.toArray ∧ Vals (ks.map V.int) its
/-- what is sent to it: nothing, or something that nobody looks at -/
def sv : Bool → Value
  | false => .none
  | true => .int 0 0
def YV (p : GP) (ds : List (List Int)) : Protocol := fun n s₀ v s kap => ∃ pre ks post, ds = pre ++ ks :: post ∧ n = post.length ∧ YT p.n0 s.heap ks v ∧ Rn p s₀ s ∧ ∀ u s', Slp p s s' → kap (.send (sv u)) s'
def RV (p : GP) : GenEnd := fun n s₀ r s => ((r = .ok (.ret .none) ∨ r = .ok .next) ∧ (n = 0 ∧ Rn p s₀ s)) ∨ ∃ e, r = .error e ∧ False
abbrev GP.cg (p : GP) : Cg := ⟨p.K, p.mg⟩
/-- a turn is under way: it began at s₀ -/
structure GIv (p : GP) (A : Around) (s₀ : Shared) (ip : List (Addr × Obj)) (σ : L2.St) (H : Hp) (s : Shared) : Prop where
  nc : ∀ q ∈ ip, q.1 ∉ p.C ∧ p.n0 ≤ q.1 ∧ NT q.2
  gsz : p.g < s.gens.size
  at_ : ∃ sm γs γH W, Rn p s₀ sm ∧ Wk p sm γs γH W ∧ Inv (p.X A γs γH XNo) (W ++ ip) σ H s
section
variable {p : GP} {A : Around} {s₀ s s' : Shared} {ip : List (Addr × Obj)} {σ : L2.St} {H Hr : Hp} {ρ : Ev}
theorem GIv.rn (g : GIv p A s₀ ip σ H s) : Rn p s₀ s := by
  obtain ⟨sm, γs, γH, W, r, k, I⟩ := g.at_
  exact r.trans (rn_of k I)
theorem GIv.sub {ip' : List (Addr × Obj)} (g : GIv p A s₀ (ip ++ ip') σ H s) : GIv p A s₀ ip σ H s := by
  obtain ⟨sm, γs, γH, W, r, k, I⟩ := id g.at_
  refine ⟨fun q hq => g.nc q (List.mem_append_left _ hq), g.gsz, sm, γs, γH, W, r, k, I.pins_of fun q hq => I.pin q (List.mem_append_right _ ?_)⟩
  rcases List.mem_append.mp hq with h | h
  · exact List.mem_append_left _ h
  · exact List.mem_append_right _ (List.mem_append_left _ h)
/-- what is kept while the frame's facts stand -/
structure KpG (s s' : Shared) : Prop where
  gens : s'.gens = s.gens
  os : s'.os = s.os
  keep : ∀ b o, s.heap.get? b = some o → s'.heap.get? b = some o
  size : s.heap.objs.size ≤ s'.heap.objs.size
theorem KpG.refl (s : Shared) : KpG s s := ⟨rfl, rfl, fun _ _ h => h, Nat.le_refl _⟩
theorem KpG.trans {a b c : Shared} (x : KpG a b) (y : KpG b c) : KpG a c := ⟨y.gens.trans x.gens, y.os.trans x.os, fun d o h => y.keep d o (x.keep d o h), Nat.le_trans x.size y.size⟩
/-- the frame's facts taken up again, in a turn that began at s₀' -/
theorem GIv.re {s₁ : Shared} (po : p.Ok) (g : GIv p A s₀ ip σ H s) (r : s₁ = s' ∨ Rn p s₁ s') (wd : WdG p ip Hr s s') (hz : p.g < s'.gens.size) (hA : A.handled = none) (hf : A.frames = some p.outer) : GIv p A s₁ ip σ Hr s' := by
  obtain ⟨sm, γs, γH, W, r0, k, I⟩ := g.at_
  have I0 : Inv (p.X A γs γH XNo) ip σ H s := I.pins_of fun q hq => I.pin q (List.mem_append_right _ (List.mem_append_right _ hq))
  obtain ⟨γs', W', k', I'⟩ := rewake (E' := XNo) po I0 k.sz wd hA hf
  refine ⟨g.nc, hz, s', γs', Hr, W', ?_, k', I'⟩
  rcases r with rfl | r
  · exact rn_of k' I'
  · exact r
/-- it is woken -/
theorem GIv.woken (po : p.Ok) (g : GIv p A s₀ ip σ H s) (z : Slp p s s') (hA : A.handled = none) (hf : A.frames = some p.outer) : GIv p A s' ip σ (rst H) s' := by
  have r := g.rn
  obtain ⟨sm, γs, γH, W, r0, k, I⟩ := id g.at_
  have cpin : ∀ b ∈ p.C, H b = none := fun b hb => by
    obtain ⟨o, hm, _⟩ := k.cw b hb
    exact (I.pin (b, o) (List.mem_append_right _ (List.mem_append_left _ hm))).2.1
  have pinF : ∀ q ∈ p.pn ++ ip, s.heap.get? q.1 = some q.2 ∧ H q.1 = none ∧ q.1 ∉ p.C ∧ p.n0 ≤ q.1 ∧ NT q.2 := fun q hq => by
    have e : q ∈ (p.X A γs γH XNo).pn ++ (W ++ ip) := by
      rcases List.mem_append.mp hq with h | h
      · exact List.mem_append_left _ h
      · exact List.mem_append_right _ (List.mem_append_right _ h)
    obtain ⟨e1, e2, e3, e4, e5⟩ := I.pin q e
    refine ⟨e1, e2, ?_⟩
    rcases List.mem_append.mp hq with h | h
    · exact ⟨po.cp q h, po.py q h⟩
    · exact g.nc q h
  refine g.re po (.inl rfl) ⟨z.bare, fun b o hb e => ?_, fun m hm => ?_, fun q hq e => z.keepY q.1 q.2 (pinF q hq).2.2.2.1 (pinF q hq).2.2.1 (pinF q hq).2.2.2.2 e, fun b o hb e hd => z.frm b o hb e hd, fun b oc e => ?_, z.cs, hok_tk (rst_only H) z.tk (rst_ok I.hok), rst_only H, fun b o e => rst_none (I.bs b o e).2, fun b hb => rst_none ?_, rst_none I.free, fun q hq => rst_none (pinF q hq).2.1, fun b hb => rst_none (cpin b hb), fun b o e hn => rst_none ?_⟩ (Nat.lt_of_lt_of_le g.gsz z.gsz) hA hf
  · have e2 := (I.bs b o hb).1
    exact z.keepB b o hb e2
  · obtain ⟨o, es, ep, ho, r1, r2⟩ := hm
    refine ⟨o, es, ep, z.keepY _ o (Nat.le_refl _) (fun hc => po.cl _ hc rfl) ⟨fun v q => ?_, fun its n q => ?_⟩ ho, r1, r2⟩
    · rw [r1] at q; cases q
    · rw [r1] at q; cases q
  · obtain ⟨o1, e1⟩ := r.th b oc e
    exact z.there b oc o1 e e1
  · obtain ⟨_, o, ho, _⟩ := I.ok.funs.mem hb
    exact I.base.free b o ho (I.ok.frf b hb) (fun q => by cases q)
  · obtain ⟨o1, e1⟩ := k.th b o e
    exact I.base.free b o1 (k.tr b o1 (Heap.lt_size e) e1) (k.fr b o e hn) (fun z => by cases z)
end
end VL
/-! generators: one walks another: a turn of the callee, the loop -/
namespace VL
open PySem PySem.Spec PyProof.Rows L2 GenW

theorem Slp.trans {p : GP} {a b c : Shared} (x : Slp p a b) (y : Slp p b c) : Slp p a c where
  os := y.os.trans x.os
  bare := y.bare
  size := Nat.le_trans x.size y.size
  keepB := fun d o h e => y.keepB d o h (x.keepB d o h e)
  keepY := fun d o h1 h2 h3 e => y.keepY d o h1 h2 h3 (x.keepY d o h1 h2 h3 e)
  tk := x.tk.tr y.tk
  there := fun d oc o h e => by
    obtain ⟨o', e'⟩ := x.there d oc o h e
    exact y.there d oc o' h e'
  cs := y.cs
  frm := fun d o h e hd => by
    obtain ⟨o', e', hd'⟩ := x.frm d o h e hd
    exact y.frm d o' h e' hd'
  gens := fun i z h hf e => y.gens i z h hf (x.gens i z h hf e)
  gsz := Nat.le_trans x.gsz y.gsz

mutual
theorem rel_tups {G : Cg} {ι : Z} {H H' : Hp} (k : ∀ b xs, H b = some (.tup xs) → H' b = some (.tup xs)) : ∀ (d : D) (x : V), pureD d = true → RelD G ι H d x → RelD G Z0 H' d x
  | .non, x, _, r => r
  | .bl _, x, _, r => r
  | .int _, x, _, r => r
  | .str _, x, _, r => r
  | .tup ds, x, hp, r => by
    simp only [RelD] at r ⊢
    obtain ⟨a, xs, e, t, rs⟩ := r
    exact ⟨a, xs, e, ⟨z0_off a, k a xs t.2⟩, rels_tups k ds xs (by simpa only [pureD] using hp) rs⟩
  | .lst _, x, hp, r => by simp [pureD] at hp
  | .scr _, x, hp, r => by simp [pureD] at hp
  | .obj _, x, hp, r => by simp [pureD] at hp
  | .glo _, x, hp, r => by simp [pureD] at hp
  | .ty _, x, hp, r => by simp [pureD] at hp
  | .tupF _, x, hp, r => by simp [pureD] at hp
  | .adr _, x, hp, r => by simp [pureD] at hp
  | .exc _ _ _, x, hp, r => by simp [pureD] at hp
theorem rels_tups {G : Cg} {ι : Z} {H H' : Hp} (k : ∀ b xs, H b = some (.tup xs) → H' b = some (.tup xs)) : ∀ (ds : List D) (xs : List V), pureDs ds = true → RelDs G ι H ds xs → RelDs G Z0 H' ds xs
  | [], xs, _, r => r
  | d :: ds, xs, hp, r => by
    simp only [pureDs, Bool.and_eq_true] at hp
    simp only [RelDs] at r ⊢
    obtain ⟨x, t, e, r1, r2⟩ := r
    exact ⟨x, t, e, rel_tups k d x hp.1 r1, rels_tups k ds t hp.2 r2⟩
end
theorem env_tups {G : Cg} {ι : Z} {H H' : Hp} {σ : L2.St} {ρ : Ev} (k : ∀ b xs, H b = some (.tup xs) → H' b = some (.tup xs)) (hp : pureEnv ρ = true) (e : EnvR G ι H σ ρ) : EnvR G Z0 H' σ ρ := ⟨e.1, fun i d h => by
  obtain ⟨v, h1, h2⟩ := e.2 i d h
  have q := List.all_eq_true.1 hp _ (List.mem_of_getElem? h)
  exact ⟨v, h1, rel_tups k d v q h2⟩⟩
/-- the value that was handed out is tracked -/
theorem adopt {P : Program} {w : World} {H : Hp} {h : Heap} {ks : List Int} {a : Addr} {its : List Value} (to : Tonly H) (ok : HOk P w H h) (ht : IsTup h a its.toArray) (hv : Vals (ks.map V.int) its) (hz : ks.length ≤ sizeLine) :
    Tonly (upd H a (.tup (ks.map V.int))) ∧ HOk P w (upd H a (.tup (ks.map V.int))) h ∧ ∀ b xs, H b = some (.tup xs) → upd H a (.tup (ks.map V.int)) b = some (.tup xs) := by
  refine ⟨fun b u e => ?_, fun b u e => ?_, fun b xs e => ?_⟩
  · by_cases hb : b = a
    · subst hb
      rw [upd_same] at e
      cases e
      exact ⟨_, rfl⟩
    · rw [upd_ne hb] at e
      exact to b u e
  · by_cases hb : b = a
    · subst hb
      rw [upd_same] at e
      cases e
      exact ⟨by rw [List.length_map]; exact hz, its, hv, ht⟩
    · rw [upd_ne hb] at e
      obtain ⟨xs, rfl⟩ := to b u e
      have q : ObjOk P w H h b (.tup xs) := ok b _ e
      exact q
  · by_cases hb : b = a
    · subst hb
      have q : ObjOk P w H h b (.tup xs) := ok b _ e
      obtain ⟨_, its', hv', ht'⟩ := q
      have := isTup_list ht ht'
      subst this
      rw [upd_same, vals_inj hv hv']
    · rw [upd_ne hb]; exact e

/-! ### who walks whom -/
structure Lk (p p2 : GP) (ip : List (Addr × Obj)) : Prop where
  bse : p2.base = p.base
  scr : ∀ b o, p2.sc.get? b = some o → (∃ oc, p.sc.get? b = some oc) ∨ (∃ ob, p.base.get? b = some ob) ∨ ∃ q ∈ p.pn ++ ip, q.1 = b
  outer : p2.outer = p.env :: p.outer
  C : p2.C = p.C
  g : p.g < p2.g
  lt : p.n0 < p2.n0
  scth : ∀ b o, p.sc.get? b = some o → ∃ o', p2.sc.get? b = some o'
  hc : ∀ b o, p.sc.get? b = some o → p.HC b = none → p2.HC b = none
  bs : ∀ b o, p.base.get? b = some o → (∃ o', p2.sc.get? b = some o') ∧ p2.HC b = none
  pin : ∀ q ∈ p.pn ++ ip, (∃ o', p2.sc.get? q.1 = some o') ∧ p2.HC q.1 = none
  clt : ∀ b ∈ p.C, b < p2.n0
section
variable {p p2 : GP} {A : Around} {s₀ s s' sr s1 s2 : Shared} {ip : List (Addr × Obj)} {σ : L2.St} {H Hr : Hp} {ρ : Ev}
theorem Lk.frs (lk : Lk p p2 ip) {b : Addr} : b ∈ L2.frs p2.outer ↔ b = p.n0 ∨ b ∈ L2.frs p.outer := by
  rw [lk.outer]
  show b ∈ p.n0 :: L2.frs p.outer ↔ _
  rw [List.mem_cons]
/-- behind a turn of the callee -/
theorem GIv.turned (po : p.Ok) (g : GIv p A s₀ ip σ H s) (lk : Lk p p2 ip) (r2 : Rn p2 sr s1) (hh : sr.heap = s.heap) (ho : sr.os = s.os) (os2 : s2.os = s1.os) (b2 : AllBare s2.gens)
    (k2 : ∀ b o, s1.heap.get? b = some o → s2.heap.get? b = some o) (to : Tonly Hr) (hok : HOk p.P p.w Hr s2.heap) (hlow : ∀ b, b < p2.n0 → Hr b = rst H b) (hz : p.g < s2.gens.size) (hA : A.handled = none) (hf : A.frames = some p.outer) : GIv p A s₀ ip σ Hr s2 := by
  have r := g.rn
  obtain ⟨sm, γs, γH, W, r0, k, I⟩ := id g.at_
  have frLt : ∀ b ∈ L2.frs p.outer, b < p.n0 := fun b hb => by
    obtain ⟨_, o, ho, _⟩ := I.ok.funs.mem hb
    have : b < γs.heap.objs.size := Heap.lt_size ho
    rw [k.sz] at this
    exact this
  have cpin : ∀ b ∈ p.C, H b = none ∧ ∃ o, s.heap.get? b = some o ∧ ∀ v, o.data ≠ .cell v := fun b hb => by
    obtain ⟨o, hm, _⟩ := k.cw b hb
    obtain ⟨e1, e2, _, _, e5⟩ := I.pin (b, o) (List.mem_append_right _ (List.mem_append_left _ hm))
    exact ⟨e2, o, e1, e5⟩
  have pinF : ∀ q ∈ p.pn ++ ip, s.heap.get? q.1 = some q.2 ∧ H q.1 = none ∧ q.1 ∉ L2.frs p.outer ∧ q.1 ≠ p.n0 := fun q hq => by
    have e : q ∈ (p.X A γs γH XNo).pn ++ (W ++ ip) := by
      rcases List.mem_append.mp hq with h | h
      · exact List.mem_append_left _ h
      · exact List.mem_append_right _ (List.mem_append_right _ h)
    obtain ⟨e1, e2, e3, e4, e5⟩ := I.pin q e
    exact ⟨e1, e2, e4, e3⟩
  -- an object that stood at the callee's call, untracked, no frame
  have low : ∀ b o, (∃ o', p2.sc.get? b = some o') → p2.HC b = none → b ≠ p.n0 → b ∉ L2.frs p.outer → s.heap.get? b = some o → s2.heap.get? b = some o := fun b o ⟨o', h1⟩ h2 h3 h4 e => by
    refine k2 b o (r2.low b o' o h1 h2 (fun hb => ?_) (by rw [hh]; exact e))
    rcases lk.frs.1 hb with q | q
    · exact h3 q
    · exact h4 q
  have bsLt : ∀ b o, p.base.get? b = some o → b < p.n0 := fun b o e => by
    have : b < γs.heap.objs.size := Nat.lt_of_lt_of_le (Heap.lt_size e) I.ok.bsz
    rw [k.sz] at this
    exact this
  have rnS : Rn p s s2 := by
    refine ⟨os2.trans (r2.os.trans ho), b2, r2.lim.keeps k2, ?_, fun b oc o h1 h2 h3 e => ?_, fun b o hb e => ?_, fun b hb o e => ?_, fun q hq => ?_, fun b oc e => ?_⟩
    · have := r2.tk
      rw [hh] at this
      exact this.tr (TK.kept k2)
    · exact low b o (lk.scth b oc h1) (lk.hc b oc h1 h2) (Nat.ne_of_lt (Heap.lt_size h1)) h3 e
    · obtain ⟨sl, e1⟩ := r2.slot b o (lk.frs.2 (.inr hb)) (by rw [hh]; exact e)
      exact ⟨sl, k2 b _ e1⟩
    · exact k2 b o (r2.cs b (by rw [lk.C]; exact hb) o (by rw [hh]; exact e))
    · have hq' : q ∈ p.pn ++ ip := List.mem_append_left _ hq
      obtain ⟨e1, e2, e3, e4⟩ := pinF q hq'
      obtain ⟨f1, f2⟩ := lk.pin q hq'
      exact low q.1 q.2 f1 f2 e4 e3 e1
    · obtain ⟨o', e1⟩ := lk.scth b oc e
      obtain ⟨o2, e2⟩ := r2.th b o' e1
      exact ⟨o2, k2 b o2 e2⟩
  refine g.re po (.inr (r.trans rnS)) ⟨b2, fun b o hb e => ?_, fun m hm => ?_, fun q hq e => ?_, fun b o hb e hd => ?_, rnS.th, fun b hb => ?_, hok, to, fun b o e => ?_, fun b hb => ?_, ?_, fun q hq => ?_, fun b hb => ?_, fun b o e hn => ?_⟩ hz hA hf
  · obtain ⟨f1, f2⟩ := lk.bs b o hb
    exact low b o f1 f2 (Nat.ne_of_lt (bsLt b o hb)) (I.ok.nofr hb) e
  · obtain ⟨o, es, ep, ho', r1⟩ := hm
    obtain ⟨sl, e1⟩ := r2.slot p.n0 o (lk.frs.2 (.inl rfl)) (by rw [hh]; exact ho')
    exact ⟨_, es, ep, k2 _ _ e1, r1⟩
  · obtain ⟨e1, e2, e3, e4⟩ := pinF q hq
    obtain ⟨f1, f2⟩ := lk.pin q hq
    exact low q.1 q.2 f1 f2 e4 e3 e
  · obtain ⟨sl, e1⟩ := rnS.slot b o hb e
    exact ⟨_, e1, hd⟩
  · obtain ⟨_, o, e1, e2⟩ := cpin b hb
    exact ⟨o, rnS.cs b hb o e1, e2⟩
  · rw [hlow b (Nat.lt_trans (bsLt b o e) lk.lt)]
    exact rst_none (I.bs b o e).2
  · rw [hlow b (Nat.lt_trans (frLt b hb) lk.lt)]
    obtain ⟨_, o, ho', _⟩ := I.ok.funs.mem hb
    exact rst_none (I.base.free b o ho' (I.ok.frf b hb) (fun q => by cases q))
  · rw [hlow _ lk.lt]
    exact rst_none I.free
  · obtain ⟨⟨o', f1⟩, f2⟩ := lk.pin q hq
    rw [hlow q.1 (Heap.lt_size f1)]
    exact rst_none (pinF q hq).2.1
  · rw [hlow b (lk.clt b hb)]
    exact rst_none (cpin b hb).1
  · rw [hlow b (Nat.lt_trans (Heap.lt_size e) lk.lt)]
    obtain ⟨o1, e1⟩ := k.th b o e
    exact rst_none (I.base.free b o1 (k.tr b o1 (Heap.lt_size e) e1) (k.fr b o e hn) (fun z => by cases z))
end
/-- a generator sleeps: n results are still to come -/
def Asl (P : Program) (w : World) (p2 : GP) (A2 : Around) (kss : List (List Int)) (n : Nat) (s : Shared) : Prop :=
  ∃ gs, s.gens[p2.g]? = some gs ∧ gs.bare = true ∧ ∀ s', Slp p2 s s' → gs.Goes (model P w) A2 (RV p2) (YV p2 kss) n (.send .none) s'
theorem Asl.slp {P : Program} {w : World} {p2 : GP} {A2 : Around} {kss : List (List Int)} {n : Nat} {s s1 : Shared} (h : Asl P w p2 A2 kss n s) (z : Slp p2 s s1) (hg : ∀ x, s.gens[p2.g]? = some x → s1.gens[p2.g]? = some x) : Asl P w p2 A2 kss n s1 := by
  obtain ⟨gs, e, hb, k⟩ := h
  exact ⟨gs, hg gs e, hb, fun s' z' => k s' (z.trans z')⟩

/-! ### a name of the frame's own is written -/
theorem store_g {M : Model} {A : Around} {E : Value → Shared → Prop} {X : Cx} {pins : List (Addr × Obj)} {σ : L2.St} {H : Hp} {s : Shared} {i : Nat} {x : Str} {v : V} {u : Value} {Q : Unit → Shared → Prop} (I : Inv X pins σ H s) (hN : X.N.Nodup) (hi : X.N[i]? = some x) (hk : X.env.kindOf x = some .local) (r : RelV v u)
    (h : ∀ h', Inv X pins (σ.set i (some v)) H { s with heap := h', toks := s.toks + 1 } → Heap.SameBut X.env.locals s.heap h' → Q () { s with heap := h', toks := s.toks + 1 }) : wpAny M A (storeName X.env x u) Q E s := by
  obtain ⟨m, hn, hl⟩ := id I.loc
  have hcls : (X.env.scope.kind == .class || (X.env.scope.kind == .module && X.env.locals != X.env.globals)) = false := by rw [I.ok.kind]; rfl
  have hiσ : i < σ.length := by rw [I.len]; exact (List.getElem?_eq_some_iff.mp hi).1
  have cne := I.cne
  refine wpAny_storeName_local hk hn (fun h' hn' hs => h h' ?_ hs) hcls
  obtain ⟨oL, _, _, hoL, _⟩ := id hn
  have hok : HOk X.prog X.w H h' := fun b ob e => by
    refine (I.hok b ob e).stay (fun c w' hc q => (hs.2 c ?_).trans q) (fun _ q => q) fun _ _ q => q
    rintro rfl
    rcases hc with hc | hc
    · rw [← hc, I.free] at e; cases e
    · rw [I.free] at hc; cases hc
  refine ⟨I.ok, I.os, I.bare, ⟨fun b o e n hb hx => ?_, fun b o e n hb hx => ?_, I.base.free, fun b o e hx => ?_, I.base.tups, I.base.frzs, I.base.tbls⟩, ⟨_, hn', fun j y v' e1 e2 e3 => ?_⟩, fun y c e => ?_, I.free, I.freeC, fun p hp => ?_, hok, by simpa using I.len⟩
  · exact (hs.2 b (Nat.ne_of_lt (Nat.lt_of_lt_of_le (Heap.lt_size e) I.ok.above))).trans (I.base.keep b o e n hb hx)
  · obtain ⟨sl, e1⟩ := I.base.slot b o e n hb hx
    exact ⟨sl, (hs.2 b (Nat.ne_of_lt (Nat.lt_of_lt_of_le (Heap.lt_size e) I.ok.above))).trans e1⟩
  · obtain ⟨o', e1⟩ := I.base.there b o e hx
    exact ⟨o', (hs.2 b (Nat.ne_of_lt (Nat.lt_of_lt_of_le (Heap.lt_size e) I.ok.above))).trans e1⟩
  · by_cases hj : j = i
    · subst hj
      rw [hi] at e1; cases e1
      rw [List.getElem?_set_self hiσ] at e2
      cases e2
      exact ⟨u, r, .inl ⟨hk, by simp⟩⟩
    · rw [List.getElem?_set_ne (Ne.symm hj)] at e2
      obtain ⟨u', r', q⟩ := hl j y v' e1 e2 e3
      refine ⟨u', r', ?_⟩
      rcases q with ⟨q1, q2⟩ | ⟨q1, c, q2, q3⟩
      · refine .inl ⟨q1, ?_⟩
        have : y ≠ x := fun z => by
          subst z
          exact hj (nodup_ix hN e1 hi)
        simp only [this, if_false]
        exact q2
      · refine .inr ⟨q1, c, q2, ?_⟩
        obtain ⟨o, ho, hd⟩ := q3
        exact ⟨o, (hs.2 c (cne y c q2)).trans ho, hd⟩
  · obtain ⟨v', o, ho, hd⟩ := I.cell y c e
    exact ⟨v', o, (hs.2 c (cne y c e)).trans ho, hd⟩
  · obtain ⟨e1, e2, e3, e4, e5⟩ := I.pin p hp
    exact ⟨(hs.2 p.1 e3).trans e1, e2, e3, e4, e5⟩
end VL
/-! generators: the judgement by values; plain statements, if, one after another, yield (), for over enumerate, for over a generator -/
namespace VL
open PySem PySem.Spec PyProof.Rows L2 GenW

abbrev MY := Ev → Option (List (List Int) × Ev)
/-- tuples that are tracked stay so -/
def TS (H H' : Hp) : Prop := ∀ b xs, H b = some (.tup xs) → H' b = some (.tup xs)
theorem TS.refl (H : Hp) : TS H H := fun _ _ h => h
theorem TS.trans {a b c : Hp} (x : TS a b) (y : TS b c) : TS a c := fun d xs h => y d xs (x d xs h)
theorem ts_rst (H : Hp) : TS H (rst H) := fun _ _ h => rst_tup.2 h
theorem z0_ext {G : Cg} {ι' : Z} {H H' : Hp} (e : Ext Z0 H ι' H') (q : Sim G ι' H' []) : ι' = Z0 ∧ TS H H' := by
  have h1 : ι'.ad = [] := List.eq_nil_of_length_eq_zero q.len
  have h2 : ι'.res = [] := e.res
  refine ⟨?_, fun b xs h => e.fix b _ rfl h⟩
  obtain ⟨a, r⟩ := ι'
  simp only at h1 h2
  subst h1 h2
  rfl
theorem post0 {α : Type} {G : Cg} {W : WX} {H : Hp} {r : R α} {a : α} (hr : r = .ok a []) {P : α → Z → Hp → S → Prop} (k : ∀ H', TS H H' → P a Z0 H' []) : Post G W Z0 H P r := by
  subst hr
  intro ι' H' e q
  obtain ⟨rfl, ts⟩ := z0_ext e q
  exact k H' ts
theorem postA {α : Type} {G : Cg} {W : WX} {H : Hp} {r : R α} {a : α} {st : S} (hr : r = .ok a st) {P : α → Z → Hp → S → Prop} (k : ∀ ι' H', TS H H' → P a ι' H' st) : Post G W Z0 H P r := by
  subst hr
  intro ι' H' e q
  exact k ι' H' fun b xs h => e.fix b _ rfl h
/-- a generator's frame, at A -/
structure GA (p : GP) (A : Around) : Prop where
  ok : p.Ok
  hd : A.handled = none
  fr : A.frames = some p.outer
  dp : (A.deeper p.env).depth < recursionLimit
structure GCv (p : GP) (A : Around) (c : Code) (fs : List Frame) (gd : Bool → Bool) : Prop where
  over : A.over c fs = A.deeper p.env
  split : splitAtGen fs = none
  guard : fs.any Frame.guarded = false
  gd : gd false = false
section
variable {p : GP} {A : Around} {s₀ s s' : Shared} {ip : List (Addr × Obj)} {σ : L2.St} {H : Hp} {ρ : Ev}
theorem GIv.cpin (g : GIv p A s₀ ip σ H s) : ∀ b ∈ p.C, ∃ o, s.heap.get? b = some o ∧ ∀ v, o.data ≠ .cell v := fun b hb => by
  obtain ⟨sm, γs, γH, W, r0, k, I⟩ := id g.at_
  obtain ⟨o, hm, _⟩ := k.cw b hb
  obtain ⟨e1, _, _, _, e5⟩ := I.pin (b, o) (List.mem_append_right _ (List.mem_append_left _ hm))
  exact ⟨o, e1, e5⟩
theorem GIv.restrict (ga : GA p A) (g : GIv p A s₀ ip σ H s) : GIv p A s₀ ip σ (rst H) s := by
  have hb : AllBare s.gens := by
    obtain ⟨sm, γs, γH, W, r, k, I⟩ := id g.at_
    exact I.bare
  have z : Slp p s s := Slp.same rfl rfl hb g.cpin (fun _ _ _ h => h) (Nat.le_refl _)
  have g' := g.woken ga.ok z ga.hd ga.fr
  obtain ⟨sm, γs, γH, W, r, k, I⟩ := g'.at_
  exact ⟨g'.nc, g'.gsz, sm, γs, γH, W, g.rn.trans r, k, I⟩
end
section
variable {p : GP} {A : Around} {R : GenEnd} {Y : Protocol} {n : Nat} {s₀ s : Shared} {c : Code} {fs : List Frame} {gd : Bool → Bool}
/-- no exception leaves -/
theorem xe_seg {γs : Shared} {γH : Hp} {x : Value} {T : Sem PySem.Fin} (g : GCv p A c fs gd) (h : (p.X A γs γH XNo).xe x s) : Seg (model p.P p.w) A R Y n s₀ c T fs s := by
  refine seg_absurd (t := leaving p.env x) ?_
  rw [g.over]
  refine wpAny_mono (show wpAny (model p.P p.w) (A.deeper p.env) (leaving p.env x) (fun _ s'' => L2.CX p.P p.w p.outer γH γs XNo x s'' ∧ ∀ q ∈ p.pn, s''.heap.get? q.1 = some q.2) (fun _ _ => False) s from h) (fun _ s' hx => ?_) fun _ _ hx => hx
  obtain ⟨⟨a, B, H', cls, d, _, _, _, _, _, _, _, hE⟩, _⟩ := hx
  exact hE
theorem gc_for {c' : Code} {k : Result → Sem PySem.Fin} {l kp : List Value} {q : Pos} (g : GCv p A c fs gd) (hw : c'.weight = 0) (hu : c'.cUnits = 0) : GCv p A c' (.ret k none (gd false) l c q kp :: fs) id where
  over := (over_loop hw hu).trans g.over
  split := by
    show (splitAtGen fs).map _ = none
    rw [g.split]; rfl
  guard := by
    show (gd false || fs.any Frame.guarded) = false
    rw [g.gd, g.guard]; rfl
  gd := rfl
end
/-- what follows a statement -/
def GNx (p : GP) (A : Around) (ds : List (List Int)) (ip : List (Addr × Obj)) (H : Hp) (ρ' : Ev) (n : Nat) (T : Shared → Shared → Prop) : Prop :=
  ∀ s₀' s' σ' H', TS H H' → GIv p A s₀' ip σ' H' s' → EnvR p.cg Z0 H' σ' ρ' → pureEnv ρ' = true → T s₀' s'
def GV (p : GP) (A : Around) (st : Stmt) (m : MY) : Prop := ∀ (ds pre post ys : List (List Int)) (n : Nat) (s₀ s : Shared) (ip : List (Addr × Obj)) (c : Code) (fs : List Frame) (K : Flow → Sem PySem.Fin) (J : Value → Sem PySem.Fin) (gd : Bool → Bool) (lv : List Value → List Value) (σ : L2.St) (H : Hp) (ρ ρ' : Ev),
  GCv p A c fs gd → GIv p A s₀ ip σ H s → EnvR p.cg Z0 H σ ρ → pureEnv ρ = true → m ρ = some (ys, ρ') → ds = pre ++ (ys ++ post) → n = (ys ++ post).length →
  GNx p A ds ip H ρ' post.length (fun s₀' s' => Seg (model p.P p.w) A (RV p) (YV p ds) post.length s₀' c (K .next) fs s') →
  Seg (model p.P p.w) A (RV p) (YV p ds) n s₀ c ((exec st p.env).wrap K J gd lv) fs s
def GVs (p : GP) (A : Around) (st : List Stmt) (m : MY) : Prop := ∀ (ds pre post ys : List (List Int)) (n : Nat) (s₀ s : Shared) (ip : List (Addr × Obj)) (c : Code) (fs : List Frame) (K : Flow → Sem PySem.Fin) (J : Value → Sem PySem.Fin) (gd : Bool → Bool) (lv : List Value → List Value) (σ : L2.St) (H : Hp) (ρ ρ' : Ev),
  GCv p A c fs gd → GIv p A s₀ ip σ H s → EnvR p.cg Z0 H σ ρ → pureEnv ρ = true → m ρ = some (ys, ρ') → ds = pre ++ (ys ++ post) → n = (ys ++ post).length →
  GNx p A ds ip H ρ' post.length (fun s₀' s' => Seg (model p.P p.w) A (RV p) (YV p ds) post.length s₀' c (K .next) fs s') →
  Seg (model p.P p.w) A (RV p) (YV p ds) n s₀ c ((execs st p.env).wrap K J gd lv) fs s
def mYNil : MY := fun ρ => some ([], ρ)
def mYCons (a b : MY) : MY := fun ρ => match a ρ with
  | some (ys, ρ1) => (match b ρ1 with
    | some (zs, ρ2) => some (ys ++ zs, ρ2)
    | none => none)
  | none => none
def mYIf (t : MT) (a b : MY) : MY := fun ρ => match t ρ [] with
  | .ok k [] => if k = true then a ρ else b ρ
  | _ => none
def mYP (m : MS) : MY := fun ρ => match m ρ [] with
  | .ok (.nx ρ') _ => if pureEnv ρ' = true then some ([], ρ') else none
  | _ => none
section
variable {p : GP} {A : Around} {st : Stmt} {rest : List Stmt} {a b : MY}
theorem gv_nil : GVs p A [] mYNil := by
  intro ds pre post ys n s₀ s ip c fs K J gd lv σ H ρ ρ' g hI en hp hm hd hn k
  simp only [mYNil, Option.some.injEq, Prod.mk.injEq] at hm
  obtain ⟨rfl, rfl⟩ := hm
  subst hn
  exact seg_execs_nil (k s₀ s σ H (.refl _) hI en hp)
theorem gv_cons (h1 : GV p A st a) (h2 : GVs p A rest b) : GVs p A (st :: rest) (mYCons a b) := by
  intro ds pre post ys n s₀ s ip c fs K J gd lv σ H ρ ρ' g hI en hp hm hd hn k
  unfold mYCons at hm
  split at hm
  · rename_i y1 ρ1 e1
    split at hm
    · rename_i y2 ρ2 e2
      cases hm
      refine seg_execs_cons ?_
      refine h1 ds pre (y2 ++ post) y1 n s₀ s ip c fs _ J gd lv σ H ρ ρ1 g hI en hp e1 (by rw [hd]; simp) (by rw [hn]; simp) fun s₀' s' σ' H' ts hI' en' hp' => ?_
      exact h2 ds (pre ++ y1) post y2 _ s₀' s' ip c fs K J gd lv σ' H' ρ1 ρ' g hI' en' hp' e2 (by rw [hd]; simp) rfl fun s₀2 s2 σ2 H2 ts2 => k s₀2 s2 σ2 H2 (ts.trans ts2)
    · cases hm
  · cases hm
theorem gv_plain {W : WX} {m : MS} (ga : GA p A) (h : ∀ γs γH, VS (p.X A γs γH XNo) W st m) : GV p A st (mYP m) := by
  intro ds pre post ys n s₀ s ip c fs K J gd lv σ H ρ ρ' g hI en hp hm hd hn k
  unfold mYP at hm
  split at hm
  · rename_i ρ1 st1 e1
    split at hm
    · rename_i hp1
      cases hm
      subst hn
      obtain ⟨sm, γs, γH, Wp, r0, kk, I⟩ := id hI.at_
      refine seg_wrap ?_
      rw [g.over]
      refine wpAny_gsz hI.gsz (wpAny_mono ((h γs γH).run (Wp ++ ip) s σ H { nx := fun σ' H' => TS H H' ∧ EnvR p.cg Z0 (rst H') σ' ρ', rt := fun _ _ => False } I ⟨Z0, [], ρ, sim0, en, postA e1 fun ι' H' ts => fun σ' e' => ⟨ts, env_rst hp1 e'⟩⟩) (fun f s' hs hz => ?_) fun x s' hx _ => xe_seg g hx)
      cases f with
      | next =>
        obtain ⟨σ', H', I', ts, e'⟩ := hs
        exact k s₀ s' σ' (rst H') (ts.trans (ts_rst H')) (GIv.restrict ga ⟨hI.nc, hz, sm, γs, γH, Wp, r0, kk, I'⟩) e' hp1
      | brk => obtain ⟨_, _, _, q⟩ := hs; exact q.elim
      | cont => obtain ⟨_, _, _, q⟩ := hs; exact q.elim
      | ret u => obtain ⟨_, _, _, _, _, q⟩ := hs; exact q.elim
    · cases hm
  · cases hm
theorem gv_if {W : WX} {t : MT} {test : Expr} {body orelse : List Stmt} {pos : Pos} (h : ∀ γs γH, VT (p.X A γs γH XNo) W test t) (h1 : GVs p A body a) (h2 : GVs p A orelse b) : GV p A (.If test body orelse pos) (mYIf t a b) := by
  intro ds pre post ys n s₀ s ip c fs K J gd lv σ H ρ ρ' g hI en hp hm hd hn k
  unfold mYIf at hm
  split at hm
  · rename_i kb e1
    obtain ⟨sm, γs, γH, Wp, r0, kk, I⟩ := id hI.at_
    refine seg_If ?_
    rw [g.over]
    refine wpAny_gsz hI.gsz (wpAny_mono ((h γs γH).run (Wp ++ ip) s σ H (fun b H' => b = kb ∧ TS H H') I ⟨Z0, [], ρ, sim0, en, post0 e1 fun H' ts => ⟨rfl, ts⟩⟩) (fun f s' hs hz => ?_) fun x s' hx _ => xe_seg g hx)
    obtain ⟨H', I', rfl, ts⟩ := hs
    have hI' : GIv p A s₀ ip σ H' s' := ⟨hI.nc, hz, sm, γs, γH, Wp, r0, kk, I'⟩
    cases f with
    | true =>
      rw [if_pos rfl] at hm ⊢
      exact h1 ds pre post ys n s₀ s' ip c fs K J gd lv σ H' ρ ρ' g hI' (env_tups ts hp en) hp hm hd hn fun s₀2 s2 σ2 H2 ts2 => k s₀2 s2 σ2 H2 (ts.trans ts2)
    | false =>
      rw [if_neg Bool.false_ne_true] at hm ⊢
      exact h2 ds pre post ys n s₀ s' ip c fs K J gd lv σ H' ρ ρ' g hI' (env_tups ts hp en) hp hm hd hn fun s₀2 s2 σ2 H2 ts2 => k s₀2 s2 σ2 H2 (ts.trans ts2)
  · cases hm
/-- what a quiet expression gives, within a run -/
def GQ (p : GP) (A : Around) (e : Expr) (f : Ev → Option (List Int)) : Prop := ∀ (γs : Shared) (γH : Hp) (pins : List (Addr × Obj)) (s : Shared) (σ : L2.St) (H : Hp) (ρ : Ev) (ks : List Int), γs.heap.objs.size = p.n0 → Inv (p.X A γs γH XNo) pins σ H s → EnvR p.cg Z0 H σ ρ → f ρ = some ks →
  wpAny (model p.P p.w) (A.deeper p.env) (eval e p.env) (fun v s1 => YT p.n0 s1.heap ks v ∧ Inv (p.X A γs γH XNo) pins σ H s1 ∧ KpG s s1) (fun _ _ => False) s
def mYY (f : Ev → Option (List Int)) : MY := fun ρ => match f ρ with
  | some ks => some ([ks], ρ)
  | none => none
/-- yield e -/
theorem gv_yield {e : Expr} {f : Ev → Option (List Int)} {yp pos : Pos} (ga : GA p A) (h : GQ p A e f) (hco : p.env.scope.isCoroutine = false := by rfl) (hi : interactive p.env = false := by rfl) : GV p A (.Expr (.Yield (some e) yp) pos) (mYY f) := by
  intro ds pre post ys n s₀ s ip c fs K J gd lv σ H ρ ρ' g hI en hp hm hd hn k
  unfold mYY at hm
  split at hm
  · rename_i ks e1
    cases hm
    subst hn
    obtain ⟨sm, γs, γH, Wp, r0, kk, I⟩ := id hI.at_
    show Seg _ A _ _ (post.length + 1) s₀ c _ fs s
    refine seg_Expr_Yield g.split g.gd g.guard ?_ hco hi
    rw [g.over]
    refine wpAny_mono (h γs γH (Wp ++ ip) s σ H ρ ks kk.sz I en e1) (fun v s1 hv => ?_) fun x s' hx => hx.elim
    obtain ⟨yt, I1, kp⟩ := hv
    have hI1 : GIv p A s₀ ip σ H s1 := ⟨hI.nc, by rw [kp.gens]; exact hI.gsz, sm, γs, γH, Wp, r0, kk, I1⟩
    intro kap hk
    refine ⟨pre, ks, post, by rw [hd]; rfl, rfl, yt, hI1.rn, fun u s' z => ?_⟩
    have q := k s' s' σ (rst H) (ts_rst H) (hI1.woken ga.ok z ga.hd ga.fr) (env_rst hp en) hp
    cases u with
    | false => exact hk .none s' q
    | true => exact hk (.int 0 0) s' q
  · cases hm
end
end VL
/-! generators: for over a generator -/
namespace VL
open PySem PySem.Spec PyProof.Rows L2 GenW

/-- a generator that p walks, asleep -/
structure Slep (p p2 : GP) (A : Around) (ip : List (Addr × Obj)) (a2 : Addr) (go : Obj) (kss : List (List Int)) (n : Nat) (s : Shared) : Prop where
  lk : Lk p p2 ip
  pn : p2.pn = [(a2, go)]
  gen : ∀ h : Heap, h.get? a2 = some go → h.IsGen a2 p2.g
  at_ : s.heap.get? a2 = some go
  young : p2.n0 ≤ a2
  asl : Asl p.P p.w p2 (A.deeper p.env).in1 kss n s
/-- an expression that makes a generator -/
def GEx (p : GP) (A : Around) (iter : Expr) (m : Ev → Option (List (List Int))) : Prop := ∀ (s₀ s : Shared) (ip : List (Addr × Obj)) (σ : L2.St) (H : Hp) (ρ : Ev) (kss : List (List Int)) (E : Value → Shared → Prop), GIv p A s₀ ip σ H s → EnvR p.cg Z0 H σ ρ → pureEnv ρ = true → m ρ = some kss →
  (∀ γs γH x s', (p.X A γs γH XNo).xe x s' → E x s') →
  wpAny (model p.P p.w) (A.deeper p.env) (eval iter p.env) (fun v s1 => ∃ p2 a2 go H', v = .ref a2 ∧ TS H H' ∧ GIv p A s₀ ip σ H' s1 ∧ EnvR p.cg Z0 H' σ ρ ∧ Slep p p2 A ip a2 go kss kss.length s1) E s
/-- a quiet expression in a loop whose name holds what was handed out -/
def GQY (p : GP) (A : Around) (it : Nat) (e : Expr) (f : Ev → Option (List Int)) : Prop := ∀ (γs : Shared) (γH : Hp) (pins : List (Addr × Obj)) (s : Shared) (σ : L2.St) (H : Hp) (ρ : Ev) (ks : List Int) (a0 : Addr), γs.heap.objs.size = p.n0 → Inv (p.X A γs γH XNo) pins σ H s → EnvR p.cg Z0 H σ ρ → σ[it]? = some (some (.ref a0)) → p.n0 ≤ a0 → f ρ = some ks →
  wpAny (model p.P p.w) (A.deeper p.env) (eval e p.env) (fun v s1 => YT p.n0 s1.heap ks v ∧ Inv (p.X A γs γH XNo) pins σ H s1 ∧ KpG s s1) (fun _ _ => False) s
def tupI (ks : List Int) : D := .tup (ks.map D.int)
def mYG (it : Nat) (f : Ev → Option (List Int)) : List (List Int) → MY
  | [], ρ => some ([], ρ)
  | ks :: r, ρ => (match f (ρ.set it (some (tupI ks))) with
    | some y => (match mYG it f r (ρ.set it (some (tupI ks))) with
      | some (ys, ρ') => some (y :: ys, ρ')
      | none => none)
    | none => none)
def mYFG (me : Ev → Option (List (List Int))) (it : Nat) (f : Ev → Option (List Int)) : MY := fun ρ => match me ρ with
  | some kss => mYG it f kss ρ
  | none => none
theorem pureDs_ints : ∀ ks : List Int, pureDs (ks.map D.int) = true
  | [] => rfl
  | k :: ks => by
    simp only [List.map_cons, pureDs, pureD, pureDs_ints ks, Bool.and_self]
theorem pure_tupI (ks : List Int) : pureD (tupI ks) = true := by
  unfold tupI
  simp only [pureD]
  exact pureDs_ints ks
theorem pure_set {ρ : Ev} {i : Nat} {d : D} (hp : pureEnv ρ = true) (hd : pureD d = true) : pureEnv (ρ.set i (some d)) = true := by
  unfold pureEnv at hp ⊢
  rw [List.all_eq_true] at hp ⊢
  intro x hx
  rcases List.mem_or_eq_of_mem_set hx with h | h
  · exact hp x h
  · subst h; exact hd
section
variable {p p2 : GP} {A : Around} {s₀ s s1 s' : Shared} {ip : List (Addr × Obj)} {σ : L2.St} {H : Hp} {ρ : Ev}
theorem GIv.frLt (g : GIv p A s₀ ip σ H s) : ∀ b ∈ L2.frs p.outer, b < p.n0 := fun b hb => by
  obtain ⟨sm, γs, γH, W, r0, k, I⟩ := id g.at_
  obtain ⟨_, o, ho, _⟩ := I.ok.funs.mem hb
  have : b < γs.heap.objs.size := Heap.lt_size ho
  rw [k.sz] at this
  exact this
/-- the callee's sleep, while its caller sleeps -/
theorem slp_up (po : p.Ok) (g : GIv p A s₀ ip σ H s) (lk : Lk p p2 ip) (z : Slp p s s') : Slp p2 s s' where
  os := z.os
  bare := z.bare
  size := z.size
  keepB := fun b o h e => z.keepB b o (by rw [← lk.bse]; exact h) e
  keepY := fun b o h1 h2 h3 e => z.keepY b o (Nat.le_trans (Nat.le_of_lt lk.lt) h1) (by rw [lk.C] at h2; exact h2) h3 e
  tk := z.tk
  there := fun b oc o h e => by
    obtain ⟨sm, γs, γH, W, r0, k, I⟩ := id g.at_
    rcases lk.scr b oc h with ⟨oc', q⟩ | ⟨ob, q⟩ | ⟨q, hq, rfl⟩
    · exact z.there b oc' o q e
    · exact ⟨ob, z.keepB b ob q (I.bs b ob q).1⟩
    · have e1 : q ∈ (p.X A γs γH XNo).pn ++ (W ++ ip) := by
        rcases List.mem_append.mp hq with h | h
        · exact List.mem_append_left _ h
        · exact List.mem_append_right _ (List.mem_append_right _ h)
      have e2 := (I.pin q e1).1
      rcases List.mem_append.mp hq with h | h
      · exact ⟨q.2, z.keepY q.1 q.2 (po.py q h).1 (po.cp q h) (po.py q h).2 e2⟩
      · exact ⟨q.2, z.keepY q.1 q.2 (g.nc q h).2.1 (g.nc q h).1 (g.nc q h).2.2 e2⟩
  cs := fun b hb => z.cs b (by rw [lk.C] at hb; exact hb)
  frm := fun b o hb e hd => by
    rcases lk.frs.1 hb with q | q
    · subst q
      obtain ⟨sm, γs, γH, W, r0, k, I⟩ := id g.at_
      obtain ⟨m, ⟨o2, es, ep, ho2, hd2, _⟩, _⟩ := I.loc
      have ho3 : s.heap.get? p.n0 = some o2 := ho2
      rw [e] at ho3
      cases ho3
      exact ⟨o, z.keepY p.n0 o (Nat.le_refl _) (fun h => po.cl p.n0 h rfl) ⟨fun v q => (by rw [hd2] at q; cases q), fun its n q => (by rw [hd2] at q; cases q)⟩ e, hd⟩
    · exact z.frm b o q e hd
  gens := fun i x h hf e => z.gens i x (Nat.lt_trans lk.g h) hf e
  gsz := z.gsz
theorem setGen_ne {s : Shared} {g i : Nat} {x : GenState} (h : g < i) : (s.setGen g x).gens[i]? = s.gens[i]? := by
  show (s.gens.setIfInBounds g x)[i]? = s.gens[i]?
  rw [Array.getElem?_setIfInBounds_ne (Nat.ne_of_lt h)]
/-- what the frame does while its callee sleeps: a name is written, new objects come -/
theorem slp_own {s4 : Shared} {σ4 : L2.St} {H4 : Hp} (hI : GIv p A s₀ ip σ4 H4 s4) (lk : Lk p p2 ip) (hn1 : ∀ its, ¬ IsTup s1.heap p.n0 its) (os : s4.os = s1.os) (size : s1.heap.objs.size ≤ s4.heap.objs.size) (keep : ∀ b o, b ≠ p.n0 → s1.heap.get? b = some o → s4.heap.get? b = some o)
    (gens : ∀ i, p2.g < i → s4.gens[i]? = s1.gens[i]?) (gsz : s1.gens.size ≤ s4.gens.size) : Slp p2 s1 s4 := by
  have own : ∃ o, s4.heap.get? p.n0 = some o ∧ ∀ vs, o.data ≠ .fields vs := by
    obtain ⟨sm, γs, γH, W, r0, k, I⟩ := id hI.at_
    obtain ⟨m, ⟨o, es, ep, ho, hd, _⟩, _⟩ := I.loc
    exact ⟨o, ho, fun vs q => by rw [hd] at q; cases q⟩
  have bne : ∀ b o, p.base.get? b = some o → b ≠ p.n0 := fun b o e z => by
    obtain ⟨sm, γs, γH, W, r0, k, I⟩ := id hI.at_
    have h1 : b < γs.heap.objs.size := Nat.lt_of_lt_of_le (Heap.lt_size e) I.ok.bsz
    rw [k.sz, z] at h1
    exact Nat.lt_irrefl _ h1
  refine ⟨os, ?_, size, fun b o h e => keep b o (bne b o (by rw [← lk.bse]; exact h)) e, fun b o h1 _ _ e => keep b o (fun z => by rw [z] at h1; exact absurd (Nat.lt_of_lt_of_le lk.lt h1) (Nat.lt_irrefl _)) e, fun x its ht => ?_, fun b oc o _ e => ?_, fun b hb => hI.cpin b (by rw [lk.C] at hb; exact hb), fun b o hb e hd => ?_, fun i x h _ e => by rw [gens i h]; exact e, gsz⟩
  · obtain ⟨sm, γs, γH, W, r0, k, I⟩ := id hI.at_
    exact I.bare
  · have hx : x ≠ p.n0 := fun z => hn1 _ (by rw [← z]; exact ht)
    obtain ⟨o, e, r1⟩ := ht
    exact ⟨its, ⟨o, keep x o hx e, r1⟩, .inl rfl⟩
  · by_cases h : b = p.n0
    · subst h
      obtain ⟨o', e', _⟩ := own
      exact ⟨o', e'⟩
    · exact ⟨o, keep b o h e⟩
  · by_cases h : b = p.n0
    · subst h
      exact own
    · exact ⟨o, keep b o h e, hd⟩
theorem sv_of {kap : Resume → Shared → Prop} {T : Prop} {s : Shared} (h0 : T → kap (.send .none) s) (h1 : T → kap (.send (.int 0 0)) s) (t : T) (u : Bool) : kap (.send (sv u)) s := by
  cases u with
  | false => exact h0 t
  | true => exact h1 t
theorem not_fresh {M : Model} {A : Around} {R : GenEnd} {Y : Protocol} {n : Nat} {gs : GenState} {s : Shared} (h : gs.Goes M A R Y n (.send (.int 0 0)) s) : isFr gs = false := by
  cases gs with
  | fresh c =>
    obtain ⟨e, _⟩ := h
    cases e
  | _ => rfl
end
section
variable {p : GP} {A : Around} {it : Nat} {x : Str} {e : Expr} {f : Ev → Option (List Int)} {yp ep px : Pos}
theorem for_gen (ga : GA p A) (hN : p.N.Nodup) (hi : p.N[it]? = some x) (hk : p.env.kindOf x = some .local) (hq : GQY p A it e f) (hco : p.env.scope.isCoroutine = false) (hin : interactive p.env = false)
    {c : Code} {fs : List Frame} {gd : Bool → Bool} {k : Result → Sem PySem.Fin} {lvs : List Value} {q : Pos} (g : GCv p A c fs gd) {p2 : GP} {a2 : Addr} {go : Obj} {kss : List (List Int)} {ds post : List (List Int)} {ip : List (Addr × Obj)} {ρ' : Ev} :
    ∀ (rs pre pre2 ys : List (List Int)) (n : Nat) (s₀ s : Shared) (σ : L2.St) (H : Hp) (ρ : Ev), GIv p A s₀ ip σ H s → EnvR p.cg Z0 H σ ρ → pureEnv ρ = true → Slep p p2 A ip a2 go kss rs.length s → kss = pre2 ++ rs → mYG it f rs ρ = some (ys, ρ') → ds = pre ++ (ys ++ post) → n = (ys ++ post).length →
      GNx p A ds ip H ρ' post.length (fun s₀' s' => Seg (model p.P p.w) A (RV p) (YV p ds) post.length s₀' c (k (.ok .next)) fs s') →
      Seg (model p.P p.w) A (RV p) (YV p ds) n s₀ (.forLoop (.Name x px) (.ref a2) [.Expr (.Yield (some e) yp) ep] [] p.env) ((model p.P p.w).den (.forLoop (.Name x px) (.ref a2) [.Expr (.Yield (some e) yp) ep] [] p.env))
        (.ret k none (gd false) lvs c q [] :: fs) s := by
  intro rs
  induction rs with
  | nil =>
    intro pre pre2 ys n s₀ s σ H ρ hI en hp sl hks hm hd hn kx
    simp only [mYG, Option.some.injEq, Prod.mk.injEq] at hm
    obtain ⟨rfl, rfl⟩ := hm
    have gl := gc_for (k := k) (l := lvs) (kp := []) (q := q) (c' := .forLoop (.Name x px) (.ref a2) [.Expr (.Yield (some e) yp) ep] [] p.env) g rfl rfl
    refine seg_forLoop ?_
    rw [gl.over]
    obtain ⟨gs, e1, hb, hgo⟩ := sl.asl
    obtain ⟨sm, γs, γH, W, r0, kk, I⟩ := id hI.at_
    have hbr : AllBare (s.setGen p2.g .running).gens := allBare_setGen I.bare rfl
    have z0 : Slp p2 s (s.setGen p2.g .running) := Slp.same rfl rfl hbr (fun b hb => hI.cpin b (by rw [sl.lk.C] at hb; exact hb)) (fun i y h h2 => by rw [setGen_ne h]; exact h2) (Nat.le_of_eq (setGen_size _ _ _).symm)
    have hgl : p2.g + 1 ≤ s.gens.size := (Array.getElem?_eq_some_iff.mp e1).1
    refine wpAny_gsz hgl (next_genG (n := 0) (F := fun n s₀ s₁ => n = 0 ∧ Rn p2 s₀ s₁) (Er := fun _ _ => False) ga.hd I.nolimit ga.dp (sl.gen _ sl.at_) e1 (hgo _ z0) (fun v s₁ gs' hbare hv => ?_) (fun s₁ hp1 h' hk' hsz => ?_) fun e s₁ he => he.elim)
    · intro _
      obtain ⟨_, _, _, _, _, _, rn, hz⟩ := hv
      refine (hz false s₁ (Slp.same rfl rfl rn.bare (fun b hb => ?_) (fun _ _ _ h => h) (Nat.le_refl _))).elim
      obtain ⟨o, e2, e3⟩ := hI.cpin b (by rw [sl.lk.C] at hb; exact hb)
      exact ⟨o, rn.cs b hb o e2, e3⟩
    · obtain ⟨_, rn⟩ := hp1
      show Seg _ A _ _ n s₀ _ _ _ _
      refine seg_leaf (.ok .next) ?_
      subst hn
      have hok : HOk p.P p.w (rst H) s₁.heap := hok_tk (rst_only H) rn.tk (rst_ok I.hok)
      have hI' : GIv p A s₀ ip σ (rst H) { s₁.setGen p2.g .finished with heap := h' } := hI.turned ga.ok sl.lk rn rfl rfl rfl (allBare_setGen rn.bare rfl) hk' (rst_only H) (hok.kept hk') (fun _ _ => rfl) (Nat.lt_of_lt_of_le (Nat.lt_succ_of_lt sl.lk.g) hsz) ga.hd ga.fr
      exact kx s₀ _ σ (rst H) (ts_rst H) hI' (env_rst hp en) hp
  | cons ks r ih =>
    intro pre pre2 ys n s₀ s σ H ρ hI en hp sl hks hm hd hn kx
    simp only [mYG] at hm
    split at hm
    · rename_i y ef
      split at hm
      · rename_i ys' ρ2 er
        cases hm
        have gl := gc_for (k := k) (l := lvs) (kp := []) (q := q) (c' := .forLoop (.Name x px) (.ref a2) [.Expr (.Yield (some e) yp) ep] [] p.env) g rfl rfl
        refine seg_forLoop ?_
        rw [gl.over]
        obtain ⟨gs, e1, hb, hgo⟩ := sl.asl
        obtain ⟨sm, γs, γH, W, r0, kk, I⟩ := id hI.at_
        have hbr : AllBare (s.setGen p2.g .running).gens := allBare_setGen I.bare rfl
        have z0 : Slp p2 s (s.setGen p2.g .running) := Slp.same rfl rfl hbr (fun b hb => hI.cpin b (by rw [sl.lk.C] at hb; exact hb)) (fun i y h h2 => by rw [setGen_ne h]; exact h2) (Nat.le_of_eq (setGen_size _ _ _).symm)
        have hgl : p2.g + 1 ≤ s.gens.size := (Array.getElem?_eq_some_iff.mp e1).1
        refine wpAny_gsz hgl (next_genG (n := r.length + 1) (F := fun n s₀ s₁ => n = 0 ∧ Rn p2 s₀ s₁) (Er := fun _ _ => False) ga.hd I.nolimit ga.dp (sl.gen _ sl.at_) e1 (hgo _ z0) (fun v s₁ gs' hbare hv => ?_) (fun s₁ hp1 h' hk' => ?_) fun e s₁ he => he.elim)
        · intro hsz
          obtain ⟨pr, ks', po, hks', hlen, yt, rn, hz⟩ := hv
          have hsame : ks = ks' ∧ r = po := by
            rw [hks] at hks'
            have hl : (ks :: r).length = (ks' :: po).length := by
              show r.length + 1 = po.length + 1
              have : r.length + 1 - 1 = po.length := hlen
              omega
            have := (List.append_inj' hks' hl).2
            exact ⟨(List.cons.inj this).1, (List.cons.inj this).2⟩
          obtain ⟨rfl, rfl⟩ := hsame
          obtain ⟨hzl, a, its, rfl, hya, htup, hvals⟩ := yt
          have hok : HOk p.P p.w (rst H) s₁.heap := hok_tk (rst_only H) rn.tk (rst_ok I.hok)
          obtain ⟨ato, aok, ats⟩ := adopt (rst_only H) hok htup hvals hzl
          have hI2 : GIv p A s₀ ip σ (upd (rst H) a (.tup (ks.map V.int))) (s₁.setGen p2.g gs') := hI.turned ga.ok sl.lk rn rfl rfl rfl (allBare_setGen rn.bare hbare) (fun _ _ h => h) ato aok (fun b hb => upd_ne (Nat.ne_of_lt (Nat.lt_of_lt_of_le hb hya))) (Nat.lt_of_lt_of_le (Nat.lt_succ_of_lt sl.lk.g) hsz) ga.hd ga.fr
          have tsH : TS H (upd (rst H) a (.tup (ks.map V.int))) := (ts_rst H).trans ats
          have hn2 : p2.g < (s₁.setGen p2.g gs').gens.size := hsz
          have hn1 : p2.g < s₁.gens.size := by rw [setGen_size] at hn2; exact hn2
          show wpAny _ _ (pure ()) _ _ _
          refine wpAny_pure ?_
          obtain ⟨sm2, γs2, γH2, W2, r2, kk2, I2⟩ := id hI2.at_
          refine wpAny_assign_Name (store_g I2 hN hi hk (v := .ref a) rfl fun h' I3 sb => ?_)
          have hI3 : GIv p A s₀ ip (σ.set it (some (.ref a))) (upd (rst H) a (.tup (ks.map V.int))) { s₁.setGen p2.g gs' with heap := h', toks := s₁.toks + 1 } := ⟨hI.nc, hI2.gsz, sm2, γs2, γH2, W2, r2, kk2, I3⟩
          have en3 : EnvR p.cg Z0 (upd (rst H) a (.tup (ks.map V.int))) (σ.set it (some (.ref a))) (ρ.set it (some (tupI ks))) := (env_tups tsH hp en).set (by
            unfold tupI
            simp only [RelD]
            exact ⟨a, ks.map V.int, rfl, ⟨z0_off a, upd_same⟩, .ofInts⟩)
          have hp3 : pureEnv (ρ.set it (some (tupI ks))) = true := pure_set hp (pure_tupI ks)
          have hlt : it < σ.length := by
            rw [I.len]
            exact (List.getElem?_eq_some_iff.mp hi).1
          have hσ : (σ.set it (some (.ref a)))[it]? = some (some (.ref a)) := List.getElem?_set_self hlt
          have hya1 : p.n0 ≤ a := Nat.le_of_lt (Nat.lt_of_lt_of_le sl.lk.lt hya)
          subst hn
          refine seg_execs_cons ?_
          show Seg _ A _ _ ((ys' ++ post).length + 1) s₀ _ _ _ _
          refine seg_Expr_Yield gl.split gl.gd gl.guard ?_ hco hin
          rw [gl.over]
          refine wpAny_mono (hq γs2 γH2 (W2 ++ ip) _ _ _ _ y a kk2.sz I3 en3 hσ hya1 ef) (fun v s4 hv4 => ?_) fun _ _ hx => hx.elim
          obtain ⟨yt4, I4, kp⟩ := hv4
          have hI4 : GIv p A s₀ ip (σ.set it (some (.ref a))) (upd (rst H) a (.tup (ks.map V.int))) s4 := ⟨hI.nc, by rw [kp.gens]; exact hI2.gsz, sm2, γs2, γH2, W2, r2, kk2, I4⟩
          have z11 : Slp p2 s₁ s₁ := Slp.same rfl rfl rn.bare (fun b hb => by
            obtain ⟨o, e2, e3⟩ := hI.cpin b (by rw [sl.lk.C] at hb; exact hb)
            exact ⟨o, rn.cs b hb o e2, e3⟩) (fun _ _ _ h => h) (Nat.le_refl _)
          have hnf : isFr gs' = false := not_fresh (hz true s₁ z11)
          have hnd1 : ∀ its, ¬ IsTup s₁.heap p.n0 its := fun its ⟨o, e, _, n, hd⟩ => by
            obtain ⟨m, ⟨o2, es, ep, ho2, hd2, _⟩, _⟩ := I2.loc
            have ho3 : s₁.heap.get? p.n0 = some o2 := ho2
            rw [e] at ho3
            cases ho3
            rw [hd2] at hd
            cases hd
          have z14 : Slp p2 s₁ s4 := by
            refine slp_own hI4 sl.lk hnd1 kp.os ?_ (fun b o hb e => kp.keep b o ((sb.2 b hb).trans e)) (fun i hi2 => ?_) ?_
            · have h1 : (s₁.setGen p2.g gs').heap.objs.size = h'.objs.size := sb.1.symm
              have h2 : h'.objs.size ≤ s4.heap.objs.size := kp.size
              have h3 : s₁.heap.objs.size = (s₁.setGen p2.g gs').heap.objs.size := rfl
              omega
            · rw [kp.gens]
              exact setGen_ne hi2
            · rw [kp.gens]
              exact Nat.le_of_eq (setGen_size _ _ _).symm
          intro kap hkap
          refine ⟨pre, y, ys' ++ post, by rw [hd]; rfl, rfl, yt4, hI4.rn, fun u s5 z => sv_of (hkap .none s5) (hkap (.int 0 0) s5) ?_ u⟩
          have hI5 : GIv p A s5 ip (σ.set it (some (.ref a))) (rst (upd (rst H) a (.tup (ks.map V.int)))) s5 := hI4.woken ga.ok z ga.hd ga.fr
          have z45 : Slp p2 s4 s5 := slp_up ga.ok hI4 sl.lk z
          have ha2 : s₁.heap.get? a2 = some go := by
            have := rn.pn (a2, go) (by rw [sl.pn]; exact List.mem_singleton.mpr rfl)
            exact this
          have ha2n : p.n0 < a2 := Nat.lt_of_lt_of_le sl.lk.lt sl.young
          have hnt : NT go := by
            obtain ⟨o, nm, qn, e, _, hdg, _⟩ := sl.gen s₁.heap ha2
            rw [ha2] at e
            cases e
            exact ⟨fun v q => (by rw [hdg] at q; cases q), fun its n q => (by rw [hdg] at q; cases q)⟩
          have sl5 : Slep p p2 A ip a2 go kss r.length s5 := by
            refine ⟨sl.lk, sl.pn, sl.gen, z.keepY a2 go (Nat.le_of_lt ha2n) (fun h => absurd (Nat.lt_of_lt_of_le (sl.lk.clt a2 h) sl.young) (Nat.lt_irrefl _)) hnt (kp.keep a2 go ((sb.2 a2 (Nat.ne_of_gt ha2n)).trans ha2)), sl.young, gs', ?_, hbare, fun s' z' => hz false s' ((z14.trans z45).trans z')⟩
            refine z.gens p2.g gs' sl.lk.g hnf ?_
            rw [kp.gens]
            exact setGen_at hn1
          refine seg_execs_nil ?_
          refine seg_again rfl ?_
          refine ih (pre ++ [y]) (pre2 ++ [ks]) ys' _ s5 s5 _ _ _ hI5 (env_rst hp3 en3) hp3 sl5 (by rw [hks]; simp) er (by rw [hd]; simp) rfl ?_
          exact fun s₀2 s2 σ2 H2 ts2 => kx s₀2 s2 σ2 H2 ((tsH.trans (ts_rst _)).trans ts2)
        · exact absurd hp1.1 (Nat.succ_ne_zero _)
      · cases hm
    · cases hm
/-- for x in a generator: yield e -/
theorem gv_forG {iter : Expr} {me : Ev → Option (List (List Int))} {pos : Pos} (ga : GA p A) (hN : p.N.Nodup) (he : GEx p A iter me) (hq : GQY p A it e f) (hi : p.N[it]? = some x := by rfl) (hk : p.env.kindOf x = some .local := by rfl) (hco : p.env.scope.isCoroutine = false := by rfl) (hin : interactive p.env = false := by rfl)
    (hs : ∀ y, foldedSetIterable iter p.env y = pure y := by intro _; rfl) : GV p A (.For (.Name x px) iter [.Expr (.Yield (some e) yp) ep] [] pos) (mYFG me it f) := by
  intro ds pre post ys n s₀ s ip c fs K J gd lv σ H ρ ρ' g hI en hp hm hd hn kx
  unfold mYFG at hm
  split at hm
  · rename_i kss ek
    refine seg_For ?_ hs
    rw [g.over]
    refine wpAny_mono (he s₀ s ip σ H ρ kss (fun x s' => Seg (model p.P p.w) A (RV p) (YV p ds) n s₀ c (J x) fs s') hI en hp ek fun γs γH x s' hx => xe_seg g hx) (fun v s1 hv => ?_) fun _ _ hx => hx
    obtain ⟨p2, a2, go, H', rfl, ts, hI1, en1, sl⟩ := hv
    refine wpAny_pyIter_gen (sl.gen _ sl.at_) fun q => ?_
    exact for_gen ga hN hi hk hq hco hin g kss pre [] ys n s₀ s1 σ H' ρ hI1 en1 hp sl rfl hm hd hn fun s₀2 s2 σ2 H2 ts2 => kx s₀2 s2 σ2 H2 (ts.trans ts2)
  · cases hm
end
end VL
/-! generators: for over enumerate of a tuple; quiet expressions -/
namespace VL
open PySem PySem.Spec PyProof.Rows L2 GenW

def enumTn (a e it : Addr) : Nat → Heap → Prop := fun i h => (∃ old, IsEnum h e it ((i : Nat) : Int) old) ∧ h.IsTupleIter it a i ∧ e ≠ it ∧ a ≠ it ∧ a ≠ e
theorem enumTn.flds {a e it : Addr} {i : Nat} {h : Heap} (t : enumTn a e it i h) : ∀ b ∈ [e, it], ∃ o vs, h.get? b = some o ∧ o.data = .fields vs := fun b hb => by
  obtain ⟨⟨old, he⟩, ⟨o, ho, hc, hd⟩, _⟩ := t
  have e' : b = e ∨ b = it := by simpa using hb
  rcases e' with z | z
  · rw [z]; exact ⟨_, _, he, rfl⟩
  · rw [z]; exact ⟨o, _, ho, hd⟩
theorem enum_name {X : Cx} {pins : List (Addr × Obj)} {σ : L2.St} {H : Hp} {s : Shared} {ta : TA} {e0 : Expr} {p pos : Pos} {a : Addr} {xs : List V} {E : Value → Shared → Prop} (I : Inv X pins σ H s) (hg : Gl X "enumerate") (hm : X.mg "enumerate" = none) (ha : PA X [e0] ta) (hta : ta σ H fun vs H1 => vs = [.ref a] ∧ H1 = H) (hq : SqT X.K H a xs)
    (hE : ∀ x s', X.xe x s' → E x s') (hs : starEach [e0] X.env = [(false, eval e0 X.env)] := by rfl) :
    wpAny (model X.prog X.w) X.A (eval (.Call (.Name "enumerate" p) [e0] [] pos) X.env) (fun v s1 => wpAny (model X.prog X.w) X.A (pyIter v) (fun itv s2 => ∃ e it, itv = .ref e ∧ Inv X pins σ H s2 ∧ enumTn a e it 0 s2.heap ∧ (∀ b ∈ [e, it], FpOk X pins H b)) E s1) E s := by
  refine Call_ (ld_blt I hg hm boot_enumerate (PyProof.Rows.callWith_type1 (wpAny_mono (ha.run pos pins s σ H _ I hta) (fun us s1 ⟨vs, H1, I1, r1, q1⟩ => ?_) fun x s' hx => hE x s' hx) hs rfl))
  obtain ⟨ex, eH⟩ := q1
  subst ex eH
  cases r1 with
  | cons r rr =>
    cases rr
    cases r
    obtain ⟨its, rv, p', hz⟩ := I1.tuple hq
    have hal : a < s1.heap.objs.size := by obtain ⟨_, z, _⟩ := id p'; exact Heap.lt_size z
    refine call_enum1 (begins_tuple a its.toArray) p' fun h' he hit hsz hk => wpAny_pyIter_enum he ?_
    have I2 : Inv X pins σ H1 { s1 with heap := h' } := I1.kept (t' := s1.toks) hk
    refine ⟨s1.heap.objs.size + 1, s1.heap.objs.size, rfl, I2, ⟨⟨.none, he⟩, ⟨_, hit, rfl, rfl⟩, Nat.succ_ne_self _, Nat.ne_of_lt hal, Nat.ne_of_lt (Nat.lt_succ_of_lt hal)⟩, fun b hb => ?_⟩
    have e' : b = s1.heap.objs.size + 1 ∨ b = s1.heap.objs.size := by simpa using hb
    have hle : s1.heap.objs.size ≤ b := by
      rcases e' with z | z
      · rw [z]; exact Nat.le_add_right _ _
      · rw [z]; exact Nat.le_refl _
    exact I1.fpOk hle (I1.hok.fresh hle)
def mYLoop (g : MG) (mb : MY) : List D → MY
  | [], ρ => some ([], ρ)
  | d :: r, ρ => (match g d ρ [] with
    | .ok ρ1 [] => if pureEnv ρ1 = true then (match mb ρ1 with
      | some (ys, ρ2) => (match mYLoop g mb r ρ2 with
        | some (zs, ρ3) => some (ys ++ zs, ρ3)
        | none => none)
      | none => none) else none
    | _ => none)
/-- for .. in enumerate(a name that holds a tuple) -/
def mYFE (il : Nat) (g : MG) (mb : MY) : MY := fun ρ => match ρ[il]? with
  | some (some (.tup xs)) => mYLoop g mb (enumD xs) ρ
  | _ => none
section
variable {p : GP} {A : Around} {W : WX} {elts : List Expr} {kk : Nat} {tpos : Pos} {g0 : MG} {body : List Stmt} {mb : MY}
theorem for_enum (ga : GA p A) (hg0 : ∀ γs γH, VG (p.X A γs γH XNo) W (.Tuple elts kk tpos) g0) (hb : GVs p A body mb)
    {c : Code} {fs : List Frame} {gd : Bool → Bool} {k : Result → Sem PySem.Fin} {lvs : List Value} {q : Pos} (g : GCv p A c fs gd) {a e it : Addr} {xs : List D} {vs : List V} {ds post : List (List Int)} {ip : List (Addr × Obj)} {ρ' : Ev} (hxs : pureDs xs = true)
    (hfp : ∀ b ∈ [e, it], b ≠ p.n0 ∧ b ∉ L2.frs p.outer ∧ p.n0 ≤ b ∧ b ∉ p.C ∧ ∀ r ∈ p.pn ++ ip, r.1 ≠ b) :
    ∀ (m i : Nat) (pre ys : List (List Int)) (n : Nat) (s₀ s : Shared) (σ : L2.St) (H : Hp) (ρ : Ev), i + m = xs.length → GIv p A s₀ ip σ H s → EnvR p.cg Z0 H σ ρ → pureEnv ρ = true → H a = some (.tup vs) → RelDs p.cg Z0 H xs vs → enumTn a e it i s.heap → (∀ b ∈ [e, it], H b = none) →
      mYLoop g0 mb ((enumD xs).drop i) ρ = some (ys, ρ') → ds = pre ++ (ys ++ post) → n = (ys ++ post).length →
      GNx p A ds ip H ρ' post.length (fun s₀' s' => Seg (model p.P p.w) A (RV p) (YV p ds) post.length s₀' c (k (.ok .next)) fs s') →
      Seg (model p.P p.w) A (RV p) (YV p ds) n s₀ (.forLoop (.Tuple elts kk tpos) (.ref e) body [] p.env) ((model p.P p.w).den (.forLoop (.Tuple elts kk tpos) (.ref e) body [] p.env))
        (.ret k none (gd false) lvs c q [] :: fs) s := by
  have T : Turn p.P p.w p.K (.Tuple elts kk tpos) (IteT p.K a) [e, it] e (enumTn a e it) := turn_enumT a e it
  -- the iterators, at any time
  have stat : ∀ {s₀ s : Shared} {σ : L2.St} {H : Hp} {γs : Shared} {γH : Hp} {Wp : List (Addr × Obj)} {i : Nat} {sm : Shared}, Wk p sm γs γH Wp → Inv (p.X A γs γH XNo) (Wp ++ ip) σ H s → enumTn a e it i s.heap → (∀ b ∈ [e, it], H b = none) → ∀ b ∈ [e, it], FpOk (p.X A γs γH XNo) (Wp ++ ip) H b := fun {s₀ s σ H γs γH Wp i sm} kk' I tn hn b hb' => by
    obtain ⟨f1, f2, f3, f4, f5⟩ := hfp b hb'
    refine ⟨hn b hb', f1, f2, .inr (by show γs.heap.objs.size ≤ b; rw [kk'.sz]; exact f3), fun x c h => ?_, fun r hr hrb => ?_⟩
    · have hcl : p.env.cells.lookup x = some c := h
      rw [ga.ok.cells] at hcl
      cases hcl
    · rcases List.mem_append.mp hr with h | h
      · exact f5 r (List.mem_append_left _ h) hrb
      · rcases List.mem_append.mp h with h | h
        · obtain ⟨o, fl, e1, e2⟩ := tn.flds b hb'
          have e3 := (I.pin r hr).1
          rw [hrb, e1] at e3
          cases e3
          rcases kk'.wt r h with z | ⟨its, n2, z⟩
          · exact f4 (hrb ▸ z)
          · rw [e2] at z; cases z
        · exact f5 r (List.mem_append_right _ h) hrb
  intro m
  induction m with
  | zero =>
    intro i pre ys n s₀ s σ H ρ hi hI en hp ha hr tn hn hm hd hnn kx
    have hdrop : (enumD xs).drop i = [] := List.drop_eq_nil_of_le (by rw [enumD_len]; omega)
    rw [hdrop] at hm
    simp only [mYLoop, Option.some.injEq, Prod.mk.injEq] at hm
    obtain ⟨rfl, rfl⟩ := hm
    have gl := gc_for (k := k) (l := lvs) (kp := []) (q := q) (c' := .forLoop (.Tuple elts kk tpos) (.ref e) body [] p.env) g rfl rfl
    refine seg_forLoop ?_
    rw [gl.over]
    obtain ⟨sm, γs, γH, Wp, r0, kw, I⟩ := id hI.at_
    have hstop : (IteT p.K a).stop i H := ((itok_enumT (G := p.cg) (ι := Z0) ⟨z0_off a, ha⟩ hr) Z0 H [] (enumD xs) (Ext.refl Z0 H).w sim0 rfl i).2 (by rw [enumD_len]; omega)
    refine wpAny_gsz hI.gsz (wpAny_mono (T.done (p.X A γs γH XNo) rfl rfl rfl rfl i (Wp ++ ip) s σ H (fun _ _ => False) I (stat (s₀ := s₀) kw I tn hn) tn hstop) (fun r s1 hs hz => ?_) fun _ _ hx => hx.elim)
    obtain ⟨rfl, I1⟩ := hs
    subst hnn
    exact seg_leaf (.ok .next) (kx s₀ s1 σ H (.refl H) ⟨hI.nc, hz, sm, γs, γH, Wp, r0, kw, I1⟩ en hp)
  | succ m ih =>
    intro i pre ys n s₀ s σ H ρ hi hI en hp ha hr tn hn hm hd hnn kx
    have hil : i < (enumD xs).length := by rw [enumD_len]; omega
    rw [List.drop_eq_getElem_cons hil] at hm
    simp only [mYLoop] at hm
    split at hm
    · rename_i ρ1 e1
      split at hm
      · rename_i hp1
        split at hm
        · rename_i y1 ρ2 e2
          split at hm
          · rename_i y2 ρ3 e3
            cases hm
            have gl := gc_for (k := k) (l := lvs) (kp := []) (q := q) (c' := .forLoop (.Tuple elts kk tpos) (.ref e) body [] p.env) g rfl rfl
            refine seg_forLoop ?_
            rw [gl.over]
            obtain ⟨sm, γs, γH, Wp, r0, kw, I⟩ := id hI.at_
            obtain ⟨hgo, hyld⟩ := ((itok_enumT (G := p.cg) (ι := Z0) ⟨z0_off a, ha⟩ hr) Z0 H [] (enumD xs) (Ext.refl Z0 H).w sim0 rfl i).1 _ (List.getElem?_eq_getElem hil)
            refine wpAny_gsz hI.gsz (wpAny_mono (T.item (p.X A γs γH XNo) rfl rfl rfl rfl i (Wp ++ ip) s σ H _ I (stat (s₀ := s₀) kw I tn hn) tn hgo) (fun r s1 hs hz1 => ?_) fun _ _ hx _ => hx)
            obtain ⟨u, rfl, h1⟩ := hs
            refine wpAny_gsz hz1 (wpAny_mono h1 (fun _ s5 hs hz5 => ?_) fun _ _ hx _ => hx)
            obtain ⟨x, H5, I5, r5, y5, tn5, hn5⟩ := hs
            obtain ⟨ext5, _, rd5⟩ := hyld x H5 y5
            have ts5 : TS H H5 := fun b ys h => ext5.fix b _ rfl h
            have I5' : Inv (p.X A γs γH XNo) (Wp ++ (ip ++ pinsAt [e, it] s5.heap)) σ H5 s5 := by
              have := I5.pinned (stat (s₀ := s₀) kw I5 tn5 hn5) (T.obj _ _ tn5)
              rw [List.append_assoc] at this
              exact this
            refine wpAny_gsz hz5 (wpAny_mono ((hg0 γs γH).run _ s5 σ H5 x u (fun σ6 H6 => TS H5 H6 ∧ EnvR p.cg Z0 H6 σ6 ρ1) I5' r5 ⟨Z0, [], ρ, _, sim0, env_tups ts5 hp en, rd5, post0 e1 fun H' ts => fun σ' e' => ⟨ts, e'⟩⟩) (fun _ s6 hs hz6 => ?_) fun x s' hx _ T => xe_seg gl hx)
            obtain ⟨σ6, H6, I6, ts6, en6⟩ := hs
            have hI6 : GIv p A s₀ (ip ++ pinsAt [e, it] s5.heap) σ6 H6 s6 := by
              refine ⟨fun r hr => ?_, hz6, sm, γs, γH, Wp, r0, kw, I6⟩
              rcases List.mem_append.mp hr with h | h
              · exact hI.nc r h
              · have f := hfp r.1 (of_pinsAt h).1
                obtain ⟨o, vs5, e5, d5⟩ := tn5.flds r.1 (of_pinsAt h).1
                have e6 := (of_pinsAt h).2
                rw [e5] at e6
                cases e6
                exact ⟨f.2.2.2.1, f.2.2.1, fun v q => (by rw [d5] at q; cases q), fun its n q => (by rw [d5] at q; cases q)⟩
            refine hb ds pre (y2 ++ post) y1 n s₀ s6 (ip ++ pinsAt [e, it] s5.heap) _ _ _ _ id id σ6 H6 ρ1 ρ2 gl hI6 en6 hp1 e2 (by rw [hd]; simp) (by rw [hnn]; simp) fun s₀7 s7 σ7 H7 ts7 hI7 en7 hp7 => ?_
            refine seg_again rfl ?_
            have tsA : TS H H7 := (ts5.trans ts6).trans ts7
            have pin7 : ∀ b ∈ [e, it], ∀ o, s5.heap.get? b = some o → s7.heap.get? b = some o ∧ H7 b = none := fun b hb' o ho => by
              obtain ⟨_, γs7, γH7, W7, _, kw7, I7⟩ := id hI7.at_
              obtain ⟨f1, f2, _⟩ := I7.pin (b, o) (List.mem_append_right _ (List.mem_append_right _ (List.mem_append_right _ (mem_pinsAt hb' ho))))
              exact ⟨f1, f2⟩
            refine ih (i + 1) (pre ++ y1) y2 _ s₀7 s7 σ7 H7 ρ2 (by omega) hI7.sub en7 hp7 (tsA a vs ha) (rels_tups tsA xs vs hxs hr) (T.keep _ _ _ tn5 fun b hb' o ho => (pin7 b hb' o ho).1) (fun b hb' => ?_) e3 (by rw [hd]; simp) rfl fun s₀8 s8 σ8 H8 ts8 => kx s₀8 s8 σ8 H8 (tsA.trans ts8)
            obtain ⟨o, _, ho, _⟩ := tn5.flds b hb'
            exact (pin7 b hb' o ho).2
          · cases hm
        · cases hm
      · cases hm
    · cases hm
theorem gv_forE {il : Nat} {x : Str} {px pf pc pos : Pos} (ga : GA p A) (hG : ∀ γs γH, Gl (p.X A γs γH XNo) "enumerate") (hm : p.mg "enumerate" = none) (hg0 : ∀ γs γH, VG (p.X A γs γH XNo) W (.Tuple elts kk tpos) g0) (hb : GVs p A body mb)
    (hN : p.N[il]? = some x := by rfl) (hv : Vis p.env.scope x := by first | exact Or.inl rfl | exact Or.inr (Or.inl rfl) | exact Or.inr (Or.inr rfl)) (hdd : (x == ("__debug__" : Str)) = false := by decide) (hcd : (x == ("__classdict__" : Str)) = false := by decide)
    (hs : ∀ y, foldedSetIterable (.Call (.Name "enumerate" pf) [.Name x px] [] pc) p.env y = pure y := by intro _; rfl) (hst : starEach [.Name x px] p.env = [(false, eval (.Name x px) p.env)] := by rfl) :
    GV p A (.For (.Tuple elts kk tpos) (.Call (.Name "enumerate" pf) [.Name x px] [] pc) body [] pos) (mYFE il g0 mb) := by
  intro ds pre post ys n s₀ s ip c fs K J gd lv σ H ρ ρ' g hI en hp hm' hd hn kx
  unfold mYFE at hm'
  split at hm'
  · rename_i xs ex
    have hxs : pureDs xs = true := by
      have q := List.all_eq_true.1 hp _ (List.mem_of_getElem? ex)
      simpa only [pureD] using q
    obtain ⟨v, hσ, rv⟩ := en.2 il _ ex
    simp only [RelD] at rv
    obtain ⟨a, vs, rfl, ta, rds⟩ := rv
    obtain ⟨sm, γs, γH, Wp, r0, kw, I⟩ := id hI.at_
    refine seg_For ?_ hs
    rw [g.over]
    have ha : PA (p.X A γs γH XNo) [.Name x px] _ := pa_cons (pe_var hN hv hdd hcd) pa_nil
    refine wpAny_gsz hI.gsz (wpAny_mono (enum_name (xs := vs) (E := fun x s' => ∀ T : Sem PySem.Fin, Seg (model p.P p.w) A (RV p) (YV p ds) n s₀ c T fs s') I (hG γs γH) hm ha ⟨.ref a, hσ, rfl, rfl⟩ (.inl (.inl ta.2)) (fun x s' hx T => xe_seg g hx) hst) (fun v s1 h1 hz1 => ?_) fun x s' hx _ => hx _)
    refine wpAny_gsz hz1 (wpAny_mono h1 (fun itv s2 h2 hz2 => ?_) fun x s' hx _ => hx _)
    obtain ⟨e, it, rfl, I2, tn, hfp⟩ := h2
    intro q
    have hI2 : GIv p A s₀ ip σ H s2 := ⟨hI.nc, hz2, sm, γs, γH, Wp, r0, kw, I2⟩
    refine for_enum ga hg0 hb g hxs (fun b hb' => ?_) xs.length 0 pre ys n s₀ s2 σ H ρ (Nat.zero_add _) hI2 en hp ta.2 rds tn (fun b hb' => (hfp b hb').1) hm' hd hn kx
    obtain ⟨f1, f2, f3, f4, f5, f6⟩ := hfp b hb'
    refine ⟨f2, f3, ?_, fun hc => ?_, fun r hr => ?_⟩
    · rcases f4 with z | z
      · cases z
      · have z' : γs.heap.objs.size ≤ b := z
        rw [kw.sz] at z'
        exact z'
    · obtain ⟨o, hm2, _⟩ := kw.cw b hc
      exact f6 (b, o) (List.mem_append_right _ (List.mem_append_left _ hm2)) rfl
    · rcases List.mem_append.mp hr with h | h
      · exact f6 r (List.mem_append_left _ h)
      · exact f6 r (List.mem_append_right _ (List.mem_append_right _ h))
  · cases hm'
end
end VL
/-! generators: quiet expressions; a generator def's promise; its call within a generator -/
namespace VL
open PySem PySem.Spec PyProof.Rows L2 GenW

theorem name_g {X : Cx} {M : Model} {A : Around} {pins : List (Addr × Obj)} {σ : L2.St} {H : Hp} {s : Shared} {i : Nat} {x : Str} {v : V} {pos : Pos} {E : Value → Shared → Prop} {Q : Value → Shared → Prop} (I : Inv X pins σ H s) (hN : X.N[i]? = some x) (hv : Vis X.env.scope x) (e : σ[i]? = some (some v)) (h : ∀ u, RelV v u → Q u s)
    (hd : (x == ("__debug__" : Str)) = false := by decide) (hcd : (x == ("__classdict__" : Str)) = false := by decide) : wpAny M A (eval (.Name x pos) X.env) Q E s := by
  obtain ⟨m, hn, hl⟩ := I.loc
  obtain ⟨u, r, l⟩ := hl i x v hN e hv
  rcases l with ⟨hk, hm⟩ | ⟨hk, c, hc, hcell⟩
  · exact wpAny_Name (wpAny_loadName_local I.ok.kind hk hn hm (h u r)) hd
  · rcases hk with hk | hk
    · exact wpAny_Name (wpAny_loadName_cell I.ok.kind hk hc hcell (h u r)) hd
    · exact wpAny_Name (wpAny_loadName_free I.ok.kind hk hc hcell (h u r) hcd) hd
def intOf : D → Option Int
  | .int i => some i
  | _ => none
def intsOf : List D → Option (List Int)
  | [] => some []
  | d :: ds => match intOf d, intsOf ds with
    | some i, some r => some (i :: r)
    | _, _ => none
theorem intsOf_eq : ∀ {ds : List D} {ks : List Int}, intsOf ds = some ks → ds = ks.map D.int
  | [], ks, h => by
    simp only [intsOf, Option.some.injEq] at h
    subst h; rfl
  | d :: ds, ks, h => by
    simp only [intsOf] at h
    split at h
    · rename_i i r h1 h2
      cases h
      cases d <;> simp only [intOf] at h1 <;> first | cases h1 | skip
      rw [intsOf_eq h2]; rfl
    · cases h
theorem intsOf_map : ∀ ks : List Int, intsOf (ks.map D.int) = some ks
  | [] => rfl
  | k :: ks => by simp only [List.map_cons, intsOf, intOf, intsOf_map ks]
def fQUnit : Ev → Option (List Int) := fun _ => some []
def fQVar (i : Nat) : Ev → Option (List Int) := fun ρ => match ρ[i]? with
  | some (some (.tup ds)) => (match intsOf ds with
    | some ks => if ks.length ≤ LIM then some ks else none
    | none => none)
  | _ => none
/-- (entry,) + rest -/
def fQCons (i j : Nat) : Ev → Option (List Int) := fun ρ => match ρ[i]?, ρ[j]? with
  | some (some (.int k)), some (some (.tup ds)) => (match intsOf ds with
    | some ks => if ks.length < LIM then some (k :: ks) else none
    | none => none)
  | _, _ => none
section
variable {p : GP} {A : Around} {pos p1 p2 p3 : Pos} {x1 : Nat}
theorem KpG.push {s : Shared} {o : Obj} {t : Nat} : KpG s { s with heap := s.heap.push o, toks := t } := ⟨rfl, rfl, fun b o' e => Heap.get?_push_of_some _ e, by
  show s.heap.objs.size ≤ (s.heap.push o).objs.size
  rw [Heap.size_push]; exact Nat.le_succ _⟩
theorem gq_unit : GQ p A (.Tuple [] x1 pos) fQUnit := by
  intro γs γH pins s σ H ρ ks hsz I en hf
  simp only [fQUnit, Option.some.injEq] at hf
  subst hf
  refine wpAny_Tuple_spliced (Calls.spliced_nil ⟨Nat.zero_le _, ⟨Nat.zero_le _, s.heap.objs.size, [], rfl, ?_, IsTup.new _ _, .nil⟩, I.kept (t' := s.toks) fun b o e => Heap.get?_push_of_some _ e, KpG.push (t := s.toks)⟩)
  exact Nat.le_of_lt I.lt
theorem gqy_var {it : Nat} {x : Str} (hN : p.N[it]? = some x) (hv : Vis p.env.scope x) (hd : (x == ("__debug__" : Str)) = false := by decide) (hcd : (x == ("__classdict__" : Str)) = false := by decide) : GQY p A it (.Name x p1) (fQVar it) := by
  intro γs γH pins s σ H ρ ks a0 hsz I en hσ ha hf
  unfold fQVar at hf
  split at hf
  · rename_i ds e1
    split at hf
    · rename_i ks' e2
      split at hf
      · rename_i hl
        cases hf
        obtain ⟨v, hv1, rv⟩ := en.2 it _ e1
        rw [hσ] at hv1
        cases hv1
        simp only [RelD] at rv
        obtain ⟨a, xs, e3, t, rs⟩ := rv
        cases e3
        rw [intsOf_eq e2] at rs
        have := rs.ints
        subst this
        obtain ⟨_, its, vs, ht⟩ := I.hok _ _ t.2
        refine name_g (X := p.X A γs γH XNo) I hN hv hσ (fun u ru => ?_) hd hcd
        cases ru
        exact ⟨⟨le_LIM hl, _, its, rfl, ha, ht, vs⟩, I, .refl s⟩
      · cases hf
    · cases hf
  · cases hf
theorem gqy_cons {i j : Nat} {x y : Str} (hN : p.N[i]? = some x) (hv : Vis p.env.scope x) (hN2 : p.N[j]? = some y) (hv2 : Vis p.env.scope y) (hd : (x == ("__debug__" : Str)) = false := by decide) (hcd : (x == ("__classdict__" : Str)) = false := by decide) (hd2 : (y == ("__debug__" : Str)) = false := by decide) (hcd2 : (y == ("__classdict__" : Str)) = false := by decide)
    (he : starEach [.Name x p1] p.env = (false, eval (.Name x p1) p.env) :: starEach [] p.env := by rfl) :
    GQY p A j (.BinOp (.Tuple [.Name x p1] x1 p2) .Add (.Name y p3) pos) (fQCons i j) := by
  intro γs γH pins s σ H ρ ks a0 hsz I en hσ ha hf
  unfold fQCons at hf
  split at hf
  · rename_i k ds e0 e1
    split at hf
    · rename_i ks' e2
      split at hf
      · rename_i hl
        cases hf
        obtain ⟨v0, hv0, rv0⟩ := en.2 i _ e0
        have := relI rv0
        subst this
        obtain ⟨v, hv1, rv⟩ := en.2 j _ e1
        rw [hσ] at hv1
        cases hv1
        simp only [RelD] at rv
        obtain ⟨a, xs, e3, t, rs⟩ := rv
        cases e3
        rw [intsOf_eq e2] at rs
        have := rs.ints
        subst this
        obtain ⟨_, its, vs, ht⟩ := I.hok _ _ t.2
        have hn0 : p.n0 ≤ s.heap.objs.size := Nat.le_of_lt I.lt
        refine wpAny_BinOp (wpAny_Tuple_spliced ?_)
        rw [he]
        refine Calls.spliced_cons (name_g (X := p.X A γs γH XNo) I hN hv hv0 (fun u ru => ?_) hd hcd)
        refine Calls.spliced_nil ⟨by show 1 ≤ sizeLine; decide, ?_⟩
        have I2 : Inv (p.X A γs γH XNo) pins σ H { s with heap := s.heap.push { cls := .type "tuple", data := .seq [u].toArray }, toks := s.toks } := I.kept (t' := s.toks) fun b o e => Heap.get?_push_of_some _ e
        have K2 : KpG s { s with heap := s.heap.push { cls := .type "tuple", data := .seq [u].toArray }, toks := s.toks } := KpG.push
        refine name_g (X := p.X A γs γH XNo) I2 hN2 hv2 hσ (fun u2 ru2 => ?_) hd2 hcd2
        cases ru2
        have ht2 : IsTup (s.heap.push { cls := .type "tuple", data := .seq [u].toArray }) a0 its.toArray := ht.keeps fun b o e => Heap.get?_push_of_some _ e
        have hlen := vs.length
        rw [List.length_map] at hlen
        have hz : 1 + its.length ≤ sizeLine := by
          have := lt_LIM hl
          omega
        have hz2 : (k :: ks').length ≤ sizeLine := by
          show ks'.length + 1 ≤ sizeLine
          omega
        refine HT.cat_tup (vs := [u]) (ws := its) (IsTup.new _ _) ht2 (by simp) (fun hw => ?_) (fun hw => ?_) hz
        · subst hw
          have hks : ks' = [] := List.eq_nil_of_length_eq_zero hlen
          subst hks
          exact ⟨⟨hz2, _, [u], rfl, hn0, IsTup.new _ _, .cons ru .nil⟩, I2, K2⟩
        · have I3 := I2.kept (t' := s.toks) (h' := (s.heap.push { cls := .type "tuple", data := .seq [u].toArray }).push { cls := .type "tuple", data := .seq ([u] ++ its).toArray }) fun b o e => Heap.get?_push_of_some _ e
          exact ⟨⟨hz2, _, [u] ++ its, rfl, Nat.le_trans hn0 K2.size, IsTup.new _ _, .cons ru vs⟩, I3, K2.trans (KpG.push (t := s.toks))⟩
      · cases hf
    · cases hf
  · cases hf
end
end VL
/-! generators: a generator def's promise by its body -/
namespace VL
open PySem PySem.Spec PyProof.Rows L2 GenW

/-- a generator that was just made -/
structure GMd (P : Program) (w : World) (base : Heap) (k : Nat) (outer : List Env) (H : Hp) (kss : List (List Int)) (s s' : Shared) (a : Addr) (go : Obj) (g : Nat) : Prop where
  lo : s.heap.objs.size ≤ a
  hi : a < s'.heap.objs.size
  gen : ∀ h : Heap, h.get? a = some go → h.IsGen a g
  at_ : s'.heap.get? a = some go
  gg : s.gens.size ≤ g
  gl : g < s'.gens.size
  gens : ∀ (i : Nat) (x : GenState), s.gens[i]? = some x → s'.gens[i]? = some x
  os : s'.os = s.os
  bare : AllBare s'.gens
  keep : ∀ b o, s.heap.get? b = some o → s'.heap.get? b = some o
  wake : ∀ (C : List Addr) (sc : Heap), sc.objs.size = s.heap.objs.size → (∀ b o, sc.get? b = some o → ∃ o', s.heap.get? b = some o') → (∀ b ∈ C, base.get? b = none ∧ H b = none ∧ b ∉ L2.frs outer ∧ (b < s.heap.objs.size ∨ s'.heap.objs.size ≤ b)) → ∃ p2 : GP, p2.P = P ∧ p2.w = w ∧ p2.outer = outer ∧ p2.C = C ∧ p2.g = g ∧ p2.pn = [(a, go)] ∧ p2.sc = sc ∧ p2.HC = H ∧ p2.base = base ∧
    ∀ A2, RoomG k A2 → A2.frames = some outer → Asl P w p2 A2 kss kss.length s'
structure GCall (P : Program) (w : World) (K : PySem.W.Frag) (mg : Str → Option Value) (base : Heap) (k : Nat) (f : Addr) (fd : FuncData) (ps : List Str) (out : List D → Option (List (List Int))) : Prop where
  run : ∀ (A : Around) (outer : List Env) (s : Shared) (H : Hp) (args : Args) (us : List Value) (vs : List V) (ds : List D) (kss : List (List Int)), RoomG k A → Env0 P w K mg base A outer s H → Tonly H → BindsTo s fd args (ps.zip us) → Vals vs us →
    RelDs ⟨K, mg⟩ Z0 H ds vs → pureDs ds = true → vs.length = ps.length → out ds = some kss →
    codeAny (model P w) A (.call (.ref f) args) (fun r s' => match r with | .ok (.ret u) => ∃ a go g, u = .ref a ∧ GMd P w base k outer H kss s s' a go g | _ => False) s
def mGen (N : Nat) (m : MY) : List D → Option (List (List Int)) := fun ds => match m (initE N ds) with
  | some (ys, _) => some ys
  | none => none
theorem pure_init {N : Nat} {ds : List D} (h : pureDs ds = true) : pureEnv (initE N ds) = true := by
  have all : ∀ ds : List D, pureDs ds = true → ∀ d ∈ ds, pureD d = true := by
    intro ds
    induction ds with
    | nil => intro _ d hd; cases hd
    | cons e es ih =>
      intro h d hd
      simp only [pureDs, Bool.and_eq_true] at h
      rcases List.mem_cons.mp hd with z | z
      · rw [z]; exact h.1
      · exact ih h.2 d z
  unfold pureEnv initE
  rw [List.all_eq_true]
  intro x hx
  rcases List.mem_append.mp hx with z | z
  · obtain ⟨d, hd, rfl⟩ := List.mem_map.mp z
    exact all ds h d hd
  · rw [(List.mem_replicate.mp z).2]
section
variable {P : Program} {w : World} {K : PySem.W.Frag} {mg : Str → Option Value} {base : Heap}
theorem gcall_of {x qual : Str} {params : Arguments} {body : List Stmt} {scope : Scope} {f : Addr} {fd : FuncData} {N ps : List Str} {k : Nat} {m : MY} (F : FunD K x qual params body scope [] [] f fd) (S : GScope N ps scope) (hcells : ∀ n, cellsFrom n scope.names [] = [])
    (hbody : ∀ (cdv : Value) (outer : List Env) (pn : List (Addr × Obj)) (C : List Addr) (g : Nat) (sc : Heap) (HC : Hp) (A : Around), RoomG k (A.deeper (envOfC qual scope sc.objs.size f cdv)) → GA ⟨P, w, K, mg, base, N, qual, scope, f, cdv, outer, pn, C, g, sc, HC⟩ A → GVs ⟨P, w, K, mg, base, N, qual, scope, f, cdv, outer, pn, C, g, sc, HC⟩ A body m) :
    GCall P w K mg base (k + 1) f fd ps (mGen N.length m) := by
  obtain ⟨oc, od, dV, kV, doc, pm, an, cdv, ct, osl, rfl, lk, hcd, hD, hK⟩ := F.ex
  refine ⟨fun A outer s H args us vs ds kss hr e0 hto hb r rd hpu hl hout => ?_⟩
  have KX : K.In s.heap := e0.mod.kin.keeps fun b o e => (e0.bs b o e).1
  have lim : s.heap.NoLimit := e0.mod.nolimit.keeps fun b o e => (e0.bs b o e).1
  have hkind : ∀ y ∈ ps.zip us, scope.names.lookup y.1 = some .local ∨ (scope.names.lookup y.1 = some .cell ∧ ((cellsFrom (s.heap.objs.size + 1) scope.names []).lookup y.1).isSome = true) := fun ⟨n, v⟩ hy => by
    rcases S.par n (List.of_mem_zip hy).1 with q | q
    · exact .inl q
    · exact .inr ⟨q, PySem.W.cellsFrom_some _ _ _ (.inl q)⟩
  refine codeAny_call_generator hr.r.depth (KX _ _ lk) rfl S.co S.gen rfl (PySem.W.codeRec_of KX hcd) (hb _ _ _ _ ?_)
  refine wpAny_newFunctionEnv_cells S.kind hkind fun env he s1 x => ?_
  subst he
  have lim1 : s1.heap.NoLimit := lim.keeps x.toInCall.keep
  refine ⟨lim1, ?_⟩
  obtain ⟨h1, tk, es1, hk1⟩ := x.done
  have os1 : s1.os = s.os := by rw [es1]
  have gen1 : s1.gens = s.gens := by rw [es1]
  have lt1 : s.heap.objs.size < s1.heap.objs.size := x.toInCall.ns.lt
  have kp1 : ∀ b o, s.heap.get? b = some o → s1.heap.get? b = some o := x.toInCall.keep
  have main : ∀ (go : Obj) (nm qn : Value) (tk2 : Nat), go.cls = .type "generator" → go.data = .fields #[.int s1.gens.size 0, nm, qn] → go.slots = #[] → (∀ h : Heap, (h.push go).get? h.objs.size = some go) →
      GMd P w base (k + 1) outer H kss s { s1 with gens := s1.gens.push (.fresh (.func body (envOfC qual scope s.heap.objs.size f cdv))), toks := tk2, heap := s1.heap.push go } s1.heap.objs.size go s1.gens.size := by
    intro go nm qn tk2 hgc hgd0 hgs hgp
    have hgen : ∀ h : Heap, h.get? s1.heap.objs.size = some go → h.IsGen s1.heap.objs.size s1.gens.size := fun h e => ⟨go, nm, qn, e, hgc, hgd0, hgs⟩
    have hpushed : (s1.heap.push go).get? s1.heap.objs.size = some go := hgp _
    have hbare : AllBare (s1.gens.push (.fresh (.func body (envOfC qual scope s.heap.objs.size f cdv)))) := AllBare.push (by rw [gen1]; exact e0.bare) rfl
    have hszp : (s1.heap.push go).objs.size = s1.heap.objs.size + 1 := Heap.size_push ..
    refine ⟨Nat.le_of_lt lt1, by show _ < (s1.heap.push go).objs.size; rw [hszp]; exact Nat.lt_succ_self _, hgen, hpushed, by rw [gen1]; exact Nat.le_refl _, by show _ < (s1.gens.push _).size; rw [Array.size_push]; exact Nat.lt_succ_self _, fun i y hi => ?_, os1, hbare, fun b o e => Heap.get?_push_of_some _ (kp1 b o e), fun C sc0 hsc hsc1 hC => ?_⟩
    · show (s1.gens.push _)[i]? = some y
      rw [gen1]
      have := (Array.getElem?_eq_some_iff.mp hi).1
      rw [Array.getElem?_push_lt this, ← hi, Array.getElem?_eq_getElem this]
    refine ⟨⟨P, w, K, mg, base, N, qual, scope, f, cdv, outer, [(s1.heap.objs.size, go)], C, s1.gens.size, sc0, H⟩, rfl, rfl, rfl, rfl, rfl, rfl, rfl, rfl, rfl, fun A2 hr2 hf2 => ?_⟩
    refine ⟨_, Array.getElem?_push_size .., rfl, fun s2 z => ⟨rfl, ?_⟩⟩
    -- the turn that begins it
    generalize hp : (⟨P, w, K, mg, base, N, qual, scope, f, cdv, outer, [(s1.heap.objs.size, go)], C, s1.gens.size, sc0, H⟩ : GP) = p
    have hp0 : p.n0 = s.heap.objs.size := by subst hp; exact hsc
    have hpe : p.env = envOfC qual scope s.heap.objs.size f cdv := by subst hp; show envOfC qual scope sc0.objs.size f cdv = _; rw [hsc]
    have e0w : Env0 P w K mg base A2 outer s H := ⟨hf2, e0.mod, e0.bs, e0.bsz, e0.funs, e0.frf, e0.hok, e0.bare⟩
    have I1 : Inv (gcxOf P w K mg base N qual scope f cdv A2 outer s H XNo []) [] (start N vs) H s1 := inv_startG S hr2.r.hd e0w hl r x
    have I2 : Inv (gcxOf P w K mg base N qual scope f cdv A2 outer s H XNo []) [] (start N vs) H { s1 with gens := s1.gens.push (.fresh (.func body (envOfC qual scope s.heap.objs.size f cdv))), toks := tk2, heap := s1.heap.push go } :=
      I1.call' (ch := []) rfl (Un.kept fun b o e => Heap.get?_push_of_some _ e) (I1.hok.kept fun b o e => Heap.get?_push_of_some _ e) hbare fun b z => by simp at z
    have hgd : ∀ v, go.data ≠ .cell v := fun v q => by rw [hgd0] at q; cases q
    have I3 : Inv (gcxOf P w K mg base N qual scope f cdv A2 outer s H XNo [(s1.heap.objs.size, go)]) [] (start N vs) H { s1 with gens := s1.gens.push (.fresh (.func body (envOfC qual scope s.heap.objs.size f cdv))), toks := tk2, heap := s1.heap.push go } := Inv.pinnedG I2 fun q hq => by
      rcases List.mem_append.mp hq with z | z
      · rw [List.mem_singleton.mp z]
        exact ⟨hpushed, I1.hok.fresh (Nat.le_refl _), Nat.ne_of_gt lt1, I1.nofs (Nat.le_refl _), hgd⟩
      · cases z
    have frLt : ∀ b ∈ L2.frs outer, b < s.heap.objs.size := fun b hb => by
      obtain ⟨_, o, ho, _⟩ := e0.funs.mem hb
      exact Heap.lt_size ho
    have cne : ∀ b ∈ C, b ≠ s.heap.objs.size := fun b hb e => by
      rcases (hC b hb).2.2.2 with z | z
      · rw [e] at z; exact Nat.lt_irrefl _ z
      · have z' : (s1.heap.push go).objs.size ≤ b := z
        rw [hszp, e] at z'
        omega
    have po : p.Ok := by
      subst hp
      refine ⟨fun b hb => (hC b hb).1, fun q hq hc => ?_, fun b hb => by show b ≠ sc0.objs.size; rw [hsc]; exact cne b hb, fun b hb => (hC b hb).2.2.1, hcells _, fun q hq => ?_⟩
      · rw [List.mem_singleton.mp hq] at hc
        rcases (hC _ hc).2.2.2 with z | z
        · exact absurd (Nat.lt_trans lt1 z) (Nat.lt_irrefl _)
        · have z' : (s1.heap.push go).objs.size ≤ s1.heap.objs.size := z
          rw [hszp] at z'
          omega
      · rw [List.mem_singleton.mp hq]
        refine ⟨by show sc0.objs.size ≤ s1.heap.objs.size; rw [hsc]; exact Nat.le_of_lt lt1, hgd, fun its n q => ?_⟩
        rw [hgd0] at q
        cases q
    have ga : GA p A2 := by
      subst hp
      exact ⟨po, hr2.r.hd, hf2, (hr2.r.deeper _).depth⟩
    have wd : WdG p [] H { s1 with gens := s1.gens.push (.fresh (.func body (envOfC qual scope s.heap.objs.size f cdv))), toks := tk2, heap := s1.heap.push go } s2 := by
      subst hp
      refine ⟨z.bare, fun b o hb e => z.keepB b o hb e, fun m hm => ?_, fun q hq e => ?_, fun b o hb e hd => z.frm b o hb e hd, fun b oc e => ?_, z.cs, hok_tk hto z.tk I3.hok, hto, fun b o e => (I3.bs b o e).2, e0.frf, ?_, fun q hq => ?_, fun b hb => (hC b hb).2.1, fun b o _ hn => hn⟩
      · obtain ⟨o, es, ep, ho, r1, r2⟩ := hm
        refine ⟨o, es, ep, z.keepY _ o (Nat.le_refl _) (fun hc => po.cl _ hc rfl) ⟨fun v q => ?_, fun its n q => ?_⟩ ho, r1, r2⟩
        · rw [r1] at q; cases q
        · rw [r1] at q; cases q
      · have hq' : q = (s1.heap.objs.size, go) := by simpa using hq
        subst hq'
        have pq := po.py _ (List.mem_singleton.mpr rfl)
        exact z.keepY _ go pq.1 (po.cp _ (List.mem_singleton.mpr rfl)) pq.2 e
      · obtain ⟨o', e1⟩ := hsc1 b oc e
        exact z.there b oc o' e (Heap.get?_push_of_some _ (kp1 b o' e1))
      · show H sc0.objs.size = none
        rw [hsc]
        exact I3.free
      · have hq' : q = (s1.heap.objs.size, go) := by simpa using hq
        subst hq'
        exact I1.hok.fresh (Nat.le_refl _)
    have I3' : Inv (p.X A2 s H XNo) [] (start N vs) H { s1 with gens := s1.gens.push (.fresh (.func body (envOfC qual scope s.heap.objs.size f cdv))), toks := tk2, heap := s1.heap.push go } := by
      subst hp
      show Inv (gcx P w K mg base N qual scope f cdv A2 outer sc0.objs.size s H XNo [(s1.heap.objs.size, go)]) [] _ H _
      rw [hsc]
      exact I3
    obtain ⟨γs', W', k', I'⟩ := rewake (E' := XNo) po I3' (by rw [hp0]) wd hr2.r.hd (by subst hp; exact hf2)
    have hG : GIv p A2 s2 [] (start N vs) H s2 := by
      refine ⟨fun q hq => (by cases hq), ?_, s2, γs', H, W', rn_of k' I', k', I'⟩
      subst hp
      show s1.gens.size < s2.gens.size
      have h1 : (s1.gens.push (.fresh (.func body (envOfC qual scope s.heap.objs.size f cdv)))).size ≤ s2.gens.size := z.gsz
      rw [Array.size_push] at h1
      omega
    have hm : ∃ ρ', m (initE N.length ds) = some (kss, ρ') := by
      unfold mGen at hout
      split at hout
      · rename_i ys ρ' e
        cases hout
        exact ⟨ρ', e⟩
      · cases hout
    obtain ⟨ρ', hm⟩ := hm
    have hbd : GVs p A2 body m := by
      subst hp
      exact hbody cdv outer _ C _ sc0 H A2 ⟨hr2.r.deeper _, hr2.g⟩ ga
    have en : EnvR p.cg Z0 H (start N vs) (initE N.length ds) := by
      subst hp
      exact envR_start rd
    show Seg (model P w) A2 (RV p) (YV p kss) kss.length s2 (.func body (envOfC qual scope s.heap.objs.size f cdv)) ((model P w).den (.func body (envOfC qual scope s.heap.objs.size f cdv))) [] s2
    refine seg_func ?_
    have hPw : p.P = P ∧ p.w = w ∧ p.env = envOfC qual scope s.heap.objs.size f cdv := ⟨by subst hp; rfl, by subst hp; rfl, hpe⟩
    have gcv : GCv p A2 (.func body (envOfC qual scope s.heap.objs.size f cdv)) [] id := ⟨by rw [hPw.2.2]; exact over_func, rfl, rfl, rfl⟩
    have fin := hbd kss [] [] kss kss.length s2 s2 [] (.func body (envOfC qual scope s.heap.objs.size f cdv)) [] (fun f => .pure (.done (.ret (match f with | .ret v => v | _ => .none)))) (fun e => (leaving (envOfC qual scope s.heap.objs.size f cdv) e).wrap (fun _ => .raise e) .raise id id) id id (start N vs) H (initE N.length ds) ρ' gcv hG en (pure_init hpu) hm (by simp) (by simp) (fun s₀' s' σ' H' ts hG' _ _ => seg_end (.ok (.ret .none)) (.inl ⟨.inl rfl, rfl, hG'.rn⟩))
    rw [hPw.1, hPw.2.1, hPw.2.2] at fin
    exact fin
  exact ⟨_, _, _, rfl, main _ _ _ _ rfl rfl rfl fun h => Heap.get?_push_size _ rfl⟩
end
end VL
/-! generators: a generator def called within a generator -/
namespace VL
open PySem PySem.Spec PyProof.Rows L2 GenW

/-- a heap where only some objects are left -/
theorem thin (h : Heap) (r : Addr → Prop) : ∃ h' : Heap, h'.objs.size = h.objs.size ∧ (∀ b o, h'.get? b = some o → h.get? b = some o ∧ r b) ∧ ∀ b o, h.get? b = some o → r b → h'.get? b = some o := by
  classical
  refine ⟨⟨h.objs.mapIdx fun i o => if r i then o else { o with data := .freed }, h.life⟩, by simp, fun b o e => ?_, fun b o e hr => ?_⟩
  · unfold Heap.get? at e
    simp only [Array.getElem?_mapIdx] at e
    cases q : h.objs[b]? with
    | none => rw [q] at e; cases e
    | some x =>
      rw [q] at e
      by_cases hr : r b
      · simp only [Option.map_some, if_pos hr] at e
        refine ⟨?_, hr⟩
        unfold Heap.get?
        simp only [q]
        exact e
      · simp only [Option.map_some, if_neg hr] at e
        cases e
  · unfold Heap.get? at e ⊢
    simp only [Array.getElem?_mapIdx]
    cases q : h.objs[b]? with
    | none => rw [q] at e; cases e
    | some x =>
      rw [q] at e
      simp only [Option.map_some, if_pos hr]
      exact e
def mGX (n : Nat) (out : List D → Option (List (List Int))) (ma : MA) : Ev → Option (List (List Int)) := fun ρ => match ma ρ [] with
  | .ok ds _ => if pureDs ds = true ∧ ds.length = n then out ds else none
  | _ => none
section
variable {p : GP} {A : Around} {W : WX} {fn : Str} {f : Addr} {fd : FuncData} {ps : List Str} {k : Nat} {out : List D → Option (List (List Int))} {e : Expr} {es : List Expr} {ma : MA} {px pos' : Pos}
theorem gex_call (ga : GA p A) (hG : ∀ γs γH, Gl (p.X A γs γH XNo) fn) (hm : p.mg fn = some (.ref f)) (hk : PySem.W.keepIn p.K (.ref f) = true) (hb : Binds p.K fd ps []) (F : GCall p.P p.w p.K p.mg p.base k f fd ps out) (hr : RoomG (k + 1) (A.deeper p.env)) (ha : ∀ γs γH, VA (p.X A γs γH XNo) W (e :: es) ma)
    (hdb : (fn == ("__debug__" : Str)) = false := by decide) (he : starEach (e :: es) p.env = (false, eval e p.env) :: starEach es p.env := by rfl) (hpl : (backTo pos' (starEach es p.env)).any (·.1) = false := by rfl) :
    GEx p A (.Call (.Name fn px) (e :: es) [] pos') (mGX ps.length out ma) := by
  intro s₀ s ip σ H ρ kss E hI en hp hm' hE
  unfold mGX at hm'
  split at hm'
  · rename_i ds st1 e1
    split at hm'
    · rename_i hc
      obtain ⟨hpu, hdl⟩ := hc
      obtain ⟨sm, γs, γH, Wp, r0, kw, I⟩ := id hI.at_
      refine wpAny_mono (Q := fun v s1 => ∃ p2 a2 go H', v = .ref a2 ∧ TS H H' ∧ GIv p A s₀ ip σ H' s1 ∧ EnvR p.cg Z0 H' σ ρ ∧ Slep p p2 A ip a2 go kss kss.length s1) (E := (p.X A γs γH XNo).xe) ?_ (fun _ _ h => h) fun x s' hx => hE γs γH x s' hx
      refine wpAny_Call_Name_kw (ld_glob (X := p.X A γs γH XNo) I (hG γs γH) hm ?_ hdb)
      refine PySem.W.callWith_K (h₀ := p.base) I.ok.mod.kin hk (wpAny_gsz hI.gsz (wpAny_mono ((ha γs γH).run pos' (Wp ++ ip) s σ H (fun vs H1 => TS H H1 ∧ RelDs p.cg Z0 (rst H1) ds vs) I ⟨Z0, [], ρ, sim0, en, postA e1 fun ι' H' ts => fun vs r => ⟨ts, rels_rst ds vs hpu r⟩⟩) (fun us s1 hs hz => ?_) fun x s' hx _ => hx)) he hpl
      obtain ⟨vs, H1, I1, rv, ts, rd⟩ := hs
      refine ⟨I1.kIn, ?_⟩
      have hI1 : GIv p A s₀ ip σ H1 s1 := ⟨hI.nc, hz, sm, γs, γH, Wp, r0, kw, I1⟩
      have hI1' := hI1.restrict ga
      have frLt := hI1.frLt
      obtain ⟨sm2, γs2, γH2, W2, r2, kw2, I2⟩ := id hI1'.at_
      have ts2 : TS H (rst H1) := ts.trans (ts_rst H1)
      have rd2 : RelDs p.cg Z0 (rst H1) ds vs := rd
      have hvl : vs.length = ps.length := by rw [rd2.len]; exact hdl
      have hbt := hb s1 us I2.kIn (by rw [List.append_nil, ← rv.length]; exact hvl)
      rw [List.append_nil] at hbt
      refine wpAny_call (codeAny_mono (F.run (A.deeper p.env) (p.env :: p.outer) s1 (rst H1) ⟨us, []⟩ us vs ds kss (hr.mono (Nat.le_succ k)) I2.env0 (rst_only H1) hbt rv rd2 hpu hvl hm') fun r s2 hq => ?_)
      cases r with
      | error e => exact hq.elim
      | ok fl =>
        cases fl with
        | next => exact hq.elim
        | brk => exact hq.elim
        | cont => exact hq.elim
        | ret u =>
          obtain ⟨a2, go, g2, rfl, md⟩ := hq
          have I3 : Inv (p.X A γs2 γH2 XNo) (W2 ++ ip) σ (rst H1) s2 := I2.call' (ch := []) md.os (Un.kept md.keep) (I2.hok.kept md.keep) md.bare fun b z => by simp at z
          have hI3 : GIv p A s₀ ip σ (rst H1) s2 := ⟨hI.nc, Nat.lt_trans (Nat.lt_of_lt_of_le hz md.gg) md.gl, sm2, γs2, γH2, W2, r2, kw2, I3⟩
          have cpin : ∀ b ∈ p.C, (rst H1) b = none ∧ b < s1.heap.objs.size := fun b hb => by
            obtain ⟨o, hm2, _⟩ := kw2.cw b hb
            obtain ⟨f1, f2, _⟩ := I2.pin (b, o) (List.mem_append_right _ (List.mem_append_left _ hm2))
            exact ⟨f2, Heap.lt_size f1⟩
          obtain ⟨scT, hT1, hT2, hT3⟩ := thin s1.heap fun b => (∃ oc, p.sc.get? b = some oc) ∨ (∃ ob, p.base.get? b = some ob) ∨ ∃ q ∈ p.pn ++ ip, q.1 = b
          obtain ⟨p2, h1, h2, h3, h4, h5, h6, h7, h8, h9, hw⟩ := md.wake p.C scT hT1 (fun b o e => ⟨o, (hT2 b o e).1⟩) fun b hb => by
            refine ⟨ga.ok.cb b hb, (cpin b hb).1, fun hf => ?_, .inl (cpin b hb).2⟩
            have hf' : b ∈ p.n0 :: L2.frs p.outer := hf
            rcases List.mem_cons.mp hf' with z | z
            · exact ga.ok.cl b hb z
            · exact ga.ok.cf b hb z
          have hpn0 : p2.n0 = s1.heap.objs.size := by show p2.sc.objs.size = _; rw [h7, hT1]
          refine ⟨p2, a2, go, rst H1, rfl, ts2, hI3, env_tups ts2 hp en, ⟨⟨h9, fun b o e => (hT2 b o (by rw [← h7]; exact e)).2, h3, h4, ?_, ?_, fun b o e => ?_, fun b o e hn => ?_, fun b o e => ?_, fun q hq => ?_, fun b hb => ?_⟩, h6, by rw [h5]; exact md.gen, md.at_, by rw [hpn0]; exact md.lo, ?_⟩⟩
          · rw [h5]; exact Nat.lt_of_lt_of_le hz md.gg
          · rw [hpn0]; exact I2.lt
          · rw [h7]
            obtain ⟨o', e'⟩ := hI1.rn.th b o e
            exact ⟨o', hT3 b o' e' (.inl ⟨o, e⟩)⟩
          · rw [h8]
            obtain ⟨o1, e1⟩ := kw2.th b o e
            exact I2.base.free b o1 (kw2.tr b o1 (Heap.lt_size e) e1) (kw2.fr b o e hn) (fun z => by cases z)
          · rw [h7, h8]
            obtain ⟨f1, f2⟩ := I2.bs b o e
            exact ⟨⟨o, hT3 b o f1 (.inr (.inl ⟨o, e⟩))⟩, f2⟩
          · rw [h7, h8]
            obtain ⟨f1, f2, _⟩ := I2.pin q (by
              rcases List.mem_append.mp hq with h | h
              · exact List.mem_append_left _ h
              · exact List.mem_append_right _ (List.mem_append_right _ h))
            exact ⟨⟨q.2, hT3 q.1 q.2 f1 (.inr (.inr ⟨q, hq, rfl⟩))⟩, f2⟩
          · rw [hpn0]; exact (cpin b hb).2
          · refine hw _ ⟨hr.r.in1, hr.g⟩ ?_
            exact Around.frames_deeper ga.fr
    · cases hm'
  · cases hm'
end
end VL
/-! generators: list(g) -/
namespace VL
open PySem PySem.Spec PyProof.Rows L2 GenW

/-- since the generator's call -/
structure Wq (outer : List Env) (H : Hp) (sc s : Shared) : Prop where
  os : s.os = sc.os
  bare : AllBare s.gens
  low : ∀ b o, sc.heap.get? b = some o → H b = none → b ∉ L2.frs outer → s.heap.get? b = some o
  slot : ∀ b o, b ∈ L2.frs outer → sc.heap.get? b = some o → ∃ sl, s.heap.get? b = some { o with slots := sl }
  tk : TK sc.heap s.heap
  th : ∀ b o, sc.heap.get? b = some o → ∃ o', s.heap.get? b = some o'
theorem Wq.keeps {outer : List Env} {H : Hp} {sc s s' : Shared} (x : Wq outer H sc s) (os : s'.os = s.os) (hb : AllBare s'.gens) (k : ∀ b o, s.heap.get? b = some o → s'.heap.get? b = some o) : Wq outer H sc s' :=
  ⟨os.trans x.os, hb, fun b o h1 h2 h3 => k b o (x.low b o h1 h2 h3), fun b o h1 h2 => let ⟨sl, e⟩ := x.slot b o h1 h2; ⟨sl, k b _ e⟩, x.tk.tr (TK.kept k), fun b o h => let ⟨o', e⟩ := x.th b o h; ⟨o', k b o' e⟩⟩
section
variable {P : Program} {w : World} {p0 : GP} {A : Around} {R : Result → Shared → Prop} {S a : Addr} {go : Obj} {kss : List (List Int)} {res : Value} {sc : Shared}
end
end VL
/-! generators: list(f(..)) by values -/
namespace VL
open PySem PySem.Spec PyProof.Rows L2 GenW

def mListG (n : Nat) (out : List D → Option (List (List Int))) (ma : MA) : ME := fun ρ s => (ma ρ s).bnd fun ds s1 => match out ds with
  | some kss => if pureDs ds = true ∧ ds.length = n ∧ kss.length ≤ LIM then .ok (.lst (kss.map tupI)) s1 else .bad
  | none => .bad
section
variable {X : Cx} {W : WX} {fn : Str} {f : Addr} {fd : FuncData} {ps : List Str} {k : Nat} {out : List D → Option (List (List Int))} {e : Expr} {es : List Expr} {ma : MA} {p px pos pos' : Pos}
end
end VL
/-! generator defs that may be called by their names -/
namespace VL
open PySem PySem.Spec PyProof.Rows L2 GenW

abbrev FGen := List D → Option (List (List Int))
structure GCl (P : Program) (w : World) (K : PySem.W.Frag) (mg : Str → Option Value) (base : Heap) (k : Nat) (x : Str) (n : Nat) (out : FGen) : Prop where
  ex : ∃ (f : Addr) (fd : FuncData) (ps : List Str), GCall P w K mg base k f fd ps out ∧ ps.length = n ∧ mg x = some (.ref f) ∧ PySem.W.keepIn K (.ref f) = true ∧ Binds K fd ps []
section
variable {P : Program} {w : World} {K : PySem.W.Frag} {mg : Str → Option Value} {base : Heap} {k n : Nat} {x : Str} {f : Addr} {fd : FuncData} {ps : List Str} {params : Arguments} {body : List Stmt} {scope : Scope} {out : FGen}
theorem gclG (F : FunD K x x params body scope [] [] f fd) (gf : mg x = some (.ref f)) (b : Binds K fd ps []) (h : GCall P w K mg base k f fd ps out) (hn : ps.length = n) : GCl P w K mg base k x n out :=
  ⟨f, fd, ps, h, hn, gf, F.kp, b⟩
theorem gcl0 (F : FunD K x x params body scope [] [] f fd) (gf : mg x = some (.ref f)) (b : Binds K fd ps []) (hn : ps.length = n) : GCl P w K mg base k x n (fun _ => none) :=
  ⟨f, fd, ps, ⟨fun A outer s H args us vs ds kss hr e0 hto hb r rd hpu hl hout => by cases hout⟩, hn, gf, F.kp, b⟩
end
section
variable {p : GP} {A : Around} {W : WX} {fn : Str} {k j n : Nat} {out : FGen} {e : Expr} {es : List Expr} {ma : MA} {px pos' : Pos}
theorem gex_callC (c : GCl p.P p.w p.K p.mg p.base k fn n out) (ga : GA p A) (hr : RoomG j (A.deeper p.env)) (hj : k + 1 ≤ j) (hG : ∀ γs γH, Gl (p.X A γs γH XNo) fn) (ha : ∀ γs γH, VA (p.X A γs γH XNo) W (e :: es) ma)
    (hdb : (fn == ("__debug__" : Str)) = false := by decide) (he : starEach (e :: es) p.env = (false, eval e p.env) :: starEach es p.env := by rfl) (hpl : (backTo pos' (starEach es p.env)).any (·.1) = false := by rfl) :
    GEx p A (.Call (.Name fn px) (e :: es) [] pos') (mGX n out ma) := by
  obtain ⟨f, fd, ps, F, hn, hm, hk, hb⟩ := c.ex
  subst hn
  exact gex_call ga hG hm hk hb F (hr.mono hj) ha hdb he hpl
theorem gq_of_name {it : Nat} {x : Str} {p1 : Pos} (hN : p.N[it]? = some x := by rfl) (hv : Vis p.env.scope x := by first | exact Or.inl rfl | exact Or.inr (Or.inl rfl) | exact Or.inr (Or.inr rfl)) (hd : (x == ("__debug__" : Str)) = false := by decide) (hcd : (x == ("__classdict__" : Str)) = false := by decide) :
    GQY p A it (.Name x p1) (fQVar it) := gqy_var hN hv hd hcd
theorem gq_of_cons {i jj : Nat} {x y : Str} {p1 p2 p3 pos : Pos} {x1 : Nat} (hN : p.N[i]? = some x := by rfl) (hv : Vis p.env.scope x := by first | exact Or.inl rfl | exact Or.inr (Or.inl rfl) | exact Or.inr (Or.inr rfl)) (hN2 : p.N[jj]? = some y := by rfl) (hv2 : Vis p.env.scope y := by first | exact Or.inl rfl | exact Or.inr (Or.inl rfl) | exact Or.inr (Or.inr rfl))
    (hd : (x == ("__debug__" : Str)) = false := by decide) (hcd : (x == ("__classdict__" : Str)) = false := by decide) (hd2 : (y == ("__debug__" : Str)) = false := by decide) (hcd2 : (y == ("__classdict__" : Str)) = false := by decide)
    (he : starEach [.Name x p1] p.env = (false, eval (.Name x p1) p.env) :: starEach [] p.env := by rfl) :
    GQY p A jj (.BinOp (.Tuple [.Name x p1] x1 p2) .Add (.Name y p3) pos) (fQCons i jj) := gqy_cons hN hv hN2 hv2 hd hcd hd2 hcd2 he
end
section
variable {X : Cx} {W : WX} {fn nm : Str} {k j n : Nat} {out : FGen} {e : Expr} {es : List Expr} {ma : MA} {p px pos pos' : Pos}
end
end VL
/-! sorted of a tuple of whole numbers -/
namespace VL
open PySem PySem.Spec PyProof.Rows L2

section
variable {prog : Program} {w : World} {A : Around} {E : Value → Shared → Prop} {s : Shared}
theorem collect_tup {l : Addr} {vs : List Value} {Q : List Value → Shared → Prop} (hl : IsTup s.heap l vs.toArray)
    (h : Q vs { s with heap := (s.heap.push (seqObj "list" #[] 0)).update s.heap.objs.size (Obj.mapSeq (· ++ vs.toArray)) }) (hsz : vs.length ≤ sizeLine) :
    wpAny (model prog w) A (collect (.ref l)) Q E s := by
  obtain ⟨o, ho, hc, n, hd⟩ := id hl
  unfold collect
  refine wpAny_bind (wpAny_runValue (codeAny_builtin entry_proto_collect' ?_))
  show wpAny _ _ (do again (.builtin "list.__iadd__" ⟨[← newList [], .ref l], []⟩)) _ _ s
  refine wpAny_bind (wpAny_newList (wpAny_pure ⟨Code.quiet_builtin _ (by decide +kernel), codeAny_builtin entry_list_iadd' ?_⟩))
  show wpAny _ _ (Builtin.List.listExtendWith (.ref s.heap.objs.size) (.ref l) (.ref s.heap.objs.size)) _ _ { s with heap := s.heap.push (seqObj "list" #[] 0) }
  unfold Builtin.List.listExtendWith
  have ho' : (s.heap.push (seqObj "list" #[] 0)).get? l = some o := Heap.get?_push_of_some _ ho
  refine wpAny_bind (wpAny_typeOf (T := "tuple") ⟨o, ho', hc⟩ ?_)
  have ht : (Value.type "tuple" == Value.type "tuple") = true := by rfl
  rw [if_pos (by rw [ht]; simp)]
  refine wpAny_bind (listItems_at ho' hd ?_)
  refine wpAny_bind (listItems_at (xs := #[]) (n := 0) (Heap.get?_push_size _ rfl) rfl ?_)
  rw [if_neg (by simp)]
  refine wpAny_bind (listUpdate_at (xs := #[]) (n := 0) (Heap.get?_push_size _ rfl) rfl ?_ (Nat.zero_le _) (by show (#[] ++ vs.toArray).size ≤ sizeLine + 1; simp only [Array.size_append, List.size_toArray, List.length_nil]; omega))
  refine wpAny_pure ?_
  show wpAny (model prog w) A (do
      let o ← load s.heap.objs.size
      match o.data with
      | .seq xs _ => pure xs.toList
      | _ => unsupported "internal:collect") Q E { s with heap := (s.heap.push (seqObj "list" #[] 0)).update s.heap.objs.size (Obj.mapSeq (· ++ vs.toArray)) }
  refine wpAny_bind (wpAny_load (get?_update_seq (Heap.get?_push_size _ rfl) _) ?_)
  show wpAny _ _ (pure ((#[] : Array Value) ++ vs.toArray).toList) Q E _
  rw [show ((#[] : Array Value) ++ vs.toArray).toList = vs by simp]
  exact wpAny_pure h
theorem sorted_ordT {l : Addr} {vs : List Value} {ltv : Value → Value → Bool} {Q : Value → Shared → Prop} (O : SrtO.Swo ltv) (hl : IsTup s.heap l vs.toArray) (hz : vs.length ≤ sizeLine)
    (hS : 2 ≤ vs.length → ∀ (h₁ : Heap) (a : Addr), h₁.get? a = some (seqObj "list" vs.toArray 0) → (∀ b o, s.heap.get? b = some o → b ≠ a ∧ h₁.get? b = some o) → SrtO.SortableO prog w A.in1.in1 { s with heap := h₁ } a vs ltv)
    (h : ∀ out : List Value, SrtO.Srtd ltv out → SrtO.Stb ltv out vs → Q (.ref (s.heap.objs.size + 1)) { s with heap := sortedAll s.heap vs out.toArray }) :
    wpAny (model prog w) A (call (.builtin "sorted") [.ref l]) Q E s := by
  refine Calls.call_function_entry kind_sorted plain_sorted entry_sorted (args_sorted1 _) ?_
  unfold Builtin.«sorted»
  refine wpAny_bind (m := checkCount "sorted" 1 1 _) (wpAny_pure ?_)
  refine wpAny_bind (collect_tup hl ?_ hz)
  refine wpAny_bind (wpAny_newList ?_ hz)
  have hsz : ((s.heap.push (seqObj "list" #[] 0)).update s.heap.objs.size (Obj.mapSeq (· ++ vs.toArray))).objs.size = s.heap.objs.size + 1 := by
    rw [Heap.size_update, size_push']
  have hoL : (((s.heap.push (seqObj "list" #[] 0)).update s.heap.objs.size (Obj.mapSeq (· ++ vs.toArray))).push (seqObj "list" vs.toArray 0)).get? (s.heap.objs.size + 1) = some (seqObj "list" vs.toArray 0) := by
    rw [← hsz]; exact Heap.get?_push_size _ rfl
  have keep : ∀ b o, s.heap.get? b = some o → b ≠ s.heap.objs.size + 1 ∧ (((s.heap.push (seqObj "list" #[] 0)).update s.heap.objs.size (Obj.mapSeq (· ++ vs.toArray))).push (seqObj "list" vs.toArray 0)).get? b = some o := fun b o q => by
    have hlt : b < s.heap.objs.size := Heap.lt_size q
    refine ⟨Nat.ne_of_lt (Nat.lt_succ_of_lt hlt), Heap.get?_push_of_some _ ?_⟩
    rw [Heap.get?_update_ne _ _ _ _ (Nat.ne_of_lt hlt)]
    exact Heap.get?_push_of_some _ q
  show wpAny _ _ _ _ _ { s with heap := ((s.heap.push (seqObj "list" #[] 0)).update s.heap.objs.size (Obj.mapSeq (· ++ vs.toArray))).push (seqObj "list" vs.toArray 0) }
  rw [hsz]
  refine wpAny_bind (wpAny_holding (wpAny_call_entry slot_list_sort ⟨_, hoL, rfl⟩ entry_list_sort (SrtO.list_sort_ord O hoL hz (fun h2 => hS h2 _ _ hoL keep) fun out hs hb => ⟨_, rfl, ?_⟩) (args_list_sort _)))
  exact wpAny_pure ⟨_, rfl, h out hs hb⟩
end
def rSortedTp (K : PySem.W.Frag) : List V → Hp → VK → Prop := fun xs H Q => ∃ (a : Addr) (ns : List Int), xs = [.ref a] ∧ SqT K H a (ns.map V.int) ∧ ∀ (ms : List Int) (p : Addr), ms.Perm ns → ms.Pairwise (· ≤ ·) → H p = none → Q (.ref p) (upd H p (.lst (ms.map V.int)))
theorem cr_sortedTp {X : Cx} : CallR X (.builtin "sorted") (rSortedTp X.K) := by
  intro pins s σ H vs us Q I r h
  obtain ⟨a, ns, rfl, hs, q⟩ := h
  obtain ⟨its, rv, hl, hz⟩ := I.tuple hs
  rw [Vals.ref1 r]
  have hi := rv.ints
  refine sorted_ordT SrtO.swo_int hl (by rw [← rv.length]; exact hz) (fun h2 h₁ a' _ _ => SrtO.ints_sortable hi h2) fun out h1 h2 => ?_
  obtain ⟨k1, k2, k3⟩ := SrtO.ints_out hi h1 h2
  obtain ⟨ep, he'⟩ := PyProof.Rows.sortedAll_at s.heap its out.toArray
  have hlen : ((out.map SrtO.iv).map V.int).length ≤ sizeLine := by
    rw [List.length_map, k2.length_eq]
    rw [List.length_map] at hz
    exact hz
  exact ⟨.ref _, upd H (s.heap.objs.size + 1) (.lst ((out.map SrtO.iv).map V.int)), I.laid (t' := s.toks) (fun _ _ => PyProof.Rows.sortedAll_old) (Nat.le_succ _) ⟨hlen, out, ep, vals_of_ints k1, he'⟩, rfl, q _ _ k2 k3 (I.hok.fresh (Nat.le_succ _))⟩
def fSortedTp : FA := fun xs s => match xs with
  | [.tup ds] => (match toI ds with
    | some ns => .ok (.lst ((isort ns).map .int)) s
    | none => .bad)
  | _ => .bad
theorem v_sortedTp {G : Cg} {W : WX} : CallV G W (rSortedTp G.K) fSortedTp := fun ι H s xs vs Q q r h => by
  unfold fSortedTp at h
  split at h
  · rename_i ds
    split at h
    · rename_i ns hn
      obtain ⟨v, rfl, r1⟩ := rel1 r
      obtain ⟨b, xs, rfl, t, k⟩ := relTup r1
      rw [toI_rel hn k] at t
      exact ⟨b, ns, rfl, t, fun ms p pm pw hp => by rw [isort_of pm pw]; exact h.newL q RelDs.ofInts hp⟩
    · exact h.elim
  · exact h.elim
end VL
/-! a def without parameters that gives a bool: what it makes is forgotten -/
namespace VL
open PySem PySem.Spec PyProof.Rows L2

def mUserB0 (m : FM) : ME := fun _ s => match m [] [] with
  | .ok (.bl b) _ => .ok (.bl b) s
  | _ => .bad
section
variable {X : Cx} {W : WX} {k j : Nat} {x : Str} {p pos : Pos} {m : FM}
end
end VL
/-! hash tables of sets with up to 2048 slots -/
namespace VL
open PySem PySem.Spec PyProof.Rows L2

/-! ### every slot is met -/
def Mk (m : Nat) : Prop := m = 7 ∨ m = 31 ∨ m = 127 ∨ m = 511 ∨ m = 2047
/-- the slots of a round, as the bits of a number -/
def orbB (m : Nat) : Nat → Nat → Nat → Nat
  | 0, _, acc => acc
  | f + 1, c, acc => orbB m f ((c * 5 + 1) % (m + 1)) (acc ||| 2 ^ c)
theorem orbB_bit (m : Nat) : ∀ (f a acc j : Nat), (orbB m f (lcgN m a) acc).testBit j = true → acc.testBit j = true ∨ ∃ b, b < f ∧ lcgN m (a + b) = j
  | 0, _, _, _, h => .inl h
  | f + 1, a, acc, j, h => by
    have e : orbB m (f + 1) (lcgN m a) acc = orbB m f (lcgN m (a + 1)) (acc ||| 2 ^ lcgN m a) := rfl
    rw [e] at h
    rcases orbB_bit m f (a + 1) _ j h with z | ⟨b, hb, e⟩
    · rw [Nat.testBit_or, Bool.or_eq_true] at z
      rcases z with z | z
      · exact .inl z
      · rw [Nat.testBit_two_pow, decide_eq_true_eq] at z
        exact .inr ⟨0, Nat.succ_pos _, z⟩
    · exact .inr ⟨b + 1, Nat.succ_lt_succ hb, by rw [← e, show a + (b + 1) = a + 1 + b by omega]⟩
/-- the round's last but for one, without depth -/
def lastB (m : Nat) : Nat → Nat → Nat
  | 0, c => c
  | f + 1, c => lastB m f ((c * 5 + 1) % (m + 1))
theorem lastB_eq (m : Nat) : ∀ f a, lastB m f (lcgN m a) = lcgN m (a + f)
  | 0, _ => rfl
  | f + 1, a => by
    show lastB m f (lcgN m (a + 1)) = _
    rw [lastB_eq m f (a + 1), show a + 1 + f = a + (f + 1) by omega]
def roundB (m : Nat) : Bool := (orbB m (m + 1) 0 0 == 2 ^ (m + 1) - 1) && (lastB m (m + 1) 0 == 0)
theorem mk_round {m : Nat} (hm : Mk m) : roundB m = true := by
  rcases hm with e | e | e | e | e <;> subst e <;> decide +kernel
theorem mk_met {m : Nat} (hm : Mk m) {j : Nat} (hj : j ≤ m) : ∃ b, b ≤ m ∧ lcgN m b = j := by
  have r := mk_round hm
  unfold roundB at r
  rw [Bool.and_eq_true, beq_iff_eq] at r
  have t : (orbB m (m + 1) (lcgN m 0) 0).testBit j = true := by
    show (orbB m (m + 1) 0 0).testBit j = true
    rw [r.1, Nat.testBit_two_pow_sub_one]
    exact decide_eq_true (Nat.lt_succ_of_le hj)
  rcases orbB_bit m (m + 1) 0 0 j t with z | ⟨b, hb, e⟩
  · rw [Nat.zero_testBit] at z
    cases z
  · exact ⟨b, Nat.le_of_lt_succ hb, by rw [← e, Nat.zero_add]⟩
theorem mk_again {m : Nat} (hm : Mk m) : ∀ k, lcgN m (m + 1 + k) = lcgN m k
  | 0 => by
    have r := mk_round hm
    unfold roundB at r
    rw [Bool.and_eq_true, beq_iff_eq, beq_iff_eq] at r
    have e := lastB_eq m (m + 1) 0
    rw [Nat.zero_add] at e
    exact e.symm.trans r.2
  | k + 1 => congrArg (fun x => (x * 5 + 1) % (m + 1)) (mk_again hm k)
theorem mk_from {m i j : Nat} (hm : Mk m) (hi : i ≤ m) (hj : j ≤ m) : ∃ k, k ≤ m ∧ lcgI m i k = j := by
  obtain ⟨a, ha, rfl⟩ := mk_met hm hi
  obtain ⟨b, hb, rfl⟩ := mk_met hm hj
  by_cases c : a ≤ b
  · exact ⟨b - a, Nat.le_trans (Nat.sub_le _ _) hb, by rw [lcgN_add, Nat.add_sub_cancel' c]⟩
  · refine ⟨m + 1 + b - a, by omega, ?_⟩
    rw [lcgN_add, Nat.add_sub_cancel' (by omega)]
    exact mk_again hm b
theorem mk_run {m : Nat} (hm : Mk m) (h : Int) {j : Nat} (hj : j ≤ m) : ∃ n, n ≤ m + 12 ∧ runI m (SetTable.bits h) n = j := by
  obtain ⟨k, h1, h2⟩ := mk_from hm (runI_le m (SetTable.bits h) 12) hj
  refine ⟨12 + k, by omega, ?_⟩
  rw [runI_tail (bits_lt h), h2]
theorem mk_way {m : Nat} (hm : Mk m) (h : Int) {j : Nat} (hj : j ≤ m) : ∃ k, k < 10 * SetTable.turns m ∧ way m h k = j := by
  obtain ⟨n, h1, h2⟩ := mk_run hm h hj
  obtain ⟨k, h3, h4⟩ := run_nth m (SetTable.bits h) n
  have e : way m h k = runI m (SetTable.bits h) n := congrArg SetTable.Probe.j h4
  refine ⟨k, ?_, e.trans h2⟩
  show k < 10 * (m + 15)
  omega
theorem way_in (m : Nat) (h : Int) (k : Nat) : way m h k ≤ m := by
  have h1 : SetTable.bits h % (m + 1) ≤ m := Nat.le_of_lt_succ (Nat.mod_lt _ (Nat.succ_pos _))
  have h2 := runEnd_bd h1
  have h3 : (runAt m (SetTable.bits h % (m + 1)) (SetTable.bits h)).j + (runAt m (SetTable.bits h % (m + 1)) (SetTable.bits h)).more ≤ m := by
    show SetTable.bits h % (m + 1) + (SetTable.runEnd m (SetTable.bits h % (m + 1)) - SetTable.bits h % (m + 1)) ≤ m
    omega
  exact Nat.le_trans (Nat.le_add_right _ _) (nth_in k _ h3)

/-! ### a table -/
/-- each of the hashes hs is found again from its own beginning -/
structure Tb (t : SetTable) (hs : List Int) : Prop where
  asc : Ris t.place.toList
  nod : t.dummies = #[]
  len : t.place.size = hs.length
  msk : Mk t.mask
  low : ∀ x ∈ t.place.toList, x ≤ t.mask
  find : ∀ (i : Nat) (h : Int) (j : Nat), hs[i]? = some h → t.place.toList[i]? = some j → ∃ k, way t.mask h k = j ∧ ∀ c, c < k → way t.mask h c ∈ t.place.toList
section
variable {t : SetTable} {hs : List Int} {h : Int} {K : Nat}
theorem Tb.stop (T : Tb t hs) (few : hs.length ≤ t.mask) (h : Int) : ∃ K, K < 10 * SetTable.turns t.mask ∧ way t.mask h K ∉ t.place.toList ∧ ∀ c, c < K → way t.mask h c ∈ t.place.toList := by
  obtain ⟨j, j1, j2⟩ := st_missing t.place.toList (t.mask + 1) (by
    have := T.len
    rw [Array.length_toList]
    omega)
  obtain ⟨k, k1, k2⟩ := mk_way T.msk h (Nat.le_of_lt_succ j1)
  obtain ⟨K, c1, c2, c3⟩ := st_least (p := fun c => way t.mask h c ∉ t.place.toList) k (fun z => j2 (k2 ▸ z))
  exact ⟨K, Nat.lt_of_le_of_lt c1 k1, c2, fun c hc => Classical.not_not.1 (c3 c hc)⟩
theorem Tb.ahead (T : Tb t hs) {i j : Nat} (no : way t.mask h K ∉ t.place.toList) (e1 : hs[i]? = some h) (e2 : t.place.toList[i]? = some j) : ∃ c, c < K ∧ way t.mask h c = j := by
  obtain ⟨k, k1, k2⟩ := T.find i h j e1 e2
  refine ⟨k, Classical.byContradiction fun z => no ?_, k1⟩
  rcases Nat.lt_or_eq_of_le (Nat.le_of_not_lt z) with z | z
  · exact k2 K z
  · rw [z, k1]
    exact List.mem_of_getElem? e2
theorem Tb.put (T : Tb t hs) (no : way t.mask h K ∉ t.place.toList) (bef : ∀ c, c < K → way t.mask h c ∈ t.place.toList) {p : Nat} (hp : p = SetTable.below t.place (way t.mask h K)) :
    p ≤ hs.length ∧ Tb (t.put (way t.mask h K)).1 (hs.take p ++ h :: hs.drop p) := by
  have wl := way_in t.mask h K
  generalize ej : way t.mask h K = j at no wl hp ⊢
  have cut := (below_cut T.asc j).1
  have lenP : t.place.toList.length = hs.length := by rw [Array.length_toList, T.len]
  have p1 : p ≤ hs.length := by rw [hp, ← T.len]; exact cut
  have p2 : p ≤ t.place.toList.length := by rw [lenP]; exact p1
  have new := put_place t j
  rw [← hp] at new
  have inc : ∀ x, x ∈ t.place.toList → x ∈ (t.put j).1.place.toList := fun x z => by rw [new]; exact mem_ins.2 (.inr z)
  refine ⟨p1, ⟨ris_insert T.asc fun z => no ?_, put_dm T.nod j, ?_, T.msk, fun x z => ?_, fun i g l q1 q2 => ?_⟩⟩
  · rw [← Array.getElem?_toList] at z
    exact List.mem_of_getElem? z
  · have q := congrArg List.length new
    rw [Array.length_toList, len_ins _ p2, lenP] at q
    rw [q, len_ins _ p1]
  · rw [new] at z
    rcases mem_ins.1 z with rfl | z
    · exact wl
    · exact T.low x z
  · rw [tins_get _ p1] at q1
    rw [new, tins_get _ p2] at q2
    have old : ∀ i', hs[i']? = some g → t.place.toList[i']? = some l → ∃ k, way (t.put j).1.mask g k = l ∧ ∀ c, c < k → way (t.put j).1.mask g c ∈ (t.put j).1.place.toList := fun i' z1 z2 => by
      obtain ⟨k, k1, k2⟩ := T.find i' g l z1 z2
      exact ⟨k, k1, fun c hc => inc _ (k2 c hc)⟩
    by_cases c1 : i < p
    · rw [if_pos c1] at q1 q2
      exact old i q1 q2
    · rw [if_neg c1] at q1 q2
      by_cases c2 : i = p
      · rw [if_pos c2] at q1 q2
        cases q1
        cases q2
        exact ⟨K, ej, fun c hc => inc _ (bef c hc)⟩
      · rw [if_neg c2] at q1 q2
        exact old _ q1 q2
end

/-! ### laid anew -/
end VL
/-! sets of tuples of ints, fewer than 1200: search, adding, set(xs) -/
namespace VL
open PySem PySem.Spec PyProof.Rows L2

/-! ### what a probe answers, by the steps of the way -/
abbrev prb (t : SetTable) (h : Int) (c : Nat) : SetTable.Probe := nth t.mask (runAt t.mask (SetTable.bits h % (t.mask + 1)) (SetTable.bits h)) c
section
variable {t : SetTable} {hs : List Int} {h : Int} {K c : Nat}
end

/-! ### the set at a: its members L, in the order of the table -/
structure SB (P : Program) (w : World) (h : Heap) (a : Addr) (L : List (Addr × List Int)) (es : Array (Int × Value)) (ep : Nat) (t : SetTable) : Prop where
  obj : ∃ o, h.get? a = some o ∧ o.ExactSet ∧ o.data = .set es ep t
  row : es.toList = rowsOf P w L
  tb : Tb t (L.map fun p => thash P w p.2)
  nod : (L.map (·.2)).Nodup
  tup : ∀ p ∈ L, L2.IsT P w h p.2 p.1
  pl : t.plain = true
  ld : w.params.followText "set-order" = true ∨ t.led = true
  room : L.length * 5 < t.mask * 3
  few : L.length < 1200
section
variable {P : Program} {w : World} {A : Around} {E : Value → Shared → Prop} {s : Shared} {a x : Addr} {k : List Int} {L : List (Addr × List Int)} {es : Array (Int × Value)} {ep : Nat} {t : SetTable}
theorem SB.at (R : SB P w s.heap a L es ep t) {i : Nat} {p : Addr × List Int} (h : L[i]? = some p) : es[i]? = some (thash P w p.2, Value.ref p.1) := by
  rw [← Array.getElem?_toList, R.row, rowsOf, List.getElem?_map, h]
  rfl
theorem SB.keep {h h' : Heap} (R : SB P w h a L es ep t) (ha : ∀ o, h.get? a = some o → h'.get? a = some o) (ht : ∀ p ∈ L, L2.IsT P w h' p.2 p.1) : SB P w h' a L es ep t :=
  { R with obj := let ⟨o, e, r⟩ := R.obj; ⟨o, ha o e, r⟩, tup := ht }
end
end VL
/-! set(xs), sorted(set(xs)): xs a list of fewer than 1200 tuples of ints -/
namespace VL
open PySem PySem.Spec PyProof.Rows L2

/-- the new set, before anything is put in -/
abbrev set0 (w : World) : Obj := { cls := .type "set", dict := none, data := .set #[] 0 (.fresh 0 0 (!w.params.followText "set-order")) }
section
variable {P : Program} {w : World} {A : Around} {E : Value → Shared → Prop} {s : Shared}
theorem SB.new {h : Heap} {a : Addr} (ho : h.get? a = some (set0 w)) : SB P w h a [] #[] 0 (.fresh 0 0 (!w.params.followText "set-order")) where
  obj := ⟨_, ho, ⟨rfl, rfl, rfl⟩, rfl⟩
  row := rfl
  tb := ⟨.nil, rfl, rfl, .inl rfl, nofun, fun i h j z => by cases z⟩
  nod := .nil
  tup := nofun
  pl := rfl
  ld := by
    cases e : w.params.followText "set-order" with
    | true => exact .inl rfl
    | false => exact .inr rfl
  room := by
    show 0 * 5 < 7 * 3
    decide
  few := by decide
/-- what a turn of the loop that fills it needs -/
structure Fil (P : Program) (w : World) (h0 : Heap) (S : Addr) (ks : List (Addr × List Int)) (i : Nat) (h : Heap) : Prop where
  old : ∀ b o, h0.get? b = some o → h.get? b = some o
  set : ∃ L es ep t, SB P w h S L es ep t ∧ Got ks i L
end
end VL
/-! sorted(set(xs)): xs a list of fewer than 1200 tuples of ints, none of them empty -/
namespace VL
open PySem PySem.Spec PyProof.Rows L2

section
variable {P : Program} {w : World} {A : Around} {E : Value → Shared → Prop} {s : Shared}
end
def tSrtSetT (K : PySem.W.Frag) (ta : TE) : TE := fun σ H Q => ta σ H fun x H1 => ∃ (l : Addr) (ks : List (Addr × List Int)), x = V.ref l ∧ SqL K H1 l (ks.map fun p => V.ref p.1) ∧ (∀ p ∈ ks, H1 p.1 = some (.tup (p.2.map V.int)) ∧ p.2 ≠ []) ∧ ks.length < 1200 ∧
  ∀ (L : List (Addr × List Int)) (q : Addr), H1 q = none → (∀ p ∈ L, p ∈ ks) → (∀ p ∈ ks, p.2 ∈ L.map (·.2)) → (L.map (·.2)).Nodup → L.Pairwise (fun p r => HT.lexLt r.2 p.2 = false) → Q (.ref q) (upd H1 q (.lst (L.map fun p => V.ref p.1)))
section
variable {X : Cx} {W : WX} {a : Expr} {m : ME} {p p2 q pos : Pos} {j : Nat}
end
/-! ### its mirror -/
def insT (k : List Int) : List (List Int) → List (List Int)
  | [] => [k]
  | x :: r => if k = x then x :: r else if HT.lexLt k x = true then k :: x :: r else x :: insT k r
def srtT (ls : List (List Int)) : List (List Int) := ls.foldr insT []
/-- rising, strictly -/
def Rise (l : List (List Int)) : Prop := l.Pairwise fun a b => HT.lexLt a b = true
theorem rise_uniq {a b : List (List Int)} (ha : Rise a) (hb : Rise b) (h : ∀ k, k ∈ a ↔ k ∈ b) : a = b := by
  have nd : ∀ {l : List (List Int)}, Rise l → l.Nodup := fun r => r.imp fun {x y} z e => by
    subst e
    rw [lexLt_self] at z
    cases z
  exact ((List.perm_ext_iff_of_nodup (nd ha) (nd hb)).2 h).eq_of_pairwise (fun x y _ _ z1 z2 => by rw [NtL.lex_asym _ _ z1] at z2; cases z2) ha hb
def mSrtSetT (ma : ME) : ME := fun ρ s => (ma ρ s).bnd fun d s1 => match (asL s1 d).bind toTs with
  | some ls => if ls.all (fun l => !l.isEmpty) = true ∧ ls.length < 1200 then .ok (.lst ((srtT ls).map fun l => .tup (l.map .int))) s1 else .bad
  | none => .bad
section
variable {X : Cx} {W : WX} {a : Expr} {m : ME} {p p2 q pos : Pos} {j : Nat}
end
end VL
/-! generators whose first turn raises; list(f(..)) of these -/
namespace VL
open PySem PySem.Spec PyProof.Rows L2 GenW

/-! ### statements that raise, within a generator's body -/
def DF : Ends := { nx := fun _ _ => False, rt := fun _ _ => False }
/-- the statements raise: nothing follows them but the exception -/
def GRs (X : Cx) (sts : List Stmt) (t : L2.TS) : Prop := ∀ (A : Around) (R : GenEnd) (Y : Protocol) (n : Nat) (s₀ s : Shared) (c : Code) (fs : List Frame) (K : Flow → Sem PySem.Fin) (J : Value → Sem PySem.Fin) (gd : Bool → Bool) (lv : List Value → List Value) (pins : List (Addr × Obj)) (σ : L2.St) (H : Hp),
  A.over c fs = X.A → Inv X pins σ H s → t DF σ H → (∀ e s', X.xe e s' → Seg (model X.prog X.w) A R Y n s₀ c (J e) fs s') → Seg (model X.prog X.w) A R Y n s₀ c ((execs sts X.env).wrap K J gd lv) fs s
/-! ### a generator that was just made and is going to raise -/
abbrev RX (P : Program) (w : World) (outer : List Env) (H : Hp) (s : Shared) (E : XK) (a : Addr) (g : Nat) : GenEnd := fun _ _ r s1 => ((r = .ok (.ret .none) ∨ r = .ok .next) ∧ False) ∨ ∃ e, r = .error e ∧ L2.CX P w outer H s E e s1 ∧ s1.heap.IsGen a g
structure GMx (P : Program) (w : World) (k : Nat) (outer : List Env) (H : Hp) (E : XK) (s s' : Shared) (a : Addr) (g : Nat) : Prop where
  lo : s.heap.objs.size ≤ a
  hi : a < s'.heap.objs.size
  gen : ∀ h : Heap, (∀ o, s'.heap.get? a = some o → h.get? a = some o) → h.IsGen a g
  os : s'.os = s.os
  bare : AllBare s'.gens
  keep : ∀ b o, s.heap.get? b = some o → s'.heap.get? b = some o
  wake : ∃ c, s'.gens[g]? = some (.fresh c) ∧ ∀ (A2 : Around) (s2 : Shared), RoomG k A2 → A2.frames = some outer → (∀ b o, s'.heap.get? b = some o → s2.heap.get? b = some o) → s2.os = s.os → AllBare s2.gens →
    Seg (model P w) A2 (RX P w outer H s E a g) (fun _ _ _ _ _ => False) 0 s2 c ((model P w).den c) [] s2
def spGX (G : Cg) (n : Nat) (m : FM) : List V → Hp → XK → Prop := fun vs H E => ∃ ι s ds, vs.length = n ∧ Sim G ι H s ∧ RelDs G ι H ds vs ∧ Post G (WD E) ι H (fun (_ : D) _ _ _ => False) (m ds s)
structure GCx (P : Program) (w : World) (K : PySem.W.Frag) (mg : Str → Option Value) (base : Heap) (k : Nat) (f : Addr) (fd : FuncData) (ps : List Str) (m : FM) : Prop where
  run : ∀ (A : Around) (outer : List Env) (s : Shared) (H : Hp) (args : Args) (us : List Value) (vs : List V) (E : XK), RoomG k A → Env0 P w K mg base A outer s H → BindsTo s fd args (ps.zip us) → Vals vs us → spGX ⟨K, mg⟩ ps.length m vs H E →
    codeAny (model P w) A (.call (.ref f) args) (fun r s' => match r with | .ok (.ret u) => ∃ a g, u = .ref a ∧ GMx P w k outer H E s s' a g | _ => False) s
/-- what a body that raises makes -/
def mFnX (N : Nat) (b : MS) : FM := fun ds s => match b (initE N ds) s with
  | .exn c fs _ s1 => .exn c fs [] s1
  | _ => .bad
section
variable {P : Program} {w : World} {K : PySem.W.Frag} {mg : Str → Option Value} {base : Heap}
end
/-! ### list(g) -/
end VL
/-! list(f(..)), f a generator def that may raise at its first turn -/
namespace VL
open PySem PySem.Spec PyProof.Rows L2 GenW

/-- classes that are no StopIteration -/
def NoSt (K : PySem.W.Frag) (mg : Str → Option Value) (tab : List Str) : Prop := ∀ c ∈ tab, ∀ C, mg c = some (.ref C) → PySem.W.subIn K (.ref C) (.type "StopIteration") = some false
def nsB (c : Str) (K : PySem.W.Frag) : Bool := decide (PySem.W.subIn K (.ref (He.ga K c)) (.type "StopIteration") = some false)
def exT (tab : List Str) : R VL.D → R VL.D
  | .exn c fs ρ s => if tab.contains c = true then .exn c fs ρ s else .bad
  | _ => .bad
def WS (K : PySem.W.Frag) (E : XK) : XK := fun c d H => E c d H ∧ PySem.W.subIn K c (.type "StopIteration") = some false
structure GClX (P : Program) (w : World) (K : PySem.W.Frag) (mg : Str → Option Value) (base : Heap) (k : Nat) (x : Str) (n : Nat) (out : FGen) (mx : FM) : Prop where
  ex : ∃ (f : Addr) (fd : FuncData) (ps : List Str), GCall P w K mg base k f fd ps out ∧ GCx P w K mg base k f fd ps mx ∧ ps.length = n ∧ mg x = some (.ref f) ∧ PySem.W.keepIn K (.ref f) = true ∧ Binds K fd ps []
section
variable {P : Program} {w : World} {K : PySem.W.Frag} {mg : Str → Option Value} {base : Heap} {k n : Nat} {x : Str} {f : Addr} {fd : FuncData} {ps : List Str} {params : Arguments} {body : List Stmt} {scope : Scope} {out : FGen} {mx : FM}
end
def mListGX (n : Nat) (out : FGen) (mx : FM) (tab : List Str) (ma : MA) : ME := fun ρ s => (ma ρ s).bnd fun ds s1 => match out ds with
  | some kss => if pureDs ds = true ∧ ds.length = n ∧ kss.length ≤ LIM then .ok (.lst (kss.map tupI)) s1 else .bad
  | none => if ds.length = n then exT tab (retag ρ (mx ds s1)) else .bad
section
variable {X : Cx} {W : WX} {fn nm : Str} {k j n : Nat} {out : FGen} {mx : FM} {tab : List Str} {e : Expr} {es : List Expr} {ma : MA} {p px pos pos' : Pos}
end
/-! what is said of TooMany, with a repr of its fields -/
def manyTS (x y : Int) : Str := "! " ++ ("TooMany " ++ (PyData.tuple [.int x, .int y]).shown)
def manyT : Str → List (Str × Int) → Option Str := fun c ks => match ks with
  | [(l, y), (m, x)] => if (decide (c = "TooMany") && (decide (l = "limit") && (decide (m = "amount") && (decide (0 ≤ x) && (decide (x < 100) && (decide (0 ≤ y) && decide (y < 100))))))) = true then some (manyTS x y) else none
  | _ => none
end VL
/-! err.f in a def that an except suite calls: the exception is a pin of the frame -/
namespace VL
open PySem PySem.Spec PyProof.Rows L2
section
variable {X : Cx} {W : WX} {a D dx : Addr} {oe : Obj}
end
end VL
/-! a run that wakes none of the generators that sleep leaves them as they are: it is shown on a state where they are parked (nobody could wake them) -/
namespace VL
open PySem PySem.Spec PyProof.Rows L2 GenW

/-- nobody can wake it; it looks the same -/
def pkS : GenState → GenState
  | .suspended _ l c p fs cl => .suspended (fun _ => .unsupported "parked") l c p fs cl
  | st => st
theorem pk_seen (st : GenState) : (pkS st).seen = st.seen := by cases st <;> rfl
theorem pk_bare (st : GenState) : (pkS st).bare = st.bare := by cases st <;> rfl
theorem no_run {M : Model} {Γ : PySem.Ctx} {p : Pos} {w : String} {fs : List Frame} {s s' : Shared} {e : End} (h : Runs M Γ p (.unsupported w) fs s e s') : False := by
  cases h with
  | segRet a b => cases a
  | segGen a b => cases a
  | segSuspOut h a => cases a
  | segSuspGen h a q b => cases a
abbrev Pkd := Nat → Option GenState
def unG (R : Pkd) (gs : Array GenState) : Array GenState := gs.mapIdx fun i x => (R i).getD x
abbrev unS (R : Pkd) (s : Shared) : Shared := { s with gens := unG R s.gens }
theorem unG_size (R : Pkd) (gs : Array GenState) : (unG R gs).size = gs.size := by simp [unG]
theorem unG_at (R : Pkd) (gs : Array GenState) (i : Nat) : (unG R gs)[i]? = (gs[i]?).map fun x => (R i).getD x := by
  simp [unG]
theorem unG_push {R : Pkd} {gs : Array GenState} {x : GenState} (h : R gs.size = none) : unG R (gs.push x) = (unG R gs).push x := by
  refine Array.ext_getElem? fun i => ?_
  rw [unG_at]
  rcases Nat.lt_trichotomy i gs.size with z | z | z
  · rw [Array.getElem?_push_lt z, Array.getElem?_push_lt (by rw [unG_size]; exact z)]
    have := unG_at R gs i
    rw [Array.getElem?_eq_getElem z, Array.getElem?_eq_getElem (by rw [unG_size]; exact z)] at this
    rw [← this]
  · subst z
    have e1 : (gs.push x)[gs.size]? = some x := by simp
    have e2 : ((unG R gs).push x)[gs.size]? = some x := by
      have := Array.getElem?_push_size (xs := unG R gs) (x := x)
      rw [unG_size] at this
      exact this
    rw [e1, e2]
    simp [h]
  · rw [Array.getElem?_eq_none (by rw [Array.size_push]; omega), Array.getElem?_eq_none (by rw [Array.size_push, unG_size]; omega)]
    rfl
theorem unG_set {R : Pkd} {gs : Array GenState} {g : Nat} {x : GenState} (h : R g = none) : unG R (gs.setIfInBounds g x) = (unG R gs).setIfInBounds g x := by
  refine Array.ext_getElem? fun i => ?_
  rw [unG_at]
  by_cases hi : g = i
  · subst hi
    by_cases hg : g < gs.size
    · rw [Array.getElem?_setIfInBounds_self_of_lt hg, Array.getElem?_setIfInBounds_self_of_lt (by rw [unG_size]; exact hg)]
      simp [h]
    · rw [Array.getElem?_eq_none (by simp; omega), Array.getElem?_eq_none (by simp [unG_size]; omega)]
      rfl
  · rw [Array.getElem?_setIfInBounds_ne hi, Array.getElem?_setIfInBounds_ne hi, unG_at]
theorem unS_set {R : Pkd} {s : Shared} {g : Nat} {x : GenState} (h : R g = none) : unS R (s.setGen g x) = (unS R s).setGen g x := by
  show ({ s with gens := unG R (s.gens.setIfInBounds g x) } : Shared) = { s with gens := (unG R s.gens).setIfInBounds g x }
  rw [unG_set h]
/-- those of R are parked; the others have plain frames -/
structure Pk (R : Pkd) (gs : Array GenState) : Prop where
  at_ : ∀ i st, R i = some st → gs[i]? = some (pkS st) ∧ isFr st = false
  cl : ∀ (i : Nat) k l c p fs b, R i = none → gs[i]? = some (.suspended k l c p fs b) → splitAtGen fs = none
theorem Pk.fresh {R : Pkd} {gs : Array GenState} (h : Pk R gs) {g : Nat} {c : Code} (e : gs[g]? = some (.fresh c)) : R g = none := by
  cases q : R g with
  | none => rfl
  | some st =>
    obtain ⟨e1, e2⟩ := h.at_ g st q
    rw [e] at e1
    cases st with
    | fresh c => cases e2
    | suspended k l c p fs b => simp [pkS] at e1
    | running => simp [pkS] at e1
    | finished => simp [pkS] at e1
theorem Pk.size {R : Pkd} {gs : Array GenState} (h : Pk R gs) : R gs.size = none := by
  cases q : R gs.size with
  | none => rfl
  | some st =>
    have := (h.at_ _ st q).1
    rw [Array.getElem?_eq_none (Nat.le_refl _)] at this
    cases this
theorem Pk.set {R : Pkd} {gs : Array GenState} (h : Pk R gs) {g : Nat} {x : GenState} (hg : R g = none) (hx : ∀ k l c p fs b, x = .suspended k l c p fs b → splitAtGen fs = none) : Pk R (gs.setIfInBounds g x) where
  at_ := fun i st e => by
    have hi : g ≠ i := fun z => by subst z; rw [hg] at e; cases e
    rw [Array.getElem?_setIfInBounds_ne hi]
    exact h.at_ i st e
  cl := fun i k l c p fs b e1 e2 => by
    by_cases hi : g = i
    · subst hi
      by_cases hl : g < gs.size
      · rw [Array.getElem?_setIfInBounds_self_of_lt hl] at e2
        cases e2
        exact hx _ _ _ _ _ _ rfl
      · rw [Array.getElem?_eq_none (by simp; omega)] at e2
        cases e2
    · rw [Array.getElem?_setIfInBounds_ne hi] at e2
      exact h.cl i k l c p fs b e1 e2
theorem Pk.push {R : Pkd} {gs : Array GenState} (h : Pk R gs) (c : Code) : Pk R (gs.push (.fresh c)) where
  at_ := fun i st e => by
    obtain ⟨e1, e2⟩ := h.at_ i st e
    have hl := (Array.getElem?_eq_some_iff.1 e1).1
    rw [Array.getElem?_push_lt hl, ← Array.getElem?_eq_getElem hl]
    exact ⟨e1, e2⟩
  cl := fun i k l c' p fs b e1 e2 => by
    rcases Nat.lt_trichotomy i gs.size with z | z | z
    · rw [Array.getElem?_push_lt z, ← Array.getElem?_eq_getElem z] at e2
      exact h.cl i k l c' p fs b e1 e2
    · subst z
      simp at e2
    · rw [Array.getElem?_eq_none (by rw [Array.size_push]; omega)] at e2
      cases e2
theorem split_app : ∀ {a b : List Frame}, splitAtGen a = none → splitAtGen b = none → splitAtGen (a ++ b) = none
  | [], b, _, h => h
  | .ret k h g l c p kp :: a, b, h1, h2 => by
    have h1' : (splitAtGen a).map (fun x => ((Frame.ret k h g l c p kp :: x.1), x.2.1, x.2.2)) = none := h1
    have h3 : splitAtGen a = none := by
      cases e : splitAtGen a with
      | none => rfl
      | some x => rw [e] at h1'; cases h1'
    show (splitAtGen (a ++ b)).map _ = none
    rw [split_app h3 h2]
    rfl
  | .gen .. :: a, b, h1, _ => by cases h1
theorem split_ret {k : Result → Sem PySem.Fin} {h : Option Value} {g : Bool} {l kp : List Value} {c : Code} {p : Pos} {fs : List Frame} : splitAtGen (.ret k h g l c p kp :: fs) = none ↔ splitAtGen fs = none := by
  have e : splitAtGen (.ret k h g l c p kp :: fs) = (splitAtGen fs).map (fun x => ((Frame.ret k h g l c p kp :: x.1), x.2.1, x.2.2)) := rfl
  rw [e]
  cases splitAtGen fs with
  | none => simp
  | some x => simp
theorem end_set {e : End} (h : ∀ v g l k c p fs, e = .susp v g l k c p fs → splitAtGen fs = none) : ∀ k l c p fs b, e.genState = .suspended k l c p fs b → splitAtGen fs = none := by
  intro k l c p fs b z
  cases e with
  | ret r => cases z
  | susp v g l2 k2 c2 p2 fs2 =>
    cases z
    exact h _ _ _ _ _ _ _ rfl
/-- the run of the parked state is one of the real state -/
theorem runs_un {M : Model} {Γ : PySem.Ctx} {p : Pos} {t : Sem PySem.Fin} {fs : List Frame} {s s' : Shared} {e : End} (h : Runs M Γ p t fs s e s') : splitAtGen fs = none → ∀ R, Pk R s.gens →
    Runs M Γ p t fs (unS R s) e (unS R s') ∧ Pk R s'.gens ∧ ∀ v g l k c p fs', e = .susp v g l k c p fs' → splitAtGen fs' = none := by
  induction h with
  | done => exact fun _ R hp => ⟨.done, hp, fun _ _ _ _ _ _ _ z => nomatch z⟩
  | raise => exact fun _ R hp => ⟨.raise, hp, fun _ _ _ _ _ _ _ z => nomatch z⟩
  | again q _ ih => exact fun hs R hp => let ⟨a, b, c⟩ := ih hs R hp; ⟨.again q a, b, c⟩
  | rule _ ih => exact fun hs R hp => let ⟨a, b, c⟩ := ih hs R hp; ⟨.rule a, b, c⟩
  | «at» _ ih => exact fun hs R hp => let ⟨a, b, c⟩ := ih hs R hp; ⟨.at a, b, c⟩
  | load q _ ih => exact fun hs R hp => let ⟨a, b, c⟩ := ih hs R hp; ⟨.load q a, b, c⟩
  | update q _ ih => exact fun hs R hp => let ⟨a, b, c⟩ := ih hs R hp; ⟨.update q a, b, c⟩
  | loadIfAlive _ ih => exact fun hs R hp => let ⟨a, b, c⟩ := ih hs R hp; ⟨.loadIfAlive a, b, c⟩
  | point _ ih => exact fun hs R hp => let ⟨a, b, c⟩ := ih hs R hp; ⟨.point a, b, c⟩
  | alloc _ ih => exact fun hs R hp => let ⟨a, b, c⟩ := ih hs R hp; ⟨.alloc a, b, c⟩
  | fresh _ ih => exact fun hs R hp => let ⟨a, b, c⟩ := ih hs R hp; ⟨.fresh a, b, c⟩
  | ask _ ih => exact fun hs R hp => let ⟨a, b, c⟩ := ih hs R hp; ⟨.ask a, b, c⟩
  | choose q _ ih => exact fun hs R hp => let ⟨a, b, c⟩ := ih hs R hp; ⟨.choose q a, b, c⟩
  | os _ ih => exact fun hs R hp => let ⟨a, b, c⟩ := ih hs R hp; ⟨.os a, b, c⟩
  | handled _ ih => exact fun hs R hp => let ⟨a, b, c⟩ := ih hs R hp; ⟨.handled a, b, c⟩
  | stack _ ih => exact fun hs R hp => let ⟨a, b, c⟩ := ih hs R hp; ⟨.stack a, b, c⟩
  | thread _ ih => exact fun hs R hp => let ⟨a, b, c⟩ := ih hs R hp; ⟨.thread a, b, c⟩
  | @genState g st Γ p k s e s' q _ ih =>
    intro hs R hp
    obtain ⟨a, b, c⟩ := ih hs R hp
    have e1 : (unS R s).gens[g]? = some ((R g).getD st) := by
      show (unG R s.gens)[g]? = _
      rw [unG_at, q]
      rfl
    have e2 : ((R g).getD st).seen = st.seen := by
      cases z : R g with
      | none => rfl
      | some st2 =>
        have := (hp.at_ g st2 z).1
        rw [q] at this
        cases this
        exact (pk_seen st2).symm
    exact ⟨.genState e1 (by rw [e2]; exact a), b, c⟩
  | @newGen Γ p k s e s' cc _ ih =>
    intro hs R hp
    obtain ⟨a, b, c⟩ := ih hs R (hp.push _)
    refine ⟨.newGen ?_, b, c⟩
    have e1 : unS R { s with gens := s.gens.push (.fresh cc) } = { unS R s with gens := (unS R s).gens.push (.fresh cc) } := by
      show ({ s with gens := unG R (s.gens.push (.fresh cc)) } : Shared) = { s with gens := (unG R s.gens).push (.fresh cc) }
      rw [unG_push hp.size]
    rw [e1] at a
    have e2 : (unS R s).gens.size = s.gens.size := unG_size R s.gens
    rw [e2]
    exact a
  | call _ _ ih1 ih2 =>
    intro hs R hp
    obtain ⟨a, b, c⟩ := ih1 rfl R hp
    obtain ⟨a2, b2, c2⟩ := ih2 hs R b
    exact ⟨.call a a2, b2, c2⟩
  | callSusp _ ih1 =>
    intro hs R hp
    obtain ⟨a, b, c⟩ := ih1 rfl R hp
    refine ⟨.callSusp a, b, fun v g l k c1 p1 fs' z => ?_⟩
    cases z
    exact split_app (c _ _ _ _ _ _ _ rfl) (split_ret.2 rfl)
  | yield => exact fun hs R hp => ⟨.yield, hp, fun v g l k c p fs' z => by cases z; rfl⟩
  | @resumeFresh Γ p g l k s c e₁ s₁ e s' q _ qt _ ih1 ih2 =>
    intro hs R hp
    have hg := hp.fresh q
    obtain ⟨a, b, c⟩ := ih1 rfl R (hp.set hg fun _ _ _ _ _ _ z => nomatch z)
    obtain ⟨a2, b2, c2⟩ := ih2 hs R (b.set hg (end_set c))
    rw [unS_set hg] at a a2
    refine ⟨.resumeFresh ?_ a qt a2, b2, c2⟩
    show (unG R s.gens)[g]? = _
    rw [unG_at, q]
    simp [hg]
  | @resumeSuspended Γ p g r l k s k₀ l₀ c₀ p₀ fs cl e₁ s₁ e s' q r1 qt _ ih1 ih2 =>
    intro hs R hp
    cases hg : R g with
    | some st =>
      have := (hp.at_ g st hg).1
      rw [q] at this
      cases st with
      | suspended k2 l2 c2 p2 fs2 b2 =>
        simp only [pkS, Option.some.injEq, GenState.suspended.injEq] at this
        obtain ⟨rfl, _⟩ := this
        exact (no_run r1).elim
      | fresh c => simp [pkS] at this
      | running => simp [pkS] at this
      | finished => simp [pkS] at this
    | none =>
      obtain ⟨a, b, c⟩ := ih1 (hp.cl g _ _ _ _ _ _ hg q) R (hp.set hg fun _ _ _ _ _ _ z => nomatch z)
      obtain ⟨a2, b2, c2⟩ := ih2 hs R (b.set hg (end_set c))
      rw [unS_set hg] at a a2
      refine ⟨.resumeSuspended (cl := cl) (l₀ := l₀) ?_ a qt a2, b2, c2⟩
      show (unG R s.gens)[g]? = _
      rw [unG_at, q]
      simp [hg]
  | @resumeJustStarted g v Γ p k s e s' l c q hv _ ih =>
    intro hs R hp
    obtain ⟨a, b, c2⟩ := ih hs R hp
    have hg := hp.fresh q
    refine ⟨.resumeJustStarted (c := c) ?_ hv a, b, c2⟩
    show (unG R s.gens)[g]? = _
    rw [unG_at, q]
    simp [hg]
  | @resumeThrowFresh g Γ p k e s' x l s c q _ ih =>
    intro hs R hp
    have hg := hp.fresh q
    obtain ⟨a, b, c2⟩ := ih hs R (hp.set hg fun _ _ _ _ _ _ z => nomatch z)
    rw [unS_set hg] at a
    refine ⟨.resumeThrowFresh (c := c) ?_ a, b, c2⟩
    show (unG R s.gens)[g]? = _
    rw [unG_at, q]
    simp [hg]
  | @resumeRunning g Γ p k s e s' r l q _ ih =>
    intro hs R hp
    obtain ⟨a, b, c2⟩ := ih hs R hp
    refine ⟨.resumeRunning ?_ a, b, c2⟩
    show (unG R s.gens)[g]? = _
    rw [unG_at, q]
    cases hg : R g with
    | none => rfl
    | some st =>
      have := (hp.at_ g st hg).1
      rw [q] at this
      cases st with
      | running => rfl
      | suspended k2 l2 c2 p2 fs2 b2 => simp [pkS] at this
      | fresh c => simp [pkS] at this
      | finished => simp [pkS] at this
  | @resumeFinished g Γ p k s e s' r l q _ ih =>
    intro hs R hp
    obtain ⟨a, b, c2⟩ := ih hs R hp
    refine ⟨.resumeFinished ?_ a, b, c2⟩
    show (unG R s.gens)[g]? = _
    rw [unG_at, q]
    cases hg : R g with
    | none => rfl
    | some st =>
      have := (hp.at_ g st hg).1
      rw [q] at this
      cases st with
      | finished => rfl
      | suspended k2 l2 c2 p2 fs2 b2 => simp [pkS] at this
      | fresh c => simp [pkS] at this
      | running => simp [pkS] at this
  | segRet _ _ ih1 ih2 =>
    intro hs R hp
    obtain ⟨a, b, c⟩ := ih1 rfl R hp
    obtain ⟨a2, b2, c2⟩ := ih2 (split_ret.1 hs) R b
    exact ⟨.segRet a a2, b2, c2⟩
  | segGen _ _ ih1 ih2 => exact fun hs => nomatch hs
  | segSuspOut h _ ih =>
    intro hs R hp
    obtain ⟨a, b, c⟩ := ih rfl R hp
    refine ⟨.segSuspOut h a, b, fun v g l k c1 p1 fs' z => ?_⟩
    cases z
    exact split_app (c _ _ _ _ _ _ _ rfl) hs
  | segSuspGen h _ _ _ ih1 ih2 =>
    intro hs
    rw [hs] at h
    cases h
end VL
/-! a tree that runs on the parked state runs on the real one; objects that are not there do not come -/
namespace VL
open PySem PySem.Spec PyProof.Rows L2 GenW

theorem returns_un {M : Model} {Γ : PySem.Ctx} {p : Pos} {s s' : Shared} {r : Result} (h : Returns M Γ p s r s') {R : Pkd} (hp : Pk R s.gens) : Returns M Γ p (unS R s) r (unS R s') ∧ Pk R s'.gens :=
  let ⟨a, b, _⟩ := runs_un h rfl R hp
  ⟨a, b⟩
theorem wakes_un {M : Model} {Γ : PySem.Ctx} {p : Pos} {g : Nat} {r : Resume} {s s' : Shared} {res : GenResult} (h : Wakes M Γ p g r s res s') {R : Pkd} (hp : Pk R s.gens) : Wakes M Γ p g r (unS R s) res (unS R s') ∧ Pk R s'.gens := by
  have at_ : ∀ {x : GenState}, s.gens[g]? = some x → R g = none → (unS R s).gens[g]? = some x := fun {x} e hg => by
    show (unG R s.gens)[g]? = _
    rw [unG_at, e]
    simp [hg]
  unfold Wakes at h
  split at h
  · exact h.elim
  · rename_i c hc
    have hg := hp.fresh hc
    have e1 := at_ hc hg
    split at h
    · obtain ⟨e₁, s₁, hr, hq, rfl, rfl⟩ := h
      obtain ⟨a, b, d⟩ := runs_un hr rfl R (hp.set hg fun _ _ _ _ _ _ z => nomatch z)
      rw [unS_set hg] at a
      refine ⟨?_, b.set hg (end_set d)⟩
      unfold Wakes
      rw [e1]
      exact ⟨e₁, _, a, hq, rfl, unS_set hg⟩
    · obtain ⟨rfl, rfl⟩ := h
      rename_i hv
      exact ⟨Sem.wakes_justStarted M Γ e1 hv, hp⟩
    · obtain ⟨rfl, rfl⟩ := h
      refine ⟨?_, hp.set hg fun _ _ _ _ _ _ z => nomatch z⟩
      unfold Wakes
      rw [e1]
      exact ⟨rfl, unS_set hg⟩
  · rename_i k₀ l₀ c₀ p₀ fs cl hc
    cases hg : R g with
    | some st =>
      have := (hp.at_ g st hg).1
      rw [hc] at this
      obtain ⟨e₁, s₁, hr, _⟩ := h
      cases st with
      | suspended k2 l2 c2 p2 fs2 b2 =>
        simp only [pkS, Option.some.injEq, GenState.suspended.injEq] at this
        obtain ⟨rfl, _⟩ := this
        exact (no_run hr).elim
      | fresh c => simp [pkS] at this
      | running => simp [pkS] at this
      | finished => simp [pkS] at this
    | none =>
      obtain ⟨e₁, s₁, hr, hq, rfl, rfl⟩ := h
      obtain ⟨a, b, d⟩ := runs_un hr (hp.cl g _ _ _ _ _ _ hg hc) R (hp.set hg fun _ _ _ _ _ _ z => nomatch z)
      rw [unS_set hg] at a
      refine ⟨?_, b.set hg (end_set d)⟩
      unfold Wakes
      rw [at_ hc hg]
      exact ⟨e₁, _, a, hq, rfl, unS_set hg⟩
  · rename_i hc
    obtain ⟨rfl, rfl⟩ := h
    refine ⟨?_, hp⟩
    have e1 : (unS R s').gens[g]? = some .running := by
      show (unG R s'.gens)[g]? = _
      rw [unG_at, hc]
      cases hg : R g with
      | none => rfl
      | some st =>
        have := (hp.at_ g st hg).1
        rw [hc] at this
        cases st with
        | running => rfl
        | suspended k2 l2 c2 p2 fs2 b2 => simp [pkS] at this
        | fresh c => simp [pkS] at this
        | finished => simp [pkS] at this
    unfold Wakes
    rw [e1]
    exact ⟨rfl, rfl⟩
  · rename_i hc
    obtain ⟨rfl, rfl⟩ := h
    refine ⟨?_, hp⟩
    have e1 : (unS R s').gens[g]? = some .finished := by
      show (unG R s'.gens)[g]? = _
      rw [unG_at, hc]
      cases hg : R g with
      | none => rfl
      | some st =>
        have := (hp.at_ g st hg).1
        rw [hc] at this
        cases st with
        | finished => rfl
        | suspended k2 l2 c2 p2 fs2 b2 => simp [pkS] at this
        | fresh c => simp [pkS] at this
        | running => simp [pkS] at this
    unfold Wakes
    rw [e1]
    exact ⟨rfl, rfl⟩
theorem wp_un {α : Type} (M : Model) (Γ : PySem.Ctx) (R : Pkd) (t : Sem α) : ∀ (Q : α → Pos → Shared → Prop) (E : Value → Pos → Shared → Prop) (p : Pos) (s : Shared), Pk R s.gens → Sem.wp M Γ t Q E p s →
    Sem.wp M Γ t (fun a p' s' => ∃ s2, s' = unS R s2 ∧ Pk R s2.gens ∧ Q a p' s2) (fun e p' s' => ∃ s2, s' = unS R s2 ∧ Pk R s2.gens ∧ E e p' s2) p (unS R s) := by
  induction t with
  | pure a => intro Q E p s hn h; exact ⟨s, rfl, hn, h⟩
  | raise e => intro Q E p s hn h; exact ⟨s, rfl, hn, h⟩
  | unsupported _ => intro Q E p s _ h; exact h
  | finish _ => intro Q E p s _ h; exact h
  | rule _ k ih => intro Q E p s hn h; exact ih () Q E p s hn h
  | «at» p' k ih => intro Q E p s hn h; exact ih () Q E p' s hn h
  | load a _ k ih => intro Q E p s hn h; obtain ⟨o, ho, h⟩ := h; exact ⟨o, ho, ih o Q E p s hn h⟩
  | update a _ f k ih => intro Q E p s hn h; exact ⟨h.1, ih () Q E p { s with heap := s.heap.update a f } hn h.2⟩
  | loadIfAlive a k ih => intro Q E p s hn h; exact ih _ Q E p s hn h
  | point _ k ih => intro Q E p s hn h; exact ih () Q E p s hn h
  | register _ _ => intro Q E p s _ h; exact h
  | alloc o k ih => intro Q E p s hn h; exact ih _ Q E p { s with heap := s.heap.push o } hn h
  | fresh k ih => intro Q E p s hn h; exact ih _ Q E p { s with toks := s.toks + 1 } hn h
  | ask k ih => intro Q E p s hn h; exact ih _ Q E p s hn h
  | choose src m k ih => intro Q E p s hn h; exact ⟨h.1, ih _ Q E p { s with drawn := s.drawn.bump src } hn h.2⟩
  | os q _ k ih => intro Q E p s hn h; exact ih _ Q E p { s with os := (Os.step s.os q).1 } hn h
  | call c hd _ _ k ih =>
    intro Q E p s hn h
    obtain ⟨r, s', hr, h⟩ := h
    obtain ⟨a, b⟩ := returns_un hr hn
    exact ⟨r, _, a, ih r Q E p s' b h⟩
  | handled own k ih => intro Q E p s hn h; exact ih _ Q E p s hn h
  | genState g k ih =>
    intro Q E p s hn h
    obtain ⟨st, hs, h⟩ := h
    refine ⟨(R g).getD st, ?_, ?_⟩
    · show (unG R s.gens)[g]? = _
      rw [unG_at, hs]
      rfl
    · have e2 : ((R g).getD st).seen = st.seen := by
        cases z : R g with
        | none => rfl
        | some st2 =>
          have := (hn.at_ g st2 z).1
          rw [hs] at this
          cases this
          exact (pk_seen st2).symm
      rw [e2]
      exact ih _ Q E p s hn h
  | newGen c k ih =>
    intro Q E p s hn h
    have q := ih _ Q E p { s with gens := s.gens.push (.fresh c) } (hn.push c) h
    have e1 : unS R { s with gens := s.gens.push (.fresh c) } = { unS R s with gens := (unS R s).gens.push (.fresh c) } := by
      show ({ s with gens := unG R (s.gens.push (.fresh c)) } : Shared) = { s with gens := (unG R s.gens).push (.fresh c) }
      rw [unG_push hn.size]
    rw [e1] at q
    show Sem.wp M Γ (k (unS R s).gens.size) _ _ p _
    rw [show (unS R s).gens.size = s.gens.size from unG_size R s.gens]
    exact q
  | resume g r _ k ih =>
    intro Q E p s hn h
    obtain ⟨res, s', hw, h⟩ := h
    obtain ⟨a, b⟩ := wakes_un hw hn
    exact ⟨res, _, a, ih res Q E p s' b h⟩
  | yield _ _ _ _ => intro Q E p s _ h; exact h
  | stack k ih => intro Q E p s hn h; exact ih _ Q E p s hn h
  | fork _ _ => intro Q E p s _ h; exact h
  | thread k ih => intro Q E p s hn h; exact ih _ Q E p s hn h
  | await _ _ _ _ _ => intro Q E p s _ h; exact h
theorem wpAny_un {α : Type} {M : Model} {A : Around} {s : Shared} {t : Sem α} {Q : α → Shared → Prop} {E : Value → Shared → Prop} {R : Pkd} (hp : Pk R s.gens) (h : wpAny M A t Q E s) :
    wpAny M A t (fun a s' => ∃ s2, s' = unS R s2 ∧ Pk R s2.gens ∧ Q a s2) (fun e s' => ∃ s2, s' = unS R s2 ∧ Pk R s2.gens ∧ E e s2) (unS R s) := fun Γ p hΓ => wp_un M Γ R t _ _ p s hp (h Γ p hΓ)
/-! ### all that sleep, parked -/
def allR (gs : Array GenState) : Pkd := fun i => match gs[i]? with
  | some st => if isFr st = true then none else some st
  | none => none
abbrev parkS (s : Shared) : Shared := { s with gens := s.gens.map pkS }
theorem pk_park (s : Shared) : Pk (allR s.gens) (parkS s).gens where
  at_ := fun i st h => by
    unfold allR at h
    split at h
    · rename_i st2 e
      split at h
      · cases h
      · rename_i hf
        cases h
        refine ⟨?_, by simpa using hf⟩
        show (s.gens.map pkS)[i]? = _
        rw [Array.getElem?_map, e]
        rfl
    · cases h
  cl := fun i k l c p fs b h e => by
    have e' : (s.gens.map pkS)[i]? = some (.suspended k l c p fs b) := e
    rw [Array.getElem?_map] at e'
    cases q : s.gens[i]? with
    | none => rw [q] at e'; cases e'
    | some st =>
      rw [q] at e'
      unfold allR at h
      rw [q] at h
      cases st with
      | fresh c => simp [pkS] at e'
      | suspended k2 l2 c2 p2 fs2 b2 => simp [isFr] at h
      | running => simp [isFr] at h
      | finished => simp [isFr] at h
theorem un_park (s : Shared) : unS (allR s.gens) (parkS s) = s := by
  have e : unG (allR s.gens) (s.gens.map pkS) = s.gens := by
    refine Array.ext_getElem? fun i => ?_
    rw [unG_at, Array.getElem?_map]
    cases q : s.gens[i]? with
    | none => rfl
    | some st =>
      simp only [Option.map_some]
      unfold allR
      rw [q]
      cases st <;> rfl
  show ({ s with gens := unG (allR s.gens) (s.gens.map pkS) } : Shared) = s
  rw [e]
theorem bare_park {s : Shared} (h : AllBare s.gens) : AllBare (parkS s).gens := fun x hx => by
  have hx' : x ∈ s.gens.map pkS := hx
  rw [Array.mem_map] at hx'
  obtain ⟨y, hy, rfl⟩ := hx'
  rw [pk_bare]
  exact h y hy
theorem bare_un {s s2 : Shared} (h : AllBare s.gens) (h2 : AllBare s2.gens) : AllBare (unS (allR s.gens) s2).gens := fun x hx => by
  obtain ⟨i, hi⟩ := Array.mem_iff_getElem?.1 hx
  have hi' : (unG (allR s.gens) s2.gens)[i]? = some x := hi
  rw [unG_at] at hi'
  cases q : s2.gens[i]? with
  | none => rw [q] at hi'; cases hi'
  | some y =>
    rw [q] at hi'
    simp only [Option.map_some, Option.some.injEq] at hi'
    cases r : allR s.gens i with
    | none =>
      rw [r] at hi'
      have : y = x := hi'
      subst this
      exact h2 y (Array.mem_iff_getElem?.2 ⟨i, q⟩)
    | some z =>
      rw [r] at hi'
      have : z = x := hi'
      subst this
      unfold allR at r
      split at r
      · rename_i st e
        split at r
        · cases r
        · cases r
          exact h z (Array.mem_iff_getElem?.2 ⟨i, e⟩)
      · cases r
/-- what did not sleep fresh is as it was -/
theorem kept_un {s s2 : Shared} (h : Pk (allR s.gens) s2.gens) {i : Nat} {x : GenState} (e : s.gens[i]? = some x) (hf : isFr x = false) : (unS (allR s.gens) s2).gens[i]? = some x := by
  have r : allR s.gens i = some x := by
    unfold allR
    rw [e]
    simp [hf]
  show (unG (allR s.gens) s2.gens)[i]? = some x
  rw [unG_at, (h.at_ i x r).1, r]
  rfl
/-- a tree that runs with all that sleep parked: it runs, and all that sleep stay -/
theorem wpAny_park {α : Type} {M : Model} {A : Around} {s : Shared} {t : Sem α} {Q : α → Shared → Prop} {E : Value → Shared → Prop} (h : wpAny M A t Q E (parkS s)) :
    wpAny M A t (fun a s' => ∃ s2, s' = unS (allR s.gens) s2 ∧ Pk (allR s.gens) s2.gens ∧ Q a s2) (fun e s' => ∃ s2, s' = unS (allR s.gens) s2 ∧ Pk (allR s.gens) s2.gens ∧ E e s2) s := by
  have := wpAny_un (pk_park s) h
  rw [un_park] at this
  exact this
end VL
/-! a block that walks a generator: what its own code leaves as it is, a turn of the generator -/
namespace VL
open PySem PySem.Spec PyProof.Rows L2 GenW

/-! ### what is not there does not come -/
structure NR (h h' : Heap) : Prop where
  sz : h.objs.size ≤ h'.objs.size
  no : ∀ b, b < h.objs.size → h.get? b = none → h'.get? b = none
theorem NR.refl (h : Heap) : NR h h := ⟨Nat.le_refl _, fun _ _ e => e⟩
theorem NR.trans {a b c : Heap} (x : NR a b) (y : NR b c) : NR a c := ⟨Nat.le_trans x.sz y.sz, fun d h e => y.no d (Nat.lt_of_lt_of_le h x.sz) (x.no d h e)⟩
theorem NR.push (h : Heap) (o : Obj) : NR h (h.push o) := by
  refine ⟨by rw [Heap.size_push]; exact Nat.le_succ _, fun b hb e => ?_⟩
  unfold Heap.get? Heap.push at *
  simp only [Array.getElem?_push_lt hb, Array.getElem?_eq_getElem hb] at e ⊢
  exact e
theorem NR.update {h : Heap} {a : Addr} (f : Obj → Obj) (ha : (h.get? a).isSome) : NR h (h.update a f) := by
  refine ⟨Nat.le_of_eq (Heap.size_update ..).symm, fun b _ e => ?_⟩
  have hb : b ≠ a := fun z => by
    rw [z] at e
    rw [e] at ha
    cases ha
  rw [Heap.get?_update_other _ _ (Ne.symm hb)]
  exact e
theorem runs_nr {M : Model} {Γ : PySem.Ctx} {p : Pos} {t : Sem PySem.Fin} {fs : List Frame} {s s' : Shared} {e : End} (h : Runs M Γ p t fs s e s') : NR s.heap s'.heap := by
  induction h with
  | done => exact .refl _
  | raise => exact .refl _
  | update q _ ih => exact (NR.update _ q).trans ih
  | alloc _ ih => exact (NR.push _ _).trans ih
  | call _ _ ih1 ih2 => exact ih1.trans ih2
  | yield => exact .refl _
  | resumeFresh _ _ _ _ ih1 ih2 => exact ih1.trans ih2
  | resumeSuspended _ _ _ _ ih1 ih2 => exact ih1.trans ih2
  | segRet _ _ ih1 ih2 => exact ih1.trans ih2
  | segGen _ _ ih1 ih2 => exact ih1.trans ih2
  | segSuspGen _ _ _ _ ih1 ih2 => exact ih1.trans ih2
  | _ => assumption
theorem wakes_nr {M : Model} {Γ : PySem.Ctx} {p : Pos} {g : Nat} {r : Resume} {s s' : Shared} {res : GenResult} (h : Wakes M Γ p g r s res s') : NR s.heap s'.heap := by
  unfold Wakes at h
  split at h
  · exact h.elim
  · split at h
    · obtain ⟨e₁, s₁, hr, _, _, rfl⟩ := h
      have q : NR (s.setGen g .running).heap s₁.heap := runs_nr hr
      exact q
    · rw [h.2]; exact .refl _
    · rw [h.2]; exact .refl _
  · obtain ⟨e₁, s₁, hr, _, _, rfl⟩ := h
    have q : NR (s.setGen g .running).heap s₁.heap := runs_nr hr
    exact q
  · rw [h.2]; exact .refl _
  · rw [h.2]; exact .refl _
theorem wp_nr {α : Type} (M : Model) (Γ : PySem.Ctx) (n : Heap) (t : Sem α) : ∀ (Q : α → Pos → Shared → Prop) (E : Value → Pos → Shared → Prop) (p : Pos) (s : Shared), NR n s.heap → Sem.wp M Γ t Q E p s →
    Sem.wp M Γ t (fun a p' s' => NR n s'.heap ∧ Q a p' s') (fun e p' s' => NR n s'.heap ∧ E e p' s') p s := by
  induction t with
  | pure a => intro Q E p s hn h; exact ⟨hn, h⟩
  | raise e => intro Q E p s hn h; exact ⟨hn, h⟩
  | unsupported _ => intro Q E p s _ h; exact h
  | finish _ => intro Q E p s _ h; exact h
  | rule _ k ih => intro Q E p s hn h; exact ih () Q E p s hn h
  | «at» p' k ih => intro Q E p s hn h; exact ih () Q E p' s hn h
  | load a _ k ih => intro Q E p s hn h; obtain ⟨o, ho, h⟩ := h; exact ⟨o, ho, ih o Q E p s hn h⟩
  | update a _ f k ih => intro Q E p s hn h; exact ⟨h.1, ih () Q E p _ (hn.trans (NR.update _ h.1)) h.2⟩
  | loadIfAlive a k ih => intro Q E p s hn h; exact ih _ Q E p s hn h
  | point _ k ih => intro Q E p s hn h; exact ih () Q E p s hn h
  | register _ _ => intro Q E p s _ h; exact h
  | alloc o k ih => intro Q E p s hn h; exact ih _ Q E p _ (hn.trans (NR.push _ _)) h
  | fresh k ih => intro Q E p s hn h; exact ih _ Q E p _ hn h
  | ask k ih => intro Q E p s hn h; exact ih _ Q E p s hn h
  | choose src m k ih => intro Q E p s hn h; exact ⟨h.1, ih _ Q E p _ hn h.2⟩
  | os q _ k ih => intro Q E p s hn h; exact ih _ Q E p _ hn h
  | call c hd _ _ k ih => intro Q E p s hn h; obtain ⟨r, s', hr, h⟩ := h; exact ⟨r, s', hr, ih r Q E p s' (hn.trans (runs_nr hr)) h⟩
  | handled own k ih => intro Q E p s hn h; exact ih _ Q E p s hn h
  | genState g k ih => intro Q E p s hn h; obtain ⟨st, hs, h⟩ := h; exact ⟨st, hs, ih _ Q E p s hn h⟩
  | newGen c k ih => intro Q E p s hn h; exact ih _ Q E p _ hn h
  | resume g r _ k ih => intro Q E p s hn h; obtain ⟨res, s', hw, h⟩ := h; exact ⟨res, s', hw, ih res Q E p s' (hn.trans (wakes_nr hw)) h⟩
  | yield _ _ _ _ => intro Q E p s _ h; exact h
  | stack k ih => intro Q E p s hn h; exact ih _ Q E p s hn h
  | fork _ _ => intro Q E p s _ h; exact h
  | thread k ih => intro Q E p s hn h; exact ih _ Q E p s hn h
  | await _ _ _ _ _ => intro Q E p s _ h; exact h
theorem wpAny_nr {α : Type} {M : Model} {A : Around} {s : Shared} {t : Sem α} {Q : α → Shared → Prop} {E : Value → Shared → Prop} {n : Heap} (hn : NR n s.heap)
    (h : wpAny M A t (fun a s' => NR n s'.heap → Q a s') (fun e s' => NR n s'.heap → E e s') s) : wpAny M A t Q E s :=
  wpAny_mono (fun Γ p hΓ => wp_nr M Γ n t _ _ p s hn (h Γ p hΓ) : wpAny M A t (fun a s' => NR n s'.heap ∧ (NR n s'.heap → Q a s')) (fun e s' => NR n s'.heap ∧ (NR n s'.heap → E e s')) s)
    (fun _ _ x => x.2 x.1) fun _ _ x => x.2 x.1
/-! ### a block and the generator that it walks; D: the list that it makes -/
structure CBk (XB : Cx) (p2 : GP) (D : Addr) : Prop where
  hP : p2.P = XB.prog
  hw : p2.w = XB.w
  fs : XB.fs = L2.frs p2.outer
  pn : XB.pn = []
  xe : XB.xe = Fls
  bs : p2.base = XB.base
  C : p2.C = [D, XB.env.locals]
  flt : ∀ b ∈ XB.fs, b < p2.n0
  exl : ∀ b ∈ XB.ex, p2.n0 ≤ b
  sc0 : ∀ b o, p2.sc.get? b = some o → ∃ o', XB.s_0.heap.get? b = some o'
  yng : ∀ b, p2.n0 ≤ b → b < XB.s_0.heap.objs.size → b ∈ XB.ex ∨ b = D
  szn : p2.n0 ≤ XB.s_0.heap.objs.size
  Dn : p2.n0 ≤ D
  Dl : D < XB.s_0.heap.objs.size
  to : Tonly p2.HC
  hlt : ∀ b u, p2.HC b = some u → b < p2.n0
  H0 : XB.H_0 = upd p2.HC D (.lst [])
  cel : ∀ x c, XB.env.cells.lookup x = some c → c < p2.n0
  bslt : ∀ b o, XB.base.get? b = some o → b < p2.n0
abbrev SmH (p2 : GP) (D : Addr) (l : List V) : Hp := upd p2.HC D (.lst l)
section
variable {XB : Cx} {p2 : GP} {D : Addr} {σ : L2.St} {H H' : Hp} {l : List V} {s s₁ s2 sr : Shared} {pins : List (Addr × Obj)}
theorem smH_same : SmH p2 D l D = some (.lst l) := upd_same
theorem smH_ne {b : Addr} (h : b ≠ D) : SmH p2 D l b = p2.HC b := upd_ne h
theorem smH_none {b : Addr} (h : SmH p2 D l b = none) : b ≠ D ∧ p2.HC b = none := by
  by_cases e : b = D
  · subst e
    rw [smH_same] at h
    cases h
  · rw [smH_ne e] at h
    exact ⟨e, h⟩
theorem turnB (cb : CBk XB p2 D) (I : Inv XB [] σ (SmH p2 D l) s) (nr : NR p2.sc s.heap) (r : Rn p2 sr s₁) (hh : sr.heap = s.heap) (ho : sr.os = s.os) (os2 : s2.os = s₁.os) (b2 : AllBare s2.gens)
    (k2 : ∀ b o, s₁.heap.get? b = some o → s2.heap.get? b = some o) : Inv XB [] σ (SmH p2 D l) s2 := by
  have scS : ∀ b o, b < p2.n0 → s.heap.get? b = some o → ∃ oc, p2.sc.get? b = some oc := fun b o hb e => by
    cases q : p2.sc.get? b with
    | some oc => exact ⟨oc, rfl⟩
    | none =>
      rw [nr.no b hb q] at e
      cases e
  have cs : ∀ b ∈ p2.C, ∀ o, s.heap.get? b = some o → s2.heap.get? b = some o := fun b hb o e => k2 b o (r.cs b hb o (by rw [hh]; exact e))
  have hD : ∃ its n, s.heap.get? D = some { cls := .type "list", data := .seq its n } ∧ l.length ≤ sizeLine ∧ ∃ vs : List Value, its = vs.toArray ∧ Vals l vs := by
    have o : ObjOk XB.prog XB.w (SmH p2 D l) s.heap D (.lst l) := I.hok D _ upd_same
    obtain ⟨z, its, n, rv, e⟩ := o
    exact ⟨_, n, e, z, its, rfl, rv⟩
  have hos : s2.os = s.os := os2.trans (r.os.trans ho)
  obtain ⟨h', g', d', t', o'⟩ := s2
  have e : o' = s.os := hos
  subst e
  have pin0 : ∀ p ∈ XB.pn ++ [], ∀ b : Addr, p.1 ≠ b := fun p hp => by
    rw [cb.pn] at hp
    simp at hp
  have lD : XB.env.locals ∈ p2.C := by rw [cb.C]; simp
  have dD : D ∈ p2.C := by rw [cb.C]; simp
  let ch : List Addr := XB.ex ++ (List.range s.heap.objs.size).filter fun b => decide (XB.s_0.heap.objs.size ≤ b ∧ b ≠ XB.env.locals)
  have out : ∀ b o, b ∉ ch → s.heap.get? b = some o → b = XB.env.locals ∨ b = D ∨ b < p2.n0 := fun b o hb e => by
    by_cases hL : b = XB.env.locals
    · exact .inl hL
    refine .inr ?_
    have h1 : b ∉ XB.ex := fun z => hb (List.mem_append_left _ z)
    have h2 : ¬ XB.s_0.heap.objs.size ≤ b := fun z => hb (List.mem_append_right _ (List.mem_filter.2 ⟨List.mem_range.2 (Heap.lt_size e), decide_eq_true ⟨z, hL⟩⟩))
    rcases Nat.lt_or_ge b p2.n0 with z | z
    · exact .inr z
    · rcases cb.yng b z (Nat.lt_of_not_le h2) with q | q
      · exact absurd q h1
      · exact .inl q
  refine I.step (ch := ch) (fun b hb => ?_) (fun b o hL hf hc e hn => ?_) (fun b o hL hf hc e hn => ?_) (fun _ _ _ _ n => n) (fun b o hc e => ?_) (fun _ _ e => e) (fun _ _ _ e => e) (fun b ps e => ⟨#[], by rw [Array.append_empty]; exact e⟩) (fun m hm => ?_) (fun b u e => ?_) b2
  · rcases List.mem_append.mp hb with z | z
    · exact ⟨.inl z, (I.ok.exf b z).1, (I.ok.exf b z).2, fun p hp => pin0 p hp b⟩
    · have q := of_decide_eq_true (List.mem_filter.1 z).2
      exact ⟨.inr q.1, q.2, fun x c e z => absurd (Nat.lt_of_lt_of_le (cb.cel x c e) (Nat.le_trans cb.szn (by rw [z]; exact q.1))) (Nat.lt_irrefl _), fun p hp => pin0 p hp b⟩
  · obtain ⟨h1, h2⟩ := smH_none hn
    rcases out b o hc e with z | z | z
    · exact absurd z hL
    · exact absurd z h1
    · obtain ⟨oc, hoc⟩ := scS b o z e
      exact k2 b o (r.low b oc o hoc h2 (by rw [← cb.fs]; exact hf) (by rw [hh]; exact e))
  · obtain ⟨sl, q⟩ := r.slot b o (by rw [← cb.fs]; exact hf) (by rw [hh]; exact e)
    exact ⟨sl, k2 b _ q⟩
  · rcases out b o hc e with z | z | z
    · exact ⟨o, cs b (by rw [z]; exact lD) o e⟩
    · exact ⟨o, cs b (by rw [z]; exact dD) o e⟩
    · obtain ⟨oc, hoc⟩ := scS b o z e
      obtain ⟨o', q⟩ := r.th b oc hoc
      exact ⟨o', k2 b o' q⟩
  · obtain ⟨o, es, ep, ho', r1⟩ := hm
    exact ⟨o, es, ep, cs _ lD o ho', r1⟩
  · by_cases hb : b = D
    · subst hb
      rw [smH_same] at e
      cases e
      obtain ⟨its, n, e1, z, vs, rfl, rv⟩ := hD
      exact ⟨z, vs, n, rv, cs b dD _ e1⟩
    · rw [smH_ne hb] at e
      obtain ⟨xs, rfl⟩ := cb.to b u e
      have o : ObjOk XB.prog XB.w (SmH p2 D l) s.heap b (.tup xs) := I.hok b _ (by rw [smH_ne hb]; exact e)
      obtain ⟨z, its, rv, ht⟩ := o
      have tk := r.tk
      rw [hh] at tk
      obtain ⟨its', ht', sv⟩ := tk b its ht
      exact ⟨z, its', sv.to rv, ht'.keeps k2⟩
/-- a young tuple is looked after too -/
theorem adoptB (cb : CBk XB p2 D) (I : Inv XB [] σ (SmH p2 D l) s) {a : Addr} {xs : List V} {its : List Value} (ha : p2.n0 ≤ a) (ht : IsTup s.heap a its.toArray) (hv : Vals xs its) (hz : xs.length ≤ sizeLine) : Inv XB [] σ (upd (SmH p2 D l) a (.tup xs)) s := by
  have hD : a ≠ D := fun z => by
    have o : ObjOk XB.prog XB.w (SmH p2 D l) s.heap D (.lst l) := I.hok D _ upd_same
    obtain ⟨_, _, _, _, e⟩ := o
    obtain ⟨o2, e2, c2, _⟩ := ht
    rw [z, e] at e2
    cases e2
    have e4 : ("list" : String) = "tuple" := by injection c2
    exact absurd e4 (by decide)
  have hn : SmH p2 D l a = none := by
    rw [smH_ne hD]
    cases q : p2.HC a with
    | none => rfl
    | some u => exact absurd (Nat.lt_of_lt_of_le (cb.hlt a u q) ha) (Nat.lt_irrefl _)
  have hL : a ≠ XB.env.locals := fun z => by
    obtain ⟨m, ⟨o, es, ep, ho, hd, _⟩, _⟩ := I.loc
    obtain ⟨o2, e2, _, n, d2⟩ := ht
    rw [z, ho] at e2
    cases e2
    rw [hd] at d2
    cases d2
  refine I.step (ch := [a]) (fun b hb => ?_) (fun b o _ _ _ e _ => e) (fun b o _ _ _ e _ => ⟨o.slots, e⟩) (fun b o hc e n => ?_) (fun b o _ e => ⟨o, e⟩) (fun b ys e => ?_) (fun b o u e => ?_) (fun b ps e => ⟨#[], ?_⟩) (fun m hm => hm) (fun b u e => ?_) I.bare
  · rw [List.mem_singleton.mp hb]
    refine ⟨?_, hL, fun x c e z => absurd (Nat.lt_of_lt_of_le (cb.cel x c e) (by rw [z]; exact ha)) (Nat.lt_irrefl _), fun p hp => ?_⟩
    · rcases Nat.lt_or_ge a XB.s_0.heap.objs.size with z | z
      · rcases cb.yng a ha z with q | q
        · exact .inl q
        · exact absurd q hD
      · exact .inr z
    · rw [cb.pn] at hp
      simp at hp
  · rw [upd_ne (fun z => hc (by rw [z]; exact List.mem_singleton.mpr rfl))]
    exact n
  · rw [upd_ne (ne_of_none e hn)]; exact e
  · rw [upd_ne (ne_of_none e hn)]; exact e
  · rw [upd_ne (ne_of_none e hn), Array.append_empty]; exact e
  · by_cases hb : b = a
    · subst hb
      rw [upd_same] at e
      cases e
      exact ⟨hz, its, hv, ht⟩
    · rw [upd_ne hb] at e
      refine (I.hok b u e).stay (fun _ _ _ z => z) (fun d z => ?_) fun d ys z => ?_
      · rw [upd_ne (ne_of_none z hn)]; exact z
      · rw [upd_ne (ne_of_none z hn)]; exact z
/-- all else is forgotten -/
theorem shrinkB (cb : CBk XB p2 D) (I : Inv XB pins σ H s) (ts : TS p2.HC H) (hD : H D = some (.lst l)) : Inv XB [] σ (SmH p2 D l) s := by
  have sub : ∀ b u, SmH p2 D l b = some u → H b = some u := fun b u e => by
    by_cases hb : b = D
    · subst hb
      rw [smH_same] at e
      rw [hD, e]
    · rw [smH_ne hb] at e
      obtain ⟨xs, rfl⟩ := cb.to b u e
      exact ts b xs e
  have non : ∀ b, H b = none → SmH p2 D l b = none := fun b e => by
    cases q : SmH p2 D l b with
    | none => rfl
    | some u => rw [sub b u q] at e; cases e
  refine ⟨I.ok, I.os, I.bare, ⟨I.base.keep, I.base.slot, fun b o e n hx => non b (I.base.free b o e n hx), I.base.there, fun b xs e => ?_, fun b o u e => ?_, fun b ps e => ?_⟩, I.loc, I.cell, non _ I.free, fun x c e => non _ (I.freeC x c e), fun p hp => ?_, fun b u e => ?_, I.len⟩
  · rw [cb.H0] at e
    by_cases hb : b = D
    · subst hb
      rw [upd_same] at e
      cases e
    · rw [upd_ne hb] at e
      rw [smH_ne hb]
      exact e
  · rw [cb.H0] at e
    by_cases hb : b = D
    · subst hb
      rw [upd_same] at e
      cases e
    · rw [upd_ne hb] at e
      obtain ⟨xs, z⟩ := cb.to b _ e
      cases z
  · rw [cb.H0] at e
    by_cases hb : b = D
    · subst hb
      rw [upd_same] at e
      cases e
    · rw [upd_ne hb] at e
      obtain ⟨xs, z⟩ := cb.to b _ e
      cases z
  · rw [cb.pn] at hp
    simp at hp
  · have o := I.hok b u (sub b u e)
    by_cases hb : b = D
    · subst hb
      rw [smH_same] at e
      cases e
      exact o
    · rw [smH_ne hb] at e
      obtain ⟨xs, rfl⟩ := cb.to b u e
      exact o
open Classical in
/-- all that nobody looks after -/
noncomputable def pinsA (X : Cx) (H : Hp) (h : Heap) : List (Addr × Obj) := (List.range h.objs.size).filterMap fun b => match h.get? b with
  | some o => if H b = none ∧ b ≠ X.env.locals ∧ b ∉ X.fs ∧ ∀ v, o.data ≠ .cell v then some (b, o) else none
  | none => none
theorem mem_pinsA {X : Cx} {H : Hp} {h : Heap} {q : Addr × Obj} : q ∈ pinsA X H h ↔ h.get? q.1 = some q.2 ∧ H q.1 = none ∧ q.1 ≠ X.env.locals ∧ q.1 ∉ X.fs ∧ ∀ v, q.2.data ≠ .cell v := by
  classical
  unfold pinsA
  rw [List.mem_filterMap]
  constructor
  · rintro ⟨b, _, e⟩
    cases hb : h.get? b with
    | none => rw [hb] at e; cases e
    | some o =>
      rw [hb] at e
      simp only at e
      split at e
      · rename_i hc
        cases e
        exact ⟨hb, hc⟩
      · cases e
  · rintro ⟨e, hc⟩
    refine ⟨q.1, List.mem_range.mpr (Heap.lt_size e), ?_⟩
    rw [e]
    simp only
    rw [if_pos hc]
/-- the block's own code, while the generator sleeps -/
theorem sleepRun {α : Type} {t : Sem α} {A : Around} {Qa : α → L2.St → Hp → Prop} (cb : CBk XB p2 D) (I : Inv XB [] σ H s) (nr : NR p2.sc s.heap) (hs : ∀ b u, H b = some u → (b = D ∧ ∃ l, u = .lst l) ∨ ∃ xs, u = .tup xs)
    (hrun : ∀ pins s, Inv XB pins σ H s → wpAny (model XB.prog XB.w) A t (fun a s' => ∃ σ' H', Inv XB pins σ' H' s' ∧ Qa a σ' H') Fls s) (hQ : ∀ a σ' H', Qa a σ' H' → TS H H' ∧ ∃ l, H' D = some (.lst l)) :
    wpAny (model XB.prog XB.w) A t (fun a (s' : Shared) => ∃ σ' H', Inv XB [] σ' H' s' ∧ Qa a σ' H' ∧ Slp p2 s s' ∧ NR p2.sc s'.heap ∧ ∀ (i : Nat) (x : GenState), isFr x = false → s.gens[i]? = some x → s'.gens[i]? = some x) Fls s := by
  have I1 : Inv XB (pinsA XB H s.heap) σ H s := I.pins_of fun q hq => mem_pinsA.1 hq
  have I2 : Inv XB (pinsA XB H s.heap) σ H (parkS s) := ⟨I1.ok, I1.os, bare_park I1.bare, I1.base, I1.loc, I1.cell, I1.free, I1.freeC, I1.pin, I1.hok, I1.len⟩
  refine wpAny_nr nr (wpAny_nr (NR.refl s.heap) (wpAny_gsz (Nat.le_refl _) (wpAny_mono (wpAny_park (hrun (pinsA XB H s.heap) (parkS s) I2)) (fun a s' hs' hg hr0 hr => ?_) fun x s' hx _ _ _ => ?_)))
  · obtain ⟨s2, rfl, pk, σ', H', I3, q⟩ := hs'
    obtain ⟨ts, l2, hD2⟩ := hQ a σ' H' q
    have I4 : Inv XB (pinsA XB H s.heap) σ' H' (unS (allR s.gens) s2) := ⟨I3.ok, I3.os, bare_un I.bare I3.bare, I3.base, I3.loc, I3.cell, I3.free, I3.freeC, I3.pin, I3.hok, I3.len⟩
    have kg : ∀ (i : Nat) (x : GenState), isFr x = false → s.gens[i]? = some x → (unS (allR s.gens) s2).gens[i]? = some x := fun i x hf e => kept_un pk e hf
    generalize unS (allR s.gens) s2 = s' at I4 hg hr0 hr kg
    have pinned : ∀ b o, s.heap.get? b = some o → H b = none → b ≠ XB.env.locals → b ∉ XB.fs → (∀ v, o.data ≠ .cell v) → s'.heap.get? b = some o := fun b o e h1 h2 h3 h4 =>
      (I4.pin (b, o) (List.mem_append_right _ (mem_pinsA.2 ⟨e, h1, h2, h3, h4⟩))).1
    refine ⟨σ', H', I4.pins_of (fun p hp => nomatch hp), q, ⟨I4.os.trans I.os.symm, I4.bare, hr0.sz, fun b o hb e => (I4.bs b o (by rw [← cb.bs]; exact hb)).1, fun b o h1 h2 h3 e => ?_, fun x its ht => ?_, fun b oc o hc e => ?_, fun b hb => ?_, fun b o hb e hd => ?_, fun i x _ hf e => kg i x hf e, hg⟩, hr, kg⟩
    · have hbL : b ≠ XB.env.locals := fun z => h2 (by rw [cb.C, z]; simp)
      have hbD : b ≠ D := fun z => h2 (by rw [cb.C, z]; simp)
      cases hH : H b with
      | none => exact pinned b o e hH hbL (fun z => absurd (Nat.lt_of_lt_of_le (cb.flt b z) h1) (Nat.lt_irrefl _)) h3.1
      | some u =>
        rcases hs b u hH with z | ⟨xs, rfl⟩
        · exact absurd z.1 hbD
        · have o2 : ObjOk XB.prog XB.w H s.heap b (.tup xs) := I.hok b _ hH
          obtain ⟨_, its, _, o3, e3, _, n, d3⟩ := o2
          rw [e] at e3
          cases e3
          exact absurd d3 (h3.2 _ n)
    · obtain ⟨o, e, c, n, d⟩ := id ht
      cases hH : H x with
      | some u =>
        rcases hs x u hH with ⟨rfl, l1, rfl⟩ | ⟨xs, rfl⟩
        · have o2 : ObjOk XB.prog XB.w H s.heap x (.lst l1) := I.hok x _ hH
          obtain ⟨_, _, _, _, e2⟩ := o2
          rw [e2] at e
          cases e
          have e4 : ("list" : String) = "tuple" := by injection c
          exact absurd e4 (by decide)
        · have o2 : ObjOk XB.prog XB.w H s.heap x (.tup xs) := I.hok x _ hH
          obtain ⟨_, its0, v0, t0⟩ := o2
          have q0 := isTup_list ht t0
          subst q0
          have o3 : ObjOk XB.prog XB.w H' s'.heap x (.tup xs) := I4.hok x _ (ts x xs hH)
          obtain ⟨_, its', v', t'⟩ := o3
          exact ⟨its', t', .inr ⟨xs, v0, v'⟩⟩
      | none =>
        have hL : x ≠ XB.env.locals := fun z => by
          obtain ⟨m, ⟨o3, es, ep, ho, hd, _⟩, _⟩ := I.loc
          rw [z, ho] at e
          cases e
          rw [hd] at d
          cases d
        by_cases hf : x ∈ XB.fs
        · obtain ⟨_, o0, ho0, _⟩ := I.ok.funs.mem hf
          obtain ⟨sl, e1⟩ := I.base.slot x o0 ho0 (I.ok.frf x hf) hf (fun z => I.ok.exfs x z hf)
          obtain ⟨sl2, e2⟩ := I4.base.slot x o0 ho0 (I.ok.frf x hf) hf (fun z => I.ok.exfs x z hf)
          rw [e] at e1
          cases e1
          exact ⟨its, ⟨_, e2, c, n, d⟩, .inl rfl⟩
        · exact ⟨its, ⟨o, pinned x o e hH hL hf (fun v q => by rw [d] at q; cases q), c, n, d⟩, .inl rfl⟩
    · obtain ⟨o', e'⟩ := cb.sc0 b oc hc
      exact I4.base.there b o' e' fun z => absurd (Nat.lt_of_lt_of_le (Heap.lt_size hc) (cb.exl b z)) (Nat.lt_irrefl _)
    · rw [cb.C] at hb
      rcases List.mem_cons.mp hb with z | z
      · have o2 : ObjOk XB.prog XB.w H' s'.heap D (.lst l2) := I4.hok D _ hD2
        obtain ⟨_, _, _, _, e⟩ := o2
        rw [z]
        exact ⟨_, e, fun v q => by cases q⟩
      · obtain ⟨m, ⟨o, es, ep, ho, hd, _⟩, _⟩ := I4.loc
        rw [List.mem_singleton.mp z]
        exact ⟨o, ho, fun v q => by rw [hd] at q; cases q⟩
    · obtain ⟨_, o', e', hd'⟩ := I4.funs.mem (b := b) (by rw [← cb.fs] at hb; exact hb)
      exact ⟨o', e', hd'⟩
  · obtain ⟨_, _, _, hx⟩ := hx
    exact hx
end
end VL
/-! a list comprehension over a generator: the loop -/
namespace VL
open PySem PySem.Spec PyProof.Rows L2 GenW

def atomD : D → Bool
  | .non => true
  | .bl _ => true
  | .int _ => true
  | .str _ => true
  | _ => false
def atV : D → V
  | .bl b => .bl b
  | .int i => .int i
  | .str x => .str x
  | _ => .non
theorem atm_rel {G : Cg} {ι : Z} {H : Hp} {d : D} (h : atomD d = true) : RelD G ι H d (atV d) := by
  cases d with
  | non => simp only [RelD, atV]
  | bl b => simp only [RelD, atV]
  | int j => simp only [RelD, atV]
  | str x => simp only [RelD, atV]
  | _ => cases h
theorem rel_at {G : Cg} {ι : Z} {H : Hp} {d : D} {v : V} (h : atomD d = true) (r : RelD G ι H d v) : v = atV d := by
  cases d with
  | non => simp only [RelD] at r; rw [r]; rfl
  | bl b => simp only [RelD] at r; rw [r]; rfl
  | int j => simp only [RelD] at r; rw [r]; rfl
  | str x => simp only [RelD] at r; rw [r]; rfl
  | _ => cases h
theorem ats_rel {G : Cg} {ι : Z} {H : Hp} : ∀ {ds : List D}, (∀ d ∈ ds, atomD d = true) → RelDs G ι H ds (ds.map atV)
  | [], _ => .nil
  | d :: ds, h => .cons (atm_rel (h d (List.mem_cons_self ..))) (ats_rel fun x hx => h x (List.mem_cons_of_mem _ hx))
def maskE (ρ : Ev) : Ev := ρ.map fun x => match x with
  | some d => if pureD d = true then some d else none
  | none => none
theorem pure_mask (ρ : Ev) : pureEnv (maskE ρ) = true := by
  unfold pureEnv maskE
  rw [List.all_eq_true]
  intro x hx
  obtain ⟨y, _, rfl⟩ := List.mem_map.1 hx
  cases y with
  | none => rfl
  | some d =>
    by_cases h : pureD d = true
    · simp only [if_pos h]; exact h
    · simp only [if_neg h]
theorem env_mask {G : Cg} {ι : Z} {H : Hp} {σ : L2.St} {ρ : Ev} (e : EnvR G ι H σ ρ) : EnvR G ι H σ (maskE ρ) := ⟨by unfold maskE; rw [List.length_map]; exact e.1, fun i d h => by
  unfold maskE at h
  rw [List.getElem?_map] at h
  cases q : ρ[i]? with
  | none => rw [q] at h; cases h
  | some x =>
    rw [q] at h
    cases x with
    | none => cases h
    | some d2 =>
      simp only [Option.map_some] at h
      by_cases hp : pureD d2 = true
      · rw [if_pos hp] at h
        cases h
        exact e.2 i d q
      · rw [if_neg hp] at h
        cases h⟩
def lcGgo (i : Nat) (tt : MT) (el : ME) (ρ : Ev) : List (List Int) → List D → Option (List D)
  | [], acc => some acc
  | ks :: r, acc => match tt (ρ.set i (some (tupI ks))) [] with
    | .ok b [] => if b = true then (match el (ρ.set i (some (tupI ks))) [] with
        | .ok d [] => if atomD d = true then lcGgo i tt el ρ r (acc ++ [d]) else none
        | _ => none) else lcGgo i tt el ρ r acc
    | _ => none
theorem postK {α : Type} {G : Cg} {W : WX} {H : Hp} {r : R α} {a : α} (hr : r = .ok a []) {P : α → Z → Hp → S → Prop} (k : ∀ H', TS H H' → (∀ b l, H b = some (.lst l) → H' b = some (.lst l)) → P a Z0 H' []) : Post G W Z0 H P r := by
  subst hr
  intro ι' H' e q
  obtain ⟨rfl, ts⟩ := z0_ext e q
  exact k H' ts fun b l h => e.keep b _ (by simp [Z0]) rfl h
section
variable {XB : Cx} {p2 : GP} {D : Addr} {a2 : Addr} {go : Obj} {i : Nat} {x : Str} {px pos : Pos} {elt iter : Expr} {ifs : List Expr} {scope : Scope} {tt : MT} {el : ME} {W : WX} {σ : L2.St} {vs : List Nat} {ρ : Ev} {kss : List (List Int)} {R : Result → Shared → Prop}
theorem loopB (cb : CBk XB p2 D) (hh : XB.A.handled = none) (hd : XB.A.depth < recursionLimit) (hN : XB.N[i]? = some x) (hv : i ∈ vs) (hg : PG XB (.Name x px) (gName i)) (ht : PTs XB ifs (rdT (cg XB) W tt)) (he : PE XB elt (rdE (cg XB) W el))
    (hpn : p2.pn = [(a2, go)]) (hgen : ∀ h : Heap, h.get? a2 = some go → h.IsGen a2 p2.g) (hya : p2.n0 ≤ a2) (ha2 : a2 ≠ D) (ha2l : a2 < XB.s_0.heap.objs.size) (hlim : kss.length ≤ sizeLine) (en0 : EnvR (cg XB) Z0 p2.HC (L2.wipe σ vs) ρ) (hp0 : pureEnv ρ = true) {ys : List VL.D}
    (hR : ∀ s', Inv XB [] (L2.wipe σ vs) (SmH p2 D (ys.map atV)) s' → (∀ d ∈ ys, atomD d = true) → ys.length ≤ kss.length → NR p2.sc s'.heap → R (.ok .next) s') :
    ∀ (n : Nat) (s : Shared), (∃ rs pre acc, rs.length = n ∧ kss = pre ++ rs ∧ acc.length ≤ pre.length ∧ (∀ d ∈ acc, atomD d = true) ∧ lcGgo i tt el ρ rs acc = some ys ∧ Inv XB [] (L2.wipe σ vs) (SmH p2 D (acc.map atV)) s ∧ Asl XB.prog XB.w p2 XB.A.in1 kss rs.length s ∧ s.heap.get? a2 = some go ∧ NR p2.sc s.heap) →
    codeAny (model XB.prog XB.w) XB.A (.compLoop (.ListComp elt [⟨.Name x px, iter, ifs, 0⟩] scope pos) 0 (.ref a2) (.ref D) XB.env) R s := by
  intro n s hI
  refine compLoop_any (fun n s => ∃ rs pre acc, rs.length = n ∧ kss = pre ++ rs ∧ acc.length ≤ pre.length ∧ (∀ d ∈ acc, atomD d = true) ∧ lcGgo i tt el ρ rs acc = some ys ∧ Inv XB [] (L2.wipe σ vs) (SmH p2 D (acc.map atV)) s ∧ Asl XB.prog XB.w p2 XB.A.in1 kss rs.length s ∧ s.heap.get? a2 = some go ∧ NR p2.sc s.heap) ?_ n hI
  clear hI n s
  rintro n s ⟨rs, pre, acc, rfl, hks, hal, hat, hm, I, ⟨gs, e1, hb, hgo⟩, hA, hnr⟩
  have hbr : AllBare (s.setGen p2.g .running).gens := allBare_setGen I.bare rfl
  have dl : ∀ {σ' : L2.St} {H' : Hp} {s' : Shared} {l : List V}, Inv XB [] σ' H' s' → H' D = some (.lst l) → ∀ b ∈ p2.C, ∃ o, s'.heap.get? b = some o ∧ ∀ v, o.data ≠ .cell v := fun {σ' H' s' l} I' hD b hb => by
    rw [cb.C] at hb
    rcases List.mem_cons.mp hb with z | z
    · have o2 : ObjOk XB.prog XB.w H' s'.heap D (.lst l) := I'.hok D _ hD
      obtain ⟨_, _, _, _, e⟩ := o2
      rw [z]
      exact ⟨_, e, fun v q => by cases q⟩
    · obtain ⟨m, ⟨o, es, ep, ho, hd, _⟩, _⟩ := I'.loc
      rw [List.mem_singleton.mp z]
      exact ⟨o, ho, fun v q => by rw [hd] at q; cases q⟩
  have z0 : Slp p2 s (s.setGen p2.g .running) := Slp.same rfl rfl hbr (dl I smH_same) (fun i y h h2 => by rw [setGen_ne h]; exact h2) (Nat.le_of_eq (setGen_size _ _ _).symm)
  have hgl : p2.g + 1 ≤ s.gens.size := (Array.getElem?_eq_some_iff.mp e1).1
  have hnt : NT go := by
    obtain ⟨o, nm, qn, e, _, hdg, _⟩ := hgen s.heap hA
    rw [hA] at e
    cases e
    exact ⟨fun v q => (by rw [hdg] at q; cases q), fun its n q => (by rw [hdg] at q; cases q)⟩
  have aC : a2 ∉ p2.C := fun z => by
    rw [cb.C] at z
    rcases List.mem_cons.mp z with q | q
    · exact ha2 q
    · rw [List.mem_singleton.mp q] at ha2l
      exact absurd (Nat.lt_of_lt_of_le ha2l I.ok.above) (Nat.lt_irrefl _)
  cases rs with
  | nil =>
    refine wpAny_nr hnr (wpAny_mono (next_genG (n := 0) (F := fun n s₀ s₁ => n = 0 ∧ Rn p2 s₀ s₁) (Er := fun _ _ => False) (Q := fun r s1 => match r with
      | none => NR p2.sc s1.heap → R (.ok .next) s1
      | some _ => False) (E := fun _ _ => False) hh I.nolimit hd (hgen _ hA) e1 (hgo _ z0) (fun v s₁ gs' hbare hv => ?_) (fun s₁ hp1 h' hk' => ?_) fun e s₁ he => he.elim) (fun r s1 h1 => ?_) fun _ _ z => z.elim)
    · obtain ⟨_, _, _, _, _, _, rn, hz⟩ := hv
      refine (hz false s₁ (Slp.same rfl rfl rn.bare (fun b hb => ?_) (fun _ _ _ h => h) (Nat.le_refl _))).elim
      obtain ⟨o, e2, e3⟩ := dl I smH_same b hb
      exact ⟨o, rn.cs b hb o e2, e3⟩
    · intro hn2
      obtain ⟨_, rn⟩ := hp1
      simp only [lcGgo, Option.some.injEq] at hm
      subst hm
      refine hR _ (turnB cb I hnr rn rfl rfl rfl (allBare_setGen rn.bare rfl) hk') hat ?_ hn2
      have := congrArg List.length hks
      simp at this
      omega
    · cases r with
      | none => exact h1
      | some v => exact h1.elim
  | cons ks r =>
    have hlen : pre.length + (r.length + 1) = kss.length := by
      have := congrArg List.length hks
      simp at this
      omega
    refine wpAny_nr hnr (wpAny_gsz hgl (next_genG (n := r.length + 1) (F := fun n s₀ s₁ => n = 0 ∧ Rn p2 s₀ s₁) (Er := fun _ _ => False) hh I.nolimit hd (hgen _ hA) e1 (hgo _ z0) (fun v s₁ gs' hbare hv => ?_) (fun s₁ hp1 h' hk' => ?_) fun e s₁ he => he.elim))
    · intro hsz hn2
      obtain ⟨pr, ks', po, hks', hpl, yt, rn, hz⟩ := hv
      have hsame : ks = ks' ∧ r = po := by
        rw [hks] at hks'
        have hl : (ks :: r).length = (ks' :: po).length := by
          show r.length + 1 = po.length + 1
          have : r.length + 1 - 1 = po.length := hpl
          omega
        have := (List.append_inj' hks' hl).2
        exact ⟨(List.cons.inj this).1, (List.cons.inj this).2⟩
      obtain ⟨rfl, rfl⟩ := hsame
      obtain ⟨hzl, a, its, rfl, hyt, htup, hvals⟩ := yt
      have hn1 : p2.g < s₁.gens.size := by
        have q : (s₁.setGen p2.g gs').gens.size = s₁.gens.size := setGen_size _ _ _
        have : p2.g + 1 ≤ (s₁.setGen p2.g gs').gens.size := hsz
        omega
      have I1 : Inv XB [] (L2.wipe σ vs) (SmH p2 D (acc.map atV)) s₁ := turnB cb I hnr rn rfl rfl rfl rn.bare fun _ _ h => h
      have z11 : Slp p2 s₁ s₁ := Slp.same rfl rfl rn.bare (dl I1 smH_same) (fun _ _ _ h => h) (Nat.le_refl _)
      have hnf : isFr gs' = false := not_fresh (hz true s₁ z11)
      have I2 : Inv XB [] (L2.wipe σ vs) (SmH p2 D (acc.map atV)) (s₁.setGen p2.g gs') := turnB cb I hnr rn rfl rfl rfl (allBare_setGen rn.bare hbare) fun _ _ h => h
      have z12 : Slp p2 s₁ (s₁.setGen p2.g gs') := Slp.same rfl rfl (allBare_setGen rn.bare hbare) (dl I1 smH_same) (fun i y h h2 => by rw [setGen_ne h]; exact h2) (Nat.le_of_eq (setGen_size _ _ _).symm)
      have eg2 : (s₁.setGen p2.g gs').gens[p2.g]? = some gs' := setGen_at hn1
      have hA2 : (s₁.setGen p2.g gs').heap.get? a2 = some go := by
        have := rn.pn (a2, go) (by rw [hpn]; exact List.mem_singleton.mpr rfl)
        exact this
      have ht2 : IsTup (s₁.setGen p2.g gs').heap a its.toArray := htup
      generalize (s₁.setGen p2.g gs') = s2 at I2 z12 eg2 hA2 ht2 hn2 ⊢
      have hzm : (ks.map V.int).length ≤ sizeLine := by rw [List.length_map]; exact hzl
      -- the heap with the tuple looked after
      have aD : ∀ {σ' : L2.St} {l : List V} {s' : Shared}, Inv XB [] σ' (SmH p2 D l) s' → IsTup s'.heap a its.toArray → a ≠ D := fun {σ' l s'} I' ht z => by
        have o : ObjOk XB.prog XB.w (SmH p2 D l) s'.heap D (.lst l) := I'.hok D _ smH_same
        obtain ⟨_, _, _, _, e⟩ := o
        obtain ⟨o2, e2, c2, _⟩ := ht
        rw [z, e] at e2
        cases e2
        have e4 : ("list" : String) = "tuple" := by injection c2
        exact absurd e4 (by decide)
      have had := aD I2 ht2
      have hn0 : ∀ l, SmH p2 D l a = none := fun l => by
        rw [smH_ne had]
        cases q : p2.HC a with
        | none => rfl
        | some u => exact absurd (Nat.lt_of_lt_of_le (cb.hlt a u q) hyt) (Nat.lt_irrefl _)
      have I3 := adoptB cb I2 hyt ht2 hvals hzm
      have hsU : ∀ (l : List V) (b : Addr) (u : HO), upd (SmH p2 D l) a (.tup (ks.map V.int)) b = some u → (b = D ∧ ∃ l, u = .lst l) ∨ ∃ xs, u = .tup xs := fun l b u e => by
        by_cases hb : b = a
        · subst hb
          rw [upd_same] at e
          cases e
          exact .inr ⟨_, rfl⟩
        · rw [upd_ne hb] at e
          by_cases hbD : b = D
          · subst hbD
            rw [smH_same] at e
            cases e
            exact .inl ⟨rfl, _, rfl⟩
          · rw [smH_ne hbD] at e
            exact .inr (cb.to b u e)
      have tsU : ∀ l, TS p2.HC (upd (SmH p2 D l) a (.tup (ks.map V.int))) := fun l b xs e => by
        have hbD : b ≠ D := fun z => absurd (Nat.lt_of_lt_of_le (cb.hlt b _ e) (by rw [z]; exact cb.Dn)) (Nat.lt_irrefl _)
        have hba : b ≠ a := fun z => absurd (Nat.lt_of_lt_of_le (cb.hlt b _ e) (by rw [z]; exact hyt)) (Nat.lt_irrefl _)
        rw [upd_ne hba, smH_ne hbD]
        exact e
      have dU : ∀ l, upd (SmH p2 D l) a (.tup (ks.map V.int)) D = some (.lst l) := fun l => by
        rw [upd_ne (Ne.symm had)]
        exact smH_same
      have i_lt : i < (L2.wipe σ vs).length := by
        rw [I2.len]
        exact (List.getElem?_eq_some_iff.mp hN).1
      have en3 : EnvR (cg XB) Z0 (upd (SmH p2 D (acc.map atV)) a (.tup (ks.map V.int))) ((L2.wipe σ vs).set i (some (.ref a))) (ρ.set i (some (tupI ks))) := (env_tups (tsU _) hp0 en0).set (by
        unfold tupI
        simp only [RelD]
        exact ⟨a, ks.map V.int, rfl, ⟨z0_off a, upd_same⟩, .ofInts⟩)
      -- the name
      show wpAny _ XB.A (pure ()) _ _ s2
      refine wpAny_pure ?_
      refine thnF (sleepRun (Qa := fun _ σ' H' => σ' = (L2.wipe σ vs).set i (some (.ref a)) ∧ H' = upd (SmH p2 D (acc.map atV)) a (.tup (ks.map V.int))) cb I3 hn2 (hsU _) (fun pins s' I' => by
        have := hg.run pins s' _ _ (.ref a) (.ref a) (fun σ' H' => σ' = (L2.wipe σ vs).set i (some (.ref a)) ∧ H' = upd (SmH p2 D (acc.map atV)) a (.tup (ks.map V.int))) I' rfl ⟨rfl, rfl⟩
        rw [cb.xe] at this
        exact this) fun _ σ' H' q => by
          rw [q.2]
          exact ⟨fun _ _ h => h, _, dU _⟩) fun _ s4 h4 => ?_
      obtain ⟨_, _, I4, ⟨rfl, rfl⟩, z24, nr4, k24⟩ := h4
      -- the tests
      simp only [lcGgo] at hm
      split at hm
      · rename_i kb et
        refine thnF (sleepRun (Qa := fun b σ' H' => σ' = (L2.wipe σ vs).set i (some (.ref a)) ∧ b = kb ∧ TS (upd (SmH p2 D (acc.map atV)) a (.tup (ks.map V.int))) H' ∧ H' D = some (.lst (acc.map atV))) cb I4 nr4 (hsU _) (fun pins s' I' => by
          have := ht.run pins s' _ _ (fun b H' => b = kb ∧ TS (upd (SmH p2 D (acc.map atV)) a (.tup (ks.map V.int))) H' ∧ H' D = some (.lst (acc.map atV))) I' ⟨Z0, [], _, sim0, en3, postK et fun H' ts kl => ⟨rfl, ts, kl D _ (dU _)⟩⟩
          rw [cb.xe] at this
          exact thnF this fun b s'' ⟨H', I'', q⟩ => ⟨_, H', I'', rfl, q⟩) fun _ σ' H' q => ⟨q.2.2.1, _, q.2.2.2⟩) fun b s5 h5 => ?_
        obtain ⟨_, H5, I5, ⟨rfl, rfl, ts5, hD5⟩, z45, nr5, k45⟩ := h5
        have tsB : TS p2.HC H5 := (tsU _).trans ts5
        have wk : ∀ {s' : Shared} {l : List V}, Inv XB [] ((L2.wipe σ vs).set i (some (.ref a))) (SmH p2 D l) s' → Inv XB [] (L2.wipe σ vs) (SmH p2 D l) s' := fun {s' l} I' => I'.weak (by simp) fun j v e => by
          have hj : i ≠ j := fun z => by
            subst z
            exact (wipe_some e).2 hv
          rw [List.getElem?_set_ne hj]
          exact e
        have fin : ∀ {s' : Shared} {acc' : List VL.D}, acc'.length ≤ (pre ++ [ks]).length → (∀ d ∈ acc', atomD d = true) → lcGgo i tt el ρ r acc' = some ys → Inv XB [] ((L2.wipe σ vs).set i (some (.ref a))) (SmH p2 D (acc'.map atV)) s' → Slp p2 s5 s' → NR p2.sc s'.heap → (∀ (i : Nat) (x : GenState), isFr x = false → s5.gens[i]? = some x → s'.gens[i]? = some x) →
            ∃ m, m < (ks :: r).length ∧ ∃ rs pre acc, rs.length = m ∧ kss = pre ++ rs ∧ acc.length ≤ pre.length ∧ (∀ d ∈ acc, atomD d = true) ∧ lcGgo i tt el ρ rs acc = some ys ∧ Inv XB [] (L2.wipe σ vs) (SmH p2 D (acc.map atV)) s' ∧ Asl XB.prog XB.w p2 XB.A.in1 kss rs.length s' ∧ s'.heap.get? a2 = some go ∧ NR p2.sc s'.heap := fun {s' acc'} h1 h2 h3 I' z' nr' k' => by
          have zz := ((z12.trans z24).trans z45).trans z'
          refine ⟨r.length, Nat.lt_succ_self _, r, pre ++ [ks], acc', rfl, by rw [hks]; simp, h1, h2, h3, wk I', ⟨gs', k' _ _ hnf (k45 _ _ hnf (k24 _ _ hnf eg2)), hbare, fun s'' z'' => hz false s'' (zz.trans z'')⟩, ?_, nr'⟩
          exact ((z24.trans z45).trans z').keepY a2 go hya aC hnt hA2
        cases b with
        | false =>
          simp only [Bool.false_eq_true, if_false] at hm ⊢
          have q : Slp p2 s5 s5 := Slp.same rfl rfl I5.bare (dl I5 hD5) (fun _ _ _ h => h) (Nat.le_refl _)
          exact fin (by simp; omega) hat hm (shrinkB cb I5 tsB hD5) q nr5 fun _ _ _ h => h
        | true =>
          simp only [if_true] at hm ⊢
          split at hm
          · rename_i d ee
            split at hm
            · rename_i hda
              -- the element
              have o5 : ObjOk XB.prog XB.w H5 s5.heap a (.tup (ks.map V.int)) := I5.hok a _ (ts5 a _ upd_same)
              obtain ⟨_, its5, hv5, ht5⟩ := o5
              have I6 := adoptB cb (shrinkB cb I5 tsB hD5) hyt ht5 hv5 hzm
              refine thnF (sleepRun (Qa := fun z σ' H' => σ' = (L2.wipe σ vs).set i (some (.ref a)) ∧ RelV (atV d) z ∧ TS (upd (SmH p2 D (acc.map atV)) a (.tup (ks.map V.int))) H' ∧ H' D = some (.lst (acc.map atV))) cb I6 nr5 (hsU _) (fun pins s' I' => by
                have := he.run pins s' _ _ (fun v H' => v = atV d ∧ TS (upd (SmH p2 D (acc.map atV)) a (.tup (ks.map V.int))) H' ∧ H' D = some (.lst (acc.map atV))) I' ⟨Z0, [], _, sim0, en3, postK ee fun H' ts kl => fun v rv => ⟨rel_at hda rv, ts, kl D _ (dU _)⟩⟩
                rw [cb.xe] at this
                exact thnF this fun z s'' ⟨v, H', I'', rv, e, q⟩ => ⟨_, H', I'', rfl, by rw [← e]; exact rv, q⟩) fun _ σ' H' q => ⟨q.2.2.1, _, q.2.2.2⟩) fun z s7 h7 => ?_
              obtain ⟨_, H7, I7, ⟨rfl, rv7, ts7, hD7⟩, z57, nr7, k57⟩ := h7
              have I8 := shrinkB cb I7 ((tsU _).trans ts7) hD7
              have hsm : ∀ b u, SmH p2 D (acc.map atV) b = some u → (b = D ∧ ∃ l, u = .lst l) ∨ ∃ xs, u = .tup xs := fun b u e => by
                by_cases hbD : b = D
                · subst hbD
                  rw [smH_same] at e
                  cases e
                  exact .inl ⟨rfl, _, rfl⟩
                · rw [smH_ne hbD] at e
                  exact .inr (cb.to b u e)
              have hzA : (acc.map atV).length < sizeLine := by
                rw [List.length_map]
                omega
              -- it is put to the list
              refine thnF (sleepRun (Qa := fun _ σ' H' => σ' = (L2.wipe σ vs).set i (some (.ref a)) ∧ H' = upd (SmH p2 D (acc.map atV)) D (.lst (acc.map atV ++ [atV d]))) cb I8 nr7 hsm (fun pins s' I' => app_ok I' smH_same hzA rv7 fun s'' I'' => ⟨_, _, I'', rfl, rfl⟩) fun _ σ' H' q => by
                rw [q.2]
                refine ⟨fun b xs e => ?_, _, upd_same⟩
                have hbD : b ≠ D := fun z => by
                  subst z
                  rw [smH_same] at e
                  cases e
                rw [upd_ne hbD]
                exact e) fun _ s9 h9 => ?_
              obtain ⟨_, _, I9, ⟨rfl, rfl⟩, z79, nr9, k79⟩ := h9
              have I10 : Inv XB [] ((L2.wipe σ vs).set i (some (.ref a))) (SmH p2 D ((acc ++ [d]).map atV)) s9 := by
                rw [List.map_append]
                refine shrinkB cb I9 (fun b xs e => ?_) upd_same
                have hbD : b ≠ D := fun z => absurd (Nat.lt_of_lt_of_le (cb.hlt b _ e) (by rw [z]; exact cb.Dn)) (Nat.lt_irrefl _)
                rw [upd_ne hbD, smH_ne hbD]
                exact e
              exact fin (by simp; omega) (fun y hy => by
                rcases List.mem_append.mp hy with z | z
                · exact hat y z
                · rw [List.mem_singleton.mp z]; exact hda) hm I10 (z57.trans z79) nr9 fun i x hf e => k79 i x hf (k57 i x hf e)
            · cases hm
          · cases hm
      · cases hm
    · exact fun _ _ => absurd hp1.1 (Nat.succ_ne_zero _)
end
end VL
/-! a list comprehension over a generator that a def makes -/
namespace VL
open PySem PySem.Spec PyProof.Rows L2 GenW

def mLcG (n : Nat) (out : List D → Option (List (List Int))) (ma : MA) (i : Nat) (tt : MT) (el : ME) (vs : List Nat) : ME := fun ρ s => (ma ρ s).bnd fun ds s1 => match out ds with
  | some kss => if pureDs ds = true ∧ ds.length = n ∧ kss.length ≤ LIM then (match lcGgo i tt el (maskE (wipeD ρ vs)) kss [] with
      | some ys => .ok (.lst ys) s1
      | none => .bad) else .bad
  | none => .bad
theorem nr_cells : ∀ (names : List (Str × NameKind)) (h : Heap), NR h (pushCells h names)
  | [], h => .refl h
  | (_, kind) :: r, h => by
    unfold pushCells
    split
    · exact (NR.push _ _).trans (nr_cells r _)
    · exact nr_cells r _
section
variable {X : Cx} {W : WX} {fn : Str} {f : Addr} {fd : FuncData} {ps : List Str} {k : Nat} {out : List D → Option (List (List Int))} {e : Expr} {es : List Expr} {ma : MA} {px fpx pos pos' : Pos} {x : Str} {i : Nat} {elt : Expr} {ifs : List Expr} {scope : Scope} {own : List (Str × Nat)} {tt : MT} {el : ME}
theorem ve_lcG (hG : Gl X fn) (hm : X.mg fn = some (.ref f)) (hk : PySem.W.keepIn X.K (.ref f) = true) (hb : Binds X.K fd ps []) (F : GCall X.prog X.w X.K X.mg X.base k f fd ps out) (hr : RoomG (k + 3) X.A) (ha : VA X W (e :: es) ma)
    (hN : X.N.Nodup) (hi : X.N[i]? = some x) (hv : i ∈ own.map (·.2)) (ok : BlkOk X.N X.env.scope scope own) (hnc : ∀ y ∈ scope.names, y.2 ≠ .cell)
    (hg : ∀ (s : Shared) (H : Hp) (C : Addr) (cl : List (Str × Addr)) (fp : List Addr), PG (X.blk s H scope (compEnvC scope cl C X.env) fp) (.Name x px) (gName i))
    (ht : ∀ (s : Shared) (H : Hp) (C : Addr) (cl : List (Str × Addr)) (fp : List Addr), PTs (X.blk s H scope (compEnvC scope cl C X.env) fp) ifs (rdT (cg X) W0 tt))
    (hel : ∀ (s : Shared) (H : Hp) (C : Addr) (cl : List (Str × Addr)) (fp : List Addr), PE (X.blk s H scope (compEnvC scope cl C X.env) fp) elt (rdE (cg X) W0 el))
    (hs : ∀ y, foldedSetIterable (.Call (.Name fn fpx) (e :: es) [] pos') X.env y = pure y := by intro _; rfl) (hdb2 : (fn == ("__debug__" : Str)) = false := by decide)
    (he : starEach (e :: es) X.env = (false, eval e X.env) :: starEach es X.env := by rfl) (hpl : (backTo pos' (starEach es X.env)).any (·.1) = false := by rfl) :
    VE X W (.ListComp elt [⟨.Name x px, .Call (.Name fn fpx) (e :: es) [] pos', ifs, 0⟩] scope pos) (mLcG ps.length out ma i tt el (own.map (·.2))) := by
  refine ⟨fun pins s σ H Q I h => ?_⟩
  obtain ⟨ι, st, ρ, q, en, h⟩ := h
  rw [eval_ListComp]
  have hfree : ∀ y ∈ scope.names, y.2 = .free → ∃ c, X.env.cells.lookup y.1 = some c := fun y hy e => by
    rcases ok.free y hy e with z | z
    · exact I.ok.has _ (.inl z)
    · exact I.ok.has _ (.inr z)
  refine wpAny_comprehension_free (use := none) rfl hs (closure_ok hfree) ok.kind (fun y hy e => by rw [ok.uniq y hy, e]) ?_
  show wpAny _ _ (eval (.Call (.Name fn fpx) (e :: es) [] pos') X.env) _ _ s
  refine wpAny_Call_Name_kw (ld_glob I hG hm ?_ hdb2)
  refine PySem.W.callWith_K (h₀ := X.base) I.ok.mod.kin hk (thn (ha.run pos' pins s σ H (fun vs H1 => ∃ ι1 st1 ds kss ys, Sim (cg X) ι1 H1 st1 ∧ EnvR (cg X) ι1 H1 σ ρ ∧ RelDs (cg X) ι1 H1 ds vs ∧ out ds = some kss ∧ pureDs ds = true ∧ ds.length = ps.length ∧ kss.length ≤ LIM ∧ lcGgo i tt el (maskE (wipeD ρ (own.map (·.2)))) kss [] = some ys ∧ Post (cg X) W ι1 H1 (QE (cg X) Q) (.ok (.lst ys) st1)) I
    (rdA_on q en h fun ds v ι' H' s' e1 q1 r1 h1 => ?_)) fun us s1 hs => ?_) he hpl
  · split at h1
    · rename_i kss ek
      split at h1
      · rename_i hc
        split at h1
        · rename_i ys ey
          exact ⟨ι', s', ds, kss, ys, q1, en.mono e1, r1, ek, hc.1, hc.2.1, hc.2.2, ey, h1⟩
        · exact h1.elim
      · exact h1.elim
    · exact h1.elim
  obtain ⟨vs, H1, I1, rv, ι1, st1, ds, kss, ys, q1, en1, rd, hout, hpu, hdl, hz, hgo, hP⟩ := hs
  refine ⟨I1.kIn, ?_⟩
  have rd2 : RelDs (cg X) Z0 (rst H1) ds vs := rels_rst ds vs hpu rd
  have hvl : vs.length = ps.length := by rw [rd2.len]; exact hdl
  have hbt := hb s1 us I1.kIn (by rw [List.append_nil, ← rv.length]; exact hvl)
  rw [List.append_nil] at hbt
  have e0 := I1.env0
  have e0r : Env0 X.prog X.w X.K X.mg X.base X.A X.stack s1 (rst H1) := ⟨e0.frames, e0.mod, fun b o eb => ⟨(e0.bs b o eb).1, rst_none (e0.bs b o eb).2⟩, e0.bsz, e0.funs, fun b hb => rst_none (e0.frf b hb), rst_ok e0.hok, e0.bare⟩
  refine wpAny_nr (NR.refl s1.heap) (wpAny_call (codeAny_mono (F.run X.A X.stack s1 (rst H1) ⟨us, []⟩ us vs ds kss (hr.mono (by omega)) e0r (rst_only H1) hbt rv rd2 hpu hvl hout) fun r s2 hq => ?_))
  cases r with
  | error e => exact hq.elim
  | ok fl =>
  cases fl with
  | next => exact hq.elim
  | brk => exact hq.elim
  | cont => exact hq.elim
  | ret u =>
  obtain ⟨a2, go, g2, rfl, md⟩ := hq
  intro nr2
  have bs1 : X.base.objs.size ≤ s1.heap.objs.size := Nat.le_trans I1.ok.bsz I1.sz
  have flt : ∀ b ∈ L2.frs X.stack, b < s1.heap.objs.size := fun b hb => by
    obtain ⟨_, o, ho, _⟩ := I1.stack.mem hb
    exact Heap.lt_size ho
  have I2 : Inv X pins σ H1 s2 := I1.call' (ch := []) md.os (Un.kept md.keep) (I1.hok.kept md.keep) md.bare fun b z => by simp at z
  refine wpAny_pyIter_gen (md.gen _ md.at_) ?_
  refine wpAny_newObj_type (newEnv_comp ?_) (by show 0 ≤ sizeLine; decide)
  have hgt2 : a2 < s2.heap.objs.size := md.hi
  have h12 : s1.heap.objs.size ≤ s2.heap.objs.size := nr2.sz
  generalize hD : s2.heap.objs.size = Dl
  have hDn : H1 Dl = none := I2.hok.fresh (Nat.le_of_eq hD)
  generalize hs3 : ({ s2 with heap := s2.heap.push { cls := .type "list", data := .seq ([] : List Value).toArray } } : Shared) = s3
  have h3 : s3.heap = s2.heap.push { cls := .type "list", data := .seq ([] : List Value).toArray } := by rw [← hs3]
  have g3 : s3.gens = s2.gens := by rw [← hs3]
  have o3 : s3.os = s2.os := by rw [← hs3]
  have k23 : ∀ b o, s2.heap.get? b = some o → s3.heap.get? b = some o := fun b o e => by rw [h3]; exact Heap.get?_push_of_some _ e
  have d3 : s3.heap.get? Dl = some { cls := .type "list", data := .seq ([] : List Value).toArray } := by
    rw [h3, ← hD]
    exact Heap.get?_push_size _ rfl
  have z3 : s3.heap.objs.size = Dl + 1 := by rw [h3, Heap.size_push, hD]
  have I3 : Inv X pins σ (upd H1 Dl (.lst [])) s3 := by
    rw [← hs3]
    refine I2.laid (t' := s2.toks) (fun b o e => Heap.get?_push_of_some _ e) (Nat.le_of_eq hD) ⟨Nat.zero_le _, [], 0, .nil, ?_⟩
    rw [← hD]
    exact Heap.get?_push_size _ rfl
  let fp : List Addr := List.range' s1.heap.objs.size (Dl - s1.heap.objs.size)
  have hle : s1.heap.objs.size ≤ Dl := by rw [← hD]; exact h12
  have mfp : ∀ b : Nat, b ∈ fp ↔ s1.heap.objs.size ≤ b ∧ b < Dl := fun b => by
    show b ∈ List.range' s1.heap.objs.size (Dl - s1.heap.objs.size) ↔ _
    rw [List.mem_range'_1]
    omega
  have f3 : ∀ b ∈ fp, FpOk X pins (upd H1 Dl (.lst [])) b ∧ b < s3.heap.objs.size := fun b hb => by
    obtain ⟨h1, h2⟩ := (mfp b).1 hb
    refine ⟨I1.fpOk h1 ?_, by rw [z3]; exact Nat.lt_succ_of_lt h2⟩
    rw [upd_ne (Nat.ne_of_lt h2)]
    exact I1.hok.fresh h1
  have I4 := block_start I3 ok hN f3
  have pg := hg s3 (upd (rst H1) Dl (.lst [])) s3.heap.objs.size (cellsFrom (s3.heap.objs.size + 1) scope.names (cloFrom X.env.cells scope.names [])) fp
  have pt := ht s3 (upd (rst H1) Dl (.lst [])) s3.heap.objs.size (cellsFrom (s3.heap.objs.size + 1) scope.names (cloFrom X.env.cells scope.names [])) fp
  have pe := hel s3 (upd (rst H1) Dl (.lst [])) s3.heap.objs.size (cellsFrom (s3.heap.objs.size + 1) scope.names (cloFrom X.env.cells scope.names [])) fp
  show codeAny _ _ (.compStart (.ListComp elt [⟨.Name x px, .Call (.Name fn fpx) (e :: es) [] pos', ifs, 0⟩] scope pos) 0 (.ref a2) (.ref Dl) (compEnvC scope (cellsFrom (s3.heap.objs.size + 1) scope.names (cloFrom X.env.cells scope.names [])) s3.heap.objs.size X.env)) (compPost (model X.prog X.w) X.A X.xe none (EP X pins σ Q) (.ref Dl) s3.heap.objs.size) { s3 with heap := pushCells (s3.heap.push { cls := .type "dict", data := .dict #[] }) scope.names }
  generalize hce : compEnvC scope (cellsFrom (s3.heap.objs.size + 1) scope.names (cloFrom X.env.cells scope.names [])) s3.heap.objs.size X.env = ce at I4 pg pt pe ⊢
  have cL : ce.locals = s3.heap.objs.size := by subst hce; rfl
  have cC : ∀ y c, ce.cells.lookup y = some c → c < s1.heap.objs.size := fun y c ec => by
    have hcl : ce.cells = cellsFrom (s3.heap.objs.size + 1) scope.names (cloFrom X.env.cells scope.names []) := by subst hce; rfl
    rw [hcl, ← Heap.size_push s3.heap { cls := .type "dict", data := .dict #[] }] at ec
    rcases cells_mem (PySem.mem_of_lookup ec) with hm | ⟨z, _, _⟩
    · rcases cloFrom_mem hm with hm | ⟨z1, rfl⟩
      · cases hm
      · obtain ⟨c, hc⟩ := hfree _ z1 rfl
        rw [hc]
        obtain ⟨w, z⟩ := I1.cell _ _ hc
        exact z.lt
    · exact absurd rfl (hnc _ z)
  have k34 : ∀ b o, s3.heap.get? b = some o → (pushCells (s3.heap.push { cls := .type "dict", data := .dict #[] }) scope.names).get? b = some o := fun b o e => pushCells_keeps _ _ _ _ (Heap.get?_push_of_some _ e)
  have sz4 : s3.heap.objs.size ≤ (pushCells (s3.heap.push { cls := .type "dict", data := .dict #[] }) scope.names).objs.size := by
    obtain ⟨m, hn, _⟩ := I4.loc
    have := hn.lt
    rw [show (X.blk s3 (upd H1 Dl (.lst [])) scope ce fp).env.locals = s3.heap.objs.size from cL] at this
    exact Nat.le_of_lt this
  generalize hs4 : ({ s3 with heap := pushCells (s3.heap.push { cls := .type "dict", data := .dict #[] }) scope.names } : Shared) = s4 at I4 ⊢
  have h4 : s4.heap = pushCells (s3.heap.push { cls := .type "dict", data := .dict #[] }) scope.names := by rw [← hs4]
  have g4 : s4.gens = s3.gens := by rw [← hs4]
  have o4 : s4.os = s3.os := by rw [← hs4]
  rw [← h4] at k34 sz4
  have k24 : ∀ b o, s2.heap.get? b = some o → s4.heap.get? b = some o := fun b o e => k34 b o (k23 b o e)
  -- tuples and the list alone are looked after
  have non : ∀ b, upd H1 Dl (.lst []) b = none → upd (rst H1) Dl (.lst []) b = none := fun b e => by
    by_cases hb : b = Dl
    · subst hb
      rw [upd_same] at e
      cases e
    · rw [upd_ne hb] at e ⊢
      exact rst_none e
  have okB : (X.blk s3 (upd (rst H1) Dl (.lst [])) scope ce fp).Ok := ⟨I4.ok.mod, I4.ok.kind, I4.ok.glob, I4.ok.blt, I4.ok.above, I4.ok.inj, I4.ok.has, I4.ok.cab, I4.ok.hd, I4.ok.frames, I4.ok.stk, I4.ok.exf, fun b o e => ⟨(I4.ok.bs b o e).1, non b (I4.ok.bs b o e).2⟩, I4.ok.bsz, I4.ok.noex, I4.ok.exfs, I4.ok.funs, fun b hb => non b (I4.ok.frf b hb)⟩
  have IB : Inv (X.blk s3 (upd (rst H1) Dl (.lst [])) scope ce fp) [] (L2.wipe σ (own.map (·.2))) (upd (rst H1) Dl (.lst [])) s4 := by
    refine ⟨okB, I4.os, I4.bare, Un.kept k34, I4.loc, I4.cell, non _ I4.free, fun y c e => non _ (I4.freeC y c e), fun p hp => (nomatch hp), fun b u e => ?_, I4.len⟩
    by_cases hb : b = Dl
    · subst hb
      rw [upd_same] at e
      cases e
      have o5 : ObjOk X.prog X.w (upd H1 b (.lst [])) s4.heap b (.lst []) := I4.hok b _ upd_same
      exact o5
    · rw [upd_ne hb] at e
      obtain ⟨xs, rfl⟩ := rst_only H1 b u e
      have o5 : ObjOk X.prog X.w (upd H1 Dl (.lst [])) s4.heap b (.tup xs) := I4.hok b _ (by rw [upd_ne hb]; exact rst_tup.1 e)
      exact o5
  have szD : s2.heap.objs.size ≤ Dl := Nat.le_of_eq hD
  obtain ⟨p2, hp1, hp2, hp3, hp4, hp5, hp6, hp7, hp8, hp9, hw⟩ := md.wake [Dl, ce.locals] s1.heap rfl (fun b o e => ⟨o, e⟩) fun b hb => by
    have hbd : Dl ≤ (b : Nat) := by
      rcases List.mem_cons.mp hb with z | z
      · exact Nat.le_of_eq z.symm
      · rw [List.mem_singleton.mp z, cL, z3]
        exact Nat.le_succ _
    have hb1 : s1.heap.objs.size ≤ (b : Nat) := Nat.le_trans hle hbd
    exact ⟨Heap.get?_none_of_le (Nat.le_trans bs1 hb1), rst_none (I1.hok.fresh hb1), fun z => absurd (Nat.lt_of_lt_of_le (flt b z) hb1) (Nat.lt_irrefl _), .inr (by rw [hD]; exact hbd)⟩
  have hn0 : p2.n0 = s1.heap.objs.size := by show p2.sc.objs.size = _; rw [hp7]
  have cb : CBk (X.blk s3 (upd (rst H1) Dl (.lst [])) scope ce fp) p2 Dl := by
    refine ⟨hp1, hp2, by rw [hp3], rfl, rfl, hp9, hp4, fun b hb => by rw [hn0]; exact flt b hb, fun b hb => by rw [hn0]; exact ((mfp b).1 hb).1, fun b o e => ?_, fun b h1 h2 => ?_, by rw [hn0]; show _ ≤ s3.heap.objs.size; rw [z3]; exact Nat.le_succ_of_le hle, by rw [hn0]; exact hle, by show Dl < s3.heap.objs.size; rw [z3]; exact Nat.lt_succ_self _, by rw [hp8]; exact rst_only H1, fun b u e => ?_, by rw [hp8], fun y c ec => by rw [hn0]; exact cC y c ec, fun b o e => ?_⟩
    · rw [hp7] at e
      exact ⟨o, k23 b o (md.keep b o e)⟩
    · rw [hn0] at h1
      have h2' : (b : Nat) < s3.heap.objs.size := h2
      rw [z3] at h2'
      rcases Nat.lt_or_ge (b : Nat) Dl with hb | hb
      · exact .inl ((mfp b).2 ⟨h1, hb⟩)
      · exact .inr (Nat.le_antisymm (Nat.le_of_lt_succ h2') hb)
    · rw [hp8] at e
      obtain ⟨xs, rfl⟩ := rst_only H1 b u e
      have o5 : ObjOk X.prog X.w H1 s1.heap b (.tup xs) := I1.hok b _ (rst_tup.1 e)
      rw [hn0]
      exact o5.lt
    · rw [hn0]
      exact Nat.lt_of_lt_of_le (Heap.lt_size e) bs1
  have smE : SmH p2 Dl [] = upd (rst H1) Dl (.lst []) := by show upd p2.HC Dl (.lst []) = _; rw [hp8]
  have room : RoomG k X.A.in1 := (⟨(hr.mono (show k + 1 ≤ k + 3 by omega)).r.in1, hr.g⟩ : RoomG k X.A.in1)
  have asl : Asl X.prog X.w p2 X.A.in1 kss kss.length s4 := by
    refine (hw X.A.in1 room I1.ok.frames).slp ?_ fun y hy => by rw [g4, g3]; exact hy
    refine ⟨by rw [o4, o3], by rw [g4, g3]; exact md.bare, Nat.le_trans szD (Nat.le_trans (by rw [z3]; exact Nat.le_succ _) sz4), fun b o _ e => k24 b o e, fun b o _ _ _ e => k24 b o e, TK.kept k24, fun b _ o _ e => ⟨o, k24 b o e⟩, fun b hb => ?_, fun b o _ e hd => ⟨o, k24 b o e, hd⟩, fun j y _ _ e => by rw [g4, g3]; exact e, by rw [g4, g3]; exact Nat.le_refl _⟩
    rw [hp4] at hb
    rcases List.mem_cons.mp hb with z | z
    · rw [z]
      exact ⟨_, k34 _ _ d3, fun v q => by cases q⟩
    · obtain ⟨m, ⟨o, es2, ep, ho, hd, _⟩, _⟩ := I4.loc
      rw [List.mem_singleton.mp z]
      exact ⟨o, ho, fun v q => by rw [hd] at q; cases q⟩
  have nr4 : NR p2.sc s4.heap := by
    rw [hp7]
    have n3 : NR s2.heap s3.heap := by rw [h3]; exact NR.push _ _
    have n4 : NR s3.heap s4.heap := by rw [h4]; exact (NR.push _ _).trans (nr_cells _ _)
    exact nr2.trans (n3.trans n4)
  have hA4 : s4.heap.get? a2 = some go := k24 a2 go md.at_
  have hmask := pure_mask (wipeD ρ (own.map (·.2)))
  have enB : EnvR (cg X) Z0 p2.HC (L2.wipe σ (own.map (·.2))) (maskE (wipeD ρ (own.map (·.2)))) := by
    rw [hp8]
    exact env_rst hmask (env_mask (en1.wipe _))
  have loop : codeAny (model X.prog X.w) X.A (.compLoop (.ListComp elt [⟨.Name x px, .Call (.Name fn fpx) (e :: es) [] pos', ifs, 0⟩] scope pos) 0 (.ref a2) (.ref Dl) ce) (compPost (model X.prog X.w) X.A X.xe none (EP X pins σ Q) (.ref Dl) s3.heap.objs.size) s4 := by
    refine loopB (XB := X.blk s3 (upd (rst H1) Dl (.lst [])) scope ce fp) (W := W0) (vs := own.map (·.2)) (σ := σ) (kss := kss) (ys := ys) (i := i) (tt := tt) (el := el) cb hr.r.hd (by have := hr.r.dp; show X.A.depth < _; omega) hi hv pg pt pe hp6 (by rw [hp5]; exact md.gen) (by rw [hn0]; exact md.lo) (Nat.ne_of_lt (by rw [← hD]; exact hgt2)) (by show a2 < s3.heap.objs.size; rw [z3, ← hD]; exact Nat.lt_succ_of_lt hgt2) (le_LIM hz) enB hmask ?_ kss.length s4 ⟨kss, [], [], rfl, rfl, Nat.le_refl _, fun d hd => (by cases hd), hgo, ?_, asl, hA4, nr4⟩
    · intro s6 I6 hat hyl _
      have smY : SmH p2 Dl (ys.map atV) = upd (rst H1) Dl (.lst (ys.map atV)) := by show upd p2.HC Dl _ = _; rw [hp8]
      rw [smY] at I6
      -- back in the def's context
      have hok7 : HOk X.prog X.w (upd H1 Dl (.lst (ys.map atV))) s6.heap := fun b u eu => by
        by_cases hb : b = Dl
        · subst hb
          rw [upd_same] at eu
          cases eu
          have o5 : ObjOk X.prog X.w (upd (rst H1) b (.lst (ys.map atV))) s6.heap b (.lst (ys.map atV)) := I6.hok b _ upd_same
          exact o5
        · rw [upd_ne hb] at eu
          cases hu : u with
          | tup xs =>
            subst hu
            have o5 : ObjOk X.prog X.w (upd (rst H1) Dl (.lst (ys.map atV))) s6.heap b (.tup xs) := I6.hok b _ (by rw [upd_ne hb]; exact rst_tup.2 eu)
            exact o5
          | _ =>
            subst hu
            have o5 := I3.hok b _ (show upd H1 Dl (.lst []) b = some _ by rw [upd_ne hb]; exact eu)
            refine o5.stay (fun c v hc z => ?_) (fun c z => ?_) fun c xs z => ?_
            · have hcD : c ≠ Dl := by
                rcases hc with hc | hc
                · rw [hc]; exact hb
                · rintro rfl
                  rw [upd_same] at hc
                  cases hc
              have hcn : upd (rst H1) Dl (.lst []) c = none := by
                rw [upd_ne hcD]
                rcases hc with hc | hc
                · rw [hc]; unfold rst; rw [eu]
                · rw [upd_ne hcD] at hc
                  unfold rst; rw [hc]
              have hc1 : H1 c ≠ none := by
                rcases hc with hc | hc
                · rw [hc, eu]; simp
                · rw [upd_ne hcD] at hc
                  rw [hc]; simp
              have hcs : c < s1.heap.objs.size := by
                cases q : H1 c with
                | none => exact absurd q hc1
                | some w => exact (I1.hok c w q).lt
              exact I6.base.keep c v z hcn (fun hf => hc1 (I1.stkFree c hf)) fun hx => absurd (Nat.lt_of_lt_of_le hcs ((mfp c).1 hx).1) (Nat.lt_irrefl _)
            · by_cases hcD : c = Dl
              · subst hcD
                rw [upd_same] at z
                cases z
              · rw [upd_ne hcD] at z ⊢
                exact z
            · by_cases hcD : c = Dl
              · subst hcD
                rw [upd_same] at z
                cases z
              · rw [upd_ne hcD] at z ⊢
                exact z
      have I7 : Inv X pins σ (upd H1 Dl (.lst (ys.map atV))) s6 := by
        refine I3.call' (ch := fp) I6.os ⟨fun b o eb n hf hx => I6.base.keep b o eb (non b n) hf hx, fun b o eb n hf hx => I6.base.slot b o eb (non b n) hf hx, fun b o eb n hx => ?_, fun b o eb hx => I6.base.there b o eb hx, fun b xs eb => ?_, fun b o u eb => ?_, fun b qs eb => ⟨#[], ?_⟩⟩ hok7 I6.bare fun b hb => ?_
        · by_cases hbD : b = Dl
          · subst hbD
            rw [upd_same] at n
            cases n
          · rw [upd_ne hbD] at n ⊢
            exact n
        · by_cases hbD : b = Dl
          · subst hbD
            rw [upd_same] at eb
            cases eb
          · rw [upd_ne hbD] at eb ⊢
            exact eb
        · by_cases hbD : b = Dl
          · subst hbD
            rw [upd_same] at eb
            cases eb
          · rw [upd_ne hbD] at eb ⊢
            exact eb
        · by_cases hbD : b = Dl
          · subst hbD
            rw [upd_same] at eb
            cases eb
          · rw [upd_ne hbD] at eb ⊢
            rw [Array.append_empty]
            exact eb
        · have z := (f3 b hb).1
          exact ⟨z.2.2.2.1, z.2.1, z.2.2.2.2.1, z.2.2.2.2.2⟩
      have nC : upd H1 Dl (.lst (ys.map atV)) s3.heap.objs.size = none := by
        rw [upd_ne (by rw [z3]; exact Nat.succ_ne_self _)]
        exact I1.hok.fresh (by rw [z3]; exact Nat.le_succ_of_le hle)
      obtain ⟨mm, hn, _⟩ := I6.loc
      have hn' : s6.heap.Ns ce.locals mm := hn
      rw [cL] at hn'
      obtain ⟨f0, f1, f2, f3', f4, f5⟩ := I3.fpOk (H' := upd H1 Dl (.lst (ys.map atV))) (Nat.le_refl _) nC
      refine ⟨mm, hn', fun h'' sb => ⟨.ref Dl, upd H1 Dl (.lst (ys.map atV)), I7.turned (t' := s6.toks) (fun b o hb eb => (sb.2 b hb).trans eb) f0 f1 f3' f4 f5, rfl, ?_⟩⟩
      have e3 : Ext ι1 H1 ι1 (upd H1 Dl (.lst (ys.map atV))) := .new hDn
      refine hP ι1 _ e3 (q1.new hDn) (.ref Dl) ?_
      simp only [RelD]
      exact ⟨Dl, ys.map atV, rfl, ⟨q1.off hDn, upd_same⟩, ats_rel hat⟩
    · rw [show ([] : List D).map atV = [] from rfl, smE]
      exact IB
  exact codeAny_compStart_list loop (wpAny_pyIter_gen (md.gen _ hA4) loop)
end
section
variable {X : Cx} {W : WX} {fn : Str} {k j n i : Nat} {out : FGen} {e : Expr} {es : List Expr} {ma : MA} {px fpx pos pos' : Pos} {x : Str} {elt : Expr} {ifs : List Expr} {scope : Scope} {own : List (Str × Nat)} {tt : MT} {el : ME}
theorem ve_lcGC (c : GCl X.prog X.w X.K X.mg X.base k fn n out) (hr : RoomG j X.A) (hj : k + 3 ≤ j) (hG : Gl X fn) (ha : VA X W (e :: es) ma) (hN : X.N.Nodup) (ok : BlkOk X.N X.env.scope scope own) (hi : X.N[i]? = some x) (hv : i ∈ own.map (·.2)) (hnc : ∀ y ∈ scope.names, y.2 ≠ .cell)
    (hg : ∀ (s : Shared) (H : Hp) (C : Addr) (cl : List (Str × Addr)) (fp : List Addr), PG (X.blk s H scope (compEnvC scope cl C X.env) fp) (.Name x px) (gName i))
    (ht : ∀ (s : Shared) (H : Hp) (C : Addr) (cl : List (Str × Addr)) (fp : List Addr), PTs (X.blk s H scope (compEnvC scope cl C X.env) fp) ifs (rdT (cg X) W0 tt))
    (hel : ∀ (s : Shared) (H : Hp) (C : Addr) (cl : List (Str × Addr)) (fp : List Addr), PE (X.blk s H scope (compEnvC scope cl C X.env) fp) elt (rdE (cg X) W0 el))
    (hs : ∀ y, foldedSetIterable (.Call (.Name fn fpx) (e :: es) [] pos') X.env y = pure y := by intro _; rfl) (hdb2 : (fn == ("__debug__" : Str)) = false := by decide)
    (he : starEach (e :: es) X.env = (false, eval e X.env) :: starEach es X.env := by rfl) (hpl : (backTo pos' (starEach es X.env)).any (·.1) = false := by rfl) :
    VE X W (.ListComp elt [⟨.Name x px, .Call (.Name fn fpx) (e :: es) [] pos', ifs, 0⟩] scope pos) (mLcG n out ma i tt el (own.map (·.2))) := by
  obtain ⟨f, fd, ps, F, hn, hm, hk, hb⟩ := c.ex
  subst hn
  exact ve_lcG hG hm hk hb F (hr.mono hj) ha hN hi hv ok hnc hg ht hel hs hdb2 he hpl
end
end VL
namespace W
open PySem PySem.Spec PyProof.Rows L2 VL
def top (i : Nat) : Stmt := PySem.Challenge.pw_lastofkind_k30_whole_orders_and_sets.main.body.getD i (.Pass ⟨0, 0, 0, 0⟩)
end W
namespace Hd
open PySem PySem.Spec PyProof.Rows L2 VL
open W (top)
def d10 : He.DefD := ⟨("is_whole", none), "is_whole", "is_whole", defArgs (top 10), defBody (top 10), defScope (top 10), [], []⟩
def d11 : He.DefD := ⟨("is_between", none), "is_between", "is_between", defArgs (top 11), defBody (top 11), defScope (top 11), [], []⟩
def d12 : He.DefD := ⟨("are_states", none), "are_states", "are_states", defArgs (top 12), defBody (top 12), defScope (top 12), [], []⟩
def d13 : He.DefD := ⟨("is_kind", none), "is_kind", "is_kind", defArgs (top 13), defBody (top 13), defScope (top 13), [], []⟩
def d14 : He.DefD := ⟨("is_system", none), "is_system", "is_system", defArgs (top 14), defBody (top 14), defScope (top 14), [], []⟩
def d15 : He.DefD := ⟨("need_system", none), "need_system", "need_system", defArgs (top 15), defBody (top 15), defScope (top 15), [], []⟩
def d16 : He.DefD := ⟨("is_log", none), "is_log", "is_log", defArgs (top 16), defBody (top 16), defScope (top 16), [], []⟩
def d17 : He.DefD := ⟨("need_log", none), "need_log", "need_log", defArgs (top 17), defBody (top 17), defScope (top 17), [], []⟩
def d18 : He.DefD := ⟨("run_from", none), "run_from", "run_from", defArgs (top 18), defBody (top 18), defScope (top 18), [], []⟩
def d19 : He.DefD := ⟨("outcome_of", none), "outcome_of", "outcome_of", defArgs (top 19), defBody (top 19), defScope (top 19), [], []⟩
def d20 : He.DefD := ⟨("outcome", none), "outcome", "outcome", defArgs (top 20), defBody (top 20), defScope (top 20), [], []⟩
def d21 : He.DefD := ⟨("paths_of", none), "paths_of", "paths_of", defArgs (top 21), defBody (top 21), defScope (top 21), [], []⟩
def d22 : He.DefD := ⟨("reached", none), "reached", "reached", defArgs (top 22), defBody (top 22), defScope (top 22), [], []⟩
def d23 : He.DefD := ⟨("path", none), "path", "path", defArgs (top 23), defBody (top 23), defScope (top 23), [], []⟩
def d24 : He.DefD := ⟨("first_apart", none), "first_apart", "first_apart", defArgs (top 24), defBody (top 24), defScope (top 24), [], []⟩
def d25 : He.DefD := ⟨("apart", none), "apart", "apart", defArgs (top 25), defBody (top 25), defScope (top 25), [], []⟩
def d28 : He.DefD := ⟨("order_of", none), "order_of", "order_of", defArgs (top 28), defBody (top 28), defScope (top 28), [], []⟩
def d29 : He.DefD := ⟨("order_fault", none), "order_fault", "order_fault", defArgs (top 29), defBody (top 29), defScope (top 29), [], []⟩
def d30 : He.DefD := ⟨("by_set", none), "by_set", "by_set", defArgs (top 30), defBody (top 30), defScope (top 30), [], []⟩
def d31 : He.DefD := ⟨("orders_of", none), "orders_of", "orders_of", defArgs (top 31), defBody (top 31), defScope (top 31), [], []⟩
def d32 : He.DefD := ⟨("orders", none), "orders", "orders", defArgs (top 32), defBody (top 32), defScope (top 32), [], []⟩
def d34 : He.DefD := ⟨("_law_cell_at", none), "_law_cell_at", "_law_cell_at", defArgs (top 34), defBody (top 34), defScope (top 34), [], []⟩
def d35 : He.DefD := ⟨("_law_pen", none), "_law_pen", "_law_pen", defArgs (top 35), defBody (top 35), defScope (top 35), [], []⟩
def d36 : He.DefD := ⟨("_law_draw", none), "_law_draw", "_law_draw", defArgs (top 36), defBody (top 36), defScope (top 36), [], []⟩
def d37 : He.DefD := ⟨("_law_pick", none), "_law_pick", "_law_pick", defArgs (top 37), defBody (top 37), defScope (top 37), [], []⟩
def d38 : He.DefD := ⟨("_law_drawn", none), "_law_drawn", "_law_drawn", defArgs (top 38), defBody (top 38), defScope (top 38), [], []⟩
def d39 : He.DefD := ⟨("_law_cells", none), "_law_cells", "_law_cells", defArgs (top 39), defBody (top 39), defScope (top 39), [], []⟩
def d40 : He.DefD := ⟨("_law_marks", none), "_law_marks", "_law_marks", defArgs (top 40), defBody (top 40), defScope (top 40), [], []⟩
def d41 : He.DefD := ⟨("_law_turns", none), "_law_turns", "_law_turns", defArgs (top 41), defBody (top 41), defScope (top 41), [], []⟩
def d42 : He.DefD := ⟨("_law_system", none), "_law_system", "_law_system", defArgs (top 42), defBody (top 42), defScope (top 42), [], []⟩
def d43 : He.DefD := ⟨("_law_log", none), "_law_log", "_law_log", defArgs (top 43), defBody (top 43), defScope (top 43), [], []⟩
def d44 : He.DefD := ⟨("_law_fault_right", none), "_law_fault_right", "_law_fault_right", defArgs (top 44), defBody (top 44), defScope (top 44), [], []⟩
def d45 : He.DefD := ⟨("_law_set_right", none), "_law_set_right", "_law_set_right", defArgs (top 45), defBody (top 45), defScope (top 45), [], []⟩
def d46 : He.DefD := ⟨("_law_right", none), "_law_right", "_law_right", defArgs (top 46), defBody (top 46), defScope (top 46), [], []⟩
def d47 : He.DefD := ⟨("law", none), "law", "law", defArgs (top 47), defBody (top 47), defScope (top 47), [], []⟩
def fn : List He.DefD := [d10, d11, d12, d13, d14, d15, d16, d17, d18, d19, d20, d21, d22, d23, d24, d25, d28, d29, d30, d31, d32, d34, d35, d36, d37, d38, d39, d40, d41, d42, d43, d44, d45, d46, d47]
def fa : List He.Fa := [.glo "is_whole", .glo "is_between", .glo "are_states", .glo "is_kind", .glo "is_system", .glo "need_system", .glo "is_log", .glo "need_log", .glo "run_from", .glo "outcome_of", .glo "outcome", .glo "paths_of", .glo "reached", .glo "path", .glo "first_apart", .glo "apart", .glo "order_of", .glo "order_fault", .glo "by_set", .glo "orders_of", .glo "orders", .glo "_law_cell_at", .glo "_law_pen", .glo "_law_draw", .glo "_law_pick", .glo "_law_drawn", .glo "_law_cells", .glo "_law_marks", .glo "_law_turns", .glo "_law_system", .glo "_law_log", .glo "_law_fault_right", .glo "_law_set_right", .glo "_law_right", .glo "law", .free "all", .free "any", .free "dict", .free "enumerate", .free "int", .free "bool", .free "isinstance", .free "len", .free "list", .free "max", .free "min", .free "range", .free "repr", .free "set", .free "sorted", .free "str", .free "sum", .free "tuple", .free "zip", .free "ValueError", .int "MOST_STATES" 6, .int "MOST_OPERATIONS" 6, .int "MOST_KIND" 9, .int "MOST_ENTRIES" 6]
abbrev R : PySem.W.OpenRow := PySem.W.OpenLaw.row PySem.Challenge.rw_lastofkind_k30_whole_orders_and_sets
abbrev hk : PySem.W.Hook := He.hookD 4 fa fn
def ob (s : PySem.W.SharedT) : He.AlD := He.obsDG 4 fa fn (HandSHeadRun.getT s)
theorem ob_eq (s : PySem.W.SharedT) : ob s = hk.obs s.abs := He.obsDG_eq (HandSHeadRun.getT_eq s)
def loose0 : List PySem.Str := ["KindError", "NoSystem", "NoLog", "NoState", "TooMany", "MOST_STATES", "MOST_OPERATIONS", "MOST_KIND", "is_whole", "is_between", "are_states", "is_kind", "is_system", "need_system", "is_log", "need_log", "run_from", "outcome_of", "outcome", "paths_of", "reached", "path", "first_apart", "apart", "MOST_ENTRIES", "order_of", "order_fault", "by_set", "orders_of", "orders"]
def loose1 : List PySem.Str := ["_law_cell_at", "_law_pen", "_law_draw", "_law_pick", "_law_drawn", "_law_cells", "_law_marks", "_law_turns", "_law_system", "_law_log", "_law_fault_right", "_law_set_right", "_law_right"]
def loose : List PySem.Str := loose0 ++ loose1
theorem run (w : World) : HandSHeadRun.RunEq R (PySem.W.view R.prog [47]) hk ob 40000 loose w := by
  intro os
  kernel_rfl
end Hd
namespace VL
open PySem PySem.Spec PyProof.Rows L2
noncomputable def m_is_whole : FM := mFn 1 (mRet (mAndV (mCall fIsi (mCons (mVar 0) (mCons (mC (.ty "int")) mNil))) (mNotV (mCall fIsi (mCons (mVar 0) (mCons (mC (.ty "bool")) mNil))))))
noncomputable def m_is_between : FM := mFn 3 (mRet (mAndV (mUser m_is_whole (mCons (mVar 0) mNil)) (mChn opLe opLe (mVar 1) (mVar 0) (mVar 2))))
noncomputable def m_are_states : FM := mFn 4 (mRet (mAndV (mCall fIsi (mCons (mVar 0) (mCons (mC (.ty "tuple")) mNil))) (mAndV (mBin opEq (mCall fLen (mCons (mVar 0) mNil)) (mVar 1)) (mCall fAll (mCons (mLc (mSrc (mVar 0)) (.one 3) mYes (mUser m_is_between (mCons (mVar 3) (mCons (mC (.int 0)) (mCons (mBin opSub (mVar 2) (mC (.int 1))) mNil)))) [3]) mNil)))))
noncomputable def m_is_kind : FM := mFn 1 (mRet (mOrV (mBin opIsN (mVar 0) (mC .non)) (mUser m_is_between (mCons (mVar 0) (mCons (mC (.int 0)) (mCons (mC (.int 9)) mNil))))))
noncomputable def m_is_system : FM := mFn 6 (mSeq (mIfS (mOrT (mNotT (mB (mCall fIsi (mCons (mVar 0) (mCons (mC (.ty "tuple")) mNil))))) (mOrT (mB (mBin opNe (mCall fLen (mCons (mVar 0) mNil)) (mC (.int 4)))) (mNotT (mB (mUser m_is_between (mCons (mBin opIx (mVar 0) (mC (.int 0))) (mCons (mC (.int 1)) (mCons (mC (.int 6)) mNil))))))))
(mRet (mC (.bl false)))
mSkip)
(mSeq (mAsg (mVar 0) (gT 4 (gConsM (gN 1) (gConsM (gN 2) (gConsM (gN 3) (gConsM (gN 4) gNilM))))))
(mSeq (mIfS (mOrT (mNotT (mB (mUser m_is_between (mCons (mVar 2) (mCons (mC (.int 0)) (mCons (mBin opSub (mVar 1) (mC (.int 1))) mNil)))))) (mOrT (mNotT (mB (mCall fIsi (mCons (mVar 3) (mCons (mC (.ty "tuple")) mNil))))) (mNotT (mB (mCall fIsi (mCons (mVar 4) (mCons (mC (.ty "tuple")) mNil)))))))
(mRet (mC (.bl false)))
mSkip)
(mSeq (mIfS (mOrT (mNotT (mB (mChn opLe opLe (mC (.int 1)) (mCall fLen (mCons (mVar 3) mNil)) (mC (.int 6))))) (mB (mBin opNe (mCall fLen (mCons (mVar 4) mNil)) (mCall fLen (mCons (mVar 3) mNil)))))
(mRet (mC (.bl false)))
mSkip)
(mRet (mAndV (mCall fAll (mCons (mLc (mSrc (mVar 3)) (.one 5) mYes (mUser m_are_states (mCons (mVar 5) (mCons (mVar 1) (mCons (mVar 1) mNil)))) [5]) mNil)) (mCall fAll (mCons (mLc (mSrc (mVar 4)) (.one 5) mYes (mUser m_is_kind (mCons (mVar 5) mNil)) [5]) mNil))))))))
noncomputable def m_need_system : FM := mFn 1 (mIfS (mNotT (mB (mUser m_is_system (mCons (mVar 0) mNil))))
mBad
mSkip)
noncomputable def m_paths_of : FM := mFn 7 (mSeq (mAsg (mDisp1 (mBin opIx (mVar 0) (mC (.int 1))) (mTup mNil)) (gN 1))
(mSeq (mAsg (mLstO (mCons (mBin opIx (mVar 0) (mC (.int 1))) mNil)) (gN 2))
(mSeq (mAsg (mC (.int 0)) (gN 3))
(mSeq (mWhile (mB (mBin opLt (mVar 3) (mCall fLen (mCons (mVar 2) mNil))))
(mSeq (mAsg (mBin opIx (mVar 2) (mVar 3)) (gN 4))
(mSeq (mAugAdd 3 (mC (.int 1)))
(mFor (mEnum (mCons (mBin opIx (mVar 0) (mC (.int 2))) mNil)) (gT 2 (gConsM (gN 5) (gConsM (gN 6) gNilM)))
(mIfS (mB (mBin opNotInD (mBin opIx (mVar 6) (mVar 4)) (mVar 1)))
(mSeq (mAsg (mBin opAdd (mBin opIxU (mVar 1) (mVar 4)) (mTup (mCons (mVar 5) mNil))) (gIxU (mVar 1) (mBin opIx (mVar 6) (mVar 4))))
(mDrop (mAppend (mVar 2) (mBin opIx (mVar 6) (mVar 4)))))
mSkip)))) 2000)
(mRet (mVar 1))))))
noncomputable def m_reached : FM := mFn 1 (mRet (mCall fTuple (mCons (mCall fSortedU (mCons (mUser m_paths_of (mCons (mVar 0) mNil)) mNil)) mNil)))
noncomputable def m_are_moves : FM := mFn 3 (mSeq (mIfS (mOrT (mNotT (mB (mCall fIsi (mCons (mVar 1) (mCons (mC (.ty "tuple")) mNil))))) (mB (mBin opNe (mCall fLen (mCons (mVar 1) mNil)) (mCall fLen (mCons (mVar 0) mNil)))))
(mRet (mC (.bl false)))
mSkip)
(mRet (mCall fAll (mCons (mLc (mSrc (mVar 1)) (.one 2) mYes (mAndV (mUser m_is_whole (mCons (mVar 2) mNil)) (mBin opIn (mVar 2) (mVar 0))) [2]) mNil))))
noncomputable def m_Effect_init : FM := mFn 4 (mSeq (mDrop (mUser m_need_system (mCons (mVar 1) mNil)))
(mSeq (mAsg (mUser m_reached (mCons (mVar 1) mNil)) (gN 3))
(mSeq (mIfS (mNotT (mB (mUser m_are_moves (mCons (mVar 3) (mCons (mVar 2) mNil)))))
mBad
mSkip)
(mSeq (mSetFld ["Effect"] "home" (mVar 0) (mVar 1))
(mSeq (mSetFld ["Effect"] "states" (mVar 0) (mVar 3))
(mSetFld ["Effect"] "goals" (mVar 0) (mVar 2)))))))
noncomputable def m_Store_init : FM := mFn 2 (mSeq (mDrop (mUser m_need_system (mCons (mVar 1) mNil)))
(mSeq (mSetFld ["Store"] "home" (mVar 0) (mVar 1))
(mSeq (mSetFld ["Store"] "log" (mVar 0) (mTup mNil))
(mSetFld ["Store"] "past" (mVar 0) (mTup mNil)))))
noncomputable def m__wall : FM := mFn 1 (mWhile (mB (mC (.bl true)))
mSkip 2000)
noncomputable def m_is_log : FM := mFn 3 (mRet (mAndV (mCall fIsi (mCons (mVar 1) (mCons (mC (.ty "tuple")) mNil))) (mCall fAll (mCons (mLc (mSrc (mVar 1)) (.one 2) mYes (mUser m_is_between (mCons (mVar 2) (mCons (mC (.int 0)) (mCons (mBin opSub (mCall fLen (mCons (mBin opIx (mVar 0) (mC (.int 2))) mNil)) (mC (.int 1))) mNil)))) [2]) mNil))))
noncomputable def m_need_log : FM := mFn 2 (mIfS (mNotT (mB (mUser m_is_log (mCons (mVar 0) (mCons (mVar 1) mNil)))))
mBad
mSkip)
noncomputable def m_need_operation : FM := mFn 2 (mIfS (mNotT (mB (mUser m_is_between (mCons (mVar 1) (mCons (mC (.int 0)) (mCons (mBin opSub (mCall fLen (mCons (mBin opIx (mVar 0) (mC (.int 2))) mNil)) (mC (.int 1))) mNil))))))
mBad
mSkip)
noncomputable def m_run_from : FM := mFn 4 (mSeq (mFor (mSrc (mVar 2)) (gN 3)
(mAsg (mBin opIx (mBin opIx (mBin opIx (mVar 0) (mC (.int 2))) (mVar 3)) (mVar 1)) (gN 1)))
(mRet (mVar 1)))
noncomputable def m__law_draw : FM := mFn 4 (mSeq (mIfS (mB (mBin opGt (mBin opIx (mVar 0) (mC (.int 0))) (mC (.int 0))))
(mSeq (mAsg (mBin opMod (mBin opIx (mVar 0) (mC (.int 0))) (mVar 1)) (gN 2))
(mSeq (mAsg (mBin opDiv (mBin opIx (mVar 0) (mC (.int 0))) (mVar 1)) (gIx (mVar 0) (mC (.int 0))))
(mRet (mVar 2))))
mSkip)
(mSeq (mAsg (mBin opAdd (mBin opIx (mVar 0) (mC (.int 2))) (mC (.int 1))) (gIx (mVar 0) (mC (.int 2))))
(mSeq (mAsg (mBin opMod (mBin opMul (mBin opAdd (mBin opIx (mVar 0) (mC (.int 1))) (mBin opMul (mC (.int 17)) (mBin opIx (mVar 0) (mC (.int 2))))) (mBin opAdd (mC (.int 69621)) (mBin opMul (mC (.int 2)) (mBin opIx (mVar 0) (mC (.int 2)))))) (mC (.int 2147483647))) (gN 3))
(mSeq (mAsg (mBin opMod (mBin opAdd (mBin opAdd (mBin opMul (mVar 3) (mVar 3)) (mBin opMul (mC (.int 40503)) (mBin opIx (mVar 0) (mC (.int 2))))) (mC (.int 5))) (mC (.int 2147483629))) (gN 3))
(mRet (mBin opMod (mBin opDiv (mBin opMod (mBin opMul (mVar 3) (mC (.int 48271))) (mC (.int 2147483647))) (mC (.int 32))) (mVar 1)))))))
noncomputable def m__law_pick : FM := mFn 2 (mRet (mBin opIx (mVar 1) (mUser m__law_draw (mCons (mVar 0) (mCons (mCall fLen (mCons (mVar 1) mNil)) mNil)))))
noncomputable def m__law_pen : FM := mFn 1 (mRet (mLstO (mCons (mCall fMax2 (mCons (mC (.int 0)) (mCons (mBin opSub (mVar 0) (mBin opPow (mC (.int 10)) (mC (.int 18)))) mNil))) (mCons (mBin opMod (mVar 0) (mC (.int 1000000007))) (mCons (mC (.int 0)) mNil)))))
noncomputable def m__law_cell_at : FM := mFn 2 (mSeq (mIfS (mB (mBin opLt (mVar 1) (mCall fLen (mCons (mVar 0) mNil))))
(mRet (mBin opIx (mVar 0) (mVar 1)))
mSkip)
(mRet (mC (.int 0))))
noncomputable def m__law_drawn : FM := mFn 7 (mSeq (mAsg (mTup (mCons (mBin opAdd (mC (.int 1)) (mUser m__law_draw (mCons (mVar 0) (mCons (mC (.int 6)) mNil)))) (mCons (mBin opAdd (mC (.int 1)) (mUser m__law_draw (mCons (mVar 0) (mCons (mC (.int 5)) mNil)))) mNil))) (gT 2 (gConsM (gN 1) (gConsM (gN 2) gNilM))))
(mSeq (mPar 3 4 (mCons (mLstO mNil) (mCons (mLstO mNil) mNil)))
(mSeq (mFor (mRng1 (mCons (mVar 2) mNil)) (gN 5)
(mSeq (mDrop (mAppend (mVar 3) (mCall fTuple (mCons (mLc (mRng1 (mCons (mVar 1) mNil)) (.one 6) mYes (mUser m__law_draw (mCons (mVar 0) (mCons (mVar 1) mNil))) [6]) mNil))))
(mDrop (mAppend (mVar 4) (mUser m__law_pick (mCons (mVar 0) (mCons (mLst (mCons (mC .non) (mCons (mC (.int 0)) (mCons (mC (.int 1)) (mCons (mC (.int 0)) (mCons (mC (.int 7)) mNil)))))) mNil)))))))
(mRet (mTup (mCons (mVar 1) (mCons (mUser m__law_draw (mCons (mVar 0) (mCons (mVar 1) mNil))) (mCons (mCall fTuple (mCons (mVar 3) mNil)) (mCons (mCall fTuple (mCons (mVar 4) mNil)) mNil)))))))))
noncomputable def m__law_cells : FM := mFn 11 (mSeq (mAsg (mUser m__law_pick (mCons (mVar 0) (mCons (mLst (mCons (mTup (mCons (mC (.int 2)) (mCons (mC (.int 2)) mNil))) (mCons (mTup (mCons (mC (.int 2)) (mCons (mC (.int 3)) mNil))) (mCons (mTup (mCons (mC (.int 3)) (mCons (mC (.int 2)) mNil))) (mCons (mTup (mCons (mC (.int 1)) (mCons (mC (.int 4)) mNil))) (mCons (mTup (mCons (mC (.int 6)) (mCons (mC (.int 1)) mNil))) mNil)))))) mNil))) (gT 2 (gConsM (gN 1) (gConsM (gN 2) gNilM))))
(mSeq (mPar 3 4 (mCons (mLstO mNil) (mCons (mLstO mNil) mNil)))
(mSeq (mAsg (mUser m__law_pick (mCons (mVar 0) (mCons (mLst (mCons (mTup (mCons (mC (.int 0)) (mCons (mC (.int 1)) mNil))) (mCons (mTup (mCons (mC (.int 9)) (mCons (mC (.int 4)) mNil))) (mCons (mTup (mCons (mC (.int 3)) (mCons (mC .non) mNil))) (mCons (mTup (mCons (mC (.int 2)) (mCons (mC (.int 0)) mNil))) mNil))))) mNil))) (gN 5))
(mSeq (mFor (mRng1 (mCons (mBin opAdd (mC (.int 1)) (mUser m__law_draw (mCons (mVar 0) (mCons (mC (.int 6)) mNil)))) mNil)) (gN 6)
(mSeq (mAsg (mUser m__law_draw (mCons (mVar 0) (mCons (mC (.int 2)) mNil))) (gN 7))
(mSeq (mAsg (mUser m__law_draw (mCons (mVar 0) (mCons (mBin opIx (mLst (mCons (mVar 1) (mCons (mVar 2) mNil))) (mVar 7)) mNil))) (gN 8))
(mSeq (mAsg (mLcF finL (mRng1 (mCons (mBin opMul (mVar 1) (mVar 2)) mNil)) (.one 10) mYes (mIf (mB (mBin opEq (mVar 7) (mC (.int 0)))) (mBin opAdd (mBin opMul (mVar 8) (mVar 2)) (mBin opMod (mVar 10) (mVar 2))) (mBin opAdd (mBin opMul (mBin opDiv (mVar 10) (mVar 2)) (mVar 2)) (mVar 8))) [10]) (gN 9))
(mSeq (mDrop (mAppend (mVar 3) (mCall fTuple (mCons (mVar 9) mNil))))
(mDrop (mAppend (mVar 4) (mBin opIx (mVar 5) (mVar 7)))))))))
(mRet (mTup (mCons (mBin opMul (mVar 1) (mVar 2)) (mCons (mUser m__law_draw (mCons (mVar 0) (mCons (mBin opMul (mVar 1) (mVar 2)) mNil))) (mCons (mCall fTuple (mCons (mVar 3) mNil)) (mCons (mCall fTuple (mCons (mVar 4) mNil)) mNil))))))))))
noncomputable def m__law_marks : FM := mFn 12 (mSeq (mPar 1 2 (mCons (mLstO mNil) (mCons (mLstO mNil) mNil)))
(mSeq (mFor (mRng1 (mCons (mBin opAdd (mC (.int 1)) (mUser m__law_draw (mCons (mVar 0) (mCons (mC (.int 5)) mNil)))) mNil)) (gN 3)
(mSeq (mAsg (mTup (mCons (mUser m__law_pick (mCons (mVar 0) (mCons (mLst (mCons (mC (.int 1)) (mCons (mC (.int 2)) (mCons (mC (.int 3)) mNil)))) mNil))) (mCons (mBin opGt (mUser m__law_draw (mCons (mVar 0) (mCons (mC (.int 4)) mNil))) (mC (.int 0))) mNil))) (gT 2 (gConsM (gN 4) (gConsM (gN 5) gNilM))))
(mSeq (mAsg (mLstO mNil) (gN 6))
(mSeq (mFor (mRng1 (mCons (mC (.int 4)) mNil)) (gN 7)
(mSeq (mAsg (mLc (mSrc (mTup (mCons (mC (.int 1)) (mCons (mC (.int 2)) mNil)))) (.one 11) (mB (mBin opEq (mBin opMod (mBin opDiv (mVar 7) (mVar 11)) (mC (.int 2))) (mC (.int 1)))) (mVar 11) [11]) (gN 8))
(mSeq (mAsg (mLc (mSrc (mTup (mCons (mC (.int 1)) (mCons (mC (.int 2)) mNil)))) (.one 11) (mB (mBin opEq (mBin opMod (mBin opDiv (mVar 4) (mVar 11)) (mC (.int 2))) (mC (.int 1)))) (mVar 11) [11]) (gN 9))
(mSeq (mAsg (mLcF finL (mSrc (mTup (mCons (mC (.int 1)) (mCons (mC (.int 2)) mNil)))) (.one 11) (mB (mBin opIn (mVar 11) (mBin opAdd (mVar 8) (mVar 9)))) (mVar 11) [11]) (gN 10))
(mDrop (mAppend (mVar 6) (mIf (mB (mVar 5)) (mCall fSum (mCons (mVar 10) mNil)) (mCall fSum (mCons (mLc (mSrc (mVar 8)) (.one 11) (mB (mBin opNotIn (mVar 11) (mVar 9))) (mVar 11) [11]) mNil)))))))))
(mSeq (mDrop (mAppend (mVar 1) (mCall fTuple (mCons (mVar 6) mNil))))
(mDrop (mAppend (mVar 2) (mUser m__law_pick (mCons (mVar 0) (mCons (mLst (mCons (mC .non) (mCons (mVar 4) (mCons (mC (.int 0)) mNil)))) mNil))))))))))
(mRet (mTup (mCons (mC (.int 4)) (mCons (mUser m__law_draw (mCons (mVar 0) (mCons (mC (.int 4)) mNil))) (mCons (mCall fTuple (mCons (mVar 1) mNil)) (mCons (mCall fTuple (mCons (mVar 2) mNil)) mNil))))))))
noncomputable def m__law_turns : FM := mFn 9 (mSeq (mAsg (mTup (mCons (mBin opAdd (mC (.int 2)) (mUser m__law_draw (mCons (mVar 0) (mCons (mC (.int 5)) mNil)))) (mCons (mLstO mNil) (mCons (mLstO mNil) mNil)))) (gT 3 (gConsM (gN 1) (gConsM (gN 2) (gConsM (gN 3) gNilM)))))
(mSeq (mFor (mRng1 (mCons (mBin opAdd (mC (.int 1)) (mUser m__law_draw (mCons (mVar 0) (mCons (mC (.int 5)) mNil)))) mNil)) (gN 4)
(mSeq (mAsg (mTup (mCons (mUser m__law_draw (mCons (mVar 0) (mCons (mC (.int 4)) mNil))) (mCons (mUser m__law_draw (mCons (mVar 0) (mCons (mVar 1) mNil))) mNil))) (gT 2 (gConsM (gN 5) (gConsM (gN 6) gNilM))))
(mSeq (mAsg (mLcF finL (mRng1 (mCons (mVar 1) mNil)) (.one 8) mYes (mBin opMod (mBin opAdd (mVar 8) (mVar 6)) (mVar 1)) [8]) (gN 7))
(mSeq (mIfS (mB (mBin opEq (mVar 5) (mC (.int 1))))
(mAsg (mLcF finL (mRng1 (mCons (mVar 1) mNil)) (.one 8) mYes (mCall fMax2 (mCons (mVar 8) (mCons (mVar 6) mNil))) [8]) (gN 7))
mSkip)
(mSeq (mIfS (mB (mBin opEq (mVar 5) (mC (.int 2))))
(mAsg (mLcF finL (mRng1 (mCons (mVar 1) mNil)) (.one 8) mYes (mVar 6) [8]) (gN 7))
mSkip)
(mSeq (mIfS (mB (mBin opEq (mVar 5) (mC (.int 3))))
(mAsg (mListRg (mVar 1)) (gN 7))
mSkip)
(mSeq (mDrop (mAppend (mVar 2) (mCall fTuple (mCons (mVar 7) mNil))))
(mDrop (mAppend (mVar 3) (mUser m__law_pick (mCons (mVar 0) (mCons (mLst (mCons (mC .non) (mCons (mVar 5) (mCons (mC (.int 5)) mNil)))) mNil))))))))))))
(mRet (mTup (mCons (mVar 1) (mCons (mUser m__law_draw (mCons (mVar 0) (mCons (mVar 1) mNil))) (mCons (mCall fTuple (mCons (mVar 2) mNil)) (mCons (mCall fTuple (mCons (mVar 3) mNil)) mNil))))))))
noncomputable def m__law_system : FM := mFn 10 (mSeq (mAsg (mUser m__law_draw (mCons (mVar 0) (mCons (mC (.int 6)) mNil))) (gN 1))
(mSeq (mIfS (mB (mBin opEq (mVar 1) (mC (.int 0))))
(mRet (mUser m__law_drawn (mCons (mVar 0) mNil)))
mSkip)
(mSeq (mAsg (mIf (mB (mBin opLt (mVar 1) (mC (.int 3)))) (mUser m__law_cells (mCons (mVar 0) mNil)) (mIf (mB (mBin opEq (mVar 1) (mC (.int 3)))) (mUser m__law_marks (mCons (mVar 0) mNil)) (mUser m__law_turns (mCons (mVar 0) mNil)))) (gN 2))
(mSeq (mIfS (mB (mBin opGt (mUser m__law_draw (mCons (mVar 0) (mCons (mC (.int 3)) mNil))) (mC (.int 0))))
(mRet (mVar 2))
mSkip)
(mSeq (mAsg (mVar 2) (gT 4 (gConsM (gN 3) (gConsM (gN 4) (gConsM (gN 5) (gConsM (gN 6) gNilM))))))
(mSeq (mPar 7 8 (mCons (mUser m__law_draw (mCons (mVar 0) (mCons (mCall fLen (mCons (mVar 5) mNil)) mNil))) (mCons (mUser m__law_draw (mCons (mVar 0) (mCons (mVar 3) mNil))) mNil)))
(mSeq (mAsg (mBin opAdd (mBin opAdd (mSl (mBin opIx (mVar 5) (mVar 7)) mNo (mPart (mVar 8))) (mTup (mCons (mUser m__law_draw (mCons (mVar 0) (mCons (mVar 3) mNil))) mNil))) (mSl (mBin opIx (mVar 5) (mVar 7)) (mPart (mBin opAdd (mVar 8) (mC (.int 1)))) mNo)) (gN 9))
(mRet (mTup (mCons (mVar 3) (mCons (mVar 4) (mCons (mBin opAdd (mBin opAdd (mSl (mVar 5) mNo (mPart (mVar 7))) (mTup (mCons (mVar 9) mNil))) (mSl (mVar 5) (mPart (mBin opAdd (mVar 7) (mC (.int 1)))) mNo)) (mCons (mVar 6) mNil)))))))))))))
noncomputable def m__law_same : FM := mFn 2 (mRet (mBin opEq (mCall fRepr (mCons (mVar 0) mNil)) (mCall fRepr (mCons (mVar 1) mNil))))
noncomputable def m__law_is_whole : FM := mFn 3 (mRet (mAndV (mCall fIsi (mCons (mVar 0) (mCons (mC (.ty "int")) mNil))) (mAndV (mNotV (mCall fIsi (mCons (mVar 0) (mCons (mC (.ty "bool")) mNil)))) (mChn opLe opLe (mVar 1) (mVar 0) (mVar 2)))))
noncomputable def m__law_odd : FM := mFn 2 (mSeq (mAsg (mLst (mCons (mC .non) (mCons (mC (.bl true)) (mCons (mC (.bl false)) (mCons (mUn opNeg (mC (.int 1))) (mCons (mC (.int 0)) (mCons (mC (.int 1)) (mCons (mC (.int 2)) (mCons (mC (.int 5)) (mCons (mC (.int 6)) (mCons (mBin opPow (mC (.int 10)) (mC (.int 12))) (mCons (mC (.str "")) (mCons (mC (.str "0")) (mCons (mTup mNil) (mCons (mLst mNil) (mCons mNewK (mCons (mTup (mCons (mC (.int 0)) mNil)) (mCons (mLst (mCons (mC (.int 0)) mNil)) (mCons (mTup (mCons (mC (.int 0)) (mCons (mC (.int 0)) mNil))) (mCons (mTup (mCons (mC (.int 0)) (mCons (mTup (mCons (mC (.int 0)) (mCons (mC (.int 0)) mNil))) mNil))) (mCons (mTup (mCons (mC (.int 1)) mNil)) mNil))))))))))))))))))))) (gN 1))
(mSeq (mAsg (mBin opAdd (mVar 1) (mLst (mCons (mTup (mCons (mC (.int 0)) (mCons (mTup mNil) mNil))) (mCons (mTup (mCons (mC (.int 0)) (mCons (mTup (mCons (mC (.int 0)) mNil)) mNil))) (mCons (mTup (mCons (mC (.int 1)) (mCons (mTup (mCons (mC (.int 0)) (mCons (mC (.int 0)) mNil))) mNil))) (mCons (mTup (mCons (mC (.int 0)) (mCons (mC (.int 0)) (mCons (mC (.int 0)) mNil)))) (mCons (mTup (mCons (mTup (mCons (mC (.int 0)) mNil)) (mCons (mC (.int 0)) mNil))) (mCons (mTup (mCons (mC (.bl true)) mNil)) (mCons (mTup (mCons (mC (.int 0)) (mCons (mTup (mCons (mC (.bl true)) (mCons (mC (.int 0)) mNil))) mNil))) (mCons (mTup (mCons (mC (.str "0")) mNil)) (mCons (mTup (mCons (mC .non) mNil)) mNil))))))))))) (gN 1))
(mSeq (mAsg (mBin opAdd (mVar 1) (mLst (mCons (mTup (mCons (mC (.int 1)) (mCons (mC (.int 0)) (mCons (mTup (mCons (mTup (mCons (mC (.int 0)) mNil)) mNil)) (mCons (mTup (mCons (mC (.int 0)) mNil)) mNil))))) (mCons (mTup (mCons (mC (.int 0)) (mCons (mLst (mCons (mC (.int 0)) (mCons (mC (.int 0)) mNil))) mNil))) (mCons (mLst (mCons (mC (.int 0)) (mCons (mTup (mCons (mC (.int 0)) (mCons (mC (.int 0)) mNil))) mNil))) (mCons (mTup (mCons (mC (.bl false)) (mCons (mTup (mCons (mC (.int 0)) (mCons (mC (.int 0)) mNil))) mNil))) (mCons (mTup (mCons (mC (.int 0)) (mCons (mTup (mCons (mC (.int 0)) (mCons (mC (.int 0)) (mCons (mC (.int 0)) mNil)))) mNil))) (mCons (mDisp1 (mC (.int 0)) (mTup mNil)) mNil)))))))) (gN 1))
(mRet (mUser m__law_pick (mCons (mVar 0) (mCons (mVar 1) mNil)))))))
noncomputable def m_run : FM := mFn 3 (mSeq (mDrop (mUser m_need_system (mCons (mVar 0) mNil)))
(mSeq (mIfS (mNotT (mB (mUser m_is_between (mCons (mVar 1) (mCons (mC (.int 0)) (mCons (mBin opSub (mBin opIx (mVar 0) (mC (.int 0))) (mC (.int 1))) mNil))))))
mBad
mSkip)
(mSeq (mDrop (mUser m_need_log (mCons (mVar 0) (mCons (mVar 2) mNil))))
(mRet (mUser m_run_from (mCons (mVar 0) (mCons (mVar 1) (mCons (mVar 2) mNil))))))))
noncomputable def m_outcome_of : FM := mFn 2 (mRet (mUser m_run_from (mCons (mVar 0) (mCons (mBin opIx (mVar 0) (mC (.int 1))) (mCons (mVar 1) mNil)))))
noncomputable def m_outcome : FM := mFn 2 (mSeq (mDrop (mUser m_need_system (mCons (mVar 0) mNil)))
(mSeq (mDrop (mUser m_need_log (mCons (mVar 0) (mCons (mVar 1) mNil))))
(mRet (mUser m_outcome_of (mCons (mVar 0) (mCons (mVar 1) mNil))))))
noncomputable def m__law_log : FM := mFn 4 (mRet (mCall fTuple (mCons (mLc (mRng1 (mCons (mUser m__law_draw (mCons (mVar 0) (mCons (mBin opAdd (mVar 2) (mC (.int 1))) mNil))) mNil)) (.one 3) mYes (mUser m__law_draw (mCons (mVar 0) (mCons (mCall fLen (mCons (mBin opIx (mVar 1) (mC (.int 2))) mNil)) mNil))) [3]) mNil)))
noncomputable def m__law_run : FM := mFn 4 (mSeq (mFor (mSrc (mVar 2)) (gN 3)
(mAsg (mBin opIx (mBin opIx (mBin opIx (mVar 0) (mC (.int 2))) (mVar 3)) (mVar 1)) (gN 1)))
(mRet (mVar 1)))
noncomputable def m_reachable : FM := mFn 1 (mSeq (mDrop (mUser m_need_system (mCons (mVar 0) mNil)))
(mRet (mUser m_reached (mCons (mVar 0) mNil))))
noncomputable def m_path : FM := mFn 3 (mSeq (mDrop (mUser m_need_system (mCons (mVar 0) mNil)))
(mSeq (mAsg (mUser m_paths_of (mCons (mVar 0) mNil)) (gN 2))
(mSeq (mIfS (mOrT (mNotT (mB (mUser m_is_whole (mCons (mVar 1) mNil)))) (mB (mBin opNotInD (mVar 1) (mVar 2))))
mBad
mSkip)
(mRet (mBin opIxU (mVar 2) (mVar 1))))))
noncomputable def m_first_apart : FM := mFn 4 (mSeq (mFor (mSrc (mUser m_reached (mCons (mVar 0) mNil))) (gN 3)
(mIfS (mB (mBin opNe (mUser m_run_from (mCons (mVar 0) (mCons (mVar 3) (mCons (mVar 1) mNil)))) (mUser m_run_from (mCons (mVar 0) (mCons (mVar 3) (mCons (mVar 2) mNil))))))
(mRet (mVar 3))
mSkip))
(mRet (mC .non)))
noncomputable def m_apart : FM := mFn 3 (mSeq (mDrop (mUser m_need_system (mCons (mVar 0) mNil)))
(mSeq (mDrop (mUser m_need_log (mCons (mVar 0) (mCons (mVar 1) mNil))))
(mSeq (mDrop (mUser m_need_log (mCons (mVar 0) (mCons (mVar 2) mNil))))
(mRet (mUser m_first_apart (mCons (mVar 0) (mCons (mVar 1) (mCons (mVar 2) mNil))))))))
noncomputable def m__law_paths : FM := mFn 7 (mSeq (mPar 1 2 (mCons (mLstO (mCons (mTup (mCons (mBin opIx (mVar 0) (mC (.int 1))) (mCons (mTup mNil) mNil))) mNil)) (mCons (mC (.int 0)) mNil)))
(mSeq (mAsg (mLstO (mCons (mBin opIx (mVar 0) (mC (.int 1))) mNil)) (gN 3))
(mSeq (mWhile (mB (mBin opLt (mVar 2) (mCall fLen (mCons (mVar 1) mNil))))
(mSeq (mFor (mEnum (mCons (mBin opIx (mVar 0) (mC (.int 2))) mNil)) (gT 2 (gConsM (gN 4) (gConsM (gN 5) gNilM)))
(mSeq (mAsg (mBin opIx (mVar 5) (mBin opIx (mBin opIx (mVar 1) (mVar 2)) (mC (.int 0)))) (gN 6))
(mIfS (mB (mBin opNotIn (mVar 6) (mVar 3)))
(mSeq (mDrop (mAppend (mVar 3) (mVar 6)))
(mDrop (mAppend (mVar 1) (mTup (mCons (mVar 6) (mCons (mBin opAdd (mBin opIx (mBin opIx (mVar 1) (mVar 2)) (mC (.int 1))) (mTup (mCons (mVar 4) mNil))) mNil))))))
mSkip)))
(mAsg (mBin opAdd (mVar 2) (mC (.int 1))) (gN 2))) 2000)
(mRet (mVar 1)))))
noncomputable def m__law_reached : FM := mFn 3 (mRet (mCall fSorted (mCons (mLc (mSrc (mUser m__law_paths (mCons (mVar 0) mNil))) (.many [1, 2]) mYes (mVar 1) [1, 2]) mNil)))
noncomputable def m_has_later : FM := mFn 5 (mSeq (mAsg (mBin opIx (mBin opIx (mVar 0) (mC (.int 3))) (mBin opIx (mVar 1) (mVar 2))) (gN 3))
(mRet (mAndV (mBin opNotN (mVar 3) (mC .non)) (mBin opIn (mVar 3) (mLc (mSrc (mSl (mVar 1) (mPart (mBin opAdd (mVar 2) (mC (.int 1)))) mNo)) (.one 4) mYes (mBin opIx (mBin opIx (mVar 0) (mC (.int 3))) (mVar 4)) [4])))))
noncomputable def m_compacted_log : FM := mFn 4 (mRet (mCall fTuple (mCons (mLc (mEnum (mCons (mVar 1) mNil)) (.many [2, 3]) (mNotT (mB (mUser m_has_later (mCons (mVar 0) (mCons (mVar 1) (mCons (mVar 2) mNil)))))) (mVar 3) [2, 3]) mNil)))
noncomputable def m_compacted : FM := mFn 2 (mSeq (mDrop (mUser m_need_system (mCons (mVar 0) mNil)))
(mSeq (mDrop (mUser m_need_log (mCons (mVar 0) (mCons (mVar 1) mNil))))
(mRet (mUser m_compacted_log (mCons (mVar 0) (mCons (mVar 1) mNil))))))
noncomputable def m_is_form : FM := mFn 4 (mSeq (mAsg (mLcF finL (mSrc (mVar 1)) (.one 3) mYes (mBin opIx (mBin opIx (mVar 0) (mC (.int 3))) (mVar 3)) [3]) (gN 2))
(mSeq (mIfS (mOrT (mB (mBin opNotIn (mCall fLen (mCons (mVar 1) mNil)) (mTup (mCons (mC (.int 2)) (mCons (mC (.int 3)) mNil))))) (mOrT (mB (mBin opIsN (mBin opIx (mVar 2) (mC (.int 0))) (mC .non))) (mB (mBin opNe (mBin opIx (mVar 2) (mC (.int 0))) (mBin opIx (mVar 2) (mUn opNeg (mC (.int 1))))))))
(mRet (mC (.bl false)))
mSkip)
(mRet (mOrV (mBin opEq (mCall fLen (mCons (mVar 1) mNil)) (mC (.int 2))) (mBin opNe (mBin opIx (mVar 2) (mC (.int 1))) (mBin opIx (mVar 2) (mC (.int 0))))))))
noncomputable def m_forms_of : FM := mFn 7 (mSeq (mAsg (mListRg (mCall fLen (mCons (mBin opIx (mVar 0) (mC (.int 2))) mNil))) (gN 1))
(mSeq (mAsg (mLcN finL (mSrc (mVar 1)) (.one 3) mYes (bIn (mSrc (mVar 1)) (.one 4) mYes (bApp (mTup (mCons (mVar 3) (mCons (mVar 4) mNil)))) [4]) [3, 4]) (gN 2))
(mSeq (mAsg (mBin opAdd (mVar 2) (mLcN finL (mSrc (mVar 1)) (.one 3) mYes (bIn (mSrc (mVar 1)) (.one 6) mYes (bIn (mSrc (mVar 1)) (.one 4) mYes (bApp (mTup (mCons (mVar 3) (mCons (mVar 6) (mCons (mVar 4) mNil))))) [4]) [6, 4]) [3, 6, 4])) (gN 2))
(mRet (mLc (mSrc (mVar 2)) (.one 5) (mB (mUser m_is_form (mCons (mVar 0) (mCons (mVar 5) mNil)))) (mVar 5) [5])))))
noncomputable def m_is_faulty : FM := mFn 3 (mRet (mBin opNe (mUser m_run_from (mCons (mVar 0) (mCons (mVar 1) (mCons (mVar 2) mNil)))) (mUser m_run_from (mCons (mVar 0) (mCons (mVar 1) (mCons (mSl (mVar 2) (mPart (mC (.int 1))) mNo) mNil))))))
noncomputable def m_fault_of : FM := mFn 4 (mSeq (mAsg (mUser m_forms_of (mCons (mVar 0) mNil)) (gN 1))
(mSeq (mFor (mSrc (mUser m_reached (mCons (mVar 0) mNil))) (gN 2)
(mFor (mSrc (mVar 1)) (gN 3)
(mIfS (mB (mUser m_is_faulty (mCons (mVar 0) (mCons (mVar 2) (mCons (mVar 3) mNil)))))
(mRet (mTup (mCons (mVar 2) (mCons (mVar 3) mNil))))
mSkip)))
(mRet (mC .non))))
noncomputable def m_fault : FM := mFn 1 (mSeq (mDrop (mUser m_need_system (mCons (mVar 0) mNil)))
(mRet (mUser m_fault_of (mCons (mVar 0) mNil))))
noncomputable def m_shows_fault : FM := mFn 4 (mSeq (mDrop (mUser m_need_system (mCons (mVar 0) mNil)))
(mSeq (mIfS (mB (mBin opIsN (mVar 1) (mC .non)))
(mRet (mBin opIsN (mUser m_fault_of (mCons (mVar 0) mNil)) (mC .non)))
mSkip)
(mSeq (mIfS (mOrT (mNotT (mB (mCall fIsi (mCons (mVar 1) (mCons (mC (.ty "tuple")) mNil))))) (mOrT (mB (mBin opNe (mCall fLen (mCons (mVar 1) mNil)) (mC (.int 2)))) (mOrT (mNotT (mB (mUser m_is_whole (mCons (mBin opIx (mVar 1) (mC (.int 0))) mNil)))) (mNotT (mB (mUser m_is_log (mCons (mVar 0) (mCons (mBin opIx (mVar 1) (mC (.int 1))) mNil))))))))
(mRet (mC (.bl false)))
mSkip)
(mSeq (mAsg (mVar 1) (gT 2 (gConsM (gN 2) (gConsM (gN 3) gNilM))))
(mRet (mAndV (mBin opIn (mVar 2) (mUser m_reached (mCons (mVar 0) mNil))) (mAndV (mUser m_is_form (mCons (mVar 0) (mCons (mVar 3) mNil))) (mUser m_is_faulty (mCons (mVar 0) (mCons (mVar 2) (mCons (mVar 3) mNil)))))))))))
noncomputable def m_is_changed : FM := mFn 2 (mRet (mBin opNe (mUser m_outcome_of (mCons (mVar 0) (mCons (mVar 1) mNil))) (mUser m_outcome_of (mCons (mVar 0) (mCons (mUser m_compacted_log (mCons (mVar 0) (mCons (mVar 1) mNil))) mNil)))))
noncomputable def m_changed : FM := mFn 5 (mSeq (mDrop (mUser m_need_system (mCons (mVar 0) mNil)))
(mSeq (mAsg (mUser m_fault_of (mCons (mVar 0) mNil)) (gN 1))
(mSeq (mIfS (mB (mBin opIsN (mVar 1) (mC .non)))
(mRet (mC .non))
mSkip)
(mSeq (mAsg (mVar 1) (gT 2 (gConsM (gN 2) (gConsM (gN 3) gNilM))))
(mSeq (mAsg (mBin opIxU (mUser m_paths_of (mCons (mVar 0) mNil)) (mVar 2)) (gN 4))
(mRet (mIf (mB (mUser m_is_changed (mCons (mVar 0) (mCons (mBin opAdd (mVar 4) (mVar 3)) mNil)))) (mBin opAdd (mVar 4) (mVar 3)) (mBin opAdd (mVar 4) (mSl (mVar 3) (mPart (mC (.int 1))) mNo)))))))))
noncomputable def m_shows_changed : FM := mFn 2 (mSeq (mDrop (mUser m_need_system (mCons (mVar 0) mNil)))
(mSeq (mIfS (mB (mBin opIsN (mVar 1) (mC .non)))
(mRet (mBin opIsN (mUser m_fault_of (mCons (mVar 0) mNil)) (mC .non)))
mSkip)
(mRet (mAndV (mUser m_is_log (mCons (mVar 0) (mCons (mVar 1) mNil))) (mUser m_is_changed (mCons (mVar 0) (mCons (mVar 1) mNil)))))))
noncomputable def m__law_no_logs : FM := mFn 2 (mSeq (mAsg (mLst (mCons (mC .non) (mCons (mC (.bl true)) (mCons (mC (.int 0)) (mCons (mC (.str "")) (mCons (mC (.str "0")) (mCons (mLst mNil) (mCons (mLst (mCons (mC (.int 0)) mNil)) (mCons mNewK (mCons (mTup (mCons (mVar 0) mNil)) (mCons (mTup (mCons (mUn opNeg (mC (.int 1))) mNil)) (mCons (mTup (mCons (mC (.int 0)) (mCons (mVar 0) mNil))) (mCons (mTup (mCons (mC (.bl true)) mNil)) (mCons (mTup (mCons (mC (.int 0)) (mCons (mC (.bl false)) mNil))) (mCons (mTup (mCons (mC .non) mNil)) (mCons (mTup (mCons (mC (.str "0")) mNil)) mNil)))))))))))))))) (gN 1))
(mRet (mBin opAdd (mVar 1) (mLst (mCons (mTup (mCons (mTup (mCons (mC (.int 0)) mNil)) mNil)) (mCons (mTup (mCons (mLst mNil) mNil)) (mCons (mTup (mCons (mTup mNil) mNil)) (mCons (mTup (mCons (mBin opPow (mC (.int 10)) (mC (.int 12))) mNil)) (mCons (mTup (mCons (mC (.int 0)) (mCons (mC (.int 0)) (mCons (mUn opNeg (mC (.int 1))) mNil)))) (mCons (mTup (mCons (mC (.int 0)) (mCons (mC (.int 6)) mNil))) mNil))))))))))
noncomputable def m__law_compacted : FM := mFn 7 (mSeq (mAsg (mLstO mNil) (gN 2))
(mSeq (mFor (mEnum (mCons (mVar 1) mNil)) (gT 2 (gConsM (gN 3) (gConsM (gN 4) gNilM)))
(mSeq (mAsg (mBin opIx (mBin opIx (mVar 0) (mC (.int 3))) (mVar 4)) (gN 5))
(mIfS (mOrT (mB (mBin opIsN (mVar 5) (mC .non))) (mB (mBin opNotIn (mVar 5) (mLc (mSrc (mSl (mVar 1) (mPart (mBin opAdd (mVar 3) (mC (.int 1)))) mNo)) (.one 6) mYes (mBin opIx (mBin opIx (mVar 0) (mC (.int 3))) (mVar 6)) [6]))))
(mDrop (mAppend (mVar 2) (mVar 4)))
mSkip)))
(mRet (mCall fTuple (mCons (mVar 2) mNil)))))
noncomputable def m__law_logs : FM := mFn 8 (mSeq (mPar 2 3 (mCons (mLst (mCons (mTup mNil) mNil)) (mCons (mLst (mCons (mTup mNil) mNil)) mNil)))
(mSeq (mFor (mRng1 (mCons (mVar 1) mNil)) (gN 4)
(mSeq (mAsg (mLstO mNil) (gN 5))
(mSeq (mFor (mSrc (mVar 3)) (gN 6)
(mDrop (mExtend (mVar 5) (mLc (mRng1 (mCons (mVar 0) mNil)) (.one 7) mYes (mBin opAdd (mVar 6) (mTup (mCons (mVar 7) mNil))) [7]))))
(mPar 2 3 (mCons (mBin opAdd (mVar 2) (mVar 5)) (mCons (mVar 5) mNil))))))
(mRet (mVar 2))))
noncomputable def m__law_is_form : FM := mFn 4 (mSeq (mIfS (mB (mBin opNotIn (mCall fLen (mCons (mVar 1) mNil)) (mTup (mCons (mC (.int 2)) (mCons (mC (.int 3)) mNil)))))
(mRet (mC (.bl false)))
mSkip)
(mSeq (mPar 2 3 (mCons (mBin opIx (mBin opIx (mVar 0) (mC (.int 3))) (mBin opIx (mVar 1) (mC (.int 0)))) (mCons (mBin opIx (mBin opIx (mVar 0) (mC (.int 3))) (mBin opIx (mVar 1) (mUn opNeg (mC (.int 1))))) mNil)))
(mSeq (mIfS (mOrT (mB (mBin opIsN (mVar 2) (mC .non))) (mB (mBin opNe (mVar 2) (mVar 3))))
(mRet (mC (.bl false)))
mSkip)
(mRet (mOrV (mBin opEq (mCall fLen (mCons (mVar 1) mNil)) (mC (.int 2))) (mBin opNe (mBin opIx (mBin opIx (mVar 0) (mC (.int 3))) (mBin opIx (mVar 1) (mC (.int 1)))) (mVar 2)))))))
noncomputable def m__law_fault : FM := mFn 4 (mSeq (mAsg (mLcF finL (mSrc (mUser m__law_logs (mCons (mCall fLen (mCons (mBin opIx (mVar 0) (mC (.int 2))) mNil)) (mCons (mC (.int 3)) mNil)))) (.one 1) (mB (mUser m__law_is_form (mCons (mVar 0) (mCons (mVar 1) mNil)))) (mVar 1) [1]) (gN 2))
(mSeq (mFor (mSrc (mUser m__law_reached (mCons (mVar 0) mNil))) (gN 3)
(mFor (mSrc (mVar 2)) (gN 1)
(mIfS (mB (mBin opNe (mUser m__law_run (mCons (mVar 0) (mCons (mVar 3) (mCons (mVar 1) mNil)))) (mUser m__law_run (mCons (mVar 0) (mCons (mVar 3) (mCons (mSl (mVar 1) (mPart (mC (.int 1))) mNo) mNil))))))
(mRet (mTup (mCons (mVar 3) (mCons (mVar 1) mNil))))
mSkip)))
(mRet (mC .non))))
noncomputable def m__law_is_log : FM := mFn 3 (mSeq (mIfS (mNotT (mB (mCall fIsi (mCons (mVar 1) (mCons (mC (.ty "tuple")) mNil)))))
(mRet (mC (.bl false)))
mSkip)
(mRet (mBin opEq (mLc (mSrc (mVar 1)) (.one 2) (mNotT (mB (mUser m__law_is_whole (mCons (mVar 2) (mCons (mC (.int 0)) (mCons (mBin opSub (mCall fLen (mCons (mBin opIx (mVar 0) (mC (.int 2))) mNil)) (mC (.int 1))) mNil)))))) (mC (.int 1)) [2]) (mLst mNil))))
noncomputable def m_Unlike_init : FM := mFn 2 (mSetFld ["Unlike"] "operation" (mVar 0) (mVar 1))
noncomputable def m_Unlike_call : FM := mFn 2 (mRet (mBin opNe (mBin opIx (mFld ["Unlike"] "operation" (mVar 0)) (mBin opIx (mVar 1) (mC (.int 0)))) (mBin opIx (mFld ["Unlike"] "operation" (mVar 0)) (mBin opIx (mVar 1) (mC (.int 1))))))
noncomputable def m_longer : FM := mFn 10 (mSeq (mAsg mNewT (gN 2))
(mSeq (mFor (mItems (mVar 1)) (gT 2 (gConsM (gT 2 (gConsM (gN 3) (gConsM (gN 4) gNilM))) (gConsM (gN 5) gNilM)))
(mFor (mEnum (mCons (mBin opIx (mVar 0) (mC (.int 2))) mNil)) (gT 2 (gConsM (gN 6) (gConsM (gN 7) gNilM)))
(mSeq (mPar 8 9 (mCons (mTup (mCons (mBin opIx (mVar 7) (mVar 3)) (mCons (mBin opIx (mVar 7) (mVar 4)) mNil))) (mCons (mBin opAdd (mVar 5) (mTup (mCons (mVar 6) mNil))) mNil)))
(mAsg (mCall fMin2T (mCons (mGet2 (mVar 2) (mVar 8) (mVar 9)) (mCons (mVar 9) mNil))) (gIxU (mVar 2) (mVar 8))))))
(mRet (mVar 2))))
noncomputable def m_first_log : FM := mFn 8 (mSeq (mAsg (mTup (mCons (mDcT (mSrc (mVar 1)) (.one 6) mYes (mVar 6) (mTup mNil) [6]) (mCons (mLst mNil) mNil))) (gT 2 (gConsM (gN 3) (gConsM (gN 4) gNilM))))
(mSeq (mWhile (mB (mBin opNeE (mVar 3) mNewT))
(mSeq (mAsg (mLcF finL (mItems (mVar 3)) (.many [6, 7]) (mB (mCallI [("Unlike", m_Unlike_call)] (mVar 2) (mCons (mVar 6) mNil))) (mVar 7) [6, 7]) (gN 5))
(mSeq (mIfS (mB (mBin opNe (mVar 5) (mLst mNil)))
(mRet (mCall fMinT (mCons (mVar 5) mNil)))
mSkip)
(mSeq (mAsg (mBin opAdd (mVar 4) (mCall fListOU (mCons (mVar 3) mNil))) (gN 4))
(mAsg (mDcT (mItems (mUser m_longer (mCons (mVar 0) (mCons (mVar 3) mNil)))) (.many [6, 7]) (mB (mBin opNotIn (mVar 6) (mVar 4))) (mVar 6) (mVar 7) [6, 7]) (gN 3))))) 2000)
(mRet (mC .non))))
noncomputable def m_uncovered_log : FM := mFn 6 (mSeq (mAsg (mTup (mCons (mBin opIx (mBin opIx (mVar 0) (mC (.int 2))) (mVar 1)) (mCons (mNew "Unlike" m_Unlike_init (mCons (mBin opIx (mBin opIx (mVar 0) (mC (.int 2))) (mVar 2)) mNil)) mNil))) (gT 2 (gConsM (gN 3) (gConsM (gN 4) gNilM))))
(mRet (mUser m_first_log (mCons (mVar 0) (mCons (mLc (mSrc (mUser m_reached (mCons (mVar 0) mNil))) (.one 5) mYes (mTup (mCons (mBin opIx (mVar 3) (mVar 5)) (mCons (mVar 5) mNil))) [5]) (mCons (mVar 4) mNil))))))
noncomputable def m_uncovered : FM := mFn 3 (mSeq (mDrop (mUser m_need_system (mCons (mVar 0) mNil)))
(mSeq (mDrop (mUser m_need_operation (mCons (mVar 0) (mCons (mVar 1) mNil))))
(mSeq (mDrop (mUser m_need_operation (mCons (mVar 0) (mCons (mVar 2) mNil))))
(mRet (mUser m_uncovered_log (mCons (mVar 0) (mCons (mVar 1) (mCons (mVar 2) mNil))))))))
noncomputable def m__law_pairs : FM := mFn 4 (mSeq (mAsg (mLstO mNil) (gN 1))
(mSeq (mFor (mRng1 (mCons (mVar 0) mNil)) (gN 2)
(mDrop (mExtend (mVar 1) (mLc (mRng1 (mCons (mVar 0) mNil)) (.one 3) mYes (mTup (mCons (mVar 2) (mCons (mVar 3) mNil))) [3]))))
(mRet (mVar 1))))
noncomputable def m__law_steps_to : FM := mFn 10 (mSeq (mAsg (mTup (mCons mNewT (mCons (mC (.bl true)) (mCons (mC (.int 0)) mNil)))) (gT 3 (gConsM (gN 2) (gConsM (gN 3) (gConsM (gN 4) gNilM)))))
(mSeq (mFor (mSrc (mVar 1)) (gN 5)
(mAsg (mC (.int 0)) (gIxU (mVar 2) (mVar 5))))
(mSeq (mWhile (mB (mVar 3))
(mSeq (mAsg (mC (.bl false)) (gN 3))
(mSeq (mFor (mSrc (mUser m__law_pairs (mCons (mBin opIx (mVar 0) (mC (.int 0))) mNil))) (gT 2 (gConsM (gN 6) (gConsM (gN 7) gNilM)))
(mSeq (mAsg (mLcF finL (mSrc (mBin opIx (mVar 0) (mC (.int 2)))) (.one 9) mYes (mGet2 (mVar 2) (mTup (mCons (mBin opIx (mVar 9) (mVar 6)) (mCons (mBin opIx (mVar 9) (mVar 7)) mNil))) (mUn opNeg (mC (.int 1)))) [9]) (gN 8))
(mIfS (mAndT (mB (mBin opNotInD (mTup (mCons (mVar 6) (mCons (mVar 7) mNil))) (mVar 2))) (mB (mBin opIn (mVar 4) (mVar 8))))
(mSeq (mAsg (mBin opAdd (mVar 4) (mC (.int 1))) (gIxU (mVar 2) (mTup (mCons (mVar 6) (mCons (mVar 7) mNil)))))
(mAsg (mC (.bl true)) (gN 3)))
mSkip)))
(mAsg (mBin opAdd (mVar 4) (mC (.int 1))) (gN 4)))) 2000)
(mRet (mVar 2)))))
noncomputable def m__law_first_between : FM := mFn 15 (mSeq (mAsg (mTup (mCons (mUser m__law_steps_to (mCons (mVar 0) (mCons (mVar 2) mNil))) (mCons (mTup mNil) mNil))) (gT 2 (gConsM (gN 3) (gConsM (gN 4) gNilM))))
(mSeq (mIfS (mB (mBin opEq (mLc (mSrc (mVar 1)) (.one 11) (mB (mBin opInD (mVar 11) (mVar 3))) (mVar 11) [11]) (mLst mNil)))
(mRet (mC .non))
mSkip)
(mSeq (mAsg (mCall fMinL (mCons (mLc (mSrc (mVar 1)) (.one 11) (mB (mBin opInD (mVar 11) (mVar 3))) (mBin opIxU (mVar 3) (mVar 11)) [11]) mNil)) (gN 5))
(mSeq (mAsg (mLcF finL (mSrc (mVar 1)) (.one 11) (mB (mBin opEq (mGet2 (mVar 3) (mVar 11) (mUn opNeg (mC (.int 1)))) (mVar 5))) (mVar 11) [11]) (gN 6))
(mSeq (mWhile (mB (mBin opGt (mVar 5) (mC (.int 0))))
(mSeq (mAsg (mLstO mNil) (gN 7))
(mSeq (mFor (mEnum (mCons (mBin opIx (mVar 0) (mC (.int 2))) mNil)) (gT 2 (gConsM (gN 8) (gConsM (gN 9) gNilM)))
(mSeq (mAsg (mLcF finL (mSrc (mVar 6)) (.many [12, 13]) mYes (mTup (mCons (mBin opIx (mVar 9) (mVar 12)) (mCons (mBin opIx (mVar 9) (mVar 13)) mNil))) [12, 13]) (gN 10))
(mDrop (mAppend (mVar 7) (mTup (mCons (mVar 8) (mCons (mLc (mSrc (mVar 10)) (.one 11) (mB (mBin opEq (mGet2 (mVar 3) (mVar 11) (mUn opNeg (mC (.int 1)))) (mBin opSub (mVar 5) (mC (.int 1))))) (mVar 11) [11]) mNil)))))))
(mSeq (mAsg (mBin opIx (mLc (mSrc (mVar 7)) (.one 14) (mB (mBin opNe (mBin opIx (mVar 14) (mC (.int 1))) (mLst mNil))) (mVar 14) [14]) (mC (.int 0))) (gT 2 (gConsM (gN 8) (gConsM (gN 6) gNilM))))
(mAsg (mTup (mCons (mBin opAdd (mVar 4) (mTup (mCons (mVar 8) mNil))) (mCons (mBin opSub (mVar 5) (mC (.int 1))) mNil))) (gT 2 (gConsM (gN 4) (gConsM (gN 5) gNilM))))))) 2000)
(mRet (mVar 4)))))))
noncomputable def m__law_uncovered : FM := mFn 8 (mSeq (mAsg (mTup (mCons (mBin opIx (mBin opIx (mVar 0) (mC (.int 2))) (mVar 1)) (mCons (mBin opIx (mBin opIx (mVar 0) (mC (.int 2))) (mVar 2)) mNil))) (gT 2 (gConsM (gN 3) (gConsM (gN 4) gNilM))))
(mSeq (mAsg (mLcF finL (mSrc (mUser m__law_pairs (mCons (mBin opIx (mVar 0) (mC (.int 0))) mNil))) (.one 6) (mB (mBin opNe (mBin opIx (mVar 4) (mBin opIx (mVar 6) (mC (.int 0)))) (mBin opIx (mVar 4) (mBin opIx (mVar 6) (mC (.int 1)))))) (mVar 6) [6]) (gN 5))
(mRet (mUser m__law_first_between (mCons (mVar 0) (mCons (mLc (mSrc (mUser m__law_reached (mCons (mVar 0) mNil))) (.one 7) mYes (mTup (mCons (mBin opIx (mVar 3) (mVar 7)) (mCons (mVar 7) mNil))) [7]) (mCons (mVar 5) mNil)))))))
noncomputable def m_is_telling : FM := mFn 6 (mSeq (mAsg (mBin opAdd (mVar 3) (mTup (mCons (mVar 2) mNil))) (gN 4))
(mSeq (mFor (mSrc (mUser m_reached (mCons (mVar 0) mNil))) (gN 5)
(mIfS (mB (mBin opNe (mUser m_run_from (mCons (mVar 0) (mCons (mVar 5) (mCons (mBin opAdd (mTup (mCons (mVar 1) mNil)) (mVar 4)) mNil)))) (mUser m_run_from (mCons (mVar 0) (mCons (mVar 5) (mCons (mVar 4) mNil))))))
(mRet (mC (.bl true)))
mSkip))
(mRet (mC (.bl false)))))
noncomputable def m_shows_uncovered : FM := mFn 4 (mSeq (mDrop (mUser m_need_system (mCons (mVar 0) mNil)))
(mSeq (mDrop (mUser m_need_operation (mCons (mVar 0) (mCons (mVar 1) mNil))))
(mSeq (mDrop (mUser m_need_operation (mCons (mVar 0) (mCons (mVar 2) mNil))))
(mSeq (mIfS (mB (mBin opIsN (mVar 3) (mC .non)))
(mRet (mBin opIsN (mUser m_uncovered_log (mCons (mVar 0) (mCons (mVar 1) (mCons (mVar 2) mNil)))) (mC .non)))
mSkip)
(mRet (mAndV (mUser m_is_log (mCons (mVar 0) (mCons (mVar 3) mNil))) (mUser m_is_telling (mCons (mVar 0) (mCons (mVar 1) (mCons (mVar 2) (mCons (mVar 3) mNil)))))))))))
noncomputable def m_does_cover : FM := mFn 12 (mSeq (mAsg (mTup (mCons (mBin opIx (mBin opIx (mVar 0) (mC (.int 2))) (mVar 1)) (mCons (mNew "Unlike" m_Unlike_init (mCons (mBin opIx (mBin opIx (mVar 0) (mC (.int 2))) (mVar 2)) mNil)) mNil))) (gT 2 (gConsM (gN 3) (gConsM (gN 4) gNilM))))
(mSeq (mAsg (mDcT (mSrc (mUser m_reached (mCons (mVar 0) mNil))) (.one 11) mYes (mTup (mCons (mBin opIx (mVar 3) (mVar 11)) (mCons (mVar 11) mNil))) (mC (.bl true)) [11]) (gN 5))
(mSeq (mAsg (mCall fListOU (mCons (mVar 5) mNil)) (gN 6))
(mSeq (mAsg (mC (.int 0)) (gN 7))
(mSeq (mWhile (mB (mBin opLt (mVar 7) (mCall fLen (mCons (mVar 6) mNil))))
(mSeq (mAsg (mBin opIx (mVar 6) (mVar 7)) (gN 8))
(mSeq (mAugAdd 7 (mC (.int 1)))
(mSeq (mIfS (mB (mCallI [("Unlike", m_Unlike_call)] (mVar 4) (mCons (mVar 8) mNil)))
(mRet (mC (.bl false)))
mSkip)
(mFor (mSrc (mBin opIx (mVar 0) (mC (.int 2)))) (gN 9)
(mSeq (mAsg (mTup (mCons (mBin opIx (mVar 9) (mBin opIx (mVar 8) (mC (.int 0)))) (mCons (mBin opIx (mVar 9) (mBin opIx (mVar 8) (mC (.int 1)))) mNil))) (gN 10))
(mIfS (mAndT (mB (mBin opNe (mBin opIx (mVar 10) (mC (.int 0))) (mBin opIx (mVar 10) (mC (.int 1))))) (mB (mBin opNotInD (mVar 10) (mVar 5))))
(mSeq (mAsg (mC (.bl true)) (gIxU (mVar 5) (mVar 10)))
(mDrop (mAppend (mVar 6) (mVar 10))))
mSkip)))))) 2000)
(mRet (mC (.bl true))))))))
noncomputable def m_coverage_of : FM := mFn 4 (mSeq (mAsg (mListRg (mCall fLen (mCons (mBin opIx (mVar 0) (mC (.int 2))) mNil))) (gN 1))
(mRet (mCall fTuple (mCons (mLc (mSrc (mVar 1)) (.one 2) mYes (mCall fTuple (mCons (mLc (mSrc (mVar 1)) (.one 3) mYes (mUser m_does_cover (mCons (mVar 0) (mCons (mVar 2) (mCons (mVar 3) mNil)))) [3]) mNil)) [2]) mNil))))
noncomputable def m_coverage : FM := mFn 1 (mSeq (mDrop (mUser m_need_system (mCons (mVar 0) mNil)))
(mRet (mUser m_coverage_of (mCons (mVar 0) mNil))))
noncomputable def m__law_coverage : FM := mFn 5 (mSeq (mAsg (mLstO mNil) (gN 1))
(mSeq (mFor (mRng1 (mCons (mCall fLen (mCons (mBin opIx (mVar 0) (mC (.int 2))) mNil)) mNil)) (gN 2)
(mSeq (mAsg (mLcF finL (mRng1 (mCons (mCall fLen (mCons (mBin opIx (mVar 0) (mC (.int 2))) mNil)) mNil)) (.one 4) mYes (mBin opIsN (mUser m__law_uncovered (mCons (mVar 0) (mCons (mVar 2) (mCons (mVar 4) mNil)))) (mC .non)) [4]) (gN 3))
(mDrop (mAppend (mVar 1) (mCall fTuple (mCons (mVar 3) mNil))))))
(mRet (mCall fTuple (mCons (mVar 1) mNil)))))
noncomputable def m_best_of : FM := mFn 8 (mSeq (mAsg (mUser m_coverage_of (mCons (mVar 0) mNil)) (gN 1))
(mSeq (mPar 2 3 (mCons (mLstO mNil) (mCons (mC (.int 0)) mNil)))
(mSeq (mFor (mEnum (mCons (mVar 1) mNil)) (gT 2 (gConsM (gN 4) (gConsM (gN 5) gNilM)))
(mSeq (mAsg (mLcF finL (mRng1 (mCons (mVar 4) mNil)) (.one 7) (mAndT (mB (mBin opIx (mVar 5) (mVar 7))) (mB (mBin opIx (mBin opIx (mVar 1) (mVar 7)) (mVar 4)))) (mVar 7) [7]) (gN 6))
(mIfS (mB (mBin opNe (mVar 6) (mLst mNil)))
(mDrop (mAppend (mVar 2) (mBin opIx (mVar 2) (mBin opIx (mVar 6) (mC (.int 0))))))
(mIfS (mB (mBin opIx (mVar 5) (mVar 4)))
(mSeq (mDrop (mAppend (mVar 2) (mVar 3)))
(mAugAdd 3 (mC (.int 1))))
(mDrop (mAppend (mVar 2) (mC .non)))))))
(mRet (mCall fTuple (mCons (mVar 2) mNil))))))
noncomputable def m_best_kinds : FM := mFn 1 (mSeq (mDrop (mUser m_need_system (mCons (mVar 0) mNil)))
(mRet (mUser m_best_of (mCons (mVar 0) mNil))))
noncomputable def m_thinned_log : FM := mFn 6 (mSeq (mAsg (mUser m_coverage_of (mCons (mVar 0) mNil)) (gN 2))
(mRet (mCall fTuple (mCons (mLc (mEnum (mCons (mVar 1) mNil)) (.many [3, 4]) (mNotT (mB (mCall fAny (mCons (mLc (mSrc (mSl (mVar 1) (mPart (mBin opAdd (mVar 3) (mC (.int 1)))) mNo)) (.one 5) mYes (mBin opIx (mBin opIx (mVar 2) (mVar 4)) (mVar 5)) [5]) mNil)))) (mVar 4) [3, 4]) mNil))))
noncomputable def m_thinned : FM := mFn 2 (mSeq (mDrop (mUser m_need_system (mCons (mVar 0) mNil)))
(mSeq (mDrop (mUser m_need_log (mCons (mVar 0) (mCons (mVar 1) mNil))))
(mRet (mUser m_thinned_log (mCons (mVar 0) (mCons (mVar 1) mNil))))))
noncomputable def m__law_thinned : FM := mFn 6 (mSeq (mAsg (mLstO mNil) (gN 2))
(mSeq (mFor (mEnum (mCons (mVar 1) mNil)) (gT 2 (gConsM (gN 3) (gConsM (gN 4) gNilM)))
(mIfS (mB (mBin opNotIn (mC (.bl true)) (mLc (mSrc (mSl (mVar 1) (mPart (mBin opAdd (mVar 3) (mC (.int 1)))) mNo)) (.one 5) mYes (mBin opIx (mBin opIx (mVar 0) (mVar 4)) (mVar 5)) [5])))
(mDrop (mAppend (mVar 2) (mVar 4)))
mSkip))
(mRet (mCall fTuple (mCons (mVar 2) mNil)))))
noncomputable def m_Moved_init : FM := mFn 2 (mSetFld ["Moved"] "operation" (mVar 0) (mVar 1))
noncomputable def m_Moved_call : FM := mFn 2 (mRet (mBin opNe (mBin opIx (mFld ["Moved"] "operation" (mVar 0)) (mBin opIx (mVar 1) (mC (.int 0)))) (mBin opIx (mVar 1) (mC (.int 0)))))
noncomputable def m_order_of : FM := mFn 5 (mSeq (mAsg (mCall fLen (mCons (mBin opIx (mVar 0) (mC (.int 2))) mNil)) (gN 1))
(mSeq (mFor (mSrc (mUser m_reached (mCons (mVar 0) mNil))) (gN 2)
(mFor (mRng1 (mCons (mVar 1) mNil)) (gN 3)
(mFor (mRng2 (mCons (mBin opAdd (mVar 3) (mC (.int 1))) (mCons (mVar 1) mNil))) (gN 4)
(mIfS (mB (mBin opNe (mUser m_run_from (mCons (mVar 0) (mCons (mVar 2) (mCons (mTup (mCons (mVar 3) (mCons (mVar 4) mNil))) mNil)))) (mUser m_run_from (mCons (mVar 0) (mCons (mVar 2) (mCons (mTup (mCons (mVar 4) (mCons (mVar 3) mNil))) mNil))))))
(mRet (mTup (mCons (mVar 2) (mCons (mVar 3) (mCons (mVar 4) mNil)))))
mSkip))))
(mRet (mC .non))))
noncomputable def m_order_fault : FM := mFn 1 (mSeq (mDrop (mUser m_need_system (mCons (mVar 0) mNil)))
(mRet (mUser m_order_of (mCons (mVar 0) mNil))))
noncomputable def m_by_set : FM := mFn 2 (mSeq (mDrop (mUser m_need_system (mCons (mVar 0) mNil)))
(mSeq (mIfS (mB (mBin opNotN (mUser m_order_of (mCons (mVar 0) mNil)) (mC .non)))
(mRet (mC (.bl false)))
mSkip)
(mRet (mCall fAll (mCons (mLc (mRng1 (mCons (mCall fLen (mCons (mBin opIx (mVar 0) (mC (.int 2))) mNil)) mNil)) (.one 1) mYes (mBin opIsN (mUser m_first_apart (mCons (mVar 0) (mCons (mTup (mCons (mVar 1) (mCons (mVar 1) mNil))) (mCons (mTup (mCons (mVar 1) mNil)) mNil)))) (mC .non)) [1]) mNil)))))
noncomputable def m_unsteady : FM := mFn 4 (mSeq (mDrop (mUser m_need_system (mCons (mVar 0) mNil)))
(mSeq (mDrop (mUser m_need_operation (mCons (mVar 0) (mCons (mVar 1) mNil))))
(mSeq (mAsg (mBin opIx (mBin opIx (mVar 0) (mC (.int 2))) (mVar 1)) (gN 2))
(mRet (mUser m_first_log (mCons (mVar 0) (mCons (mLc (mSrc (mUser m_reached (mCons (mVar 0) mNil))) (.one 3) mYes (mTup (mCons (mBin opIx (mVar 2) (mVar 3)) (mCons (mBin opIx (mVar 2) (mVar 3)) mNil))) [3]) (mCons (mNew "Moved" m_Moved_init (mCons (mVar 2) mNil)) mNil))))))))
noncomputable def m_repeat_logs : FM := mFn 5 (mSeq (mAsg (mListRg (mCall fLen (mCons (mBin opIx (mVar 0) (mC (.int 2))) mNil))) (gN 1))
(mSeq (mAsg (mLcF finL (mSrc (mVar 1)) (.one 3) mYes (mTup (mCons (mVar 3) (mCons (mVar 3) mNil))) [3]) (gN 2))
(mRet (mBin opAdd (mVar 2) (mLcN finL (mSrc (mVar 1)) (.one 3) mYes (bIn (mSrc (mVar 1)) (.one 4) (mB (mBin opNe (mVar 3) (mVar 4))) (bApp (mTup (mCons (mVar 3) (mCons (mVar 4) (mCons (mVar 3) mNil))))) [4]) [3, 4])))))
noncomputable def m_repeat_of : FM := mFn 4 (mSeq (mAsg (mUser m_repeat_logs (mCons (mVar 0) mNil)) (gN 1))
(mSeq (mFor (mSrc (mUser m_reached (mCons (mVar 0) mNil))) (gN 2)
(mFor (mSrc (mVar 1)) (gN 3)
(mIfS (mB (mBin opNe (mUser m_run_from (mCons (mVar 0) (mCons (mVar 2) (mCons (mVar 3) mNil)))) (mUser m_run_from (mCons (mVar 0) (mCons (mVar 2) (mCons (mSl (mVar 3) mNo (mPart (mUn opNeg (mC (.int 1))))) mNil))))))
(mRet (mTup (mCons (mVar 2) (mCons (mVar 3) mNil))))
mSkip)))
(mRet (mC .non))))
noncomputable def m_repeat_fault : FM := mFn 1 (mSeq (mDrop (mUser m_need_system (mCons (mVar 0) mNil)))
(mRet (mUser m_repeat_of (mCons (mVar 0) mNil))))
noncomputable def m_firsts_of : FM := mFn 3 (mRet (mCall fTuple (mCons (mLc (mEnum (mCons (mVar 0) mNil)) (.many [1, 2]) (mB (mBin opNotIn (mVar 2) (mSl (mVar 0) mNo (mPart (mVar 1))))) (mVar 2) [1, 2]) mNil)))
noncomputable def m_firsts : FM := mFn 2 (mSeq (mDrop (mUser m_need_system (mCons (mVar 0) mNil)))
(mSeq (mDrop (mUser m_need_log (mCons (mVar 0) (mCons (mVar 1) mNil))))
(mRet (mUser m_firsts_of (mCons (mVar 1) mNil)))))
noncomputable def m__law_no_systems : FM := mFn 3 (mSeq (mPar 0 1 (mCons (mTup (mCons (mTup (mCons (mC (.int 0)) mNil)) mNil)) (mCons (mTup (mCons (mC .non) mNil)) mNil)))
(mSeq (mAsg (mLst (mCons (mC .non) (mCons (mC (.int 0)) (mCons (mC (.str "")) (mCons (mTup mNil) (mCons (mLst mNil) (mCons mNewK (mCons (mTup (mCons (mC (.int 1)) (mCons (mC (.int 0)) (mCons (mVar 0) mNil)))) (mCons (mTup (mCons (mC (.int 1)) (mCons (mC (.int 0)) (mCons (mVar 0) (mCons (mVar 1) (mCons (mTup mNil) mNil)))))) (mCons (mLst (mCons (mC (.int 1)) (mCons (mC (.int 0)) (mCons (mVar 0) (mCons (mVar 1) mNil))))) mNil)))))))))) (gN 2))
(mSeq (mAsg (mBin opAdd (mVar 2) (mLst (mCons (mTup (mCons (mC (.int 0)) (mCons (mC (.int 0)) (mCons (mTup (mCons (mTup mNil) mNil)) (mCons (mVar 1) mNil))))) (mCons (mTup (mCons (mC (.int 7)) (mCons (mC (.int 0)) (mCons (mTup (mCons (mBin opMul (mTup (mCons (mC (.int 0)) mNil)) (mC (.int 7))) mNil)) (mCons (mVar 1) mNil))))) (mCons (mTup (mCons (mC (.int 1)) (mCons (mC (.int 1)) (mCons (mVar 0) (mCons (mVar 1) mNil))))) (mCons (mTup (mCons (mC (.int 1)) (mCons (mUn opNeg (mC (.int 1))) (mCons (mVar 0) (mCons (mVar 1) mNil))))) mNil)))))) (gN 2))
(mSeq (mAsg (mBin opAdd (mVar 2) (mLst (mCons (mTup (mCons (mC (.int 1)) (mCons (mC (.int 0)) (mCons (mTup mNil) (mCons (mTup mNil) mNil))))) (mCons (mTup (mCons (mC (.int 1)) (mCons (mC (.int 0)) (mCons (mBin opMul (mVar 0) (mC (.int 7))) (mCons (mBin opMul (mVar 1) (mC (.int 7))) mNil))))) (mCons (mTup (mCons (mC (.int 1)) (mCons (mC (.int 0)) (mCons (mVar 0) (mCons (mTup mNil) mNil))))) (mCons (mTup (mCons (mC (.int 1)) (mCons (mC (.int 0)) (mCons (mVar 0) (mCons (mBin opMul (mVar 1) (mC (.int 2))) mNil))))) mNil)))))) (gN 2))
(mSeq (mAsg (mBin opAdd (mVar 2) (mLst (mCons (mTup (mCons (mC (.int 1)) (mCons (mC (.int 0)) (mCons (mVar 0) (mCons (mTup (mCons (mC (.int 10)) mNil)) mNil))))) (mCons (mTup (mCons (mC (.int 1)) (mCons (mC (.int 0)) (mCons (mVar 0) (mCons (mTup (mCons (mUn opNeg (mC (.int 1))) mNil)) mNil))))) (mCons (mTup (mCons (mC (.int 1)) (mCons (mC (.int 0)) (mCons (mVar 0) (mCons (mTup (mCons (mC (.bl true)) mNil)) mNil))))) (mCons (mTup (mCons (mC (.int 1)) (mCons (mC (.int 0)) (mCons (mVar 0) (mCons (mTup (mCons (mC (.str "0")) mNil)) mNil))))) mNil)))))) (gN 2))
(mSeq (mAsg (mBin opAdd (mVar 2) (mLst (mCons (mTup (mCons (mC (.bl true)) (mCons (mC (.int 0)) (mCons (mVar 0) (mCons (mVar 1) mNil))))) (mCons (mTup (mCons (mC (.int 1)) (mCons (mC (.bl false)) (mCons (mVar 0) (mCons (mVar 1) mNil))))) (mCons (mTup (mCons (mC (.int 1)) (mCons (mC (.int 0)) (mCons (mTup (mCons (mTup (mCons (mC (.int 1)) mNil)) mNil)) (mCons (mVar 1) mNil))))) (mCons (mTup (mCons (mC (.str "1")) (mCons (mC (.int 0)) (mCons (mVar 0) (mCons (mVar 1) mNil))))) mNil)))))) (gN 2))
(mSeq (mAsg (mBin opAdd (mVar 2) (mLst (mCons (mTup (mCons (mC (.int 1)) (mCons (mC (.int 0)) (mCons (mTup (mCons (mTup (mCons (mC (.int 0)) (mCons (mC (.int 0)) mNil))) mNil)) (mCons (mVar 1) mNil))))) (mCons (mTup (mCons (mC (.int 1)) (mCons (mC (.int 0)) (mCons (mTup (mCons (mTup mNil) mNil)) (mCons (mVar 1) mNil))))) (mCons (mTup (mCons (mC (.int 1)) (mCons (mC (.int 0)) (mCons (mTup (mCons (mLst (mCons (mC (.int 0)) mNil)) mNil)) (mCons (mVar 1) mNil))))) (mCons (mTup (mCons (mC (.int 1)) (mCons (mC (.int 0)) (mCons (mLst (mCons (mTup (mCons (mC (.int 0)) mNil)) mNil)) (mCons (mVar 1) mNil))))) mNil)))))) (gN 2))
(mSeq (mAsg (mBin opAdd (mVar 2) (mLst (mCons (mTup (mCons (mC (.int 1)) (mCons (mC (.int 0)) (mCons (mVar 0) (mCons (mLst (mCons (mC .non) mNil)) mNil))))) (mCons (mTup (mCons (mC (.int 1)) (mCons (mC (.int 0)) (mCons (mTup (mCons (mTup (mCons (mC (.bl false)) mNil)) mNil)) (mCons (mVar 1) mNil))))) (mCons (mTup (mCons (mC (.int 2)) (mCons (mC (.int 0)) (mCons (mTup (mCons (mTup (mCons (mC (.int 0)) (mCons (mC .non) mNil))) mNil)) (mCons (mVar 1) mNil))))) mNil))))) (gN 2))
(mRet (mBin opAdd (mVar 2) (mLst (mCons (mTup (mCons (mC (.int 1)) (mCons (mC .non) (mCons (mVar 0) (mCons (mVar 1) mNil))))) (mCons (mTup (mCons (mC (.int 2)) (mCons (mC (.int 0)) (mCons (mTup (mCons (mTup (mCons (mC (.int 0)) (mCons (mC (.int 2)) mNil))) mNil)) (mCons (mVar 1) mNil))))) (mCons (mTup (mCons (mC (.int 1)) (mCons (mC (.int 0)) (mCons (mVar 0) (mCons (mC .non) mNil))))) (mCons (mTup (mCons (mC (.int 1)) (mCons (mC (.int 0)) (mCons (mC .non) (mCons (mVar 1) mNil))))) mNil)))))))))))))))
noncomputable def m__law_moves : FM := mFn 3 (mRet (mCall fTuple (mCons (mLc (mSrc (mUser m__law_reached (mCons (mVar 0) mNil))) (.one 2) mYes (mUser m__law_run (mCons (mVar 0) (mCons (mVar 2) (mCons (mVar 1) mNil)))) [2]) mNil)))
noncomputable def m__law_any_moves : FM := mFn 4 (mSeq (mAsg (mUser m__law_reached (mCons (mVar 1) mNil)) (gN 2))
(mRet (mCall fTuple (mCons (mLc (mSrc (mVar 2)) (.one 3) mYes (mUser m__law_pick (mCons (mVar 0) (mCons (mVar 2) mNil))) [3]) mNil))))
noncomputable def m__law_deed : FM := mFn 6 (mSeq (mAsg (mUser m__law_draw (mCons (mVar 0) (mCons (mC (.int 6)) mNil))) (gN 3))
(mSeq (mIfS (mB (mBin opLt (mVar 3) (mC (.int 3))))
(mSeq (mAsg (mUser m__law_draw (mCons (mVar 0) (mCons (mCall fLen (mCons (mBin opIx (mVar 1) (mC (.int 2))) mNil)) mNil))) (gN 4))
(mRet (mTup (mCons (mBin opIx (mLst (mCons (mC (.str "add")) (mCons (mC (.str "call")) mNil))) (mBin opMod (mVar 3) (mC (.int 2)))) (mCons (mVar 4) (mCons (mBin opAdd (mVar 2) (mTup (mCons (mVar 4) mNil))) mNil))))))
mSkip)
(mSeq (mAsg (mUser m__law_log (mCons (mVar 0) (mCons (mVar 1) (mCons (mC (.int 5)) mNil)))) (gN 5))
(mRet (mIf (mB (mBin opLt (mVar 3) (mC (.int 5)))) (mTup (mCons (mC (.str "extend")) (mCons (mVar 5) (mCons (mBin opAdd (mVar 2) (mVar 5)) mNil)))) (mTup (mCons (mC (.str "assign")) (mCons (mVar 5) (mCons (mVar 5) mNil)))))))))
noncomputable def m_Trying_init : FM := mFn 2 (mSeq (mSetFld ["Trying"] "store" (mVar 0) (mVar 1))
(mSeq (mSetFld ["Trying"] "log" (mVar 0) (mTup mNil))
(mSetFld ["Trying"] "past" (mVar 0) (mTup mNil))))
noncomputable def m__law_right_system : FM := mFn 5 (mSeq (mAsg (mUser m__law_system (mCons (mVar 0) mNil)) (gN 1))
(mSeq (mIfS (mB (mBin opNotN (mUser m__law_fault (mCons (mVar 1) mNil)) (mC .non)))
(mAsg (mBin opAdd (mSl (mVar 1) mNo (mPart (mC (.int 3)))) (mTup (mCons (mBin opMul (mTup (mCons (mC .non) mNil)) (mCall fLen (mCons (mBin opIx (mVar 1) (mC (.int 2))) mNil))) mNil))) (gN 1))
mSkip)
(mSeq (mFor (mSrc (mBin opIx (mVar 1) (mC (.int 2)))) (gN 2)
(mFor (mSrc (mUser m__law_reached (mCons (mVar 1) mNil))) (gN 3)
(mFor (mSrc (mUser m__law_reached (mCons (mTup (mCons (mBin opIx (mVar 1) (mC (.int 0))) (mCons (mBin opIx (mVar 2) (mVar 3)) (mCons (mBin opIx (mVar 1) (mC (.int 2))) (mCons (mBin opIx (mVar 1) (mC (.int 3))) mNil))))) mNil))) (gN 4)
(mIfS (mB (mBin opNe (mBin opIx (mVar 2) (mVar 4)) (mVar 4)))
(mRet (mTup (mCons (mBin opIx (mVar 1) (mC (.int 0))) (mCons (mBin opIx (mVar 1) (mC (.int 1))) (mCons (mTup (mCons (mTupRg (mBin opIx (mVar 1) (mC (.int 0)))) mNil)) (mCons (mTup (mCons (mC (.int 0)) mNil)) mNil))))))
mSkip))))
(mRet (mVar 1)))))
noncomputable def m__law_is_covered : FM := mFn 10 (mSeq (mAsg (mLcF finO (mSrc (mUser m__law_reached (mCons (mVar 0) mNil))) (.one 9) mYes (mTup (mCons (mBin opIx (mBin opIx (mBin opIx (mVar 0) (mC (.int 2))) (mVar 1)) (mVar 9)) (mCons (mVar 9) mNil))) [9]) (gN 3))
(mSeq (mAsg (mC (.int 0)) (gN 4))
(mSeq (mWhile (mB (mBin opLt (mVar 4) (mCall fLen (mCons (mVar 3) mNil))))
(mSeq (mAsg (mBin opIx (mVar 3) (mVar 4)) (gT 2 (gConsM (gN 5) (gConsM (gN 6) gNilM))))
(mSeq (mIfS (mB (mBin opNe (mBin opIx (mBin opIx (mBin opIx (mVar 0) (mC (.int 2))) (mVar 2)) (mVar 5)) (mBin opIx (mBin opIx (mBin opIx (mVar 0) (mC (.int 2))) (mVar 2)) (mVar 6))))
(mRet (mC (.bl false)))
mSkip)
(mSeq (mFor (mSrc (mBin opIx (mVar 0) (mC (.int 2)))) (gN 7)
(mSeq (mAsg (mTup (mCons (mBin opIx (mVar 7) (mVar 5)) (mCons (mBin opIx (mVar 7) (mVar 6)) mNil))) (gN 8))
(mIfS (mB (mBin opNotIn (mVar 8) (mVar 3)))
(mDrop (mAppend (mVar 3) (mVar 8)))
mSkip)))
(mAsg (mBin opAdd (mVar 4) (mC (.int 1))) (gN 4))))) 2000)
(mRet (mC (.bl true))))))
noncomputable def m__law_rows : FM := mFn 4 (mSeq (mAsg (mListRg (mCall fLen (mCons (mBin opIx (mVar 0) (mC (.int 2))) mNil))) (gN 1))
(mRet (mLc (mSrc (mVar 1)) (.one 2) mYes (mLc (mSrc (mVar 1)) (.one 3) mYes (mUser m__law_is_covered (mCons (mVar 0) (mCons (mVar 2) (mCons (mVar 3) mNil)))) [3]) [2])))
noncomputable def m__law_name : FM := mFn 1 (mRet (mBin opIx (mLst (mCons (mC (.str "Store")) (mCons (mC (.str "Thin")) (mCons (mC (.str "Limited")) (mCons (mC (.str "LimitedThin")) (mCons (mC (.str "Compact")) (mCons (mC (.str "Once")) mNil))))))) (mVar 0)))
end VL
namespace VL
open PySem PySem.Spec PyProof.Rows L2

/-! ### what a result is to meet -/
def wp {α : Type} (r : R α) (Q : α → S → Prop) : Prop := match r with
  | .ok a s => Q a s
  | _ => False
section
variable {α β : Type} {Q Q' : α → S → Prop}
@[simp] theorem wp_ok (a : α) (s : S) : wp (.ok a s) Q = Q a s := rfl
@[simp] theorem wp_bad : wp (.bad : R α) Q = False := rfl
@[simp] theorem wp_exn (c fs ρ s) : wp (.exn c fs ρ s : R α) Q = False := rfl
@[simp] theorem wp_bnd (r : R α) (f : α → S → R β) (Q : β → S → Prop) : wp (r.bnd f) Q = wp r fun a s => wp (f a s) Q := by cases r <;> rfl
theorem wp.mono {r : R α} (h : wp r Q) (k : ∀ a s, Q a s → Q' a s) : wp r Q' := by
  cases r with
  | ok a s => exact k a s h
  | exn c fs ρ s => exact h
  | bad => exact h
theorem wp.ok {r : R α} (h : wp r Q) : ∃ a s, r = .ok a s ∧ Q a s := by
  cases r with
  | ok a s => exact ⟨a, s, rfl, h⟩
  | exn c fs ρ s => exact h.elim
  | bad => exact h.elim
theorem wp.of {r : R α} {a s} (e : r = .ok a s) (h : Q a s) : wp r Q := by rw [e]; exact h
@[simp] theorem wp_retag (ρ : Ev) (r : R D) (Q : D → S → Prop) : wp (retag ρ r) Q = wp r Q := by cases r <;> rfl
@[simp] theorem retag_ok (ρ : Ev) (d s) : retag ρ (.ok d s) = .ok d s := rfl
@[simp] theorem wp_noX (r : R α) : wp (noX r) Q = wp r Q := by cases r <;> rfl
@[simp] theorem noX_ok (a : α) (s) : noX (.ok a s) = .ok a s := rfl
end
/-- a def's end -/
def fin : R Fl → R D
  | .ok (.nx _) s1 => .ok .non s1
  | .ok (.ret d) s1 => .ok d s1
  | .ok _ _ => .bad
  | .exn c fs _ s1 => .exn c fs [] s1
  | .bad => .bad
def endQ (Q : D → S → Prop) : Fl → S → Prop := fun fl s => match fl with
  | .nx _ => Q .non s
  | .ret d => Q d s
  | _ => False
theorem mFn_eq (N : Nat) (b : MS) (ds : List D) (s : S) : mFn N b ds s = fin (b (initE N ds) s) := by
  unfold mFn fin
  cases b (initE N ds) s with
  | ok fl s => cases fl <;> rfl
  | exn c fs ρ s => rfl
  | bad => rfl
@[simp] theorem fin_nx (ρ s) : fin (.ok (.nx ρ) s) = .ok .non s := rfl
@[simp] theorem fin_ret (d s) : fin (.ok (.ret d) s) = .ok d s := rfl
@[simp] theorem wp_fin (r : R Fl) (Q : D → S → Prop) : wp (fin r) Q = wp r (endQ Q) := by
  cases r with
  | ok fl s => cases fl <;> rfl
  | exn c fs ρ s => rfl
  | bad => rfl
@[simp] theorem endQ_nx (Q : D → S → Prop) (ρ s) : endQ Q (.nx ρ) s = Q .non s := rfl
@[simp] theorem endQ_ret (Q : D → S → Prop) (d s) : endQ Q (.ret d) s = Q d s := rfl
/-! ### the combinators, opened -/
@[simp] theorem LIM_eq : LIM = 1000000 := rfl
@[simp] theorem get_0 {α : Type} (a : α) (l : List α) : (a :: l)[0]? = some a := rfl
@[simp] theorem get_n0 {α : Type} : ([] : List α)[0]? = none := rfl
def vg : Option (Option D) → S → R D
  | some (some d), s => .ok d s
  | _, _ => .bad
@[simp] theorem vg_some (d s) : vg (some (some d)) s = .ok d s := rfl
@[simp] theorem mVar_eq (i : Nat) (ρ : Ev) (s : S) : mVar i ρ s = vg ρ[i]? s := by
  unfold mVar vg
  cases h : ρ[i]? with
  | none => rfl
  | some o => cases o <;> rfl
section
variable (ρ : Ev) (s : S)
@[simp] theorem mC_eq (d : D) : mC d ρ s = .ok d s := rfl
@[simp] theorem mBin_eq (f a b) : mBin f a b ρ s = (a ρ s).bnd fun x s1 => (b ρ s1).bnd fun y s2 => f x y s2 := rfl
@[simp] theorem mUn_eq (f a) : mUn f a ρ s = (a ρ s).bnd fun x s1 => f x s1 := rfl
@[simp] theorem mCall_eq (f a) : mCall f a ρ s = (a ρ s).bnd fun x s1 => f x s1 := rfl
@[simp] theorem asB_ok (b s) : asB (.ok (.bl b) s) = .ok b s := rfl
def bQ (Q : Bool → S → Prop) : D → S → Prop := fun d s => match d with
  | .bl b => Q b s
  | _ => False
@[simp] theorem bQ_bl (Q : Bool → S → Prop) (b s) : bQ Q (.bl b) s = Q b s := rfl
@[simp] theorem wp_asB (r : R D) (Q : Bool → S → Prop) : wp (asB r) Q = wp r (bQ Q) := by
  cases r with
  | ok d s => cases d <;> rfl
  | exn c fs ρ s => rfl
  | bad => rfl
@[simp] theorem mB_eq (m) : mB m ρ s = asB (m ρ s) := rfl
def chF (k : S → R D) : D → S → R D := fun z s3 => match z with
  | .bl true => k s3
  | .bl false => .ok (.bl false) s3
  | _ => .bad
@[simp] theorem chF_bl (k : S → R D) (b s) : chF k (.bl b) s = if b = true then k s else .ok (.bl false) s := by cases b <;> rfl
@[simp] theorem mChn_eq (f g a b c) : mChn f g a b c ρ s = (a ρ s).bnd fun x s1 => (b ρ s1).bnd fun y s2 => (f x y s2).bnd (chF fun s3 => (c ρ s3).bnd fun w s4 => g y w s4) := rfl
@[simp] theorem mAndT_eq (a b) : mAndT a b ρ s = (a ρ s).bnd fun k s1 => if k = true then b ρ s1 else .ok false s1 := rfl
@[simp] theorem mOrT_eq (a b) : mOrT a b ρ s = (a ρ s).bnd fun k s1 => if k = true then .ok true s1 else b ρ s1 := rfl
@[simp] theorem mNotT_eq (a) : mNotT a ρ s = (a ρ s).bnd fun k s1 => .ok (!k) s1 := rfl
@[simp] theorem mAndV_eq (a b) : mAndV a b ρ s = (asB (a ρ s)).bnd fun k s1 => if k = true then b ρ s1 else .ok (.bl false) s1 := rfl
@[simp] theorem mOrV_eq (a b) : mOrV a b ρ s = (asB (a ρ s)).bnd fun k s1 => if k = true then .ok (.bl true) s1 else b ρ s1 := rfl
@[simp] theorem mNotV_eq (a) : mNotV a ρ s = (asB (a ρ s)).bnd fun k s1 => .ok (.bl (!k)) s1 := rfl
@[simp] theorem mIf_eq (t a b) : mIf t a b ρ s = (t ρ s).bnd fun k s1 => if k = true then a ρ s1 else b ρ s1 := rfl
@[simp] theorem mNil_eq : mNil ρ s = .ok [] s := rfl
@[simp] theorem mCons_eq (m ms) : mCons m ms ρ s = (m ρ s).bnd fun x s1 => (ms ρ s1).bnd fun xs s2 => .ok (x :: xs) s2 := rfl
@[simp] theorem mTup_eq (m) : mTup m ρ s = (m ρ s).bnd fun xs s1 => if xs.length ≤ LIM then .ok (.tup xs) s1 else .bad := rfl
@[simp] theorem mLst_eq (m) : mLst m ρ s = (m ρ s).bnd fun xs s1 => if xs.length ≤ LIM then .ok (.lst xs) s1 else .bad := rfl
@[simp] theorem mLstO_eq (m) : mLstO m ρ s = (m ρ s).bnd fun xs s1 => if xs.length ≤ LIM then .ok (.obj s1.length) (s1 ++ [.lst xs]) else .bad := rfl
@[simp] theorem mUser_eq (m ms) : mUser m ms ρ s = (ms ρ s).bnd fun ds s1 => retag ρ (m ds s1) := rfl
@[simp] theorem mSl_eq (m lo hi) : mSl m lo hi ρ s = (m ρ s).bnd fun x s1 => (lo ρ s1).bnd fun l s2 => (hi ρ s2).bnd fun h s3 => opSl x l h s3 := rfl
@[simp] theorem mNo_eq : mNo ρ s = .ok none s := rfl
@[simp] theorem mPart_eq (m) : mPart m ρ s = (m ρ s).bnd fun d s1 => match d with
  | .int i => .ok (some i) s1
  | _ => .bad := rfl
@[simp] theorem mSkip_eq : mSkip ρ s = .ok (.nx ρ) s := rfl
def seqF (b : MS) : Fl → S → R Fl := fun fl s1 => match fl with
  | .nx ρ1 => b ρ1 s1
  | fl => .ok fl s1
@[simp] theorem seqF_nx (b ρ s) : seqF b (.nx ρ) s = b ρ s := rfl
@[simp] theorem seqF_ret (b d s) : seqF b (.ret d) s = .ok (.ret d) s := rfl
@[simp] theorem seqF_bk (b d s) : seqF b (.bk d) s = .ok (.bk d) s := rfl
@[simp] theorem seqF_ct (b d s) : seqF b (.ct d) s = .ok (.ct d) s := rfl
@[simp] theorem mSeq_eq (a b) : mSeq a b ρ s = (a ρ s).bnd (seqF b) := by
  unfold mSeq
  cases a ρ s with
  | ok fl s => cases fl <;> rfl
  | exn c fs ρ s => rfl
  | bad => rfl
@[simp] theorem mRet_eq (m) : mRet m ρ s = (m ρ s).bnd fun d s1 => .ok (.ret d) s1 := rfl
@[simp] theorem mRetN_eq : mRetN ρ s = .ok (.ret .non) s := rfl
@[simp] theorem mDrop_eq (m) : mDrop m ρ s = (m ρ s).bnd fun _ s1 => .ok (.nx ρ) s1 := rfl
@[simp] theorem mIfS_eq (t a b) : mIfS t a b ρ s = (t ρ s).bnd fun k s1 => if k = true then a ρ s1 else b ρ s1 := rfl
@[simp] theorem mBad_eq : mBad ρ s = .bad := rfl
@[simp] theorem mBreak_eq : mBreak ρ s = .ok (.bk ρ) s := rfl
@[simp] theorem mCont_eq : mCont ρ s = .ok (.ct ρ) s := rfl
@[simp] theorem mAsg_eq (m g) : mAsg m g ρ s = (m ρ s).bnd fun d s1 => (g d ρ s1).bnd fun ρ1 s2 => .ok (.nx ρ1) s2 := rfl
@[simp] theorem gN_eq (i d) : gN i d ρ s = .ok (ρ.set i (some d)) s := rfl
@[simp] theorem gNilM_eq : gNilM [] ρ s = .ok ρ s := rfl
@[simp] theorem gConsM_eq (g gs d ds) : gConsM g gs (d :: ds) ρ s = (g d ρ s).bnd fun ρ1 s1 => gs ds ρ1 s1 := rfl
@[simp] theorem gT_eq (n gs ds) : gT n gs (.tup ds) ρ s = if ds.length = n then gs ds ρ s else .bad := rfl
@[simp] theorem gIx_eq (mo mi d) : gIx mo mi d ρ s = (mo ρ s).bnd fun o s1 => (mi ρ s1).bnd fun i s2 => match setIx o i d s2 with
  | some s3 => .ok ρ s3
  | none => .bad := rfl
@[simp] theorem mPar_eq (i j ms) : mPar i j ms ρ s = (ms ρ s).bnd fun ds s1 => match ds with
  | [x, y] => .ok (.nx ((ρ.set i (some x)).set j (some y))) s1
  | _ => .bad := rfl
@[simp] theorem mPar3_eq (i j k ms) : mPar3 i j k ms ρ s = (ms ρ s).bnd fun ds s1 => match ds with
  | [x, y, z] => .ok (.nx (((ρ.set i (some x)).set j (some y)).set k (some z))) s1
  | _ => .bad := rfl
@[simp] theorem mYes_eq : mYes ρ s = .ok true s := rfl
end
section
variable (s : S)
@[simp] theorem opAdd_int (i j) : opAdd (.int i) (.int j) s = .ok (.int (i + j)) s := rfl
@[simp] theorem opAdd_tup (xs ys) : opAdd (.tup xs) (.tup ys) s = if xs.length + ys.length ≤ LIM then .ok (.tup (xs ++ ys)) s else .bad := rfl
@[simp] theorem opAdd_str (i j) : opAdd (.str i) (.str j) s = if i.length + j.length ≤ LIM then .ok (.str (i ++ j)) s else .bad := rfl
@[simp] theorem opAdd_lst (xs ys) : opAdd (.lst xs) (.lst ys) s = if xs.length + ys.length ≤ LIM then .ok (.lst (xs ++ ys)) s else .bad := rfl
@[simp] theorem opLt_int (i j) : opLt (.int i) (.int j) s = .ok (.bl (decide (i < j))) s := rfl
@[simp] theorem opLe_int (i j) : opLe (.int i) (.int j) s = .ok (.bl (decide (i ≤ j))) s := rfl
@[simp] theorem opGt_int (i j) : opGt (.int i) (.int j) s = .ok (.bl (decide (j < i))) s := rfl
@[simp] theorem opGe_int (i j) : opGe (.int i) (.int j) s = .ok (.bl (decide (j ≤ i))) s := rfl
@[simp] theorem opSub_int (i j) : opSub (.int i) (.int j) s = .ok (.int (i - j)) s := rfl
@[simp] theorem mod_ok {i j : Int} (h : 0 < j) : opMod (.int i) (.int j) s = .ok (.int (i % j)) s := if_pos h
@[simp] theorem div_ok {i j : Int} (h : 0 < j ∧ j < 1073741824) : opDiv (.int i) (.int j) s = .ok (.int (i / j)) s := if_pos (show CDiv i j from h)
@[simp] theorem pow_ok {i j : Int} (h : 0 ≤ j ∧ j ≤ 1000000 ∧ i.natAbs < 2 ^ 64) : opPow (.int i) (.int j) s = .ok (.int (i ^ j.toNat)) s := if_pos (show CPow i j from h)
@[simp] theorem mul_ok {i j : Int} (h : (-(2 ^ 64) < i ∧ i < 2 ^ 64) ∨ (-(2 ^ 64) < j ∧ j < 2 ^ 64)) : opMul (.int i) (.int j) s = .ok (.int (i * j)) s := if_pos (show CMulD i j from h)
@[simp] theorem opMul_tup (xs j) : opMul (.tup xs) (.int j) s = if xs ≠ [] ∧ 2 ≤ j ∧ j ≤ 1000 ∧ xs.length ≤ 1000 then .ok (.tup (List.replicate j.toNat xs).flatten) s else .bad := rfl
@[simp] theorem opNeg_int (i) : opNeg (.int i) s = .ok (.int (-i)) s := rfl
@[simp] theorem isNonD_non : isNonD .non = true := rfl
@[simp] theorem isNonD_int (i) : isNonD (.int i) = false := rfl
@[simp] theorem isNonD_bl (i) : isNonD (.bl i) = false := rfl
@[simp] theorem isNonD_str (i) : isNonD (.str i) = false := rfl
@[simp] theorem isNonD_tup (i) : isNonD (.tup i) = false := rfl
@[simp] theorem isNonD_lst (i) : isNonD (.lst i) = false := rfl
@[simp] theorem isNonD_obj (i) : isNonD (.obj i) = false := rfl
@[simp] theorem opIsN_eq (x) : opIsN x .non s = .ok (.bl (isNonD x)) s := rfl
@[simp] theorem opNotN_eq (x) : opNotN x .non s = .ok (.bl (!isNonD x)) s := rfl
def ixR : Option D → S → R D
  | some d, s => .ok d s
  | none, _ => .bad
@[simp] theorem ixR_some (d) : ixR (some d) s = .ok d s := rfl
@[simp] theorem opIx_tup (xs i) : opIx (.tup xs) (.int i) s = ixR (atI xs i) s := by
  show (match atI xs i with | some d => R.ok d s | none => .bad) = _
  cases atI xs i <;> rfl
@[simp] theorem opIx_lst (xs i) : opIx (.lst xs) (.int i) s = ixR (atI xs i) s := by
  show (match atI xs i with | some d => R.ok d s | none => .bad) = _
  cases atI xs i <;> rfl
@[simp] theorem opIx_scr (xs i) : opIx (.scr xs) (.int i) s = ixR (atI xs i) s := by
  show (match atI xs i with | some d => R.ok d s | none => .bad) = _
  cases atI xs i <;> rfl
theorem opIx_obj {n : Nat} {xs : List D} (h : s[n]? = some (.lst xs)) (i : Int) : opIx (.obj n) (.int i) s = ixR (atI xs i) s := by
  have e : asL s (.obj n) = some xs := by simp [asL, asX, h]
  show (match asL s (.obj n) with | some xs => (match atI xs i with | some d => R.ok d s | none => .bad) | none => .bad) = _
  rw [e]
  show (match atI xs i with | some d => R.ok d s | none => .bad) = _
  cases atI xs i <;> rfl
theorem atI_eq (xs : List D) (i : Int) : atI xs i = if 0 ≤ i then xs[i.toNat]? else if -(xs.length : Int) ≤ i then xs[(i + xs.length).toNat]? else none := by
  unfold atI ixN
  by_cases h : 0 ≤ i
  · rw [if_pos h, if_pos h]
    by_cases h2 : i < xs.length
    · rw [if_pos h2]; rfl
    · rw [if_neg h2, List.getElem?_eq_none (by omega)]; rfl
  · rw [if_neg h, if_neg h]
    by_cases h2 : -(xs.length : Int) ≤ i
    · rw [if_pos h2, if_pos h2]; rfl
    · rw [if_neg h2, if_neg h2]; rfl
@[simp] theorem atI_nat' (xs : List D) (k : Nat) : atI xs (k : Int) = xs[k]? := by rw [atI_eq, if_pos (by omega), Int.toNat_natCast]
@[simp] theorem atI_0 (xs : List D) : atI xs 0 = xs[0]? := atI_nat' xs 0
@[simp] theorem atI_2 (xs : List D) : atI xs 2 = xs[2]? := atI_nat' xs 2
@[simp] theorem atI_3 (xs : List D) : atI xs 3 = xs[3]? := atI_nat' xs 3
@[simp] theorem atI_4 (xs : List D) : atI xs 4 = xs[4]? := atI_nat' xs 4
@[simp] theorem atI_5 (xs : List D) : atI xs 5 = xs[5]? := atI_nat' xs 5
@[simp] theorem atI_6 (xs : List D) : atI xs 6 = xs[6]? := atI_nat' xs 6
@[simp] theorem atI_7 (xs : List D) : atI xs 7 = xs[7]? := atI_nat' xs 7
@[simp] theorem atI_1 (xs : List D) : atI xs 1 = xs[1]? := atI_nat' xs 1
/-! built-ins -/
@[simp] theorem fLen_tup (ds) : fLen [.tup ds] s = .ok (.int (ds.length : Nat)) s := rfl
@[simp] theorem fLen_lst (ds) : fLen [.lst ds] s = .ok (.int (ds.length : Nat)) s := rfl
@[simp] theorem fLen_scr (ds) : fLen [.scr ds] s = .ok (.int (ds.length : Nat)) s := rfl
theorem fLen_obj {n : Nat} {ds : List D} (h : s[n]? = some (.lst ds)) : fLen [.obj n] s = .ok (.int (ds.length : Nat)) s := by
  have e : asL s (.obj n) = some ds := by simp [asL, asX, h]
  show (match asL s (.obj n) with | some ds => R.ok (D.int (ds.length : Nat)) s | none => .bad) = _
  rw [e]
@[simp] theorem fMax2_eq (i j) : fMax2 [.int i, .int j] s = .ok (.int (if j > i then j else i)) s := rfl
@[simp] theorem fMin2_eq (i j) : fMin2 [.int i, .int j] s = .ok (.int (if j < i then j else i)) s := rfl
@[simp] theorem toI_ints (ns : List Int) : toI (ns.map D.int) = some ns := by
  induction ns with
  | nil => rfl
  | cons n ns ih => simp [toI, ih]
@[simp] theorem toB_bls (ns : List Bool) : toB (ns.map D.bl) = some ns := by
  induction ns with
  | nil => rfl
  | cons n ns ih => simp [toB, ih]
theorem fAll_lst (bs : List Bool) : fAll [.lst (bs.map .bl)] s = .ok (.bl (bs.all id)) s := by
  show (match (some (bs.map D.bl)).bind toB with | some bs => R.ok (D.bl (bs.all id)) s | none => .bad) = _
  simp
theorem fSum_lst (ns : List Int) : fSum [.lst (ns.map .int)] s = .ok (.int ns.sum) s := by
  show (match (some (ns.map D.int)).bind toI with | some ns => R.ok (D.int ns.sum) s | none => .bad) = _
  simp
@[simp] theorem fTuple_tup (ds) : fTuple [.tup ds] s = .ok (.tup ds) s := rfl
@[simp] theorem fTuple_lst (ds) : fTuple [.lst ds] s = .ok (.tup ds) s := rfl
theorem fTuple_obj {n : Nat} {ds : List D} (h : s[n]? = some (.lst ds)) : fTuple [.obj n] s = .ok (.tup ds) s := by
  have e : asL s (.obj n) = some ds := by simp [asL, asX, h]
  show (match asL s (.obj n) with | some ds => R.ok (D.tup ds) s | none => .bad) = _
  rw [e]
@[simp] theorem fList_tup (ds) : fList [.tup ds] s = .ok (.lst ds) s := rfl
@[simp] theorem fList_lst (ds) : fList [.lst ds] s = .ok (.lst ds) s := rfl
@[simp] theorem tyOf_non : tyOf s .non = some "NoneType" := rfl
@[simp] theorem tyOf_bl (b) : tyOf s (.bl b) = some "bool" := rfl
@[simp] theorem tyOf_int (b) : tyOf s (.int b) = some "int" := rfl
@[simp] theorem tyOf_str (b) : tyOf s (.str b) = some "str" := rfl
@[simp] theorem tyOf_tup (b) : tyOf s (.tup b) = some "tuple" := rfl
@[simp] theorem tyOf_lst (b) : tyOf s (.lst b) = some "list" := rfl
@[simp] theorem fIsi_tup (ds T) : fIsi [.tup ds, .ty T] s = if T = "int" ∨ T = "bool" ∨ T = "tuple" ∨ T = "str" then .ok (.bl (isT T "tuple")) s else .bad := rfl
@[simp] theorem fIsi_int (ds T) : fIsi [.int ds, .ty T] s = if T = "int" ∨ T = "bool" ∨ T = "tuple" ∨ T = "str" then .ok (.bl (isT T "int")) s else .bad := rfl
@[simp] theorem fIsi_bl (ds T) : fIsi [.bl ds, .ty T] s = if T = "int" ∨ T = "bool" ∨ T = "tuple" ∨ T = "str" then .ok (.bl (isT T "bool")) s else .bad := rfl
@[simp] theorem fIsi_non (T) : fIsi [.non, .ty T] s = if T = "int" ∨ T = "bool" ∨ T = "tuple" ∨ T = "str" then .ok (.bl (isT T "NoneType")) s else .bad := rfl
@[simp] theorem fIsi_str (ds T) : fIsi [.str ds, .ty T] s = if T = "int" ∨ T = "bool" ∨ T = "tuple" ∨ T = "str" then .ok (.bl (isT T "str")) s else .bad := rfl
@[simp] theorem fIsi_lst (ds T) : fIsi [.lst ds, .ty T] s = if T = "int" ∨ T = "bool" ∨ T = "tuple" ∨ T = "str" then .ok (.bl (isT T "list")) s else .bad := rfl
@[simp] theorem isT_ii : isT "int" "int" = true := by decide
@[simp] theorem isT_bi : isT "bool" "int" = false := by decide
@[simp] theorem isT_ib : isT "int" "bool" = true := by decide
@[simp] theorem isT_bb : isT "bool" "bool" = true := by decide
@[simp] theorem isT_tt : isT "tuple" "tuple" = true := by decide
@[simp] theorem isT_ti : isT "tuple" "int" = false := by decide
@[simp] theorem isT_tl : isT "tuple" "list" = false := by decide
@[simp] theorem isT_tn : isT "tuple" "NoneType" = false := by decide
@[simp] theorem isT_in : isT "int" "NoneType" = false := by decide
@[simp] theorem isT_it : isT "int" "tuple" = false := by decide
/-! == -/
@[simp] theorem opEqF_str (f a b) : opEqF f (.str a) (.str b) s = .ok (.bl (f (decide (a = b)))) s := rfl
@[simp] theorem opEqF_int (f i j) : opEqF f (.int i) (.int j) s = .ok (.bl (f (i == j))) s := by
  show (if SeqAt.shaped (.int i) = true ∧ SeqAt.shaped (.int j) = true then R.ok (D.bl (f (PyData.eqv (.int i) (.int j)))) s else R.bad) = _
  rw [if_pos ⟨rfl, rfl⟩]
  simp [PyData.eqv]
theorem opEqF_py {f : Bool → Bool} {x y : D} {p q : PyData} (hx : toPyS s x = some p) (hy : toPyS s y = some q) (h1 : SeqAt.shaped p = true) (h2 : SeqAt.shaped q = true) (hn : bothS x y = none) : opEqF f x y s = .ok (.bl (f (PyData.eqv p q))) s := by
  unfold opEqF
  rw [hn]
  show opEqP f x y s = _
  unfold opEqP
  rw [hx, hy]
  show (if SeqAt.shaped p = true ∧ SeqAt.shaped q = true then _ else _) = _
  rw [if_pos ⟨h1, h2⟩]
end

/-! ### loops over fixed items -/
def loopF (k : Ev → S → R Fl) : Fl → S → R Fl := fun fl s2 => match fl with
  | .nx ρ2 => k ρ2 s2
  | .ct ρ2 => k ρ2 s2
  | .bk ρ2 => .ok (.nx ρ2) s2
  | .ret d => .ok (.ret d) s2
@[simp] theorem loopF_nx (k ρ s) : loopF k (.nx ρ) s = k ρ s := rfl
@[simp] theorem loopF_ct (k ρ s) : loopF k (.ct ρ) s = k ρ s := rfl
@[simp] theorem loopF_bk (k ρ s) : loopF k (.bk ρ) s = .ok (.nx ρ) s := rfl
@[simp] theorem loopF_ret (k d s) : loopF k (.ret d) s = .ok (.ret d) s := rfl
def lloop (g : MG) (b : MS) : List D → MS
  | [], ρ, s => .ok (.nx ρ) s
  | d :: ds, ρ, s => (g d ρ s).bnd fun ρ1 s1 => (b ρ1 s1).bnd (loopF (lloop g b ds))
theorem mLoop_fix (g : MG) (b : MS) : ∀ (xs pre : List D) (ρ : Ev) (s : S), mLoop (.fix (pre ++ xs)) g b xs.length pre.length ρ s = lloop g b xs ρ s
  | [], pre, ρ, s => by simp [mLoop, srcAt, lloop]
  | d :: ds, pre, ρ, s => by
    have ih := mLoop_fix g b ds (pre ++ [d])
    simp only [List.append_assoc, List.singleton_append, List.length_append, List.length_singleton] at ih
    simp only [List.length_cons, mLoop, srcAt, lloop]
    rw [List.getElem?_append_right (Nat.le_refl _), Nat.sub_self]
    show (g d ρ s).bnd _ = _
    congr 1
    funext ρ1 s1
    congr 1
    funext fl s2
    cases fl with
    | nx ρ2 => exact ih ρ2 s2
    | ct ρ2 => exact ih ρ2 s2
    | bk ρ2 => rfl
    | ret d => rfl
@[simp] theorem mSrc_tup (m ρ s) {xs : List D} {s1 : S} (h : m ρ s = .ok (.tup xs) s1) : mSrc m ρ s = .ok (.fix xs) s1 := by unfold mSrc; rw [h]; rfl
@[simp] theorem mSrc_lst (m ρ s) {xs : List D} {s1 : S} (h : m ρ s = .ok (.lst xs) s1) : mSrc m ρ s = .ok (.fix xs) s1 := by unfold mSrc; rw [h]; rfl
/-- what is wanted behind a loop -/
def loopQ (I : Ev → S → Prop) (Qr : D → S → Prop) : Fl → S → Prop := fun fl s => match fl with
  | .nx ρ => I ρ s
  | .ret d => Qr d s
  | _ => False
@[simp] theorem loopQ_nx (I Qr ρ s) : loopQ I Qr (.nx ρ) s = I ρ s := rfl
@[simp] theorem loopQ_ret (I Qr d s) : loopQ I Qr (.ret d) s = Qr d s := rfl
def turnQ (I : Ev → S → Prop) (B : Ev → S → Prop) (Qr : D → S → Prop) : Fl → S → Prop := fun fl s => match fl with
  | .nx ρ => I ρ s
  | .ct ρ => I ρ s
  | .bk ρ => B ρ s
  | .ret d => Qr d s
@[simp] theorem turnQ_nx (I B Qr ρ s) : turnQ I B Qr (.nx ρ) s = I ρ s := rfl
@[simp] theorem turnQ_ct (I B Qr ρ s) : turnQ I B Qr (.ct ρ) s = I ρ s := rfl
@[simp] theorem turnQ_bk (I B Qr ρ s) : turnQ I B Qr (.bk ρ) s = B ρ s := rfl
@[simp] theorem turnQ_ret (I B Qr d s) : turnQ I B Qr (.ret d) s = Qr d s := rfl
/-! ### comprehensions over fixed items -/
def llc (t : Tg) (tt : MT) (el : ME) (ρw : Ev) : List D → List D → S → R (List D)
  | [], acc, s => .ok acc s
  | d :: ds, acc, s => (match tgM t d ρw with
    | some ρ1 => (noX (tt ρ1 s)).bnd fun k s1 => if k = true then (noX (el ρ1 s1)).bnd fun y s2 => llc t tt el ρw ds (acc ++ [y]) s2 else llc t tt el ρw ds acc s1
    | none => .bad)
theorem mLcGo_fix (t : Tg) (tt : MT) (el : ME) (ρw : Ev) : ∀ (xs pre acc : List D) (s : S), mLcGo (.fix (pre ++ xs)) t tt el ρw xs.length pre.length acc s = llc t tt el ρw xs acc s
  | [], pre, acc, s => by simp [mLcGo, srcAt, llc]
  | d :: ds, pre, acc, s => by
    have ih := mLcGo_fix t tt el ρw ds (pre ++ [d])
    simp only [List.append_assoc, List.singleton_append, List.length_append, List.length_singleton] at ih
    simp only [List.length_cons, mLcGo, srcAt, llc]
    rw [List.getElem?_append_right (Nat.le_refl _), Nat.sub_self]
    show (match tgM t d ρw with | some ρ1 => _ | none => _) = _
    cases tgM t d ρw with
    | none => rfl
    | some ρ1 =>
      show (noX (tt ρ1 s)).bnd _ = (noX (tt ρ1 s)).bnd _
      congr 1
      funext k s1
      cases k with
      | true =>
        rw [if_pos rfl, if_pos rfl]
        congr 1
        funext y s2
        exact ih (acc ++ [y]) s2
      | false =>
        rw [if_neg Bool.false_ne_true, if_neg Bool.false_ne_true]
        exact ih acc s1
/-- by an invariant -/
theorem wp_llc {t : Tg} {el : ME} {ρw : Ev} {I : List D → List D → S → Prop} (turn : ∀ d ds acc s, I (d :: ds) acc s → ∃ ρ1, tgM t d ρw = some ρ1 ∧ wp (el ρ1 s) fun y s1 => I ds (acc ++ [y]) s1) :
    ∀ (xs acc : List D) (s : S), I xs acc s → wp (llc t mYes el ρw xs acc s) fun ys s' => I [] ys s'
  | [], acc, s, h => h
  | d :: ds, acc, s, h => by
    obtain ⟨ρ1, h1, h2⟩ := turn d ds acc s h
    unfold llc
    rw [h1]
    simp only [mYes_eq, noX_ok, R.bnd_ok, if_true, wp_bnd, wp_noX]
    exact h2.mono fun y s1 h3 => wp_llc turn ds (acc ++ [y]) s1 h3
@[simp] theorem finL_eq (xs s) : finL xs s = .ok (.lst xs) s := rfl
@[simp] theorem finO_eq (xs s) : finO xs s = .ok (.obj s.length) (s ++ [.lst xs]) := rfl
@[simp] theorem tgM_one (i d ρ) : tgM (.one i) d ρ = some (ρ.set i (some d)) := rfl

/-! ### what is walked, opened for simp -/
def srcF : D → S → R Src := fun d s1 => match d with
  | .tup xs => .ok (.fix xs) s1
  | .lst xs => .ok (.fix xs) s1
  | .scr xs => .ok (.fix xs) s1
  | .tupF xs => .ok (.fix xs) s1
  | .obj n => (match s1[n]? with
    | some (.lst _) => .ok (.live n) s1
    | _ => .bad)
  | _ => .bad
@[simp] theorem mSrc_eq (m ρ s) : mSrc m ρ s = (m ρ s).bnd srcF := rfl
@[simp] theorem srcF_tup (xs s) : srcF (.tup xs) s = .ok (.fix xs) s := rfl
@[simp] theorem srcF_lst (xs s) : srcF (.lst xs) s = .ok (.fix xs) s := rfl
@[simp] theorem srcF_scr (xs s) : srcF (.scr xs) s = .ok (.fix xs) s := rfl
noncomputable def rng1F : List D → S → R Src := fun ds s1 => match ds with
  | [.int j] => if inR j then .ok (.fix (rngD 0 j.toNat)) s1 else .bad
  | _ => .bad
noncomputable def rng2F : List D → S → R Src := fun ds s1 => match ds with
  | [.int i, .int j] => if inR i ∧ inR j then .ok (.fix (rngD i (j - i).toNat)) s1 else .bad
  | _ => .bad
@[simp] theorem mRng1_bnd (m ρ s) : mRng1 m ρ s = (m ρ s).bnd rng1F := rfl
@[simp] theorem mRng2_bnd (m ρ s) : mRng2 m ρ s = (m ρ s).bnd rng2F := rfl
@[simp] theorem rng1F_ok {j : Int} (s) (h : -(2 ^ 62) ≤ j ∧ j < 2 ^ 62) : rng1F [.int j] s = .ok (.fix (rngD 0 j.toNat)) s := if_pos h
@[simp] theorem rng2F_ok {i j : Int} (s) (h : (-(2 ^ 62) ≤ i ∧ i < 2 ^ 62) ∧ (-(2 ^ 62) ≤ j ∧ j < 2 ^ 62)) : rng2F [.int i, .int j] s = .ok (.fix (rngD i (j - i).toNat)) s := if_pos h
def forF (g : MG) (b : MS) (ρ : Ev) : Src → S → R Fl := fun src s1 => match srcAt s1 src with
  | some xs => mLoop src g b xs.length 0 ρ s1
  | none => .bad
@[simp] theorem mFor_eq (it g b ρ s) : mFor it g b ρ s = (it ρ s).bnd (forF g b ρ) := rfl
@[simp] theorem forF_fix (g b ρ xs s) : forF g b ρ (.fix xs) s = lloop g b xs ρ s := mLoop_fix g b xs [] ρ s
def lcF (fi : List D → S → R D) (t : Tg) (tt : MT) (el : ME) (vs : List Nat) (ρ : Ev) : Src → S → R D := fun src s1 => (match srcAt s1 src with
  | some xs => if xs.length ≤ LIM ∧ (∀ i ∈ t.slots, i ∈ vs) then mLcGo src t tt el (wipeD ρ vs) xs.length 0 [] s1 else .bad
  | none => R.bad).bnd fi
theorem bnd_bnd {α β γ : Type} (r : R α) (f : α → S → R β) (g : β → S → R γ) : (r.bnd f).bnd g = r.bnd fun a s => (f a s).bnd g := by cases r <;> rfl
@[simp] theorem mLcF_eq (fi it t tt el vs ρ s) : mLcF fi it t tt el vs ρ s = (it ρ s).bnd (lcF fi t tt el vs ρ) := by
  unfold mLcF mLc0
  rw [bnd_bnd]
  rfl
theorem lcF_fix {fi : List D → S → R D} {t : Tg} {tt : MT} {el : ME} {vs : List Nat} {ρ : Ev} {s : S} {xs : List D} (hl : xs.length ≤ 1000000) (hs : (t.slots.all fun i => vs.contains i) = true) :
    lcF fi t tt el vs ρ (.fix xs) s = (llc t tt el (wipeD ρ vs) xs [] s).bnd fi := by
  show (if xs.length ≤ LIM ∧ (∀ i ∈ t.slots, i ∈ vs) then _ else R.bad).bnd fi = _
  rw [if_pos ⟨hl, fun i hi => by simpa using List.all_eq_true.1 hs i hi⟩]
  congr 1
  exact mLcGo_fix t tt el (wipeD ρ vs) xs [] [] s
@[simp] theorem lcF_rng {fi : List D → S → R D} {t : Tg} {tt : MT} {el : ME} {vs : List Nat} {ρ : Ev} {s : S} {lo : Int} {n : Nat} (hl : n ≤ 1000000) :
    lcF fi t tt el vs ρ (.fix (rngD lo n)) s = if (t.slots.all fun i => vs.contains i) = true then (llc t tt el (wipeD ρ vs) (rngD lo n) [] s).bnd fi else .bad := by
  by_cases h : (t.slots.all fun i => vs.contains i) = true
  · rw [if_pos h, lcF_fix (by rw [rngD_len]; exact hl) h]
  · rw [if_neg h]
    show (if (rngD lo n).length ≤ LIM ∧ (∀ i ∈ t.slots, i ∈ vs) then _ else R.bad).bnd fi = _
    rw [if_neg fun hh => h (List.all_eq_true.2 fun i hi => by simpa using hh.2 i hi)]
    rfl
@[simp] theorem slots_one (i) : (Tg.one i).slots = [i] := rfl
@[simp] theorem slots_many (i) : (Tg.many i).slots = i := rfl
@[simp] theorem wipeD_nil (ρ) : wipeD ρ [] = ρ := rfl
@[simp] theorem wipeD_cons (ρ v vs) : wipeD ρ (v :: vs) = (wipeD ρ vs).set v none := rfl
@[simp] theorem mListRg_eq (m ρ s) : mListRg m ρ s = (m ρ s).bnd fun d s1 => match d with
  | .int j => if rgOkD j then .ok (.lst (rngD 0 j.toNat)) s1 else .bad
  | _ => .bad := rfl
@[simp] theorem mTupRg_eq (m ρ s) : mTupRg m ρ s = (m ρ s).bnd fun d s1 => match d with
  | .int j => if rgOkD j then .ok (.tup (rngD 0 j.toNat)) s1 else .bad
  | _ => .bad := rfl
@[simp] theorem rgOk_pos {α : Type} {j : Int} {a b : α} (h : -(2 ^ 62) ≤ j ∧ j ≤ 1000) : (if rgOkD j then a else b) = a := if_pos h
@[simp] theorem mAppend_eq (mo me ρ s) : mAppend mo me ρ s = (mo ρ s).bnd fun x s1 => if isLstO s1 x = true then (me ρ s1).bnd fun y s2 => fAppend x y s2 else .bad := rfl
theorem isLstO_obj {s : S} {n : Nat} {ds : List D} (h : s[n]? = some (.lst ds)) : isLstO s (.obj n) = true := by simp [isLstO, h]
theorem fAppend_obj {s : S} {n : Nat} {ds : List D} (h : s[n]? = some (.lst ds)) (hl : ds.length < 1000000) (y : D) : fAppend (.obj n) y s = .ok .non (s.set n (.lst (ds ++ [y]))) := by
  simp [fAppend, h, hl]
@[simp] theorem opSl_tup (xs lo hi s) : opSl (.tup xs) lo hi s = .ok (.tup (cutD xs lo hi)) s := rfl
@[simp] theorem opSl_lst (xs lo hi s) : opSl (.lst xs) lo hi s = .ok (.lst (cutD xs lo hi)) s := rfl
theorem cut_to (xs : List D) (n : Nat) : cutD xs none (some (n : Int)) = xs.take n := by
  unfold cutD
  rw [HT.sIx_nat, HT.sIx_none]
  simp only [Nat.sub_zero, List.drop_zero]
  rw [Nat.min_def]
  split
  · rfl
  · rw [List.take_of_length_le (Nat.le_refl _), List.take_of_length_le (by omega)]
theorem cut_from (xs : List D) (n : Nat) : cutD xs (some (n : Int)) none = xs.drop n := by
  unfold cutD
  rw [HT.sIx_nat, HT.sIx_none, List.take_of_length_le (by rw [List.length_drop]; exact Nat.le_refl _), Nat.min_def]
  split
  · rfl
  · rw [List.drop_of_length_le (Nat.le_refl _), List.drop_of_length_le (by omega)]
@[simp] theorem rngD_length (lo n) : (rngD lo n).length = n := rngD_len
theorem rngD_0 (n : Nat) : rngD 0 n = (List.range n).map fun k => .int (k : Int) := by simp [rngD]
theorem rngD_mem {n : Nat} {d : D} (h : d ∈ rngD 0 n) : ∃ k, k < n ∧ d = .int (k : Nat) := by
  rw [rngD_0] at h
  obtain ⟨k, hk, rfl⟩ := List.mem_map.1 h
  exact ⟨k, List.mem_range.1 hk, rfl⟩
/-- numbers made one by one, nothing changed -/
theorem llc_nums {i : Nat} {el : ME} {ρw : Ev} {s : S} {b : Nat} : ∀ (xs acc : List D), (∀ d ∈ xs, ∃ x : Nat, x < b ∧ el (ρw.set i (some d)) s = .ok (.int (x : Int)) s) →
    ∃ l : List Nat, llc (.one i) mYes el ρw xs acc s = .ok (acc ++ l.map fun x => .int (x : Int)) s ∧ l.length = xs.length ∧ ∀ x ∈ l, x < b
  | [], acc, _ => ⟨[], by simp [llc], rfl, by simp⟩
  | d :: ds, acc, h => by
    obtain ⟨x, hx, e⟩ := h d (List.mem_cons_self ..)
    obtain ⟨l, h1, h2, h3⟩ := llc_nums (i := i) (el := el) (ρw := ρw) (s := s) (b := b) ds (acc ++ [.int (x : Int)]) fun x hx => h x (List.mem_cons_of_mem _ hx)
    refine ⟨x :: l, ?_, by simp [h2], fun y hy => ?_⟩
    · unfold llc
      simp [e, h1]
    · rcases List.mem_cons.1 hy with rfl | hy
      · exact hx
      · exact h3 y hy
/-- what a turn of a loop is to give: the loop is in I before each turn, in K behind it -/
def turnK (I : Ev → S → Prop) (K : Fl → S → Prop) : Fl → S → Prop := fun fl s => match fl with
  | .nx ρ => I ρ s
  | .ct ρ => I ρ s
  | .bk ρ => K (.nx ρ) s
  | .ret d => K (.ret d) s
@[simp] theorem turnK_nx (I K ρ s) : turnK I K (.nx ρ) s = I ρ s := rfl
@[simp] theorem turnK_ct (I K ρ s) : turnK I K (.ct ρ) s = I ρ s := rfl
@[simp] theorem turnK_bk (I K ρ s) : turnK I K (.bk ρ) s = K (.nx ρ) s := rfl
@[simp] theorem turnK_ret (I K d s) : turnK I K (.ret d) s = K (.ret d) s := rfl
theorem wp_loop {g : MG} {b : MS} {K : Fl → S → Prop} (I : List D → Ev → S → Prop) (turn : ∀ d ds ρ s, I (d :: ds) ρ s → wp (g d ρ s) fun ρ1 s1 => wp (b ρ1 s1) (turnK (I ds) K))
    (done : ∀ ρ s, I [] ρ s → K (.nx ρ) s) : ∀ (xs : List D) (ρ : Ev) (s : S), I xs ρ s → wp (lloop g b xs ρ s) K
  | [], ρ, s, h => done ρ s h
  | d :: ds, ρ, s, h => by
    unfold lloop
    rw [wp_bnd]
    refine (turn d ds ρ s h).mono fun ρ1 s1 h1 => ?_
    rw [wp_bnd]
    refine h1.mono fun fl s2 h2 => ?_
    cases fl with
    | nx ρ2 => exact wp_loop I turn done ds ρ2 s2 h2
    | ct ρ2 => exact wp_loop I turn done ds ρ2 s2 h2
    | bk ρ2 => exact h2
    | ret d => exact h2
theorem wp_nums {i : Nat} {el : ME} {ρw : Ev} {s : S} (b : Nat) {xs : List D} {Q : List D → S → Prop} (h : ∀ d ∈ xs, ∃ x : Nat, x < b ∧ el (ρw.set i (some d)) s = .ok (.int (x : Int)) s)
    (k : ∀ l : List Nat, l.length = xs.length → (∀ x ∈ l, x < b) → Q (l.map fun (x : Nat) => D.int (x : Int)) s) : wp (llc (.one i) mYes el ρw xs [] s) Q := by
  obtain ⟨l, h1, h2, h3⟩ := llc_nums (i := i) (el := el) (ρw := ρw) (s := s) xs [] h
  exact wp.of h1 (k l h2 h3)
@[simp] theorem lcF_nil {fi : List D → S → R D} {t : Tg} {tt : MT} {el : ME} {vs : List Nat} {ρ : Ev} {s : S} : lcF fi t tt el vs ρ (.fix []) s = if (t.slots.all fun i => vs.contains i) = true then fi [] s else .bad := by
  by_cases h : (t.slots.all fun i => vs.contains i) = true
  · rw [if_pos h, lcF_fix (by simp) h]; rfl
  · rw [if_neg h]
    show (if ([] : List D).length ≤ LIM ∧ (∀ i ∈ t.slots, i ∈ vs) then _ else R.bad).bnd fi = _
    rw [if_neg fun hh => h (List.all_eq_true.2 fun i hi => by simpa using hh.2 i hi)]
    rfl
@[simp] theorem lcF_cons {fi : List D → S → R D} {t : Tg} {tt : MT} {el : ME} {vs : List Nat} {ρ : Ev} {s : S} {x : D} {xs : List D} (hl : (x :: xs).length ≤ 1000000) :
    lcF fi t tt el vs ρ (.fix (x :: xs)) s = if (t.slots.all fun i => vs.contains i) = true then (llc t tt el (wipeD ρ vs) (x :: xs) [] s).bnd fi else .bad := by
  by_cases h : (t.slots.all fun i => vs.contains i) = true
  · rw [if_pos h, lcF_fix hl h]
  · rw [if_neg h]
    show (if (x :: xs).length ≤ LIM ∧ (∀ i ∈ t.slots, i ∈ vs) then _ else R.bad).bnd fi = _
    rw [if_neg fun hh => h (List.all_eq_true.2 fun i hi => by simpa using hh.2 i hi)]
    rfl
theorem llc_nil (t tt el ρw acc s) : llc t tt el ρw [] acc s = .ok acc s := rfl
theorem llc_cons (t tt el ρw d ds acc s) : llc t tt el ρw (d :: ds) acc s = (match tgM t d ρw with
    | some ρ1 => (noX (tt ρ1 s)).bnd fun k s1 => if k = true then (noX (el ρ1 s1)).bnd fun y s2 => llc t tt el ρw ds (acc ++ [y]) s2 else llc t tt el ρw ds acc s1
    | none => .bad) := rfl
/-! lists of numbers -/
def allI : List D → Bool
  | [] => true
  | .int _ :: ds => allI ds
  | _ => false
def ofI : List D → List Int
  | [] => []
  | .int i :: ds => i :: ofI ds
  | _ :: ds => 0 :: ofI ds
@[simp] theorem allI_nil : allI [] = true := by simp [allI]
@[simp] theorem allI_cons (i ds) : allI (.int i :: ds) = allI ds := by simp [allI]
@[simp] theorem ofI_nil : ofI [] = [] := rfl
@[simp] theorem ofI_cons (i ds) : ofI (.int i :: ds) = i :: ofI ds := rfl
@[simp] theorem allI_map (ns : List Int) : allI (ns.map D.int) = true := by induction ns <;> simp [*]
@[simp] theorem ofI_map (ns : List Int) : ofI (ns.map D.int) = ns := by induction ns <;> simp [*]
theorem allI_eq : ∀ {ds : List D}, allI ds = true → ds = (ofI ds).map D.int
  | [], _ => rfl
  | .int i :: ds, h => by simp only [ofI_cons, List.map_cons]; exact congrArg _ (allI_eq (ds := ds) h)
  | .non :: _, h => by cases h
  | .bl _ :: _, h => by cases h
  | .str _ :: _, h => by cases h
  | .tup _ :: _, h => by cases h
  | .lst _ :: _, h => by cases h
  | .scr _ :: _, h => by cases h
  | .obj _ :: _, h => by cases h
  | .glo _ :: _, h => by cases h
  | .ty _ :: _, h => by cases h
theorem toPys_ints : ∀ ns : List Int, toPys (ns.map D.int) = some (ns.map PyData.int)
  | [] => rfl
  | n :: ns => by simp [toPys, toPy, toPys_ints ns]
@[simp] theorem fSum_ints {ds : List D} (h : allI ds = true) (s) : fSum [.lst ds] s = .ok (.int (ofI ds).sum) s := by
  rw [allI_eq h, fSum_lst]
  simp
theorem any_eqv (x : Int) : ∀ ns : List Int, ((ns.map PyData.int).any fun z => PyData.eqv z (.int x)) = ns.contains x
  | [] => rfl
  | n :: ns => by
    have := any_eqv x ns
    simp only [List.map_cons, List.any_cons, List.contains_cons, this]
    congr 1
    simp only [PyData.eqv]
    exact Bool.beq_comm
theorem shaped_ints (ns : List Int) : SeqAt.shaped (.list (ns.map PyData.int)) = true := by
  have h1 : ∀ ns : List Int, PyData.canLayAll0 (ns.map PyData.int) = true := fun ns => by induction ns <;> simp_all [PyData.canLayAll0, PyData.canLay0]
  have h2 : ∀ ns : List Int, PyData.depthAll (ns.map PyData.int) = 0 := fun ns => by induction ns <;> simp_all [PyData.depthAll, PyData.depth]
  simp [SeqAt.shaped, PyData.canLay0, PyData.depth, h1, h2]
@[simp] theorem opIn_ints {f : Bool → Bool} {x : Int} {ds : List D} (h : allI ds = true) (s) : opInB f (.int x) (.lst ds) s = .ok (.bl (f ((ofI ds).contains x))) s := by
  rw [allI_eq h]
  show (match toPyS s (.int x), toPyS s (.lst ((ofI ds).map D.int)) with
    | some d, some (.list ds) => if SeqAt.shaped d = true ∧ SeqAt.shaped (.list ds) = true then R.ok (D.bl (f (ds.any fun z => PyData.eqv z d))) s else .bad
    | _, _ => .bad) = _
  rw [show toPyS s (.lst ((ofI ds).map D.int)) = some (.list ((ofI ds).map PyData.int)) by simp [toPyS, toPy, toPys_ints]]
  show (if SeqAt.shaped (.int x) = true ∧ SeqAt.shaped (.list ((ofI ds).map PyData.int)) = true then R.ok (D.bl (f (((ofI ds).map PyData.int).any fun z => PyData.eqv z (.int x)))) s else .bad) = _
  rw [if_pos ⟨rfl, shaped_ints _⟩, any_eqv]
  simp
@[simp] theorem mEnum_eq (ms ρ s) : mEnum ms ρ s = (ms ρ s).bnd enumF := rfl
@[simp] theorem enumF_tup (xs s) : enumF [.tup xs] s = .ok (.fix (enumD xs)) s := rfl
@[simp] theorem enumF_lst (xs s) : enumF [.lst xs] s = .ok (.fix (enumD xs)) s := rfl
@[simp] theorem enumD_length (xs) : (enumD xs).length = xs.length := enumD_len
end VL
namespace VL
open PySem PySem.Spec PyProof.Rows L2

/-! ### repr: what is fine to be shown -/
structure FineP (k n : Nat) (p : PyData) : Prop where
  sh : p.showable = true
  hd : p.hasDict = false
  dp : p.depth ≤ k
  lv : p.leavesShort 24 = true
  bk : p.bulk ≤ n
def Fine (k n : Nat) (d : D) : Prop := ∃ p, toPy d = some p ∧ FineP k n p
theorem FineP.mono {k n k' n' p} (h : FineP k n p) (hk : k ≤ k') (hn : n ≤ n') : FineP k' n' p := ⟨h.sh, h.hd, Nat.le_trans h.dp hk, h.lv, Nat.le_trans h.bk hn⟩
theorem Fine.mono {k n k' n' d} (h : Fine k n d) (hk : k ≤ k') (hn : n ≤ n') : Fine k' n' d := h.elim fun p h => ⟨p, h.1, h.2.mono hk hn⟩
theorem fine_bl (k n b) : Fine k n (.bl b) := ⟨.bool b, rfl, rfl, rfl, Nat.zero_le _, rfl, Nat.zero_le _⟩
/-- the text of a value -/
def shw (d : D) : Str := ((toPy d).getD .none).shown
theorem Fine.repr {k n : Nat} {d : D} (h : Fine k n d) (hk : k ≤ 60) (hn : n ≤ 400000) (s : S) : fRepr [d] s = .ok (.str (shw d)) s := by
  obtain ⟨p, hp, f⟩ := h
  have e : toPyS s d = some p := by
    cases d with
    | obj n => simp [toPy] at hp
    | _ => exact hp
  have e2 : p.shown.length ≤ sizeLine := by
    have := PyData.shown_le_bulk 24 (by decide) p f.lv
    have := f.bk
    rw [sizeLine_eq]
    omega
  show (match toPyS s d with | some p => (if p.showable = true ∧ p.shown.length ≤ sizeLine ∧ p.hasDict = false ∧ p.depth ≤ 60 then R.ok (D.str p.shown) s else R.bad) | none => .bad) = _
  rw [e]
  show (if p.showable = true ∧ p.shown.length ≤ sizeLine ∧ p.hasDict = false ∧ p.depth ≤ 60 then R.ok (D.str p.shown) s else R.bad) = _
  rw [if_pos ⟨f.sh, e2, f.hd, Nat.le_trans f.dp hk⟩, shw, hp]
  rfl

/-! ### systems -/
abbrev nD (n : Nat) : D := .int (n : Int)
def kD : Option Nat → D
  | none => .non
  | some n => nD n
structure Sys where
  many : Nat
  start : Nat
  ops : List (List Nat)
  kinds : List (Option Nat)
def opD (o : List Nat) : D := .tup (o.map nD)
def Sys.D (y : Sys) : D := .tup [nD y.many, nD y.start, .tup (y.ops.map opD), .tup (y.kinds.map kD)]
structure Sys.Ok (y : Sys) : Prop where
  m1 : 1 ≤ y.many
  m6 : y.many ≤ 6
  st : y.start < y.many
  o1 : 1 ≤ y.ops.length
  o6 : y.ops.length ≤ 6
  ol : ∀ o ∈ y.ops, o.length = y.many
  oe : ∀ o ∈ y.ops, ∀ x ∈ o, x < y.many
  kl : y.kinds.length = y.ops.length
  ke : ∀ k ∈ y.kinds, ∀ n, k = some n → n ≤ 9
def logD (l : List Nat) : D := .tup (l.map nD)
/-! ### the law's pen -/
/-- the pen p: digits left, a stir, a count with f draws to spare -/
def Pen (p f : Nat) (s : S) : Prop := ∃ a m c : Int, s[p]? = some (.lst [.int a, .int m, .int c]) ∧ 0 ≤ a ∧ 0 ≤ m ∧ m < 1000000007 ∧ 0 ≤ c ∧ c + f ≤ 2 ^ 60
theorem Pen.mono {p f f' : Nat} {s : S} (h : Pen p f s) (k : f' ≤ f) : Pen p f' s := by
  obtain ⟨a, m, c, h1, h2, h3, h4, h5, h6⟩ := h
  exact ⟨a, m, c, h1, h2, h3, h4, h5, by omega⟩
theorem Pen.lt {p f : Nat} {s : S} (h : Pen p f s) : p < s.length := by
  obtain ⟨a, m, c, h1, _⟩ := h
  exact (List.getElem?_eq_some_iff.1 h1).1
/-- the store but p is as before, new ones are behind -/
def Frm (p : Nat) (s s' : S) : Prop := s.length ≤ s'.length ∧ ∀ i, i < s.length → i ≠ p → s'[i]? = s[i]?
theorem Frm.refl (p s) : Frm p s s := ⟨Nat.le_refl _, fun _ _ _ => rfl⟩
theorem Frm.trans {p s s' s''} (h : Frm p s s') (k : Frm p s' s'') : Frm p s s'' := ⟨Nat.le_trans h.1 k.1, fun i hi hp => (k.2 i (Nat.lt_of_lt_of_le hi h.1) hp).trans (h.2 i hi hp)⟩
theorem Frm.set {p s} (o : O) : Frm p s (s.set p o) := ⟨by simp, fun i _ hp => by rw [List.getElem?_set_ne (Ne.symm hp)]⟩
theorem Frm.app {p s} (t : S) : Frm p s (s ++ t) := ⟨by simp, fun i hi _ => by rw [List.getElem?_append_left hi]⟩
theorem Frm.get {p s s'} (h : Frm p s s') {i : Nat} {o : O} (e : s[i]? = some o) (hp : i ≠ p) : s'[i]? = some o := by
  rw [h.2 i (List.getElem?_eq_some_iff.1 e).1 hp]; exact e
theorem Pen.app {p f s} (h : Pen p f s) (t : S) : Pen p f (s ++ t) := by
  have hl := h.lt
  obtain ⟨a, m, c, h1, h2⟩ := h
  exact ⟨a, m, c, by rw [List.getElem?_append_left hl]; exact h1, h2⟩
theorem Pen.set {p f s} (h : Pen p f s) {q : Nat} (hq : q ≠ p) (o : O) : Pen p f (s.set q o) := by
  obtain ⟨a, m, c, h1, h2⟩ := h
  exact ⟨a, m, c, by rw [List.getElem?_set_ne hq]; exact h1, h2⟩
end VL
namespace VL
open PySem PySem.Spec PyProof.Rows L2

/-! ### draws -/
theorem getset0 {p : Nat} {s : S} {o o' : O} (h : s[p]? = some o) : (s.set p o')[p]? = some o' := by
  rw [List.getElem?_set_self (List.getElem?_eq_some_iff.1 h).1]
theorem setIx_obj {p : Nat} {s : S} {xs : List D} (h : s[p]? = some (.lst xs)) {i : Nat} (hi : i < xs.length) (v : D) : setIx (.obj p) (.int (i : Int)) v s = some (s.set p (.lst (xs.set i v))) := by
  simp [setIx, h, ixN, hi]
theorem wp_pen (z : Int) (f : Nat) (hf : f ≤ 2 ^ 60) (s : S) : m__law_pen [.int z] s = .ok (.obj s.length) (s ++ [.lst [.int (if z - 10 ^ 18 > 0 then z - 10 ^ 18 else 0), .int (z % 1000000007), .int 0]]) ∧ Pen s.length f (s ++ [.lst [.int (if z - 10 ^ 18 > 0 then z - 10 ^ 18 else 0), .int (z % 1000000007), .int 0]]) := by
  constructor
  · unfold m__law_pen
    rw [mFn_eq]
    simp [initE, CPow]
  · refine ⟨(if z - 10 ^ 18 > 0 then z - 10 ^ 18 else 0), z % 1000000007, 0, by simp, ?_, ?_, ?_, ?_, ?_⟩ <;> first | omega | skip
theorem wp_cell {ns : List Int} {k : Nat} (s : S) : ∃ z : Int, m__law_cell_at [.scr (ns.map .int), nD k] s = .ok (.int z) s := by
  unfold m__law_cell_at nD
  rw [mFn_eq]
  by_cases h : k < ns.length
  · exact ⟨ns[k], by simp [initE, h]⟩
  · exact ⟨0, by simp [initE, h]⟩
theorem wp_draw {p f n : Nat} {s : S} (h : Pen p (f + 1) s) (hn : 1 ≤ n) (hn2 : n ≤ 1000) : wp (m__law_draw [.obj p, nD n] s) fun d s' => ∃ k, d = nD k ∧ k < n ∧ Pen p f s' ∧ Frm p s s' := by
  obtain ⟨a, m, c, h1, h2, h3, h4, h5, h6⟩ := h
  unfold m__law_draw nD
  rw [mFn_eq]
  have r1 := opIx_obj s h1
  have w1 := fun (s0 : S) (x y z : D) (hh : s0[p]? = some (.lst [x, y, z])) v => setIx_obj hh (i := 0) (by decide : 0 < 3) v
  have w2 := fun (s0 : S) (x y z : D) (hh : s0[p]? = some (.lst [x, y, z])) v => setIx_obj hh (i := 2) (by decide : 2 < 3) v
  have q0 : (0 : Int) < n := by omega
  have a0 := w1 s _ _ _ h1
  have a2 : ∀ v, setIx (.obj p) (.int 2) v s = _ := w2 s _ _ _ h1
  simp only [Int.ofNat_zero, Int.natCast_zero] at a0
  have key : ∀ z : Int, 0 ≤ z % (n : Int) ∧ z % (n : Int) < n := fun z => ⟨Int.emod_nonneg _ (by omega), Int.emod_lt_of_pos _ q0⟩
  have fin : ∀ z : Int, ∃ k : Nat, z % (n : Int) = k ∧ k < n := fun z => ⟨(z % (n : Int)).toNat, by have := key z; omega, by have := key z; omega⟩
  by_cases ha : 0 < a
  · simp (disch := omega) [initE, r1, ha, a0]
    obtain ⟨k, hk, hk2⟩ := fin a
    refine ⟨k, by rw [hk], hk2, ⟨a / n, m, c, by rw [getset0 h1], Int.ediv_nonneg h2 (by omega), h3, h4, h5, by omega⟩, Frm.set _⟩
  · have h1' : (s.set p (.lst ([D.int a, D.int m, D.int c].set 2 (.int (c + 1)))))[p]? = some (.lst [.int a, .int m, .int (c + 1)]) := getset0 h1
    have r2 := opIx_obj _ h1'
    simp only [List.set_cons_succ, List.set_cons_zero] at r2 a2
    have ha' : (if 0 < a then True else False) = False := by simp [ha]
    simp (disch := omega) [initE, r1, ha, a2, r2]
    obtain ⟨k, hk, hk2⟩ := fin (((m + 17 * (c + 1)) * (69621 + 2 * (c + 1)) % 2147483647 * ((m + 17 * (c + 1)) * (69621 + 2 * (c + 1)) % 2147483647) + 40503 * (c + 1) + 5) % 2147483629 * 48271 % 2147483647 / 32)
    exact ⟨k, by rw [hk], hk2, ⟨a, m, c + 1, h1', h2, h3, h4, by omega, by omega⟩, Frm.set _⟩
theorem wp_drawI {p f n : Nat} {i : Int} {s : S} (h : Pen p (f + 1) s) (hi : i = n) (hn : 1 ≤ n) (hn2 : n ≤ 1000) : wp (m__law_draw [.obj p, .int i] s) fun d s' => ∃ k : Nat, d = .int (k : Int) ∧ k < n ∧ Pen p f s' ∧ Frm p s s' := by
  subst hi
  exact wp_draw h hn hn2
theorem wp_pick {p f : Nat} {xs : List D} {s : S} (h : Pen p (f + 1) s) (h1 : 1 ≤ xs.length) (h2 : xs.length ≤ 1000) : wp (m__law_pick [.obj p, .lst xs] s) fun d s' => d ∈ xs ∧ Pen p f s' ∧ Frm p s s' := by
  unfold m__law_pick
  rw [mFn_eq]
  simp [initE]
  refine (wp_drawI h rfl h1 h2).mono fun d s1 ⟨k, e, hk, hp, hf⟩ => ?_
  subst e
  simp [hk]
  exact ⟨hp, hf⟩
/-- a row of draws -/
theorem wp_rolls {i p m f : Nat} {el : ME} {ρw : Ev} {s : S} (xs : List D) (hel : ∀ (d : D) (s : S) (Q : D → S → Prop), wp (m__law_draw [.obj p, .int (m : Int)] s) Q → wp (el (ρw.set i (some d)) s) Q)
    (hm : 1 ≤ m) (hm2 : m ≤ 1000) (h : Pen p (f + xs.length) s) :
    wp (llc (.one i) mYes el ρw xs [] s) fun ys s' => ∃ l : List Nat, ys = l.map nD ∧ l.length = xs.length ∧ (∀ x ∈ l, x < m) ∧ Pen p f s' ∧ Frm p s s' := by
  refine (wp_llc (I := fun ds acc s' => ∃ l : List Nat, acc = l.map nD ∧ l.length + ds.length = xs.length ∧ (∀ x ∈ l, x < m) ∧ Pen p (f + ds.length) s' ∧ Frm p s s') ?_ xs [] s ⟨[], rfl, by simp, by simp, h, Frm.refl _ _⟩).mono ?_
  · intro d ds acc s' ⟨l, h1, h2, h3, h4, h5⟩
    refine ⟨_, rfl, hel _ _ _ ((wp_draw (f := f + ds.length) h4 hm hm2).mono fun d s1 ⟨k, e, hk, hp, hf⟩ => ?_)⟩
    refine ⟨l ++ [k], by simp [h1, e], by simp at h2 ⊢; omega, ?_, hp, h5.trans hf⟩
    intro x hx
    rcases List.mem_append.1 hx with hx | hx
    · exact h3 x hx
    · simp at hx; omega
  · intro ys s' ⟨l, h1, h2, h3, h4, h5⟩
    exact ⟨l, h1, by simpa using h2, h3, by simpa using h4, h5⟩
theorem wp_log {y : Sys} (hy : y.Ok) {p f c : Nat} {i : Int} {s : S} (h : Pen p (f + (c + 1)) s) (hi : i = c) (hc : c ≤ 999) : wp (m__law_log [.obj p, y.D, .int i] s) fun d s' => ∃ l : List Nat, d = logD l ∧ l.length ≤ c ∧ (∀ x ∈ l, x < y.ops.length) ∧ Pen p f s' ∧ Frm p s s' := by
  subst hi
  unfold m__law_log Sys.D
  rw [mFn_eq]
  simp [initE]
  refine (wp_drawI (f := f + c) h (n := c + 1) (by simp) (by omega) (by omega)).mono fun d s1 ⟨k, e, hk, hp, hf⟩ => ?_
  subst e
  have := hy.o6
  simp (disch := omega)
  refine (wp_rolls (m := y.ops.length) (f := f) (rngD 0 k) ?_ hy.o1 (by omega) (hp.mono (by simp; omega))).mono fun ys s2 ⟨l, h1, h2, h3, h4, h5⟩ => ?_
  · intro d s Q h
    simpa using h
  · exact ⟨l, by rw [h1]; rfl, by simp at h2; omega, h3, h4, hf.trans h5⟩

/-! ### two lists in the making -/
structure Two (p q : Nat) (many n m : Nat) (s0 s : S) : Prop where
  ex : ∃ (ops : List (List Nat)) (kinds : List (Option Nat)), ops.length = n ∧ kinds.length = m ∧ (∀ o ∈ ops, o.length = many) ∧ (∀ o ∈ ops, ∀ x ∈ o, x < many) ∧ (∀ k ∈ kinds, ∀ n, k = some n → n ≤ 9) ∧
    s[q]? = some (.lst (ops.map opD)) ∧ s[q + 1]? = some (.lst (kinds.map kD))
  pq : p < q
  fr : Frm p s0 s
  ql : s0.length ≤ q
theorem Two.step {p q many n m s0 s s'} (h : Two p q many n m s0 s) (f : Frm p s s') : Two p q many n m s0 s' := by
  obtain ⟨⟨ops, kinds, h1, h2, h3, h4, h5, h6, h7⟩, hpq, hf, hq⟩ := h
  exact ⟨⟨ops, kinds, h1, h2, h3, h4, h5, f.get h6 (by omega), f.get h7 (by omega)⟩, hpq, hf.trans f, hq⟩
theorem Two.isO1 {p q many n m s0 s} (h : Two p q many n m s0 s) : isLstO s (.obj q) = true := by
  obtain ⟨⟨ops, kinds, h1, h2, h3, h4, h5, h6, h7⟩, _⟩ := h
  exact isLstO_obj h6
theorem Two.isO2 {p q many n m s0 s} (h : Two p q many n m s0 s) : isLstO s (.obj (q + 1)) = true := by
  obtain ⟨⟨ops, kinds, h1, h2, h3, h4, h5, h6, h7⟩, _⟩ := h
  exact isLstO_obj h7
theorem frm_set {p q : Nat} {s0 s : S} (h : Frm p s0 s) (hq : s0.length ≤ q) (o : O) : Frm p s0 (s.set q o) :=
  ⟨by simpa using h.1, fun i hi hp => by rw [List.getElem?_set_ne (by omega)]; exact h.2 i hi hp⟩
/-- an operation is put behind -/
theorem Two.add1 {p q many n m s0 s f} (h : Two p q many n m s0 s) (hp : Pen p f s) (hn : n < 1000) {l : List Nat} (hl : l.length = many) (hx : ∀ x ∈ l, x < many) :
    ∃ s', fAppend (.obj q) (opD l) s = .ok .non s' ∧ Two p q many (n + 1) m s0 s' ∧ Pen p f s' := by
  obtain ⟨⟨ops, kinds, h1, h2, h3, h4, h5, h6, h7⟩, hpq, hf, hq⟩ := h
  refine ⟨_, fAppend_obj h6 (by simp; omega) _, ⟨⟨ops ++ [l], kinds, by simp [h1], h2, ?_, ?_, h5, ?_, ?_⟩, hpq, frm_set hf hq _, hq⟩, hp.set (by omega) _⟩
  · intro o ho
    rcases List.mem_append.1 ho with ho | ho
    · exact h3 o ho
    · simp at ho; subst ho; exact hl
  · intro o ho
    rcases List.mem_append.1 ho with ho | ho
    · exact h4 o ho
    · simp at ho; subst ho; exact hx
  · rw [getset0 h6]; simp
  · rw [List.getElem?_set_ne (by omega)]; exact h7
/-- a kind -/
def KD (d : D) : Prop := ∃ k : Option Nat, d = kD k ∧ ∀ n, k = some n → n ≤ 9
theorem Two.add2 {p q many n m s0 s f} (h : Two p q many n m s0 s) (hp : Pen p f s) (hn : m < 1000) {d : D} (hd : KD d) :
    ∃ s', fAppend (.obj (q + 1)) d s = .ok .non s' ∧ Two p q many n (m + 1) s0 s' ∧ Pen p f s' := by
  obtain ⟨⟨ops, kinds, h1, h2, h3, h4, h5, h6, h7⟩, hpq, hf, hq⟩ := h
  obtain ⟨k, rfl, hk⟩ := hd
  refine ⟨_, fAppend_obj h7 (by simp; omega) _, ⟨⟨ops, kinds ++ [k], h1, by simp [h2], h3, h4, ?_, ?_, ?_⟩, hpq, frm_set hf (by omega) _, hq⟩, hp.set (by omega) _⟩
  · intro o ho
    rcases List.mem_append.1 ho with ho | ho
    · exact h5 o ho
    · simp at ho; subst ho; exact hk
  · rw [List.getElem?_set_ne (by omega)]; exact h6
  · rw [getset0 h7]; simp
theorem Two.start {p f : Nat} {s0 s : S} (many : Nat) (hp : Pen p f s) (hf : Frm p s0 s) (e : S) (he : e = s ++ [.lst [], .lst []]) : Two p s.length many 0 0 s0 e ∧ Pen p f e := by
  subst he
  exact ⟨⟨⟨[], [], rfl, rfl, by simp, by simp, by simp, by simp, by simp⟩, hp.lt, hf.trans (Frm.app _), hf.1⟩, hp.app _⟩
theorem Two.done {p q many n s0 s} (h : Two p q many n n s0 s) (h1 : 1 ≤ many) (h6 : many ≤ 6) (n1 : 1 ≤ n) (n6 : n ≤ 6) {st : Nat} (hs : st < many) :
    ∃ (y : Sys) (os ks : List D), y.Ok ∧ s[q]? = some (.lst os) ∧ s[q + 1]? = some (.lst ks) ∧ D.tup [nD many, nD st, .tup os, .tup ks] = y.D := by
  obtain ⟨⟨ops, kinds, e1, e2, e3, e4, e5, e6, e7⟩, _⟩ := h
  exact ⟨⟨many, st, ops, kinds⟩, _, _, ⟨h1, h6, hs, by simp; omega, by simp; omega, e3, e4, by simp; omega, e5⟩, e6, e7, rfl⟩
end VL
namespace VL
open PySem PySem.Spec PyProof.Rows L2

theorem kd_non : KD .non := ⟨none, rfl, by simp⟩
theorem kd_int {i : Int} (h0 : 0 ≤ i) (h9 : i ≤ 9) : KD (.int i) := ⟨some i.toNat, by simp only [kD]; congr 1; omega, by simp; omega⟩
def okK : D → Bool
  | .non => true
  | .int i => decide (0 ≤ i ∧ i ≤ 9)
  | _ => false
theorem kd_ok {d : D} (h : okK d = true) : KD d := by
  cases d with
  | non => exact kd_non
  | int i => exact kd_int (of_decide_eq_true h).1 (of_decide_eq_true h).2
  | _ => cases h
theorem kd_mem {d : D} {xs : List D} (h : d ∈ xs) (hx : xs.all okK = true) : KD d := kd_ok (List.all_eq_true.1 hx d h)
/-- what a maker of systems gives -/
def SysQ (p f : Nat) (s0 : S) : D → S → Prop := fun d s' => ∃ y : Sys, y.Ok ∧ d = y.D ∧ Pen p f s' ∧ Frm p s0 s'
theorem wp_drawn {p f : Nat} {s : S} (h : Pen p (f + 60) s) : wp (m__law_drawn [.obj p] s) (SysQ p f s) := by
  unfold m__law_drawn
  rw [mFn_eq]
  simp [initE]
  refine (wp_drawI (f := f + 59) (n := 6) h rfl (by omega) (by omega)).mono fun d s1 ⟨k1, e, hk1, hp1, hf1⟩ => ?_
  subst e
  simp
  refine (wp_drawI (f := f + 58) (n := 5) hp1 rfl (by omega) (by omega)).mono fun d s2 ⟨k2, e, hk2, hp2, hf2⟩ => ?_
  subst e
  obtain ⟨n1, e1, b1⟩ : ∃ n : Nat, (1 : Int) + k1 = n ∧ n = k1 + 1 := ⟨k1 + 1, by omega, rfl⟩
  obtain ⟨n2, e2, b2⟩ : ∃ n : Nat, (1 : Int) + k2 = n ∧ n = k2 + 1 := ⟨k2 + 1, by omega, rfl⟩
  obtain ⟨t1, t2⟩ := Two.start n1 hp2 (hf1.trans hf2) _ rfl
  simp (disch := omega) [e1, e2]
  refine wp_loop (fun ds ρ s' => ∃ (j : Nat) (x y : Option D), ρ = [some (.obj p), some (.int n1), some (.int n2), some (.obj s2.length), some (.obj (s2.length + 1)), x, y] ∧
    j + ds.length = n2 ∧ Two p s2.length n1 j j s s' ∧ Pen p (f + 1 + ds.length * 10) s') ?_ ?_ _ _ _ ⟨0, _, _, rfl, by simp, t1, t2.mono (by simp; omega)⟩
  · rintro d ds ρ s' ⟨j, x, y, rfl, hj, ht, hp⟩
    have hO1 := ht.isO1
    simp (disch := omega) [hO1]
    refine (wp_rolls (m := n1) (f := f + 2 + ds.length * 10) (rngD 0 n1) ?_ (by omega) (by omega) (hp.mono (by simp; omega))).mono ?_
    · intro d s Q h
      simpa using h
    rintro ys s3 ⟨l, rfl, hl, hx, hp3, hf3⟩
    obtain ⟨s4, a4, ht4, hp4⟩ := (ht.step hf3).add1 hp3 (by simp at hj; omega) (by simpa using hl) hx
    have hO2 := ht4.isO2
    rw [opD] at a4
    simp [hO2, a4]
    refine (wp_pick (f := f + 1 + ds.length * 10) (hp4.mono (by omega)) (by simp) (by simp)).mono ?_
    rintro d5 s5 ⟨hd5, hp5, hf5⟩
    obtain ⟨s6, a6, ht6, hp6⟩ := (ht4.step hf5).add2 hp5 (by simp at hj; omega) (d := d5) (kd_mem hd5 (by decide))
    simp [a6]
    exact ⟨j + 1, by simp at hj; omega, ht6, hp6⟩
  · rintro ρ s' ⟨j, x, y, rfl, hj, ht, hp⟩
    simp
    refine (wp_drawI (f := f) (n := n1) (by simpa using hp) rfl (by omega) (by omega)).mono ?_
    rintro d s3 ⟨k3, rfl, hk3, hp3, hf3⟩
    simp at hj
    subst hj
    obtain ⟨y, os, ks, hy, q1, q2, e⟩ := (ht.step hf3).done (by omega) (by omega) (by omega) (by omega) hk3
    simp [fTuple_obj _ q1, fTuple_obj _ q2]
    exact ⟨y, hy, e, hp3, (ht.step hf3).fr⟩
theorem wp_cells {p f : Nat} {s : S} (h : Pen p (f + 60) s) : wp (m__law_cells [.obj p] s) (SysQ p f s) := by
  unfold m__law_cells
  rw [mFn_eq]
  simp [initE]
  refine (wp_pick (f := f + 59) h (by simp) (by simp)).mono ?_
  rintro d1 s1 ⟨hd1, hp1, hf1⟩
  obtain ⟨hi, lo, rfl, i1, i2, i3, i4, i5⟩ : ∃ hi lo : Nat, d1 = .tup [.int hi, .int lo] ∧ 1 ≤ hi ∧ hi ≤ 6 ∧ 1 ≤ lo ∧ lo ≤ 4 ∧ hi * lo ≤ 6 := by
    simp only [List.mem_cons, List.not_mem_nil, or_false] at hd1
    rcases hd1 with rfl | rfl | rfl | rfl | rfl
    · exact ⟨2, 2, rfl, by decide⟩
    · exact ⟨2, 3, rfl, by decide⟩
    · exact ⟨3, 2, rfl, by decide⟩
    · exact ⟨1, 4, rfl, by decide⟩
    · exact ⟨6, 1, rfl, by decide⟩
  have i6 : 1 ≤ hi * lo := Nat.mul_pos i1 i3
  obtain ⟨n, en, bn⟩ : ∃ n : Nat, (hi : Int) * lo = n ∧ n = hi * lo := ⟨hi * lo, by simp, rfl⟩
  rw [← bn] at i5 i6
  simp
  refine (wp_pick (f := f + 58) (Pen.app hp1 _) (by simp) (by simp)).mono ?_
  rintro d2 s2 ⟨hd2, hp2, hf2⟩
  obtain ⟨a, b, rfl, ha, hb⟩ : ∃ a b : D, d2 = .tup [a, b] ∧ KD a ∧ KD b := by
    simp only [List.mem_cons, List.not_mem_nil, or_false] at hd2
    rcases hd2 with rfl | rfl | rfl | rfl <;> exact ⟨_, _, rfl, kd_ok (by decide), kd_ok (by decide)⟩
  obtain ⟨t1, t2⟩ := Two.start n hp1 hf1 _ rfl
  refine (wp_drawI (f := f + 57) (n := 6) hp2 rfl (by omega) (by omega)).mono ?_
  rintro d s3 ⟨k3, rfl, hk3, hp3, hf3⟩
  have t3 := t1.step (hf2.trans hf3)
  obtain ⟨n2, e2, b2⟩ : ∃ n : Nat, (1 : Int) + k3 = n ∧ n = k3 + 1 := ⟨k3 + 1, by omega, rfl⟩
  simp (disch := omega) [e2]
  refine wp_loop (fun ds ρ s' => ∃ (j : Nat) (x y z u v : Option D), ρ = [some (.obj p), some (.int hi), some (.int lo), some (.obj s1.length), some (.obj (s1.length + 1)), some (.tup [a, b]), x, y, z, u, v] ∧
    j + ds.length = n2 ∧ Two p s1.length n j j s s' ∧ Pen p (f + 1 + ds.length * 8) s') ?_ ?_ _ _ _ ⟨0, _, _, _, _, _, rfl, by simp, t3, hp3.mono (by simp; omega)⟩
  · rintro d ds ρ s' ⟨j, x, y, z, u, v, rfl, hj, ht, hp⟩
    simp at hj
    simp (disch := omega)
    refine (wp_drawI (f := f + 8 + ds.length * 8) (n := 2) (hp.mono (by simp; omega)) rfl (by omega) (by omega)).mono ?_
    rintro d s4 ⟨k4, rfl, hk4, hp4, hf4⟩
    have ht4 := ht.step hf4
    simp
    have key : ∀ v : Nat, ∀ s5, (k4 = 0 → v < hi) → (k4 = 1 → v < lo) → Frm p s4 s5 → Pen p (f + 2 + ds.length * 8) s5 → wp ((llc (.one 10) mYes
        (mIf (mB (mBin opEq (mVar 7) (mC (.int 0)))) (mBin opAdd (mBin opMul (mVar 8) (mVar 2)) (mBin opMod (mVar 10) (mVar 2))) (mBin opAdd (mBin opMul (mBin opDiv (mVar 10) (mVar 2)) (mVar 2)) (mVar 8)))
        [some (.obj p), some (.int hi), some (.int lo), some (.obj s1.length), some (.obj (s1.length + 1)), some (.tup [a, b]), some d, some (.int k4), some (.int v), u, none] (rngD 0 n) [] s5)) fun ys s6 => s6 = s5 ∧ ∃ l : List Nat, ys = l.map nD ∧ l.length = n ∧ ∀ x ∈ l, x < n := by
      intro v s5 q1 q2 q3 q4
      refine wp_nums n ?_ fun l h1 h2 => ⟨rfl, l, rfl, by simpa using h1, h2⟩
      intro d hd
      obtain ⟨k, hk, rfl⟩ := rngD_mem hd
      obtain rfl | rfl : k4 = 0 ∨ k4 = 1 := by omega
      · have q1 := q1 rfl
        refine ⟨v * lo + k % lo, ?_, ?_⟩
        · have := Nat.mod_lt k (by omega : lo > 0)
          have := Nat.mul_le_mul_right lo (by omega : v + 1 ≤ hi)
          rw [Nat.add_mul] at this
          omega
        · simp (disch := omega)
      · have q2 := q2 rfl
        refine ⟨k / lo * lo + v, ?_, ?_⟩
        · have h1 : k / lo < hi := (Nat.div_lt_iff_lt_mul (by omega)).2 (by omega)
          have := Nat.mul_le_mul_right lo (by omega : k / lo + 1 ≤ hi)
          rw [Nat.add_mul] at this
          omega
        · have h1 : k / lo ≤ k := Nat.div_le_self _ _
          have h2 : (k : Int) / lo = ((k / lo : Nat) : Int) := by simp
          generalize k / lo = q at h1 h2 ⊢
          simp (disch := omega) [h2]
    obtain rfl | rfl : k4 = 0 ∨ k4 = 1 := by omega
    all_goals
      simp [en]
      refine (wp_drawI (f := f + 2 + ds.length * 8) (n := _) (hp4.mono (by omega)) rfl (by omega) (by omega)).mono ?_
      rintro d5 s5 ⟨k5, rfl, hk5, hp5, hf5⟩
      refine (key k5 s5 (by omega) (by omega) hf5 hp5).mono ?_
      rintro ys s6 ⟨rfl, l, rfl, hl, hx⟩
      have ht5 := ht4.step hf5
      obtain ⟨s7, a7, ht7, hp7⟩ := ht5.add1 hp5 (by omega) hl hx
      rw [opD] at a7
      have hO2 := ht7.isO2
    · obtain ⟨s8, a8, ht8, hp8⟩ := ht7.add2 hp7 (by omega) ha
      simp [a7, a8, hO2, ht5.isO1]
      exact ⟨j + 1, by omega, ht8, hp8.mono (by omega)⟩
    · obtain ⟨s8, a8, ht8, hp8⟩ := ht7.add2 hp7 (by omega) hb
      simp [a7, a8, hO2, ht5.isO1]
      exact ⟨j + 1, by omega, ht8, hp8.mono (by omega)⟩
  · rintro ρ s' ⟨j, x, y, z, u, v, rfl, hj, ht, hp⟩
    simp (disch := omega) [en]
    refine (wp_drawI (f := f) (n := n) (by simpa using hp) rfl (by omega) (by omega)).mono ?_
    rintro d s3 ⟨k3, rfl, hk3, hp3, hf3⟩
    simp at hj
    subst hj
    obtain ⟨y, os, ks, hy, q1, q2, e⟩ := (ht.step hf3).done (by omega) (by omega) (by omega) (by omega) hk3
    simp [fTuple_obj _ q1, fTuple_obj _ q2]
    exact ⟨y, hy, e, hp3, (ht.step hf3).fr⟩
theorem marks_turn {r k : Nat} {mk : Int} {b : Bool} {a0 a1 a2 a3 a8 a9 a10 a11 : Option D} {s : S} {K : Fl → S → Prop} (hk : k < 4) (hm : mk = 1 ∨ mk = 2 ∨ mk = 3) (hO : isLstO s (.obj r) = true)
    (h : ∀ (x y z : Option D) (v : Nat), v < 4 → wp (fAppend (.obj r) (.int (v : Int)) s) fun _ s1 => K (.nx [a0, a1, a2, a3, some (.int mk), some (.bl b), some (.obj r), some (.int (k : Int)), x, y, z, a11]) s1) :
    wp ((mSeq (mAsg (mLc (mSrc (mTup (mCons (mC (.int 1)) (mCons (mC (.int 2)) mNil)))) (.one 11) (mB (mBin opEq (mBin opMod (mBin opDiv (mVar 7) (mVar 11)) (mC (.int 2))) (mC (.int 1)))) (mVar 11) [11]) (gN 8))
(mSeq (mAsg (mLc (mSrc (mTup (mCons (mC (.int 1)) (mCons (mC (.int 2)) mNil)))) (.one 11) (mB (mBin opEq (mBin opMod (mBin opDiv (mVar 4) (mVar 11)) (mC (.int 2))) (mC (.int 1)))) (mVar 11) [11]) (gN 9))
(mSeq (mAsg (mLcF finL (mSrc (mTup (mCons (mC (.int 1)) (mCons (mC (.int 2)) mNil)))) (.one 11) (mB (mBin opIn (mVar 11) (mBin opAdd (mVar 8) (mVar 9)))) (mVar 11) [11]) (gN 10))
(mDrop (mAppend (mVar 6) (mIf (mB (mVar 5)) (mCall fSum (mCons (mVar 10) mNil)) (mCall fSum (mCons (mLc (mSrc (mVar 8)) (.one 11) (mB (mBin opNotIn (mVar 11) (mVar 9))) (mVar 11) [11]) mNil)))))))) [a0, a1, a2, a3, some (.int mk), some (.bl b), some (.obj r), some (.int (k : Int)), a8, a9, a10, a11] s) K := by
  obtain rfl | rfl | rfl | rfl : k = 0 ∨ k = 1 ∨ k = 2 ∨ k = 3 := by omega
  all_goals
    rcases hm with rfl | rfl | rfl
    all_goals
      cases b
      all_goals
        simp [llc_cons, llc_nil, hO]
        first
          | exact h _ _ _ 0 (by decide)
          | exact h _ _ _ 1 (by decide)
          | exact h _ _ _ 2 (by decide)
          | exact h _ _ _ 3 (by decide)
end VL
namespace VL
open PySem PySem.Spec PyProof.Rows L2

theorem Two.setR {p q many n m s0 s r} (h : Two p q many n m s0 s) (h1 : r ≠ q) (h2 : r ≠ q + 1) (h3 : s0.length ≤ r) (o : O) : Two p q many n m s0 (s.set r o) := by
  obtain ⟨⟨ops, kinds, e1, e2, e3, e4, e5, e6, e7⟩, hpq, hf, hq⟩ := h
  exact ⟨⟨ops, kinds, e1, e2, e3, e4, e5, by rw [List.getElem?_set_ne h1]; exact e6, by rw [List.getElem?_set_ne h2]; exact e7⟩, hpq, frm_set hf h3 _, hq⟩
theorem Two.len {p q many n m s0 s} (h : Two p q many n m s0 s) : q + 1 < s.length := by
  obtain ⟨⟨ops, kinds, e1, e2, e3, e4, e5, e6, e7⟩, _⟩ := h
  exact (List.getElem?_eq_some_iff.1 e7).1
theorem wp_marks {p f : Nat} {s : S} (h : Pen p (f + 60) s) : wp (m__law_marks [.obj p] s) (SysQ p f s) := by
  unfold m__law_marks
  rw [mFn_eq]
  obtain ⟨t1, t2⟩ := Two.start 4 h (Frm.refl p s) _ rfl
  simp [initE]
  refine (wp_drawI (f := f + 59) (n := 5) t2 rfl (by omega) (by omega)).mono ?_
  rintro d s1 ⟨k1, rfl, hk1, hp1, hf1⟩
  obtain ⟨n2, e2, b2⟩ : ∃ n : Nat, (1 : Int) + k1 = n ∧ n = k1 + 1 := ⟨k1 + 1, by omega, rfl⟩
  simp (disch := omega) [e2]
  refine wp_loop (fun ds ρ s' => ∃ (j : Nat) (x3 x4 x5 x6 x7 x8 x9 x10 x11 : Option D), ρ = [some (.obj p), some (.obj s.length), some (.obj (s.length + 1)), x3, x4, x5, x6, x7, x8, x9, x10, x11] ∧
    j + ds.length = n2 ∧ Two p s.length 4 j j s s' ∧ Pen p (f + 1 + ds.length * 8) s') ?_ ?_ _ _ _ ⟨0, _, _, _, _, _, _, _, _, _, rfl, by simp, t1.step hf1, hp1.mono (by simp; omega)⟩
  · rintro d ds ρ s' ⟨j, x3, x4, x5, x6, x7, x8, x9, x10, x11, rfl, hj, ht, hp⟩
    simp at hj
    simp
    refine (wp_pick (f := f + 8 + ds.length * 8) (hp.mono (by simp; omega)) (by simp) (by simp)).mono ?_
    rintro d4 s4 ⟨hd4, hp4, hf4⟩
    refine (wp_drawI (f := f + 7 + ds.length * 8) (n := 4) (hp4.mono (by omega)) rfl (by omega) (by omega)).mono ?_
    rintro d5 s5 ⟨k5, rfl, hk5, hp5, hf5⟩
    have ht5 := (ht.step hf4).step hf5
    obtain ⟨mk, rfl, hmk⟩ : ∃ mk : Int, d4 = .int mk ∧ (mk = 1 ∨ mk = 2 ∨ mk = 3) := by
      simp only [List.mem_cons, List.not_mem_nil, or_false] at hd4
      rcases hd4 with rfl | rfl | rfl
      · exact ⟨_, rfl, .inl rfl⟩
      · exact ⟨_, rfl, .inr (.inl rfl)⟩
      · exact ⟨_, rfl, .inr (.inr rfl)⟩
    rw [opGt_int, wp_ok]
    refine wp_loop (fun ds2 ρ s' => ∃ (l : List Nat) (y7 y8 y9 y10 y11 : Option D), ρ = [some (.obj p), some (.obj s.length), some (.obj (s.length + 1)), some d, some (.int mk), some (.bl (decide ((0 : Int) < k5))), some (.obj s5.length), y7, y8, y9, y10, y11] ∧
      l.length + ds2.length = 4 ∧ (∀ x ∈ l, x < 4) ∧ (∀ d ∈ ds2, ∃ k : Nat, k < 4 ∧ d = .int k) ∧ s'[s5.length]? = some (.lst (l.map nD)) ∧ Two p s.length 4 j j s s' ∧ Pen p (f + 7 + ds.length * 8) s') ?_ ?_ _ _ _ ⟨[], _, _, _, _, _, rfl, by simp, by simp, fun d hd => rngD_mem hd, by simp, ht5.step (Frm.app _), hp5.app _⟩
    · rintro d6 ds6 ρ s6 ⟨l, y7, y8, y9, y10, y11, rfl, hl, hx, hds, hs, ht6, hp6⟩
      obtain ⟨k, hk, rfl⟩ := hds d6 (List.mem_cons_self ..)
      simp only [gN_eq, wp_ok, List.set_cons_succ, List.set_cons_zero]
      refine marks_turn hk hmk (isLstO_obj hs) fun x y z v hv => ?_
      simp at hl
      rw [fAppend_obj hs (by simp; omega)]
      refine ⟨l ++ [v], _, _, _, _, _, rfl, by simp; omega, ?_, fun d hd => hds d (List.mem_cons_of_mem _ hd), by rw [getset0 hs]; simp, ?_, hp6.set (by have := hp5.lt; omega) _⟩
      · intro x hx2
        rcases List.mem_append.1 hx2 with h | h
        · exact hx x h
        · simp at h; omega
      · have := ht5.len
        exact ht6.setR (by omega) (by omega) (by omega) _
    · rintro ρ s6 ⟨l, y7, y8, y9, y10, y11, rfl, hl, hx, hds, hs, ht6, hp6⟩
      obtain ⟨s7, a7, ht7, hp7⟩ := ht6.add1 hp6 (by omega) (by simpa using hl) hx
      rw [opD] at a7
      have hO2 := ht7.isO2
      simp [ht6.isO1, fTuple_obj _ hs, a7, hO2]
      refine (wp_pick (f := f + 1 + ds.length * 8) (hp7.mono (by omega)) (by simp) (by simp)).mono ?_
      rintro d8 s8 ⟨hd8, hp8, hf8⟩
      obtain ⟨s9, a9, ht9, hp9⟩ := (ht7.step hf8).add2 hp8 (by omega) (d := d8) (kd_mem hd8 (by rcases hmk with rfl | rfl | rfl <;> decide))
      simp [a9]
      trace_state
      exact ⟨j + 1, by omega, ht9, hp9⟩
  · rintro ρ s' ⟨j, x3, x4, x5, x6, x7, x8, x9, x10, x11, rfl, hj, ht, hp⟩
    simp
    refine (wp_drawI (f := f) (n := 4) (by simpa using hp) rfl (by omega) (by omega)).mono ?_
    rintro d s3 ⟨k3, rfl, hk3, hp3, hf3⟩
    simp at hj
    subst hj
    obtain ⟨y, os, ks, hy, q1, q2, e⟩ := (ht.step hf3).done (by omega) (by omega) (by omega) (by omega) hk3
    simp [fTuple_obj _ q1, fTuple_obj _ q2]
    exact ⟨y, hy, e, hp3, (ht.step hf3).fr⟩
end VL
namespace VL
open PySem PySem.Spec PyProof.Rows L2

theorem wp_turns {p f : Nat} {s : S} (h : Pen p (f + 60) s) : wp (m__law_turns [.obj p] s) (SysQ p f s) := by
  unfold m__law_turns
  rw [mFn_eq]
  simp [initE]
  refine (wp_drawI (f := f + 59) (n := 5) h rfl (by omega) (by omega)).mono ?_
  rintro d s1 ⟨k1, rfl, hk1, hp1, hf1⟩
  obtain ⟨n, e1, b1⟩ : ∃ n : Nat, (2 : Int) + k1 = n ∧ n = k1 + 2 := ⟨k1 + 2, by omega, rfl⟩
  obtain ⟨t1, t2⟩ := Two.start n hp1 hf1 _ rfl
  simp (disch := omega) [e1]
  refine (wp_drawI (f := f + 58) (n := 5) t2 rfl (by omega) (by omega)).mono ?_
  rintro d s2 ⟨k2, rfl, hk2, hp2, hf2⟩
  obtain ⟨n2, e2, b2⟩ : ∃ n : Nat, (1 : Int) + k2 = n ∧ n = k2 + 1 := ⟨k2 + 1, by omega, rfl⟩
  simp (disch := omega) [e2]
  refine wp_loop (fun ds ρ s' => ∃ (j : Nat) (x4 x5 x6 x7 x8 : Option D), ρ = [some (.obj p), some (.int n), some (.obj s1.length), some (.obj (s1.length + 1)), x4, x5, x6, x7, x8] ∧
    j + ds.length = n2 ∧ Two p s1.length n j j s s' ∧ Pen p (f + 1 + ds.length * 8) s') ?_ ?_ _ _ _ ⟨0, _, _, _, _, _, rfl, by simp, t1.step hf2, hp2.mono (by simp; omega)⟩
  · rintro d ds ρ s' ⟨j, x4, x5, x6, x7, x8, rfl, hj, ht, hp⟩
    simp at hj
    simp
    refine (wp_drawI (f := f + 8 + ds.length * 8) (n := 4) (hp.mono (by simp; omega)) rfl (by omega) (by omega)).mono ?_
    rintro d4 s4 ⟨k4, rfl, hk4, hp4, hf4⟩
    refine (wp_drawI (f := f + 7 + ds.length * 8) (n := n) (hp4.mono (by omega)) rfl (by omega) (by omega)).mono ?_
    rintro d5 s5 ⟨k5, rfl, hk5, hp5, hf5⟩
    have ht5 := (ht.step hf4).step hf5
    have hO1 := ht5.isO1
    simp (disch := omega)
    refine wp_nums n ?_ fun l0 hl0 hx0 => ?_
    · intro d hd
      obtain ⟨k, hk, rfl⟩ := rngD_mem hd
      refine ⟨(k + k5) % n, Nat.mod_lt _ (by omega), ?_⟩
      simp (disch := omega)
    obtain rfl | rfl | rfl | rfl : k4 = 0 ∨ k4 = 1 ∨ k4 = 2 ∨ k4 = 3 := by omega
    · simp (disch := omega)
      have hl : l0.length = n := by simpa using hl0
      have hx := hx0
      generalize l0 = l at hl hx
      skip
      obtain ⟨s7, a7, ht7, hp7⟩ := ht5.add1 hp5 (by omega) hl hx
      have a7 : fAppend (.obj s1.length) (.tup (l.map fun (x : Nat) => D.int (x : Int))) s5 = .ok .non s7 := a7
      have hO2 := ht7.isO2
      simp [hO1, a7, hO2]
      refine (wp_pick (f := f + 1 + ds.length * 8) (hp7.mono (by omega)) (by simp) (by simp)).mono ?_
      rintro d8 s8 ⟨hd8, hp8, hf8⟩
      obtain ⟨s9, a9, ht9, hp9⟩ := (ht7.step hf8).add2 hp8 (by omega) (d := d8) (kd_mem hd8 (by decide))
      simp [a9]
      exact ⟨j + 1, by omega, ht9, hp9⟩
    · simp (disch := omega)
      refine wp_nums n ?_ fun l hl hx => ?_
      · intro d hd
        obtain ⟨k, hk, rfl⟩ := rngD_mem hd
        refine ⟨max k k5, by omega, ?_⟩
        simp (disch := omega)
        split <;> omega
      · have hl : l.length = n := by simpa using hl
        obtain ⟨s7, a7, ht7, hp7⟩ := ht5.add1 hp5 (by omega) hl hx
        have a7 : fAppend (.obj s1.length) (.tup (l.map fun (x : Nat) => D.int (x : Int))) s5 = .ok .non s7 := a7
        have hO2 := ht7.isO2
        simp [hO1, a7, hO2]
        refine (wp_pick (f := f + 1 + ds.length * 8) (hp7.mono (by omega)) (by simp) (by simp)).mono ?_
        rintro d8 s8 ⟨hd8, hp8, hf8⟩
        obtain ⟨s9, a9, ht9, hp9⟩ := (ht7.step hf8).add2 hp8 (by omega) (d := d8) (kd_mem hd8 (by decide))
        simp [a9]
        exact ⟨j + 1, by omega, ht9, hp9⟩
    · simp (disch := omega)
      refine wp_nums n ?_ fun l hl hx => ?_
      · intro d hd
        obtain ⟨k, hk, rfl⟩ := rngD_mem hd
        exact ⟨k5, hk5, by simp⟩
      · have hl : l.length = n := by simpa using hl
        obtain ⟨s7, a7, ht7, hp7⟩ := ht5.add1 hp5 (by omega) hl hx
        have a7 : fAppend (.obj s1.length) (.tup (l.map fun (x : Nat) => D.int (x : Int))) s5 = .ok .non s7 := a7
        have hO2 := ht7.isO2
        simp [hO1, a7, hO2]
        refine (wp_pick (f := f + 1 + ds.length * 8) (hp7.mono (by omega)) (by simp) (by simp)).mono ?_
        rintro d8 s8 ⟨hd8, hp8, hf8⟩
        obtain ⟨s9, a9, ht9, hp9⟩ := (ht7.step hf8).add2 hp8 (by omega) (d := d8) (kd_mem hd8 (by decide))
        simp [a9]
        exact ⟨j + 1, by omega, ht9, hp9⟩
    · simp (disch := omega)
      rw [rngD_0]
      have hl : (List.range n).length = n := by simp
      have hx : ∀ x ∈ List.range n, x < n := fun x hx => List.mem_range.1 hx
      generalize List.range n = l at hl hx
      skip
      obtain ⟨s7, a7, ht7, hp7⟩ := ht5.add1 hp5 (by omega) hl hx
      have a7 : fAppend (.obj s1.length) (.tup (l.map fun (x : Nat) => D.int (x : Int))) s5 = .ok .non s7 := a7
      have hO2 := ht7.isO2
      simp [hO1, a7, hO2]
      refine (wp_pick (f := f + 1 + ds.length * 8) (hp7.mono (by omega)) (by simp) (by simp)).mono ?_
      rintro d8 s8 ⟨hd8, hp8, hf8⟩
      obtain ⟨s9, a9, ht9, hp9⟩ := (ht7.step hf8).add2 hp8 (by omega) (d := d8) (kd_mem hd8 (by decide))
      simp [a9]
      exact ⟨j + 1, by omega, ht9, hp9⟩
  · rintro ρ s' ⟨j, x4, x5, x6, x7, x8, rfl, hj, ht, hp⟩
    simp
    refine (wp_drawI (f := f) (n := n) (by simpa using hp) rfl (by omega) (by omega)).mono ?_
    rintro d s3 ⟨k3, rfl, hk3, hp3, hf3⟩
    simp at hj
    subst hj
    obtain ⟨y, os, ks, hy, q1, q2, e⟩ := (ht.step hf3).done (by omega) (by omega) (by omega) (by omega) hk3
    simp [fTuple_obj _ q1, fTuple_obj _ q2]
    exact ⟨y, hy, e, hp3, (ht.step hf3).fr⟩
end VL
namespace VL
open PySem PySem.Spec PyProof.Rows L2

theorem SysQ.step {p f f' : Nat} {s0 s : S} {d : D} {s' : S} (h : SysQ p f s d s') (hf : Frm p s0 s) (hk : f' ≤ f) : SysQ p f' s0 d s' := by
  obtain ⟨y, h1, h2, h3, h4⟩ := h
  exact ⟨y, h1, h2, h3.mono hk, hf.trans h4⟩
theorem wp_system {p f : Nat} {s : S} (h : Pen p (f + 100) s) : wp (m__law_system [.obj p] s) (SysQ p f s) := by
  unfold m__law_system
  rw [mFn_eq, wp_fin, mSeq_eq, wp_bnd]
  refine wp.mono (Q := fun fl s1 => ∃ k1 : Nat, k1 < 6 ∧ fl = .nx [some (.obj p), some (.int (k1 : Int)), none, none, none, none, none, none, none, none] ∧ Pen p (f + 99) s1 ∧ Frm p s s1) ?_ ?_
  · simp [initE]
    refine (wp_drawI (f := f + 99) (n := 6) h rfl (by omega) (by omega)).mono ?_
    rintro d s1 ⟨k1, rfl, hk1, hp1, hf1⟩
    exact ⟨k1, hk1, rfl, hp1, hf1⟩
  rintro fl s1 ⟨k1, hk1, rfl, hp1, hf1⟩
  rw [seqF_nx, mSeq_eq, wp_bnd]
  by_cases hz : k1 = 0
  · subst hz
    simp
    exact (wp_drawn (f := f) (hp1.mono (by omega))).mono fun d s' h => h.step hf1 (by omega)
  refine wp.of (a := .nx [some (.obj p), some (.int (k1 : Int)), none, none, none, none, none, none, none, none]) (s := s1) (by simp [hz]) ?_
  rw [seqF_nx, mSeq_eq, wp_bnd]
  refine wp.mono (Q := fun fl s2 => ∃ d2, fl = .nx [some (.obj p), some (.int (k1 : Int)), some d2, none, none, none, none, none, none, none] ∧ SysQ p (f + 39) s d2 s2) ?_ ?_
  · have made : wp (if (k1 : Int) < 3 then m__law_cells [.obj p] s1 else if (k1 : Int) = 3 then m__law_marks [.obj p] s1 else m__law_turns [.obj p] s1) (SysQ p (f + 39) s) := by
      split
      · exact (wp_cells (f := f + 39) hp1).mono fun d s' h => h.step hf1 (by omega)
      · split
        · exact (wp_marks (f := f + 39) hp1).mono fun d s' h => h.step hf1 (by omega)
        · exact (wp_turns (f := f + 39) hp1).mono fun d s' h => h.step hf1 (by omega)
    simp
    by_cases h3 : (k1 : Int) < 3
    · rw [if_pos h3] at made ⊢
      simp
      exact made
    · rw [if_neg h3] at made ⊢
      by_cases h4 : (k1 : Int) = 3
      · rw [if_pos h4] at made ⊢
        simp
        exact made
      · rw [if_neg h4] at made ⊢
        simp
        exact made
  rintro fl s2 ⟨d2, rfl, y, hy, rfl, hp2, hf2⟩
  rw [seqF_nx, mSeq_eq, wp_bnd]
  refine wp.mono (Q := fun fl s3 => (fl = .ret y.D ∧ Pen p f s3 ∧ Frm p s s3) ∨ (fl = .nx [some (.obj p), some (.int (k1 : Int)), some y.D, none, none, none, none, none, none, none] ∧ Pen p (f + 38) s3 ∧ Frm p s s3)) ?_ ?_
  · simp
    refine (wp_drawI (f := f + 38) (n := 3) hp2 rfl (by omega) (by omega)).mono ?_
    rintro d s3 ⟨k3, rfl, hk3, hp3, hf3⟩
    by_cases hk : 0 < k3
    · simp [hk]
      exact ⟨hp3.mono (by omega), hf2.trans hf3⟩
    · simp [hk]
      exact ⟨hp3, hf2.trans hf3⟩
  rintro fl s3 (⟨rfl, hp3, hf3⟩ | ⟨rfl, hp3, hf3⟩)
  · simp
    exact ⟨y, hy, rfl, hp3, hf3⟩
  rw [seqF_nx]
  have h6 := hy.m6
  have hm1 := hy.m1
  have ho6 := hy.o6
  simp [Sys.D]
  refine (wp_drawI (f := f + 37) (n := y.ops.length) hp3 rfl hy.o1 (by omega)).mono ?_
  rintro d s4 ⟨at', rfl, hat, hp4, hf4⟩
  refine (wp_drawI (f := f + 36) (n := y.many) hp4 rfl hm1 (by omega)).mono ?_
  rintro d s5 ⟨st, rfl, hst, hp5, hf5⟩
  have ho : y.ops[at'] ∈ y.ops := List.getElem_mem hat
  have hl := hy.ol _ ho
  have e1 : (st : Int) + 1 = ((st + 1 : Nat) : Int) := by omega
  have e2 : (at' : Int) + 1 = ((at' + 1 : Nat) : Int) := by omega
  simp [hat, opD, cut_to]
  refine (wp_drawI (f := f + 35) (n := y.many) hp5 rfl hm1 (by omega)).mono ?_
  rintro d s6 ⟨v, rfl, hv, hp6, hf6⟩
  rw [if_pos (by omega)]
  simp only [wp_ok, e1, cut_from]
  rw [opAdd_tup, if_pos (by simp; omega)]
  simp only [wp_ok]
  rw [if_pos (by omega)]
  simp only [wp_ok, e2, cut_from]
  rw [opAdd_tup, if_pos (by simp; omega)]
  refine ⟨⟨y.many, y.start, y.ops.take at' ++ [y.ops[at'].take st ++ [v] ++ y.ops[at'].drop (st + 1)] ++ y.ops.drop (at' + 1), y.kinds⟩, ⟨hm1, h6, hy.st, by simp; omega, by simp; omega, ?_, ?_, by have := hy.kl; simp; omega, hy.ke⟩, ?_, hp6.mono (by omega), (((hf3).trans hf4).trans hf5).trans hf6⟩
  · intro o ho
    rcases List.mem_append.1 ho with ho | ho
    · rcases List.mem_append.1 ho with ho | ho
      · exact hy.ol o (List.mem_of_mem_take ho)
      · simp at ho; subst ho; simp; omega
    · exact hy.ol o (List.mem_of_mem_drop ho)
  · intro o ho x hx
    rcases List.mem_append.1 ho with ho | ho
    · rcases List.mem_append.1 ho with ho | ho
      · exact hy.oe o (List.mem_of_mem_take ho) x hx
      · rw [List.mem_singleton] at ho
        subst ho
        rcases List.mem_append.1 hx with hx | hx
        · rcases List.mem_append.1 hx with hx | hx
          · exact hy.oe _ (List.getElem_mem hat) x (List.mem_of_mem_take hx)
          · rw [List.mem_singleton] at hx; subst hx; exact hv
        · exact hy.oe _ (List.getElem_mem hat) x (List.mem_of_mem_drop hx)
    · exact hy.oe o (List.mem_of_mem_drop ho) x hx
  · simp [Sys.D, List.map_take, List.map_drop, opD]
end VL
namespace VL
open PySem PySem.Spec PyProof.Rows L2

/-! ### systems.py -/
@[simp] theorem is_whole_int (i s) : m_is_whole [.int i] s = .ok (.bl true) s := by
  unfold m_is_whole
  rw [mFn_eq]
  simp [initE]
@[simp] theorem is_whole_non (s) : m_is_whole [.non] s = .ok (.bl false) s := by
  unfold m_is_whole
  rw [mFn_eq]
  simp [initE]
theorem is_between_int (i a b s) : m_is_between [.int i, .int a, .int b] s = .ok (.bl (decide (a ≤ i ∧ i ≤ b))) s := by
  unfold m_is_between
  rw [mFn_eq]
  by_cases h : a ≤ i
  · simp [initE, h]
  · simp [initE, h]
@[simp] theorem is_between_t {i a b : Int} (h : a ≤ i ∧ i ≤ b) (s) : m_is_between [.int i, .int a, .int b] s = .ok (.bl true) s := by
  rw [is_between_int, decide_eq_true h]
/-- all of a list's items pass -/
theorem llc_true {i : Nat} {el : ME} {ρw : Ev} {s : S} : ∀ (xs : List D) (acc : List D), (∀ d ∈ xs, el (ρw.set i (some d)) s = .ok (.bl true) s) → llc (.one i) mYes el ρw xs acc s = .ok (acc ++ List.replicate xs.length (.bl true)) s
  | [], acc, _ => by simp [llc]
  | d :: ds, acc, h => by
    have ih := llc_true (i := i) (el := el) (ρw := ρw) (s := s) ds (acc ++ [.bl true]) fun x hx => h x (List.mem_cons_of_mem _ hx)
    unfold llc
    simp [h d (List.mem_cons_self ..), ih, List.replicate_succ]
@[simp] theorem fAll_true (n : Nat) (s) : fAll [.lst (List.replicate n (.bl true))] s = .ok (.bl true) s := by
  have := fAll_lst s (List.replicate n true)
  simpa using this
theorem lcF_fixI {fi : List D → S → R D} {t : Tg} {tt : MT} {el : ME} {vs : List Nat} {ρ : Ev} {s : S} {xs : List D} (hl : xs.length ≤ 1000000) :
    lcF fi t tt el vs ρ (.fix xs) s = if (t.slots.all fun i => vs.contains i) = true then (llc t tt el (wipeD ρ vs) xs [] s).bnd fi else .bad := by
  by_cases h : (t.slots.all fun i => vs.contains i) = true
  · rw [if_pos h, lcF_fix hl h]
  · rw [if_neg h]
    show (if xs.length ≤ LIM ∧ (∀ i ∈ t.slots, i ∈ vs) then _ else R.bad).bnd fi = _
    rw [if_neg fun hh => h (List.all_eq_true.2 fun i hi => by simpa using hh.2 i hi)]
    rfl
theorem are_states_ok {o : List Nat} {n m : Nat} (h : o.length = n) (hn : n ≤ 1000) (hx : ∀ x ∈ o, x < m) (s) : m_are_states [opD o, .int n, .int m] s = .ok (.bl true) s := by
  unfold m_are_states opD
  rw [mFn_eq]
  have hl : (o.map nD).length ≤ 1000000 := by simp; omega
  have e := llc_true (i := 3) (el := mUser m_is_between (mCons (mVar 3) (mCons (mC (.int 0)) (mCons (mBin opSub (mVar 2) (mC (.int 1))) mNil)))) (ρw := [some (.tup (o.map nD)), some (.int n), some (.int m), none]) (s := s) (o.map nD) [] (by
    intro d hd
    obtain ⟨x, hx2, rfl⟩ := List.mem_map.1 hd
    have := hx x hx2
    simp (disch := omega))
  simp [initE, h, lcF_fixI hl, e]
theorem is_kind_ok {k : Option Nat} (h : ∀ n, k = some n → n ≤ 9) (s) : m_is_kind [kD k] s = .ok (.bl true) s := by
  unfold m_is_kind
  rw [mFn_eq]
  cases k with
  | none => simp [initE, kD]
  | some n =>
    have := h n rfl
    simp (disch := omega) [initE, kD]
theorem is_system_ok {y : Sys} (h : y.Ok) (s) : m_is_system [y.D] s = .ok (.bl true) s := by
  unfold m_is_system
  rw [mFn_eq]
  have h1 := h.m1
  have h6 := h.m6
  have hs := h.st
  have h7 := h.o1
  have h8 := h.o6
  have h9 := h.kl
  have l1 : (y.ops.map opD).length ≤ 1000000 := by simp; omega
  have l2 : (y.kinds.map kD).length ≤ 1000000 := by simp; omega
  have b1 : (1 : Int) ≤ y.many ∧ (y.many : Int) ≤ 6 := by omega
  have b2 : (1 : Int) ≤ y.ops.length := by omega
  have b3 : (y.ops.length : Int) ≤ 6 := by omega
  have e1 := llc_true (i := 5) (el := mUser m_are_states (mCons (mVar 5) (mCons (mVar 1) (mCons (mVar 1) mNil)))) (ρw := [some y.D, some (nD y.many), some (nD y.start), some (.tup (y.ops.map opD)), some (.tup (y.kinds.map kD)), none]) (s := s) (y.ops.map opD) [] (by
    intro d hd
    obtain ⟨o, ho, rfl⟩ := List.mem_map.1 hd
    simp [are_states_ok (h.ol o ho) (by omega) (h.oe o ho)])
  have e2 := llc_true (i := 5) (el := mUser m_is_kind (mCons (mVar 5) mNil)) (ρw := [some y.D, some (nD y.many), some (nD y.start), some (.tup (y.ops.map opD)), some (.tup (y.kinds.map kD)), none]) (s := s) (y.kinds.map kD) [] (by
    intro d hd
    obtain ⟨o, ho, rfl⟩ := List.mem_map.1 hd
    simp [is_kind_ok (h.ke o ho)])
  simp only [Sys.D] at e1 e2
  simp (disch := omega) [initE, Sys.D, lcF_fixI l1, lcF_fixI l2, e1, e2, h9, b2, b3, h7, h8]
theorem need_system_ok {y : Sys} (h : y.Ok) (s) : m_need_system [y.D] s = .ok .non s := by
  unfold m_need_system
  rw [mFn_eq]
  simp [initE, is_system_ok h]
theorem is_log_ok {y : Sys} (h : y.Ok) {l : List Nat} (hl : l.length ≤ 1000) (hx : ∀ x ∈ l, x < y.ops.length) (s) : m_is_log [y.D, logD l] s = .ok (.bl true) s := by
  unfold m_is_log logD
  rw [mFn_eq]
  have l1 : (l.map nD).length ≤ 1000000 := by simp; omega
  have e1 := llc_true (i := 2) (el := mUser m_is_between (mCons (mVar 2) (mCons (mC (.int 0)) (mCons (mBin opSub (mCall fLen (mCons (mBin opIx (mVar 0) (mC (.int 2))) mNil)) (mC (.int 1))) mNil)))) (ρw := [some y.D, some (.tup (l.map nD)), none]) (s := s) (l.map nD) [] (by
    intro d hd
    obtain ⟨x, hx2, rfl⟩ := List.mem_map.1 hd
    have := hx x hx2
    simp (disch := omega) [Sys.D])
  simp [initE, lcF_fixI l1, e1]
theorem need_log_ok {y : Sys} (h : y.Ok) {l : List Nat} (hl : l.length ≤ 1000) (hx : ∀ x ∈ l, x < y.ops.length) (s) : m_need_log [y.D, logD l] s = .ok .non s := by
  unfold m_need_log
  rw [mFn_eq]
  simp [initE, is_log_ok h hl hx]
/-- one step, a log -/
def Sys.step (y : Sys) (st e : Nat) : Nat := (y.ops.getD e []).getD st 0
def Sys.run (y : Sys) (st : Nat) (l : List Nat) : Nat := l.foldl y.step st
theorem Sys.Ok.step_lt {y : Sys} (h : y.Ok) {st e : Nat} (hs : st < y.many) (he : e < y.ops.length) : y.step st e < y.many := by
  unfold Sys.step
  have ho : y.ops[e] ∈ y.ops := List.getElem_mem he
  have h1 := h.ol _ ho
  have h2 : st < y.ops[e].length := by omega
  simp only [List.getD_eq_getElem?_getD, List.getElem?_eq_getElem he, List.getElem?_eq_getElem h2, Option.getD_some]
  exact h.oe _ ho _ (List.getElem_mem _)
/-- the program's way to the next state -/
theorem ix_ops (y : Sys) (s) : opIx y.D (.int 2) s = .ok (.tup (y.ops.map opD)) s := by simp [Sys.D]
theorem ix_op {y : Sys} {e : Nat} (he : e < y.ops.length) (s) : opIx (.tup (y.ops.map opD)) (.int (e : Int)) s = .ok (opD (y.ops.getD e [])) s := by
  simp [he]
theorem ix_state {y : Sys} (h : y.Ok) {st e : Nat} (hs : st < y.many) (he : e < y.ops.length) (s : S) : opIx (opD (y.ops.getD e [])) (.int (st : Int)) s = .ok (.int (y.step st e : Nat)) s := by
  have ho : y.ops[e] ∈ y.ops := List.getElem_mem he
  have h1 := h.ol _ ho
  have h2 : st < y.ops[e].length := by omega
  simp [he, opD, h2, Sys.step]
theorem loop_run {y : Sys} (h : y.Ok) : ∀ (l : List Nat) (st : Nat) (x : Option D) (d2 : D) (s : S), st < y.many → (∀ x ∈ l, x < y.ops.length) →
    ∃ x', lloop (gN 3) (mAsg (mBin opIx (mBin opIx (mBin opIx (mVar 0) (mC (.int 2))) (mVar 3)) (mVar 1)) (gN 1)) (l.map nD) [some y.D, some (nD st), some d2, x] s = .ok (.nx [some y.D, some (nD (y.run st l)), some d2, x']) s
  | [], st, x, d2, s, hs, hx => ⟨x, rfl⟩
  | e :: l, st, x, d2, s, hs, hx => by
    have he := hx e (List.mem_cons_self ..)
    obtain ⟨x', ih⟩ := loop_run h l (y.step st e) (some (nD e)) d2 s (h.step_lt hs he) fun x hm => hx x (List.mem_cons_of_mem _ hm)
    refine ⟨x', ?_⟩
    simp only [List.map_cons]
    unfold lloop
    have s2 := ix_op he s
    have s3 := ix_state h hs he s
    simp only [mAsg_eq, mBin_eq, mVar_eq, mC_eq, gN_eq, R.bnd_ok, List.set_cons_succ, List.set_cons_zero, get_0, List.getElem?_cons_succ, vg_some, ix_ops, s2, s3, loopF_nx]
    exact ih
theorem run_from_ok {y : Sys} (h : y.Ok) {l : List Nat} {st : Nat} (hs : st < y.many) (hx : ∀ x ∈ l, x < y.ops.length) (s) : m_run_from [y.D, nD st, logD l] s = .ok (nD (y.run st l)) s := by
  unfold m_run_from
  rw [mFn_eq]
  obtain ⟨x', e⟩ := loop_run h l st none (logD l) s hs hx
  simp only [logD, nD] at e
  simp [initE, logD, e]
theorem outcome_of_ok {y : Sys} (h : y.Ok) {l : List Nat} (hx : ∀ x ∈ l, x < y.ops.length) (s) : m_outcome_of [y.D, logD l] s = .ok (nD (y.run y.start l)) s := by
  unfold m_outcome_of
  rw [mFn_eq]
  have e1 : ∀ s, opIx y.D (.int 1) s = .ok (.int (y.start : Int)) s := fun s => by simp [Sys.D]
  simp [initE, e1, run_from_ok h h.st hx]
theorem outcome_ok {y : Sys} (h : y.Ok) {l : List Nat} (hl : l.length ≤ 1000) (hx : ∀ x ∈ l, x < y.ops.length) (s) : m_outcome [y.D, logD l] s = .ok (nD (y.run y.start l)) s := by
  unfold m_outcome
  rw [mFn_eq]
  simp [initE, need_system_ok h, need_log_ok h hl hx, outcome_of_ok h hx]
end VL
namespace VL
open PySem PySem.Spec PyProof.Rows L2
/-- a law that walks some cells, a pen for each -/
theorem law_frame {c : Int} {N : Nat} {B : MS} {ns : List Int} (hc : 1 ≤ c ∧ c ≤ 100)
    (hb : ∀ (k : D) (p : Nat) (s : S) (rest : Ev), rest.length = N → Pen p (2 ^ 59) s → wp (B (some (.scr (ns.map D.int)) :: some k :: some (.obj p) :: rest) s) fun fl _ => ∃ t : Ev, t.length = N + 2 ∧ fl = .nx (some (.scr (ns.map D.int)) :: t)) :
    ∃ s', mFn (N + 3) (mSeq (mFor (mRng1 (mCons (mCall fMax2 (mCons (mC (.int 1)) (mCons (mCall fMin2 (mCons (mCall fLen (mCons (mVar 0) mNil)) (mCons (mC (.int c)) mNil))) mNil))) mNil)) (gN 1)
      (mSeq (mAsg (mUser m__law_pen (mCons (mUser m__law_cell_at (mCons (mVar 0) (mCons (mVar 1) mNil))) mNil)) (gN 2)) B)) (mRet (mC (.bl true)))) [.scr (ns.map D.int)] [] = .ok (.bl true) s' := by
  have key : wp (mFn (N + 3) (mSeq (mFor (mRng1 (mCons (mCall fMax2 (mCons (mC (.int 1)) (mCons (mCall fMin2 (mCons (mCall fLen (mCons (mVar 0) mNil)) (mCons (mC (.int c)) mNil))) mNil))) mNil)) (gN 1)
      (mSeq (mAsg (mUser m__law_pen (mCons (mUser m__law_cell_at (mCons (mVar 0) (mCons (mVar 1) mNil))) mNil)) (gN 2)) B)) (mRet (mC (.bl true)))) [.scr (ns.map D.int)] []) fun d _ => d = .bl true := by
    rw [mFn_eq, wp_fin, mSeq_eq, wp_bnd]
    have e0 : initE (N + 3) [.scr (ns.map D.int)] = some (.scr (ns.map D.int)) :: List.replicate (N + 2) none := by simp [initE]
    rw [e0]
    have e1 : ∃ j : Nat, mRng1 (mCons (mCall fMax2 (mCons (mC (.int 1)) (mCons (mCall fMin2 (mCons (mCall fLen (mCons (mVar 0) mNil)) (mCons (mC (.int c)) mNil))) mNil))) mNil) (some (.scr (ns.map D.int)) :: List.replicate (N + 2) none) [] = .ok (.fix (rngD 0 j)) [] := by
      simp
      split <;> split <;> exact ⟨_, rng1F_ok _ (by omega)⟩
    obtain ⟨j, e1⟩ := e1
    rw [mFor_eq, e1]
    simp only [R.bnd_ok, forF_fix]
    refine wp_loop (fun ds ρ s => (∀ d ∈ ds, ∃ k : Nat, d = .int (k : Int)) ∧ ∃ t : Ev, t.length = N + 2 ∧ ρ = some (.scr (ns.map D.int)) :: t) ?_ ?_ _ _ _ ⟨fun d hd => ?_, _, by simp, rfl⟩
    · rintro d ds ρ s ⟨hd, t, ht, rfl⟩
      obtain ⟨k, rfl⟩ := hd d (List.mem_cons_self ..)
      obtain ⟨t0, t1, rest, rfl⟩ : ∃ t0 t1 rest, t = t0 :: t1 :: rest := by
        match t, ht with
        | t0 :: t1 :: rest, _ => exact ⟨t0, t1, rest, rfl⟩
      simp only [gN_eq, wp_ok, List.set_cons_succ, List.set_cons_zero]
      rw [mSeq_eq, wp_bnd]
      obtain ⟨z, hz⟩ := wp_cell (ns := ns) (k := k) s
      obtain ⟨hp1, hp2⟩ := wp_pen z (2 ^ 59) (by decide) s
      simp only [nD] at hz
      simp only [mAsg_eq, mUser_eq, mCons_eq, mNil_eq, mVar_eq, get_0, List.getElem?_cons_succ, vg_some, R.bnd_ok, hz, retag_ok, hp1, gN_eq, List.set_cons_succ, List.set_cons_zero, wp_ok, seqF_nx]
      refine (hb _ _ _ rest (by simpa using ht) hp2).mono ?_
      rintro fl s2 ⟨t, ht, rfl⟩
      exact ⟨fun d hd2 => hd d (List.mem_cons_of_mem _ hd2), t, ht, rfl⟩
    · rintro ρ s ⟨hd, t, ht, rfl⟩
      simp
    · obtain ⟨k, hk, rfl⟩ := rngD_mem hd
      exact ⟨k, rfl⟩
  obtain ⟨a, s', e, rfl⟩ := key.ok
  exact ⟨s', e⟩
/-- a right log -/
def LogOk (y : Sys) (c : Nat) (l : List Nat) : Prop := l.length ≤ c ∧ ∀ x ∈ l, x < y.ops.length
end VL
namespace VL
open PySem PySem.Spec PyProof.Rows L2

/-! ### in -/
def plainK : D → Bool
  | .non | .bl _ | .int _ => true
  | _ => false
theorem plain_flat {d : D} (h : plainK d = true) : flatD d = true := by cases d <;> first | rfl | cases h
theorem opIn_tupK {f : Bool → Bool} {x : D} {ds : List D} (hx : plainK x = true) (h : ds.all plainK = true) (s : S) : opInB f x (.tup ds) s = .ok (.bl (f (anyF x ds))) s := by
  show (if flatD x = true ∧ ds.all flatD = true then R.ok (D.bl (f (anyF x ds))) s else .bad) = _
  rw [if_pos ⟨plain_flat hx, List.all_eq_true.2 fun d hd => plain_flat (List.all_eq_true.1 h d hd)⟩]
@[simp] theorem plainK_kD (k) : plainK (kD k) = true := by cases k <;> rfl
theorem all_nD (ks : List Nat) : (ks.map nD).all plainK = true := List.all_eq_true.2 fun d hd => by
  obtain ⟨x, _, rfl⟩ := List.mem_map.1 hd
  rfl
theorem anyF_nD (k : Nat) : ∀ ks : List Nat, anyF (nD k) (ks.map nD) = ks.contains k
  | [] => rfl
  | j :: ks => by
    have := anyF_nD k ks
    simp only [anyF, List.map_cons, List.any_cons, List.contains_cons] at this ⊢
    rw [this]
    congr 1
    simp only [eqF]
    by_cases e : j = k
    · subst e; simp
    · have e' : ¬ (j : Int) = k := by omega
      have e2 : ¬ k = j := fun z => e z.symm
      simp [e', e2, beq_eq_false_iff_ne.2 e, beq_eq_false_iff_ne.2 e2]

/-! ### items picked by what stands ahead and behind -/
def pickL (p : List Nat → Nat → List Nat → Bool) : List Nat → List Nat → List Nat
  | _, [] => []
  | pre, e :: rest => if p pre e rest = true then e :: pickL p (pre ++ [e]) rest else pickL p (pre ++ [e]) rest
def enumK (k : Nat) (l : List Nat) : List D := (l.zipIdx k).map fun p => .tup [.int (p.2 : Nat), .int (p.1 : Nat)]
theorem enumD_nD (l : List Nat) : enumD (l.map nD) = enumK 0 l := by
  unfold enumD enumK
  rw [List.zipIdx_map, List.map_map]
  rfl
@[simp] theorem enumK_nil (k) : enumK k [] = [] := rfl
@[simp] theorem enumK_cons (k e l) : enumK k (e :: l) = .tup [.int (k : Nat), .int (e : Nat)] :: enumK (k + 1) l := rfl
/-! compacting -/
def Sys.kd (y : Sys) (e : Nat) : Option Nat := y.kinds.getD e none
def Sys.cmp (y : Sys) : List Nat → List Nat
  | [] => []
  | e :: l => if y.kd e = none ∨ y.kd e ∉ l.map y.kd then e :: y.cmp l else y.cmp l
def Sys.cmpP (y : Sys) : List Nat → Nat → List Nat → Bool := fun _ e rest => decide (y.kd e = none ∨ y.kd e ∉ rest.map y.kd)
theorem kD_non (k : Option Nat) : isNonD (kD k) = decide (k = none) := by cases k <;> simp [kD]
/-! firsts -/
def firstP : List Nat → Nat → List Nat → Bool := fun pre e _ => !pre.contains e
def firstsL (l : List Nat) : List Nat := pickL firstP [] l
end VL
namespace VL
open PySem PySem.Spec PyProof.Rows L2

/-! ### the reachable states, by breadth -/
abbrev Fnd := List (Nat × List Nat)
def visit (a : Nat × List Nat) (k : Nat) (o : List Nat) (f : Fnd) : Fnd := if o.getD a.1 0 ∈ f.map (·.1) then f else f ++ [(o.getD a.1 0, a.2 ++ [k])]
def rowFrom (a : Nat × List Nat) : Nat → List (List Nat) → Fnd → Fnd
  | _, [], f => f
  | k, o :: os, f => rowFrom a (k + 1) os (visit a k o f)
def Sys.bfs (y : Sys) : Nat → Nat → Fnd → Fnd
  | 0, _, f => f
  | n + 1, at', f => if at' < f.length then y.bfs n (at' + 1) (rowFrom (f.getD at' (0, [])) 0 y.ops f) else f
def Sys.paths (y : Sys) : Fnd := y.bfs 2000 0 [(y.start, [])]
def Sys.states (y : Sys) : List Nat := y.paths.map (·.1)
structure FOk (y : Sys) (f : Fnd) : Prop where
  nd : (f.map (·.1)).Nodup
  lt : ∀ p ∈ f, p.1 < y.many
  lg : ∀ p ∈ f, ∀ x ∈ p.2, x < y.ops.length
  ll : ∀ p ∈ f, p.2.length < f.length
theorem nodup_len : ∀ (n : Nat) (l : List Nat), l.Nodup → (∀ x ∈ l, x < n) → l.length ≤ n
  | 0, l, _, h => by
    cases l with
    | nil => simp
    | cons a l => exact absurd (h a (List.mem_cons_self ..)) (by omega)
  | n + 1, l, hd, h => by
    have ih := nodup_len n (l.erase n) (hd.erase n) fun x hx => by
      have h1 := h x (List.mem_of_mem_erase hx)
      have h2 : x ≠ n := fun e => by
        subst e
        exact hd.not_mem_erase hx
      omega
    have : l.length ≤ (l.erase n).length + 1 := by
      rw [List.length_erase]
      split <;> omega
    omega
theorem FOk.len {y : Sys} {f : Fnd} (h : FOk y f) : f.length ≤ y.many := by
  have := nodup_len y.many (f.map (·.1)) h.nd fun x hx => by
    obtain ⟨p, hp, rfl⟩ := List.mem_map.1 hx
    exact h.lt p hp
  simpa using this
theorem FOk.visit {y : Sys} (hy : y.Ok) {f : Fnd} (h : FOk y f) {a : Nat × List Nat} (ha : a ∈ f) {k : Nat} {o : List Nat} (ho : y.ops[k]? = some o) : FOk y (visit a k o f) := by
  unfold VL.visit
  split
  · exact h
  · rename_i hn
    have hk : k < y.ops.length := (List.getElem?_eq_some_iff.1 ho).1
    have hom : o ∈ y.ops := List.mem_of_getElem? ho
    have hlen := hy.ol o hom
    have hlt : o.getD a.1 0 < y.many := by
      have h1 : a.1 < o.length := by rw [hlen]; exact h.lt a ha
      simp only [List.getD_eq_getElem?_getD, List.getElem?_eq_getElem h1, Option.getD_some]
      exact hy.oe o hom _ (List.getElem_mem _)
    refine ⟨?_, fun p hp => ?_, fun p hp x hx => ?_, fun p hp => ?_⟩
    · rw [List.map_append]
      refine List.nodup_append.2 ⟨h.nd, by simp, fun x hx z hz e => hn ?_⟩
      have hz' : z = o.getD a.1 0 := by simpa only [List.map_cons, List.map_nil, List.mem_singleton] using hz
      exact hz' ▸ e ▸ hx
    · rcases List.mem_append.1 hp with hp | hp
      · exact h.lt p hp
      · simp at hp; subst hp; exact hlt
    · rcases List.mem_append.1 hp with hp | hp
      · exact h.lg p hp x hx
      · simp at hp; subst hp
        rcases List.mem_append.1 hx with hx | hx
        · exact h.lg a ha x hx
        · simp at hx; subst hx; exact hk
    · rw [List.length_append, List.length_singleton]
      rcases List.mem_append.1 hp with hp | hp
      · have := h.ll p hp
        omega
      · have := h.ll a ha
        rw [List.mem_singleton] at hp
        subst hp
        rw [List.length_append, List.length_singleton]
        omega
theorem visit_mem {a b : Nat × List Nat} {k o f} (h : b ∈ f) : b ∈ visit a k o f := by
  unfold visit
  split
  · exact h
  · exact List.mem_append_left _ h
theorem visit_pre {a : Nat × List Nat} {k o f} : ∃ t, visit a k o f = f ++ t := by
  unfold visit
  split
  · exact ⟨[], by simp⟩
  · exact ⟨_, rfl⟩
theorem FOk.row {y : Sys} (hy : y.Ok) {a : Nat × List Nat} : ∀ (os pre : List (List Nat)) {f : Fnd}, y.ops = pre ++ os → FOk y f → a ∈ f → FOk y (rowFrom a pre.length os f)
  | [], pre, f, _, h, _ => h
  | o :: os, pre, f, e, h, ha => by
    have h1 := h.visit hy ha (k := pre.length) (o := o) (by rw [e]; simp)
    have := FOk.row hy os (pre ++ [o]) (by rw [e]; simp) h1 (visit_mem ha)
    simpa [rowFrom] using this
theorem FOk.bfs {y : Sys} (hy : y.Ok) : ∀ (n at' : Nat) {f : Fnd}, FOk y f → FOk y (y.bfs n at' f)
  | 0, _, _, h => h
  | n + 1, at', f, h => by
    unfold Sys.bfs
    split
    · rename_i hl
      have hm : f.getD at' (0, []) ∈ f := by
        rw [List.getD_eq_getElem?_getD, List.getElem?_eq_getElem hl, Option.getD_some]
        exact List.getElem_mem _
      exact FOk.bfs hy n (at' + 1) (FOk.row hy y.ops [] rfl h hm)
    · exact h
theorem FOk.start {y : Sys} (hy : y.Ok) : FOk y [(y.start, [])] := ⟨by simp, by simpa using hy.st, by simp, by simp⟩
theorem paths_ok {y : Sys} (hy : y.Ok) : FOk y y.paths := FOk.bfs hy _ _ (FOk.start hy)
end VL
namespace VL
open PySem PySem.Spec PyProof.Rows L2

theorem wp_while {t : MT} {b : MS} {K : Fl → S → Prop} (I : Nat → Ev → S → Prop) (zero : ∀ ρ s, ¬ I 0 ρ s)
    (turn : ∀ n ρ s, I (n + 1) ρ s → wp (t ρ s) fun k s1 => if k = true then wp (b ρ s1) (turnK (I n) K) else K (.nx ρ) s1) :
    ∀ (n : Nat) (ρ : Ev) (s : S), I n ρ s → wp (mWhile t b n ρ s) K
  | 0, ρ, s, h => absurd h (zero ρ s)
  | n + 1, ρ, s, h => by
    unfold mWhile
    rw [wp_bnd]
    refine (turn n ρ s h).mono fun k s1 h1 => ?_
    cases k with
    | false => exact h1
    | true =>
      rw [if_pos rfl] at h1
      rw [if_pos rfl, wp_bnd]
      refine wp.mono h1 fun fl s2 h2 => ?_
      cases fl with
      | nx ρ2 => exact wp_while I zero turn n ρ2 s2 h2
      | ct ρ2 => exact wp_while I zero turn n ρ2 s2 h2
      | bk ρ2 => exact h2
      | ret d => exact h2
def pairD (p : Nat × List Nat) : D := .tup [nD p.1, logD p.2]
/-- operations with their numbers -/
def enumO (k : Nat) (os : List (List Nat)) : List D := (os.zipIdx k).map fun p => .tup [.int (p.2 : Nat), opD p.1]
theorem enumD_ops (os : List (List Nat)) : enumD (os.map opD) = enumO 0 os := by
  unfold enumD enumO
  rw [List.zipIdx_map, List.map_map]
  rfl
@[simp] theorem enumO_nil (k) : enumO k [] = [] := rfl
@[simp] theorem enumO_cons (k o os) : enumO k (o :: os) = .tup [.int (k : Nat), opD o] :: enumO (k + 1) os := rfl
theorem set2a (s : S) (a b c : O) : (s ++ [a, b]).set s.length c = s ++ [c, b] := by rw [List.set_append_right _ _ (Nat.le_refl _)]; simp
theorem set2b (s : S) (a b c : O) : (s ++ [a, b]).set (s.length + 1) c = s ++ [a, c] := by rw [List.set_append_right _ _ (by omega)]; simp
theorem get2a (s : S) (a b : O) : (s ++ [a, b])[s.length]? = some a := by simp
theorem get2b (s : S) (a b : O) : (s ++ [a, b])[s.length + 1]? = some b := by rw [List.getElem?_append_right (by omega)]; simp
end VL
namespace VL
open PySem PySem.Spec PyProof.Rows L2

def kvD (p : Nat × List Nat) : D × D := (nD p.1, logD p.2)
theorem look_kv (st : Nat) : ∀ f : Fnd, look keyD (f.map kvD) (Sum.inl (st : Int)) = (f.find? fun p => decide (p.1 = st)).map fun p => logD p.2
  | [] => rfl
  | p :: f => by
    have ih := look_kv st f
    unfold look at ih ⊢
    simp only [List.map_cons, List.find?_cons]
    have e : decide (keyD (kvD p).1 = some (Sum.inl (st : Int))) = decide (p.1 = st) := by
      simp only [kvD, keyD, Option.some.injEq, Sum.inl.injEq]
      apply decide_eq_decide.2
      omega
    rw [e]
    by_cases h : p.1 = st
    · simp [h, kvD]
    · simp only [h, decide_false]
      exact ih
theorem look_some {y : Sys} {f : Fnd} (h : (f.map (·.1)).Nodup) {a : Nat × List Nat} (ha : a ∈ f) : look keyD (f.map kvD) (Sum.inl (a.1 : Int)) = some (logD a.2) := by
  rw [look_kv]
  induction f with
  | nil => cases ha
  | cons p f ih =>
    rw [List.find?_cons]
    by_cases e : p.1 = a.1
    · simp only [e, decide_true]
      rcases List.mem_cons.1 ha with rfl | ha
      · rfl
      · simp only [List.map_cons, List.nodup_cons] at h
        exact absurd (e ▸ List.mem_map_of_mem ha) h.1
    · simp only [e, decide_false]
      rcases List.mem_cons.1 ha with rfl | ha
      · exact absurd rfl e
      · simp only [List.map_cons, List.nodup_cons] at h
        exact ih h.2 ha
theorem look_none {f : Fnd} {st : Nat} : (look keyD (f.map kvD) (Sum.inl (st : Int))).isSome = decide (st ∈ f.map (·.1)) := by
  rw [look_kv, Option.isSome_map]
  by_cases h : st ∈ f.map (·.1)
  · rw [decide_eq_true h, List.find?_isSome]
    obtain ⟨p, hp, e⟩ := List.mem_map.1 h
    exact ⟨p, hp, decide_eq_true e⟩
  · rw [decide_eq_false h]
    cases hh : f.find? fun p => decide (p.1 = st) with
    | none => rfl
    | some p =>
      have h1 := List.find?_some hh
      have h2 := List.mem_of_find?_eq_some hh
      exact absurd (of_decide_eq_true h1 ▸ List.mem_map_of_mem h2) h
theorem put_new {f : Fnd} {st : Nat} {v : D} (h : st ∉ f.map (·.1)) : put keyD (f.map kvD) (nD st) (Sum.inl (st : Int)) v = f.map kvD ++ [(nD st, v)] := by
  unfold put
  rw [if_neg]
  intro z
  obtain ⟨p, hp, e⟩ := List.any_eq_true.1 z
  obtain ⟨q, hq, rfl⟩ := List.mem_map.1 hp
  have e := of_decide_eq_true e
  simp only [kvD, keyD, Option.some.injEq, Sum.inl.injEq] at e
  have e : q.1 = st := by omega
  exact h (e ▸ List.mem_map_of_mem hq)
theorem paths_of_ok {y : Sys} (hy : y.Ok) (s : S) : wp (m_paths_of [y.D] s) fun d s' => d = .obj s.length ∧ s' = s ++ [.dct (y.paths.map kvD), .lst (y.states.map nD)] := by
  unfold m_paths_of
  rw [mFn_eq]
  have e1 : ∀ s, opIx y.D (.int 1) s = .ok (.int (y.start : Int)) s := fun s => by simp [Sys.D]
  have d1 : ∀ ρ : Ev, ρ[0]? = some (some y.D) → mDisp1 (mBin opIx (mVar 0) (mC (.int 1))) (mTup mNil) ρ s = .ok (.obj s.length) (s ++ [.dct [(nD y.start, logD [])]]) := fun ρ h => by
    unfold mDisp1
    simp [h, e1, keyD, logD]
  have hi : initE 7 [y.D] = [some y.D, none, none, none, none, none, none] := rfl
  rw [hi, mSeq_eq, mAsg_eq, d1 _ rfl]
  simp [e1]
  refine wp_while (fun n ρ s' => ∃ (at' : Nat) (f : Fnd) (x4 x5 x6 : Option D), FOk y f ∧ at' ≤ f.length ∧ y.many + 1 ≤ at' + n ∧ n ≤ 2000 ∧ y.bfs n at' f = y.paths ∧ s' = s ++ [.dct (f.map kvD), .lst (f.map fun p => nD p.1)] ∧
    ρ = [some y.D, some (.obj s.length), some (.obj (s.length + 1)), some (.int (at' : Int)), x4, x5, x6]) ?_ ?_ 2000 _ _ ⟨0, [(y.start, [])], _, _, _, FOk.start hy, by simp, by have := hy.m6; omega, by omega, rfl, by simp [kvD, logD], rfl⟩
  · rintro ρ s' ⟨at', f, x4, x5, x6, hf, h1, h2, _⟩
    have := hf.len
    omega
  · rintro n ρ s' ⟨at', f, x4, x5, x6, hf, h1, h2, h3, hb, rfl, rfl⟩
    have g1 := get2b s (.dct (f.map kvD)) (.lst (f.map fun p => nD p.1))
    have t1 := fLen_obj _ g1
    simp only [mB_eq, mBin_eq, mVar_eq, get_0, List.getElem?_cons_succ, vg_some, R.bnd_ok, mCall_eq, mCons_eq, mNil_eq, t1, opLt_int, asB_ok, wp_ok, List.length_map]
    by_cases hl : at' < f.length
    · rw [if_pos (decide_eq_true (by omega))]
      have ha : f[at'] ∈ f := List.getElem_mem hl
      have hfa : f.getD at' (0, []) = f[at'] := by rw [List.getD_eq_getElem?_getD, List.getElem?_eq_getElem hl, Option.getD_some]
      have step : y.bfs (n + 1) at' f = y.bfs n (at' + 1) (rowFrom f[at'] 0 y.ops f) := by
        conv => lhs; unfold Sys.bfs
        rw [if_pos hl, hfa]
      rw [step] at hb
      have i1 : opIx (.obj (s.length + 1)) (.int (at' : Int)) (s ++ [.dct (f.map kvD), .lst (f.map fun p => nD p.1)]) = .ok (nD (f[at']).1) (s ++ [.dct (f.map kvD), .lst (f.map fun p => nD p.1)]) := by
        rw [opIx_obj _ g1, atI_nat', List.getElem?_map, List.getElem?_eq_getElem hl]
        rfl
      have aug : ∀ x4 x5 x6 : Option D, ∀ s2 : S, mAugAdd 3 (mC (.int 1)) [some y.D, some (.obj s.length), some (.obj (s.length + 1)), some (.int (at' : Int)), x4, x5, x6] s2 = .ok (.nx [some y.D, some (.obj s.length), some (.obj (s.length + 1)), some (.int (at' + 1 : Nat)), x4, x5, x6]) s2 := fun x4 x5 x6 s2 => rfl
      rw [mSeq_eq, wp_bnd, mAsg_eq]
      simp only [mBin_eq, mVar_eq, get_0, List.getElem?_cons_succ, vg_some, R.bnd_ok, i1, gN_eq, List.set_cons_succ, List.set_cons_zero, wp_ok, seqF_nx]
      rw [mSeq_eq, wp_bnd, aug]
      simp only [wp_ok, seqF_nx, mFor_eq, mEnum_eq, mCons_eq, mNil_eq, mBin_eq, mVar_eq, mC_eq, get_0, vg_some, R.bnd_ok, ix_ops, enumF_tup, forF_fix, enumD_ops]
      refine wp_loop (fun ds ρ s2 => ∃ (pre os : List (List Nat)) (g : Fnd) (x5 x6 : Option D), y.ops = pre ++ os ∧ ds = enumO pre.length os ∧ FOk y g ∧ (∃ t, g = f ++ t) ∧ rowFrom f[at'] pre.length os g = rowFrom f[at'] 0 y.ops f ∧
        s2 = s ++ [.dct (g.map kvD), .lst (g.map fun p => nD p.1)] ∧ ρ = [some y.D, some (.obj s.length), some (.obj (s.length + 1)), some (.int (at' + 1 : Nat)), some (.int ((f[at']).1 : Nat)), x5, x6]) ?_ ?_ _ _ _ ⟨[], y.ops, f, _, _, rfl, rfl, hf, ⟨[], by simp⟩, rfl, rfl, rfl⟩
      · rintro d ds ρ s2 ⟨pre, os, g, x5, x6, ho, hd, hg, ⟨t, ht⟩, hr, rfl, rfl⟩
        cases os with
        | nil => cases hd
        | cons o os =>
          rw [enumO_cons] at hd
          injection hd with hd1 hd2
          subst hd1 hd2
          have hko : y.ops[pre.length]? = some o := by rw [ho]; simp
          have hom : o ∈ y.ops := List.mem_of_getElem? hko
          have hag : f[at'] ∈ g := by rw [ht]; exact List.mem_append_left _ ha
          have hlt : (f[at']).1 < o.length := by rw [hy.ol o hom]; exact hf.lt _ ha
          have hgl := hg.len
          have hm6 := hy.m6
          have i3 : ∀ s3 : S, opIx (opD o) (.int ((f[at']).1 : Int)) s3 = .ok (.int (o.getD (f[at']).1 0 : Nat)) s3 := fun s3 => by simp [opD, hlt]
          have dg : ∀ st : Nat, ∀ b : O, dgetD (s ++ [.dct (g.map kvD), b]) (.obj s.length) (.int (st : Int)) = some (look keyD (g.map kvD) (Sum.inl (st : Int))) := fun st b => by
            unfold dgetD
            simp only [get2a]
            rfl
          have m1 : opNotInD (.int (o.getD (f[at']).1 0 : Nat)) (.obj s.length) (s ++ [.dct (g.map kvD), .lst (g.map fun p => nD p.1)]) = .ok (.bl (!decide (o.getD (f[at']).1 0 ∈ g.map (·.1)))) (s ++ [.dct (g.map kvD), .lst (g.map fun p => nD p.1)]) := by
            show opInU (fun b => !b) _ _ _ = _
            unfold opInU
            rw [dg]
            show R.ok (D.bl (!(look keyD (g.map kvD) (Sum.inl ((o.getD (f[at']).1 0 : Nat) : Int))).isSome)) _ = _
            rw [look_none]
          have i4 : opIxU (.obj s.length) (.int ((f[at']).1 : Int)) (s ++ [.dct (g.map kvD), .lst (g.map fun p => nD p.1)]) = .ok (logD (f[at']).2) (s ++ [.dct (g.map kvD), .lst (g.map fun p => nD p.1)]) := by
            unfold opIxU
            rw [dg, look_some (y := y) hg.nd hag]
          have hv := hg.visit hy hag hko
          simp only [gT_eq, gConsM_eq, gN_eq, gNilM_eq, List.length_cons, List.length_nil, Nat.reduceAdd, if_true, R.bnd_ok, wp_ok, List.set_cons_succ, List.set_cons_zero, mIfS_eq, mB_eq, mBin_eq, mVar_eq, get_0, List.getElem?_cons_succ, vg_some, i3, m1, asB_ok]
          rw [rowFrom] at hr
          by_cases hin : o.getD (f[at']).1 0 ∈ g.map (·.1)
          · have hvv : visit f[at'] pre.length o g = g := by unfold visit; rw [if_pos hin]
            rw [hvv] at hr
            simp only [decide_eq_true hin, Bool.not_true, Bool.false_eq_true, if_false, mSkip_eq, wp_ok, turnK_nx]
            exact ⟨pre ++ [o], os, g, _, _, by rw [ho]; simp, by simp, hg, ⟨t, ht⟩, by simpa using hr, rfl, rfl⟩
          · have hvv : visit f[at'] pre.length o g = g ++ [(o.getD (f[at']).1 0, (f[at']).2 ++ [pre.length])] := by unfold visit; rw [if_neg hin]
            rw [hvv] at hr hv
            have hll : (f[at']).2.length + 1 ≤ 1000000 := by
              have := hf.ll _ ha
              have := hf.len
              omega
            have st1 : ∀ v, setIxU (.obj s.length) (.int (o.getD (f[at']).1 0 : Nat)) v (s ++ [.dct (g.map kvD), .lst (g.map fun p => nD p.1)]) = some (s ++ [.dct (g.map kvD ++ [(nD (o.getD (f[at']).1 0), v)]), .lst (g.map fun p => nD p.1)]) := fun v => by
              unfold setIxU dputD
              simp only [get2a]
              show (match (some (Sum.inl ((o.getD (f[at']).1 0 : Nat) : Int)) : Option Key).bind (fun k => if (g.map kvD).length < LIM then some ((s ++ [O.dct (g.map kvD), O.lst (g.map fun p => nD p.1)]).set s.length (O.dct (put keyD (g.map kvD) (.int (o.getD (f[at']).1 0 : Nat)) k v))) else none) with | some s' => some s' | none => _) = _
              rw [Option.bind_some, if_pos (by simp; omega), put_new hin, set2a]
            have o1 : ∀ A : O, isLstO (s ++ [A, .lst (g.map fun p => nD p.1)]) (.obj (s.length + 1)) = true := fun A => isLstO_obj (get2b ..)
            have a1 := fun A d => fAppend_obj (get2b s A (.lst (g.map fun p => nD p.1))) (by simp; omega) d
            simp only [set2b] at a1
            simp only [decide_eq_false hin, Bool.not_false, if_true, mSeq_eq, mAsg_eq, mBin_eq, mVar_eq, get_0, List.getElem?_cons_succ, vg_some, R.bnd_ok, i4, mTup_eq, mCons_eq, mNil_eq, List.length_cons, List.length_nil, Nat.reduceAdd, LIM_eq, Nat.reduceLeDiff, logD, opAdd_tup, List.length_map, hll, gIxU, i3, st1, seqF_nx, mDrop_eq, mAppend_eq, o1, a1, wp_ok, turnK_nx]
            refine ⟨pre ++ [o], os, _, _, _, by rw [ho]; simp, by simp, hv, ⟨t ++ [(o.getD (f[at']).1 0, (f[at']).2 ++ [pre.length])], by rw [ht]; simp⟩, by simpa using hr, ?_, rfl⟩
            simp [kvD, logD]
      · rintro ρ s2 ⟨pre, os, g, x5, x6, ho, hd, hg, ⟨t, ht⟩, hr, rfl, rfl⟩
        cases os with
        | cons o os => cases hd
        | nil =>
          rw [rowFrom] at hr
          subst hr
          have hlen : at' + 1 ≤ (rowFrom f[at'] 0 y.ops f).length := by rw [ht]; simp; omega
          simp only [turnK_nx]
          exact ⟨at' + 1, _, _, _, _, hg, hlen, by omega, by omega, hb, rfl, rfl⟩
    · rw [if_neg (by simp; omega)]
      have : y.bfs (n + 1) at' f = f := by unfold Sys.bfs; rw [if_neg hl]
      rw [this] at hb
      subst hb
      simp [Sys.states]
end VL
namespace VL
open PySem PySem.Spec PyProof.Rows L2

/-- ascending -/
def srt (l : List Nat) : List Nat := (isort (l.map fun (n : Nat) => (n : Int))).map Int.toNat
theorem srt_D (l : List Nat) : (isort (l.map fun (n : Nat) => (n : Int))).map D.int = (srt l).map nD := by
  unfold srt
  rw [List.map_map]
  refine List.map_congr_left fun x hx => ?_
  have := (isort_perm _).mem_iff.1 hx
  obtain ⟨n, _, rfl⟩ := List.mem_map.1 this
  simp
theorem srt_mem {l : List Nat} {x : Nat} : x ∈ srt l ↔ x ∈ l := by
  unfold srt
  rw [List.mem_map]
  constructor
  · rintro ⟨z, hz, rfl⟩
    obtain ⟨n, hn, rfl⟩ := List.mem_map.1 ((isort_perm _).mem_iff.1 hz)
    simpa using hn
  · intro h
    exact ⟨x, (isort_perm _).mem_iff.2 (List.mem_map_of_mem h), by simp⟩
theorem srt_len (l : List Nat) : (srt l).length = l.length := by
  unfold srt
  rw [List.length_map, (isort_perm _).length_eq, List.length_map]
theorem keyI_kv : ∀ f : Fnd, keyI (f.map kvD) = some (f.map fun p => (p.1 : Int))
  | [] => rfl
  | p :: f => by
    have := keyI_kv f
    simp only [List.map_cons, kvD, keyI] at this ⊢
    rw [this]
    rfl
def Sys.reach (y : Sys) : List Nat := srt y.states
theorem reach_lt {y : Sys} (hy : y.Ok) {x : Nat} (h : x ∈ y.reach) : x < y.many := by
  have := srt_mem.1 h
  obtain ⟨p, hp, rfl⟩ := List.mem_map.1 this
  exact (paths_ok hy).lt p hp
theorem reached_ok {y : Sys} (hy : y.Ok) (s : S) : wp (m_reached [y.D] s) fun d s' => d = logD y.reach ∧ ∃ t, s' = s ++ t := by
  unfold m_reached
  rw [mFn_eq]
  simp [initE]
  refine (paths_of_ok hy s).mono ?_
  rintro d s1 ⟨rfl, rfl⟩
  have hl : (y.paths.map fun p => (p.1 : Int)).length < 64 := by
    have := (paths_ok hy).len
    have := hy.m6
    simp; omega
  have e : fSortedU [.obj s.length] (s ++ [.dct (y.paths.map kvD), .lst (y.states.map nD)]) = .ok (.lst (y.reach.map nD)) (s ++ [.dct (y.paths.map kvD), .lst (y.states.map nD)]) := by
    unfold fSortedU
    simp only [get2a, keyI_kv]
    rw [if_pos hl]
    have : (y.paths.map fun p => (p.1 : Int)) = y.states.map fun (n : Nat) => (n : Int) := by simp [Sys.states]
    rw [this, srt_D]
    rfl
  simp [e]
  rfl
end VL
namespace VL
open PySem PySem.Spec PyProof.Rows L2

end VL
namespace VL
open PySem PySem.Spec PyProof.Rows L2

/-- the first state of some from which two logs lead apart -/
def Sys.apartIn (y : Sys) (a b : List Nat) (xs : List Nat) : Option Nat := xs.find? fun st => decide (y.run st a ≠ y.run st b)
theorem loop_apart {y : Sys} (hy : y.Ok) {a b : List Nat} (ha : ∀ x ∈ a, x < y.ops.length) (hb : ∀ x ∈ b, x < y.ops.length) {m : FM} (hm : ∀ (l : List Nat) (st : Nat) (s : S), st < y.many → (∀ x ∈ l, x < y.ops.length) → m [y.D, nD st, logD l] s = .ok (nD (y.run st l)) s)
    {K : Fl → S → Prop} {s : S} : ∀ (xs : List Nat) (x : Option D), (∀ x ∈ xs, x < y.many) → (∀ st, y.apartIn a b xs = some st → K (.ret (nD st)) s) → (∀ x', y.apartIn a b xs = none → K (.nx [some y.D, some (logD a), some (logD b), x']) s) →
    wp (lloop (gN 3) (mIfS (mB (mBin opNe (mUser m (mCons (mVar 0) (mCons (mVar 3) (mCons (mVar 1) mNil)))) (mUser m (mCons (mVar 0) (mCons (mVar 3) (mCons (mVar 2) mNil))))))
(mRet (mVar 3)) mSkip) (xs.map nD) [some y.D, some (logD a), some (logD b), x] s) K
  | [], x, h, k1, k2 => k2 x rfl
  | st :: xs, x, h, k1, k2 => by
    have hs := h st (List.mem_cons_self ..)
    have e1 := hm a st s hs ha
    have e2 := hm b st s hs hb
    simp only [List.map_cons]
    unfold lloop
    simp only [gN_eq, R.bnd_ok, List.set_cons_succ, List.set_cons_zero, mIfS_eq, mB_eq, mBin_eq, mUser_eq, mCons_eq, mVar_eq, mNil_eq, get_0, List.getElem?_cons_succ, vg_some, e1, e2, retag_ok, opEqF_int, asB_ok, wp_bnd]
    by_cases hne : y.run st a = y.run st b
    · have : y.apartIn a b (st :: xs) = y.apartIn a b xs := by simp [Sys.apartIn, hne]
      rw [this] at k1 k2
      simp only [hne, beq_self_eq_true, Bool.not_true, Bool.false_eq_true, if_false, mSkip_eq, wp_ok, loopF_nx]
      exact loop_apart hy ha hb hm xs _ (fun x hx => h x (List.mem_cons_of_mem _ hx)) k1 k2
    · have hb2 : (((y.run st a : Nat) : Int) == ((y.run st b : Nat) : Int)) = false := by
        rw [beq_eq_false_iff_ne]; omega
      simp only [hb2, Bool.not_false, if_true, mRet_eq, mVar_eq, get_0, List.getElem?_cons_succ, vg_some, R.bnd_ok, wp_ok, loopF_ret]
      exact k1 st (by simp [Sys.apartIn, hne])
def Sys.apart (y : Sys) (a b : List Nat) : Option Nat := y.apartIn a b y.reach
theorem first_apart_ok {y : Sys} (hy : y.Ok) {a b : List Nat} (ha : ∀ x ∈ a, x < y.ops.length) (hb : ∀ x ∈ b, x < y.ops.length) (s : S) : wp (m_first_apart [y.D, logD a, logD b] s) fun d s' => d = kD (y.apart a b) ∧ ∃ t, s' = s ++ t := by
  unfold m_first_apart
  rw [mFn_eq]
  simp [initE]
  refine (reached_ok hy s).mono ?_
  rintro d s1 ⟨rfl, t, rfl⟩
  simp only [logD, srcF_tup, wp_ok, forF_fix]
  refine loop_apart hy ha hb (fun l st s hs hx => run_from_ok hy hs hx s) y.reach none (fun x hx => reach_lt hy hx) ?_ ?_
  · intro st e
    simp [Sys.apart, e, kD]
  · intro x' e
    simp [Sys.apart, e, kD]
theorem apart_ok {y : Sys} (hy : y.Ok) {a b : List Nat} (la : a.length ≤ 1000) (lb : b.length ≤ 1000) (ha : ∀ x ∈ a, x < y.ops.length) (hb : ∀ x ∈ b, x < y.ops.length) (s : S) : wp (m_apart [y.D, logD a, logD b] s) fun d s' => d = kD (y.apart a b) ∧ ∃ t, s' = s ++ t := by
  unfold m_apart
  rw [mFn_eq]
  simp [initE, need_system_ok hy, need_log_ok hy la ha, need_log_ok hy lb hb]
  exact first_apart_ok hy ha hb s
end VL
namespace VL
open PySem PySem.Spec PyProof.Rows L2

/-! ### what a def leaves behind in the store, by name -/
def gar (m : FM) (ds : List D) (s : S) : S := match m ds s with
  | .ok _ s' => s'.drop s.length
  | _ => []
theorem eq_gar {m : FM} {ds : List D} {s : S} {a : D} (h : wp (m ds s) fun d s' => d = a ∧ ∃ t, s' = s ++ t) : m ds s = .ok a (s ++ gar m ds s) := by
  obtain ⟨d, s', e, rfl, t, rfl⟩ := h.ok
  rw [e]
  simp [gar, e]
theorem reached_eq {y : Sys} (hy : y.Ok) (s : S) : m_reached [y.D] s = .ok (logD y.reach) (s ++ gar m_reached [y.D] s) := eq_gar (reached_ok hy s)
/-! ### loops that look for something -/
def findQ (J : Ev → S → Prop) (I : S → Prop) : Option D → Fl → S → Prop
  | some r, fl, s => fl = .ret r ∧ I s
  | none, .nx ρ, s => J ρ s
  | none, .ct ρ, s => J ρ s
  | none, _, _ => False
@[simp] theorem findQ_some (J I r fl s) : findQ J I (some r) fl s = (fl = .ret r ∧ I s) := rfl
@[simp] theorem findQ_nx (J I ρ s) : findQ J I none (.nx ρ) s = J ρ s := rfl
@[simp] theorem findQ_ct (J I ρ s) : findQ J I none (.ct ρ) s = J ρ s := rfl
section
variable {α : Type} {f : α → D}
theorem wp_find {g : MG} {b : MS} {K : Fl → S → Prop} (J : Ev → S → Prop) (I : S → Prop) (P : α → Option D) : ∀ (xs : List α) (ρ : Ev) (s : S), J ρ s →
    (∀ x ∈ xs, ∀ ρ s, J ρ s → wp (g (f x) ρ s) fun ρ1 s1 => wp (b ρ1 s1) (findQ J I (P x))) → (∀ r s', xs.findSome? P = some r → I s' → K (.ret r) s') → (∀ ρ' s', xs.findSome? P = none → J ρ' s' → K (.nx ρ') s') → wp (lloop g b (xs.map f) ρ s) K
  | [], ρ, s, hj, _, _, k2 => k2 ρ s rfl hj
  | x :: xs, ρ, s, hj, ht, k1, k2 => by
    simp only [List.map_cons]
    unfold lloop
    rw [wp_bnd]
    refine (ht x (List.mem_cons_self ..) ρ s hj).mono fun ρ1 s1 h1 => ?_
    rw [wp_bnd]
    refine h1.mono fun fl s2 h2 => ?_
    cases hp : P x with
    | some r =>
      rw [hp] at h2
      obtain ⟨rfl, hi⟩ := h2
      exact k1 r s2 (by simp [hp]) hi
    | none =>
      rw [hp] at h2
      have e : (x :: xs).findSome? P = xs.findSome? P := by simp [hp]
      rw [e] at k1 k2
      have more := fun ρ2 s2 (hj2 : J ρ2 s2) => wp_find J I P xs ρ2 s2 hj2 (fun x hx => ht x (List.mem_cons_of_mem _ hx)) k1 k2
      cases fl with
      | nx ρ2 => exact more ρ2 s2 h2
      | ct ρ2 => exact more ρ2 s2 h2
      | bk ρ2 => exact h2.elim
      | ret d => exact h2.elim
/-- .. that go through: A is what has been made of the items so far -/
theorem wp_go {g : MG} {b : MS} {K : Fl → S → Prop} (J : List α → Ev → S → Prop) : ∀ (xs pre : List α) (ρ : Ev) (s : S), J pre ρ s →
    (∀ pre' x rest ρ s, pre ++ xs = pre' ++ x :: rest → J pre' ρ s → wp (g (f x) ρ s) fun ρ1 s1 => wp (b ρ1 s1) (turnQ (J (pre' ++ [x])) (fun _ _ => False) (fun _ _ => False))) → (∀ ρ' s', J (pre ++ xs) ρ' s' → K (.nx ρ') s') → wp (lloop g b (xs.map f) ρ s) K
  | [], pre, ρ, s, hj, _, k => k ρ s (by simpa using hj)
  | x :: xs, pre, ρ, s, hj, ht, k => by
    simp only [List.map_cons]
    unfold lloop
    rw [wp_bnd]
    refine (ht pre x xs ρ s rfl hj).mono fun ρ1 s1 h1 => ?_
    rw [wp_bnd]
    refine h1.mono fun fl s2 h2 => ?_
    have more := fun ρ2 s2 (hj2 : J (pre ++ [x]) ρ2 s2) => wp_go J xs (pre ++ [x]) ρ2 s2 hj2 (fun pre' x' rest ρ s e h => ht pre' x' rest ρ s (by rw [← e]; simp) h) (fun ρ' s' h => k ρ' s' (by simpa using h))
    cases fl with
    | nx ρ2 => exact more ρ2 s2 h2
    | ct ρ2 => exact more ρ2 s2 h2
    | bk ρ2 => exact h2.elim
    | ret d => exact h2.elim
theorem wp_each {g : MG} {b : MS} {K : Fl → S → Prop} (J : List α → Ev → S → Prop) (xs : List α) (ρ : Ev) (s : S) (h0 : J [] ρ s)
    (ht : ∀ pre x rest ρ s, xs = pre ++ x :: rest → J pre ρ s → wp (g (f x) ρ s) fun ρ1 s1 => wp (b ρ1 s1) (turnQ (J (pre ++ [x])) (fun _ _ => False) (fun _ _ => False))) (k : ∀ ρ' s', J xs ρ' s' → K (.nx ρ') s') : wp (lloop g b (xs.map f) ρ s) K :=
  wp_go J xs [] ρ s h0 (fun pre' x rest ρ s e h => ht pre' x rest ρ s (by simpa using e) h) (fun ρ' s' h => k ρ' s' (by simpa using h))

/-! ### comprehensions by a function -/
/-- .. the store may grow -/
theorem llc_up {t : Tg} {el : ME} {ρw : Ev} {g : α → D} : ∀ (xs : List α) (acc : List D) (s : S), (∀ x ∈ xs, ∀ s', ∃ ρ1 u, tgM t (f x) ρw = some ρ1 ∧ el ρ1 (s ++ s') = .ok (g x) (s ++ s' ++ u)) → ∃ u, llc t mYes el ρw (xs.map f) acc s = .ok (acc ++ xs.map g) (s ++ u)
  | [], acc, s, _ => ⟨[], by simp [llc]⟩
  | x :: xs, acc, s, h => by
    obtain ⟨ρ1, u, h1, h2⟩ := h x (List.mem_cons_self ..) []
    rw [List.append_nil] at h2
    obtain ⟨v, ih⟩ := llc_up (t := t) (el := el) (ρw := ρw) (g := g) xs (acc ++ [g x]) (s ++ u) fun y hy s' => by
      have := h y (List.mem_cons_of_mem _ hy) (u ++ s')
      simpa [List.append_assoc] using this
    refine ⟨u ++ v, ?_⟩
    simp only [List.map_cons]
    unfold llc
    rw [h1]
    simp [h2, ih]
/-! several clauses -/
def lbgo (t : Tg) (tt : MT) (b : MB) (ρw : Ev) : List D → List D → S → R (List D)
  | [], acc, s => .ok acc s
  | d :: ds, acc, s => (match tgM t d ρw with
    | some ρ1 => (noX (tt ρ1 s)).bnd fun k s1 => if k = true then (noX (b ρ1 acc s1)).bnd fun acc' s2 => lbgo t tt b ρw ds acc' s2 else lbgo t tt b ρw ds acc s1
    | none => .bad)
def inF (t : Tg) (tt : MT) (b : MB) (vs : List Nat) (ρ : Ev) (acc : List D) : Src → S → R (List D) := fun src s1 => match srcAt s1 src with
  | some xs => if (∀ i ∈ t.slots, i ∈ vs) then bGo src t tt b (wipeD ρ vs) xs.length 0 acc s1 else .bad
  | none => .bad
@[simp] theorem mLcN_eq (fi it t tt b vs ρ s) : mLcN fi it t tt b vs ρ s = ((it ρ s).bnd (inF t tt b vs ρ [])).bnd fi := rfl
@[simp] theorem bIn_eq (it t tt b vs ρ acc s) : bIn it t tt b vs ρ acc s = (noX (it ρ s)).bnd (inF t tt b vs ρ acc) := rfl
end
end VL
namespace VL
open PySem PySem.Spec PyProof.Rows L2

/-! ### loops over a list that may be a changeable object -/
section
variable {α : Type} {f : α → D}
end
@[simp] theorem asX_lst (s xs) : asX s (.lst xs) = some xs := rfl
@[simp] theorem mExtend_eq (mo me ρ s) : mExtend mo me ρ s = (mo ρ s).bnd fun x s1 => if isLstO s1 x = true then (me ρ s1).bnd fun y s2 => fExtend x y s2 else .bad := rfl
theorem rngD_nD (n : Nat) : rngD 0 n = (List.range n).map nD := rngD_0 n
/-! ### all logs -/
def lev (m : Nat) : Nat → List (List Nat)
  | 0 => [[]]
  | n + 1 => (lev m n).flatMap fun l => (List.range m).map fun e => l ++ [e]
def fnd (m : Nat) : Nat → List (List Nat)
  | 0 => [[]]
  | n + 1 => fnd m n ++ lev m (n + 1)
def pairsL (m : Nat) : List (List Nat) := (List.range m).flatMap fun a => (List.range m).map fun b => [a, b]
def triplesL (m : Nat) : List (List Nat) := (List.range m).flatMap fun a => (List.range m).flatMap fun b => (List.range m).map fun c => [a, b, c]
end VL
namespace VL
open PySem PySem.Spec PyProof.Rows L2

/-! ### the forms of logs -/
def Sys.form (y : Sys) : List Nat → Bool
  | [a, b] => decide (y.kd a ≠ none ∧ y.kd a = y.kd b)
  | [a, b, c] => decide (y.kd a ≠ none ∧ y.kd a = y.kd c ∧ y.kd b ≠ y.kd a)
  | _ => false
end VL
namespace VL
open PySem PySem.Spec PyProof.Rows L2

def Sys.forms (y : Sys) : List (List Nat) := (pairsL y.ops.length ++ triplesL y.ops.length).filter y.form
/-! the innermost clause -/
section
variable {α : Type} {f : α → D}
end
end VL
namespace VL
open PySem PySem.Spec PyProof.Rows L2

/-! ### a state and a log -/
def find2 {α β : Type} (xs : List α) (ys : List β) (q : α → β → Bool) : Option (α × β) := xs.findSome? fun a => ys.findSome? fun b => if q a b = true then some (a, b) else none
def slD : Option (Nat × List Nat) → D
  | none => .non
  | some p => .tup [nD p.1, logD p.2]
def slO (p : Nat × List Nat) : D := .tup [nD p.1, logD p.2]
/-! faults of kinds -/
def Sys.bad (y : Sys) (st : Nat) (l : List Nat) : Bool := decide (y.run st l ≠ y.run st l.tail)
theorem opNe_nD (f : Bool → Bool) (a b : Nat) (s : S) : opEqF f (.int (a : Int)) (.int (b : Int)) s = .ok (.bl (f (decide (a = b)))) s := by
  rw [opEqF_int]
  congr 3
  by_cases e : a = b
  · subst e; simp
  · have : ¬ (a : Int) = b := by omega
    simp [e, this]
def Sys.fault (y : Sys) : Option (Nat × List Nat) := find2 y.reach y.forms y.bad
end VL
namespace VL
open PySem PySem.Spec PyProof.Rows L2

/-- a law that asks one def of its own at drawn systems -/
theorem law_A {c : Int} {n : Nat} {m : FM} {ns : List Int} (hc : 1 ≤ c ∧ c ≤ 100) (hn : n ≤ 100)
    (hR : ∀ (y : Sys) (p f : Nat) (s : S), y.Ok → Pen p (f + 100000) s → wp (m [.obj p, y.D] s) fun d s' => d = .bl true ∧ Pen p f s') :
    ∃ s', mFn 4 (mSeq (mFor (mRng1 (mCons (mCall fMax2 (mCons (mC (.int 1)) (mCons (mCall fMin2 (mCons (mCall fLen (mCons (mVar 0) mNil)) (mCons (mC (.int c)) mNil))) mNil))) mNil)) (gN 1)
      (mSeq (mAsg (mUser m__law_pen (mCons (mUser m__law_cell_at (mCons (mVar 0) (mCons (mVar 1) mNil))) mNil)) (gN 2))
      (mFor (mRng1 (mCons (mC (.int (n : Int))) mNil)) (gN 3)
      (mIfS (mNotT (mB (mUser m (mCons (mVar 2) (mCons (mUser m__law_system (mCons (mVar 2) mNil)) mNil)))))
      (mRet (mC (.bl false))) mSkip)))) (mRet (mC (.bl true)))) [.scr (ns.map D.int)] [] = .ok (.bl true) s' := by
  refine law_frame (N := 1) hc ?_
  intro k p s rest hr hp
  obtain ⟨x3, rfl⟩ : ∃ x3, rest = [x3] := by
    match rest, hr with
    | [x3], _ => exact ⟨_, rfl⟩
  simp only [mFor_eq, mRng1_bnd, mCons_eq, mC_eq, mNil_eq, R.bnd_ok]
  rw [rng1F_ok _ (by omega), rngD_nD]
  simp only [R.bnd_ok, forF_fix, Int.toNat_natCast]
  refine wp_each (f := nD) (fun pre ρ s => (∃ x3, ρ = [some (.scr (ns.map D.int)), some k, some (.obj p), x3]) ∧ Pen p ((n - pre.length) * 200000) s) _ _ _ ⟨⟨_, rfl⟩, hp.mono (by simp; omega)⟩ ?_ ?_
  · rintro pre x post ρ s he ⟨⟨x3, rfl⟩, hp⟩
    have hl : pre.length < n := by
      have := congrArg List.length he
      simp at this
      omega
    simp only [gN_eq, wp_ok, List.set_cons_succ, List.set_cons_zero, mIfS_eq, mNotT_eq, mB_eq, mUser_eq, mCons_eq, mNil_eq, mVar_eq, get_0, List.getElem?_cons_succ, vg_some, R.bnd_ok, wp_bnd, wp_asB, wp_retag]
    refine (wp_system (f := (n - (pre.length + 1)) * 200000 + 100000) (hp.mono (by omega))).mono ?_
    rintro d s1 ⟨y, hy, rfl, hp1, hf1⟩
    refine (hR y p ((n - (pre.length + 1)) * 200000) s1 hy hp1).mono ?_
    rintro d s2 ⟨rfl, hp2⟩
    simp only [bQ_bl, Bool.not_true, Bool.false_eq_true, if_false, mSkip_eq, wp_ok, turnQ_nx]
    exact ⟨⟨_, rfl⟩, hp2.mono (by simp)⟩
  · rintro ρ s ⟨⟨x3, rfl⟩, _⟩
    exact ⟨_, by simp, rfl⟩
end VL
namespace VL
open PySem PySem.Spec PyProof.Rows L2

end VL
namespace VL
open PySem PySem.Spec PyProof.Rows L2

/-! ### repeats -/
def Sys.rlogs (y : Sys) : List (List Nat) := ((List.range y.ops.length).map fun a => [a, a]) ++ (List.range y.ops.length).flatMap fun a => ((List.range y.ops.length).filter fun b => decide (a ≠ b)).map fun b => [a, b, a]
def Sys.badL (y : Sys) (st : Nat) (l : List Nat) : Bool := decide (y.run st l ≠ y.run st l.dropLast)
def Sys.rfault (y : Sys) : Option (Nat × List Nat) := find2 y.reach y.rlogs y.badL
end VL
namespace VL
open PySem PySem.Spec PyProof.Rows L2

section
variable {α : Type} {f : α → D}
end
/-! ### pairs -/
/-! ### orders -/
def upL (a m : Nat) : List Nat := (List.range (m - (a + 1))).map fun k => a + 1 + k
theorem rng_up (a m : Nat) : rngD ((a : Int) + 1) ((m : Int) - ((a : Int) + 1)).toNat = (upL a m).map nD := by
  have e : ((m : Int) - ((a : Int) + 1)).toNat = m - (a + 1) := by omega
  rw [e]
  unfold rngD upL
  rw [List.map_map]
  refine List.map_congr_left fun k _ => ?_
  simp only [Function.comp]
  congr 1
theorem upL_mem {a m b : Nat} : b ∈ upL a m ↔ a < b ∧ b < m := by
  unfold upL
  rw [List.mem_map]
  constructor
  · rintro ⟨k, hk, rfl⟩
    have := List.mem_range.1 hk
    omega
  · rintro ⟨h1, h2⟩
    exact ⟨b - (a + 1), List.mem_range.2 (by omega), by omega⟩
def Sys.swp (y : Sys) (st a b : Nat) : Bool := decide (y.run st [a, b] ≠ y.run st [b, a])
def Sys.ofault (y : Sys) : Option (Nat × Nat × Nat) := y.reach.findSome? fun st => (List.range y.ops.length).findSome? fun a => (upL a y.ops.length).findSome? fun b => if y.swp st a b = true then some (st, a, b) else none
def sabO (p : Nat × Nat × Nat) : D := .tup [nD p.1, nD p.2.1, nD p.2.2]
def sabD : Option (Nat × Nat × Nat) → D
  | none => .non
  | some p => sabO p
theorem sabD_get (o : Option (Nat × Nat × Nat)) : sabD o = (o.map sabO).getD .non := by cases o <;> rfl
theorem ofault_map (y : Sys) : (y.reach.findSome? fun st => (List.range y.ops.length).findSome? fun a => (upL a y.ops.length).findSome? fun b => if y.swp st a b = true then some (sabO (st, a, b)) else none) = y.ofault.map sabO := by
  unfold Sys.ofault
  rw [List.map_findSome?]
  congr 1
  funext st
  simp only [Function.comp]
  rw [List.map_findSome?]
  congr 1
  funext a
  simp only [Function.comp]
  rw [List.map_findSome?]
  congr 1
  funext b
  simp only [Function.comp]
  split <;> rfl
theorem ofault_some {y : Sys} {st a b : Nat} (h : y.ofault = some (st, a, b)) : st ∈ y.reach ∧ a < b ∧ b < y.ops.length ∧ y.run st [a, b] ≠ y.run st [b, a] := by
  unfold Sys.ofault at h
  obtain ⟨st', h1, h⟩ := List.exists_of_findSome?_eq_some h
  obtain ⟨a', h2, h⟩ := List.exists_of_findSome?_eq_some h
  obtain ⟨b', h3, h⟩ := List.exists_of_findSome?_eq_some h
  split at h
  · rename_i hs
    cases h
    obtain ⟨h4, h5⟩ := upL_mem.1 h3
    exact ⟨h1, h4, h5, by simpa [Sys.swp] using hs⟩
  · cases h
theorem ofault_none {y : Sys} : y.ofault = none ↔ ∀ st ∈ y.reach, ∀ a b, a < b → b < y.ops.length → y.run st [a, b] = y.run st [b, a] := by
  unfold Sys.ofault
  rw [List.findSome?_eq_none_iff]
  constructor
  · intro h st hst a b hab hb
    have h2 := List.findSome?_eq_none_iff.1 (h st hst) a (List.mem_range.2 (by omega))
    have h3 := List.findSome?_eq_none_iff.1 h2 b (upL_mem.2 ⟨hab, hb⟩)
    by_cases e : y.run st [a, b] = y.run st [b, a]
    · exact e
    · have : y.swp st a b = true := by simp [Sys.swp, e]
      rw [if_pos this] at h3
      cases h3
  · intro h st hst
    rw [List.findSome?_eq_none_iff]
    intro a ha
    rw [List.findSome?_eq_none_iff]
    intro b hb
    obtain ⟨h4, h5⟩ := upL_mem.1 hb
    have := h st hst a b h4 h5
    simp [Sys.swp, this]
theorem run2_ok {y : Sys} (h : y.Ok) {st a b : Nat} (hs : st < y.many) (ha : a < y.ops.length) (hb : b < y.ops.length) (s : S) : m_run_from [y.D, nD st, .tup [nD a, nD b]] s = .ok (nD (y.run st [a, b])) s :=
  run_from_ok h hs (l := [a, b]) (by simp [ha, hb]) s
theorem order_of_ok {y : Sys} (h : y.Ok) (s : S) : wp (m_order_of [y.D] s) fun d s' => d = sabD y.ofault ∧ ∃ t, s' = s ++ t := by
  have h6 := h.o6
  unfold m_order_of
  rw [mFn_eq]
  simp only [wp_fin, initE, List.length_cons, List.length_nil, Nat.reduceAdd, Nat.reduceSub, List.map_cons, List.map_nil, List.replicate_succ, List.replicate_zero, List.cons_append, List.nil_append, mSeq_eq, mAsg_eq, mCall_eq, mCons_eq, mBin_eq, mVar_eq, get_0, vg_some, R.bnd_ok, mC_eq, ix_ops, mNil_eq, fLen_tup, List.length_map, gN_eq, List.set_cons_succ, List.set_cons_zero, seqF_nx, mFor_eq, mSrc_eq, mUser_eq, reached_eq h, retag_ok]
  simp only [logD, srcF_tup, R.bnd_ok, forF_fix, wp_bnd]
  refine wp_find (f := nD) (fun ρ s' => (∃ x2 x3 x4, ρ = [some y.D, some (.int (y.ops.length : Int)), x2, x3, x4]) ∧ ∃ t, s' = s ++ t) (fun s' => ∃ t, s' = s ++ t) (fun st => (List.range y.ops.length).findSome? fun a => (upL a y.ops.length).findSome? fun b => if y.swp st a b = true then some (sabO (st, a, b)) else none) _ _ _ ⟨⟨_, _, _, rfl⟩, _, rfl⟩ ?_ ?_ ?_
  · rintro st hst ρ s' ⟨⟨x2, x3, x4, rfl⟩, t, rfl⟩
    have hs := reach_lt h hst
    simp only [gN_eq, wp_ok, List.set_cons_succ, List.set_cons_zero, mFor_eq, mRng1_bnd, mCons_eq, mVar_eq, get_0, List.getElem?_cons_succ, vg_some, R.bnd_ok, mNil_eq]
    rw [rng1F_ok _ (by omega), rngD_nD]
    simp only [Int.toNat_natCast, R.bnd_ok, forF_fix]
    refine wp_find (f := nD) (fun ρ s' => (∃ x3 x4, ρ = [some y.D, some (.int (y.ops.length : Int)), some (nD st), x3, x4]) ∧ ∃ t, s' = s ++ t) (fun s' => ∃ t, s' = s ++ t) (fun a => (upL a y.ops.length).findSome? fun b => if y.swp st a b = true then some (sabO (st, a, b)) else none) _ _ _ ⟨⟨_, _, rfl⟩, _, rfl⟩ ?_ ?_ ?_
    · rintro a ha ρ s' ⟨⟨x3, x4, rfl⟩, t, rfl⟩
      have ha' := List.mem_range.1 ha
      simp only [gN_eq, wp_ok, List.set_cons_succ, List.set_cons_zero, mFor_eq, mRng2_bnd, mCons_eq, mBin_eq, mVar_eq, get_0, List.getElem?_cons_succ, vg_some, R.bnd_ok, mC_eq, opAdd_int, mNil_eq]
      rw [rng2F_ok _ (by omega), rng_up]
      simp only [R.bnd_ok, forF_fix]
      refine wp_find (f := nD) (fun ρ s' => (∃ x4, ρ = [some y.D, some (.int (y.ops.length : Int)), some (nD st), some (nD a), x4]) ∧ ∃ t, s' = s ++ t) (fun s' => ∃ t, s' = s ++ t) (fun b => if y.swp st a b = true then some (sabO (st, a, b)) else none) _ _ _ ⟨⟨_, rfl⟩, _, rfl⟩ ?_ ?_ ?_
      · rintro b hb ρ s' ⟨⟨x4, rfl⟩, t, rfl⟩
        obtain ⟨hb1, hb2⟩ := upL_mem.1 hb
        simp only [gN_eq, wp_ok, List.set_cons_succ, List.set_cons_zero, mIfS_eq, mB_eq, mBin_eq, mUser_eq, mCons_eq, mVar_eq, get_0, List.getElem?_cons_succ, vg_some, R.bnd_ok, mTup_eq, mNil_eq, List.length_cons, List.length_nil, Nat.reduceAdd, LIM_eq, Nat.reduceLeDiff, if_true, run2_ok h hs ha' hb2, run2_ok h hs hb2 ha', retag_ok, opNe_nD, asB_ok]
        by_cases hsw : y.swp st a b = true
        · have hb2 : ¬ y.run st [a, b] = y.run st [b, a] := by simpa [Sys.swp] using hsw
          simp [hsw, hb2, sabO]
        · have hb2 : y.run st [a, b] = y.run st [b, a] := by simpa [Sys.swp] using hsw
          simp [hsw, hb2]
      · intro r s' e hi
        simp only [e, findQ_some]
        exact ⟨trivial, hi⟩
      · rintro ρ' s' e ⟨⟨x4, rfl⟩, hi⟩
        simp only [e, findQ_nx]
        exact ⟨⟨_, _, rfl⟩, hi⟩
    · intro r s' e hi
      simp only [e, findQ_some]
      exact ⟨trivial, hi⟩
    · rintro ρ' s' e ⟨⟨x3, x4, rfl⟩, hi⟩
      simp only [e, findQ_nx]
      exact ⟨⟨_, _, _, rfl⟩, hi⟩
  · intro r s' e hi
    rw [ofault_map] at e
    simp only [seqF_ret, wp_ok, endQ_ret]
    refine ⟨?_, hi⟩
    rw [sabD_get, e]
    rfl
  · rintro ρ' s' e ⟨⟨x2, x3, x4, rfl⟩, hi⟩
    rw [ofault_map] at e
    simp only [seqF_nx, mRet_eq, mC_eq, R.bnd_ok, wp_ok, endQ_ret]
    refine ⟨?_, hi⟩
    rw [sabD_get, e]
    rfl
theorem order_of_eq {y : Sys} (h : y.Ok) (s : S) : m_order_of [y.D] s = .ok (sabD y.ofault) (s ++ gar m_order_of [y.D] s) := eq_gar (order_of_ok h s)
theorem order_fault_ok {y : Sys} (h : y.Ok) (s : S) : m_order_fault [y.D] s = .ok (sabD y.ofault) (s ++ gar m_order_of [y.D] s) := by
  unfold m_order_fault
  rw [mFn_eq]
  simp [initE, need_system_ok h, order_of_eq h]
theorem first_apart_eq {y : Sys} (hy : y.Ok) {a b : List Nat} (ha : ∀ x ∈ a, x < y.ops.length) (hb : ∀ x ∈ b, x < y.ops.length) (s : S) : m_first_apart [y.D, logD a, logD b] s = .ok (kD (y.apart a b)) (s ++ gar m_first_apart [y.D, logD a, logD b] s) := eq_gar (first_apart_ok hy ha hb s)
/-- all calm -/
def Sys.calm (y : Sys) : Bool := (List.range y.ops.length).all fun n => decide (y.apart [n, n] [n] = none)
def Sys.bySet (y : Sys) : Bool := decide (y.ofault = none) && y.calm
theorem by_set_ok {y : Sys} (h : y.Ok) (s : S) : wp (m_by_set [y.D] s) fun d s' => d = .bl y.bySet ∧ ∃ t, s' = s ++ t := by
  have h6 := h.o6
  unfold m_by_set
  rw [mFn_eq]
  simp only [wp_fin, initE, List.length_cons, List.length_nil, Nat.reduceAdd, Nat.reduceSub, List.map_cons, List.map_nil, List.replicate_succ, List.replicate_zero, List.cons_append, List.nil_append, mSeq_eq, mDrop_eq, mUser_eq, mCons_eq, mVar_eq, get_0, vg_some, R.bnd_ok, mNil_eq, need_system_ok h, retag_ok, seqF_nx, mIfS_eq, mB_eq, mBin_eq, order_of_eq h, mC_eq, opNotN_eq, asB_ok]
  cases ho : y.ofault with
  | some p =>
    have e : y.bySet = false := by simp [Sys.bySet, ho]
    rw [e]
    simp [sabD, sabO]
  | none =>
    have e : y.bySet = y.calm := by simp [Sys.bySet, ho]
    rw [e]
    simp only [sabD, isNonD_non, Bool.not_true, Bool.false_eq_true, if_false, mSkip_eq, R.bnd_ok, seqF_nx, mRet_eq, mCall_eq, mCons_eq, mNil_eq, mLcF_eq, mRng1_bnd, mBin_eq, mVar_eq, get_0, vg_some, mC_eq, ix_ops, fLen_tup, List.length_map]
    rw [rng1F_ok _ (by omega), rngD_nD]
    simp only [Int.toNat_natCast, R.bnd_ok]
    rw [lcF_fix (by simp; omega) rfl]
    obtain ⟨u, hu⟩ := llc_up (f := nD) (t := .one 1) (el := mBin opIsN (mUser m_first_apart (mCons (mVar 0) (mCons (mTup (mCons (mVar 1) (mCons (mVar 1) mNil))) (mCons (mTup (mCons (mVar 1) mNil)) mNil)))) (mC .non)) (ρw := wipeD [some y.D, none] [1]) (g := fun n => .bl (decide (y.apart [n, n] [n] = none))) (List.range y.ops.length) [] (s ++ gar m_order_of [y.D] s)
      fun n hn s' => ⟨_, _, rfl, by
        have hn' := List.mem_range.1 hn
        have fa := fun s => first_apart_eq h (a := [n, n]) (b := [n]) (by simp [hn']) (by simp [hn']) s
        simp only [logD, List.map_cons, List.map_nil] at fa
        simp [fa, kD_non]
        rfl⟩
    rw [hu]
    simp only [R.bnd_ok, finL_eq, List.nil_append]
    rw [show (List.range y.ops.length).map (fun n => D.bl (decide (y.apart [n, n] [n] = none))) = ((List.range y.ops.length).map fun n => decide (y.apart [n, n] [n] = none)).map D.bl by simp, fAll_lst]
    simp only [R.bnd_ok, wp_ok, endQ_ret]
    refine ⟨?_, _, List.append_assoc ..⟩
    congr 1
    rw [List.all_map]
    rfl
theorem by_set_eq {y : Sys} (h : y.Ok) (s : S) : m_by_set [y.D] s = .ok (.bl y.bySet) (s ++ gar m_by_set [y.D] s) := eq_gar (by_set_ok h s)
end VL
namespace VL
open PySem PySem.Spec PyProof.Rows L2

/-! ### reachable states: closed under steps, their paths lead there -/
theorem step_eq {y : Sys} {k : Nat} {o : List Nat} (h : y.ops[k]? = some o) (st : Nat) : y.step st k = o.getD st 0 := by
  unfold Sys.step
  rw [List.getD_eq_getElem?_getD (l := y.ops), h, Option.getD_some]
theorem run_snoc (y : Sys) (st : Nat) (l : List Nat) (e : Nat) : y.run st (l ++ [e]) = y.step (y.run st l) e := by simp [Sys.run]
theorem run_app (y : Sys) (st : Nat) (l r : List Nat) : y.run st (l ++ r) = y.run (y.run st l) r := by simp [Sys.run]
theorem run_cons (y : Sys) (st e : Nat) (l : List Nat) : y.run st (e :: l) = y.run (y.step st e) l := rfl
def PathOk (y : Sys) (f : Fnd) : Prop := ∀ p ∈ f, y.run y.start p.2 = p.1
theorem PathOk.visit {y : Sys} {f : Fnd} (h : PathOk y f) {a : Nat × List Nat} (ha : a ∈ f) {k : Nat} {o : List Nat} (ho : y.ops[k]? = some o) : PathOk y (visit a k o f) := by
  unfold VL.visit
  split
  · exact h
  · intro p hp
    rcases List.mem_append.1 hp with hp | hp
    · exact h p hp
    · rw [List.mem_singleton] at hp
      subst hp
      simp only [run_snoc, h a ha, step_eq ho]
theorem PathOk.row {y : Sys} {a : Nat × List Nat} : ∀ (os pre : List (List Nat)) {f : Fnd}, y.ops = pre ++ os → PathOk y f → a ∈ f → PathOk y (rowFrom a pre.length os f)
  | [], pre, f, _, h, _ => h
  | o :: os, pre, f, e, h, ha => by
    have h1 := h.visit ha (k := pre.length) (o := o) (by rw [e]; simp)
    have := PathOk.row os (pre ++ [o]) (by rw [e]; simp) h1 (visit_mem ha)
    simpa [rowFrom] using this
theorem PathOk.bfs {y : Sys} : ∀ (n at' : Nat) {f : Fnd}, PathOk y f → PathOk y (y.bfs n at' f)
  | 0, _, _, h => h
  | n + 1, at', f, h => by
    unfold Sys.bfs
    split
    · rename_i hl
      have hm : f.getD at' (0, []) ∈ f := by
        rw [List.getD_eq_getElem?_getD, List.getElem?_eq_getElem hl, Option.getD_some]
        exact List.getElem_mem _
      exact PathOk.bfs n (at' + 1) (PathOk.row y.ops [] rfl h hm)
    · exact h
theorem paths_run {y : Sys} : PathOk y y.paths := PathOk.bfs _ _ fun p hp => by
  rw [List.mem_singleton] at hp
  subst hp
  rfl
theorem row_pre {a : Nat × List Nat} : ∀ (os : List (List Nat)) (k : Nat) (f : Fnd), ∃ t, rowFrom a k os f = f ++ t
  | [], _, f => ⟨[], by simp [rowFrom]⟩
  | o :: os, k, f => by
    obtain ⟨t1, h1⟩ := visit_pre (a := a) (k := k) (o := o) (f := f)
    obtain ⟨t2, h2⟩ := row_pre (a := a) os (k + 1) (visit a k o f)
    exact ⟨t1 ++ t2, by rw [rowFrom, h2, h1, List.append_assoc]⟩
theorem visit_has (a : Nat × List Nat) (k : Nat) (o : List Nat) (f : Fnd) : o.getD a.1 0 ∈ (visit a k o f).map (·.1) := by
  unfold visit
  split
  · assumption
  · simp
theorem row_has {a : Nat × List Nat} : ∀ (os : List (List Nat)) (k : Nat) (f : Fnd) (o : List Nat), o ∈ os → o.getD a.1 0 ∈ (rowFrom a k os f).map (·.1)
  | o :: os, k, f, o', h => by
    rcases List.mem_cons.1 h with rfl | h
    · obtain ⟨t, ht⟩ := row_pre (a := a) os (k + 1) (visit a k o' f)
      rw [rowFrom, ht, List.map_append]
      exact List.mem_append_left _ (visit_has ..)
    · rw [rowFrom]
      exact row_has os (k + 1) _ o' h
/-- the first ones are done -/
def Done (y : Sys) (at' : Nat) (f : Fnd) : Prop := ∀ i, i < at' → ∀ p, f[i]? = some p → ∀ o ∈ y.ops, o.getD p.1 0 ∈ f.map (·.1)
theorem bfs_done {y : Sys} (hy : y.Ok) : ∀ (n at' : Nat) (f : Fnd), FOk y f → at' ≤ f.length → Done y at' f → y.many + 1 ≤ n + at' → Done y (y.bfs n at' f).length (y.bfs n at' f)
  | 0, at', f, hf, h1, h2, h3 => by
    have := hf.len
    omega
  | n + 1, at', f, hf, h1, h2, h3 => by
    unfold Sys.bfs
    split
    · rename_i hl
      have hm : f.getD at' (0, []) ∈ f := by
        rw [List.getD_eq_getElem?_getD, List.getElem?_eq_getElem hl, Option.getD_some]
        exact List.getElem_mem _
      obtain ⟨t, ht⟩ := row_pre (a := f.getD at' (0, [])) y.ops 0 f
      refine bfs_done hy n (at' + 1) _ (FOk.row hy y.ops [] rfl hf hm) (by rw [ht, List.length_append]; omega) ?_ (by omega)
      intro i hi p hp o ho
      by_cases e : i = at'
      · subst e
        have : p = f.getD i (0, []) := by
          rw [ht, List.getElem?_append_left hl] at hp
          rw [List.getD_eq_getElem?_getD, hp, Option.getD_some]
        subst this
        exact row_has y.ops 0 f o ho
      · rw [ht, List.getElem?_append_left (by omega)] at hp
        have := h2 i (by omega) p hp o ho
        rw [ht, List.map_append]
        exact List.mem_append_left _ this
    · intro i hi p hp o ho
      exact h2 i (by omega) p hp o ho
theorem reach_iff {y : Sys} {st : Nat} : st ∈ y.reach ↔ ∃ l, (st, l) ∈ y.paths := by
  unfold Sys.reach
  rw [srt_mem]
  unfold Sys.states
  rw [List.mem_map]
  constructor
  · rintro ⟨⟨a, l⟩, h, rfl⟩
    exact ⟨l, h⟩
  · rintro ⟨l, h⟩
    exact ⟨_, h, rfl⟩
theorem bfs_pre {y : Sys} : ∀ (n at' : Nat) (f : Fnd), ∃ t, y.bfs n at' f = f ++ t
  | 0, _, f => ⟨[], by simp [Sys.bfs]⟩
  | n + 1, at', f => by
    unfold Sys.bfs
    split
    · obtain ⟨t1, h1⟩ := row_pre (a := f.getD at' (0, [])) y.ops 0 f
      obtain ⟨t2, h2⟩ := bfs_pre (y := y) n (at' + 1) (rowFrom (f.getD at' (0, [])) 0 y.ops f)
      exact ⟨t1 ++ t2, by rw [h2, h1, List.append_assoc]⟩
    · exact ⟨[], by simp⟩
theorem reach_start (y : Sys) : y.start ∈ y.reach := by
  obtain ⟨t, ht⟩ := bfs_pre (y := y) 2000 0 [(y.start, [])]
  exact reach_iff.2 ⟨[], by unfold Sys.paths; rw [ht]; simp⟩
theorem reach_step {y : Sys} (hy : y.Ok) {st e : Nat} (h : st ∈ y.reach) (he : e < y.ops.length) : y.step st e ∈ y.reach := by
  obtain ⟨l, hl⟩ := reach_iff.1 h
  have hd : Done y y.paths.length y.paths := bfs_done hy 2000 0 _ (FOk.start hy) (by simp) (fun i hi => absurd hi (by omega)) (by have := hy.m6; omega)
  obtain ⟨i, hi, e1⟩ := List.getElem_of_mem hl
  have := hd i hi (st, l) (by rw [List.getElem?_eq_getElem hi, e1]) y.ops[e] (List.getElem_mem he)
  rw [step_eq (List.getElem?_eq_getElem he)]
  unfold Sys.reach
  rw [srt_mem]
  exact this
/-! ### compacting with right kinds -/
/-- the kinds are right -/
structure Right (y : Sys) : Prop where
  two : ∀ st ∈ y.reach, ∀ a c, a < y.ops.length → c < y.ops.length → y.kd a ≠ none → y.kd a = y.kd c → y.run st [a, c] = y.run st [c]
  three : ∀ st ∈ y.reach, ∀ a b c, a < y.ops.length → b < y.ops.length → c < y.ops.length → y.kd a ≠ none → y.kd a = y.kd c → y.run st [a, b, c] = y.run st [b, c]
/-- alike for a kind -/
def Alike (y : Sys) (k u v : Nat) : Prop := ∀ c, c < y.ops.length → y.kd c = y.kd k → y.step u c = y.step v c
theorem Alike.step {y : Sys} (hy : y.Ok) (R : Right y) {k u v b : Nat} (hk : k < y.ops.length) (hk1 : y.kd k ≠ none) (hu : u ∈ y.reach) (hv : v ∈ y.reach) (hb : b < y.ops.length) (h : Alike y k u v) : Alike y k (y.step u b) (y.step v b) := fun c hc e => by
  have e0 := h k hk rfl
  have e1 := R.three u hu k b c hk hb hc hk1 e.symm
  have e2 := R.three v hv k b c hk hb hc hk1 e.symm
  show y.run u [b, c] = y.run v [b, c]
  rw [← e1, ← e2]
  show y.step (y.step (y.step u k) b) c = y.step (y.step (y.step v k) b) c
  rw [e0]
theorem Alike.run {y : Sys} (hy : y.Ok) (R : Right y) {k : Nat} (hk : k < y.ops.length) (hk1 : y.kd k ≠ none) : ∀ {w : List Nat} {u v : Nat}, (∀ x ∈ w, x < y.ops.length) → u ∈ y.reach → v ∈ y.reach → Alike y k u v → Alike y k (y.run u w) (y.run v w)
  | [], _, _, _, _, _, h => h
  | b :: w, u, v, hx, hu, hv, h => by
    have hb := hx b (List.mem_cons_self ..)
    exact Alike.run hy R hk hk1 (w := w) (fun x hx2 => hx x (List.mem_cons_of_mem _ hx2)) (reach_step hy hu hb) (reach_step hy hv hb) (h.step hy R hk hk1 hu hv hb)
/-- what changed tells -/
def Sys.pathTo (y : Sys) (st : Nat) : List Nat := ((y.paths.find? fun p => decide (p.1 = st)).map (·.2)).getD []
theorem pathTo_mem {y : Sys} {st : Nat} (h : st ∈ y.reach) : (st, y.pathTo st) ∈ y.paths := by
  obtain ⟨l, hl⟩ := reach_iff.1 h
  unfold Sys.pathTo
  cases hf : y.paths.find? fun p => decide (p.1 = st) with
  | none =>
    have := List.find?_eq_none.1 hf _ hl
    simp at this
  | some p =>
    have h1 := List.mem_of_find?_eq_some hf
    have h2 := List.find?_some hf
    simp only [decide_eq_true_eq] at h2
    subst h2
    exact h1
theorem pathTo_run {y : Sys} {st : Nat} (h : st ∈ y.reach) : y.run y.start (y.pathTo st) = st := paths_run _ (pathTo_mem h)
theorem pathTo_lt {y : Sys} (hy : y.Ok) {st : Nat} (h : st ∈ y.reach) : ∀ x ∈ y.pathTo st, x < y.ops.length := (paths_ok hy).lg _ (pathTo_mem h)
theorem pathTo_len {y : Sys} (hy : y.Ok) {st : Nat} (h : st ∈ y.reach) : (y.pathTo st).length < 6 := by
  have h1 : (y.pathTo st).length < y.paths.length := (paths_ok hy).ll _ (pathTo_mem h)
  have h2 := (paths_ok hy).len
  have := hy.m6
  omega
def Sys.chg (y : Sys) (l : List Nat) : Bool := decide (y.run y.start l ≠ y.run y.start (y.cmp l))
def Sys.changed (y : Sys) : Option (List Nat) := y.fault.map fun p => if y.chg (y.pathTo p.1 ++ p.2) = true then y.pathTo p.1 ++ p.2 else y.pathTo p.1 ++ p.2.tail
end VL
namespace VL
open PySem PySem.Spec PyProof.Rows L2

theorem paths_of_eq {y : Sys} (hy : y.Ok) (s : S) : m_paths_of [y.D] s = .ok (.obj s.length) (s ++ [.dct (y.paths.map kvD), .lst (y.states.map nD)]) := by
  obtain ⟨d, s', e, rfl, rfl⟩ := (paths_of_ok hy s).ok
  exact e
theorem paths_ix {y : Sys} (hy : y.Ok) {st : Nat} (h : st ∈ y.reach) (s t : S) : opIxU (.obj s.length) (nD st) (s ++ [.dct (y.paths.map kvD), .lst (y.states.map nD)] ++ t) = .ok (logD (y.pathTo st)) (s ++ [.dct (y.paths.map kvD), .lst (y.states.map nD)] ++ t) := by
  have g : (s ++ [O.dct (y.paths.map kvD), .lst (y.states.map nD)] ++ t)[s.length]? = some (.dct (y.paths.map kvD)) := by simp
  unfold opIxU dgetD
  simp only [g]
  rw [show (keyD (nD st)).map (look keyD (y.paths.map kvD)) = some (look keyD (y.paths.map kvD) (Sum.inl (st : Int))) from rfl, show look keyD (y.paths.map kvD) (Sum.inl (st : Int)) = some (logD (y.pathTo st)) from look_some (y := y) (paths_ok hy).nd (pathTo_mem h)]
def lD : Option (List Nat) → D
  | none => .non
  | some l => logD l
/-! path -/
end VL
namespace VL
open PySem PySem.Spec PyProof.Rows L2

theorem opEq_ones (f : Bool → Bool) (n : Nat) (s : S) : opEqF f (.lst (List.replicate n (.int 1))) (.lst []) s = .ok (.bl (f (decide (n = 0)))) s := by
  have e : List.replicate n (D.int 1) = (List.replicate n (1 : Int)).map D.int := by simp
  rw [opEqF_py (p := .list ((List.replicate n (1 : Int)).map PyData.int)) (q := .list []) s (by rw [e]; simp only [toPyS, toPy, toPys_ints, Option.map_some]) rfl (shaped_ints _) rfl rfl]
  congr 3
  cases n <;> simp [List.replicate_succ, PyData.eqv, PyData.eqvAll]
theorem filt_ones {α : Type} (p : α → Bool) (xs : List α) : (xs.filter p).map (fun _ => D.int 1) = List.replicate (xs.filter p).length (.int 1) := by
  generalize xs.filter p = l
  induction l with
  | nil => rfl
  | cons a l ih => simp [List.replicate_succ, ih]
end VL
namespace VL
open PySem PySem.Spec PyProof.Rows L2
end VL
namespace VL
open PySem PySem.Spec PyProof.Rows L2

/-! ### == of logs -/
def pyL (l : List Nat) : List PyData := l.map fun (n : Nat) => PyData.int (n : Int)
theorem toPys_log : ∀ l : List Nat, toPys (l.map nD) = some (pyL l)
  | [] => rfl
  | n :: l => by simp [toPys, toPy, toPys_log l, pyL]
theorem toPy_log (l : List Nat) : toPy (logD l) = some (.tuple (pyL l)) := by simp [logD, toPy, toPys_log]
theorem lay_log : ∀ l : List Nat, PyData.canLayAll0 (pyL l) = true ∧ PyData.depthAll (pyL l) = 0
  | [] => ⟨rfl, rfl⟩
  | n :: l => by
    obtain ⟨h1, h2⟩ := lay_log l
    unfold pyL at h1 h2 ⊢
    simp [PyData.canLayAll0, PyData.canLay0, PyData.depthAll, PyData.depth, h1, h2]
theorem shaped_log (l : List Nat) : SeqAt.shaped (.tuple (pyL l)) = true ∧ SeqAt.shaped (.list (pyL l)) = true := by
  obtain ⟨h1, h2⟩ := lay_log l
  simp [SeqAt.shaped, PyData.canLay0, PyData.depth, h1, h2]
theorem eqv_log : ∀ a b : List Nat, PyData.eqvAll (pyL a) (pyL b) = decide (a = b)
  | [], [] => rfl
  | [], _ :: _ => rfl
  | _ :: _, [] => rfl
  | a :: as, b :: bs => by
    have ih := eqv_log as bs
    unfold pyL at ih ⊢
    simp only [List.map_cons, PyData.eqvAll, PyData.eqv, ih]
    by_cases h : a = b
    · subst h; simp
    · have : ¬ (a : Int) = b := by omega
      simp [h, this]
theorem opEq_log (f : Bool → Bool) (a b : List Nat) (s : S) : opEqF f (logD a) (logD b) s = .ok (.bl (f (decide (a = b)))) s := by
  rw [opEqF_py (p := .tuple (pyL a)) (q := .tuple (pyL b)) s (show toPyS s (logD a) = _ from toPy_log a) (show toPyS s (logD b) = _ from toPy_log b) (shaped_log a).1 (shaped_log b).1 rfl]
  show R.ok (D.bl (f (PyData.eqvAll (pyL a) (pyL b)))) s = _
  rw [eqv_log]
/-! ### what is asked of states and logs -/
/-! path -/
theorem paths_notin {y : Sys} {st : Nat} (h : st ∈ y.reach) (s : S) : opNotInD (nD st) (.obj s.length) (s ++ [.dct (y.paths.map kvD), .lst (y.states.map nD)]) = .ok (.bl false) (s ++ [.dct (y.paths.map kvD), .lst (y.states.map nD)]) := by
  show opInU (fun b => !b) _ _ _ = _
  unfold opInU dgetD
  simp only [get2a]
  show R.ok (D.bl (!(look keyD (y.paths.map kvD) (Sum.inl (st : Int))).isSome)) _ = _
  rw [look_none]
  obtain ⟨l, hl⟩ := reach_iff.1 h
  rw [decide_eq_true (List.mem_map_of_mem (f := (·.1)) hl)]
  rfl
theorem path_ok {y : Sys} (h : y.Ok) {st : Nat} (hs : st ∈ y.reach) (s : S) : m_path [y.D, nD st] s = .ok (logD (y.pathTo st)) (s ++ [.dct (y.paths.map kvD), .lst (y.states.map nD)]) := by
  unfold m_path
  rw [mFn_eq]
  have px := paths_ix h hs s []
  rw [List.append_nil] at px
  have pn := paths_notin hs s
  simp only [nD] at px pn
  simp only [initE, List.length_cons, List.length_nil, Nat.reduceAdd, Nat.reduceSub, List.map_cons, List.map_nil, List.replicate_succ, List.replicate_zero, List.cons_append, List.nil_append, mSeq_eq, mDrop_eq, mUser_eq, mCons_eq, mVar_eq, get_0, List.getElem?_cons_succ, vg_some, R.bnd_ok, mNil_eq, need_system_ok h, retag_ok, seqF_nx, mAsg_eq, paths_of_eq h, gN_eq, List.set_cons_succ, List.set_cons_zero, mIfS_eq, mOrT_eq, mNotT_eq, mB_eq, is_whole_int, asB_ok, Bool.not_true, Bool.false_eq_true, if_false, mBin_eq, pn, mSkip_eq, mRet_eq, px, fin_ret]
end VL
namespace VL
open PySem PySem.Spec PyProof.Rows L2
/-! ### sorting that computes -/
def ins (x : Nat) : List Nat → List Nat
  | [] => [x]
  | y :: l => if x ≤ y then x :: y :: l else y :: ins x l
def isrt : List Nat → List Nat
  | [] => []
  | x :: l => ins x (isrt l)
theorem ins_perm (x : Nat) : ∀ l : List Nat, (ins x l).Perm (x :: l)
  | [] => .refl _
  | y :: l => by
    unfold ins
    split
    · exact .refl _
    · exact ((ins_perm x l).cons y).trans (.swap ..)
theorem isrt_perm : ∀ l : List Nat, (isrt l).Perm l
  | [] => .refl _
  | x :: l => (ins_perm x _).trans ((isrt_perm l).cons x)
theorem ins_pw (x : Nat) : ∀ l : List Nat, l.Pairwise (· ≤ ·) → (ins x l).Pairwise (· ≤ ·)
  | [], _ => by simp [ins]
  | y :: l, h => by
    obtain ⟨h1, h2⟩ := List.pairwise_cons.1 h
    unfold ins
    split
    · rename_i hxy
      refine List.pairwise_cons.2 ⟨fun z hz => ?_, h⟩
      rcases List.mem_cons.1 hz with rfl | hz
      · exact hxy
      · exact Nat.le_trans hxy (h1 z hz)
    · rename_i hxy
      refine List.pairwise_cons.2 ⟨fun z hz => ?_, ins_pw x l h2⟩
      rcases List.mem_cons.1 ((ins_perm x l).mem_iff.1 hz) with rfl | hz
      · omega
      · exact h1 z hz
theorem isrt_pw : ∀ l : List Nat, (isrt l).Pairwise (· ≤ ·)
  | [] => .nil
  | x :: l => ins_pw x _ (isrt_pw l)
theorem srt_isrt (l : List Nat) : srt l = isrt l := by
  have h : (isrt l).map (fun (n : Nat) => (n : Int)) = isort (l.map fun (n : Nat) => (n : Int)) := by
    refine isort_of ((isrt_perm l).map _) ?_
    rw [List.pairwise_map]
    exact (isrt_pw l).imp fun h => by omega
  unfold srt
  rw [← h, List.map_map]
  simp [Function.comp_def]
theorem reach_isrt (y : Sys) : y.reach = isrt y.states := srt_isrt _
end VL
namespace VL
open PySem PySem.Spec PyProof.Rows L2

/-! ### pairs of states, dicts with pairs as keys -/
def prD (p : Nat × Nat) : D := .tup [nD p.1, nD p.2]
def pk (p : Nat × Nat) : List Key := [.inl (p.1 : Int), .inl (p.2 : Int)]
@[simp] theorem keyT_pr (p : Nat × Nat) : keyT (prD p) = some (pk p) := rfl
section
variable {α : Type} (pp : α → Nat × Nat) (v : α → D)
def kvs (f : List α) : List (D × D) := f.map fun x => (prD (pp x), v x)
end
@[simp] theorem gIxU_eq (mo mi d ρ s) : gIxU mo mi d ρ s = (mo ρ s).bnd fun o s1 => (mi ρ s1).bnd fun i s2 => match setIxU o i d s2 with
  | some s3 => .ok ρ s3
  | none => .bad := rfl
/-! a dict's making -/
/-! list(d) -/
/-! Unlike -/
end VL
namespace VL
open PySem PySem.Spec PyProof.Rows L2

theorem nodup_map {α β : Type} {g : α → β} : ∀ {l : List α}, (∀ x ∈ l, ∀ z ∈ l, g x = g z → x = z) → l.Nodup → (l.map g).Nodup
  | [], _, _ => by simp
  | x :: l, h, hn => by
    rw [List.nodup_cons] at hn
    rw [List.map_cons, List.nodup_cons]
    refine ⟨fun hm => ?_, nodup_map (fun a ha b hb => h a (List.mem_cons_of_mem _ ha) b (List.mem_cons_of_mem _ hb)) hn.2⟩
    obtain ⟨z, hz, e⟩ := List.mem_map.1 hm
    exact hn.1 (h z (List.mem_cons_of_mem _ hz) x (List.mem_cons_self ..) e ▸ hz)
theorem reach_nodup {y : Sys} (hy : y.Ok) : y.reach.Nodup := by
  rw [reach_isrt]
  exact (isrt_perm _).nodup_iff.2 (paths_ok hy).nd
/-! ### does one operation cover another -/
def Vl (y : Sys) (l : List Nat) : Prop := ∀ x ∈ l, x < y.ops.length
def Sys.stepP (y : Sys) (e : Nat) (p : Nat × Nat) : Nat × Nat := (y.step p.1 e, y.step p.2 e)
def Sys.runP (y : Sys) (p : Nat × Nat) (l : List Nat) : Nat × Nat := (y.run p.1 l, y.run p.2 l)
def Sys.Cov (y : Sys) (a b : Nat) : Prop := ∀ st ∈ y.reach, ∀ w, Vl y w → y.step (y.run (y.step st a) w) b = y.step (y.run st w) b
open Classical in
noncomputable def Sys.cov (y : Sys) (a b : Nat) : Bool := decide (y.Cov a b)
theorem runP_snoc (y : Sys) (p : Nat × Nat) (w : List Nat) (e : Nat) : y.runP p (w ++ [e]) = y.stepP e (y.runP p w) := by simp [Sys.runP, Sys.stepP, run_snoc]
theorem Vl.snoc {y : Sys} {w : List Nat} {e : Nat} (h : Vl y w) (he : e < y.ops.length) : Vl y (w ++ [e]) := fun x hx => by
  rcases List.mem_append.1 hx with hx | hx
  · exact h x hx
  · rw [List.mem_singleton.1 hx]; exact he
theorem runP_lt {y : Sys} (hy : y.Ok) : ∀ {w : List Nat} {p : Nat × Nat}, Vl y w → p.1 < y.many ∧ p.2 < y.many → (y.runP p w).1 < y.many ∧ (y.runP p w).2 < y.many
  | [], p, _, h => h
  | e :: w, p, hw, h => by
    have he := hw e (List.mem_cons_self ..)
    exact runP_lt hy (w := w) (p := y.stepP e p) (fun x hx => hw x (List.mem_cons_of_mem _ hx)) ⟨hy.step_lt h.1 he, hy.step_lt h.2 he⟩
/-- the pairs found so far -/
structure CF (y : Sys) (a : Nat) (f : List (Nat × Nat)) : Prop where
  nd : f.Nodup
  lt : ∀ p ∈ f, p.1 < y.many ∧ p.2 < y.many
  src : ∀ p ∈ f, ∃ st ∈ y.reach, ∃ w, Vl y w ∧ p = y.runP (y.step st a, st) w
  base : ∀ st ∈ y.reach, (y.step st a, st) ∈ f
theorem CF.len {y : Sys} (hy : y.Ok) {a : Nat} {f : List (Nat × Nat)} (h : CF y a f) : f.length ≤ 36 := by
  have := nodup_len 36 (f.map fun p => p.1 * 6 + p.2) (by
    refine nodup_map ?_ h.nd
    intro p hp q hq e
    obtain ⟨p1, p2⟩ := h.lt p hp
    obtain ⟨q1, q2⟩ := h.lt q hq
    have hm := hy.m6
    obtain ⟨p, p'⟩ := p
    obtain ⟨q, q'⟩ := q
    simp only at *
    have e1 : p = q := by omega
    have e2 : p' = q' := by omega
    rw [e1, e2]) fun x hx => by
    obtain ⟨p, hp, rfl⟩ := List.mem_map.1 hx
    obtain ⟨p1, p2⟩ := h.lt p hp
    have := hy.m6
    omega
  simpa using this
theorem CF.snoc {y : Sys} (hy : y.Ok) {a : Nat} {f : List (Nat × Nat)} (h : CF y a f) {p : Nat × Nat} (hp : p ∈ f) {e : Nat} (he : e < y.ops.length) (hn : y.stepP e p ∉ f) : CF y a (f ++ [y.stepP e p]) := by
  obtain ⟨p1, p2⟩ := h.lt p hp
  refine ⟨List.nodup_append.2 ⟨h.nd, by simp, fun x hx z hz e => hn (by rw [← List.mem_singleton.1 hz, ← e]; exact hx)⟩, fun q hq => ?_, fun q hq => ?_, fun st hst => List.mem_append_left _ (h.base st hst)⟩
  · rcases List.mem_append.1 hq with hq | hq
    · exact h.lt q hq
    · rw [List.mem_singleton.1 hq]
      exact ⟨hy.step_lt p1 he, hy.step_lt p2 he⟩
  · rcases List.mem_append.1 hq with hq | hq
    · exact h.src q hq
    · rw [List.mem_singleton.1 hq]
      obtain ⟨st, hst, w, hw, rfl⟩ := h.src p hp
      exact ⟨st, hst, w ++ [e], hw.snoc he, (runP_snoc ..).symm⟩
/-- the first n pairs are done: not unlike behind b, what follows them is found -/
def CD (y : Sys) (b n : Nat) (f : List (Nat × Nat)) : Prop := ∀ i, i < n → ∀ p, f[i]? = some p → y.step p.1 b = y.step p.2 b ∧ ∀ e, e < y.ops.length → (y.stepP e p).1 = (y.stepP e p).2 ∨ y.stepP e p ∈ f
theorem CD.cov {y : Sys} {a b : Nat} {f : List (Nat × Nat)} (h : CF y a f) (d : CD y b f.length f) : y.Cov a b := by
  intro st hst w hw
  have key : ∀ w, Vl y w → (y.runP (y.step st a, st) w).1 = (y.runP (y.step st a, st) w).2 ∨ y.runP (y.step st a, st) w ∈ f := by
    intro w
    induction hn : w.length generalizing w with
    | zero =>
      intro _
      rw [List.length_eq_zero_iff] at hn
      subst hn
      exact .inr (h.base st hst)
    | succ n ih =>
      intro hw
      obtain ⟨u, e, rfl⟩ : ∃ u e, w = u ++ [e] := ⟨w.dropLast, w.getLast (by intro z; subst z; cases hn), (List.dropLast_concat_getLast _).symm⟩
      have hu : Vl y u := fun x hx => hw x (List.mem_append_left _ hx)
      have he := hw e (by simp)
      rw [runP_snoc]
      rcases ih u (by simpa using hn) hu with z | z
      · left
        simp only [Sys.stepP, z]
      · obtain ⟨i, hi, ei⟩ := List.getElem_of_mem z
        exact (d i hi _ (by rw [List.getElem?_eq_getElem hi, ei])).2 e he
  rcases key w hw with z | z
  · exact congrArg (fun x => y.step x b) z
  · obtain ⟨i, hi, ei⟩ := List.getElem_of_mem z
    exact (d i hi _ (by rw [List.getElem?_eq_getElem hi, ei])).1
theorem CF.start {y : Sys} (hy : y.Ok) {a : Nat} (ha : a < y.ops.length) : CF y a (y.reach.map fun st => (y.step st a, st)) := by
  refine ⟨nodup_map (fun x _ z _ e => (Prod.mk.inj e).2) (reach_nodup hy), fun p hp => ?_, fun p hp => ?_, fun st hst => List.mem_map.2 ⟨st, hst, rfl⟩⟩
  · obtain ⟨st, hst, rfl⟩ := List.mem_map.1 hp
    have := reach_lt hy hst
    exact ⟨hy.step_lt this ha, this⟩
  · obtain ⟨st, hst, rfl⟩ := List.mem_map.1 hp
    exact ⟨st, hst, [], (fun _ h => nomatch h), rfl⟩

abbrev tD : Nat × Nat → D := fun _ => .bl true
abbrev idP : Nat × Nat → Nat × Nat := fun p => p
end VL
namespace VL
open PySem PySem.Spec PyProof.Rows L2

/-! ### how far pairs stand from ends -/
def prs (m : Nat) : List (Nat × Nat) := (List.range m).flatMap fun a => (List.range m).map fun b => (a, b)
theorem prs_mem {m : Nat} {p : Nat × Nat} : p ∈ prs m ↔ p.1 < m ∧ p.2 < m := by
  unfold prs
  simp only [List.mem_flatMap, List.mem_map, List.mem_range]
  constructor
  · rintro ⟨a, ha, b, hb, rfl⟩
    exact ⟨ha, hb⟩
  · rintro ⟨h1, h2⟩
    exact ⟨p.1, h1, p.2, h2, rfl⟩
section
variable (y : Sys) (E : List (Nat × Nat))
def Hit (p : Nat × Nat) (w : List Nat) : Prop := Vl y w ∧ y.runP p w ∈ E
structure MinD (p : Nat × Nat) (d : Nat) : Prop where
  hit : ∃ w, Hit y E p w ∧ w.length = d
  min : ∀ w, Hit y E p w → d ≤ w.length
end
section
variable {y : Sys} {E : List (Nat × Nat)} {p : Nat × Nat} {d d' : Nat}
theorem MinD.uniq (h : MinD y E p d) (h' : MinD y E p d') : d = d' := by
  obtain ⟨w, hw, e⟩ := h.hit
  obtain ⟨w', hw', e'⟩ := h'.hit
  have := h.min w' hw'
  have := h'.min w hw
  omega
theorem minD_ex {w : List Nat} (h : Hit y E p w) : ∃ d, d ≤ w.length ∧ MinD y E p d := by
  induction hn : w.length using Nat.strongRecOn generalizing w with
  | _ n ih =>
    by_cases hx : ∃ w', Hit y E p w' ∧ w'.length < n
    · obtain ⟨w', h1, h2⟩ := hx
      obtain ⟨d, h3, h4⟩ := ih w'.length h2 h1 rfl
      exact ⟨d, by omega, h4⟩
    · exact ⟨n, Nat.le_refl _, ⟨⟨w, h, hn⟩, fun w' hw' => Nat.le_of_not_lt fun z => hx ⟨w', hw', z⟩⟩⟩
theorem minD_zero : MinD y E p 0 ↔ p ∈ E := by
  constructor
  · rintro ⟨⟨w, hw, e⟩, _⟩
    rw [List.length_eq_zero_iff] at e
    subst e
    exact hw.2
  · intro h
    exact ⟨⟨[], ⟨(fun _ z => nomatch z), h⟩, rfl⟩, fun _ _ => Nat.zero_le _⟩
theorem Hit.cons {e : Nat} {w : List Nat} (he : e < y.ops.length) (h : Hit y E (y.stepP e p) w) : Hit y E p (e :: w) := ⟨fun x hx => by
  rcases List.mem_cons.1 hx with rfl | hx
  · exact he
  · exact h.1 x hx, h.2⟩
theorem Hit.tail {e : Nat} {w : List Nat} (h : Hit y E p (e :: w)) : e < y.ops.length ∧ Hit y E (y.stepP e p) w := ⟨h.1 e (List.mem_cons_self ..), fun x hx => h.1 x (List.mem_cons_of_mem _ hx), h.2⟩
theorem MinD.step (h : MinD y E p (d + 1)) : ∃ e, e < y.ops.length ∧ MinD y E (y.stepP e p) d := by
  obtain ⟨w, hw, e⟩ := h.hit
  cases w with
  | nil => cases e
  | cons a w =>
    obtain ⟨ha, ht⟩ := hw.tail
    refine ⟨a, ha, ⟨w, ht, by simpa using e⟩, fun w' hw' => ?_⟩
    have := h.min _ (hw'.cons ha)
    simp only [List.length_cons] at this
    omega
theorem minD_succ {e : Nat} (he : e < y.ops.length) (h : MinD y E (y.stepP e p) d) (hn : ∀ d', d' ≤ d → ¬ MinD y E p d') : MinD y E p (d + 1) := by
  obtain ⟨w, hw, ew⟩ := h.hit
  refine ⟨⟨e :: w, hw.cons he, by simp [ew]⟩, fun w' hw' => ?_⟩
  obtain ⟨d', h1, h2⟩ := minD_ex hw'
  by_cases hle : d' ≤ d
  · exact absurd h2 (hn d' hle)
  · omega
/-- whoever is farther passes there -/
theorem MinD.pass : ∀ {k : Nat} {p : Nat × Nat}, MinD y E p (d + k) → p.1 < y.many ∧ p.2 < y.many → y.Ok → ∃ q, (q.1 < y.many ∧ q.2 < y.many) ∧ MinD y E q d
  | 0, p, h, hp, _ => ⟨p, hp, h⟩
  | k + 1, p, h, hp, hy => by
    obtain ⟨e, he, h1⟩ := MinD.step (d := d + k) h
    exact MinD.pass (k := k) h1 ⟨hy.step_lt hp.1 he, hy.step_lt hp.2 he⟩ hy
/-! ### the first of the shortest logs -/
def LexLt (a b : List Nat) : Prop := ∃ c x z r1 r2, a = c ++ x :: r1 ∧ b = c ++ z :: r2 ∧ x < z
theorem lexLt_cons {x : Nat} {a b : List Nat} (h : LexLt a b) : LexLt (x :: a) (x :: b) := by
  obtain ⟨c, u, v, r1, r2, rfl, rfl, h⟩ := h
  exact ⟨x :: c, u, v, r1, r2, rfl, rfl, h⟩
theorem lexLt_iff {x z : Nat} {a b : List Nat} : LexLt (x :: a) (z :: b) ↔ x < z ∨ (x = z ∧ LexLt a b) := by
  constructor
  · rintro ⟨c, u, v, r1, r2, h1, h2, h⟩
    cases c with
    | nil =>
      simp only [List.nil_append, List.cons.injEq] at h1 h2
      left
      omega
    | cons k c =>
      simp only [List.cons_append, List.cons.injEq] at h1 h2
      exact .inr ⟨by omega, c, u, v, r1, r2, h1.2, h2.2, h⟩
  · rintro (h | ⟨rfl, h⟩)
    · exact ⟨[], x, z, a, b, rfl, rfl, h⟩
    · exact lexLt_cons h
theorem lexLt_nil {b : List Nat} : ¬ LexLt [] b := by
  rintro ⟨c, x, z, r1, r2, h, _⟩
  simp at h
theorem lexLt_asymm : ∀ {a b : List Nat}, LexLt a b → ¬ LexLt b a
  | [], _, h, _ => lexLt_nil h
  | _ :: _, [], _, h => lexLt_nil h
  | x :: a, z :: b, h, h' => by
    rw [lexLt_iff] at h h'
    rcases h with h | ⟨e, h⟩
    · rcases h' with h' | ⟨e', _⟩ <;> omega
    · rcases h' with h' | ⟨_, h'⟩
      · omega
      · exact lexLt_asymm h h'
theorem LexLt.app {a b : List Nat} (h : LexLt a b) (u : List Nat) : LexLt (a ++ u) b := by
  obtain ⟨c, x, z, r1, r2, rfl, rfl, h⟩ := h
  exact ⟨c, x, z, r1 ++ u, r2, by simp, rfl, h⟩
end
/-- w is the first of the shortest logs that lead from one of these pairs to an end -/
structure FirstLog (y : Sys) (E P : List (Nat × Nat)) (w : List Nat) : Prop where
  hit : ∃ p ∈ P, Hit y E p w
  min : ∀ w', (∃ p ∈ P, Hit y E p w') → w.length ≤ w'.length
  lex : ∀ w', (∃ p ∈ P, Hit y E p w') → w'.length = w.length → w' = w ∨ LexLt w w'
theorem FirstLog.uniq {y : Sys} {E P : List (Nat × Nat)} {w w' : List Nat} (h : FirstLog y E P w) (h' : FirstLog y E P w') : w = w' := by
  have l1 := h.min w' h'.hit
  have l2 := h'.min w h.hit
  rcases h.lex w' h'.hit (by omega) with e | a
  · exact e.symm
  · rcases h'.lex w h.hit (by omega) with e | b
    · exact e
    · exact absurd b (lexLt_asymm a)
end VL
namespace VL
open PySem PySem.Spec PyProof.Rows L2

/-! ### the law's own distances -/
abbrev fP : (Nat × Nat) × Nat → Nat × Nat := fun q => q.1
abbrev fV : (Nat × Nat) × Nat → D := fun q => .int (q.2 : Nat)
abbrev Lt (y : Sys) (p : Nat × Nat) : Prop := p.1 < y.many ∧ p.2 < y.many
def gv (f : List ((Nat × Nat) × Nat)) (p : Nat × Nat) : Int := ((f.find? fun x => decide (x.1 = p)).map fun x => (x.2 : Int)).getD (-1)
theorem gv_iff {f : List ((Nat × Nat) × Nat)} (h : (f.map fP).Nodup) {p : Nat × Nat} {d : Nat} : gv f p = (d : Int) ↔ (p, d) ∈ f := by
  unfold gv
  cases hf : f.find? fun x => decide (x.1 = p) with
  | none =>
    constructor
    · intro e
      simp only [Option.map_none, Option.getD_none] at e
      omega
    · intro hm
      have := List.find?_eq_none.1 hf _ hm
      simp at this
  | some q =>
    have h1 := List.find?_some hf
    simp only [decide_eq_true_eq] at h1
    have h2 := List.mem_of_find?_eq_some hf
    obtain ⟨q1, q2⟩ := q
    subst h1
    simp only [Option.map_some, Option.getD_some]
    constructor
    · intro e
      have : q2 = d := by omega
      rw [← this]
      exact h2
    · intro hm
      have key : ∀ (f : List ((Nat × Nat) × Nat)), (f.map fP).Nodup → ∀ {p a b}, (p, a) ∈ f → (p, b) ∈ f → a = b := by
        intro f
        induction f with
        | nil => intro _ p a b h; cases h
        | cons x f ih =>
          intro hn p a b ha hb
          rw [List.map_cons, List.nodup_cons] at hn
          rcases List.mem_cons.1 ha with ea | ha
          · rcases List.mem_cons.1 hb with eb | hb
            · exact (Prod.mk.inj (ea.trans eb.symm)).2
            · exact absurd (List.mem_map.2 ⟨(p, b), hb, by rw [← ea]⟩) hn.1
          · rcases List.mem_cons.1 hb with eb | hb
            · exact absurd (List.mem_map.2 ⟨(p, a), ha, by rw [← eb]⟩) hn.1
            · exact ih hn.2 ha hb
      rw [key f h h2 hm]
structure Far (y : Sys) (E : List (Nat × Nat)) (L : Nat) (f : List ((Nat × Nat) × Nat)) : Prop where
  nd : (f.map fP).Nodup
  mem : ∀ p d, (p, d) ∈ f ↔ Lt y p ∧ MinD y E p d ∧ d ≤ L
structure FarAll (y : Sys) (E : List (Nat × Nat)) (f : List ((Nat × Nat) × Nat)) : Prop where
  nd : (f.map fP).Nodup
  mem : ∀ p d, (p, d) ∈ f ↔ Lt y p ∧ MinD y E p d
  le : ∀ p d, (p, d) ∈ f → d ≤ 37
/-- within a lap -/
structure Mid (y : Sys) (E : List (Nat × Nat)) (L : Nat) (f : List ((Nat × Nat) × Nat)) (pre : List (Nat × Nat)) (g : List ((Nat × Nat) × Nat)) (gr : Bool) : Prop where
  nd : (g.map fP).Nodup
  mem : ∀ p d, (p, d) ∈ g ↔ (p, d) ∈ f ∨ (d = L + 1 ∧ p ∈ pre ∧ MinD y E p (L + 1))
  no : gr = false → g = f
  yes : gr = true → f.length < g.length
theorem Mid.lt {y E L f pre g gr} (h : Mid y E L f pre g gr) (hf : Far y E L f) (hp : ∀ p ∈ pre, Lt y p) : ∀ p d, (p, d) ∈ g → Lt y p := fun p d hm => by
  rcases (h.mem p d).1 hm with h1 | ⟨_, h1, _⟩
  · exact ((hf.mem p d).1 h1).1
  · exact hp p h1
theorem key_iff {f : List ((Nat × Nat) × Nat)} {p : Nat × Nat} : p ∈ f.map fP ↔ ∃ d, (p, d) ∈ f := by
  rw [List.mem_map]
  constructor
  · rintro ⟨⟨q, d⟩, h, rfl⟩
    exact ⟨d, h⟩
  · rintro ⟨d, h⟩
    exact ⟨_, h, rfl⟩
/-- a pair looked at -/
theorem Mid.turn {y : Sys} {E : List (Nat × Nat)} {L : Nat} {f : List ((Nat × Nat) × Nat)} {pre : List (Nat × Nat)} {g : List ((Nat × Nat) × Nat)} {gr : Bool} (hy : y.Ok) (h : Mid y E L f pre g gr) (hf : Far y E L f) {p : Nat × Nat} (hp : Lt y p) (hn : p ∉ pre) :
    (if p ∉ g.map fP ∧ (∃ e, e < y.ops.length ∧ gv g (y.stepP e p) = (L : Int)) then Mid y E L f (pre ++ [p]) (g ++ [(p, L + 1)]) true else Mid y E L f (pre ++ [p]) g gr) := by
  have hst : ∀ e, gv g (y.stepP e p) = (L : Int) ↔ (y.stepP e p, L) ∈ f := fun e => by
    rw [gv_iff h.nd, h.mem]
    constructor
    · rintro (h1 | ⟨h1, _⟩)
      · exact h1
      · omega
    · exact .inl
  have hk : p ∉ g.map fP ↔ ∀ d, d ≤ L → ¬ MinD y E p d := by
    rw [key_iff]
    constructor
    · intro h1 d hd h2
      exact h1 ⟨d, (h.mem p d).2 (.inl ((hf.mem p d).2 ⟨hp, h2, hd⟩))⟩
    · rintro h1 ⟨d, h2⟩
      rcases (h.mem p d).1 h2 with h3 | ⟨_, h3, _⟩
      · obtain ⟨_, h4, h5⟩ := (hf.mem p d).1 h3
        exact h1 d h5 h4
      · exact hn h3
  have hmin : (p ∉ g.map fP ∧ ∃ e, e < y.ops.length ∧ gv g (y.stepP e p) = (L : Int)) ↔ MinD y E p (L + 1) := by
    constructor
    · rintro ⟨h1, e, he, h2⟩
      have h3 := ((hf.mem _ _).1 ((hst e).1 h2)).2.1
      exact minD_succ he h3 (hk.1 h1)
    · intro hm
      refine ⟨hk.2 fun d hd h2 => ?_, ?_⟩
      · have := h2.uniq hm
        omega
      · obtain ⟨e, he, h1⟩ := hm.step
        exact ⟨e, he, (hst e).2 ((hf.mem _ _).2 ⟨⟨hy.step_lt hp.1 he, hy.step_lt hp.2 he⟩, h1, Nat.le_refl _⟩)⟩
  by_cases hc : p ∉ g.map fP ∧ ∃ e, e < y.ops.length ∧ gv g (y.stepP e p) = (L : Int)
  · rw [if_pos hc]
    have hm := hmin.1 hc
    refine ⟨?_, fun q d => ?_, (fun z => by cases z), fun _ => ?_⟩
    · rw [List.map_append]
      exact List.nodup_append.2 ⟨h.nd, by simp, fun x hx z hz e => hc.1 (by
        have : z = p := by simpa using hz
        rw [← this, ← e]; exact hx)⟩
    · rw [List.mem_append, h.mem, List.mem_singleton, List.mem_append, List.mem_singleton]
      constructor
      · rintro ((h1 | ⟨h1, h2, h3⟩) | h1)
        · exact .inl h1
        · exact .inr ⟨h1, .inl h2, h3⟩
        · obtain ⟨rfl, rfl⟩ := Prod.mk.inj h1
          exact .inr ⟨rfl, .inr rfl, hm⟩
      · rintro (h1 | ⟨h1, h2 | h2, h3⟩)
        · exact .inl (.inl h1)
        · exact .inl (.inr ⟨h1, h2, h3⟩)
        · exact .inr (by rw [h1, h2])
    · rw [List.length_append, List.length_singleton]
      cases gr with
      | false => rw [h.no rfl]; omega
      | true => have := h.yes rfl; omega
  · rw [if_neg hc]
    have hm : ¬ MinD y E p (L + 1) := fun z => hc (hmin.2 z)
    refine ⟨h.nd, fun q d => ?_, h.no, h.yes⟩
    rw [h.mem, List.mem_append, List.mem_singleton]
    constructor
    · rintro (h1 | ⟨h1, h2, h3⟩)
      · exact .inl h1
      · exact .inr ⟨h1, .inl h2, h3⟩
    · rintro (h1 | ⟨h1, h2 | h2, h3⟩)
      · exact .inl h1
      · exact .inr ⟨h1, h2, h3⟩
      · rw [h2] at h3; exact absurd h3 hm
theorem Mid.start {y : Sys} {E : List (Nat × Nat)} {L : Nat} {f : List ((Nat × Nat) × Nat)} (hf : Far y E L f) : Mid y E L f [] f false := ⟨hf.nd, fun p d => by simp, fun _ => rfl, fun z => by cases z⟩
theorem Mid.done {y : Sys} {E : List (Nat × Nat)} {L : Nat} {f g : List ((Nat × Nat) × Nat)} {gr : Bool} (h : Mid y E L f (prs y.many) g gr) (hf : Far y E L f) : Far y E (L + 1) g := ⟨h.nd, fun p d => by
  rw [h.mem, hf.mem, prs_mem]
  constructor
  · rintro (⟨h1, h2, h3⟩ | ⟨rfl, h2, h3⟩)
    · exact ⟨h1, h2, by omega⟩
    · exact ⟨h2, h3, Nat.le_refl _⟩
  · rintro ⟨h1, h2, h3⟩
    by_cases e : d = L + 1
    · subst e
      exact .inr ⟨rfl, h1, h2⟩
    · exact .inl ⟨h1, h2, by omega⟩⟩
theorem Far.start {y : Sys} {E : List (Nat × Nat)} (hE : E.Nodup) (hl : ∀ p ∈ E, Lt y p) : Far y E 0 (E.map fun p => (p, 0)) := by
  refine ⟨?_, fun p d => ?_⟩
  · rw [List.map_map, show (fP ∘ fun p : Nat × Nat => (p, 0)) = id from rfl, List.map_id]
    exact hE
  · rw [List.mem_map]
    constructor
    · rintro ⟨q, hq, e⟩
      obtain ⟨rfl, rfl⟩ := Prod.mk.inj e
      exact ⟨hl q hq, minD_zero.2 hq, Nat.le_refl _⟩
    · rintro ⟨h1, h2, h3⟩
      have : d = 0 := by omega
      subst this
      exact ⟨p, minD_zero.1 h2, rfl⟩
end VL
namespace VL
open PySem PySem.Spec PyProof.Rows L2

end VL
namespace VL
open PySem PySem.Spec PyProof.Rows L2

/-! ### == of lists of pairs and [] -/
def pyP (p : Nat × Nat) : PyData := .tuple [.int (p.1 : Int), .int (p.2 : Int)]
/-! ### a live list sifted -/
/-! ### min -/
/-! ### the walk that picks the first log -/
structure Bt (y : Sys) (E P : List (Nat × Nat)) (T l : Nat) (log : List Nat) (now : List (Nat × Nat)) : Prop where
  len : log.length + l = T
  ent : ∀ q ∈ now, Lt y q ∧ MinD y E q l ∧ ∃ p ∈ P, Vl y log ∧ q = y.runP p log
  ne : now ≠ []
  lex : ∀ w, (∃ p ∈ P, Hit y E p w) → w.length = T → (∃ u q, w = log ++ u ∧ q ∈ now ∧ Hit y E q u) ∨ LexLt log w
  nl : now.length ≤ P.length
def way (y : Sys) (f : List ((Nat × Nat) × Nat)) (l : Nat) (now : List (Nat × Nat)) (e : Nat) : List (Nat × Nat) := (now.map (y.stepP e)).filter fun q => decide (gv f q = (l : Int))
section
variable {y : Sys} {E P : List (Nat × Nat)} {f : List ((Nat × Nat) × Nat)} {T l : Nat} {log : List Nat} {now : List (Nat × Nat)}
theorem way_mem (hf : FarAll y E f) {e : Nat} {q : Nat × Nat} : q ∈ way y f l now e ↔ ∃ p ∈ now, q = y.stepP e p ∧ Lt y q ∧ MinD y E q l := by
  unfold way
  rw [List.mem_filter, List.mem_map, decide_eq_true_eq, gv_iff hf.nd, hf.mem]
  constructor
  · rintro ⟨⟨p, hp, rfl⟩, h⟩
    exact ⟨p, hp, rfl, h⟩
  · rintro ⟨p, hp, rfl, h⟩
    exact ⟨⟨p, hp, rfl⟩, h⟩
theorem Bt.some (hy : y.Ok) (hf : FarAll y E f) (h : Bt y E P T (l + 1) log now) : ∃ e, e < y.ops.length ∧ way y f l now e ≠ [] := by
  obtain ⟨q, hq⟩ := List.exists_mem_of_ne_nil _ h.ne
  obtain ⟨hl, hm, _⟩ := h.ent q hq
  obtain ⟨e, he, h1⟩ := hm.step
  exact ⟨e, he, List.ne_nil_of_mem ((way_mem hf).2 ⟨q, hq, rfl, ⟨hy.step_lt hl.1 he, hy.step_lt hl.2 he⟩, h1⟩)⟩
theorem Bt.step (hy : y.Ok) (hf : FarAll y E f) (h : Bt y E P T (l + 1) log now) {e : Nat} (he : e < y.ops.length) (hw : way y f l now e ≠ []) (hmin : ∀ e', e' < y.ops.length → way y f l now e' ≠ [] → e ≤ e') : Bt y E P T l (log ++ [e]) (way y f l now e) := by
  refine ⟨by have := h.len; simp; omega, fun q hq => ?_, hw, fun w hw2 hl => ?_, ?_⟩
  · obtain ⟨p, hp, rfl, h1, h2⟩ := (way_mem hf).1 hq
    obtain ⟨_, _, p0, hp0, hv, rfl⟩ := h.ent p hp
    exact ⟨h1, h2, p0, hp0, hv.snoc he, (runP_snoc ..).symm⟩
  · rcases h.lex w hw2 hl with ⟨u, q, rfl, hq, hu⟩ | hlt
    · obtain ⟨hql, hqm, _⟩ := h.ent q hq
      have hul : u.length = l + 1 := by have := h.len; rw [List.length_append] at hl; omega
      cases u with
      | nil => cases hul
      | cons e' u =>
        obtain ⟨he', ht⟩ := hu.tail
        simp only [List.length_cons] at hul
        have hm' : MinD y E (y.stepP e' q) l := by
          refine ⟨⟨u, ht, by omega⟩, fun w' hw' => ?_⟩
          have := hqm.min _ (hw'.cons he')
          simp only [List.length_cons] at this
          omega
        have hmem : y.stepP e' q ∈ way y f l now e' := (way_mem hf).2 ⟨q, hq, rfl, ⟨hy.step_lt hql.1 he', hy.step_lt hql.2 he'⟩, hm'⟩
        have hle := hmin e' he' (List.ne_nil_of_mem hmem)
        by_cases ee : e = e'
        · subst ee
          exact .inl ⟨u, _, by simp, hmem, ht⟩
        · exact .inr ⟨log, e, e', [], u, rfl, rfl, by omega⟩
    · exact .inr (hlt.app _)
  · refine Nat.le_trans ?_ h.nl
    unfold way
    exact Nat.le_trans (List.length_filter_le _ _) (by simp)
theorem Bt.start (hf : FarAll y E f) (hP : ∀ p ∈ P, Lt y p) (h1 : ∃ p ∈ P, (p, T) ∈ f) (h2 : ∀ p ∈ P, ∀ d, (p, d) ∈ f → T ≤ d) : Bt y E P T T [] (P.filter fun p => decide (gv f p = (T : Int))) := by
  have hm : ∀ q, q ∈ (P.filter fun p => decide (gv f p = (T : Int))) ↔ q ∈ P ∧ Lt y q ∧ MinD y E q T := fun q => by
    rw [List.mem_filter, decide_eq_true_eq, gv_iff hf.nd, hf.mem]
  refine ⟨by simp, fun q hq => ?_, ?_, fun w hw hl => ?_, List.length_filter_le _ _⟩
  · obtain ⟨a, b, c⟩ := (hm q).1 hq
    exact ⟨b, c, q, a, (fun _ z => nomatch z), rfl⟩
  · obtain ⟨p, hp, hq⟩ := h1
    exact List.ne_nil_of_mem ((hm p).2 ⟨hp, (hf.mem _ _).1 hq⟩)
  · obtain ⟨p, hp, hh⟩ := hw
    obtain ⟨d, hd, hmd⟩ := minD_ex hh
    have := h2 p hp d ((hf.mem _ _).2 ⟨hP p hp, hmd⟩)
    have e : d = T := by omega
    subst e
    exact .inl ⟨w, p, rfl, (hm p).2 ⟨hp, hP p hp, hmd⟩, hh⟩
theorem Bt.fin (hf : FarAll y E f) (hP : ∀ p ∈ P, Lt y p) (h2 : ∀ p ∈ P, ∀ d, (p, d) ∈ f → T ≤ d) (h : Bt y E P T 0 log now) : FirstLog y E P log := by
  have hlen : log.length = T := by have := h.len; omega
  obtain ⟨q, hq⟩ := List.exists_mem_of_ne_nil _ h.ne
  obtain ⟨_, hm, p, hp, hv, rfl⟩ := h.ent q hq
  refine ⟨⟨p, hp, hv, minD_zero.1 hm⟩, fun w' hw' => ?_, fun w' hw' hl => ?_⟩
  · obtain ⟨p', hp', hh⟩ := hw'
    obtain ⟨d, hd, hmd⟩ := minD_ex hh
    have := h2 p' hp' d ((hf.mem _ _).2 ⟨hP p' hp', hmd⟩)
    omega
  · rcases h.lex w' hw' (by omega) with ⟨u, q, e, _, _⟩ | hlt
    · left
      have : u.length = 0 := by
        have := congrArg List.length e
        rw [List.length_append] at this
        omega
      rw [List.length_eq_zero_iff] at this
      subst this
      simpa using e
    · exact .inr hlt
end
end VL
namespace VL
open PySem PySem.Spec PyProof.Rows L2

end VL
namespace VL
open PySem PySem.Spec PyProof.Rows L2

/-! ### who covers whom: the program -/
noncomputable def Sys.rowC (y : Sys) (a : Nat) : List Bool := (List.range y.ops.length).map fun b => y.cov a b
noncomputable def Sys.rowD (y : Sys) (a : Nat) : VL.D := VL.D.tup ((y.rowC a).map VL.D.bl)
noncomputable def Sys.covD (y : Sys) : VL.D := VL.D.tup ((List.range y.ops.length).map y.rowD)
/-! ### .. and the law -/
def Sys.ends (y : Sys) (b : Nat) : List (Nat × Nat) := (prs y.many).filter fun p => !decide (y.step p.1 b = y.step p.2 b)
def Sys.starts (y : Sys) (a : Nat) : List (Nat × Nat) := y.reach.map fun st => (y.step st a, st)
end VL
namespace VL
open PySem PySem.Spec PyProof.Rows L2

end VL
namespace VL
open PySem PySem.Spec PyProof.Rows L2

/-! ### thinned logs -/
noncomputable def thinP (y : Sys) : List Nat → Nat → List Nat → Bool := fun _ e rest => !(rest.any fun x => y.cov e x)
noncomputable def Sys.thin (y : Sys) (l : List Nat) : List Nat := pickL (thinP y) [] l
end VL
namespace VL
open PySem PySem.Spec PyProof.Rows L2

/-! ### the greatest right kinds: the mathematics -/
theorem cov_trans {y : Sys} (hy : y.Ok) {a b c : Nat} (ha : a < y.ops.length) (h1 : y.Cov a b) (h2 : y.Cov b c) : y.Cov a c := by
  intro st hst w hw
  have e1 := h2 (y.step st a) (reach_step hy hst ha) w hw
  have e2 : y.step (y.step st a) b = y.step st b := h1 st hst [] (fun _ z => nomatch z)
  have e3 := h2 st hst w hw
  rw [← e1, e2, e3]
noncomputable def Sys.mu (y : Sys) (a b : Nat) : Bool := y.cov a b && y.cov b a
theorem mu_iff {y : Sys} {a b : Nat} : y.mu a b = true ↔ y.Cov a b ∧ y.Cov b a := by simp [Sys.mu, Sys.cov]
theorem mu_symm {y : Sys} {a b : Nat} (h : y.mu a b = true) : y.mu b a = true := mu_iff.2 (mu_iff.1 h).symm
theorem mu_trans {y : Sys} (hy : y.Ok) {a b c : Nat} (ha : a < y.ops.length) (hc : c < y.ops.length) (h1 : y.mu a b = true) (h2 : y.mu b c = true) : y.mu a c = true := by
  obtain ⟨a1, a2⟩ := mu_iff.1 h1
  obtain ⟨b1, b2⟩ := mu_iff.1 h2
  exact mu_iff.2 ⟨cov_trans hy ha a1 b1, cov_trans hy hc b2 a2⟩
/-- as the law makes them: kinds, heads -/
noncomputable def ownL (y : Sys) (hs : List Nat) (n : Nat) : List Nat := (List.range hs.length).filter fun i => y.mu n (hs.getD i 0)
noncomputable def lst1 (y : Sys) (p : List (Option Nat) × List Nat) (n : Nat) : List (Option Nat) × List Nat :=
  if ownL y p.2 n = [] ∧ y.cov n n = true then (p.1 ++ [some p.2.length], p.2 ++ [n]) else (p.1 ++ [(ownL y p.2 n).head?], p.2)
noncomputable def lstN (y : Sys) : Nat → List (Option Nat) × List Nat
  | 0 => ([], [])
  | n + 1 => lst1 y (lstN y n) n
/-- as the program makes them: kinds, how many -/
noncomputable def alikeL (y : Sys) (n : Nat) : List Nat := (List.range n).filter fun o => y.mu n o
noncomputable def prg1 (y : Sys) (p : List (Option Nat) × Nat) (n : Nat) : List (Option Nat) × Nat :=
  match alikeL y n with
  | o :: _ => (p.1 ++ [p.1.getD o none], p.2)
  | [] => if y.cov n n = true then (p.1 ++ [some p.2], p.2 + 1) else (p.1 ++ [none], p.2)
noncomputable def prgN (y : Sys) : Nat → List (Option Nat) × Nat
  | 0 => ([], 0)
  | n + 1 => prg1 y (prgN y n) n
structure BI (y : Sys) (n : Nat) (ks : List (Option Nat)) (hs : List Nat) : Prop where
  kl : ks.length = n
  hl : hs.length ≤ n
  hh : ∀ h ∈ hs, h < n ∧ y.cov h h = true
  dis : ∀ i j h h' : Nat, hs[i]? = some h → hs[j]? = some h' → y.mu h h' = true → i = j
  iff : ∀ o k : Nat, o < n → (ks[o]? = some (some k) ↔ ∃ h, hs[k]? = some h ∧ y.mu o h = true)
  all : ∀ o : Nat, o < n → y.cov o o = true → ∃ (k : Nat) (h : Nat), hs[k]? = some h ∧ y.mu o h = true
theorem own_mem {y : Sys} {hs : List Nat} {n i : Nat} : i ∈ ownL y hs n ↔ ∃ h, hs[i]? = some h ∧ y.mu n h = true := by
  unfold ownL
  rw [List.mem_filter, List.mem_range]
  constructor
  · rintro ⟨h1, h2⟩
    refine ⟨hs[i], List.getElem?_eq_getElem h1, ?_⟩
    rwa [List.getD_eq_getElem?_getD, List.getElem?_eq_getElem h1, Option.getD_some] at h2
  · rintro ⟨h, h1, h2⟩
    obtain ⟨h3, h4⟩ := List.getElem?_eq_some_iff.1 h1
    refine ⟨h3, ?_⟩
    rw [List.getD_eq_getElem?_getD, h1, Option.getD_some]
    exact h2
theorem BI.head {y : Sys} (hy : y.Ok) {n : Nat} {ks : List (Option Nat)} {hs : List Nat} (hn : n < y.ops.length) (B : BI y n ks hs) {k : Nat} (hk : k ∈ ownL y hs n) : (ownL y hs n).head? = some k := by
  cases hl : ownL y hs n with
  | nil => rw [hl] at hk; cases hk
  | cons k' r =>
    have hk' : k' ∈ ownL y hs n := by rw [hl]; simp
    obtain ⟨h, h1, h2⟩ := own_mem.1 hk
    obtain ⟨h', h1', h2'⟩ := own_mem.1 hk'
    have b1 := (B.hh h (List.mem_of_getElem? h1)).1
    have b2 := (B.hh h' (List.mem_of_getElem? h1')).1
    have := B.dis k k' h h' h1 h1' (mu_trans hy (by omega) (by omega) (mu_symm h2) h2')
    rw [this]
    rfl
theorem BI.step {y : Sys} (hy : y.Ok) {n : Nat} {ks : List (Option Nat)} {hs : List Nat} (hn : n < y.ops.length) (B : BI y n ks hs) : prg1 y (ks, hs.length) n = ((lst1 y (ks, hs) n).1, (lst1 y (ks, hs) n).2.length) ∧ BI y (n + 1) (lst1 y (ks, hs) n).1 (lst1 y (ks, hs) n).2 := by
  have hne : ∀ o, o < n → y.mu n o = true → ownL y hs n ≠ [] := fun o ho hm => by
    have hoo : y.cov o o = true := by
      have := mu_iff.1 (mu_trans hy (a := o) (c := o) (by omega) (by omega) (mu_symm hm) hm)
      simp [Sys.cov, this.1]
    obtain ⟨k, h, h1, h2⟩ := B.all o ho hoo
    have b1 := (B.hh h (List.mem_of_getElem? h1)).1
    exact List.ne_nil_of_mem (own_mem.2 ⟨h, h1, mu_trans hy hn (by omega) hm h2⟩)
  have hal : ownL y hs n ≠ [] → ∃ k h, k ∈ ownL y hs n ∧ hs[k]? = some h ∧ h < n ∧ y.mu n h = true := fun h => by
    obtain ⟨k, hk⟩ := List.exists_mem_of_ne_nil _ h
    obtain ⟨h, h1, h2⟩ := own_mem.1 hk
    exact ⟨k, h, hk, h1, (B.hh h (List.mem_of_getElem? h1)).1, h2⟩
  constructor
  · unfold prg1
    cases hA : alikeL y n with
    | nil =>
      have hown : ownL y hs n = [] := Classical.byContradiction fun z => by
        obtain ⟨k, h, hk, h1, h2, h3⟩ := hal z
        have : h ∈ alikeL y n := List.mem_filter.2 ⟨List.mem_range.2 h2, h3⟩
        rw [hA] at this
        cases this
      simp only [lst1, hown, true_and, List.head?_nil]
      by_cases hc : y.cov n n = true
      · simp [hc]
      · simp [hc]
    | cons o r =>
      have ho : o ∈ alikeL y n := by rw [hA]; simp
      obtain ⟨o1, o2⟩ := List.mem_filter.1 ho
      have o1 := List.mem_range.1 o1
      have hz := hne o o1 o2
      have hoo : y.cov o o = true := by
        have := mu_iff.1 (mu_trans hy (a := o) (c := o) (by omega) (by omega) (mu_symm o2) o2)
        simp [Sys.cov, this.1]
      obtain ⟨k, h, h1, h2⟩ := B.all o o1 hoo
      have b1 := (B.hh h (List.mem_of_getElem? h1)).1
      have hk : k ∈ ownL y hs n := own_mem.2 ⟨h, h1, mu_trans hy hn (by omega) o2 h2⟩
      have e1 : ks[o]? = some (some k) := (B.iff o k o1).2 ⟨h, h1, h2⟩
      simp only [lst1, hz, false_and, if_false, B.head hy hn hk, List.getD_eq_getElem?_getD, e1, Option.getD_some]
  · unfold lst1
    by_cases hc : ownL y hs n = [] ∧ y.cov n n = true
    · rw [if_pos hc]
      have hno : ∀ o, o < n → y.mu o n = true → False := fun o ho hm => hne o ho (mu_symm hm) hc.1
      have hnn : y.mu n n = true := by simp [Sys.mu, hc.2]
      have hget : ∀ (k h : Nat), (hs ++ [n])[k]? = some h → (hs[k]? = some h ∧ k < hs.length) ∨ (k = hs.length ∧ h = n) := fun k h e => by
        by_cases hk : k < hs.length
        · rw [List.getElem?_append_left hk] at e
          exact .inl ⟨e, hk⟩
        · have hk2 : k < (hs ++ [n]).length := (List.getElem?_eq_some_iff.1 e).1
          rw [List.length_append, List.length_singleton] at hk2
          have : k = hs.length := by omega
          subst this
          simp at e
          exact .inr ⟨rfl, e.symm⟩
      refine ⟨by simp [B.kl], by have := B.hl; simp; omega, fun h hh => ?_, fun i j h h' h1 h2 hm => ?_, fun o k ho => ?_, fun o ho hco => ?_⟩
      · rcases List.mem_append.1 hh with hh | hh
        · obtain ⟨a, b⟩ := B.hh h hh
          exact ⟨by omega, b⟩
        · rw [List.mem_singleton.1 hh]
          exact ⟨Nat.lt_succ_self _, hc.2⟩
      · rcases hget i h h1 with ⟨a, _⟩ | ⟨a, rfl⟩
        · rcases hget j h' h2 with ⟨b, _⟩ | ⟨b, rfl⟩
          · exact B.dis i j h h' a b hm
          · exact (hno h (B.hh h (List.mem_of_getElem? a)).1 hm).elim
        · rcases hget j h' h2 with ⟨b, _⟩ | ⟨b, rfl⟩
          · exact (hno h' (B.hh h' (List.mem_of_getElem? b)).1 (mu_symm hm)).elim
          · omega
      · by_cases e : o = n
        · subst e
          have hk : (ks ++ [some hs.length])[o]? = some (some hs.length) := by rw [← B.kl]; simp
          rw [hk]
          constructor
          · intro z
            have : k = hs.length := by simpa using z.symm
            subst this
            exact ⟨o, by simp, hnn⟩
          · rintro ⟨h, h1, h2⟩
            rcases hget k h h1 with ⟨a, _⟩ | ⟨a, rfl⟩
            · exact (hno h (B.hh h (List.mem_of_getElem? a)).1 (mu_symm h2)).elim
            · rw [a]
        · have ho' : o < n := by omega
          rw [List.getElem?_append_left (by rw [B.kl]; exact ho'), B.iff o k ho']
          constructor
          · rintro ⟨h, h1, h2⟩
            exact ⟨h, by rw [List.getElem?_append_left (List.getElem?_eq_some_iff.1 h1).1]; exact h1, h2⟩
          · rintro ⟨h, h1, h2⟩
            rcases hget k h h1 with ⟨a, _⟩ | ⟨a, rfl⟩
            · exact ⟨h, a, h2⟩
            · exact (hno o ho' h2).elim
      · by_cases e : o = n
        · subst e
          exact ⟨hs.length, o, by simp, hnn⟩
        · obtain ⟨k, h, h1, h2⟩ := B.all o (by omega) hco
          exact ⟨k, h, by rw [List.getElem?_append_left (List.getElem?_eq_some_iff.1 h1).1]; exact h1, h2⟩
    · rw [if_neg hc]
      refine ⟨by simp [B.kl], by have := B.hl; simp; omega, fun h hh => ?_, B.dis, fun o k ho => ?_, fun o ho hco => ?_⟩
      · obtain ⟨a, b⟩ := B.hh h hh
        exact ⟨by omega, b⟩
      · by_cases e : o = n
        · subst e
          have hk : (ks ++ [(ownL y hs o).head?])[o]? = some (ownL y hs o).head? := by
            have : o = ks.length := B.kl.symm
            rw [List.getElem?_append_right (by omega), this]
            simp
          rw [hk, ← own_mem]
          constructor
          · intro z
            exact List.mem_of_mem_head? (Option.some.inj z)
          · intro z
            rw [B.head hy hn z]
        · have ho' : o < n := by omega
          rw [List.getElem?_append_left (by rw [B.kl]; exact ho'), B.iff o k ho']
      · by_cases e : o = n
        · subst e
          have hz : ownL y hs o ≠ [] := fun z => hc ⟨z, hco⟩
          obtain ⟨k, h, hk, h1, h2, h3⟩ := hal hz
          exact ⟨k, h, h1, h3⟩
        · exact B.all o (by omega) hco
noncomputable def Sys.best (y : Sys) : List (Option Nat) := (lstN y y.ops.length).1
end VL
namespace VL
open PySem PySem.Spec PyProof.Rows L2

/-! ### the greatest right kinds: the program -/
noncomputable def Sys.bestD (y : Sys) : VL.D := VL.D.tup (y.best.map kD)
end VL
namespace VL
open PySem PySem.Spec PyProof.Rows L2

/-! ### the program's search by levels: the mathematics -/
def ltN : List Nat → List Nat → Bool
  | [], [] => false
  | [], _ :: _ => true
  | _ :: _, [] => false
  | a :: as, b :: bs => if a = b then ltN as bs else decide (a < b)
theorem ltN_iff : ∀ {a b : List Nat}, a.length = b.length → (ltN a b = true ↔ LexLt a b)
  | [], [], _ => ⟨fun h => (by cases h), fun h => (lexLt_nil h).elim⟩
  | [], _ :: _, h => by cases h
  | _ :: _, [], h => by cases h
  | a :: as, b :: bs, h => by
    rw [lexLt_iff]
    unfold ltN
    by_cases e : a = b
    · subst e
      rw [if_pos rfl, ltN_iff (by simpa using h)]
      simp
    · rw [if_neg e, decide_eq_true_eq]
      simp [e]
theorem lex_tri : ∀ {a b : List Nat}, a.length = b.length → a = b ∨ LexLt a b ∨ LexLt b a
  | [], [], _ => .inl rfl
  | [], _ :: _, h => by cases h
  | _ :: _, [], h => by cases h
  | a :: as, b :: bs, h => by
    rw [lexLt_iff, lexLt_iff]
    rcases Nat.lt_trichotomy a b with z | z | z
    · exact .inr (.inl (.inl z))
    · subst z
      rcases lex_tri (a := as) (b := bs) (by simpa using h) with e | e | e
      · exact .inl (by rw [e])
      · exact .inr (.inl (.inr ⟨rfl, e⟩))
      · exact .inr (.inr (.inr ⟨rfl, e⟩))
    · exact .inr (.inr (.inl z))
theorem lex_trans : ∀ {a b c : List Nat}, LexLt a b → LexLt b c → LexLt a c
  | [], _, _, h, _ => (lexLt_nil h).elim
  | _ :: _, [], _, _, h => (lexLt_nil h).elim
  | _ :: _, _ :: _, [], _, h => by
    obtain ⟨c, x, z, r1, r2, _, h2, _⟩ := h
    simp at h2
  | a :: as, b :: bs, c :: cs, h1, h2 => by
    rw [lexLt_iff] at h1 h2 ⊢
    rcases h1 with h1 | ⟨rfl, h1⟩
    · rcases h2 with h2 | ⟨rfl, h2⟩
      · exact .inl (by omega)
      · exact .inl h1
    · rcases h2 with h2 | ⟨rfl, h2⟩
      · exact .inl h2
      · exact .inr ⟨rfl, lex_trans h1 h2⟩
abbrev LeL (a b : List Nat) : Prop := b = a ∨ LexLt a b
theorem leL_trans {a b c : List Nat} (h1 : LeL a b) (h2 : LeL b c) : LeL a c := by
  rcases h1 with rfl | h1
  · exact h2
  · rcases h2 with rfl | h2
    · exact .inr h1
    · exact .inr (lex_trans h1 h2)
theorem leL_snoc {a b : List Nat} (h : LeL a b) (hl : a.length = b.length) {d e : Nat} (hde : a = b → d ≤ e) : LeL (a ++ [d]) (b ++ [e]) := by
  rcases h with rfl | h
  · have := hde rfl
    by_cases e2 : d = e
    · subst e2; exact .inl rfl
    · exact .inr ⟨b, d, e, [], [], rfl, rfl, by omega⟩
  · obtain ⟨c, x, z, r1, r2, rfl, rfl, hx⟩ := h
    exact .inr ⟨c, x, z, r1 ++ [d], r2 ++ [e], by simp, by simp, hx⟩
/-- the less one of two -/
def minL (a b : List Nat) : List Nat := if ltN b a = true then b else a
theorem minL_le {a b : List Nat} (h : a.length = b.length) : LeL (minL a b) a ∧ LeL (minL a b) b ∧ (minL a b = a ∨ minL a b = b) := by
  unfold minL
  by_cases e : ltN b a = true
  · rw [if_pos e]
    exact ⟨.inr ((ltN_iff h.symm).1 e), .inl rfl, .inr rfl⟩
  · rw [if_neg e]
    refine ⟨.inl rfl, ?_, .inl rfl⟩
    rcases lex_tri h with z | z | z
    · exact .inl z.symm
    · exact .inr z
    · exact absurd ((ltN_iff h.symm).2 z) e
/-! candidates and the best ones -/
abbrev Cd := (Nat × Nat) × List Nat
structure Best (n : Nat) (cs g : List Cd) : Prop where
  nd : (g.map (·.1)).Nodup
  mem : ∀ q v, (q, v) ∈ g ↔ (q, v) ∈ cs ∧ ∀ v', (q, v') ∈ cs → LeL v v'
  key : ∀ q v, (q, v) ∈ cs → ∃ w, (q, w) ∈ g
  len : ∀ q v, (q, v) ∈ cs → v.length = n
def insB (g : List Cd) (q : Nat × Nat) (v : List Nat) : List Cd :=
  match g.find? fun x => decide (x.1 = q) with
  | some x => g.map fun z => if z.1 = q then (z.1, minL x.2 v) else z
  | none => g ++ [(q, v)]
theorem Best.nil (n : Nat) : Best n [] [] := ⟨by simp, by simp, by simp, by simp⟩
theorem leL_anti {a b : List Nat} (h1 : LeL a b) (h2 : LeL b a) : a = b := by
  rcases h1 with rfl | h1
  · rfl
  · rcases h2 with rfl | h2
    · rfl
    · exact absurd h2 (lexLt_asymm h1)
theorem Best.ins {n : Nat} {cs g : List Cd} (B : Best n cs g) {q : Nat × Nat} {v : List Nat} (hv : v.length = n) : Best n (cs ++ [(q, v)]) (insB g q v) := by
  have hlen : ∀ q' v', (q', v') ∈ cs ++ [(q, v)] → v'.length = n := fun q' v' h => by
    rcases List.mem_append.1 h with h | h
    · exact B.len q' v' h
    · rw [(Prod.mk.inj (List.mem_singleton.1 h)).2]; exact hv
  unfold insB
  cases hf : g.find? fun x => decide (x.1 = q) with
  | some x =>
    have hx1 : x.1 = q := by have := List.find?_some hf; simpa using this
    have hxg : (q, x.2) ∈ g := by
      have := List.mem_of_find?_eq_some hf
      rw [← hx1]
      exact this
    obtain ⟨hxc, hxm⟩ := (B.mem q x.2).1 hxg
    have hxl := B.len q x.2 hxc
    obtain ⟨m1, m2, m3⟩ := minL_le (a := x.2) (b := v) (by omega)
    have hgm : ∀ q' v', (q', v') ∈ (g.map fun z => if z.1 = q then (z.1, minL x.2 v) else z) ↔ (q' ≠ q ∧ (q', v') ∈ g) ∨ (q' = q ∧ v' = minL x.2 v) := fun q' v' => by
      rw [List.mem_map]
      constructor
      · rintro ⟨z, hz, e⟩
        by_cases hzq : z.1 = q
        · rw [if_pos hzq] at e
          obtain ⟨e1, e2⟩ := Prod.mk.inj e
          exact .inr ⟨by rw [← e1]; exact hzq, e2.symm⟩
        · rw [if_neg hzq] at e
          subst e
          exact .inl ⟨hzq, hz⟩
      · rintro (⟨h1, h2⟩ | ⟨rfl, rfl⟩)
        · exact ⟨(q', v'), h2, by rw [if_neg h1]⟩
        · exact ⟨(q', x.2), hxg, by rw [if_pos rfl]⟩
    refine ⟨?_, fun q' v' => ?_, fun q' v' h => ?_, hlen⟩
    · have : (g.map fun z => if z.1 = q then (z.1, minL x.2 v) else z).map (·.1) = g.map (·.1) := by
        rw [List.map_map]
        refine List.map_congr_left fun z _ => ?_
        simp only [Function.comp]
        split <;> rfl
      rw [this]
      exact B.nd
    · rw [hgm, List.mem_append, List.mem_singleton]
      constructor
      · rintro (⟨h1, h2⟩ | ⟨rfl, rfl⟩)
        · obtain ⟨a, b⟩ := (B.mem q' v').1 h2
          refine ⟨.inl a, fun v'' h => ?_⟩
          rcases List.mem_append.1 h with h | h
          · exact b v'' h
          · exact absurd (Prod.mk.inj (List.mem_singleton.1 h)).1 h1
        · refine ⟨?_, fun v'' h => ?_⟩
          · rcases m3 with e | e
            · rw [e]; exact .inl hxc
            · rw [e]; exact .inr rfl
          · rcases List.mem_append.1 h with h | h
            · exact leL_trans m1 (hxm v'' h)
            · rw [(Prod.mk.inj (List.mem_singleton.1 h)).2]; exact m2
      · rintro ⟨h1, h2⟩
        by_cases e : q' = q
        · subst e
          refine .inr ⟨rfl, ?_⟩
          have a1 : LeL v' x.2 := h2 x.2 (List.mem_append_left _ hxc)
          have a2 : LeL v' v := h2 v (by simp)
          have a3 : LeL v' (minL x.2 v) := by rcases m3 with e | e <;> rw [e] <;> assumption
          have a4 : LeL (minL x.2 v) v' := by
            rcases h1 with h1 | h1
            · exact leL_trans m1 (hxm v' h1)
            · rw [(Prod.mk.inj h1).2]; exact m2
          exact leL_anti a3 a4
        · refine .inl ⟨e, (B.mem q' v').2 ⟨?_, fun v'' h => h2 v'' (List.mem_append_left _ h)⟩⟩
          rcases h1 with h1 | h1
          · exact h1
          · exact absurd (Prod.mk.inj h1).1 e
    · rcases List.mem_append.1 h with h | h
      · obtain ⟨w, hw⟩ := B.key q' v' h
        by_cases e : q' = q
        · exact ⟨_, (hgm q' _).2 (.inr ⟨e, rfl⟩)⟩
        · exact ⟨w, (hgm q' w).2 (.inl ⟨e, hw⟩)⟩
      · exact ⟨_, (hgm q' _).2 (.inr ⟨(Prod.mk.inj (List.mem_singleton.1 h)).1, rfl⟩)⟩
  | none =>
    have hno : ∀ w, (q, w) ∉ g := fun w h => by
      have := List.find?_eq_none.1 hf _ h
      simp at this
    have hnc : ∀ w, (q, w) ∉ cs := fun w h => by
      obtain ⟨u, hu⟩ := B.key q w h
      exact hno u hu
    refine ⟨?_, fun q' v' => ?_, fun q' v' h => ?_, hlen⟩
    · rw [List.map_append]
      refine List.nodup_append.2 ⟨B.nd, by simp, fun a ha b hb e => ?_⟩
      obtain ⟨⟨z, w⟩, hz, rfl⟩ := List.mem_map.1 ha
      have : b = q := by simpa using hb
      subst this
      subst e
      exact hno w hz
    · rw [List.mem_append, List.mem_singleton, List.mem_append, List.mem_singleton, B.mem]
      constructor
      · rintro (⟨h1, h2⟩ | h)
        · refine ⟨.inl h1, fun v'' h => ?_⟩
          rcases List.mem_append.1 h with h | h
          · exact h2 v'' h
          · have e := (Prod.mk.inj (List.mem_singleton.1 h)).1
            subst e
            exact absurd h1 (hnc _)
        · obtain ⟨rfl, rfl⟩ := Prod.mk.inj h
          refine ⟨.inr rfl, fun v'' h => ?_⟩
          rcases List.mem_append.1 h with h | h
          · exact absurd h (hnc _)
          · exact .inl (Prod.mk.inj (List.mem_singleton.1 h)).2
      · rintro ⟨h1 | h1, h2⟩
        · exact .inl ⟨h1, fun v'' h => h2 v'' (List.mem_append_left _ h)⟩
        · exact .inr h1
    · rcases List.mem_append.1 h with h | h
      · obtain ⟨w, hw⟩ := B.key q' v' h
        exact ⟨w, List.mem_append_left _ hw⟩
      · have e := (Prod.mk.inj (List.mem_singleton.1 h)).1
        exact ⟨v, by rw [e]; simp⟩
/-! levels -/
section
variable (y : Sys) (P : List (Nat × Nat))
def Rch (p : Nat × Nat) (w : List Nat) : Prop := Vl y w ∧ ∃ p0 ∈ P, y.runP p0 w = p
structure MinR (p : Nat × Nat) (n : Nat) : Prop where
  hit : ∃ w, Rch y P p w ∧ w.length = n
  min : ∀ w, Rch y P p w → n ≤ w.length
structure Found (n : Nat) (f : List Cd) : Prop where
  nd : (f.map (·.1)).Nodup
  mem : ∀ p w, (p, w) ∈ f ↔ MinR y P p n ∧ (Rch y P p w ∧ w.length = n) ∧ ∀ w', Rch y P p w' → w'.length = n → LeL w w'
  key : ∀ p, MinR y P p n → ∃ w, (p, w) ∈ f
structure Seen (n : Nat) (l : List (Nat × Nat)) : Prop where
  nd : l.Nodup
  mem : ∀ p, p ∈ l ↔ ∃ m, m < n ∧ MinR y P p m
end
section
variable {y : Sys} {P : List (Nat × Nat)} {p q : Nat × Nat} {n m : Nat} {w : List Nat} {f g : List Cd} {l : List (Nat × Nat)}
theorem MinR.uniq (h : MinR y P p n) (h' : MinR y P p m) : n = m := by
  obtain ⟨w, hw, e⟩ := h.hit
  obtain ⟨w', hw', e'⟩ := h'.hit
  have := h.min w' hw'
  have := h'.min w hw
  omega
theorem minR_ex (h : Rch y P p w) : ∃ d, d ≤ w.length ∧ MinR y P p d := by
  induction hn : w.length using Nat.strongRecOn generalizing w with
  | _ n ih =>
    by_cases hx : ∃ w', Rch y P p w' ∧ w'.length < n
    · obtain ⟨w', h1, h2⟩ := hx
      obtain ⟨d, h3, h4⟩ := ih w'.length h2 h1 rfl
      exact ⟨d, by omega, h4⟩
    · exact ⟨n, Nat.le_refl _, ⟨⟨w, h, hn⟩, fun w' hw' => Nat.le_of_not_lt fun z => hx ⟨w', hw', z⟩⟩⟩
theorem Rch.snoc (h : Rch y P p w) {e : Nat} (he : e < y.ops.length) : Rch y P (y.stepP e p) (w ++ [e]) := by
  obtain ⟨hv, p0, hp0, rfl⟩ := h
  exact ⟨hv.snoc he, p0, hp0, runP_snoc ..⟩
theorem Rch.split {e : Nat} (h : Rch y P p (w ++ [e])) : e < y.ops.length ∧ ∃ q, Rch y P q w ∧ y.stepP e q = p := by
  obtain ⟨hv, p0, hp0, rfl⟩ := h
  exact ⟨hv e (by simp), y.runP p0 w, ⟨fun x hx => hv x (List.mem_append_left _ hx), p0, hp0, rfl⟩, (runP_snoc ..).symm⟩
/-- on the way to one first reached at n + 1, each is first reached at n -/
theorem MinR.prev {e : Nat} (h : MinR y P p (n + 1)) (hq : Rch y P q w) (hl : w.length = n) (he : e < y.ops.length) (es : y.stepP e q = p) : MinR y P q n := by
  refine ⟨⟨w, hq, hl⟩, fun w' hw' => ?_⟩
  have := h.min (w' ++ [e]) (es ▸ hw'.snoc he)
  simp only [List.length_append, List.length_singleton] at this
  omega
def cands (y : Sys) (f : List Cd) : List Cd := f.flatMap fun x => (List.range y.ops.length).map fun e => (y.stepP e x.1, x.2 ++ [e])
theorem cands_mem : (q, w) ∈ cands y f ↔ ∃ p u e, (p, u) ∈ f ∧ e < y.ops.length ∧ q = y.stepP e p ∧ w = u ++ [e] := by
  unfold cands
  rw [List.mem_flatMap]
  constructor
  · rintro ⟨⟨p, u⟩, h1, h2⟩
    obtain ⟨e, he, h3⟩ := List.mem_map.1 h2
    obtain ⟨h4, h5⟩ := Prod.mk.inj h3
    exact ⟨p, u, e, h1, List.mem_range.1 he, h4.symm, h5.symm⟩
  · rintro ⟨p, u, e, h1, h2, rfl, rfl⟩
    exact ⟨(p, u), h1, List.mem_map.2 ⟨e, List.mem_range.2 h2, rfl⟩⟩
/-- a level more: what is new of the best candidates -/
theorem Found.next (F : Found y P n f) (B : Best (n + 1) (cands y f) g) (S : Seen y P (n + 1) l) : Found y P (n + 1) (g.filter fun x => decide (x.1 ∉ l)) := by
  have snoc_of : ∀ w : List Nat, w.length = n + 1 → ∃ u e, w = u ++ [e] ∧ u.length = n := fun w hl => by
    have e := List.dropLast_concat_getLast (l := w) (by intro z; subst z; cases hl)
    exact ⟨w.dropLast, w.getLast (by intro z; subst z; cases hl), e.symm, by simp [hl]⟩
  have hnew : ∀ p, MinR y P p (n + 1) → p ∉ l := fun p hm hp => by
    obtain ⟨m, h1, h2⟩ := (S.mem p).1 hp
    have := h2.uniq hm
    omega
  have cand_of : ∀ p w, MinR y P p (n + 1) → Rch y P p w → w.length = n + 1 → ∃ q b e, (q, b) ∈ f ∧ e < y.ops.length ∧ y.stepP e q = p ∧ Rch y P p (b ++ [e]) ∧ (b ++ [e]).length = n + 1 ∧ LeL (b ++ [e]) w := fun p w hm hw hl => by
    obtain ⟨u, e, rfl, hul⟩ := snoc_of w hl
    obtain ⟨he, q, hq, es⟩ := hw.split
    have hqm := hm.prev hq hul he es
    obtain ⟨b, hb⟩ := F.key q hqm
    obtain ⟨_, ⟨g2, g3⟩, g4⟩ := (F.mem q b).1 hb
    exact ⟨q, b, e, hb, he, es, es ▸ g2.snoc he, by simp [g3], leL_snoc (g4 u hq hul) (by omega) fun _ => Nat.le_refl _⟩
  have rch_of : ∀ q v, (q, v) ∈ cands y f → Rch y P q v ∧ v.length = n + 1 := fun q v h => by
    obtain ⟨p, u, e, h1, h2, rfl, rfl⟩ := cands_mem.1 h
    obtain ⟨_, ⟨f2, f3⟩, _⟩ := (F.mem p u).1 h1
    exact ⟨f2.snoc h2, by simp [f3]⟩
  refine ⟨List.Nodup.sublist (List.Sublist.map _ List.filter_sublist) B.nd, fun p w => ?_, fun p hm => ?_⟩
  · rw [List.mem_filter, decide_eq_true_eq, B.mem]
    constructor
    · rintro ⟨⟨h1, hb⟩, hn⟩
      obtain ⟨hr, hl⟩ := rch_of p w h1
      obtain ⟨d, hd, hm⟩ := minR_ex hr
      have hd1 : d = n + 1 := by
        by_cases hlt : d < n + 1
        · exact absurd ((S.mem p).2 ⟨d, hlt, hm⟩) hn
        · omega
      subst hd1
      refine ⟨hm, ⟨hr, hl⟩, fun w' hw' hl' => ?_⟩
      obtain ⟨q, b, e, hb1, he, es, _, _, hle⟩ := cand_of p w' hm hw' hl'
      exact leL_trans (hb (b ++ [e]) (cands_mem.2 ⟨q, b, e, hb1, he, es.symm, rfl⟩)) hle
    · rintro ⟨hm, ⟨hr, hl⟩, hb⟩
      obtain ⟨q, b, e, hb1, he, es, hbr, hbl, hle⟩ := cand_of p w hm hr hl
      have e1 : b ++ [e] = w := leL_anti hle (hb _ hbr hbl)
      refine ⟨⟨cands_mem.2 ⟨q, b, e, hb1, he, es.symm, e1.symm⟩, fun v' hv' => ?_⟩, hnew p hm⟩
      obtain ⟨h3, h4⟩ := rch_of p v' hv'
      exact hb v' h3 h4
  · obtain ⟨w, hw, hl⟩ := hm.hit
    obtain ⟨q, b, e, hb1, he, es, _, _, _⟩ := cand_of p w hm hw hl
    obtain ⟨v, hv⟩ := B.key p (b ++ [e]) (cands_mem.2 ⟨q, b, e, hb1, he, es.symm, rfl⟩)
    exact ⟨v, List.mem_filter.2 ⟨hv, decide_eq_true (hnew p hm)⟩⟩
theorem Seen.next (F : Found y P n f) (S : Seen y P n l) : Seen y P (n + 1) (l ++ f.map (·.1)) := by
  refine ⟨List.nodup_append.2 ⟨S.nd, F.nd, fun a ha b hb e => ?_⟩, fun p => ?_⟩
  · subst e
    obtain ⟨m, h1, h2⟩ := (S.mem a).1 ha
    obtain ⟨⟨q, w⟩, hq, rfl⟩ := List.mem_map.1 hb
    have := ((F.mem q w).1 hq).1.uniq h2
    omega
  · rw [List.mem_append, S.mem, List.mem_map]
    constructor
    · rintro (⟨m, h1, h2⟩ | ⟨⟨q, w⟩, hq, rfl⟩)
      · exact ⟨m, by omega, h2⟩
      · exact ⟨n, Nat.lt_succ_self _, ((F.mem q w).1 hq).1⟩
    · rintro ⟨m, h1, h2⟩
      by_cases e : m = n
      · subst e
        obtain ⟨w, hw⟩ := F.key p h2
        exact .inr ⟨(p, w), hw, rfl⟩
      · exact .inl ⟨m, by omega, h2⟩
/-- where the search ends -/
theorem Rch.at_hit {E : List (Nat × Nat)} {p0 : Nat × Nat} (hp : p0 ∈ P) (h : Hit y E p0 w) : Rch y P (y.runP p0 w) w := ⟨h.1, p0, hp, rfl⟩
theorem Found.first {E : List (Nat × Nat)} (F : Found y P n f) (hno : ∀ m, m < n → ∀ p, MinR y P p m → p ∉ E) {v : List Nat} (h1 : ∃ p, (p, v) ∈ f ∧ p ∈ E) (h2 : ∀ p w, (p, w) ∈ f → p ∈ E → LeL v w) : FirstLog y E P v := by
  have hmin : ∀ w', (∃ p ∈ P, Hit y E p w') → n ≤ w'.length ∧ (w'.length = n → ∃ q, MinR y P q n ∧ Rch y P q w' ∧ q ∈ E) := by
    rintro w' ⟨p0, hp0, hh⟩
    have hr := Rch.at_hit hp0 hh
    obtain ⟨d, hd, hm⟩ := minR_ex hr
    have hdn : n ≤ d := Nat.le_of_not_lt fun z => hno d z _ hm hh.2
    refine ⟨by omega, fun hl => ?_⟩
    have : d = n := by omega
    subst this
    exact ⟨_, hm, hr, hh.2⟩
  obtain ⟨p, hp, hpE⟩ := h1
  obtain ⟨_, ⟨⟨hv, p0, hp0, e⟩, hl⟩, _⟩ := (F.mem p v).1 hp
  refine ⟨⟨p0, hp0, hv, by rw [e]; exact hpE⟩, fun w' hw' => by have := (hmin w' hw').1; omega, fun w' hw' hl' => ?_⟩
  obtain ⟨q, hqm, hqr, hqE⟩ := (hmin w' hw').2 (by omega)
  obtain ⟨b, hb⟩ := F.key q hqm
  have h3 := h2 q b hb hqE
  have h4 := ((F.mem q b).1 hb).2.2 w' hqr (by omega)
  exact leL_trans h3 h4
theorem Found.last {E : List (Nat × Nat)} (F : Found y P n []) (hno : ∀ m, m < n → ∀ p, MinR y P p m → p ∉ E) : ∀ p ∈ P, ∀ w, ¬ Hit y E p w := by
  intro p0 hp0 w hh
  have hempty : ∀ k p, ¬ MinR y P p (n + k) := by
    intro k
    induction k with
    | zero =>
      intro p hm
      obtain ⟨w, hw⟩ := F.key p hm
      cases hw
    | succ k ih =>
      intro p hm
      obtain ⟨w, hw, hl⟩ := hm.hit
      have e := List.dropLast_concat_getLast (l := w) (by intro z; subst z; simp at hl)
      rw [← e] at hw
      obtain ⟨he, q, hq, es⟩ := hw.split
      exact ih q (MinR.prev (n := n + k) hm hq (by simp [hl]) he es)
  have hr := Rch.at_hit hp0 hh
  obtain ⟨d, _, hm⟩ := minR_ex hr
  by_cases hd : d < n
  · exact hno d hd _ hm hh.2
  · obtain ⟨k, rfl⟩ : ∃ k, d = n + k := ⟨d - n, by omega⟩
    exact hempty k _ hm
theorem Found.start {Q : List (Nat × Nat)} (h : Q.Nodup) (hQ : ∀ p, p ∈ Q ↔ p ∈ P) : Found y P 0 (Q.map fun p => (p, [])) := by
  have hm0 : ∀ p, MinR y P p 0 ↔ p ∈ Q := fun p => by
    rw [hQ]
    constructor
    · rintro ⟨⟨w, ⟨_, p0, hp0, e⟩, hl⟩, _⟩
      rw [List.length_eq_zero_iff] at hl
      subst hl
      rw [← e]
      exact hp0
    · intro hp
      exact ⟨⟨[], ⟨(fun _ z => nomatch z), p, hp, rfl⟩, rfl⟩, fun _ _ => Nat.zero_le _⟩
  refine ⟨?_, fun p w => ?_, fun p hp => ⟨[], List.mem_map.2 ⟨p, (hm0 p).1 hp, rfl⟩⟩⟩
  · rw [List.map_map, show ((fun x : Cd => x.1) ∘ fun p : Nat × Nat => (p, [])) = id from rfl, List.map_id]
    exact h
  · rw [hm0, List.mem_map]
    constructor
    · rintro ⟨q, hq, e⟩
      obtain ⟨rfl, rfl⟩ := Prod.mk.inj e
      refine ⟨hq, ⟨⟨(fun _ z => nomatch z), q, (hQ q).1 hq, rfl⟩, rfl⟩, fun w' _ hl => ?_⟩
      rw [List.length_eq_zero_iff] at hl
      exact .inl hl
    · rintro ⟨h1, ⟨_, h2⟩, _⟩
      rw [List.length_eq_zero_iff] at h2
      subst h2
      exact ⟨p, h1, rfl⟩
end
end VL
namespace VL
open PySem PySem.Spec PyProof.Rows L2

/-! ### longer -/
abbrev cP : Cd → Nat × Nat := fun x => x.1
abbrev cV : Cd → D := fun x => logD x.2
end VL
namespace VL
open PySem PySem.Spec PyProof.Rows L2

/-! ### pieces of first_log -/
def pyG (l : List Nat) : PyData := .tuple (pyL l)
/-! a dict's making, sifted -/
end VL
namespace VL
open PySem PySem.Spec PyProof.Rows L2

/-! ### first_log, whatever class its test is of -/
noncomputable def flB (tab : List (Str × FM)) : FM := mFn 8 (mSeq (mAsg (mTup (mCons (mDcT (mSrc (mVar 1)) (.one 6) mYes (mVar 6) (mTup mNil) [6]) (mCons (mLst mNil) mNil))) (gT 2 (gConsM (gN 3) (gConsM (gN 4) gNilM))))
  (mSeq (mWhile (mB (mBin opNeE (mVar 3) mNewT))
  (mSeq (mAsg (mLcF finL (mItems (mVar 3)) (.many [6, 7]) (mB (mCallI tab (mVar 2) (mCons (mVar 6) mNil))) (mVar 7) [6, 7]) (gN 5))
  (mSeq (mIfS (mB (mBin opNe (mVar 5) (mLst mNil)))
  (mRet (mCall fMinT (mCons (mVar 5) mNil)))
  mSkip)
  (mSeq (mAsg (mBin opAdd (mVar 4) (mCall fListOU (mCons (mVar 3) mNil))) (gN 4))
  (mAsg (mDcT (mItems (mUser m_longer (mCons (mVar 0) (mCons (mVar 3) mNil)))) (.many [6, 7]) (mB (mBin opNotIn (mVar 6) (mVar 4))) (mVar 6) (mVar 7) [6, 7]) (gN 3))))) 2000)
  (mRet (mC .non))))
theorem Found.lt {y : Sys} (hy : y.Ok) {P : List (Nat × Nat)} (hP : ∀ p ∈ P, Lt y p) {k : Nat} {f : List Cd} (F : Found y P k f) : ∀ p w, (p, w) ∈ f → Lt y p ∧ w.length = k := fun p w h => by
  obtain ⟨_, ⟨⟨hv, p0, hp0, rfl⟩, hl⟩, _⟩ := (F.mem p w).1 h
  exact ⟨runP_lt hy hv (hP p0 hp0), hl⟩
theorem MinR.lt {y : Sys} (hy : y.Ok) {P : List (Nat × Nat)} (hP : ∀ p ∈ P, Lt y p) {p : Nat × Nat} {k : Nat} (h : MinR y P p k) : Lt y p := by
  obtain ⟨w, ⟨hv, p0, hp0, rfl⟩, _⟩ := h.hit
  exact runP_lt hy hv (hP p0 hp0)
end VL
namespace VL
open PySem PySem.Spec PyProof.Rows L2

/-! ### first logs between: both sides told as one -/
open Classical in
noncomputable def btwD (y : Sys) (E P : List (Nat × Nat)) : D := if h : ∃ w, FirstLog y E P w then logD h.choose else .non
end VL
namespace VL
open PySem PySem.Spec PyProof.Rows L2

/-! ### operations delivered again: Moved, both sides -/
def Sys.endsM (y : Sys) (b : Nat) : List (Nat × Nat) := ((List.range y.many).filter fun st => !decide (y.step st b = st)).map fun st => (st, st)
def Sys.startsM (y : Sys) (b : Nat) : List (Nat × Nat) := y.reach.map fun st => (y.step st b, y.step st b)
def Sys.endsP (y : Sys) (b : Nat) : List (Nat × Nat) := (prs y.many).filter fun p => !decide (y.step p.1 b = p.1)
theorem FirstLog.congr {y : Sys} {E E' P : List (Nat × Nat)} (h : ∀ p ∈ P, ∀ w, Hit y E p w ↔ Hit y E' p w) {w : List Nat} (F : FirstLog y E P w) : FirstLog y E' P w := by
  have h2 : ∀ w, (∃ p ∈ P, Hit y E' p w) → ∃ p ∈ P, Hit y E p w := fun w ⟨p, hp, hh⟩ => ⟨p, hp, (h p hp w).2 hh⟩
  obtain ⟨p, hp, hh⟩ := F.hit
  exact ⟨⟨p, hp, (h p hp w).1 hh⟩, fun w' hw' => F.min w' (h2 w' hw'), fun w' hw' => F.lex w' (h2 w' hw')⟩
/-- the program's unsteady: from its body on -/
noncomputable def unsB : FM := mFn 4 (mSeq (mDrop (mUser m_need_system (mCons (mVar 0) mNil)))
  (mSeq (mDrop (mUser m_need_operation (mCons (mVar 0) (mCons (mVar 1) mNil))))
  (mSeq (mAsg (mBin opIx (mBin opIx (mVar 0) (mC (.int 2))) (mVar 1)) (gN 2))
  (mRet (mUser (flB [("Moved", m_Moved_call)]) (mCons (mVar 0) (mCons (mLc (mSrc (mUser m_reached (mCons (mVar 0) mNil))) (.one 3) mYes (mTup (mCons (mBin opIx (mVar 2) (mVar 3)) (mCons (mBin opIx (mVar 2) (mVar 3)) mNil))) [3]) (mCons (mNew "Moved" m_Moved_init (mCons (mVar 2) mNil)) mNil))))))))
end VL
namespace VL
open PySem PySem.Spec PyProof.Rows L2

/-! ### for k21, k26: thinning, steadiness -/
/-- an operation that may be delivered again -/
def Sys.Steady (y : Sys) (b : Nat) : Prop := ∀ st ∈ y.reach, ∀ w, Vl y w → y.step (y.run (y.step st b) w) b = y.run (y.step st b) w
end VL
namespace VL
open PySem PySem.Spec PyProof.Rows L2

/-! ### is_telling, shows_uncovered -/
def Sys.tell (y : Sys) (a b : Nat) (w : List Nat) : Bool := y.reach.any fun st => !decide (y.run st (a :: (w ++ [b])) = y.run st (w ++ [b]))
end VL
namespace VL
open PySem PySem.Spec PyProof.Rows L2

/-! ### k21: one pair of operations -/
theorem apart_eq {y : Sys} (hy : y.Ok) {a b : List Nat} (la : a.length ≤ 1000) (lb : b.length ≤ 1000) (ha : Vl y a) (hb : Vl y b) (s : S) : m_apart [y.D, logD a, logD b] s = .ok (kD (y.apart a b)) (s ++ gar m_apart [y.D, logD a, logD b] s) := eq_gar (apart_ok hy la lb ha hb s)
noncomputable def twoB : FM := mFn 9 (mSeq (mAsg (mUser m_uncovered (mCons (mVar 1) (mCons (mVar 2) (mCons (mVar 3) mNil)))) (gN 5))
(mSeq (mIfS (mOrT (mB (mBin opNe (mBin opIsN (mVar 5) (mC .non)) (mVar 4))) (mB (mBin opNotB (mUser m_shows_uncovered (mCons (mVar 1) (mCons (mVar 2) (mCons (mVar 3) (mCons (mVar 5) mNil))))) (mC (.bl true)))))
(mRet (mC (.bl false)))
mSkip)
(mSeq (mIfS (mB (mBin opNotN (mVar 5) (mC .non)))
(mRet (mBin opNotN (mUser m_apart (mCons (mVar 1) (mCons (mBin opAdd (mBin opAdd (mTup (mCons (mVar 2) mNil)) (mVar 5)) (mTup (mCons (mVar 3) mNil))) (mCons (mBin opAdd (mVar 5) (mTup (mCons (mVar 3) mNil))) mNil)))) (mC .non)))
mSkip)
(mSeq (mFor (mRng1 (mCons (mC (.int 3)) mNil)) (gN 6)
(mSeq (mPar 7 8 (mCons (mUser m__law_log (mCons (mVar 0) (mCons (mVar 1) (mCons (mC (.int 6)) mNil)))) (mCons (mUser m__law_log (mCons (mVar 0) (mCons (mVar 1) (mCons (mC (.int 4)) mNil)))) mNil)))
(mSeq (mIfS (mB (mBin opNotN (mUser m_apart (mCons (mVar 1) (mCons (mBin opAdd (mBin opAdd (mTup (mCons (mVar 2) mNil)) (mVar 7)) (mTup (mCons (mVar 3) mNil))) (mCons (mBin opAdd (mVar 7) (mTup (mCons (mVar 3) mNil))) mNil)))) (mC .non)))
(mRet (mC (.bl false)))
mSkip)
(mSeq (mAsg (mBin opAdd (mVar 7) (mTup (mCons (mVar 3) mNil))) (gN 7))
(mIfS (mB (mBin opNe (mUser m_outcome (mCons (mVar 1) (mCons (mBin opAdd (mBin opAdd (mVar 8) (mTup (mCons (mVar 2) mNil))) (mVar 7)) mNil))) (mUser m_outcome (mCons (mVar 1) (mCons (mBin opAdd (mVar 8) (mVar 7)) mNil)))))
(mRet (mC (.bl false)))
mSkip)))))
(mRet (mBin opIsB (mUser m_shows_uncovered (mCons (mVar 1) (mCons (mVar 2) (mCons (mVar 3) (mCons (mTup mNil) mNil))))) (mC (.bl false))))))))
end VL
/-! all different orders of a log -/
namespace VL
open PySem PySem.Spec PyProof.Rows L2

noncomputable def gOrB (o : FGen) : MY := (mYCons (mYIf (mB (mBin opEq (mVar 0) (mTup mNil)))
(mYCons (mYY fQUnit)
mYNil)
mYNil)
(mYCons (mYFE 0 (gT 2 (gConsM (gN 1) (gConsM (gN 2) gNilM)))
(mYCons (mYIf (mB (mBin opNotIn (mVar 2) (mSl (mVar 0) mNo (mPart (mVar 1)))))
(mYCons (mYFG (mGX 1 o (mCons (mBin opAdd (mSl (mVar 0) mNo (mPart (mVar 1))) (mSl (mVar 0) (mPart (mBin opAdd (mVar 1) (mC (.int 1)))) mNo)) mNil)) 3 (fQCons 2 3))
mYNil)
mYNil)
mYNil))
mYNil))
noncomputable def gOrd : Nat → FGen
  | 0 => fun _ => none
  | n + 1 => mGen 4 (gOrB (gOrd n))
noncomputable def gOrders : FGen := mGen 3 (mYCons (mYP (mDrop (mUser m_need_system (mCons (mVar 0) mNil))))
(mYCons (mYP (mDrop (mUser m_need_log (mCons (mVar 0) (mCons (mVar 1) mNil)))))
(mYCons (mYP (mIfS (mB (mBin opGt (mCall fLen (mCons (mVar 1) mNil)) (mC (.int 6))))
mBad
mSkip))
(mYCons (mYFG (mGX 1 (gOrd 7) (mCons (mCall fTuple (mCons (mCall fSortedTp (mCons (mVar 1) mNil)) mNil)) mNil)) 2 (fQVar 2))
mYNil))))
/-! ### as lists of numbers -/
def ordG (f : List Nat → List (List Nat)) : List Nat → List Nat → List (List Nat)
  | _, [] => []
  | pre, e :: rest => (if pre.contains e then [] else (f (pre ++ rest)).map (e :: ·)) ++ ordG f (pre ++ [e]) rest
def ordN : Nat → List Nat → List (List Nat)
  | 0, _ => []
  | n + 1, l => (if l = [] then [[]] else []) ++ ordG (ordN n) [] l
abbrev zL (l : List Nat) : List Int := l.map fun (k : Nat) => (k : Int)
theorem tupI_zL (l : List Nat) : tupI (zL l) = logD l := by
  unfold tupI zL logD
  rw [List.map_map]
  rfl
theorem mem_ordG {f : List Nat → List (List Nat)} {x : List Nat} : ∀ {rest pre : List Nat}, x ∈ ordG f pre rest ↔ ∃ a e b y, rest = a ++ e :: b ∧ e ∉ pre ++ a ∧ y ∈ f (pre ++ a ++ b) ∧ x = e :: y
  | [], pre => by simp [ordG]
  | e :: rest, pre => by
    unfold ordG
    rw [List.mem_append, mem_ordG]
    constructor
    · rintro (h | ⟨a, e', b, y, rfl, h2, h3, rfl⟩)
      · split at h
        · cases h
        · rename_i hc
          obtain ⟨y, hy, rfl⟩ := List.mem_map.1 h
          exact ⟨[], e, rest, y, rfl, by simpa using hc, by simpa using hy, rfl⟩
      · exact ⟨e :: a, e', b, y, rfl, by simpa using h2, by simpa using h3, rfl⟩
    · rintro ⟨a, e', b, y, h1, h2, h3, rfl⟩
      cases a with
      | nil =>
        obtain ⟨rfl, rfl⟩ := List.cons.inj h1
        refine .inl ?_
        rw [if_neg (by simpa using h2)]
        exact List.mem_map.2 ⟨y, by simpa using h3, rfl⟩
      | cons a0 a =>
        obtain ⟨rfl, rfl⟩ := List.cons.inj h1
        exact .inr ⟨a, e', b, y, rfl, by simpa using h2, by simpa using h3, rfl⟩
theorem mem_ordN : ∀ {n : Nat} {l x : List Nat}, l.length < n → (x ∈ ordN n l ↔ x.Perm l)
  | 0, _, _, h => absurd h (Nat.not_lt_zero _)
  | n + 1, l, x, h => by
    unfold ordN
    rw [List.mem_append, mem_ordG]
    constructor
    · rintro (h1 | ⟨a, e, b, y, rfl, h2, h3, rfl⟩)
      · split at h1
        · rename_i e
          subst e
          rw [List.mem_singleton.1 h1]
        · cases h1
      · have ih := (mem_ordN (n := n) (l := a ++ b) (x := y) (by simp at h ⊢; omega)).1 (by simpa using h3)
        exact (ih.cons e).trans List.perm_middle.symm
    · intro p
      cases x with
      | nil =>
        rw [List.nil_perm.1 p]
        exact .inl (by simp)
      | cons e y =>
        have me : e ∈ l := p.mem_iff.1 (.head _)
        obtain ⟨a, b, rfl, hn⟩ := List.eq_append_cons_of_mem me
        refine .inr ⟨a, e, b, y, rfl, by simpa using hn, ?_, rfl⟩
        exact (mem_ordN (n := n) (l := [] ++ a ++ b) (x := y) (by simp at h ⊢; omega)).2 ((List.perm_cons e).1 (show (e :: y).Perm (e :: (a ++ b)) from p.trans List.perm_middle))
theorem lexZ_cons (a b : Nat) (x y : List Nat) : HT.lexLt (zL (a :: x)) (zL (b :: y)) = if a = b then HT.lexLt (zL x) (zL y) else decide (a < b) := by
  show HT.lexLt ((a : Int) :: zL x) ((b : Int) :: zL y) = _
  rw [HT.lexLt_cons]
  by_cases h : a = b
  · subst h
    rw [if_pos rfl, if_pos rfl]
  · rw [if_neg (by omega), if_neg h]
    simp
theorem rise_ordG {f : List Nat → List (List Nat)} : ∀ {rest pre : List Nat}, (∀ b c, b ++ c = pre ++ rest ∨ True → True) → (pre ++ rest).Pairwise (· ≤ ·) → (∀ a e b, rest = a ++ e :: b → Rise ((f (pre ++ a ++ b)).map zL)) → Rise ((ordG f pre rest).map zL)
  | [], pre, _, _, _ => by simp [ordG, Rise]
  | e :: rest, pre, h0, hp, hf => by
    unfold ordG
    rw [List.map_append]
    refine List.pairwise_append.2 ⟨?_, rise_ordG (rest := rest) (pre := pre ++ [e]) (fun _ _ _ => trivial) (by simpa using hp) fun a e' b hr => ?_, ?_⟩
    · split
      · exact .nil
      · have z := hf [] e rest rfl
        rw [List.append_nil] at z
        rw [List.map_map]
        refine List.pairwise_map.2 ((List.pairwise_map.1 z).imp fun {x y} k => ?_)
        show HT.lexLt (zL (e :: x)) (zL (e :: y)) = true
        rw [lexZ_cons, if_pos rfl]
        exact k
    · have z := hf (e :: a) e' b (by rw [hr]; rfl)
      simpa using z
    · intro x hx y hy
      obtain ⟨x0, hx0, rfl⟩ := List.mem_map.1 hx
      obtain ⟨y0, hy0, rfl⟩ := List.mem_map.1 hy
      split at hx0
      · cases hx0
      · obtain ⟨x', _, rfl⟩ := List.mem_map.1 hx0
        obtain ⟨a, e', b, y', rfl, h2, h3, rfl⟩ := mem_ordG.1 hy0
        have ne : e ≠ e' := fun z => h2 (by simp [z])
        have le : e ≤ e' := by
          have := (List.pairwise_append.1 hp).2.1
          exact (List.pairwise_cons.1 this).1 e' (by simp)
        rw [lexZ_cons, if_neg ne]
        exact decide_eq_true (Nat.lt_of_le_of_ne le ne)
theorem rise_ordN : ∀ {n : Nat} {l : List Nat}, l.Pairwise (· ≤ ·) → Rise ((ordN n l).map zL)
  | 0, _, _ => .nil
  | n + 1, l, h => by
    unfold ordN
    cases l with
    | nil => simp [ordG, Rise]
    | cons e l =>
      rw [if_neg (by simp), List.nil_append]
      refine rise_ordG (fun _ _ _ => trivial) h fun a e' b hr => ?_
      rw [List.nil_append]
      refine rise_ordN (h.sublist ?_)
      rw [hr]
      exact (List.Sublist.refl a).append (List.sublist_cons_self e' b)
/-! ### what the generators yield -/
theorem pure_logD (l : List Nat) : pureD (logD l) = true := by
  rw [← tupI_zL]
  exact pure_tupI _
theorem intsOf_logD (l : List Nat) : intsOf (l.map nD) = some (zL l) := by
  have := intsOf_map (zL l)
  rw [List.map_map] at this
  exact this
theorem yG_cons {k : Nat} {a b : Option D} : ∀ (kss : List (List Nat)) (x : Option D), (∀ l ∈ kss, l.length < 1000) → ∃ x', mYG 3 (fQCons 2 3) (kss.map zL) [a, b, some (nD k), x] = some ((kss.map (k :: ·)).map zL, [a, b, some (nD k), x']) ∧ (x' = x ∨ ∃ l, x' = some (logD l))
  | [], x, _ => ⟨x, rfl, .inl rfl⟩
  | l :: kss, x, h => by
    have f : fQCons 2 3 [a, b, some (nD k), some (logD l)] = some (zL (k :: l)) := by
      show (match intsOf (l.map nD) with
        | some ks => if ks.length < LIM then some ((k : Int) :: ks) else none
        | none => none) = _
      rw [intsOf_logD]
      have := h l (.head _)
      show (if (zL l).length < LIM then some ((k : Int) :: zL l) else none) = _
      rw [if_pos (by simp [LIM]; omega)]
      rfl
    obtain ⟨x', e, hx⟩ := yG_cons kss (some (logD l)) fun l hl => h l (.tail _ hl)
    refine ⟨x', ?_, hx.elim (fun z => .inr ⟨l, z⟩) .inr⟩
    rw [List.map_cons]
    unfold mYG
    rw [show ([a, b, some (nD k), x] : Ev).set 3 (some (tupI (zL l))) = [a, b, some (nD k), some (logD l)] by rw [tupI_zL]; rfl, f, e]
    rfl
theorem gOrB_turn {o : FGen} {f : List Nat → List (List Nat)} {l : List Nat} (hl : l.length ≤ 1000) (ho : ∀ pre e rest, l = pre ++ e :: rest → o [logD (pre ++ rest)] = some ((f (pre ++ rest)).map zL)) (hs : ∀ pre e rest, l = pre ++ e :: rest → ∀ y ∈ f (pre ++ rest), y.length < 1000) :
    ∀ (rest pre : List Nat) (x1 x2 x3 : Option D), l = pre ++ rest → (∀ d, x3 = some d → pureD d = true) → ∃ ρ', mYLoop (gT 2 (gConsM (gN 1) (gConsM (gN 2) gNilM)))
      (mYCons (mYIf (mB (mBin opNotIn (mVar 2) (mSl (mVar 0) mNo (mPart (mVar 1))))) (mYCons (mYFG (mGX 1 o (mCons (mBin opAdd (mSl (mVar 0) mNo (mPart (mVar 1))) (mSl (mVar 0) (mPart (mBin opAdd (mVar 1) (mC (.int 1)))) mNo)) mNil)) 3 (fQCons 2 3)) mYNil) mYNil) mYNil)
      (enumK pre.length rest) [some (logD l), x1, x2, x3] = some ((ordG f pre rest).map zL, ρ')
  | [], pre, x1, x2, x3, _, _ => ⟨_, rfl⟩
  | e :: rest, pre, x1, x2, x3, h, hx => by
    have tk : (l.map nD).take pre.length = pre.map nD := by
      rw [h, List.map_append, List.take_left' (by simp)]
    have dr : (l.map nD).drop (pre.length + 1) = rest.map nD := by
      rw [h, List.map_append, List.map_cons, List.drop_append]
      simp
    have pe : pureEnv [some (logD l), some (nD pre.length), some (nD e), x3] = true := by
      unfold pureEnv
      cases x3 with
      | none => simp [pure_logD, pureD, nD]
      | some d => simp [pure_logD, pureD, nD, hx d rfl]
    have test : mB (mBin opNotIn (mVar 2) (mSl (mVar 0) mNo (mPart (mVar 1)))) [some (logD l), some (nD pre.length), some (nD e), x3] [] = .ok (!pre.contains e) [] := by
      simp only [mB_eq, mBin_eq, mVar_eq, get_0, List.getElem?_cons_succ, vg_some, R.bnd_ok, mSl_eq, mNo_eq, mPart_eq, logD, nD, opSl_tup, cut_to]
      rw [show (l.map fun (k : Nat) => D.int (k : Int)).take pre.length = _ from tk]
      rw [show opNotIn (.int (e : Int)) (D.tup (pre.map nD)) ([] : S) = _ from opIn_tupK (f := fun b => !b) rfl (all_nD _) [], show anyF (.int (e : Int)) (pre.map nD) = pre.contains e from anyF_nD e pre]
      rfl
    have args : mCons (mBin opAdd (mSl (mVar 0) mNo (mPart (mVar 1))) (mSl (mVar 0) (mPart (mBin opAdd (mVar 1) (mC (.int 1)))) mNo)) mNil [some (logD l), some (nD pre.length), some (nD e), x3] [] = .ok [logD (pre ++ rest)] [] := by
      have e1 : ((pre.length : Int) + 1) = ((pre.length + 1 : Nat) : Int) := by simp
      have sz : pre.length + rest.length ≤ 1000 := by rw [h] at hl; simp at hl; omega
      simp only [mCons_eq, mNil_eq, mBin_eq, mVar_eq, mC_eq, get_0, List.getElem?_cons_succ, vg_some, R.bnd_ok, mSl_eq, mNo_eq, mPart_eq, logD, nD, opSl_tup, cut_to, opAdd_int, e1, cut_from]
      rw [show (l.map fun (k : Nat) => D.int (k : Int)).take pre.length = _ from tk, show (l.map fun (k : Nat) => D.int (k : Int)).drop (pre.length + 1) = _ from dr, opAdd_tup, if_pos (by simp [LIM]; omega)]
      simp [nD]
    have turn : ∃ x3', mYCons (mYIf (mB (mBin opNotIn (mVar 2) (mSl (mVar 0) mNo (mPart (mVar 1))))) (mYCons (mYFG (mGX 1 o (mCons (mBin opAdd (mSl (mVar 0) mNo (mPart (mVar 1))) (mSl (mVar 0) (mPart (mBin opAdd (mVar 1) (mC (.int 1)))) mNo)) mNil)) 3 (fQCons 2 3)) mYNil) mYNil) mYNil [some (logD l), some (nD pre.length), some (nD e), x3]
        = some ((if pre.contains e then [] else (f (pre ++ rest)).map (e :: ·)).map zL, [some (logD l), some (nD pre.length), some (nD e), x3']) ∧ ∀ d, x3' = some d → pureD d = true := by
      unfold mYCons mYIf
      rw [test]
      by_cases hc : pre.contains e = true
      · refine ⟨x3, ?_, hx⟩
        rw [hc]
        rfl
      · rw [Bool.not_eq_true] at hc
        obtain ⟨x', q, hx'⟩ := yG_cons (k := e) (a := some (logD l)) (b := some (nD pre.length)) (f (pre ++ rest)) x3 (hs pre e rest h)
        refine ⟨x', ?_, ?_⟩
        · rw [hc]
          simp only [Bool.not_false, if_true, Bool.false_eq_true, if_false]
          unfold mYFG mGX
          rw [args]
          simp only [pureDs, pure_logD, Bool.and_self, List.length_cons, List.length_nil, Nat.zero_add, and_self, if_true]
          rw [ho pre e rest h]
          simp only [q, mYNil, List.append_nil]
        · rintro d rfl
          rcases hx' with z | ⟨l', z⟩
          · exact hx d z.symm
          · cases z
            exact pure_logD l'
    obtain ⟨x3', t1, t2⟩ := turn
    obtain ⟨ρ', ih⟩ := gOrB_turn hl ho hs rest (pre ++ [e]) (some (nD pre.length)) (some (nD e)) x3' (by rw [h]; simp) t2
    refine ⟨ρ', ?_⟩
    have ek : enumK pre.length (e :: rest) = .tup [nD pre.length, nD e] :: enumK (pre ++ [e]).length rest := by
      simp [enumK, nD]
    rw [ek]
    unfold mYLoop
    have gg : gT 2 (gConsM (gN 1) (gConsM (gN 2) gNilM)) (.tup [nD pre.length, nD e]) [some (logD l), x1, x2, x3] [] = .ok [some (logD l), some (nD pre.length), some (nD e), x3] [] := rfl
    rw [gg]
    simp only [pe, if_true]
    rw [t1]
    simp only
    rw [ih]
    simp only
    conv => rhs; unfold ordG
    rw [List.map_append]
theorem gOrd_eq : ∀ (n : Nat) (l : List Nat), l.length < n → n ≤ 100 → gOrd n [logD l] = some ((ordN n l).map zL)
  | 0, _, h, _ => absurd h (Nat.not_lt_zero _)
  | n + 1, l, h, hn => by
    obtain ⟨ρ', e⟩ := gOrB_turn (o := gOrd n) (f := ordN n) (l := l) (by omega) (fun pre e rest z => gOrd_eq n _ (by rw [z] at h; simp at h ⊢; omega) (by omega)) (fun pre e rest z y hy => by
      have hlen : (pre ++ rest).length < n := by rw [z] at h; simp at h ⊢; omega
      have := ((mem_ordN hlen).1 hy).length_eq
      omega) l [] none none none rfl nofun
    have t : ∀ ρ : Ev, ρ = [some (logD l), none, none, none] → mB (mBin opEq (mVar 0) (mTup mNil)) ρ [] = .ok (decide (l = [])) [] := by
      rintro ρ rfl
      have e2 := opEq_log (fun b => b) l [] []
      simp only [mB_eq, mBin_eq, mVar_eq, get_0, vg_some, R.bnd_ok, mTup_eq, mNil_eq, List.length_nil]
      rw [if_pos (Nat.zero_le _), R.bnd_ok, show opEq (logD l) (D.tup []) ([] : S) = _ from e2]
      rfl
    have run : gOrB (gOrd n) [some (logD l), none, none, none] = some ((ordN (n + 1) l).map zL, ρ') := by
      have e3 : mYFE 0 (gT 2 (gConsM (gN 1) (gConsM (gN 2) gNilM))) (mYCons (mYIf (mB (mBin opNotIn (mVar 2) (mSl (mVar 0) mNo (mPart (mVar 1))))) (mYCons (mYFG (mGX 1 (gOrd n) (mCons (mBin opAdd (mSl (mVar 0) mNo (mPart (mVar 1))) (mSl (mVar 0) (mPart (mBin opAdd (mVar 1) (mC (.int 1)))) mNo)) mNil)) 3 (fQCons 2 3)) mYNil) mYNil) mYNil) [some (logD l), none, none, none] = some ((ordG (ordN n) [] l).map zL, ρ') := by
        unfold mYFE
        simp only [List.getElem?_cons_zero, logD]
        rw [enumD_nD]
        exact e
      unfold gOrB
      generalize mYFE 0 _ _ = mf at e3
      have tt := t _ rfl
      by_cases hl : l = []
      · subst hl
        unfold mYCons mYIf
        rw [tt]
        simp only [decide_true, if_true]
        have u : mYY fQUnit [some (logD []), none, none, none] = some ([[]], [some (logD []), none, none, none]) := rfl
        rw [u]
        simp only [mYNil, List.append_nil]
        rw [e3]
        rfl
      · unfold mYCons mYIf
        rw [tt]
        simp only [hl, decide_false, Bool.false_eq_true, if_false, mYNil, List.append_nil, List.nil_append]
        rw [e3]
        simp [ordN, hl]
    show mGen 4 (gOrB (gOrd n)) [logD l] = _
    unfold mGen
    rw [show initE 4 [logD l] = [some (logD l), none, none, none] from rfl, run]
end VL
/-! orders(system, log) and the law's own orders: the same -/
namespace VL
open PySem PySem.Spec PyProof.Rows L2

theorem srt_cast (l : List Nat) : isort (zL l) = zL (srt l) := by
  have hall : ∀ x ∈ isort (zL l), 0 ≤ x := fun x hx => by
    obtain ⟨k, _, rfl⟩ := List.mem_map.1 ((isort_perm _).mem_iff.1 hx)
    exact Int.natCast_nonneg k
  unfold srt
  generalize isort (zL l) = m at hall
  show m = (m.map Int.toNat).map _
  rw [List.map_map]
  conv => lhs; rw [← List.map_id m]
  exact List.map_congr_left fun x hx => by
    have := hall x hx
    simp only [id, Function.comp_apply]
    omega
theorem srt_perm (l : List Nat) : (srt l).Perm l := by
  have p := (isort_perm (zL l)).map Int.toNat
  rw [List.map_map] at p
  have e : l.map (Int.toNat ∘ fun (k : Nat) => (k : Int)) = l := by
    conv => rhs; rw [← List.map_id l]
    exact List.map_congr_left fun x _ => by simp
  rw [e] at p
  exact p
theorem srt_asc (l : List Nat) : (srt l).Pairwise (· ≤ ·) := by
  unfold srt
  rw [List.pairwise_map]
  exact (isort_pw _).imp fun h => by omega
/-- the number of orders, at most -/
def facN : Nat → Nat
  | 0 => 1
  | k + 1 => (k + 1) * facN k
theorem facN_le : ∀ {k : Nat}, k ≤ 6 → facN k ≤ 720
  | 0, _ => by decide
  | 1, _ => by decide
  | 2, _ => by decide
  | 3, _ => by decide
  | 4, _ => by decide
  | 5, _ => by decide
  | 6, _ => by decide
  | k + 7, h => by omega
theorem ordG_len {f : List Nat → List (List Nat)} {B : Nat} : ∀ (rest pre : List Nat), (∀ a e b, rest = a ++ e :: b → (f (pre ++ a ++ b)).length ≤ B) → (ordG f pre rest).length ≤ rest.length * B
  | [], _, _ => by simp [ordG]
  | e :: rest, pre, h => by
    have h1 := h [] e rest rfl
    have h2 := ordG_len rest (pre ++ [e]) fun a e' b z => by
      have := h (e :: a) e' b (by rw [z]; rfl)
      simpa using this
    unfold ordG
    rw [List.length_append, List.length_cons, Nat.add_mul, Nat.one_mul]
    split
    · simp only [List.length_nil]
      omega
    · simp only [List.length_map, List.append_nil] at h1 ⊢
      omega
theorem ordN_len : ∀ {n : Nat} {l : List Nat}, l.length < n → (ordN n l).length ≤ facN l.length
  | 0, _, h => absurd h (Nat.not_lt_zero _)
  | n + 1, [], _ => by simp [ordN, ordG, facN]
  | n + 1, e :: l, h => by
    unfold ordN
    rw [if_neg (by simp), List.nil_append]
    refine ordG_len (B := facN l.length) (e :: l) [] fun a e' b z => ?_
    have hl : (a ++ b).length = l.length := by
      have := congrArg List.length z
      simp at this ⊢
      omega
    have := ordN_len (n := n) (l := a ++ b) (by rw [hl]; simp at h; omega)
    rw [hl] at this
    simpa using this
/-- all different orders of a log, rising -/
def ordS (l : List Nat) : List (List Nat) := ordN (l.length + 1) (srt l)
theorem mem_ordS {l x : List Nat} : x ∈ ordS l ↔ x.Perm l := by
  unfold ordS
  rw [mem_ordN (by rw [srt_len]; omega)]
  exact ⟨fun p => p.trans (srt_perm l), fun p => p.trans (srt_perm l).symm⟩
theorem rise_ordS (l : List Nat) : Rise ((ordS l).map zL) := rise_ordN (srt_asc l)
theorem ordS_len (l : List Nat) : (ordS l).length ≤ facN l.length := by
  have := ordN_len (n := l.length + 1) (l := srt l) (by rw [srt_len]; omega)
  rwa [srt_len] at this
theorem zL_inj {a b : List Nat} (h : zL a = zL b) : a = b := by
  have := congrArg (List.map Int.toNat) h
  rw [List.map_map, List.map_map] at this
  have e : ∀ l : List Nat, l.map (Int.toNat ∘ fun (k : Nat) => (k : Int)) = l := fun l => by
    conv => rhs; rw [← List.map_id l]
    exact List.map_congr_left fun x _ => by simp
  rwa [e, e] at this
theorem zLs_inj : ∀ {a b : List (List Nat)}, a.map zL = b.map zL → a = b
  | [], [], _ => rfl
  | [], _ :: _, h => by cases h
  | _ :: _, [], h => by cases h
  | x :: a, y :: b, h => by
    obtain ⟨h1, h2⟩ := List.cons.inj h
    rw [zL_inj h1, zLs_inj h2]
theorem mem_zL {x : List Nat} {a : List (List Nat)} : zL x ∈ a.map zL ↔ x ∈ a := by
  constructor
  · intro h
    obtain ⟨y, hy, e⟩ := List.mem_map.1 h
    rwa [← zL_inj e]
  · exact fun h => List.mem_map.2 ⟨x, h, rfl⟩
theorem ordN_S {n : Nat} {l : List Nat} (h : l.length < n) : ordN n (srt l) = ordS l := by
  refine zLs_inj (rise_uniq (rise_ordN (srt_asc l)) (rise_ordS l) fun k => ?_)
  constructor
  · intro z
    obtain ⟨x, hx, rfl⟩ := List.mem_map.1 z
    rw [mem_zL, mem_ordS]
    exact ((mem_ordN (by rw [srt_len]; exact h)).1 hx).trans (srt_perm l)
  · intro z
    obtain ⟨x, hx, rfl⟩ := List.mem_map.1 z
    rw [mem_zL, mem_ordN (by rw [srt_len]; exact h)]
    exact (mem_ordS.1 hx).trans (srt_perm l).symm
theorem pure_nDs : ∀ l : List Nat, pureDs (l.map nD) = true
  | [] => rfl
  | k :: l => by simp [pureDs, pureD, nD, pure_nDs l]
theorem pure_ops : ∀ os : List (List Nat), pureDs (os.map opD) = true
  | [] => rfl
  | o :: os => by simp [pureDs, pureD, opD, pure_nDs, pure_ops os]
theorem pure_kDs : ∀ ks : List (Option Nat), pureDs (ks.map kD) = true
  | [] => rfl
  | none :: ks => by simp [pureDs, pureD, kD, pure_kDs ks]
  | some k :: ks => by simp [pureDs, pureD, kD, pure_kDs ks]
theorem pure_sys (y : Sys) : pureD y.D = true := by
  simp [Sys.D, pureD, pureDs, nD, pure_ops, pure_kDs]
theorem yG_var {a b : Option D} : ∀ (kss : List (List Nat)) (x : Option D), (∀ l ∈ kss, l.length < 1000) → ∃ x', mYG 2 (fQVar 2) (kss.map zL) [a, b, x] = some (kss.map zL, [a, b, x'])
  | [], x, _ => ⟨x, rfl⟩
  | l :: kss, x, h => by
    have f : fQVar 2 [a, b, some (logD l)] = some (zL l) := by
      show (match intsOf (l.map nD) with
        | some ks => if ks.length ≤ LIM then some ks else none
        | none => none) = _
      rw [intsOf_logD]
      have := h l (.head _)
      show (if (zL l).length ≤ LIM then some (zL l) else none) = _
      rw [if_pos (by simp [LIM]; omega)]
    obtain ⟨x', e⟩ := yG_var kss (some (logD l)) fun l hl => h l (.tail _ hl)
    refine ⟨x', ?_⟩
    rw [List.map_cons]
    unfold mYG
    rw [show ([a, b, x] : Ev).set 2 (some (tupI (zL l))) = [a, b, some (logD l)] by rw [tupI_zL]; rfl, f, e]
theorem gOrders_eq {y : Sys} (hy : y.Ok) {l : List Nat} (hl : LogOk y 6 l) : gOrders [y.D, logD l] = some ((ordS l).map zL) := by
  have l6 := hl.1
  have pe : pureEnv [some y.D, some (logD l), none] = true := by simp [pureEnv, pure_sys, pure_logD]
  have c1 : mYP (mDrop (mUser m_need_system (mCons (mVar 0) mNil))) [some y.D, some (logD l), none] = some ([], [some y.D, some (logD l), none]) := by
    unfold mYP
    simp only [mDrop_eq, mUser_eq, mCons_eq, mVar_eq, get_0, List.getElem?_cons_succ, vg_some, mNil_eq, R.bnd_ok, need_system_ok hy, retag_ok]
    rw [if_pos pe]
  have c2 : mYP (mDrop (mUser m_need_log (mCons (mVar 0) (mCons (mVar 1) mNil)))) [some y.D, some (logD l), none] = some ([], [some y.D, some (logD l), none]) := by
    unfold mYP
    simp only [mDrop_eq, mUser_eq, mCons_eq, mVar_eq, get_0, List.getElem?_cons_succ, vg_some, mNil_eq, R.bnd_ok, need_log_ok hy (show l.length ≤ 1000 by omega) hl.2, retag_ok]
    rw [if_pos pe]
  have c3 : mYP (mIfS (mB (mBin opGt (mCall fLen (mCons (mVar 1) mNil)) (mC (.int 6)))) mBad mSkip) [some y.D, some (logD l), none] = some ([], [some y.D, some (logD l), none]) := by
    have t : mIfS (mB (mBin opGt (mCall fLen (mCons (mVar 1) mNil)) (mC (.int 6)))) mBad mSkip [some y.D, some (logD l), none] [] = .ok (.nx [some y.D, some (logD l), none]) [] := by
      have : ¬ (l.length : Int) > 6 := by omega
      simp [logD, this]
    unfold mYP
    rw [t]
    exact if_pos pe
  have c4 : ∃ x', mYFG (mGX 1 (gOrd 7) (mCons (mCall fTuple (mCons (mCall fSortedTp (mCons (mVar 1) mNil)) mNil)) mNil)) 2 (fQVar 2) [some y.D, some (logD l), none] = some ((ordS l).map zL, [some y.D, some (logD l), x']) := by
    have args : mCons (mCall fTuple (mCons (mCall fSortedTp (mCons (mVar 1) mNil)) mNil)) mNil [some y.D, some (logD l), none] [] = .ok [logD (srt l)] [] := by
      have ti : toI (l.map nD) = some (zL l) := by
        have := toI_ints (zL l)
        rw [List.map_map] at this
        exact this
      have st : fSortedTp [logD l] ([] : S) = .ok (.lst ((srt l).map nD)) [] := by
        unfold fSortedTp logD
        simp only [ti]
        rw [srt_cast, List.map_map]
        rfl
      simp only [mCons_eq, mCall_eq, mVar_eq, mNil_eq, get_0, List.getElem?_cons_succ, vg_some, R.bnd_ok, st, fTuple_lst]
      rfl
    unfold mYFG mGX
    rw [args]
    simp only [pureDs, pure_logD, Bool.and_self, List.length_cons, List.length_nil, Nat.zero_add, and_self, if_true]
    rw [gOrd_eq 7 (srt l) (by rw [srt_len]; omega) (by decide), ordN_S (by omega)]
    simp only
    refine yG_var _ _ fun x hx => ?_
    have := (mem_ordS.1 hx).length_eq
    omega
  obtain ⟨x', c4⟩ := c4
  show mGen 3 _ [y.D, logD l] = _
  unfold mGen
  rw [show initE 3 [y.D, logD l] = [some y.D, some (logD l), none] from rfl]
  generalize mYP (mDrop (mUser m_need_system (mCons (mVar 0) mNil))) = f1 at c1
  generalize mYP (mDrop (mUser m_need_log (mCons (mVar 0) (mCons (mVar 1) mNil)))) = f2 at c2
  generalize mYP (mIfS (mB (mBin opGt (mCall fLen (mCons (mVar 1) mNil)) (mC (.int 6)))) mBad mSkip) = f3 at c3
  generalize mYFG (mGX 1 (gOrd 7) (mCons (mCall fTuple (mCons (mCall fSortedTp (mCons (mVar 1) mNil)) mNil)) mNil)) 2 (fQVar 2) = f4 at c4
  unfold mYCons
  rw [c1]
  simp only
  rw [c2]
  simp only
  rw [c3]
  simp only
  rw [c4]
  simp [mYNil]
end VL
namespace VL
open PySem PySem.Spec PyProof.Rows L2
noncomputable def b_orders_of (o : FGen) : MY := (mYCons (mYIf (mB (mBin opEq (mVar 0) (mTup mNil)))
(mYCons (mYY fQUnit)
mYNil)
mYNil)
(mYCons (mYFE 0 (gT 2 (gConsM (gN 1) (gConsM (gN 2) gNilM)))
(mYCons (mYIf (mB (mBin opNotIn (mVar 2) (mSl (mVar 0) mNo (mPart (mVar 1)))))
(mYCons (mYFG (mGX 1 o (mCons (mBin opAdd (mSl (mVar 0) mNo (mPart (mVar 1))) (mSl (mVar 0) (mPart (mBin opAdd (mVar 1) (mC (.int 1)))) mNo)) mNil)) 3 (fQCons 2 3))
mYNil)
mYNil)
mYNil))
mYNil))
noncomputable def m_orders_of : Nat → FGen
  | 0 => fun _ => none
  | n + 1 => mGen 4 (b_orders_of (m_orders_of n))
noncomputable def m_orders : FGen := mGen 3 (mYCons (mYP (mDrop (mUser m_need_system (mCons (mVar 0) mNil))))
(mYCons (mYP (mDrop (mUser m_need_log (mCons (mVar 0) (mCons (mVar 1) mNil)))))
(mYCons (mYP (mIfS (mB (mBin opGt (mCall fLen (mCons (mVar 1) mNil)) (mC (.int 6))))
mBad
mSkip))
(mYCons (mYFG (mGX 1 (m_orders_of 7) (mCons (mCall fTuple (mCons (mCall fSortedTp (mCons (mVar 1) mNil)) mNil)) mNil)) 2 (fQVar 2))
mYNil))))
noncomputable def m__law_fault_right : FM := mFn 10 (mSeq (mIfS (mB (mBin opNotN (mVar 2) (mC .non)))
(mSeq (mAsg (mVar 2) (gT 3 (gConsM (gN 3) (gConsM (gN 4) (gConsM (gN 5) gNilM)))))
(mSeq (mAsg (mUser m_path (mCons (mVar 1) (mCons (mVar 3) mNil))) (gN 6))
(mRet (mBin opNe (mUser m_outcome (mCons (mVar 1) (mCons (mBin opAdd (mVar 6) (mTup (mCons (mVar 4) (mCons (mVar 5) mNil)))) mNil))) (mUser m_outcome (mCons (mVar 1) (mCons (mBin opAdd (mVar 6) (mTup (mCons (mVar 5) (mCons (mVar 4) mNil)))) mNil)))))))
mSkip)
(mSeq (mFor (mRng1 (mCons (mC (.int 4)) mNil)) (gN 7)
(mSeq (mAsg (mUser m__law_log (mCons (mVar 0) (mCons (mVar 1) (mCons (mC (.int 4)) mNil)))) (gN 8))
(mIfS (mB (mBin opNe (mLcG 2 m_orders (mCons (mVar 1) (mCons (mVar 8) mNil)) 9 (mB (mBin opNe (mUser m_outcome (mCons (mVar 1) (mCons (mVar 9) mNil))) (mUser m_outcome (mCons (mVar 1) (mCons (mVar 8) mNil))))) (mC (.int 1)) [9]) (mLst mNil)))
(mRet (mC (.bl false)))
mSkip)))
(mRet (mC (.bl true)))))
noncomputable def m__law_set_right : FM := mFn 9 (mSeq (mAsg (mListRg (mCall fLen (mCons (mBin opIx (mVar 1) (mC (.int 2))) mNil))) (gN 3))
(mSeq (mAsg (mBin opEq (mLc (mSrc (mVar 3)) (.one 8) (mB (mBin opNotN (mUser m_apart (mCons (mVar 1) (mCons (mTup (mCons (mVar 8) (mCons (mVar 8) mNil))) (mCons (mTup (mCons (mVar 8) mNil)) mNil)))) (mC .non))) (mC (.int 1)) [8]) (mLst mNil)) (gN 4))
(mSeq (mIfS (mB (mBin opNe (mCall fRepr (mCons (mUser m_by_set (mCons (mVar 1) mNil)) mNil)) (mCall fRepr (mCons (mAndV (mBin opIsN (mVar 2) (mC .non)) (mVar 4)) mNil))))
(mRet (mC (.bl false)))
mSkip)
(mSeq (mFor (mRng1 (mCons (mC (.int 5)) mNil)) (gN 5)
(mSeq (mAsg (mUser m__law_log (mCons (mVar 0) (mCons (mVar 1) (mCons (mC (.int 9)) mNil)))) (gN 6))
(mSeq (mAsg (mCall fTuple (mCons (mSrtSet (mVar 6)) mNil)) (gN 7))
(mIfS (mAndT (mB (mBin opIsN (mVar 2) (mC .non))) (mAndT (mB (mVar 4)) (mB (mBin opNe (mUser m_outcome (mCons (mVar 1) (mCons (mVar 7) mNil))) (mUser m_outcome (mCons (mVar 1) (mCons (mVar 6) mNil)))))))
(mRet (mC (.bl false)))
mSkip))))
(mRet (mC (.bl true)))))))
noncomputable def m__law_right : FM := mFn 3 (mSeq (mAsg (mUser m_order_fault (mCons (mVar 1) mNil)) (gN 2))
(mRet (mAndV (mUser m__law_fault_right (mCons (mVar 0) (mCons (mVar 1) (mCons (mVar 2) mNil)))) (mUser m__law_set_right (mCons (mVar 0) (mCons (mVar 1) (mCons (mVar 2) mNil)))))))
noncomputable def m_law : FM := mFn 4 (mSeq (mFor (mRng1 (mCons (mCall fMax2 (mCons (mC (.int 1)) (mCons (mCall fMin2 (mCons (mCall fLen (mCons (mVar 0) mNil)) (mCons (mC (.int 3)) mNil))) mNil))) mNil)) (gN 1)
(mSeq (mAsg (mUser m__law_pen (mCons (mUser m__law_cell_at (mCons (mVar 0) (mCons (mVar 1) mNil))) mNil)) (gN 2))
(mFor (mRng1 (mCons (mC (.int 3)) mNil)) (gN 3)
(mIfS (mNotT (mB (mUser m__law_right (mCons (mVar 2) (mCons (mUser m__law_system (mCons (mVar 2) mNil)) mNil)))))
(mRet (mC (.bl false)))
mSkip))))
(mRet (mC (.bl true))))
end VL
namespace W
open PySem PySem.Spec PyProof.Rows L2 VL
theorem sc_is_whole : FnScope ["thing"] ["thing"] (defScope (top 10)) := ⟨rfl, rfl, rfl, by decide +kernel, rfl, by decide +kernel, by decide +kernel⟩
theorem sc_is_between : FnScope ["thing", "low", "high"] ["thing", "low", "high"] (defScope (top 11)) := ⟨rfl, rfl, rfl, by decide +kernel, rfl, by decide +kernel, by decide +kernel⟩
theorem sc_are_states : FnScope ["thing", "long", "many", "one"] ["thing", "long", "many"] (defScope (top 12)) := ⟨rfl, rfl, rfl, by decide +kernel, rfl, by decide +kernel, by decide +kernel⟩
theorem sc_is_kind : FnScope ["thing"] ["thing"] (defScope (top 13)) := ⟨rfl, rfl, rfl, by decide +kernel, rfl, by decide +kernel, by decide +kernel⟩
theorem sc_is_system : FnScope ["thing", "many", "start", "operations", "kinds", "one"] ["thing"] (defScope (top 14)) := ⟨rfl, rfl, rfl, by decide +kernel, rfl, by decide +kernel, by decide +kernel⟩
theorem sc_need_system : FnScope ["thing"] ["thing"] (defScope (top 15)) := ⟨rfl, rfl, rfl, by decide +kernel, rfl, by decide +kernel, by decide +kernel⟩
theorem sc_is_log : FnScope ["system", "thing", "one"] ["system", "thing"] (defScope (top 16)) := ⟨rfl, rfl, rfl, by decide +kernel, rfl, by decide +kernel, by decide +kernel⟩
theorem sc_need_log : FnScope ["system", "thing"] ["system", "thing"] (defScope (top 17)) := ⟨rfl, rfl, rfl, by decide +kernel, rfl, by decide +kernel, by decide +kernel⟩
theorem sc_run_from : FnScope ["system", "state", "log", "entry"] ["system", "state", "log"] (defScope (top 18)) := ⟨rfl, rfl, rfl, by decide +kernel, rfl, by decide +kernel, by decide +kernel⟩
theorem sc_outcome_of : FnScope ["system", "log"] ["system", "log"] (defScope (top 19)) := ⟨rfl, rfl, rfl, by decide +kernel, rfl, by decide +kernel, by decide +kernel⟩
theorem sc_outcome : FnScope ["system", "log"] ["system", "log"] (defScope (top 20)) := ⟨rfl, rfl, rfl, by decide +kernel, rfl, by decide +kernel, by decide +kernel⟩
theorem sc_paths_of : FnScope ["system", "found", "waiting", "at", "state", "number", "operation"] ["system"] (defScope (top 21)) := ⟨rfl, rfl, rfl, by decide +kernel, rfl, by decide +kernel, by decide +kernel⟩
theorem sc_reached : FnScope ["system"] ["system"] (defScope (top 22)) := ⟨rfl, rfl, rfl, by decide +kernel, rfl, by decide +kernel, by decide +kernel⟩
theorem sc_path : FnScope ["system", "state", "paths"] ["system", "state"] (defScope (top 23)) := ⟨rfl, rfl, rfl, by decide +kernel, rfl, by decide +kernel, by decide +kernel⟩
theorem sc_first_apart : FnScope ["system", "one", "other", "state"] ["system", "one", "other"] (defScope (top 24)) := ⟨rfl, rfl, rfl, by decide +kernel, rfl, by decide +kernel, by decide +kernel⟩
theorem sc_apart : FnScope ["system", "one", "other"] ["system", "one", "other"] (defScope (top 25)) := ⟨rfl, rfl, rfl, by decide +kernel, rfl, by decide +kernel, by decide +kernel⟩
theorem sc_order_of : FnScope ["system", "many", "state", "one", "other"] ["system"] (defScope (top 28)) := ⟨rfl, rfl, rfl, by decide +kernel, rfl, by decide +kernel, by decide +kernel⟩
theorem sc_order_fault : FnScope ["system"] ["system"] (defScope (top 29)) := ⟨rfl, rfl, rfl, by decide +kernel, rfl, by decide +kernel, by decide +kernel⟩
theorem sc_by_set : FnScope ["system", "number"] ["system"] (defScope (top 30)) := ⟨rfl, rfl, rfl, by decide +kernel, rfl, by decide +kernel, by decide +kernel⟩
theorem sc_orders_of : L2.GScope ["log", "at", "entry", "rest"] ["log"] (defScope (top 31)) := ⟨rfl, rfl, rfl, by decide +kernel, rfl, by decide +kernel, by decide +kernel⟩
theorem sc_orders : L2.GScope ["system", "log", "found"] ["system", "log"] (defScope (top 32)) := ⟨rfl, rfl, rfl, by decide +kernel, rfl, by decide +kernel, by decide +kernel⟩
theorem sc__law_cell_at : FnScope ["_law_script", "_law_k"] ["_law_script", "_law_k"] (defScope (top 34)) := ⟨rfl, rfl, rfl, by decide +kernel, rfl, by decide +kernel, by decide +kernel⟩
theorem sc__law_pen : FnScope ["_law_cell"] ["_law_cell"] (defScope (top 35)) := ⟨rfl, rfl, rfl, by decide +kernel, rfl, by decide +kernel, by decide +kernel⟩
theorem sc__law_draw : FnScope ["_law_pen_here", "_law_many", "_law_digit", "_law_stir"] ["_law_pen_here", "_law_many"] (defScope (top 36)) := ⟨rfl, rfl, rfl, by decide +kernel, rfl, by decide +kernel, by decide +kernel⟩
theorem sc__law_pick : FnScope ["_law_pen_here", "_law_things"] ["_law_pen_here", "_law_things"] (defScope (top 37)) := ⟨rfl, rfl, rfl, by decide +kernel, rfl, by decide +kernel, by decide +kernel⟩
theorem sc__law_drawn : FnScope ["_law_pen_here", "_law_many", "_law_size", "_law_operations", "_law_kinds", "_law_lap", "_law_state"] ["_law_pen_here"] (defScope (top 38)) := ⟨rfl, rfl, rfl, by decide +kernel, rfl, by decide +kernel, by decide +kernel⟩
theorem sc__law_cells : FnScope ["_law_pen_here", "_law_high", "_law_low", "_law_operations", "_law_kinds", "_law_names", "_law_lap", "_law_cell", "_law_value", "_law_moves", "_law_state"] ["_law_pen_here"] (defScope (top 39)) := ⟨rfl, rfl, rfl, by decide +kernel, rfl, by decide +kernel, by decide +kernel⟩
theorem sc__law_marks : FnScope ["_law_pen_here", "_law_operations", "_law_kinds", "_law_lap", "_law_mark", "_law_puts", "_law_moves", "_law_state", "_law_own", "_law_other", "_law_both", "_law_bit"] ["_law_pen_here"] (defScope (top 40)) := ⟨rfl, rfl, rfl, by decide +kernel, rfl, by decide +kernel, by decide +kernel⟩
theorem sc__law_turns : FnScope ["_law_pen_here", "_law_many", "_law_operations", "_law_kinds", "_law_lap", "_law_way", "_law_value", "_law_moves", "_law_state"] ["_law_pen_here"] (defScope (top 41)) := ⟨rfl, rfl, rfl, by decide +kernel, rfl, by decide +kernel, by decide +kernel⟩
theorem sc__law_system : FnScope ["_law_pen_here", "_law_way", "_law_found", "_law_many", "_law_start", "_law_operations", "_law_kinds", "_law_at", "_law_state", "_law_own"] ["_law_pen_here"] (defScope (top 42)) := ⟨rfl, rfl, rfl, by decide +kernel, rfl, by decide +kernel, by decide +kernel⟩
theorem sc__law_log : FnScope ["_law_pen_here", "_law_system_here", "_law_cap", "_law_lap"] ["_law_pen_here", "_law_system_here", "_law_cap"] (defScope (top 43)) := ⟨rfl, rfl, rfl, by decide +kernel, rfl, by decide +kernel, by decide +kernel⟩
theorem sc__law_fault_right : FnScope ["_law_pen_here", "_law_system_here", "_law_told", "_law_state", "_law_one", "_law_other", "_law_ahead", "_law_lap", "_law_log_here", "_law_own"] ["_law_pen_here", "_law_system_here", "_law_told"] (defScope (top 44)) := ⟨rfl, rfl, rfl, by decide +kernel, rfl, by decide +kernel, by decide +kernel⟩
theorem sc__law_set_right : FnScope ["_law_pen_here", "_law_system_here", "_law_told", "_law_numbers", "_law_calm", "_law_lap", "_law_log_here", "_law_short", "_law_one"] ["_law_pen_here", "_law_system_here", "_law_told"] (defScope (top 45)) := ⟨rfl, rfl, rfl, by decide +kernel, rfl, by decide +kernel, by decide +kernel⟩
theorem sc__law_right : FnScope ["_law_pen_here", "_law_system_here", "_law_told"] ["_law_pen_here", "_law_system_here"] (defScope (top 46)) := ⟨rfl, rfl, rfl, by decide +kernel, rfl, by decide +kernel, by decide +kernel⟩
theorem sc_law : FnScope ["_law_script", "_law_k", "_law_pen_here", "_law_lap"] ["_law_script"] (defScope (top 47)) := ⟨rfl, rfl, rfl, by decide +kernel, rfl, by decide +kernel, by decide +kernel⟩
structure Tx (K : PySem.W.Frag) (mg : Str → Option Value) : Prop where
  bl : Bl mg
  f_is_whole : ∃ f fd, FunD K "is_whole" "is_whole" (defArgs (top 10)) (defBody (top 10)) (defScope (top 10)) [] [] f fd ∧ mg "is_whole" = some (.ref f)
  f_is_between : ∃ f fd, FunD K "is_between" "is_between" (defArgs (top 11)) (defBody (top 11)) (defScope (top 11)) [] [] f fd ∧ mg "is_between" = some (.ref f)
  f_are_states : ∃ f fd, FunD K "are_states" "are_states" (defArgs (top 12)) (defBody (top 12)) (defScope (top 12)) [] [] f fd ∧ mg "are_states" = some (.ref f)
  f_is_kind : ∃ f fd, FunD K "is_kind" "is_kind" (defArgs (top 13)) (defBody (top 13)) (defScope (top 13)) [] [] f fd ∧ mg "is_kind" = some (.ref f)
  f_is_system : ∃ f fd, FunD K "is_system" "is_system" (defArgs (top 14)) (defBody (top 14)) (defScope (top 14)) [] [] f fd ∧ mg "is_system" = some (.ref f)
  f_need_system : ∃ f fd, FunD K "need_system" "need_system" (defArgs (top 15)) (defBody (top 15)) (defScope (top 15)) [] [] f fd ∧ mg "need_system" = some (.ref f)
  f_is_log : ∃ f fd, FunD K "is_log" "is_log" (defArgs (top 16)) (defBody (top 16)) (defScope (top 16)) [] [] f fd ∧ mg "is_log" = some (.ref f)
  f_need_log : ∃ f fd, FunD K "need_log" "need_log" (defArgs (top 17)) (defBody (top 17)) (defScope (top 17)) [] [] f fd ∧ mg "need_log" = some (.ref f)
  f_run_from : ∃ f fd, FunD K "run_from" "run_from" (defArgs (top 18)) (defBody (top 18)) (defScope (top 18)) [] [] f fd ∧ mg "run_from" = some (.ref f)
  f_outcome_of : ∃ f fd, FunD K "outcome_of" "outcome_of" (defArgs (top 19)) (defBody (top 19)) (defScope (top 19)) [] [] f fd ∧ mg "outcome_of" = some (.ref f)
  f_outcome : ∃ f fd, FunD K "outcome" "outcome" (defArgs (top 20)) (defBody (top 20)) (defScope (top 20)) [] [] f fd ∧ mg "outcome" = some (.ref f)
  f_paths_of : ∃ f fd, FunD K "paths_of" "paths_of" (defArgs (top 21)) (defBody (top 21)) (defScope (top 21)) [] [] f fd ∧ mg "paths_of" = some (.ref f)
  f_reached : ∃ f fd, FunD K "reached" "reached" (defArgs (top 22)) (defBody (top 22)) (defScope (top 22)) [] [] f fd ∧ mg "reached" = some (.ref f)
  f_path : ∃ f fd, FunD K "path" "path" (defArgs (top 23)) (defBody (top 23)) (defScope (top 23)) [] [] f fd ∧ mg "path" = some (.ref f)
  f_first_apart : ∃ f fd, FunD K "first_apart" "first_apart" (defArgs (top 24)) (defBody (top 24)) (defScope (top 24)) [] [] f fd ∧ mg "first_apart" = some (.ref f)
  f_apart : ∃ f fd, FunD K "apart" "apart" (defArgs (top 25)) (defBody (top 25)) (defScope (top 25)) [] [] f fd ∧ mg "apart" = some (.ref f)
  f_order_of : ∃ f fd, FunD K "order_of" "order_of" (defArgs (top 28)) (defBody (top 28)) (defScope (top 28)) [] [] f fd ∧ mg "order_of" = some (.ref f)
  f_order_fault : ∃ f fd, FunD K "order_fault" "order_fault" (defArgs (top 29)) (defBody (top 29)) (defScope (top 29)) [] [] f fd ∧ mg "order_fault" = some (.ref f)
  f_by_set : ∃ f fd, FunD K "by_set" "by_set" (defArgs (top 30)) (defBody (top 30)) (defScope (top 30)) [] [] f fd ∧ mg "by_set" = some (.ref f)
  f_orders_of : ∃ f fd, FunD K "orders_of" "orders_of" (defArgs (top 31)) (defBody (top 31)) (defScope (top 31)) [] [] f fd ∧ mg "orders_of" = some (.ref f)
  f_orders : ∃ f fd, FunD K "orders" "orders" (defArgs (top 32)) (defBody (top 32)) (defScope (top 32)) [] [] f fd ∧ mg "orders" = some (.ref f)
  f__law_cell_at : ∃ f fd, FunD K "_law_cell_at" "_law_cell_at" (defArgs (top 34)) (defBody (top 34)) (defScope (top 34)) [] [] f fd ∧ mg "_law_cell_at" = some (.ref f)
  f__law_pen : ∃ f fd, FunD K "_law_pen" "_law_pen" (defArgs (top 35)) (defBody (top 35)) (defScope (top 35)) [] [] f fd ∧ mg "_law_pen" = some (.ref f)
  f__law_draw : ∃ f fd, FunD K "_law_draw" "_law_draw" (defArgs (top 36)) (defBody (top 36)) (defScope (top 36)) [] [] f fd ∧ mg "_law_draw" = some (.ref f)
  f__law_pick : ∃ f fd, FunD K "_law_pick" "_law_pick" (defArgs (top 37)) (defBody (top 37)) (defScope (top 37)) [] [] f fd ∧ mg "_law_pick" = some (.ref f)
  f__law_drawn : ∃ f fd, FunD K "_law_drawn" "_law_drawn" (defArgs (top 38)) (defBody (top 38)) (defScope (top 38)) [] [] f fd ∧ mg "_law_drawn" = some (.ref f)
  f__law_cells : ∃ f fd, FunD K "_law_cells" "_law_cells" (defArgs (top 39)) (defBody (top 39)) (defScope (top 39)) [] [] f fd ∧ mg "_law_cells" = some (.ref f)
  f__law_marks : ∃ f fd, FunD K "_law_marks" "_law_marks" (defArgs (top 40)) (defBody (top 40)) (defScope (top 40)) [] [] f fd ∧ mg "_law_marks" = some (.ref f)
  f__law_turns : ∃ f fd, FunD K "_law_turns" "_law_turns" (defArgs (top 41)) (defBody (top 41)) (defScope (top 41)) [] [] f fd ∧ mg "_law_turns" = some (.ref f)
  f__law_system : ∃ f fd, FunD K "_law_system" "_law_system" (defArgs (top 42)) (defBody (top 42)) (defScope (top 42)) [] [] f fd ∧ mg "_law_system" = some (.ref f)
  f__law_log : ∃ f fd, FunD K "_law_log" "_law_log" (defArgs (top 43)) (defBody (top 43)) (defScope (top 43)) [] [] f fd ∧ mg "_law_log" = some (.ref f)
  f__law_fault_right : ∃ f fd, FunD K "_law_fault_right" "_law_fault_right" (defArgs (top 44)) (defBody (top 44)) (defScope (top 44)) [] [] f fd ∧ mg "_law_fault_right" = some (.ref f)
  f__law_set_right : ∃ f fd, FunD K "_law_set_right" "_law_set_right" (defArgs (top 45)) (defBody (top 45)) (defScope (top 45)) [] [] f fd ∧ mg "_law_set_right" = some (.ref f)
  f__law_right : ∃ f fd, FunD K "_law_right" "_law_right" (defArgs (top 46)) (defBody (top 46)) (defScope (top 46)) [] [] f fd ∧ mg "_law_right" = some (.ref f)
  f_law : ∃ f fd, FunD K "law" "law" (defArgs (top 47)) (defBody (top 47)) (defScope (top 47)) [] [] f fd ∧ mg "law" = some (.ref f)
  g_MOST_STATES : ∃ t, mg "MOST_STATES" = some (.int 6 t)
  g_MOST_OPERATIONS : ∃ t, mg "MOST_OPERATIONS" = some (.int 6 t)
  g_MOST_KIND : ∃ t, mg "MOST_KIND" = some (.int 9 t)
  g_MOST_ENTRIES : ∃ t, mg "MOST_ENTRIES" = some (.int 6 t)
section
variable {P : Program} {w : World} {K : PySem.W.Frag} {mg : Str → Option Value} {base : Heap}
theorem k_is_whole (T : Tx K mg)  : Cl P w K mg base 1 "is_whole" 1 m_is_whole := by
  obtain ⟨f, fd, F, gf⟩ := T.f_is_whole
  have bl := T.bl
  refine clG F gf (F.bindsN (ps := ["thing"]) fun _ _ _ _ _ _ us hl => match us, hl with | [_], _ => rfl) (fnG F sc_is_whole fun cdv A outer st H E hr hp tk => ?_) rfl
  have sc := sc_is_whole
  exact (vss_one (vs_ret (ve_and (ve_callB call_isi v_isi (by rfl) bl.isinstance (by decide +kernel) (va_cons (ve_v 0) (va_cons (ve_ty (by rfl) bl.int (by decide +kernel)) va_nil))) (ve_one (ve_not (ve_callB call_isi v_isi (by rfl) bl.isinstance (by decide +kernel) (va_cons (ve_v 0) (va_cons (ve_ty (by rfl) bl.bool (by decide +kernel)) va_nil))))))))
theorem k_is_between (T : Tx K mg) (c_is_whole : Cl P w K mg base 1 "is_whole" 1 m_is_whole) : Cl P w K mg base 2 "is_between" 3 m_is_between := by
  obtain ⟨f, fd, F, gf⟩ := T.f_is_between
  have bl := T.bl
  refine clG F gf (F.bindsN (ps := ["thing", "low", "high"]) fun _ _ _ _ _ _ us hl => match us, hl with | [_, _, _], _ => rfl) (fnG F sc_is_between fun cdv A outer st H E hr hp tk => ?_) rfl
  have sc := sc_is_between
  exact (vss_one (vs_ret (ve_and (ve_user c_is_whole tk hr (by decide) (by rfl) (va_cons (ve_v 0) va_nil) (len_cons len_nilF)) (ve_one (ve_chain op_le op_le k_le k_le.v (ve_v 1) (ve_v 0) (ve_v 2))))))
theorem k_are_states (T : Tx K mg) (c_is_between : Cl P w K mg base 2 "is_between" 3 m_is_between) : Cl P w K mg base 3 "are_states" 3 m_are_states := by
  obtain ⟨f, fd, F, gf⟩ := T.f_are_states
  have bl := T.bl
  refine clG F gf (F.bindsN (ps := ["thing", "long", "many"]) fun _ _ _ _ _ _ us hl => match us, hl with | [_, _, _], _ => rfl) (fnG F sc_are_states fun cdv A outer st H E hr hp tk => ?_) rfl
  have sc := sc_are_states
  exact (vss_one (vs_ret (ve_and (ve_callB call_isi v_isi (by rfl) bl.isinstance (by decide +kernel) (va_cons (ve_v 0) (va_cons (ve_ty (by rfl) bl.tuple (by decide +kernel)) va_nil))) (ve_and (ve_cmp (op_eqA (hu64 hr)) k_eq.v (ve_callB c_len v_len (by rfl) bl.len (by decide +kernel) (va_cons (ve_v 0) va_nil)) (ve_v 1) (nomark _)) (ve_one (ve_callB (cr_all rfl) v_all (by rfl) bl.all (by decide +kernel) (va_cons (ve_lcF finL_ok sc.nd (vi_seq (ve_v 0)) (blkOk_by (own := [("one", 3)]) (by kernel_rfl)) (fun _ _ _ _ _ => (pg_name (i := 3) sc.nd rfl (by first | exact Or.inl rfl | exact Or.inr rfl))) (fun _ _ _ _ _ => vts_nil) (fun _ _ _ _ _ => (ve_user c_is_between takes_W0 hr (by decide) (by rfl) (va_cons (ve_v 3) (va_cons ve_int (va_cons (ve_op op_sub v_sub (ve_v 2) ve_int) va_nil))) (len_cons (len_cons (len_cons len_nilF)))))) va_nil)))))))
theorem k_is_kind (T : Tx K mg) (c_is_between : Cl P w K mg base 2 "is_between" 3 m_is_between) : Cl P w K mg base 3 "is_kind" 1 m_is_kind := by
  obtain ⟨f, fd, F, gf⟩ := T.f_is_kind
  have bl := T.bl
  obtain ⟨_, hg_MOST_KIND⟩ := T.g_MOST_KIND
  refine clG F gf (F.bindsN (ps := ["thing"]) fun _ _ _ _ _ _ us hl => match us, hl with | [_], _ => rfl) (fnG F sc_is_kind fun cdv A outer st H E hr hp tk => ?_) rfl
  have sc := sc_is_kind
  exact (vss_one (vs_ret (ve_or (ve_cmp op_isN k_isN.v (ve_v 0) ve_non (nomark _)) (ve_one (ve_user c_is_between tk hr (by decide) (by rfl) (va_cons (ve_v 0) (va_cons ve_int (va_cons (ve_gint (by rfl) hg_MOST_KIND) va_nil))) (len_cons (len_cons (len_cons len_nilF))))))))
theorem k_is_system (T : Tx K mg) (c_is_between : Cl P w K mg base 2 "is_between" 3 m_is_between) (c_are_states : Cl P w K mg base 3 "are_states" 3 m_are_states) (c_is_kind : Cl P w K mg base 3 "is_kind" 1 m_is_kind) : Cl P w K mg base 4 "is_system" 1 m_is_system := by
  obtain ⟨f, fd, F, gf⟩ := T.f_is_system
  have bl := T.bl
  obtain ⟨_, hg_MOST_STATES⟩ := T.g_MOST_STATES
  obtain ⟨_, hg_MOST_OPERATIONS⟩ := T.g_MOST_OPERATIONS
  refine clG F gf (F.bindsN (ps := ["thing"]) fun _ _ _ _ _ _ us hl => match us, hl with | [_], _ => rfl) (fnG F sc_is_system fun cdv A outer st H E hr hp tk => ?_) rfl
  have sc := sc_is_system
  exact (vss_cons (vs_if (vw_or (vt_not (vt_val (ve_callB call_isi v_isi (by rfl) bl.isinstance (by decide +kernel) (va_cons (ve_v 0) (va_cons (ve_ty (by rfl) bl.tuple (by decide +kernel)) va_nil))))) (vw_or (vt_cmp (op_neA (hu64 hr)) k_ne.v (ve_callB c_len v_len (by rfl) bl.len (by decide +kernel) (va_cons (ve_v 0) va_nil)) ve_int (nomark _)) (vw_or1 (vt_not (vt_val (ve_user c_is_between tk hr (by decide) (by rfl) (va_cons (ve_ix (ve_v 0) ve_int) (va_cons ve_int (va_cons (ve_gint (by rfl) hg_MOST_STATES) va_nil))) (len_cons (len_cons (len_cons len_nilF))))))))).pt
    (vss_one (vs_ret ve_bl))
    vss_nil)
    (vss_cons (vs_asg (ve_v 0) (vg_t 4 (vgs_cons (vg_n 1 sc.nd) (vgs_cons (vg_n 2 sc.nd) (vgs_cons (vg_n 3 sc.nd) (vgs_cons (vg_n 4 sc.nd) vgs_nil))))))
    (vss_cons (vs_if (vw_or (vt_not (vt_val (ve_user c_is_between tk hr (by decide) (by rfl) (va_cons (ve_v 2) (va_cons ve_int (va_cons (ve_op op_sub v_sub (ve_v 1) ve_int) va_nil))) (len_cons (len_cons (len_cons len_nilF)))))) (vw_or (vt_not (vt_val (ve_callB call_isi v_isi (by rfl) bl.isinstance (by decide +kernel) (va_cons (ve_v 3) (va_cons (ve_ty (by rfl) bl.tuple (by decide +kernel)) va_nil))))) (vw_or1 (vt_not (vt_val (ve_callB call_isi v_isi (by rfl) bl.isinstance (by decide +kernel) (va_cons (ve_v 4) (va_cons (ve_ty (by rfl) bl.tuple (by decide +kernel)) va_nil)))))))).pt
    (vss_one (vs_ret ve_bl))
    vss_nil)
    (vss_cons (vs_if (vw_or (vt_not (vt_chain op_le op_le k_le k_le.v ve_int (ve_callB c_len v_len (by rfl) bl.len (by decide +kernel) (va_cons (ve_v 3) va_nil)) (ve_gint (by rfl) hg_MOST_OPERATIONS))) (vw_or1 (vt_cmp (op_neA (hu64 hr)) k_ne.v (ve_callB c_len v_len (by rfl) bl.len (by decide +kernel) (va_cons (ve_v 4) va_nil)) (ve_callB c_len v_len (by rfl) bl.len (by decide +kernel) (va_cons (ve_v 3) va_nil)) (nomark _)))).pt
    (vss_one (vs_ret ve_bl))
    vss_nil)
    (vss_one (vs_ret (ve_and (ve_callB (cr_all rfl) v_all (by rfl) bl.all (by decide +kernel) (va_cons (ve_lcF finL_ok sc.nd (vi_seq (ve_v 3)) (blkOk_by (own := [("one", 5)]) (by kernel_rfl)) (fun _ _ _ _ _ => (pg_name (i := 5) sc.nd rfl (by first | exact Or.inl rfl | exact Or.inr rfl))) (fun _ _ _ _ _ => vts_nil) (fun _ _ _ _ _ => (ve_user c_are_states takes_W0 hr (by decide) (by rfl) (va_cons (ve_v 5) (va_cons (ve_v 1) (va_cons (ve_v 1) va_nil))) (len_cons (len_cons (len_cons len_nilF)))))) va_nil)) (ve_one (ve_callB (cr_all rfl) v_all (by rfl) bl.all (by decide +kernel) (va_cons (ve_lcF finL_ok sc.nd (vi_seq (ve_v 4)) (blkOk_by (own := [("one", 5)]) (by kernel_rfl)) (fun _ _ _ _ _ => (pg_name (i := 5) sc.nd rfl (by first | exact Or.inl rfl | exact Or.inr rfl))) (fun _ _ _ _ _ => vts_nil) (fun _ _ _ _ _ => (ve_user c_is_kind takes_W0 hr (by decide) (by rfl) (va_cons (ve_v 5) va_nil) (len_cons len_nilF)))) va_nil))))))))))
theorem k_need_system (T : Tx K mg) (c_is_system : Cl P w K mg base 4 "is_system" 1 m_is_system) : Cl P w K mg base 5 "need_system" 1 m_need_system := by
  obtain ⟨f, fd, F, gf⟩ := T.f_need_system
  have bl := T.bl
  refine clG F gf (F.bindsN (ps := ["thing"]) fun _ _ _ _ _ _ us hl => match us, hl with | [_], _ => rfl) (fnG F sc_need_system fun cdv A outer st H E hr hp tk => ?_) rfl
  have sc := sc_need_system
  exact (vss_one (vs_if (vt_not (vt_val (ve_user c_is_system tk hr (by decide) (by rfl) (va_cons (ve_v 0) va_nil) (len_cons len_nilF))))
    (vss_one vs_never)
    vss_nil))
theorem k_is_log (T : Tx K mg) (c_is_between : Cl P w K mg base 2 "is_between" 3 m_is_between) : Cl P w K mg base 3 "is_log" 2 m_is_log := by
  obtain ⟨f, fd, F, gf⟩ := T.f_is_log
  have bl := T.bl
  refine clG F gf (F.bindsN (ps := ["system", "thing"]) fun _ _ _ _ _ _ us hl => match us, hl with | [_, _], _ => rfl) (fnG F sc_is_log fun cdv A outer st H E hr hp tk => ?_) rfl
  have sc := sc_is_log
  exact (vss_one (vs_ret (ve_and (ve_callB call_isi v_isi (by rfl) bl.isinstance (by decide +kernel) (va_cons (ve_v 1) (va_cons (ve_ty (by rfl) bl.tuple (by decide +kernel)) va_nil))) (ve_one (ve_callB (cr_all rfl) v_all (by rfl) bl.all (by decide +kernel) (va_cons (ve_lcF finL_ok sc.nd (vi_seq (ve_v 1)) (blkOk_by (own := [("one", 2)]) (by kernel_rfl)) (fun _ _ _ _ _ => (pg_name (i := 2) sc.nd rfl (by first | exact Or.inl rfl | exact Or.inr rfl))) (fun _ _ _ _ _ => vts_nil) (fun _ _ _ _ _ => (ve_user c_is_between takes_W0 hr (by decide) (by rfl) (va_cons (ve_v 2) (va_cons ve_int (va_cons (ve_op op_sub v_sub (ve_callB c_len v_len (by rfl) bl.len (by decide +kernel) (va_cons (ve_ix (ve_v 0) ve_int) va_nil)) ve_int) va_nil))) (len_cons (len_cons (len_cons len_nilF)))))) va_nil))))))
theorem k_need_log (T : Tx K mg) (c_is_log : Cl P w K mg base 3 "is_log" 2 m_is_log) : Cl P w K mg base 4 "need_log" 2 m_need_log := by
  obtain ⟨f, fd, F, gf⟩ := T.f_need_log
  have bl := T.bl
  refine clG F gf (F.bindsN (ps := ["system", "thing"]) fun _ _ _ _ _ _ us hl => match us, hl with | [_, _], _ => rfl) (fnG F sc_need_log fun cdv A outer st H E hr hp tk => ?_) rfl
  have sc := sc_need_log
  exact (vss_one (vs_if (vt_not (vt_val (ve_user c_is_log tk hr (by decide) (by rfl) (va_cons (ve_v 0) (va_cons (ve_v 1) va_nil)) (len_cons (len_cons len_nilF)))))
    (vss_one vs_never)
    vss_nil))
theorem k_run_from (T : Tx K mg)  : Cl P w K mg base 1 "run_from" 3 m_run_from := by
  obtain ⟨f, fd, F, gf⟩ := T.f_run_from
  have bl := T.bl
  refine clG F gf (F.bindsN (ps := ["system", "state", "log"]) fun _ _ _ _ _ _ us hl => match us, hl with | [_, _, _], _ => rfl) (fnG F sc_run_from fun cdv A outer st H E hr hp tk => ?_) rfl
  have sc := sc_run_from
  exact (vss_cons (vs_for hp (vi_seq (ve_v 2)) (vg_n 3 sc.nd)
    (vss_one (vs_asg (ve_ix (ve_ix (ve_ix (ve_v 0) ve_int) (ve_v 3)) (ve_v 1)) (vg_n 1 sc.nd))))
    (vss_one (vs_ret (ve_v 1))))
theorem k_outcome_of (T : Tx K mg) (c_run_from : Cl P w K mg base 1 "run_from" 3 m_run_from) : Cl P w K mg base 2 "outcome_of" 2 m_outcome_of := by
  obtain ⟨f, fd, F, gf⟩ := T.f_outcome_of
  have bl := T.bl
  refine clG F gf (F.bindsN (ps := ["system", "log"]) fun _ _ _ _ _ _ us hl => match us, hl with | [_, _], _ => rfl) (fnG F sc_outcome_of fun cdv A outer st H E hr hp tk => ?_) rfl
  have sc := sc_outcome_of
  exact (vss_one (vs_ret (ve_user c_run_from tk hr (by decide) (by rfl) (va_cons (ve_v 0) (va_cons (ve_ix (ve_v 0) ve_int) (va_cons (ve_v 1) va_nil))) (len_cons (len_cons (len_cons len_nilF))))))
theorem k_outcome (T : Tx K mg) (c_need_system : Cl P w K mg base 5 "need_system" 1 m_need_system) (c_need_log : Cl P w K mg base 4 "need_log" 2 m_need_log) (c_outcome_of : Cl P w K mg base 2 "outcome_of" 2 m_outcome_of) : Cl P w K mg base 6 "outcome" 2 m_outcome := by
  obtain ⟨f, fd, F, gf⟩ := T.f_outcome
  have bl := T.bl
  refine clG F gf (F.bindsN (ps := ["system", "log"]) fun _ _ _ _ _ _ us hl => match us, hl with | [_, _], _ => rfl) (fnG F sc_outcome fun cdv A outer st H E hr hp tk => ?_) rfl
  have sc := sc_outcome
  exact (vss_cons (vs_expr (ve_user c_need_system tk hr (by decide) (by rfl) (va_cons (ve_v 0) va_nil) (len_cons len_nilF)))
    (vss_cons (vs_expr (ve_user c_need_log tk hr (by decide) (by rfl) (va_cons (ve_v 0) (va_cons (ve_v 1) va_nil)) (len_cons (len_cons len_nilF))))
    (vss_one (vs_ret (ve_user c_outcome_of tk hr (by decide) (by rfl) (va_cons (ve_v 0) (va_cons (ve_v 1) va_nil)) (len_cons (len_cons len_nilF)))))))
theorem k_paths_of (T : Tx K mg)  : Cl P w K mg base 1 "paths_of" 1 m_paths_of := by
  obtain ⟨f, fd, F, gf⟩ := T.f_paths_of
  have bl := T.bl
  refine clG F gf (F.bindsN (ps := ["system"]) fun _ _ _ _ _ _ us hl => match us, hl with | [_], _ => rfl) (fnG F sc_paths_of fun cdv A outer st H E hr hp tk => ?_) rfl
  have sc := sc_paths_of
  exact (vss_cons (vs_asg (ve_disp1 (ve_ix (ve_v 0) ve_int) (ve_tup va_nil)) (vg_n 1 sc.nd))
    (vss_cons (vs_asg (ve_lstO (va_cons (ve_ix (ve_v 0) ve_int) va_nil)) (vg_n 2 sc.nd))
    (vss_cons (vs_asg ve_int (vg_n 3 sc.nd))
    (vss_cons (vs_while 2000 hp (vt_cmp op_lt k_lt.v (ve_v 3) (ve_callB c_len v_len (by rfl) bl.len (by decide +kernel) (va_cons (ve_v 2) va_nil)) (nomark _))
    (vss_cons (vs_asg (ve_ix (ve_v 2) (ve_v 3)) (vg_n 4 sc.nd))
    (vss_cons (vs_augAdd 3 sc.nd ve_int)
    (vss_one (vs_for hp (vi_enum (by rfl) bl.enumerate (va_cons (ve_ix (ve_v 0) ve_int) va_nil)) (vg_t 2 (vgs_cons (vg_n 5 sc.nd) (vgs_cons (vg_n 6 sc.nd) vgs_nil)))
    (vss_one (vs_if (vt_cmp (op_notInU (hu65 hr)) v_notInU (ve_ix (ve_v 6) (ve_v 4)) (ve_v 1) (by rfl))
    (vss_cons (vs_asg (ve_op op_addA v_add (ve_ixU (hu64 hr) (ve_v 1) (ve_v 4)) (ve_tup (va_cons (ve_v 5) va_nil))) (vg_ixU (hu64 hr) (ve_v 1) (ve_ix (ve_v 6) (ve_v 4))))
    (vss_one (vs_expr (ve_append (ve_v 2) (ve_ix (ve_v 6) (ve_v 4))))))
    vss_nil)))))))
    (vss_one (vs_ret (ve_v 1)))))))
theorem k_reached (T : Tx K mg) (c_paths_of : Cl P w K mg base 1 "paths_of" 1 m_paths_of) : Cl P w K mg base 2 "reached" 1 m_reached := by
  obtain ⟨f, fd, F, gf⟩ := T.f_reached
  have bl := T.bl
  refine clG F gf (F.bindsN (ps := ["system"]) fun _ _ _ _ _ _ us hl => match us, hl with | [_], _ => rfl) (fnG F sc_reached fun cdv A outer st H E hr hp tk => ?_) rfl
  have sc := sc_reached
  exact (vss_one (vs_ret (ve_callTy call_tuple_of v_tuple (by rfl) bl.tuple (by decide +kernel) (va_cons (ve_callB (cr_sortedU rfl) v_sortedU (by rfl) bl.sorted (by decide +kernel) (va_cons (ve_user c_paths_of tk hr (by decide) (by rfl) (va_cons (ve_v 0) va_nil) (len_cons len_nilF)) va_nil)) va_nil))))
theorem k_path (T : Tx K mg) (c_need_system : Cl P w K mg base 5 "need_system" 1 m_need_system) (c_paths_of : Cl P w K mg base 1 "paths_of" 1 m_paths_of) (c_is_whole : Cl P w K mg base 1 "is_whole" 1 m_is_whole) : Cl P w K mg base 6 "path" 2 m_path := by
  obtain ⟨f, fd, F, gf⟩ := T.f_path
  have bl := T.bl
  refine clG F gf (F.bindsN (ps := ["system", "state"]) fun _ _ _ _ _ _ us hl => match us, hl with | [_, _], _ => rfl) (fnG F sc_path fun cdv A outer st H E hr hp tk => ?_) rfl
  have sc := sc_path
  exact (vss_cons (vs_expr (ve_user c_need_system tk hr (by decide) (by rfl) (va_cons (ve_v 0) va_nil) (len_cons len_nilF)))
    (vss_cons (vs_asg (ve_user c_paths_of tk hr (by decide) (by rfl) (va_cons (ve_v 0) va_nil) (len_cons len_nilF)) (vg_n 2 sc.nd))
    (vss_cons (vs_if (vw_or (vt_not (vt_val (ve_user c_is_whole tk hr (by decide) (by rfl) (va_cons (ve_v 1) va_nil) (len_cons len_nilF)))) (vw_or1 (vt_cmp (op_notInU (hu65 hr)) v_notInU (ve_v 1) (ve_v 2) (by rfl)))).pt
    (vss_one vs_never)
    vss_nil)
    (vss_one (vs_ret (ve_ixU (hu64 hr) (ve_v 2) (ve_v 1)))))))
theorem k_first_apart (T : Tx K mg) (c_reached : Cl P w K mg base 2 "reached" 1 m_reached) (c_run_from : Cl P w K mg base 1 "run_from" 3 m_run_from) : Cl P w K mg base 3 "first_apart" 3 m_first_apart := by
  obtain ⟨f, fd, F, gf⟩ := T.f_first_apart
  have bl := T.bl
  refine clG F gf (F.bindsN (ps := ["system", "one", "other"]) fun _ _ _ _ _ _ us hl => match us, hl with | [_, _, _], _ => rfl) (fnG F sc_first_apart fun cdv A outer st H E hr hp tk => ?_) rfl
  have sc := sc_first_apart
  exact (vss_cons (vs_for hp (vi_seq (ve_user c_reached tk hr (by decide) (by rfl) (va_cons (ve_v 0) va_nil) (len_cons len_nilF))) (vg_n 3 sc.nd)
    (vss_one (vs_if (vt_cmp (op_neA (hu64 hr)) k_ne.v (ve_user c_run_from tk hr (by decide) (by rfl) (va_cons (ve_v 0) (va_cons (ve_v 3) (va_cons (ve_v 1) va_nil))) (len_cons (len_cons (len_cons len_nilF)))) (ve_user c_run_from tk hr (by decide) (by rfl) (va_cons (ve_v 0) (va_cons (ve_v 3) (va_cons (ve_v 2) va_nil))) (len_cons (len_cons (len_cons len_nilF)))) (nomark _))
    (vss_one (vs_ret (ve_v 3)))
    vss_nil)))
    (vss_one (vs_ret ve_non)))
theorem k_apart (T : Tx K mg) (c_need_system : Cl P w K mg base 5 "need_system" 1 m_need_system) (c_need_log : Cl P w K mg base 4 "need_log" 2 m_need_log) (c_first_apart : Cl P w K mg base 3 "first_apart" 3 m_first_apart) : Cl P w K mg base 6 "apart" 3 m_apart := by
  obtain ⟨f, fd, F, gf⟩ := T.f_apart
  have bl := T.bl
  refine clG F gf (F.bindsN (ps := ["system", "one", "other"]) fun _ _ _ _ _ _ us hl => match us, hl with | [_, _, _], _ => rfl) (fnG F sc_apart fun cdv A outer st H E hr hp tk => ?_) rfl
  have sc := sc_apart
  exact (vss_cons (vs_expr (ve_user c_need_system tk hr (by decide) (by rfl) (va_cons (ve_v 0) va_nil) (len_cons len_nilF)))
    (vss_cons (vs_expr (ve_user c_need_log tk hr (by decide) (by rfl) (va_cons (ve_v 0) (va_cons (ve_v 1) va_nil)) (len_cons (len_cons len_nilF))))
    (vss_cons (vs_expr (ve_user c_need_log tk hr (by decide) (by rfl) (va_cons (ve_v 0) (va_cons (ve_v 2) va_nil)) (len_cons (len_cons len_nilF))))
    (vss_one (vs_ret (ve_user c_first_apart tk hr (by decide) (by rfl) (va_cons (ve_v 0) (va_cons (ve_v 1) (va_cons (ve_v 2) va_nil))) (len_cons (len_cons (len_cons len_nilF)))))))))
theorem k_order_of (T : Tx K mg) (c_reached : Cl P w K mg base 2 "reached" 1 m_reached) (c_run_from : Cl P w K mg base 1 "run_from" 3 m_run_from) : Cl P w K mg base 3 "order_of" 1 m_order_of := by
  obtain ⟨f, fd, F, gf⟩ := T.f_order_of
  have bl := T.bl
  refine clG F gf (F.bindsN (ps := ["system"]) fun _ _ _ _ _ _ us hl => match us, hl with | [_], _ => rfl) (fnG F sc_order_of fun cdv A outer st H E hr hp tk => ?_) rfl
  have sc := sc_order_of
  exact (vss_cons (vs_asg (ve_callB c_len v_len (by rfl) bl.len (by decide +kernel) (va_cons (ve_ix (ve_v 0) ve_int) va_nil)) (vg_n 1 sc.nd))
    (vss_cons (vs_for hp (vi_seq (ve_user c_reached tk hr (by decide) (by rfl) (va_cons (ve_v 0) va_nil) (len_cons len_nilF))) (vg_n 2 sc.nd)
    (vss_one (vs_for hp (vi_rng1 (by rfl) bl.range (va_cons (ve_v 1) va_nil)) (vg_n 3 sc.nd)
    (vss_one (vs_for hp (vi_rng2 (by rfl) bl.range (va_cons (ve_op op_addA v_add (ve_v 3) ve_int) (va_cons (ve_v 1) va_nil))) (vg_n 4 sc.nd)
    (vss_one (vs_if (vt_cmp (op_neA (hu64 hr)) k_ne.v (ve_user c_run_from tk hr (by decide) (by rfl) (va_cons (ve_v 0) (va_cons (ve_v 2) (va_cons (ve_tup (va_cons (ve_v 3) (va_cons (ve_v 4) va_nil))) va_nil))) (len_cons (len_cons (len_cons len_nilF)))) (ve_user c_run_from tk hr (by decide) (by rfl) (va_cons (ve_v 0) (va_cons (ve_v 2) (va_cons (ve_tup (va_cons (ve_v 4) (va_cons (ve_v 3) va_nil))) va_nil))) (len_cons (len_cons (len_cons len_nilF)))) (nomark _))
    (vss_one (vs_ret (ve_tup (va_cons (ve_v 2) (va_cons (ve_v 3) (va_cons (ve_v 4) va_nil))))))
    vss_nil)))))))
    (vss_one (vs_ret ve_non))))
theorem k_order_fault (T : Tx K mg) (c_need_system : Cl P w K mg base 5 "need_system" 1 m_need_system) (c_order_of : Cl P w K mg base 3 "order_of" 1 m_order_of) : Cl P w K mg base 6 "order_fault" 1 m_order_fault := by
  obtain ⟨f, fd, F, gf⟩ := T.f_order_fault
  have bl := T.bl
  refine clG F gf (F.bindsN (ps := ["system"]) fun _ _ _ _ _ _ us hl => match us, hl with | [_], _ => rfl) (fnG F sc_order_fault fun cdv A outer st H E hr hp tk => ?_) rfl
  have sc := sc_order_fault
  exact (vss_cons (vs_expr (ve_user c_need_system tk hr (by decide) (by rfl) (va_cons (ve_v 0) va_nil) (len_cons len_nilF)))
    (vss_one (vs_ret (ve_user c_order_of tk hr (by decide) (by rfl) (va_cons (ve_v 0) va_nil) (len_cons len_nilF)))))
theorem k_by_set (T : Tx K mg) (c_need_system : Cl P w K mg base 5 "need_system" 1 m_need_system) (c_order_of : Cl P w K mg base 3 "order_of" 1 m_order_of) (c_first_apart : Cl P w K mg base 3 "first_apart" 3 m_first_apart) : Cl P w K mg base 6 "by_set" 1 m_by_set := by
  obtain ⟨f, fd, F, gf⟩ := T.f_by_set
  have bl := T.bl
  refine clG F gf (F.bindsN (ps := ["system"]) fun _ _ _ _ _ _ us hl => match us, hl with | [_], _ => rfl) (fnG F sc_by_set fun cdv A outer st H E hr hp tk => ?_) rfl
  have sc := sc_by_set
  exact (vss_cons (vs_expr (ve_user c_need_system tk hr (by decide) (by rfl) (va_cons (ve_v 0) va_nil) (len_cons len_nilF)))
    (vss_cons (vs_if (vt_cmp op_notN k_notN.v (ve_user c_order_of tk hr (by decide) (by rfl) (va_cons (ve_v 0) va_nil) (len_cons len_nilF)) ve_non (nomark _))
    (vss_one (vs_ret ve_bl))
    vss_nil)
    (vss_one (vs_ret (ve_callB (cr_all rfl) v_all (by rfl) bl.all (by decide +kernel) (va_cons (ve_lcF finL_ok sc.nd (vi_rng1 (by rfl) bl.range (va_cons (ve_callB c_len v_len (by rfl) bl.len (by decide +kernel) (va_cons (ve_ix (ve_v 0) ve_int) va_nil)) va_nil)) (blkOk_by (own := [("number", 1)]) (by kernel_rfl)) (fun _ _ _ _ _ => (pg_name (i := 1) sc.nd rfl (by first | exact Or.inl rfl | exact Or.inr rfl))) (fun _ _ _ _ _ => vts_nil) (fun _ _ _ _ _ => (ve_cmp op_isN k_isN.v (ve_user c_first_apart takes_W0 hr (by decide) (by rfl) (va_cons (ve_v 0) (va_cons (ve_tup (va_cons (ve_v 1) (va_cons (ve_v 1) va_nil))) (va_cons (ve_tup (va_cons (ve_v 1) va_nil)) va_nil))) (len_cons (len_cons (len_cons len_nilF)))) ve_non (nomark _)))) va_nil))))))
theorem k_orders_of (T : Tx K mg)  : ∀ n : Nat, GCl P w K mg base (2 * n) "orders_of" 1 (m_orders_of n)
  | 0 => by
    obtain ⟨f, fd, F, gf⟩ := T.f_orders_of
    exact gcl0 F gf (F.bindsN (ps := ["log"]) fun _ _ _ _ _ _ us hl => match us, hl with | [_], _ => rfl) rfl
  | n + 1 => by
    have c_orders_of := k_orders_of T n
    show GCl P w K mg base (2 * n + 1 + 1) "orders_of" 1 (mGen 4 (b_orders_of (m_orders_of n)))
    obtain ⟨f, fd, F, gf⟩ := T.f_orders_of
    have bl := T.bl

    refine gclG F gf (F.bindsN (ps := ["log"]) fun _ _ _ _ _ _ us hl => match us, hl with | [_], _ => rfl) (gcall_of F sc_orders_of (fun _ => rfl) fun cdv outer pn C g sc0 HC A hr ga => ?_) rfl
    have sc := sc_orders_of
    exact (gv_cons (gv_if (W := W0) (fun _ _ => (vt_cmp (op_eqA (hu64 hr)) k_eq.v (ve_v 0) (ve_tup va_nil) (nomark _)))
      (gv_cons (gv_yield ga gq_unit)
      gv_nil)
      gv_nil)
      (gv_cons (gv_forE (W := W0) (il := 0) ga (fun _ _ => by rfl) bl.enumerate (fun _ _ => (vg_t 2 (vgs_cons (vg_n 1 sc.nd) (vgs_cons (vg_n 2 sc.nd) vgs_nil))))
      (gv_cons (gv_if (W := W0) (fun _ _ => (vt_cmp (op_notInA (hu65 hr)) v_notIn (ve_v 2) (ve_sl (ve_v 0) vo_no (vo_some (ve_v 1))) (by rfl)))
      (gv_cons (gv_forG ga sc.nd (gex_callC (W := W0) c_orders_of ga hr (by first | decide | omega) (fun _ _ => by rfl) (fun _ _ => (va_cons (ve_op op_addA v_add (ve_sl (ve_v 0) vo_no (vo_some (ve_v 1))) (ve_sl (ve_v 0) (vo_some (ve_op op_addA v_add (ve_v 1) ve_int)) vo_no)) va_nil))) (gq_of_cons))
      gv_nil)
      gv_nil)
      gv_nil))
      gv_nil))
theorem k_orders (T : Tx K mg) (c_orders_of : GCl P w K mg base 14 "orders_of" 1 (m_orders_of 7)) (c_need_log : Cl P w K mg base 4 "need_log" 2 m_need_log) (c_need_system : Cl P w K mg base 5 "need_system" 1 m_need_system) : GCl P w K mg base 18 "orders" 2 m_orders := by
  obtain ⟨f, fd, F, gf⟩ := T.f_orders
  have bl := T.bl
  obtain ⟨_, hg_MOST_ENTRIES⟩ := T.g_MOST_ENTRIES
  refine gclG F gf (F.bindsN (ps := ["system", "log"]) fun _ _ _ _ _ _ us hl => match us, hl with | [_, _], _ => rfl) (gcall_of F sc_orders (fun _ => rfl) fun cdv outer pn C g sc0 HC A hr ga => ?_) rfl
  have sc := sc_orders
  exact (gv_cons (gv_plain (W := W0) ga (fun _ _ => (vs_expr (ve_user c_need_system takes_W0 hr (by decide) (by rfl) (va_cons (ve_v 0) va_nil) (len_cons len_nilF)))))
    (gv_cons (gv_plain (W := W0) ga (fun _ _ => (vs_expr (ve_user c_need_log takes_W0 hr (by decide) (by rfl) (va_cons (ve_v 0) (va_cons (ve_v 1) va_nil)) (len_cons (len_cons len_nilF))))))
    (gv_cons (gv_plain (W := W0) ga (fun _ _ => (vs_if (vt_cmp op_gt k_gt.v (ve_callB c_len v_len (by rfl) bl.len (by decide +kernel) (va_cons (ve_v 1) va_nil)) (ve_gint (by rfl) hg_MOST_ENTRIES) (nomark _))
    (vss_one vs_never)
    vss_nil)))
    (gv_cons (gv_forG ga sc.nd (gex_callC (W := W0) c_orders_of ga hr (by first | decide | omega) (fun _ _ => by rfl) (fun _ _ => (va_cons (ve_callTy call_tuple_of v_tuple (by rfl) bl.tuple (by decide +kernel) (va_cons (ve_callB cr_sortedTp v_sortedTp (by rfl) bl.sorted (by decide +kernel) (va_cons (ve_v 1) va_nil)) va_nil)) va_nil))) (gq_of_name))
    gv_nil))))
theorem k__law_cell_at (T : Tx K mg)  : Cl P w K mg base 1 "_law_cell_at" 2 m__law_cell_at := by
  obtain ⟨f, fd, F, gf⟩ := T.f__law_cell_at
  have bl := T.bl
  refine clG F gf (F.bindsN (ps := ["_law_script", "_law_k"]) fun _ _ _ _ _ _ us hl => match us, hl with | [_, _], _ => rfl) (fnG F sc__law_cell_at fun cdv A outer st H E hr hp tk => ?_) rfl
  have sc := sc__law_cell_at
  exact (vss_cons (vs_if (vt_cmp op_lt k_lt.v (ve_v 1) (ve_callB c_len v_len (by rfl) bl.len (by decide +kernel) (va_cons (ve_v 0) va_nil)) (nomark _))
    (vss_one (vs_ret (ve_ix (ve_v 0) (ve_v 1))))
    vss_nil)
    (vss_one (vs_ret ve_int)))
theorem k__law_pen (T : Tx K mg)  : Cl P w K mg base 1 "_law_pen" 1 m__law_pen := by
  obtain ⟨f, fd, F, gf⟩ := T.f__law_pen
  have bl := T.bl
  refine clG F gf (F.bindsN (ps := ["_law_cell"]) fun _ _ _ _ _ _ us hl => match us, hl with | [_], _ => rfl) (fnG F sc__law_pen fun cdv A outer st H E hr hp tk => ?_) rfl
  have sc := sc__law_pen
  exact (vss_one (vs_ret (ve_lstO (va_cons (ve_callB (call_max2 rfl) v_max2 (by rfl) bl.max (by decide +kernel) (va_cons ve_int (va_cons (ve_op op_sub v_sub (ve_v 0) (ve_op op_pow v_pow ve_int ve_int)) va_nil))) (va_cons (ve_op op_mod v_mod (ve_v 0) ve_int) (va_cons ve_int va_nil))))))
theorem k__law_draw (T : Tx K mg)  : Cl P w K mg base 1 "_law_draw" 2 m__law_draw := by
  obtain ⟨f, fd, F, gf⟩ := T.f__law_draw
  have bl := T.bl
  refine clG F gf (F.bindsN (ps := ["_law_pen_here", "_law_many"]) fun _ _ _ _ _ _ us hl => match us, hl with | [_, _], _ => rfl) (fnG F sc__law_draw fun cdv A outer st H E hr hp tk => ?_) rfl
  have sc := sc__law_draw
  exact (vss_cons (vs_if (vt_cmp op_gt k_gt.v (ve_ix (ve_v 0) ve_int) ve_int (nomark _))
    (vss_cons (vs_asg (ve_op op_mod v_mod (ve_ix (ve_v 0) ve_int) (ve_v 1)) (vg_n 2 sc.nd))
    (vss_cons (vs_asg (ve_op op_fdiv v_div (ve_ix (ve_v 0) ve_int) (ve_v 1)) (vg_ix (ve_v 0) ve_int))
    (vss_one (vs_ret (ve_v 2)))))
    vss_nil)
    (vss_cons (vs_asg (ve_op op_addA v_add (ve_ix (ve_v 0) ve_int) ve_int) (vg_ix (ve_v 0) ve_int))
    (vss_cons (vs_asg (ve_op op_mod v_mod (ve_op op_mulA v_mul (ve_op op_addA v_add (ve_ix (ve_v 0) ve_int) (ve_op op_mulA v_mul ve_int (ve_ix (ve_v 0) ve_int))) (ve_op op_addA v_add ve_int (ve_op op_mulA v_mul ve_int (ve_ix (ve_v 0) ve_int)))) ve_int) (vg_n 3 sc.nd))
    (vss_cons (vs_asg (ve_op op_mod v_mod (ve_op op_addA v_add (ve_op op_addA v_add (ve_op op_mulA v_mul (ve_v 3) (ve_v 3)) (ve_op op_mulA v_mul ve_int (ve_ix (ve_v 0) ve_int))) ve_int) ve_int) (vg_n 3 sc.nd))
    (vss_one (vs_ret (ve_op op_mod v_mod (ve_op op_fdiv v_div (ve_op op_mod v_mod (ve_op op_mulA v_mul (ve_v 3) ve_int) ve_int) ve_int) (ve_v 1))))))))
theorem k__law_pick (T : Tx K mg) (c__law_draw : Cl P w K mg base 1 "_law_draw" 2 m__law_draw) : Cl P w K mg base 2 "_law_pick" 2 m__law_pick := by
  obtain ⟨f, fd, F, gf⟩ := T.f__law_pick
  have bl := T.bl
  refine clG F gf (F.bindsN (ps := ["_law_pen_here", "_law_things"]) fun _ _ _ _ _ _ us hl => match us, hl with | [_, _], _ => rfl) (fnG F sc__law_pick fun cdv A outer st H E hr hp tk => ?_) rfl
  have sc := sc__law_pick
  exact (vss_one (vs_ret (ve_ix (ve_v 1) (ve_user c__law_draw tk hr (by decide) (by rfl) (va_cons (ve_v 0) (va_cons (ve_callB c_len v_len (by rfl) bl.len (by decide +kernel) (va_cons (ve_v 1) va_nil)) va_nil)) (len_cons (len_cons len_nilF))))))
theorem k__law_drawn (T : Tx K mg) (c__law_draw : Cl P w K mg base 1 "_law_draw" 2 m__law_draw) (c__law_pick : Cl P w K mg base 2 "_law_pick" 2 m__law_pick) : Cl P w K mg base 3 "_law_drawn" 1 m__law_drawn := by
  obtain ⟨f, fd, F, gf⟩ := T.f__law_drawn
  have bl := T.bl
  refine clG F gf (F.bindsN (ps := ["_law_pen_here"]) fun _ _ _ _ _ _ us hl => match us, hl with | [_], _ => rfl) (fnG F sc__law_drawn fun cdv A outer st H E hr hp tk => ?_) rfl
  have sc := sc__law_drawn
  exact (vss_cons (vs_asg (ve_tup (va_cons (ve_op op_addA v_add ve_int (ve_user c__law_draw tk hr (by decide) (by rfl) (va_cons (ve_v 0) (va_cons ve_int va_nil)) (len_cons (len_cons len_nilF)))) (va_cons (ve_op op_addA v_add ve_int (ve_user c__law_draw tk hr (by decide) (by rfl) (va_cons (ve_v 0) (va_cons ve_int va_nil)) (len_cons (len_cons len_nilF)))) va_nil))) (vg_t 2 (vgs_cons (vg_n 1 sc.nd) (vgs_cons (vg_n 2 sc.nd) vgs_nil))))
    (vss_cons (vs_par sc.nd (va_cons (ve_lstO va_nil) (va_cons (ve_lstO va_nil) va_nil)))
    (vss_cons (vs_for hp (vi_rng1 (by rfl) bl.range (va_cons (ve_v 2) va_nil)) (vg_n 5 sc.nd)
    (vss_cons (vs_expr (ve_append (ve_v 3) (ve_callTy call_tuple_of v_tuple (by rfl) bl.tuple (by decide +kernel) (va_cons (ve_lcF finL_ok sc.nd (vi_rng1 (by rfl) bl.range (va_cons (ve_v 1) va_nil)) (blkOk_by (own := [("_law_state", 6)]) (by kernel_rfl)) (fun _ _ _ _ _ => (pg_name (i := 6) sc.nd rfl (by first | exact Or.inl rfl | exact Or.inr rfl))) (fun _ _ _ _ _ => vts_nil) (fun _ _ _ _ _ => (ve_user c__law_draw takes_W0 hr (by decide) (by rfl) (va_cons (ve_v 0) (va_cons (ve_v 1) va_nil)) (len_cons (len_cons len_nilF))))) va_nil))))
    (vss_one (vs_expr (ve_append (ve_v 4) (ve_user c__law_pick tk hr (by decide) (by rfl) (va_cons (ve_v 0) (va_cons (ve_lst (va_cons ve_non (va_cons ve_int (va_cons ve_int (va_cons ve_int (va_cons ve_int va_nil)))))) va_nil)) (len_cons (len_cons len_nilF))))))))
    (vss_one (vs_ret (ve_tup (va_cons (ve_v 1) (va_cons (ve_user c__law_draw tk hr (by decide) (by rfl) (va_cons (ve_v 0) (va_cons (ve_v 1) va_nil)) (len_cons (len_cons len_nilF))) (va_cons (ve_callTy call_tuple_of v_tuple (by rfl) bl.tuple (by decide +kernel) (va_cons (ve_v 3) va_nil)) (va_cons (ve_callTy call_tuple_of v_tuple (by rfl) bl.tuple (by decide +kernel) (va_cons (ve_v 4) va_nil)) va_nil))))))))))
theorem k__law_cells (T : Tx K mg) (c__law_pick : Cl P w K mg base 2 "_law_pick" 2 m__law_pick) (c__law_draw : Cl P w K mg base 1 "_law_draw" 2 m__law_draw) : Cl P w K mg base 3 "_law_cells" 1 m__law_cells := by
  obtain ⟨f, fd, F, gf⟩ := T.f__law_cells
  have bl := T.bl
  refine clG F gf (F.bindsN (ps := ["_law_pen_here"]) fun _ _ _ _ _ _ us hl => match us, hl with | [_], _ => rfl) (fnG F sc__law_cells fun cdv A outer st H E hr hp tk => ?_) rfl
  have sc := sc__law_cells
  exact (vss_cons (vs_asg (ve_user c__law_pick tk hr (by decide) (by rfl) (va_cons (ve_v 0) (va_cons (ve_lst (va_cons (ve_tup (va_cons ve_int (va_cons ve_int va_nil))) (va_cons (ve_tup (va_cons ve_int (va_cons ve_int va_nil))) (va_cons (ve_tup (va_cons ve_int (va_cons ve_int va_nil))) (va_cons (ve_tup (va_cons ve_int (va_cons ve_int va_nil))) (va_cons (ve_tup (va_cons ve_int (va_cons ve_int va_nil))) va_nil)))))) va_nil)) (len_cons (len_cons len_nilF))) (vg_t 2 (vgs_cons (vg_n 1 sc.nd) (vgs_cons (vg_n 2 sc.nd) vgs_nil))))
    (vss_cons (vs_par sc.nd (va_cons (ve_lstO va_nil) (va_cons (ve_lstO va_nil) va_nil)))
    (vss_cons (vs_asg (ve_user c__law_pick tk hr (by decide) (by rfl) (va_cons (ve_v 0) (va_cons (ve_lst (va_cons (ve_tup (va_cons ve_int (va_cons ve_int va_nil))) (va_cons (ve_tup (va_cons ve_int (va_cons ve_int va_nil))) (va_cons (ve_tup (va_cons ve_int (va_cons ve_non va_nil))) (va_cons (ve_tup (va_cons ve_int (va_cons ve_int va_nil))) va_nil))))) va_nil)) (len_cons (len_cons len_nilF))) (vg_n 5 sc.nd))
    (vss_cons (vs_for hp (vi_rng1 (by rfl) bl.range (va_cons (ve_op op_addA v_add ve_int (ve_user c__law_draw tk hr (by decide) (by rfl) (va_cons (ve_v 0) (va_cons ve_int va_nil)) (len_cons (len_cons len_nilF)))) va_nil)) (vg_n 6 sc.nd)
    (vss_cons (vs_asg (ve_user c__law_draw tk hr (by decide) (by rfl) (va_cons (ve_v 0) (va_cons ve_int va_nil)) (len_cons (len_cons len_nilF))) (vg_n 7 sc.nd))
    (vss_cons (vs_asg (ve_user c__law_draw tk hr (by decide) (by rfl) (va_cons (ve_v 0) (va_cons (ve_ix (ve_lst (va_cons (ve_v 1) (va_cons (ve_v 2) va_nil))) (ve_v 7)) va_nil)) (len_cons (len_cons len_nilF))) (vg_n 8 sc.nd))
    (vss_cons (vs_setLcF finL_ok sc.nd (vi_rng1 (by rfl) bl.range (va_cons (ve_op op_mulA v_mul (ve_v 1) (ve_v 2)) va_nil)) (blkOk_by (own := [("_law_state", 10)]) (by kernel_rfl)) (fun _ _ _ _ _ => (pg_name (i := 10) sc.nd rfl (by first | exact Or.inl rfl | exact Or.inr rfl))) (fun _ _ _ _ _ => vts_nil) (fun _ _ _ _ _ => (ve_if (vt_cmp (op_eqA (hu64 hr)) k_eq.v (ve_v 7) ve_int (nomark _)) (ve_op op_addA v_add (ve_op op_mulA v_mul (ve_v 8) (ve_v 2)) (ve_op op_mod v_mod (ve_v 10) (ve_v 2))) (ve_op op_addA v_add (ve_op op_mulA v_mul (ve_op op_fdiv v_div (ve_v 10) (ve_v 2)) (ve_v 2)) (ve_v 8)))) (sw_true rfl rfl rfl (by decide +kernel)))
    (vss_cons (vs_expr (ve_append (ve_v 3) (ve_callTy call_tuple_of v_tuple (by rfl) bl.tuple (by decide +kernel) (va_cons (ve_v 9) va_nil))))
    (vss_one (vs_expr (ve_append (ve_v 4) (ve_ix (ve_v 5) (ve_v 7))))))))))
    (vss_one (vs_ret (ve_tup (va_cons (ve_op op_mulA v_mul (ve_v 1) (ve_v 2)) (va_cons (ve_user c__law_draw tk hr (by decide) (by rfl) (va_cons (ve_v 0) (va_cons (ve_op op_mulA v_mul (ve_v 1) (ve_v 2)) va_nil)) (len_cons (len_cons len_nilF))) (va_cons (ve_callTy call_tuple_of v_tuple (by rfl) bl.tuple (by decide +kernel) (va_cons (ve_v 3) va_nil)) (va_cons (ve_callTy call_tuple_of v_tuple (by rfl) bl.tuple (by decide +kernel) (va_cons (ve_v 4) va_nil)) va_nil)))))))))))
theorem k__law_marks (T : Tx K mg) (c__law_draw : Cl P w K mg base 1 "_law_draw" 2 m__law_draw) (c__law_pick : Cl P w K mg base 2 "_law_pick" 2 m__law_pick) : Cl P w K mg base 3 "_law_marks" 1 m__law_marks := by
  obtain ⟨f, fd, F, gf⟩ := T.f__law_marks
  have bl := T.bl
  refine clG F gf (F.bindsN (ps := ["_law_pen_here"]) fun _ _ _ _ _ _ us hl => match us, hl with | [_], _ => rfl) (fnG F sc__law_marks fun cdv A outer st H E hr hp tk => ?_) rfl
  have sc := sc__law_marks
  exact (vss_cons (vs_par sc.nd (va_cons (ve_lstO va_nil) (va_cons (ve_lstO va_nil) va_nil)))
    (vss_cons (vs_for hp (vi_rng1 (by rfl) bl.range (va_cons (ve_op op_addA v_add ve_int (ve_user c__law_draw tk hr (by decide) (by rfl) (va_cons (ve_v 0) (va_cons ve_int va_nil)) (len_cons (len_cons len_nilF)))) va_nil)) (vg_n 3 sc.nd)
    (vss_cons (vs_asg (ve_tup (va_cons (ve_user c__law_pick tk hr (by decide) (by rfl) (va_cons (ve_v 0) (va_cons (ve_lst (va_cons ve_int (va_cons ve_int (va_cons ve_int va_nil)))) va_nil)) (len_cons (len_cons len_nilF))) (va_cons (ve_cmp op_gt k_gt.v (ve_user c__law_draw tk hr (by decide) (by rfl) (va_cons (ve_v 0) (va_cons ve_int va_nil)) (len_cons (len_cons len_nilF))) ve_int (nomark _)) va_nil))) (vg_t 2 (vgs_cons (vg_n 4 sc.nd) (vgs_cons (vg_n 5 sc.nd) vgs_nil))))
    (vss_cons (vs_asg (ve_lstO va_nil) (vg_n 6 sc.nd))
    (vss_cons (vs_for hp (vi_rng1 (by rfl) bl.range (va_cons ve_int va_nil)) (vg_n 7 sc.nd)
    (vss_cons (vs_asg (ve_lcF finL_ok sc.nd (vi_seq (ve_tup (va_cons ve_int (va_cons ve_int va_nil)))) (blkOk_by (own := [("_law_bit", 11)]) (by kernel_rfl)) (fun _ _ _ _ _ => (pg_name (i := 11) sc.nd rfl (by first | exact Or.inl rfl | exact Or.inr rfl))) (fun _ _ _ _ _ => (vts_one (vt_cmp (op_eqA (hu64 hr)) k_eq.v (ve_op op_mod v_mod (ve_op op_fdiv v_div (ve_v 7) (ve_v 11)) ve_int) ve_int (nomark _)))) (fun _ _ _ _ _ => (ve_v 11))) (vg_n 8 sc.nd))
    (vss_cons (vs_asg (ve_lcF finL_ok sc.nd (vi_seq (ve_tup (va_cons ve_int (va_cons ve_int va_nil)))) (blkOk_by (own := [("_law_bit", 11)]) (by kernel_rfl)) (fun _ _ _ _ _ => (pg_name (i := 11) sc.nd rfl (by first | exact Or.inl rfl | exact Or.inr rfl))) (fun _ _ _ _ _ => (vts_one (vt_cmp (op_eqA (hu64 hr)) k_eq.v (ve_op op_mod v_mod (ve_op op_fdiv v_div (ve_v 4) (ve_v 11)) ve_int) ve_int (nomark _)))) (fun _ _ _ _ _ => (ve_v 11))) (vg_n 9 sc.nd))
    (vss_cons (vs_setLcF finL_ok sc.nd (vi_seq (ve_tup (va_cons ve_int (va_cons ve_int va_nil)))) (blkOk_by (own := [("_law_bit", 11)]) (by kernel_rfl)) (fun _ _ _ _ _ => (pg_name (i := 11) sc.nd rfl (by first | exact Or.inl rfl | exact Or.inr rfl))) (fun _ _ _ _ _ => (vts_one (vt_cmp (op_inA (hu65 hr)) v_in (ve_v 11) (ve_op op_addA v_add (ve_v 8) (ve_v 9)) (by rfl)))) (fun _ _ _ _ _ => (ve_v 11)) (sw_true rfl rfl rfl (by decide +kernel)))
    (vss_one (vs_expr (ve_append (ve_v 6) (ve_if (vt_val (ve_v 5)) (ve_callB (cr_sum rfl) v_sum (by rfl) bl.sum (by decide +kernel) (va_cons (ve_v 10) va_nil)) (ve_callB (cr_sum rfl) v_sum (by rfl) bl.sum (by decide +kernel) (va_cons (ve_lcF finL_ok sc.nd (vi_seq (ve_v 8)) (blkOk_by (own := [("_law_bit", 11)]) (by kernel_rfl)) (fun _ _ _ _ _ => (pg_name (i := 11) sc.nd rfl (by first | exact Or.inl rfl | exact Or.inr rfl))) (fun _ _ _ _ _ => (vts_one (vt_cmp (op_notInA (hu65 hr)) v_notIn (ve_v 11) (ve_v 9) (by rfl)))) (fun _ _ _ _ _ => (ve_v 11))) va_nil))))))))))
    (vss_cons (vs_expr (ve_append (ve_v 1) (ve_callTy call_tuple_of v_tuple (by rfl) bl.tuple (by decide +kernel) (va_cons (ve_v 6) va_nil))))
    (vss_one (vs_expr (ve_append (ve_v 2) (ve_user c__law_pick tk hr (by decide) (by rfl) (va_cons (ve_v 0) (va_cons (ve_lst (va_cons ve_non (va_cons (ve_v 4) (va_cons ve_int va_nil)))) va_nil)) (len_cons (len_cons len_nilF)))))))))))
    (vss_one (vs_ret (ve_tup (va_cons ve_int (va_cons (ve_user c__law_draw tk hr (by decide) (by rfl) (va_cons (ve_v 0) (va_cons ve_int va_nil)) (len_cons (len_cons len_nilF))) (va_cons (ve_callTy call_tuple_of v_tuple (by rfl) bl.tuple (by decide +kernel) (va_cons (ve_v 1) va_nil)) (va_cons (ve_callTy call_tuple_of v_tuple (by rfl) bl.tuple (by decide +kernel) (va_cons (ve_v 2) va_nil)) va_nil)))))))))
theorem k__law_turns (T : Tx K mg) (c__law_draw : Cl P w K mg base 1 "_law_draw" 2 m__law_draw) (c__law_pick : Cl P w K mg base 2 "_law_pick" 2 m__law_pick) : Cl P w K mg base 3 "_law_turns" 1 m__law_turns := by
  obtain ⟨f, fd, F, gf⟩ := T.f__law_turns
  have bl := T.bl
  refine clG F gf (F.bindsN (ps := ["_law_pen_here"]) fun _ _ _ _ _ _ us hl => match us, hl with | [_], _ => rfl) (fnG F sc__law_turns fun cdv A outer st H E hr hp tk => ?_) rfl
  have sc := sc__law_turns
  exact (vss_cons (vs_asg (ve_tup (va_cons (ve_op op_addA v_add ve_int (ve_user c__law_draw tk hr (by decide) (by rfl) (va_cons (ve_v 0) (va_cons ve_int va_nil)) (len_cons (len_cons len_nilF)))) (va_cons (ve_lstO va_nil) (va_cons (ve_lstO va_nil) va_nil)))) (vg_t 3 (vgs_cons (vg_n 1 sc.nd) (vgs_cons (vg_n 2 sc.nd) (vgs_cons (vg_n 3 sc.nd) vgs_nil)))))
    (vss_cons (vs_for hp (vi_rng1 (by rfl) bl.range (va_cons (ve_op op_addA v_add ve_int (ve_user c__law_draw tk hr (by decide) (by rfl) (va_cons (ve_v 0) (va_cons ve_int va_nil)) (len_cons (len_cons len_nilF)))) va_nil)) (vg_n 4 sc.nd)
    (vss_cons (vs_asg (ve_tup (va_cons (ve_user c__law_draw tk hr (by decide) (by rfl) (va_cons (ve_v 0) (va_cons ve_int va_nil)) (len_cons (len_cons len_nilF))) (va_cons (ve_user c__law_draw tk hr (by decide) (by rfl) (va_cons (ve_v 0) (va_cons (ve_v 1) va_nil)) (len_cons (len_cons len_nilF))) va_nil))) (vg_t 2 (vgs_cons (vg_n 5 sc.nd) (vgs_cons (vg_n 6 sc.nd) vgs_nil))))
    (vss_cons (vs_setLcF finL_ok sc.nd (vi_rng1 (by rfl) bl.range (va_cons (ve_v 1) va_nil)) (blkOk_by (own := [("_law_state", 8)]) (by kernel_rfl)) (fun _ _ _ _ _ => (pg_name (i := 8) sc.nd rfl (by first | exact Or.inl rfl | exact Or.inr rfl))) (fun _ _ _ _ _ => vts_nil) (fun _ _ _ _ _ => (ve_op op_mod v_mod (ve_op op_addA v_add (ve_v 8) (ve_v 6)) (ve_v 1))) (sw_true rfl rfl rfl (by decide +kernel)))
    (vss_cons (vs_if (vt_cmp (op_eqA (hu64 hr)) k_eq.v (ve_v 5) ve_int (nomark _))
    (vss_one (vs_setLcF finL_ok sc.nd (vi_rng1 (by rfl) bl.range (va_cons (ve_v 1) va_nil)) (blkOk_by (own := [("_law_state", 8)]) (by kernel_rfl)) (fun _ _ _ _ _ => (pg_name (i := 8) sc.nd rfl (by first | exact Or.inl rfl | exact Or.inr rfl))) (fun _ _ _ _ _ => vts_nil) (fun _ _ _ _ _ => (ve_callB (call_max2 rfl) v_max2 (by rfl) bl.max (by decide +kernel) (va_cons (ve_v 8) (va_cons (ve_v 6) va_nil)))) (sw_true rfl rfl rfl (by decide +kernel))))
    vss_nil)
    (vss_cons (vs_if (vt_cmp (op_eqA (hu64 hr)) k_eq.v (ve_v 5) ve_int (nomark _))
    (vss_one (vs_setLcF finL_ok sc.nd (vi_rng1 (by rfl) bl.range (va_cons (ve_v 1) va_nil)) (blkOk_by (own := [("_law_state", 8)]) (by kernel_rfl)) (fun _ _ _ _ _ => (pg_name (i := 8) sc.nd rfl (by first | exact Or.inl rfl | exact Or.inr rfl))) (fun _ _ _ _ _ => vts_nil) (fun _ _ _ _ _ => (ve_v 6)) (sw_true rfl rfl rfl (by decide +kernel))))
    vss_nil)
    (vss_cons (vs_if (vt_cmp (op_eqA (hu64 hr)) k_eq.v (ve_v 5) ve_int (nomark _))
    (vss_one (vs_asg (ve_listRg (ve_v 1) (by rfl) bl.list (by rfl) bl.range) (vg_n 7 sc.nd)))
    vss_nil)
    (vss_cons (vs_expr (ve_append (ve_v 2) (ve_callTy call_tuple_of v_tuple (by rfl) bl.tuple (by decide +kernel) (va_cons (ve_v 7) va_nil))))
    (vss_one (vs_expr (ve_append (ve_v 3) (ve_user c__law_pick tk hr (by decide) (by rfl) (va_cons (ve_v 0) (va_cons (ve_lst (va_cons ve_non (va_cons (ve_v 5) (va_cons ve_int va_nil)))) va_nil)) (len_cons (len_cons len_nilF)))))))))))))
    (vss_one (vs_ret (ve_tup (va_cons (ve_v 1) (va_cons (ve_user c__law_draw tk hr (by decide) (by rfl) (va_cons (ve_v 0) (va_cons (ve_v 1) va_nil)) (len_cons (len_cons len_nilF))) (va_cons (ve_callTy call_tuple_of v_tuple (by rfl) bl.tuple (by decide +kernel) (va_cons (ve_v 2) va_nil)) (va_cons (ve_callTy call_tuple_of v_tuple (by rfl) bl.tuple (by decide +kernel) (va_cons (ve_v 3) va_nil)) va_nil)))))))))
theorem k__law_system (T : Tx K mg) (c__law_draw : Cl P w K mg base 1 "_law_draw" 2 m__law_draw) (c__law_drawn : Cl P w K mg base 3 "_law_drawn" 1 m__law_drawn) (c__law_cells : Cl P w K mg base 3 "_law_cells" 1 m__law_cells) (c__law_marks : Cl P w K mg base 3 "_law_marks" 1 m__law_marks) (c__law_turns : Cl P w K mg base 3 "_law_turns" 1 m__law_turns) : Cl P w K mg base 4 "_law_system" 1 m__law_system := by
  obtain ⟨f, fd, F, gf⟩ := T.f__law_system
  have bl := T.bl
  refine clG F gf (F.bindsN (ps := ["_law_pen_here"]) fun _ _ _ _ _ _ us hl => match us, hl with | [_], _ => rfl) (fnG F sc__law_system fun cdv A outer st H E hr hp tk => ?_) rfl
  have sc := sc__law_system
  exact (vss_cons (vs_asg (ve_user c__law_draw tk hr (by decide) (by rfl) (va_cons (ve_v 0) (va_cons ve_int va_nil)) (len_cons (len_cons len_nilF))) (vg_n 1 sc.nd))
    (vss_cons (vs_if (vt_cmp (op_eqA (hu64 hr)) k_eq.v (ve_v 1) ve_int (nomark _))
    (vss_one (vs_ret (ve_user c__law_drawn tk hr (by decide) (by rfl) (va_cons (ve_v 0) va_nil) (len_cons len_nilF))))
    vss_nil)
    (vss_cons (vs_asg (ve_if (vt_cmp op_lt k_lt.v (ve_v 1) ve_int (nomark _)) (ve_user c__law_cells tk hr (by decide) (by rfl) (va_cons (ve_v 0) va_nil) (len_cons len_nilF)) (ve_if (vt_cmp (op_eqA (hu64 hr)) k_eq.v (ve_v 1) ve_int (nomark _)) (ve_user c__law_marks tk hr (by decide) (by rfl) (va_cons (ve_v 0) va_nil) (len_cons len_nilF)) (ve_user c__law_turns tk hr (by decide) (by rfl) (va_cons (ve_v 0) va_nil) (len_cons len_nilF)))) (vg_n 2 sc.nd))
    (vss_cons (vs_if (vt_cmp op_gt k_gt.v (ve_user c__law_draw tk hr (by decide) (by rfl) (va_cons (ve_v 0) (va_cons ve_int va_nil)) (len_cons (len_cons len_nilF))) ve_int (nomark _))
    (vss_one (vs_ret (ve_v 2)))
    vss_nil)
    (vss_cons (vs_asg (ve_v 2) (vg_t 4 (vgs_cons (vg_n 3 sc.nd) (vgs_cons (vg_n 4 sc.nd) (vgs_cons (vg_n 5 sc.nd) (vgs_cons (vg_n 6 sc.nd) vgs_nil))))))
    (vss_cons (vs_par sc.nd (va_cons (ve_user c__law_draw tk hr (by decide) (by rfl) (va_cons (ve_v 0) (va_cons (ve_callB c_len v_len (by rfl) bl.len (by decide +kernel) (va_cons (ve_v 5) va_nil)) va_nil)) (len_cons (len_cons len_nilF))) (va_cons (ve_user c__law_draw tk hr (by decide) (by rfl) (va_cons (ve_v 0) (va_cons (ve_v 3) va_nil)) (len_cons (len_cons len_nilF))) va_nil)))
    (vss_cons (vs_asg (ve_op op_addA v_add (ve_op op_addA v_add (ve_sl (ve_ix (ve_v 5) (ve_v 7)) vo_no (vo_some (ve_v 8))) (ve_tup (va_cons (ve_user c__law_draw tk hr (by decide) (by rfl) (va_cons (ve_v 0) (va_cons (ve_v 3) va_nil)) (len_cons (len_cons len_nilF))) va_nil))) (ve_sl (ve_ix (ve_v 5) (ve_v 7)) (vo_some (ve_op op_addA v_add (ve_v 8) ve_int)) vo_no)) (vg_n 9 sc.nd))
    (vss_one (vs_ret (ve_tup (va_cons (ve_v 3) (va_cons (ve_v 4) (va_cons (ve_op op_addA v_add (ve_op op_addA v_add (ve_sl (ve_v 5) vo_no (vo_some (ve_v 7))) (ve_tup (va_cons (ve_v 9) va_nil))) (ve_sl (ve_v 5) (vo_some (ve_op op_addA v_add (ve_v 7) ve_int)) vo_no)) (va_cons (ve_v 6) va_nil))))))))))))))
theorem k__law_log (T : Tx K mg) (c__law_draw : Cl P w K mg base 1 "_law_draw" 2 m__law_draw) : Cl P w K mg base 2 "_law_log" 3 m__law_log := by
  obtain ⟨f, fd, F, gf⟩ := T.f__law_log
  have bl := T.bl
  refine clG F gf (F.bindsN (ps := ["_law_pen_here", "_law_system_here", "_law_cap"]) fun _ _ _ _ _ _ us hl => match us, hl with | [_, _, _], _ => rfl) (fnG F sc__law_log fun cdv A outer st H E hr hp tk => ?_) rfl
  have sc := sc__law_log
  exact (vss_one (vs_ret (ve_callTy call_tuple_of v_tuple (by rfl) bl.tuple (by decide +kernel) (va_cons (ve_lcF finL_ok sc.nd (vi_rng1 (by rfl) bl.range (va_cons (ve_user c__law_draw tk hr (by decide) (by rfl) (va_cons (ve_v 0) (va_cons (ve_op op_addA v_add (ve_v 2) ve_int) va_nil)) (len_cons (len_cons len_nilF))) va_nil)) (blkOk_by (own := [("_law_lap", 3)]) (by kernel_rfl)) (fun _ _ _ _ _ => (pg_name (i := 3) sc.nd rfl (by first | exact Or.inl rfl | exact Or.inr rfl))) (fun _ _ _ _ _ => vts_nil) (fun _ _ _ _ _ => (ve_user c__law_draw takes_W0 hr (by decide) (by rfl) (va_cons (ve_v 0) (va_cons (ve_callB c_len v_len (by rfl) bl.len (by decide +kernel) (va_cons (ve_ix (ve_v 1) ve_int) va_nil)) va_nil)) (len_cons (len_cons len_nilF))))) va_nil))))
theorem k__law_fault_right (T : Tx K mg) (c_path : Cl P w K mg base 6 "path" 2 m_path) (c_outcome : Cl P w K mg base 6 "outcome" 2 m_outcome) (c__law_log : Cl P w K mg base 2 "_law_log" 3 m__law_log) (c_orders : GCl P w K mg base 18 "orders" 2 m_orders) : Cl P w K mg base 22 "_law_fault_right" 3 m__law_fault_right := by
  obtain ⟨f, fd, F, gf⟩ := T.f__law_fault_right
  have bl := T.bl
  refine clG F gf (F.bindsN (ps := ["_law_pen_here", "_law_system_here", "_law_told"]) fun _ _ _ _ _ _ us hl => match us, hl with | [_, _, _], _ => rfl) (fnG F sc__law_fault_right fun cdv A outer st H E hr hp tk => ?_) rfl
  have sc := sc__law_fault_right
  exact (vss_cons (vs_if (vt_cmp op_notN k_notN.v (ve_v 2) ve_non (nomark _))
    (vss_cons (vs_asg (ve_v 2) (vg_t 3 (vgs_cons (vg_n 3 sc.nd) (vgs_cons (vg_n 4 sc.nd) (vgs_cons (vg_n 5 sc.nd) vgs_nil)))))
    (vss_cons (vs_asg (ve_user c_path tk hr (by decide) (by rfl) (va_cons (ve_v 1) (va_cons (ve_v 3) va_nil)) (len_cons (len_cons len_nilF))) (vg_n 6 sc.nd))
    (vss_one (vs_ret (ve_cmp (op_neA (hu64 hr)) k_ne.v (ve_user c_outcome tk hr (by decide) (by rfl) (va_cons (ve_v 1) (va_cons (ve_op op_addA v_add (ve_v 6) (ve_tup (va_cons (ve_v 4) (va_cons (ve_v 5) va_nil)))) va_nil)) (len_cons (len_cons len_nilF))) (ve_user c_outcome tk hr (by decide) (by rfl) (va_cons (ve_v 1) (va_cons (ve_op op_addA v_add (ve_v 6) (ve_tup (va_cons (ve_v 5) (va_cons (ve_v 4) va_nil)))) va_nil)) (len_cons (len_cons len_nilF))) (nomark _))))))
    vss_nil)
    (vss_cons (vs_for hp (vi_rng1 (by rfl) bl.range (va_cons ve_int va_nil)) (vg_n 7 sc.nd)
    (vss_cons (vs_asg (ve_user c__law_log tk hr (by decide) (by rfl) (va_cons (ve_v 0) (va_cons (ve_v 1) (va_cons ve_int va_nil))) (len_cons (len_cons (len_cons len_nilF)))) (vg_n 8 sc.nd))
    (vss_one (vs_if (vt_cmp (op_neA (hu64 hr)) k_ne.v (ve_lcGC c_orders hr (by decide) (by rfl) (va_cons (ve_v 1) (va_cons (ve_v 8) va_nil)) sc.nd (blkOk_by (own := [("_law_own", 9)]) (by kernel_rfl)) rfl (by decide) (by decide +kernel) (fun _ _ _ _ _ => (pg_name (i := 9) sc.nd rfl (by first | exact Or.inl rfl | exact Or.inr rfl))) (fun _ _ _ _ _ => (vts_one (vt_cmp (op_neA (hu64 hr)) k_ne.v (ve_user c_outcome takes_W0 hr (by decide) (by rfl) (va_cons (ve_v 1) (va_cons (ve_v 9) va_nil)) (len_cons (len_cons len_nilF))) (ve_user c_outcome takes_W0 hr (by decide) (by rfl) (va_cons (ve_v 1) (va_cons (ve_v 8) va_nil)) (len_cons (len_cons len_nilF))) (nomark _)))) (fun _ _ _ _ _ => ve_int)) (ve_lst va_nil) (nomark _))
    (vss_one (vs_ret ve_bl))
    vss_nil))))
    (vss_one (vs_ret ve_bl))))
theorem k__law_set_right (T : Tx K mg) (c_apart : Cl P w K mg base 6 "apart" 3 m_apart) (c_by_set : Cl P w K mg base 6 "by_set" 1 m_by_set) (c__law_log : Cl P w K mg base 2 "_law_log" 3 m__law_log) (c_outcome : Cl P w K mg base 6 "outcome" 2 m_outcome) : Cl P w K mg base 7 "_law_set_right" 3 m__law_set_right := by
  obtain ⟨f, fd, F, gf⟩ := T.f__law_set_right
  have bl := T.bl
  refine clG F gf (F.bindsN (ps := ["_law_pen_here", "_law_system_here", "_law_told"]) fun _ _ _ _ _ _ us hl => match us, hl with | [_, _, _], _ => rfl) (fnG F sc__law_set_right fun cdv A outer st H E hr hp tk => ?_) rfl
  have sc := sc__law_set_right
  exact (vss_cons (vs_asg (ve_listRg (ve_callB c_len v_len (by rfl) bl.len (by decide +kernel) (va_cons (ve_ix (ve_v 1) ve_int) va_nil)) (by rfl) bl.list (by rfl) bl.range) (vg_n 3 sc.nd))
    (vss_cons (vs_asg (ve_cmp (op_eqA (hu64 hr)) k_eq.v (ve_lcF finL_ok sc.nd (vi_seq (ve_v 3)) (blkOk_by (own := [("_law_one", 8)]) (by kernel_rfl)) (fun _ _ _ _ _ => (pg_name (i := 8) sc.nd rfl (by first | exact Or.inl rfl | exact Or.inr rfl))) (fun _ _ _ _ _ => (vts_one (vt_cmp op_notN k_notN.v (ve_user c_apart takes_W0 hr (by decide) (by rfl) (va_cons (ve_v 1) (va_cons (ve_tup (va_cons (ve_v 8) (va_cons (ve_v 8) va_nil))) (va_cons (ve_tup (va_cons (ve_v 8) va_nil)) va_nil))) (len_cons (len_cons (len_cons len_nilF)))) ve_non (nomark _)))) (fun _ _ _ _ _ => ve_int)) (ve_lst va_nil) (nomark _)) (vg_n 4 sc.nd))
    (vss_cons (vs_if (vt_cmp (op_neA (hu64 hr)) k_ne.v (ve_callB (c_repr hr.g (hu64 hr)) v_repr (by rfl) bl.repr (by decide +kernel) (va_cons (ve_user c_by_set tk hr (by decide) (by rfl) (va_cons (ve_v 1) va_nil) (len_cons len_nilF)) va_nil)) (ve_callB (c_repr hr.g (hu64 hr)) v_repr (by rfl) bl.repr (by decide +kernel) (va_cons (ve_and (ve_cmp op_isN k_isN.v (ve_v 2) ve_non (nomark _)) (ve_one (ve_v 4))) va_nil)) (nomark _))
    (vss_one (vs_ret ve_bl))
    vss_nil)
    (vss_cons (vs_for hp (vi_rng1 (by rfl) bl.range (va_cons ve_int va_nil)) (vg_n 5 sc.nd)
    (vss_cons (vs_asg (ve_user c__law_log tk hr (by decide) (by rfl) (va_cons (ve_v 0) (va_cons (ve_v 1) (va_cons ve_int va_nil))) (len_cons (len_cons (len_cons len_nilF)))) (vg_n 6 sc.nd))
    (vss_cons (vs_asg (ve_callTy call_tuple_of v_tuple (by rfl) bl.tuple (by decide +kernel) (va_cons (ve_srtSet (ve_v 6) (by rfl) bl.sorted (by rfl) bl.set) va_nil)) (vg_n 7 sc.nd))
    (vss_one (vs_if (vw_and (vt_cmp op_isN k_isN.v (ve_v 2) ve_non (nomark _)) (vw_and (vt_val (ve_v 4)) (vw_and1 (vt_cmp (op_neA (hu64 hr)) k_ne.v (ve_user c_outcome tk hr (by decide) (by rfl) (va_cons (ve_v 1) (va_cons (ve_v 7) va_nil)) (len_cons (len_cons len_nilF))) (ve_user c_outcome tk hr (by decide) (by rfl) (va_cons (ve_v 1) (va_cons (ve_v 6) va_nil)) (len_cons (len_cons len_nilF))) (nomark _))))).pt
    (vss_one (vs_ret ve_bl))
    vss_nil)))))
    (vss_one (vs_ret ve_bl))))))
theorem k__law_right (T : Tx K mg) (c_order_fault : Cl P w K mg base 6 "order_fault" 1 m_order_fault) (c__law_fault_right : Cl P w K mg base 22 "_law_fault_right" 3 m__law_fault_right) (c__law_set_right : Cl P w K mg base 7 "_law_set_right" 3 m__law_set_right) : Cl P w K mg base 23 "_law_right" 2 m__law_right := by
  obtain ⟨f, fd, F, gf⟩ := T.f__law_right
  have bl := T.bl
  refine clG F gf (F.bindsN (ps := ["_law_pen_here", "_law_system_here"]) fun _ _ _ _ _ _ us hl => match us, hl with | [_, _], _ => rfl) (fnG F sc__law_right fun cdv A outer st H E hr hp tk => ?_) rfl
  have sc := sc__law_right
  exact (vss_cons (vs_asg (ve_user c_order_fault tk hr (by decide) (by rfl) (va_cons (ve_v 1) va_nil) (len_cons len_nilF)) (vg_n 2 sc.nd))
    (vss_one (vs_ret (ve_and (ve_user c__law_fault_right tk hr (by decide) (by rfl) (va_cons (ve_v 0) (va_cons (ve_v 1) (va_cons (ve_v 2) va_nil))) (len_cons (len_cons (len_cons len_nilF)))) (ve_one (ve_user c__law_set_right tk hr (by decide) (by rfl) (va_cons (ve_v 0) (va_cons (ve_v 1) (va_cons (ve_v 2) va_nil))) (len_cons (len_cons (len_cons len_nilF)))))))))
theorem g_law (T : Tx K mg) (c__law_pen : Cl P w K mg base 1 "_law_pen" 1 m__law_pen) (c__law_cell_at : Cl P w K mg base 1 "_law_cell_at" 2 m__law_cell_at) (c__law_right : Cl P w K mg base 23 "_law_right" 2 m__law_right) (c__law_system : Cl P w K mg base 4 "_law_system" 1 m__law_system) {f : Addr} {fd : FuncData} (F : FunD K "law" "law" (defArgs (top 47)) (defBody (top 47)) (defScope (top 47)) [] [] f fd) : FnG P w K mg base 24 f fd ["_law_script"] (spG ⟨K, mg⟩ 1 m_law) := by
  have bl := T.bl
  refine fnG F sc_law fun cdv A outer st H E hr hp tk => ?_
  have sc := sc_law
  exact (vss_cons (vs_for hp (vi_rng1 (by rfl) bl.range (va_cons (ve_callB (call_max2 rfl) v_max2 (by rfl) bl.max (by decide +kernel) (va_cons ve_int (va_cons (ve_callB (call_min2 rfl) v_min2 (by rfl) bl.min (by decide +kernel) (va_cons (ve_callB c_len v_len (by rfl) bl.len (by decide +kernel) (va_cons (ve_v 0) va_nil)) (va_cons ve_int va_nil))) va_nil))) va_nil)) (vg_n 1 sc.nd)
    (vss_cons (vs_asg (ve_user c__law_pen tk hr (by decide) (by rfl) (va_cons (ve_user c__law_cell_at tk hr (by decide) (by rfl) (va_cons (ve_v 0) (va_cons (ve_v 1) va_nil)) (len_cons (len_cons len_nilF))) va_nil) (len_cons len_nilF)) (vg_n 2 sc.nd))
    (vss_one (vs_for hp (vi_rng1 (by rfl) bl.range (va_cons ve_int va_nil)) (vg_n 3 sc.nd)
    (vss_one (vs_if (vt_not (vt_val (ve_user c__law_right tk hr (by decide) (by rfl) (va_cons (ve_v 2) (va_cons (ve_user c__law_system tk hr (by decide) (by rfl) (va_cons (ve_v 2) va_nil) (len_cons len_nilF)) va_nil)) (len_cons (len_cons len_nilF)))))
    (vss_one (vs_ret ve_bl))
    vss_nil))))))
    (vss_one (vs_ret ve_bl)))
end
end W
namespace VL
open PySem PySem.Spec PyProof.Rows L2
theorem orders_is_g : m_orders = gOrders := rfl
/-! ### orders and sets of entries, in plain terms -/
theorem perm_run {y : Sys} (hy : y.Ok) (hf : y.ofault = none) {l m : List Nat} (p : l.Perm m) : Vl y l → ∀ st ∈ y.reach, y.run st l = y.run st m := by
  induction p with
  | nil => exact fun _ _ _ => rfl
  | cons a p ih =>
    intro hv st hst
    rw [run_cons, run_cons]
    exact ih (fun x hx => hv x (List.mem_cons_of_mem _ hx)) _ (reach_step hy hst (hv a (List.mem_cons_self ..)))
  | swap a b l =>
    intro hv st hst
    have h := ofault_none.1 hf st hst
    have e : y.run st [b, a] = y.run st [a, b] := by
      rcases Nat.lt_trichotomy a b with z | z | z
      · exact (h a b z (hv b (List.mem_cons_self ..))).symm
      · rw [z]
      · exact h b a z (hv a (List.mem_cons_of_mem _ (List.mem_cons_self ..)))
    rw [show b :: a :: l = [b, a] ++ l from rfl, show a :: b :: l = [a, b] ++ l from rfl, run_app, run_app, e]
  | trans p q ih1 ih2 =>
    intro hv st hst
    exact (ih1 hv st hst).trans (ih2 (fun x hx => hv x (p.mem_iff.2 hx)) st hst)
theorem calm_run {y : Sys} (hc : y.calm = true) {n : Nat} (hn : n < y.ops.length) {st : Nat} (hst : st ∈ y.reach) : y.run st [n, n] = y.run st [n] := by
  unfold Sys.calm at hc
  have h := of_decide_eq_true (List.all_eq_true.1 hc n (List.mem_range.2 hn))
  unfold Sys.apart Sys.apartIn at h
  rw [List.find?_eq_none] at h
  have := h st hst
  simpa using this
theorem again_run {y : Sys} (hy : y.Ok) (hf : y.ofault = none) (hc : y.calm = true) {l : List Nat} (hv : Vl y l) {x : Nat} (hx : x ∈ l) {st : Nat} (hst : st ∈ y.reach) : y.run st (x :: l) = y.run st l := by
  obtain ⟨a, b, rfl⟩ := List.append_of_mem hx
  have hxl : x < y.ops.length := hv x hx
  have p : (a ++ x :: b).Perm (x :: (a ++ b)) := List.perm_middle
  have h1 : y.run st (x :: (a ++ x :: b)) = y.run st (x :: x :: (a ++ b)) := perm_run hy hf (p.cons x) (fun z hz => by
    rcases List.mem_cons.1 hz with q | q
    · rw [q]; exact hxl
    · exact hv z q) st hst
  rw [h1, show x :: x :: (a ++ b) = [x, x] ++ (a ++ b) from rfl, run_app, calm_run hc hxl hst, ← run_app]
  exact (perm_run hy hf p hv st hst).symm
theorem sub_run {y : Sys} (hy : y.Ok) (hf : y.ofault = none) (hc : y.calm = true) {m : List Nat} (hm : Vl y m) : ∀ (l : List Nat), (∀ x ∈ l, x ∈ m) → ∀ st ∈ y.reach, y.run st (l ++ m) = y.run st m
  | [], _, _, _ => rfl
  | a :: l, h, st, hst => by
    have ha := h a (List.mem_cons_self ..)
    rw [List.cons_append, run_cons, sub_run hy hf hc hm l (fun x hx => h x (List.mem_cons_of_mem _ hx)) _ (reach_step hy hst (hm a ha)), ← run_cons]
    exact again_run hy hf hc hm ha hst
theorem set_run {y : Sys} (hy : y.Ok) (hf : y.ofault = none) (hc : y.calm = true) {l m : List Nat} (hl : Vl y l) (hm : Vl y m) (h : ∀ x, x ∈ l ↔ x ∈ m) {st : Nat} (hst : st ∈ y.reach) : y.run st l = y.run st m := by
  have e1 := sub_run hy hf hc hm l (fun x hx => (h x).1 hx) st hst
  have e2 := sub_run hy hf hc hl m (fun x hx => (h x).2 hx) st hst
  rw [← e1, ← e2]
  exact perm_run hy hf List.perm_append_comm (fun x hx => (List.mem_append.1 hx).elim (hm x) (hl x)) st hst
theorem srtSet_len : ∀ ns : List Int, (srtSet ns).length ≤ ns.length := by
  have ins : ∀ (k : Int) (ns : List Int), (insS k ns).length ≤ ns.length + 1 := fun k ns => by
    induction ns with
    | nil => simp [insS]
    | cons n ns ih =>
      unfold insS
      split
      · simp
      · split
        · simp
        · simp; omega
  intro ns
  induction ns with
  | nil => simp [srtSet]
  | cons n ns ih =>
    have h2 := ins n (srtSet ns)
    show (insS n (srtSet ns)).length ≤ _
    simp
    omega
/-- the set of a log, ascending -/
def shortL (l : List Nat) : List Nat := (srtSet (zL l)).map Int.toNat
theorem shortL_int (l : List Nat) : (srtSet (zL l)).map D.int = (shortL l).map nD := by
  unfold shortL
  rw [List.map_map]
  refine List.map_congr_left fun k hk => ?_
  have : k ∈ zL l := mem_srtSet.1 hk
  obtain ⟨x, _, rfl⟩ := List.mem_map.1 this
  simp [nD]
theorem mem_shortL (l : List Nat) (x : Nat) : x ∈ shortL l ↔ x ∈ l := by
  unfold shortL
  rw [List.mem_map]
  constructor
  · rintro ⟨k, hk, rfl⟩
    have : k ∈ zL l := mem_srtSet.1 hk
    obtain ⟨z, hz, rfl⟩ := List.mem_map.1 this
    simpa using hz
  · intro hx
    refine ⟨(x : Int), mem_srtSet.2 (List.mem_map.2 ⟨x, hx, rfl⟩), by simp⟩
theorem shortL_len (l : List Nat) : (shortL l).length ≤ l.length := by
  unfold shortL
  rw [List.length_map]
  have := srtSet_len (zL l)
  unfold zL at this ⊢
  simpa using this
section
variable {y : Sys} {s : S} {p f : Nat} {l : List Nat}
/-! ### what order_fault tells -/
theorem lcG_nil {i : Nat} {tt : MT} {el : ME} {ρ : Ev} : ∀ (kss : List (List Int)), (∀ ks ∈ kss, tt (ρ.set i (some (tupI ks))) [] = .ok false []) → ∀ acc, lcGgo i tt el ρ kss acc = some acc
  | [], _, _ => rfl
  | ks :: r, h, acc => by
    have e := h ks (List.mem_cons_self ..)
    unfold lcGgo
    simp only [e, Bool.false_eq_true, if_false]
    exact lcG_nil r (fun k hk => h k (List.mem_cons_of_mem _ hk)) acc
theorem opNe_nil (s : S) : opNe (.lst []) (.lst []) s = .ok (.bl false) s := rfl
theorem all_orders (hy : y.Ok) (hf : y.ofault = none) (hl : LogOk y 4 l) {n : Int} (s : S) :
    mLcG 2 m_orders (mCons (mVar 1) (mCons (mVar 8) mNil)) 9 (mB (mBin opNe (mUser m_outcome (mCons (mVar 1) (mCons (mVar 9) mNil))) (mUser m_outcome (mCons (mVar 1) (mCons (mVar 8) mNil))))) (mC (.int 1)) [9] [some (.obj p), some y.D, some .non, none, none, none, none, some (.int n), some (logD l), x9] s = .ok (.lst []) s := by
  have l6 : LogOk y 6 l := ⟨Nat.le_trans hl.1 (by decide), hl.2⟩
  have len : ((ordS l).map zL).length ≤ LIM := by
    have h1 := ordS_len l
    have h2 := facN_le l6.1
    rw [List.length_map]
    show _ ≤ 1000000
    omega
  have ma : ∀ ρ : Ev, ρ[1]? = some (some y.D) → ρ[8]? = some (some (logD l)) → mCons (mVar 1) (mCons (mVar 8) mNil) ρ s = .ok [y.D, logD l] s := fun ρ h1 h8 => by
    simp only [mCons_eq, mVar_eq, h1, h8, vg_some, R.bnd_ok, mNil_eq]
  unfold mLcG
  rw [ma _ rfl rfl, R.bnd_ok, orders_is_g, gOrders_eq hy l6]
  simp only
  rw [if_pos ⟨by simp [pureDs, pure_sys, pure_logD], rfl, len⟩]
  have em : maskE (wipeD [some (.obj p), some y.D, some .non, none, none, none, none, some (.int n), some (logD l), x9] [9]) = [none, some y.D, some .non, none, none, none, none, some (.int n), some (logD l), none] := by
    simp [maskE, wipeD_cons, wipeD_nil, pure_sys, pure_logD, pureD]
  rw [em, lcG_nil]
  intro ks hks
  obtain ⟨x, hx, rfl⟩ := List.mem_map.1 hks
  have px := mem_ordS.1 hx
  have xv : Vl y x := fun z hz => hl.2 z (px.mem_iff.1 hz)
  have e : y.run y.start x = y.run y.start l := perm_run hy hf px xv _ (reach_start y)
  rw [tupI_zL]
  simp only [List.set_cons_succ, List.set_cons_zero, mB_eq, mBin_eq, mUser_eq, mCons_eq, mVar_eq, get_0, List.getElem?_cons_succ, vg_some, R.bnd_ok, mNil_eq, outcome_ok hy (l := x) (by rw [px.length_eq]; have := hl.1; omega) xv, outcome_ok hy (l := l) (by have := hl.1; omega) hl.2, retag_ok, opNe_nD, e, decide_true, Bool.not_true, asB_ok]
theorem fault_right_ok (hy : y.Ok) (hp : Pen p (f + 1000) s) : wp (m__law_fault_right [.obj p, y.D, sabD y.ofault] s) fun d s' => d = .bl true ∧ Pen p f s' := by
  unfold m__law_fault_right
  rw [mFn_eq, wp_fin]
  cases ho : y.ofault with
  | some q =>
    obtain ⟨st, a, b⟩ := q
    obtain ⟨h1, h2, h3, h4⟩ := ofault_some ho
    have hi : initE 10 [.obj p, y.D, sabD (some (st, a, b))] = [some (.obj p), some y.D, some (.tup [nD st, nD a, nD b]), none, none, none, none, none, none, none] := rfl
    have pl := pathTo_len hy h1
    have pv := pathTo_lt hy h1
    have va : ∀ c d : Nat, c < y.ops.length → d < y.ops.length → Vl y (y.pathTo st ++ [c, d]) := fun c d hc hd x hx => by
      rcases List.mem_append.1 hx with z | z
      · exact pv x z
      · rcases List.mem_cons.1 z with rfl | z
        · exact hc
        · rw [List.mem_singleton.1 z]; exact hd
    have ad : ∀ (c d : Nat) s, opAdd (logD (y.pathTo st)) (.tup [nD c, nD d]) s = .ok (logD (y.pathTo st ++ [c, d])) s := fun c d s => by
      show opAdd (.tup _) (.tup _) s = _
      rw [opAdd_tup, if_pos (by simp [LIM]; omega)]
      simp [logD]
    have oc : ∀ c d s, c < y.ops.length → d < y.ops.length → m_outcome [y.D, logD (y.pathTo st ++ [c, d])] s = .ok (nD (y.run st [c, d])) s := fun c d s hc hd => by
      rw [outcome_ok hy (by simp; omega) (va c d hc hd), run_app, pathTo_run h1]
    have ab : a < y.ops.length := by omega
    have pk := fun s => path_ok hy h1 s
    simp only [nD] at pk
    rw [hi]
    simp only [mSeq_eq, mIfS_eq, mB_eq, mBin_eq, mVar_eq, get_0, List.getElem?_cons_succ, vg_some, R.bnd_ok, mC_eq, opNotN_eq, isNonD_tup, Bool.not_false, asB_ok, if_true, mAsg_eq, gT_eq, gConsM_eq, gN_eq, gNilM_eq, List.length_cons, List.length_nil, Nat.reduceAdd, List.set_cons_succ, List.set_cons_zero, seqF_nx, mUser_eq, mCons_eq, mNil_eq, pk, retag_ok, mRet_eq, mTup_eq, LIM_eq, Nat.reduceLeDiff, ad, oc _ _ _ ab h3, oc _ _ _ h3 ab, opNe_nD, seqF_ret, wp_ok, endQ_ret]
    refine ⟨by rw [decide_eq_false h4]; rfl, ((hp.mono (by omega)).app _)⟩
  | none =>
    have hi : initE 10 [.obj p, y.D, sabD none] = [some (.obj p), some y.D, some .non, none, none, none, none, none, none, none] := rfl
    rw [hi]
    simp only [mSeq_eq, mIfS_eq, mB_eq, mBin_eq, mVar_eq, get_0, List.getElem?_cons_succ, vg_some, R.bnd_ok, mC_eq, opNotN_eq, isNonD_non, Bool.not_true, asB_ok, Bool.false_eq_true, if_false, mSkip_eq, seqF_nx, mFor_eq, mRng1_bnd, mCons_eq, mNil_eq, wp_bnd]
    rw [rng1F_ok _ (by omega), rngD_nD]
    simp only [R.bnd_ok, wp_ok, forF_fix, show (4 : Int).toNat = 4 from rfl]
    refine wp_each (f := nD) (fun pre ρ s' => (∃ x7 x8, ρ = [some (.obj p), some y.D, some .non, none, none, none, none, x7, x8, none]) ∧ Pen p (f + (4 - pre.length) * 100) s') (List.range 4) _ _ ⟨⟨_, _, rfl⟩, hp.mono (by simp)⟩ ?_ ?_
    · rintro pre x post ρ s2 he ⟨⟨x7, x8, rfl⟩, hp2⟩
      have hl : pre.length < 4 := by
        have := congrArg List.length he
        simp at this
        omega
      simp only [gN_eq, wp_ok, List.set_cons_succ, List.set_cons_zero]
      rw [mSeq_eq, wp_bnd, mAsg_eq, wp_bnd, mUser_eq]
      simp only [mCons_eq, mVar_eq, get_0, List.getElem?_cons_succ, vg_some, R.bnd_ok, mC_eq, mNil_eq, wp_retag]
      refine (wp_log hy (f := f + (4 - (pre.length + 1)) * 100) (c := 4) (hp2.mono (by omega)) rfl (by omega)).mono ?_
      rintro d s3 ⟨l, rfl, hl1, hl2, hp3, _⟩
      have ao := all_orders (p := p) (x9 := none) hy ho (l := l) ⟨hl1, hl2⟩ (n := (x : Int)) s3
      simp only [wp_ok, gN_eq, List.set_cons_succ, List.set_cons_zero, seqF_nx, nD, mIfS_eq, mB_eq, mBin_eq, ao, R.bnd_ok, mLst_eq, mNil_eq, List.length_nil, LIM_eq, Nat.zero_le, if_true, opNe_nil, asB_ok, Bool.false_eq_true, if_false, mSkip_eq, turnQ_nx]
      exact ⟨⟨_, _, rfl⟩, hp3.mono (by simp)⟩
    · rintro ρ s2 ⟨⟨x7, x8, rfl⟩, hp2⟩
      simp only [seqF_nx, mRet_eq, mC_eq, R.bnd_ok, wp_ok, endQ_ret]
      exact ⟨trivial, hp2.mono (by omega)⟩
/-! ### what by_set tells -/
/-- a comprehension with a test that may leave something behind -/
theorem llc_fu {α : Type} {g0 : α → D} {t : Tg} {tt : MT} {el : ME} {ρw : Ev} {q : α → Bool} {g : α → D} : ∀ (xs : List α) (acc : List D) (s : S),
    (∀ x ∈ xs, ∀ s', ∃ ρ1 u, tgM t (g0 x) ρw = some ρ1 ∧ tt ρ1 s' = .ok (q x) (s' ++ u) ∧ ∀ s'', el ρ1 s'' = .ok (g x) s'') → ∃ u, llc t tt el ρw (xs.map g0) acc s = .ok (acc ++ (xs.filter q).map g) (s ++ u)
  | [], acc, s, _ => ⟨[], by simp [llc]⟩
  | x :: xs, acc, s, h => by
    obtain ⟨ρ1, u, h1, h2, h3⟩ := h x (List.mem_cons_self ..) s
    have ih := fun acc => llc_fu (t := t) (tt := tt) (el := el) (ρw := ρw) (q := q) (g := g) xs acc (s ++ u) fun z hz s' => h z (List.mem_cons_of_mem _ hz) s'
    simp only [List.map_cons]
    unfold llc
    rw [h1]
    cases hq : q x with
    | true =>
      obtain ⟨v, ih⟩ := ih (acc ++ [g x])
      refine ⟨u ++ v, ?_⟩
      simp [h2, hq, h3, ih]
    | false =>
      obtain ⟨v, ih⟩ := ih acc
      refine ⟨u ++ v, ?_⟩
      simp [h2, hq, ih]
theorem kD_no (o : Option Nat) : isNonD (kD o) = decide (o = none) := by cases o <;> rfl
theorem told_no (o : Option (Nat × Nat × Nat)) : isNonD (sabD o) = decide (o = none) := by cases o <;> rfl
theorem calm_ok (hy : y.Ok) {x0 x2 x4 x5 x6 x7 x8 : Option D} (s : S) : ∃ u, (mBin opEq (mLc (mSrc (mVar 3)) (.one 8) (mB (mBin opNotN (mUser m_apart (mCons (mVar 1) (mCons (mTup (mCons (mVar 8) (mCons (mVar 8) mNil))) (mCons (mTup (mCons (mVar 8) mNil)) mNil)))) (mC .non))) (mC (.int 1)) [8]) (mLst mNil)) [x0, some y.D, x2, some (.lst ((List.range y.ops.length).map nD)), x4, x5, x6, x7, x8] s = .ok (.bl y.calm) (s ++ u) := by
  have o6 := hy.o6
  obtain ⟨u, hu⟩ := llc_fu (g0 := nD) (t := .one 8) (tt := mB (mBin opNotN (mUser m_apart (mCons (mVar 1) (mCons (mTup (mCons (mVar 8) (mCons (mVar 8) mNil))) (mCons (mTup (mCons (mVar 8) mNil)) mNil)))) (mC .non))) (el := mC (.int 1)) (ρw := wipeD [x0, some y.D, x2, some (.lst ((List.range y.ops.length).map nD)), x4, x5, x6, x7, x8] [8])
    (q := fun n => !decide (y.apart [n, n] [n] = none)) (g := fun _ => .int 1) (List.range y.ops.length) [] s fun n hn s' => by
      have hn' := List.mem_range.1 hn
      have ap := fun s => apart_eq hy (a := [n, n]) (b := [n]) (by simp) (by simp) (by simp [Vl, hn']) (by simp [Vl, hn']) s
      simp only [logD, List.map_cons, List.map_nil] at ap
      refine ⟨_, gar m_apart [y.D, .tup [nD n, nD n], .tup [nD n]] s', rfl, ?_, fun s'' => rfl⟩
      simp only [wipeD_cons, wipeD_nil, List.set_cons_succ, List.set_cons_zero, mB_eq, mBin_eq, mUser_eq, mCons_eq, mTup_eq, mVar_eq, get_0, List.getElem?_cons_succ, vg_some, R.bnd_ok, mNil_eq, List.length_cons, List.length_nil, Nat.reduceAdd, LIM_eq, Nat.reduceLeDiff, if_true, ap, retag_ok, mC_eq, opNotN_eq, kD_no, asB_ok]
  refine ⟨u, ?_⟩
  simp only [mBin_eq, mLcF_eq, mSrc_eq, mVar_eq, get_0, List.getElem?_cons_succ, vg_some, R.bnd_ok, srcF_lst]
  rw [lcF_fix (by simp; omega) rfl, hu]
  simp only [R.bnd_ok, finL_eq, List.nil_append, filt_ones, mLst_eq, mNil_eq, List.length_nil, Nat.zero_le, LIM_eq, if_true]
  rw [show opEq (.lst (List.replicate ((List.range y.ops.length).filter fun n => !decide (y.apart [n, n] [n] = none)).length (.int 1))) (.lst []) (s ++ u) = _ from opEq_ones (fun b => b) _ _]
  congr 2
  unfold Sys.calm
  rw [Bool.eq_iff_iff, decide_eq_true_eq, List.length_eq_zero_iff, List.filter_eq_nil_iff, List.all_eq_true]
  constructor
  · intro h n hn
    simpa using h n hn
  · intro h n hn
    simpa using h n hn
theorem set_right_ok (hy : y.Ok) (hp : Pen p (f + 1000) s) : wp (m__law_set_right [.obj p, y.D, sabD y.ofault] s) fun d s' => d = .bl true ∧ Pen p f s' := by
  have o6 := hy.o6
  have fo : ∀ s, fLen [.tup (y.ops.map opD)] s = .ok (.int (y.ops.length : Nat)) s := fun s => by simp
  unfold m__law_set_right
  rw [mFn_eq, wp_fin]
  have hi : initE 9 [.obj p, y.D, sabD y.ofault] = [some (.obj p), some y.D, some (sabD y.ofault), none, none, none, none, none, none] := rfl
  have e1 : (mAsg (mListRg (mCall fLen (mCons (mBin opIx (mVar 1) (mC (.int 2))) mNil))) (gN 3)) [some (.obj p), some y.D, some (sabD y.ofault), none, none, none, none, none, none] s = .ok (.nx [some (.obj p), some y.D, some (sabD y.ofault), some (.lst ((List.range y.ops.length).map nD)), none, none, none, none, none]) s := by
    simp only [mAsg_eq, mListRg_eq, mCall_eq, mCons_eq, mBin_eq, mVar_eq, get_0, List.getElem?_cons_succ, vg_some, R.bnd_ok, mC_eq, ix_ops, mNil_eq, fo]
    rw [rgOk_pos (by omega), rngD_nD]
    simp only [Int.toNat_natCast, R.bnd_ok, gN_eq, List.set_cons_succ, List.set_cons_zero]
  rw [hi, mSeq_eq, e1]
  simp only [R.bnd_ok, seqF_nx]
  obtain ⟨u, e2⟩ := calm_ok hy (x0 := some (.obj p)) (x2 := some (sabD y.ofault)) (x4 := none) (x5 := none) (x6 := none) (x7 := none) (x8 := none) s
  rw [mSeq_eq, mAsg_eq, e2]
  simp only [R.bnd_ok, gN_eq, List.set_cons_succ, List.set_cons_zero, seqF_nx]
  have hp1 : Pen p (f + 1000) (s ++ u) := hp.app u
  generalize s ++ u = s1 at hp1
  have bs := fun s => by_set_eq hy s
  have rp := fun (b : Bool) s => (fine_bl 0 0 b).repr (by decide) (by decide) s
  have av : ∀ s, (mAndV (mBin opIsN (mVar 2) (mC .non)) (mVar 4)) [some (.obj p), some y.D, some (sabD y.ofault), some (.lst ((List.range y.ops.length).map nD)), some (.bl y.calm), none, none, none, none] s = .ok (.bl y.bySet) s := fun s => by
    simp only [mAndV_eq, mBin_eq, mVar_eq, get_0, List.getElem?_cons_succ, vg_some, R.bnd_ok, mC_eq, opIsN_eq, told_no, asB_ok]
    unfold Sys.bySet
    cases h : decide (y.ofault = none) with
    | true => simp only [if_true, Bool.true_and]
    | false => simp only [Bool.false_eq_true, if_false, Bool.false_and]
  rw [mSeq_eq, mIfS_eq, mB_eq, mBin_eq]
  simp only [mCall_eq, mCons_eq, mUser_eq, mVar_eq, get_0, List.getElem?_cons_succ, vg_some, R.bnd_ok, mNil_eq, bs, retag_ok, rp, av]
  rw [show opNe (.str (shw (.bl y.bySet))) (.str (shw (.bl y.bySet))) (s1 ++ gar m_by_set [y.D] s1) = _ from opEqF_str _ (fun b => !b) _ _]
  simp only [R.bnd_ok, decide_true, Bool.not_true, asB_ok, Bool.false_eq_true, if_false, mSkip_eq, seqF_nx]
  have hp2 : Pen p (f + 1000) (s1 ++ gar m_by_set [y.D] s1) := hp1.app _
  generalize s1 ++ gar m_by_set [y.D] s1 = s2 at hp2
  rw [mSeq_eq, wp_bnd]
  simp only [mFor_eq, mRng1_bnd, mCons_eq, mC_eq, mNil_eq, R.bnd_ok]
  rw [rng1F_ok _ (by omega), rngD_nD]
  simp only [R.bnd_ok, wp_ok, forF_fix, show (5 : Int).toNat = 5 from rfl]
  refine wp_each (f := nD) (fun pre ρ s' => (∃ x5 x6 x7, ρ = [some (.obj p), some y.D, some (sabD y.ofault), some (.lst ((List.range y.ops.length).map nD)), some (.bl y.calm), x5, x6, x7, none]) ∧ Pen p (f + (5 - pre.length) * 100) s') (List.range 5) _ _ ⟨⟨_, _, _, rfl⟩, hp2.mono (by simp)⟩ ?_ ?_
  · rintro pre x post ρ s3 he ⟨⟨x5, x6, x7, rfl⟩, hp3⟩
    have hl : pre.length < 5 := by
      have := congrArg List.length he
      simp at this
      omega
    simp only [gN_eq, wp_ok, List.set_cons_succ, List.set_cons_zero]
    rw [mSeq_eq, wp_bnd, mAsg_eq, wp_bnd, mUser_eq]
    simp only [mCons_eq, mVar_eq, get_0, List.getElem?_cons_succ, vg_some, R.bnd_ok, mC_eq, mNil_eq, wp_retag]
    refine (wp_log hy (f := f + (5 - (pre.length + 1)) * 100) (c := 9) (hp3.mono (by omega)) rfl (by omega)).mono ?_
    rintro d s4 ⟨l, rfl, hl1, hl2, hp4, _⟩
    have ti : toI (l.map nD) = some (zL l) := by
      have := toI_ints (zL l)
      rw [show (zL l).map D.int = l.map nD by simp [zL, nD, Function.comp_def]] at this
      exact this
    have sv : Vl y (shortL l) := fun z hz => hl2 z ((mem_shortL l z).1 hz)
    have sl := shortL_len l
    have st : (mAsg (mCall fTuple (mCons (mSrtSet (mVar 6)) mNil)) (gN 7)) [some (.obj p), some y.D, some (sabD y.ofault), some (.lst ((List.range y.ops.length).map nD)), some (.bl y.calm), some (nD x), some (logD l), x7, none] s4 = .ok (.nx [some (.obj p), some y.D, some (sabD y.ofault), some (.lst ((List.range y.ops.length).map nD)), some (.bl y.calm), some (nD x), some (logD l), some (logD (shortL l)), none]) s4 := by
      simp only [mAsg_eq, mCall_eq, mCons_eq]
      unfold mSrtSet
      simp only [mVar_eq, get_0, List.getElem?_cons_succ, vg_some, R.bnd_ok, logD, ti]
      rw [if_pos (by simp [zL]; omega)]
      simp only [R.bnd_ok, mNil_eq, shortL_int, fTuple_lst, gN_eq, List.set_cons_succ, List.set_cons_zero]
    simp only [wp_ok, gN_eq, R.bnd_ok, List.set_cons_succ, List.set_cons_zero, seqF_nx]
    rw [mSeq_eq]
    rw [show (mAsg (mCall fTuple (mCons (mSrtSet (mVar 6)) mNil)) (gN 7)) [some (.obj p), some y.D, some (sabD y.ofault), some (.lst ((List.range y.ops.length).map nD)), some (.bl y.calm), some (nD x), some (logD l), x7, none] s4 = _ from st]
    simp only [R.bnd_ok, seqF_nx]
    have cnd : (mAndT (mB (mBin opIsN (mVar 2) (mC .non))) (mAndT (mB (mVar 4)) (mB (mBin opNe (mUser m_outcome (mCons (mVar 1) (mCons (mVar 7) mNil))) (mUser m_outcome (mCons (mVar 1) (mCons (mVar 6) mNil))))))) [some (.obj p), some y.D, some (sabD y.ofault), some (.lst ((List.range y.ops.length).map nD)), some (.bl y.calm), some (nD x), some (logD l), some (logD (shortL l)), none] s4 = .ok false s4 := by
      simp only [mAndT_eq, mB_eq, mBin_eq, mVar_eq, get_0, List.getElem?_cons_succ, vg_some, R.bnd_ok, mC_eq, opIsN_eq, told_no, asB_ok]
      cases h1 : decide (y.ofault = none) with
      | false => simp only [Bool.false_eq_true, if_false]
      | true =>
        simp only [if_true]
        cases h2 : y.calm with
        | false => simp only [Bool.false_eq_true, if_false]
        | true =>
          have e := set_run hy (of_decide_eq_true h1) h2 sv hl2 (mem_shortL l) (reach_start y)
          simp only [if_true, mUser_eq, mCons_eq, mVar_eq, get_0, List.getElem?_cons_succ, vg_some, R.bnd_ok, mNil_eq, outcome_ok hy (l := shortL l) (by omega) sv, outcome_ok hy (l := l) (by omega) hl2, retag_ok, opNe_nD, e, decide_true, Bool.not_true, asB_ok]
    rw [mIfS_eq, cnd]
    simp only [R.bnd_ok, Bool.false_eq_true, if_false, mSkip_eq, wp_ok, turnQ_nx]
    exact ⟨⟨_, _, _, rfl⟩, hp4.mono (by simp)⟩
  · rintro ρ s3 ⟨⟨x5, x6, x7, rfl⟩, hp3⟩
    simp only [seqF_nx, mRet_eq, mC_eq, R.bnd_ok, wp_ok, endQ_ret]
    exact ⟨trivial, hp3.mono (by omega)⟩
theorem law_right30 (hy : y.Ok) (hp : Pen p (f + 100000) s) : wp (m__law_right [.obj p, y.D] s) fun d s' => d = .bl true ∧ Pen p f s' := by
  unfold m__law_right
  rw [mFn_eq, wp_fin]
  have hi : initE 3 [.obj p, y.D] = [some (.obj p), some y.D, none] := rfl
  rw [hi]
  have hp1 : Pen p (f + 100000) (s ++ gar m_order_of [y.D] s) := hp.app _
  simp only [mSeq_eq, mAsg_eq, mUser_eq, mCons_eq, mVar_eq, get_0, List.getElem?_cons_succ, vg_some, R.bnd_ok, mNil_eq, order_fault_ok hy, retag_ok, gN_eq, List.set_cons_succ, List.set_cons_zero, seqF_nx, mRet_eq, mAndV_eq, wp_bnd, wp_asB, wp_retag]
  generalize s ++ gar m_order_of [y.D] s = s1 at hp1
  refine (fault_right_ok hy (f := f + 1000) (hp1.mono (by omega))).mono ?_
  rintro d s2 ⟨rfl, hp2⟩
  simp only [bQ_bl, if_true, wp_bnd, wp_retag]
  refine (set_right_ok hy hp2).mono ?_
  rintro d s3 ⟨rfl, hp3⟩
  simp only [wp_ok, endQ_ret]
  exact ⟨trivial, hp3⟩
end
theorem law30 (ns : List Int) : ∃ s', m_law [.scr (ns.map D.int)] [] = .ok (.bl true) s' :=
  law_A (n := 3) (c := 3) (by omega) (by omega) fun y p f s hy hp => law_right30 hy hp
end VL
namespace Hd
open PySem PySem.Spec PyProof.Rows L2 VL
open W (top)
section
variable {P : Program} {w : World} {K : PySem.W.Frag} {mg : Str → Option Value} {h base : Heap}
theorem tx (X : K.In h) (G : h.Ns mainGlobals mg) (c : He.SaysD fa fn K) : W.Tx K mg where
  bl := ⟨He.free_ok X G (c.fact 35 (f := .free "all") rfl), He.free_ok X G (c.fact 36 (f := .free "any") rfl), He.free_ok X G (c.fact 37 (f := .free "dict") rfl), He.free_ok X G (c.fact 38 (f := .free "enumerate") rfl), He.free_ok X G (c.fact 39 (f := .free "int") rfl), He.free_ok X G (c.fact 40 (f := .free "bool") rfl), He.free_ok X G (c.fact 41 (f := .free "isinstance") rfl), He.free_ok X G (c.fact 42 (f := .free "len") rfl), He.free_ok X G (c.fact 43 (f := .free "list") rfl), He.free_ok X G (c.fact 44 (f := .free "max") rfl), He.free_ok X G (c.fact 45 (f := .free "min") rfl), He.free_ok X G (c.fact 46 (f := .free "range") rfl), He.free_ok X G (c.fact 47 (f := .free "repr") rfl), He.free_ok X G (c.fact 48 (f := .free "set") rfl), He.free_ok X G (c.fact 49 (f := .free "sorted") rfl), He.free_ok X G (c.fact 50 (f := .free "str") rfl), He.free_ok X G (c.fact 51 (f := .free "sum") rfl), He.free_ok X G (c.fact 52 (f := .free "tuple") rfl), He.free_ok X G (c.fact 53 (f := .free "zip") rfl), He.free_ok X G (c.fact 54 (f := .free "ValueError") rfl)⟩
  f_is_whole := (c.def_ 0 (d := d10) rfl).elim fun fd F => ⟨_, fd, F, He.glo_ok X G (c.fact 0 (f := .glo "is_whole") rfl)⟩
  f_is_between := (c.def_ 1 (d := d11) rfl).elim fun fd F => ⟨_, fd, F, He.glo_ok X G (c.fact 1 (f := .glo "is_between") rfl)⟩
  f_are_states := (c.def_ 2 (d := d12) rfl).elim fun fd F => ⟨_, fd, F, He.glo_ok X G (c.fact 2 (f := .glo "are_states") rfl)⟩
  f_is_kind := (c.def_ 3 (d := d13) rfl).elim fun fd F => ⟨_, fd, F, He.glo_ok X G (c.fact 3 (f := .glo "is_kind") rfl)⟩
  f_is_system := (c.def_ 4 (d := d14) rfl).elim fun fd F => ⟨_, fd, F, He.glo_ok X G (c.fact 4 (f := .glo "is_system") rfl)⟩
  f_need_system := (c.def_ 5 (d := d15) rfl).elim fun fd F => ⟨_, fd, F, He.glo_ok X G (c.fact 5 (f := .glo "need_system") rfl)⟩
  f_is_log := (c.def_ 6 (d := d16) rfl).elim fun fd F => ⟨_, fd, F, He.glo_ok X G (c.fact 6 (f := .glo "is_log") rfl)⟩
  f_need_log := (c.def_ 7 (d := d17) rfl).elim fun fd F => ⟨_, fd, F, He.glo_ok X G (c.fact 7 (f := .glo "need_log") rfl)⟩
  f_run_from := (c.def_ 8 (d := d18) rfl).elim fun fd F => ⟨_, fd, F, He.glo_ok X G (c.fact 8 (f := .glo "run_from") rfl)⟩
  f_outcome_of := (c.def_ 9 (d := d19) rfl).elim fun fd F => ⟨_, fd, F, He.glo_ok X G (c.fact 9 (f := .glo "outcome_of") rfl)⟩
  f_outcome := (c.def_ 10 (d := d20) rfl).elim fun fd F => ⟨_, fd, F, He.glo_ok X G (c.fact 10 (f := .glo "outcome") rfl)⟩
  f_paths_of := (c.def_ 11 (d := d21) rfl).elim fun fd F => ⟨_, fd, F, He.glo_ok X G (c.fact 11 (f := .glo "paths_of") rfl)⟩
  f_reached := (c.def_ 12 (d := d22) rfl).elim fun fd F => ⟨_, fd, F, He.glo_ok X G (c.fact 12 (f := .glo "reached") rfl)⟩
  f_path := (c.def_ 13 (d := d23) rfl).elim fun fd F => ⟨_, fd, F, He.glo_ok X G (c.fact 13 (f := .glo "path") rfl)⟩
  f_first_apart := (c.def_ 14 (d := d24) rfl).elim fun fd F => ⟨_, fd, F, He.glo_ok X G (c.fact 14 (f := .glo "first_apart") rfl)⟩
  f_apart := (c.def_ 15 (d := d25) rfl).elim fun fd F => ⟨_, fd, F, He.glo_ok X G (c.fact 15 (f := .glo "apart") rfl)⟩
  f_order_of := (c.def_ 16 (d := d28) rfl).elim fun fd F => ⟨_, fd, F, He.glo_ok X G (c.fact 16 (f := .glo "order_of") rfl)⟩
  f_order_fault := (c.def_ 17 (d := d29) rfl).elim fun fd F => ⟨_, fd, F, He.glo_ok X G (c.fact 17 (f := .glo "order_fault") rfl)⟩
  f_by_set := (c.def_ 18 (d := d30) rfl).elim fun fd F => ⟨_, fd, F, He.glo_ok X G (c.fact 18 (f := .glo "by_set") rfl)⟩
  f_orders_of := (c.def_ 19 (d := d31) rfl).elim fun fd F => ⟨_, fd, F, He.glo_ok X G (c.fact 19 (f := .glo "orders_of") rfl)⟩
  f_orders := (c.def_ 20 (d := d32) rfl).elim fun fd F => ⟨_, fd, F, He.glo_ok X G (c.fact 20 (f := .glo "orders") rfl)⟩
  f__law_cell_at := (c.def_ 21 (d := d34) rfl).elim fun fd F => ⟨_, fd, F, He.glo_ok X G (c.fact 21 (f := .glo "_law_cell_at") rfl)⟩
  f__law_pen := (c.def_ 22 (d := d35) rfl).elim fun fd F => ⟨_, fd, F, He.glo_ok X G (c.fact 22 (f := .glo "_law_pen") rfl)⟩
  f__law_draw := (c.def_ 23 (d := d36) rfl).elim fun fd F => ⟨_, fd, F, He.glo_ok X G (c.fact 23 (f := .glo "_law_draw") rfl)⟩
  f__law_pick := (c.def_ 24 (d := d37) rfl).elim fun fd F => ⟨_, fd, F, He.glo_ok X G (c.fact 24 (f := .glo "_law_pick") rfl)⟩
  f__law_drawn := (c.def_ 25 (d := d38) rfl).elim fun fd F => ⟨_, fd, F, He.glo_ok X G (c.fact 25 (f := .glo "_law_drawn") rfl)⟩
  f__law_cells := (c.def_ 26 (d := d39) rfl).elim fun fd F => ⟨_, fd, F, He.glo_ok X G (c.fact 26 (f := .glo "_law_cells") rfl)⟩
  f__law_marks := (c.def_ 27 (d := d40) rfl).elim fun fd F => ⟨_, fd, F, He.glo_ok X G (c.fact 27 (f := .glo "_law_marks") rfl)⟩
  f__law_turns := (c.def_ 28 (d := d41) rfl).elim fun fd F => ⟨_, fd, F, He.glo_ok X G (c.fact 28 (f := .glo "_law_turns") rfl)⟩
  f__law_system := (c.def_ 29 (d := d42) rfl).elim fun fd F => ⟨_, fd, F, He.glo_ok X G (c.fact 29 (f := .glo "_law_system") rfl)⟩
  f__law_log := (c.def_ 30 (d := d43) rfl).elim fun fd F => ⟨_, fd, F, He.glo_ok X G (c.fact 30 (f := .glo "_law_log") rfl)⟩
  f__law_fault_right := (c.def_ 31 (d := d44) rfl).elim fun fd F => ⟨_, fd, F, He.glo_ok X G (c.fact 31 (f := .glo "_law_fault_right") rfl)⟩
  f__law_set_right := (c.def_ 32 (d := d45) rfl).elim fun fd F => ⟨_, fd, F, He.glo_ok X G (c.fact 32 (f := .glo "_law_set_right") rfl)⟩
  f__law_right := (c.def_ 33 (d := d46) rfl).elim fun fd F => ⟨_, fd, F, He.glo_ok X G (c.fact 33 (f := .glo "_law_right") rfl)⟩
  f_law := (c.def_ 34 (d := d47) rfl).elim fun fd F => ⟨_, fd, F, He.glo_ok X G (c.fact 34 (f := .glo "law") rfl)⟩
  g_MOST_STATES := He.int_ok X G (c.fact 55 (f := .int "MOST_STATES" 6) rfl)
  g_MOST_OPERATIONS := He.int_ok X G (c.fact 56 (f := .int "MOST_OPERATIONS" 6) rfl)
  g_MOST_KIND := He.int_ok X G (c.fact 57 (f := .int "MOST_KIND" 9) rfl)
  g_MOST_ENTRIES := He.int_ok X G (c.fact 58 (f := .int "MOST_ENTRIES" 6) rfl)
theorem lawG (T : W.Tx K mg) {f : Addr} {fd : FuncData} (F : FunD K "law" "law" (defArgs (top 47)) (defBody (top 47)) (defScope (top 47)) [] [] f fd) : FnG P w K mg base 24 f fd ["_law_script"] (spG ⟨K, mg⟩ 1 m_law) := by
  have c_is_whole := W.k_is_whole (P := P) (w := w) (base := base) T
  have c_is_between := W.k_is_between (P := P) (w := w) (base := base) T c_is_whole
  have c_are_states := W.k_are_states (P := P) (w := w) (base := base) T c_is_between
  have c_is_kind := W.k_is_kind (P := P) (w := w) (base := base) T c_is_between
  have c_is_system := W.k_is_system (P := P) (w := w) (base := base) T c_is_between c_are_states c_is_kind
  have c_need_system := W.k_need_system (P := P) (w := w) (base := base) T c_is_system
  have c_is_log := W.k_is_log (P := P) (w := w) (base := base) T c_is_between
  have c_need_log := W.k_need_log (P := P) (w := w) (base := base) T c_is_log
  have c_run_from := W.k_run_from (P := P) (w := w) (base := base) T
  have c_outcome_of := W.k_outcome_of (P := P) (w := w) (base := base) T c_run_from
  have c_outcome := W.k_outcome (P := P) (w := w) (base := base) T c_need_system c_need_log c_outcome_of
  have c_paths_of := W.k_paths_of (P := P) (w := w) (base := base) T
  have c_reached := W.k_reached (P := P) (w := w) (base := base) T c_paths_of
  have c_path := W.k_path (P := P) (w := w) (base := base) T c_need_system c_paths_of c_is_whole
  have c_first_apart := W.k_first_apart (P := P) (w := w) (base := base) T c_reached c_run_from
  have c_apart := W.k_apart (P := P) (w := w) (base := base) T c_need_system c_need_log c_first_apart
  have c_order_of := W.k_order_of (P := P) (w := w) (base := base) T c_reached c_run_from
  have c_order_fault := W.k_order_fault (P := P) (w := w) (base := base) T c_need_system c_order_of
  have c_by_set := W.k_by_set (P := P) (w := w) (base := base) T c_need_system c_order_of c_first_apart
  have c_orders_of := W.k_orders_of (P := P) (w := w) (base := base) T 7
  have c_orders := W.k_orders (P := P) (w := w) (base := base) T c_orders_of c_need_log c_need_system
  have c__law_cell_at := W.k__law_cell_at (P := P) (w := w) (base := base) T
  have c__law_pen := W.k__law_pen (P := P) (w := w) (base := base) T
  have c__law_draw := W.k__law_draw (P := P) (w := w) (base := base) T
  have c__law_pick := W.k__law_pick (P := P) (w := w) (base := base) T c__law_draw
  have c__law_drawn := W.k__law_drawn (P := P) (w := w) (base := base) T c__law_draw c__law_pick
  have c__law_cells := W.k__law_cells (P := P) (w := w) (base := base) T c__law_pick c__law_draw
  have c__law_marks := W.k__law_marks (P := P) (w := w) (base := base) T c__law_draw c__law_pick
  have c__law_turns := W.k__law_turns (P := P) (w := w) (base := base) T c__law_draw c__law_pick
  have c__law_system := W.k__law_system (P := P) (w := w) (base := base) T c__law_draw c__law_drawn c__law_cells c__law_marks c__law_turns
  have c__law_log := W.k__law_log (P := P) (w := w) (base := base) T c__law_draw
  have c__law_fault_right := W.k__law_fault_right (P := P) (w := w) (base := base) T c_path c_outcome c__law_log c_orders
  have c__law_set_right := W.k__law_set_right (P := P) (w := w) (base := base) T c_apart c_by_set c__law_log c_outcome
  have c__law_right := W.k__law_right (P := P) (w := w) (base := base) T c_order_fault c__law_fault_right c__law_set_right
  exact W.g_law T c__law_pen c__law_cell_at c__law_right c__law_system F
end
end Hd
open PySem PySem.W PySem.Calls PyProof.Rows
theorem PySem.Challenge.cw_lastofkind_k30_whole_orders_and_sets_holds : PySem.Challenge.rw_lastofkind_k30_whole_orders_and_sets.Holds := by
  w_on; o_law
  refine HandSHeadRun.head_any (r := OpenLaw.row PySem.Challenge.rw_lastofkind_k30_whole_orders_and_sets) (q := view (OpenLaw.row PySem.Challenge.rw_lastofkind_k30_whole_orders_and_sets).prog [47]) (H := Hd.hk) (ob := Hd.ob) (M := 40000) (loose := Hd.loose) (d := HandSHeadRun.topDef (OpenLaw.row PySem.Challenge.rw_lastofkind_k30_whole_orders_and_sets).prog 47) (kwd := []) Hd.ob_eq
    (by kernel_rfl) (fun s => by kernel_rfl) Hd.run (by kernel_rfl) (by kernel_rfl) (by kernel_rfl) (by rfl) (by first | assumption | decide +kernel) (by decide +kernel) ⟨rfl, rfl, rfl, rfl, rfl, by decide +kernel⟩ ?hw ?hc
  case hw => w_witness2
  case hc =>
    refine VL.walk_ofG (l := PySem.Challenge.rw_lastofkind_k30_whole_orders_and_sets) (n := 63) (k := 24) (x := "_law_script") rfl (by decide) (by kernel_rfl) ⟨⟨rfl, by decide, by decide⟩, rfl⟩ ?F
    intro w mg fa h Y G hmg0
    obtain ⟨K, KX, c⟩ := Y
    have hmg : mg ("law" : PySem.Str) = some (.ref fa) := by
      have e : (HandSHeadRun.topDef (OpenLaw.row PySem.Challenge.rw_lastofkind_k30_whole_orders_and_sets).prog 47).name = ("law" : PySem.Str) := by kernel_rfl
      rw [← e]
      exact hmg0
    have T := Hd.tx KX G c
    obtain ⟨f, fd, F, gf⟩ := T.f_law
    have e := hmg.symm.trans gf
    cases e
    exact ⟨K, fd, VL.m_law, KX, fun s v => (L2.FunD.bindsA (ps := ["_law_script"]) F fun _ _ _ _ _ _ us hl => match us, hl with | [_], _ => rfl) s [v] rfl, fun ns hl => VL.law30 ns, fun base hb hn => Hd.lawG T F⟩
