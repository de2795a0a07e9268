import PyProof.Rows.All
import Wide.All
import OpenK.AllK
import Wide.FinOn
import KE.KStateDown
import HandS.ForMost
import HandS.Exc
import HandS.ExcOwn
import HandS.WordsExc
import HandS.CallSlots
import HandS.Defaults
import HandS.TupAny
import HandS.Deep
import HandS.Lambda
import HandS.EndTab
import HandS.TupMul
import HandS.Style
import HandS.IsInst
import HandS.Ends
import HandS.Conv
import HandS.SortInts
import HandS.HeadEnd
import HandS.HeadHook1
import HandS.HeadHook2
import HandS.Head2
import HandS.Iter
import KE.GoesEnum
import HandS.Dict
import HandS.More
import HandS.TupLe
import HandS.Star
import HandS.DictComp
import HandS.DictTup
import KE.DataMinMax
import HandS.SortRule
import HandS.NamedTupSort
import HandS.Text
import HandS.FStr
import HandS.Comp
import HandS.TryOnly
import HandS.SetKeys
import HandS.Zip
import HandS.Property
import HandS.ClsMeth
import HandS.HeadNt
import HandS.SetFor
import HandS.ReCall
import KE.KIndexOf
import KE.KFmtOwn
import KE.KOpsOwn
import KE.KEqNest
import HandS.Codes
import KE.KUnpackStar
import HandS.Nested
import KE.KSuper
import HandS.MakeKw
import OpenK.KOps
import OpenK.KMeth
import HandS.HotCalls
import HandS.ExcIs
import PyProof.Rows.CountFlat
import KE.KExcSuper
import HandS.ExcInit
import HandS.ExcField
import KE.KExcIs
import KE.KRevSl
import HandS.Flow
import HandS.Head0
import HandS.Head1
import PySem.Challenge.RW_lastofkind_k35_effects_put_together
set_option Elab.async false
set_option linter.all false
set_option maxRecDepth 100000
set_option maxHeartbeats 4000000
/-! VL: a layer by values over the hand layer: data D, a store of changeable objects, results R; every rule is a judgement PE, PS .. whose reading is rdE, rdS .. of a Lean function. -/
namespace VL
open PySem PySem.Spec PyProof.Rows L2

/-- data: tuples and lists that nobody changes are values; obj n is the n-th changeable object -/
inductive D where
  | non | bl (b : Bool) | int (i : Int) | str (x : Str) | tup (ds : List D) | lst (ds : List D) | scr (ds : List D) | obj (n : Nat) | glo (x : Str) | ty (n : String) | tupF (ds : List D) | adr (a : Addr) | exc (a dx : Addr) (ks : List (Str × Int))

inductive O where
  | lst (ds : List D) | dct (kvs : List (D × D)) | dctT (kvs : List (D × D)) | dctL (kvs : List (D × D)) | dctTL (kvs : List (D × D)) | ins (c : Str) (fs : List (Str × D)) | tab (x : Str)

abbrev S := List O
abbrev Ev := List (Option D)

inductive R (α : Type) where
  | ok (a : α) (s : S) | exn (c : Str) (fs : Option (List (Str × D))) (ρ : Ev) (s : S) | bad

def R.bnd {α β : Type} (r : R α) (f : α → S → R β) : R β := match r with
  | .ok a s => f a s
  | .exn c fs ρ s => .exn c fs ρ s
  | .bad => .bad
@[simp] theorem R.bnd_ok {α β : Type} (a : α) (s : S) (f : α → S → R β) : (R.ok a s).bnd f = f a s := rfl
@[simp] theorem R.bnd_exn {α β : Type} (c fs ρ) (s : S) (f : α → S → R β) : (R.exn c fs ρ s : R α).bnd f = .exn c fs ρ s := rfl
@[simp] theorem R.bnd_bad {α β : Type} (f : α → S → R β) : (R.bad : R α).bnd f = .bad := rfl

abbrev ME := Ev → S → R D
abbrev MA := Ev → S → R (List D)
abbrev MT := Ev → S → R Bool
inductive Fl where
  | nx (ρ : Ev) | ret (d : D) | bk (ρ : Ev) | ct (ρ : Ev)
abbrev MS := Ev → S → R Fl

structure Cg where
  K : PySem.W.Frag
  mg : Str → Option Value
abbrev cg (X : Cx) : Cg := ⟨X.K, X.mg⟩

def noH : Hp := fun _ => none
/-- where the changeable objects stand; the addresses of lists and dicts that are being made -/
structure Z where
  ad : List Addr
  res : List Addr
def Z.off (z : Z) (a : Addr) : Prop := a ∉ z.ad ∧ a ∉ z.res
def Z.push (z : Z) (a : Addr) : Z := ⟨z.ad ++ [a], z.res⟩
def Z.keep (z : Z) (a : Addr) : Z := ⟨z.ad, a :: z.res⟩
def TupAt (_ : Cg) (ι : Z) (H : Hp) (a : Addr) (xs : List V) : Prop := ι.off a ∧ H a = some (.tup xs)
/-- a tuple that is known to have no dict (its methods may be called) -/
def TupF (ι : Z) (H : Hp) (a : Addr) (xs : List V) : Prop := ι.off a ∧ ∃ ob : Obj, ob.dict = none ∧ H a = some (.frz ob (.tup xs))
def LstAt (ι : Z) (H : Hp) (a : Addr) (xs : List V) : Prop := ι.off a ∧ H a = some (.lst xs)
def ScrAt (G : Cg) (ι : Z) (H : Hp) (a : Addr) (xs : List V) : Prop := (ι.off a ∧ Rd H a (.lst xs)) ∨ SqL G.K noH a xs

mutual
def RelD (G : Cg) (ι : Z) (H : Hp) : D → V → Prop
  | .non, v => v = .non
  | .bl b, v => v = .bl b
  | .int i, v => v = .int i
  | .str x, v => v = .str x
  | .tup ds, v => ∃ a xs, v = .ref a ∧ TupAt G ι H a xs ∧ RelDs G ι H ds xs
  | .lst ds, v => ∃ a xs, v = .ref a ∧ LstAt ι H a xs ∧ RelDs G ι H ds xs
  | .scr ds, v => ∃ a xs, v = .ref a ∧ ScrAt G ι H a xs ∧ RelDs G ι H ds xs
  | .obj n, v => ∃ a, v = .ref a ∧ ι.ad[n]? = some a
  | .glo x, v => ∃ a, v = .ref a ∧ G.mg x = some (.ref a)
  | .ty n, v => v = .ty n
  | .tupF ds, v => ∃ a xs, v = .ref a ∧ TupF ι H a xs ∧ RelDs G ι H ds xs
  | .adr a, v => v = .ref a
  | .exc a dx ks, v => v = .ref a ∧ ι.off dx ∧ H dx = some (.xd (ks.map fun p => (p.1, V.int p.2)))
def RelDs (G : Cg) (ι : Z) (H : Hp) : List D → List V → Prop
  | [], xs => xs = []
  | d :: ds, xs => ∃ x r, xs = x :: r ∧ RelD G ι H d x ∧ RelDs G ι H ds r
end

theorem rd_noH {a : Addr} {o : HO} : ¬ Rd noH a o := fun h => by
  rcases h with h | ⟨_, h⟩ <;> cases h
theorem sqL_noH {K : PySem.W.Frag} {H : Hp} {a : Addr} {xs : List V} (h : SqL K noH a xs) : SqL K H a xs := by
  rcases h with h | h
  · exact absurd h rd_noH
  · exact .inr h
theorem TupAt.sq {G : Cg} {ι H a xs} (h : TupAt G ι H a xs) : SqT G.K H a xs := .inl (.inl h.2)
theorem TupF.sq {K : PySem.W.Frag} {ι H a xs} (h : TupF ι H a xs) : SqT K H a xs := let ⟨_, ob, _, h⟩ := h; .inl (.inr ⟨ob, h⟩)
theorem LstAt.sq {G : Cg} {ι H a xs} (h : LstAt ι H a xs) : SqL G.K H a xs := .inl (.inl h.2)
theorem ScrAt.sq {G : Cg} {ι H a xs} (h : ScrAt G ι H a xs) : SqL G.K H a xs := by
  rcases h with ⟨_, h⟩ | h
  · exact .inl h
  · exact sqL_noH h

/-- what nobody changes any more -/
def fixO : HO → Bool
  | .tup _ => true
  | .frz _ _ => true
  | .ext _ => true
  | .tbl _ => true
  | .xd _ => true
  | _ => false
/-- a table of code objects: it may grow -/
def tabO : HO → Bool
  | .tbl _ => true
  | _ => false
/-- what stays for ever -/
def stO (o : HO) : Bool := fixO o && !tabO o
theorem stO.fx {o : HO} (h : stO o = true) : fixO o = true := by
  unfold stO at h
  simp only [Bool.and_eq_true] at h
  exact h.1
theorem stO.tb {o : HO} (h : stO o = true) : tabO o = false := by
  unfold stO at h
  simp only [Bool.and_eq_true, Bool.not_eq_true'] at h
  exact h.2
theorem ntab_of {o : HO} (h : fixO o = false) : tabO o = false := by cases o <;> first | rfl | cases h
theorem nfix {H : Hp} {a : Addr} {o : HO} (h : H a = some o) (k : fixO o = false) : ∀ o', H a = some o' → fixO o' = false := fun o' e => by
  rw [h] at e
  cases e
  exact k
/-- what has become of the heap, seen by data -/
structure ExtW (ι : Z) (H : Hp) (ι' : Z) (H' : Hp) : Prop where
  get : ∀ (n : Nat) (a : Addr), ι.ad[n]? = some a → ι'.ad[n]? = some a
  off : ∀ a, ι.off a → H a ≠ none → ι'.off a
  dom : ∀ a, H a ≠ none → H' a ≠ none
  keep : ∀ a o, ι.off a → tabO o = false → H a = some o → H' a = some o
  fix : ∀ a o, stO o = true → H a = some o → H' a = some o
/-- .. what a piece of the program does: everything tracked that is no changeable object stands as it stood -/
structure Ext (ι : Z) (H : Hp) (ι' : Z) (H' : Hp) : Prop where
  more : ∃ μ, ι'.ad = ι.ad ++ μ ∧ ∀ a ∈ μ, H a = none
  res : ι'.res = ι.res
  keep : ∀ a o, a ∉ ι.ad → tabO o = false → H a = some o → H' a = some o
  dom : ∀ a, H a ≠ none → H' a ≠ none
  fix : ∀ a o, stO o = true → H a = some o → H' a = some o

theorem Ext.refl (ι H) : Ext ι H ι H := ⟨⟨[], by simp, by simp⟩, rfl, fun _ _ _ _ h => h, fun _ h => h, fun _ _ _ h => h⟩
theorem Ext.trans {ι H ι1 H1 ι2 H2} (e : Ext ι H ι1 H1) (f : Ext ι1 H1 ι2 H2) : Ext ι H ι2 H2 := by
  obtain ⟨μ, e1, e2⟩ := e.more
  obtain ⟨ν, f1, f2⟩ := f.more
  refine ⟨⟨μ ++ ν, by rw [f1, e1, List.append_assoc], fun a ha => ?_⟩, f.res.trans e.res, fun a o n tb h => ?_, fun a h => f.dom a (e.dom a h), fun a o k h => f.fix a o k (e.fix a o k h)⟩
  · rcases List.mem_append.mp ha with h | h
    · exact e2 a h
    · have := f2 a h
      cases q : H a with
      | none => rfl
      | some o => exact absurd this (e.dom a (by rw [q]; simp))
  · refine f.keep a o (fun z => ?_) tb (e.keep a o n tb h)
    rw [e1] at z
    rcases List.mem_append.mp z with z | z
    · exact n z
    · rw [e2 a z] at h; cases h
theorem Ext.new {ι H p o} (h : H p = none) : Ext ι H ι (upd H p o) :=
  ⟨⟨[], by simp, by simp⟩, rfl, fun a u _ _ q => by rw [upd_ne (ne_of_none q h)]; exact q, fun a q => by
    by_cases e : a = p
    · subst e; exact absurd h q
    · rw [upd_ne e]; exact q, fun a u _ q => by rw [upd_ne (ne_of_none q h)]; exact q⟩
theorem Ext.newObj {ι : Z} {H p o} (h : H p = none) : Ext ι H (ι.push p) (upd H p o) :=
  ⟨⟨[p], rfl, fun a ha => by rw [List.mem_singleton.mp ha]; exact h⟩, rfl, (Ext.new (ι := ι) h).keep, (Ext.new (ι := ι) h).dom, (Ext.new (ι := ι) h).fix⟩
theorem Ext.write {ι : Z} {H a o} (h : a ∈ ι.ad) (hn : ∀ o', H a = some o' → fixO o' = false) : Ext ι H ι (upd H a o) :=
  ⟨⟨[], by simp, by simp⟩, rfl, fun b u n _ q => by rw [upd_ne (show b ≠ a from fun e => n (by rw [e]; exact h))]; exact q, fun b q => by
    by_cases e : b = a
    · subst e; rw [upd_same]; simp
    · rw [upd_ne e]; exact q, fun b u k q => by
    rw [upd_ne (show b ≠ a from fun e => by
      subst e
      have := hn u q
      rw [stO.fx k] at this
      cases this)]
    exact q⟩
theorem Ext.mem {ι H ι' H'} (e : Ext ι H ι' H') {a} (h : a ∈ ι.ad) : a ∈ ι'.ad := by
  obtain ⟨μ, e1, _⟩ := e.more
  rw [e1]; exact List.mem_append_left _ h
theorem Ext.get {ι H ι' H'} (e : Ext ι H ι' H') {n : Nat} {a : Addr} (h : ι.ad[n]? = some a) : ι'.ad[n]? = some a := by
  obtain ⟨μ, e1, _⟩ := e.more
  rw [e1, List.getElem?_append_left (List.getElem?_eq_some_iff.mp h).1]; exact h
theorem Ext.nin {ι H ι' H'} (e : Ext ι H ι' H') {a} (n : a ∉ ι.ad) (h : H a ≠ none) : a ∉ ι'.ad := by
  obtain ⟨μ, e1, e2⟩ := e.more
  rw [e1]
  intro z
  rcases List.mem_append.mp z with z | z
  · exact n z
  · exact h (e2 a z)
theorem Ext.w {ι H ι' H'} (e : Ext ι H ι' H') : ExtW ι H ι' H' := ⟨fun _ _ h => e.get h, fun a n h => ⟨e.nin n.1 h, by rw [e.res]; exact n.2⟩, e.dom, fun a o n tb h => e.keep a o n.1 tb h, e.fix⟩
theorem ExtW.trans {ι H ι1 H1 ι2 H2} (e : ExtW ι H ι1 H1) (f : ExtW ι1 H1 ι2 H2) : ExtW ι H ι2 H2 :=
  ⟨fun n a h => f.get n a (e.get n a h), fun a n h => f.off a (e.off a n h) (e.dom a h), fun a h => f.dom a (e.dom a h), fun a o n tb h => f.keep a o (e.off a n (by rw [h]; simp)) tb (e.keep a o n tb h), fun a o k h => f.fix a o k (e.fix a o k h)⟩
theorem ExtW.rd {ι H ι' H'} (e : ExtW ι H ι' H') {a o} (n : ι.off a) (tb : tabO o = false) (h : Rd H a o) : Rd H' a o := by
  rcases h with h | ⟨u, h⟩
  · exact .inl (e.keep a _ n tb h)
  · exact .inr ⟨u, e.keep a _ n rfl h⟩
theorem rd_ne {H : Hp} {a o} (h : Rd H a o) : H a ≠ none := by
  rcases h with h | ⟨_, h⟩ <;> (rw [h]; simp)
theorem TupAt.monoW {G ι H ι' H' a xs} (e : ExtW ι H ι' H') (h : TupAt G ι H a xs) : TupAt G ι' H' a xs :=
  ⟨e.off _ h.1 (by rw [h.2]; simp), e.keep a _ h.1 rfl h.2⟩
theorem TupF.monoW {ι H ι' H' a xs} (e : ExtW ι H ι' H') (h : TupF ι H a xs) : TupF ι' H' a xs := by
  obtain ⟨h1, ob, h2, h3⟩ := h
  exact ⟨e.off _ h1 (by rw [h3]; simp), ob, h2, e.keep a _ h1 rfl h3⟩
theorem LstAt.monoW {ι H ι' H' a xs} (e : ExtW ι H ι' H') (h : LstAt ι H a xs) : LstAt ι' H' a xs :=
  ⟨e.off _ h.1 (by rw [h.2]; simp), e.keep a _ h.1 rfl h.2⟩
theorem ScrAt.monoW {G ι H ι' H' a xs} (e : ExtW ι H ι' H') (h : ScrAt G ι H a xs) : ScrAt G ι' H' a xs := by
  rcases h with ⟨n, h⟩ | h
  · exact .inl ⟨e.off _ n (rd_ne h), e.rd n rfl h⟩
  · exact .inr h
mutual
theorem RelD.monoW {G ι H ι' H'} (e : ExtW ι H ι' H') : ∀ (d : D) {v : V}, RelD G ι H d v → RelD G ι' H' d v
  | .non, v, h => by simpa only [RelD] using h
  | .bl b, v, h => by simpa only [RelD] using h
  | .int i, v, h => by simpa only [RelD] using h
  | .str x, v, h => by simpa only [RelD] using h
  | .tup ds, v, h => by
    simp only [RelD] at h ⊢
    obtain ⟨a, xs, h1, h2, h3⟩ := h
    exact ⟨a, xs, h1, h2.monoW e, RelDs.monoW e ds h3⟩
  | .lst ds, v, h => by
    simp only [RelD] at h ⊢
    obtain ⟨a, xs, h1, h2, h3⟩ := h
    exact ⟨a, xs, h1, h2.monoW e, RelDs.monoW e ds h3⟩
  | .scr ds, v, h => by
    simp only [RelD] at h ⊢
    obtain ⟨a, xs, h1, h2, h3⟩ := h
    exact ⟨a, xs, h1, h2.monoW e, RelDs.monoW e ds h3⟩
  | .obj n, v, h => by
    simp only [RelD] at h ⊢
    obtain ⟨a, h1, h2⟩ := h
    exact ⟨a, h1, e.get _ _ h2⟩
  | .glo x, v, h => by simpa only [RelD] using h
  | .ty n, v, h => by simpa only [RelD] using h
  | .tupF ds, v, h => by
    simp only [RelD] at h ⊢
    obtain ⟨a, xs, h1, h2, h3⟩ := h
    exact ⟨a, xs, h1, h2.monoW e, RelDs.monoW e ds h3⟩
  | .adr a, v, h => by simpa only [RelD] using h
  | .exc a dx ks, v, h => by
    simp only [RelD] at h ⊢
    obtain ⟨h1, h2, h3⟩ := h
    exact ⟨h1, e.off _ h2 (by rw [h3]; simp), e.keep _ _ h2 rfl h3⟩
theorem RelDs.monoW {G ι H ι' H'} (e : ExtW ι H ι' H') : ∀ (ds : List D) {vs : List V}, RelDs G ι H ds vs → RelDs G ι' H' ds vs
  | [], vs, h => by simpa only [RelDs] using h
  | d :: ds, vs, h => by
    simp only [RelDs] at h ⊢
    obtain ⟨x, r, h1, h2, h3⟩ := h
    exact ⟨x, r, h1, RelD.monoW e d h2, RelDs.monoW e ds h3⟩
end
theorem TupAt.mono {G ι H ι' H' a xs} (e : Ext ι H ι' H') (h : TupAt G ι H a xs) : TupAt G ι' H' a xs := h.monoW e.w
theorem LstAt.mono {ι H ι' H' a xs} (e : Ext ι H ι' H') (h : LstAt ι H a xs) : LstAt ι' H' a xs := h.monoW e.w
theorem ScrAt.mono {G ι H ι' H' a xs} (e : Ext ι H ι' H') (h : ScrAt G ι H a xs) : ScrAt G ι' H' a xs := h.monoW e.w
theorem RelD.mono {G ι H ι' H'} (e : Ext ι H ι' H') {d : D} {v : V} (h : RelD G ι H d v) : RelD G ι' H' d v := RelD.monoW e.w d h
theorem RelDs.mono {G ι H ι' H'} (e : Ext ι H ι' H') {ds : List D} {vs : List V} (h : RelDs G ι H ds vs) : RelDs G ι' H' ds vs := RelDs.monoW e.w ds h
section
variable {G : Cg} {ι : Z} {H : Hp}
theorem RelDs.len : ∀ {ds : List D} {vs : List V}, RelDs G ι H ds vs → vs.length = ds.length
  | [], vs, h => by simp only [RelDs] at h; subst h; rfl
  | d :: ds, vs, h => by
    simp only [RelDs] at h
    obtain ⟨x, r, rfl, _, h3⟩ := h
    simp [RelDs.len h3]
theorem RelDs.get : ∀ {ds : List D} {vs : List V} {i : Nat} {d : D}, RelDs G ι H ds vs → ds[i]? = some d → ∃ v, vs[i]? = some v ∧ RelD G ι H d v
  | [], vs, i, d, h, e => by simp at e
  | x :: ds, vs, 0, d, h, e => by
    simp only [RelDs] at h
    obtain ⟨y, r, rfl, h2, h3⟩ := h
    simp at e; subst e
    exact ⟨y, rfl, h2⟩
  | x :: ds, vs, i + 1, d, h, e => by
    simp only [RelDs] at h
    obtain ⟨y, r, rfl, h2, h3⟩ := h
    obtain ⟨v, e1, e2⟩ := RelDs.get (i := i) h3 (by simpa using e)
    exact ⟨v, by simpa using e1, e2⟩
theorem RelDs.get' : ∀ {ds : List D} {vs : List V} {i : Nat} {v : V}, RelDs G ι H ds vs → vs[i]? = some v → ∃ d, ds[i]? = some d ∧ RelD G ι H d v
  | [], vs, i, v, h, e => by simp only [RelDs] at h; subst h; simp at e
  | x :: ds, vs, 0, v, h, e => by
    simp only [RelDs] at h
    obtain ⟨y, r, rfl, h2, h3⟩ := h
    simp at e; subst e
    exact ⟨x, rfl, h2⟩
  | x :: ds, vs, i + 1, v, h, e => by
    simp only [RelDs] at h
    obtain ⟨y, r, rfl, h2, h3⟩ := h
    obtain ⟨d, e1, e2⟩ := RelDs.get' (i := i) h3 (by simpa using e)
    exact ⟨d, by simpa using e1, e2⟩
theorem RelDs.app : ∀ {ds es : List D} {vs ws : List V}, RelDs G ι H ds vs → RelDs G ι H es ws → RelDs G ι H (ds ++ es) (vs ++ ws)
  | [], es, vs, ws, h, k => by simp only [RelDs] at h; subst h; exact k
  | d :: ds, es, vs, ws, h, k => by
    simp only [RelDs] at h
    obtain ⟨x, r, rfl, h2, h3⟩ := h
    have := RelDs.app h3 k
    simp only [List.cons_append, RelDs]
    exact ⟨x, r ++ ws, rfl, h2, this⟩
theorem RelDs.one {d : D} {v : V} (h : RelD G ι H d v) : RelDs G ι H [d] [v] := by
  simp only [RelDs]; exact ⟨v, [], rfl, h, rfl⟩
theorem RelDs.cons {d : D} {v : V} {ds vs} (h : RelD G ι H d v) (k : RelDs G ι H ds vs) : RelDs G ι H (d :: ds) (v :: vs) := by
  simp only [RelDs]; exact ⟨v, vs, rfl, h, k⟩
theorem RelDs.nil : RelDs G ι H [] [] := by simp only [RelDs]
theorem RelDs.take : ∀ (n : Nat) {ds : List D} {vs : List V}, RelDs G ι H ds vs → RelDs G ι H (ds.take n) (vs.take n)
  | 0, ds, vs, _ => by simp only [List.take_zero]; exact .nil
  | n + 1, [], vs, h => by simp only [RelDs] at h; subst h; simp only [List.take_nil]; exact .nil
  | n + 1, d :: ds, vs, h => by
    simp only [RelDs] at h
    obtain ⟨x, r, rfl, h2, h3⟩ := h
    simp only [List.take_succ_cons]
    exact .cons h2 (RelDs.take n h3)
theorem RelDs.drop : ∀ (n : Nat) {ds : List D} {vs : List V}, RelDs G ι H ds vs → RelDs G ι H (ds.drop n) (vs.drop n)
  | 0, ds, vs, h => h
  | n + 1, [], vs, h => by simp only [RelDs] at h; subst h; simp only [List.drop_nil]; exact .nil
  | n + 1, d :: ds, vs, h => by
    simp only [RelDs] at h
    obtain ⟨x, r, rfl, h2, h3⟩ := h
    simp only [List.drop_succ_cons]
    exact RelDs.drop n h3
theorem RelDs.set {d : D} {v : V} (k : RelD G ι H d v) : ∀ (n : Nat) {ds : List D} {vs : List V}, RelDs G ι H ds vs → RelDs G ι H (ds.set n d) (vs.set n v)
  | _, [], vs, h => by simp only [RelDs] at h; subst h; exact .nil
  | 0, x :: ds, vs, h => by
    simp only [RelDs] at h
    obtain ⟨y, r, rfl, h2, h3⟩ := h
    exact .cons k h3
  | n + 1, x :: ds, vs, h => by
    simp only [RelDs] at h
    obtain ⟨y, r, rfl, h2, h3⟩ := h
    exact .cons h2 (RelDs.set k n h3)
theorem RelDs.ints {ns : List Int} : ∀ {vs : List V}, RelDs G ι H (ns.map D.int) vs → vs = ns.map V.int := by
  induction ns with
  | nil => intro vs h; simpa only [RelDs, List.map_nil] using h
  | cons n ns ih =>
    intro vs h
    simp only [List.map_cons, RelDs, RelD] at h
    obtain ⟨x, r, rfl, rfl, h3⟩ := h
    rw [ih h3]; rfl
theorem RelDs.ofInts {ns : List Int} : RelDs G ι H (ns.map D.int) (ns.map V.int) := by
  induction ns with
  | nil => exact .nil
  | cons n ns ih => exact .cons (by simp only [RelD]) ih
end

/-- keys of dicts -/
def keyD : D → Option Key
  | .int i => some (.inl i)
  | .str x => some (.inr x)
  | _ => none
def keyDs : List D → Option (List Key)
  | [] => some []
  | d :: ds => match keyD d, keyDs ds with
    | some k, some ks => some (k :: ks)
    | _, _ => none
def keyT : D → Option (List Key)
  | .tup ds => keyDs ds
  | _ => none

/-- the code object of the def x and its table -/
def codeTab (G : Cg) (x : Str) : Option (Addr × Addr) := match G.mg x with
  | some (.ref f) => (match G.K.lookup f with
    | some ⟨_, _, .func fd, _⟩ => (match fd.code with
      | .ref c => (match G.K.lookup c with
        | some ⟨_, _, .fields vs, _⟩ => (match (vs[11]? : Option Value) with | some (.ref P) => some (c, P) | _ => none)
        | _ => none)
      | _ => none)
    | _ => none)
  | _ => none
/-- the name of the lambdas within the def x -/
def lamQ (x : Str) : Str := x ++ ".<locals>.<lambda>"
def RelO (G : Cg) (ι : Z) (H : Hp) (a : Addr) : O → Prop
  | .lst ds => ∃ xs, H a = some (.lst xs) ∧ RelDs G ι H ds xs
  | .dct kvs => ∃ ks : List (Key × V), H a = some (.dK ks) ∧ Paired (fun (p : D × D) q => keyD p.1 = some q.1 ∧ RelD G ι H p.2 q.2) kvs ks
  | .dctT kvs => ∃ ks : List (List Key × V), H a = some (.dT ks) ∧ Paired (fun (p : D × D) q => keyT p.1 = some q.1 ∧ RelD G ι H p.2 q.2) kvs ks
  | .dctL kvs => ∃ o, ∃ ks : List (Key × V), H a = some (.frz o (.dK ks)) ∧ Paired (fun (p : D × D) q => keyD p.1 = some q.1 ∧ RelD G ι H p.2 q.2) kvs ks
  | .dctTL kvs => ∃ o, ∃ ks : List (List Key × V), H a = some (.frz o (.dT ks)) ∧ Paired (fun (p : D × D) q => keyT p.1 = some q.1 ∧ RelD G ι H p.2 q.2) kvs ks
  | .ins c fs => ∃ C dx gs, G.mg c = some (.ref C) ∧ H a = some (.ins C dx gs) ∧ Paired (fun (p : Str × D) q => p.1 = q.1 ∧ RelD G ι H p.2 q.2) fs gs
  | .tab x => ∃ c, codeTab G x = some (c, a) ∧ LamX.TabS H a (lamQ x)

theorem RelO.tr {G ι H a o} (h : RelO G ι H a o) : H a ≠ none := by
  cases o with
  | lst ds => obtain ⟨xs, h, _⟩ := h; rw [h]; simp
  | dct kvs => obtain ⟨xs, h, _⟩ := h; rw [h]; simp
  | dctT kvs => obtain ⟨xs, h, _⟩ := h; rw [h]; simp
  | dctL kvs => obtain ⟨o, xs, h, _⟩ := h; rw [h]; simp
  | dctTL kvs => obtain ⟨o, xs, h, _⟩ := h; rw [h]; simp
  | ins c fs => obtain ⟨C, dx, gs, _, h, _⟩ := h; rw [h]; simp
  | tab x => obtain ⟨_, _, ps, h, _⟩ := h; rw [h]; simp
theorem RelO.monoW {G ι H ι' H' a o} (e : ExtW ι H ι' H') (k : H' a = H a) (h : RelO G ι H a o) : RelO G ι' H' a o := by
  cases o with
  | lst ds => obtain ⟨xs, h, r⟩ := h; exact ⟨xs, k.trans h, RelDs.monoW e _ r⟩
  | dct kvs =>
    obtain ⟨xs, h, r⟩ := h
    exact ⟨xs, k.trans h, Paired.mapP r fun _ _ z => ⟨z.1, RelD.monoW e _ z.2⟩⟩
  | dctT kvs =>
    obtain ⟨xs, h, r⟩ := h
    exact ⟨xs, k.trans h, Paired.mapP r fun _ _ z => ⟨z.1, RelD.monoW e _ z.2⟩⟩
  | dctL kvs =>
    obtain ⟨o, xs, h, r⟩ := h
    exact ⟨o, xs, k.trans h, Paired.mapP r fun _ _ z => ⟨z.1, RelD.monoW e _ z.2⟩⟩
  | dctTL kvs =>
    obtain ⟨o, xs, h, r⟩ := h
    exact ⟨o, xs, k.trans h, Paired.mapP r fun _ _ z => ⟨z.1, RelD.monoW e _ z.2⟩⟩
  | ins c fs =>
    obtain ⟨C, dx, gs, h1, h, r⟩ := h
    exact ⟨C, dx, gs, h1, k.trans h, Paired.mapP r fun _ _ z => ⟨z.1, RelD.monoW e _ z.2⟩⟩
  | tab x =>
    obtain ⟨c, h1, ps, h2, h3, h4⟩ := h
    exact ⟨c, h1, ps, k.trans h2, h3, fun pos cv hc => by
      obtain ⟨c', e1, e2⟩ := h4 pos cv hc
      exact ⟨c', e1, e.fix _ _ rfl e2⟩⟩

theorem RelO.mono {G ι H ι' H' a o} (e : Ext ι H ι' H') (k : H' a = H a) (h : RelO G ι H a o) : RelO G ι' H' a o := h.monoW e.w k

structure Sim (G : Cg) (ι : Z) (H : Hp) (s : S) : Prop where
  len : ι.ad.length = s.length
  nd : ι.ad.Nodup
  at_ : ∀ (n : Nat) (o : O) (a : Addr), s[n]? = some o → ι.ad[n]? = some a → RelO G ι H a o
  rs : ∀ a ∈ ι.res, (∃ o, H a = some o ∧ fixO o = false) ∧ a ∉ ι.ad
section
variable {G : Cg} {ι : Z} {H : Hp} {s : S}
theorem Sim.addr (q : Sim G ι H s) {n : Nat} {o : O} (h : s[n]? = some o) : ∃ a, ι.ad[n]? = some a ∧ a ∈ ι.ad ∧ RelO G ι H a o := by
  have hl : n < ι.ad.length := by rw [q.len]; exact (List.getElem?_eq_some_iff.mp h).1
  exact ⟨ι.ad[n], List.getElem?_eq_getElem hl, List.getElem_mem hl, q.at_ n o _ h (List.getElem?_eq_getElem hl)⟩
theorem Sim.tr (q : Sim G ι H s) {a : Addr} (h : a ∈ ι.ad) : H a ≠ none := by
  obtain ⟨n, hn, e⟩ := List.getElem_of_mem h
  have hl : n < s.length := by rw [← q.len]; exact hn
  exact (q.at_ n s[n] a (List.getElem?_eq_getElem hl) (by rw [List.getElem?_eq_getElem hn, e])).tr
theorem Sim.off (q : Sim G ι H s) {a : Addr} (h : H a = none) : ι.off a := ⟨fun z => q.tr z h, fun z => by
  obtain ⟨o, e, _⟩ := (q.rs a z).1
  rw [h] at e
  cases e⟩
theorem Sim.rsn (q : Sim G ι H s) {a : Addr} (h : a ∈ ι.res) : ∀ o', H a = some o' → fixO o' = false := by
  obtain ⟨o, e, k⟩ := (q.rs a h).1
  exact nfix e k
theorem Sim.ext {H' : Hp} (q : Sim G ι H s) (e : Ext ι H ι H') (k : ∀ a ∈ ι.ad, H' a = H a) : Sim G ι H' s :=
  ⟨q.len, q.nd, fun n o a h1 h2 => (q.at_ n o a h1 h2).mono e (k a (List.mem_of_getElem? h2)), fun a h => by
    obtain ⟨⟨o, e1, e2⟩, n⟩ := q.rs a h
    exact ⟨⟨o, e.keep a o n (ntab_of e2) e1, e2⟩, n⟩⟩
theorem Sim.new {p : Addr} {o : HO} (q : Sim G ι H s) (h : H p = none) : Sim G ι (upd H p o) s :=
  q.ext (.new h) fun a ha => upd_ne fun e => q.tr ha (e ▸ h)
/-- a new object joins, its address new to the changeable ones -/
theorem Sim.join {ι' : Z} {H' : Hp} {p : Addr} {o : O} (q : Sim G ι H s) (hp : p ∉ ι.ad) (ha : ι'.ad = ι.ad ++ [p]) (hr : ∀ a ∈ ι'.res, a ∈ ι.res ∧ a ≠ p) (e : ExtW ι H ι' H') (k : ∀ a ∈ ι.ad, H' a = H a) (kr : ∀ a ∈ ι'.res, H' a = H a) (r : RelO G ι' H' p o) :
    Sim G ι' H' (s ++ [o]) := by
  refine ⟨by rw [ha]; simp [q.len], by rw [ha]; exact List.nodup_append.mpr ⟨q.nd, by simp, fun a ha b hb e => hp (by rw [← List.mem_singleton.mp hb, ← e]; exact ha)⟩, fun n u a h1 h2 => ?_, fun a h => ?_⟩
  · rw [ha] at h2
    by_cases hn : n < s.length
    · rw [List.getElem?_append_left hn] at h1
      rw [List.getElem?_append_left (by rw [q.len]; exact hn)] at h2
      exact (q.at_ n u a h1 h2).monoW e (k a (List.mem_of_getElem? h2))
    · have hn2 : n = s.length := by
        have := (List.getElem?_eq_some_iff.mp h1).1
        simp at this; omega
      subst hn2
      rw [List.getElem?_append_right (Nat.le_refl _)] at h1
      rw [List.getElem?_append_right (by rw [q.len]; exact Nat.le_refl _), q.len] at h2
      simp at h1 h2
      subst h1 h2
      exact r
  · obtain ⟨h1, h2⟩ := hr a h
    refine ⟨by rw [kr a h]; exact (q.rs a h1).1, ?_⟩
    rw [ha]
    intro z
    rcases List.mem_append.mp z with z | z
    · exact (q.rs a h1).2 z
    · exact h2 (List.mem_singleton.mp z)
theorem Sim.newObj {p : Addr} {ho : HO} {o : O} (q : Sim G ι H s) (h : H p = none) (r : RelO G (ι.push p) (upd H p ho) p o) : Sim G (ι.push p) (upd H p ho) (s ++ [o]) :=
  q.join (q.off h).1 rfl (fun a ha => ⟨ha, fun e => (q.off h).2 (e ▸ ha)⟩) (Ext.newObj h).w (fun a ha => upd_ne fun e => q.tr ha (e ▸ h)) (fun a ha => upd_ne fun e => (q.off h).2 (e ▸ ha)) r
theorem Sim.write {n : Nat} {a : Addr} {ho : HO} {o : O} (q : Sim G ι H s) (h : ι.ad[n]? = some a) (hn : ∀ o', H a = some o' → fixO o' = false) (r : RelO G ι (upd H a ho) a o) : Sim G ι (upd H a ho) (s.set n o) := by
  refine ⟨by simp [q.len], q.nd, fun m u b h1 h2 => ?_, fun b h2 => by
    obtain ⟨⟨u, e1, e2⟩, n2⟩ := q.rs b h2
    exact ⟨⟨u, by rw [upd_ne (show b ≠ a from fun e => n2 (by rw [e]; exact List.mem_of_getElem? h))]; exact e1, e2⟩, n2⟩⟩
  by_cases hm : m = n
  · subst hm
    have hl : m < s.length := by rw [← q.len]; exact (List.getElem?_eq_some_iff.mp h).1
    rw [List.getElem?_set_self hl] at h1
    rw [h] at h2
    cases h1; cases h2
    exact r
  · rw [List.getElem?_set_ne (Ne.symm hm)] at h1
    have hb : b ≠ a := fun e => by
      subst e
      obtain ⟨l1, e1⟩ := List.getElem?_eq_some_iff.mp h
      obtain ⟨l2, e2⟩ := List.getElem?_eq_some_iff.mp h2
      exact hm ((List.getElem_inj q.nd).mp (e2.trans e1.symm))
    exact (q.at_ m u b h1 h2).mono (.write (List.mem_of_getElem? h) hn) (upd_ne hb)
/-- a list that is being made -/
theorem Ext.toKeep {p : Addr} {ho : HO} (q : Sim G ι H s) (h : H p = none) : ExtW ι H (ι.keep p) (upd H p ho) :=
  ⟨fun _ _ h => h, fun a n k => ⟨n.1, fun z => by
    rcases List.mem_cons.mp z with e | z
    · exact k (e ▸ h)
    · exact n.2 z⟩, (Ext.new (ι := ι) h).dom, fun a o n _ k => by rw [upd_ne (ne_of_none k h)]; exact k, fun a o _ k => by rw [upd_ne (ne_of_none k h)]; exact k⟩
theorem Sim.toKeep {p : Addr} {ho : HO} (q : Sim G ι H s) (h : H p = none) (hf : fixO ho = false) : Sim G (ι.keep p) (upd H p ho) s :=
  ⟨q.len, q.nd, fun n o a h1 h2 => (q.at_ n o a h1 h2).monoW (Ext.toKeep q h) (upd_ne fun e => q.tr (List.mem_of_getElem? h2) (e ▸ h)), fun a ha => by
    rcases List.mem_cons.mp ha with e | z
    · subst e; exact ⟨⟨ho, upd_same, hf⟩, (q.off h).1⟩
    · obtain ⟨⟨u, e1, e2⟩, n2⟩ := q.rs a z
      exact ⟨⟨u, by rw [upd_ne (ne_of_none e1 h)]; exact e1, e2⟩, n2⟩⟩
theorem ExtW.inKeep {p : Addr} {ho : HO} (h : p ∈ ι.res) (hn : ∀ o', H p = some o' → fixO o' = false) : ExtW ι H ι (upd H p ho) :=
  ⟨fun _ _ h => h, fun _ n _ => n, fun b q => by
    by_cases e : b = p
    · subst e; rw [upd_same]; simp
    · rw [upd_ne e]; exact q, fun a o n _ k => by rw [upd_ne (show a ≠ p from fun e => n.2 (by rw [e]; exact h))]; exact k, fun b u k q => by
    rw [upd_ne (show b ≠ p from fun e => by
      subst e
      have := hn u q
      rw [stO.fx k] at this
      cases this)]
    exact q⟩
theorem Sim.inKeep {p : Addr} {ho : HO} (q : Sim G ι H s) (h : p ∈ ι.res) (hf : fixO ho = false) : Sim G ι (upd H p ho) s :=
  ⟨q.len, q.nd, fun n o a h1 h2 => (q.at_ n o a h1 h2).monoW (.inKeep h (q.rsn h)) (upd_ne fun e => (q.rs p h).2 (e ▸ List.mem_of_getElem? h2)), fun a ha => ⟨by
    by_cases e : a = p
    · subst e; exact ⟨ho, upd_same, hf⟩
    · rw [upd_ne e]; exact (q.rs a ha).1, (q.rs a ha).2⟩⟩
/-- it is made -/
theorem ExtW.ofKeep {p : Addr} {r : List Addr} (hr : ι.res = p :: r) : ExtW ι H ⟨ι.ad, r⟩ H :=
  ⟨fun _ _ h => h, fun _ n _ => ⟨n.1, fun z => n.2 (by rw [hr]; exact List.mem_cons_of_mem _ z)⟩, fun _ k => k, fun _ _ _ _ k => k, fun _ _ _ k => k⟩
theorem Sim.ofKeep {p : Addr} {r : List Addr} (q : Sim G ι H s) (hr : ι.res = p :: r) : Sim G ⟨ι.ad, r⟩ H s :=
  ⟨q.len, q.nd, fun n o a h1 h2 => (q.at_ n o a h1 h2).monoW (.ofKeep hr) rfl, fun a ha => q.rs a (by rw [hr]; exact List.mem_cons_of_mem _ ha)⟩
/-- .. and is a changeable object from here on -/
theorem ExtW.adopt {p : Addr} {r : List Addr} (hr : ι.res = p :: r) : ExtW ι H ⟨ι.ad ++ [p], r⟩ H :=
  ⟨fun n a h => by
    show (ι.ad ++ [p])[n]? = _
    rw [List.getElem?_append_left (List.getElem?_eq_some_iff.mp h).1]; exact h, fun a n _ => ⟨fun z => by
    rcases List.mem_append.mp z with z | z
    · exact n.1 z
    · exact n.2 (by rw [hr, List.mem_singleton.mp z]; exact List.mem_cons_self ..), fun z => n.2 (by rw [hr]; exact List.mem_cons_of_mem _ z)⟩, fun _ k => k, fun _ _ _ _ k => k, fun _ _ _ k => k⟩
theorem Sim.adopt {p : Addr} {r : List Addr} {o : O} (q : Sim G ι H s) (hr : ι.res = p :: r) (hn : p ∉ r) (ro : RelO G ⟨ι.ad ++ [p], r⟩ H p o) : Sim G ⟨ι.ad ++ [p], r⟩ H (s ++ [o]) :=
  q.join (q.rs p (by rw [hr]; exact List.mem_cons_self ..)).2 rfl (fun a ha => ⟨by rw [hr]; exact List.mem_cons_of_mem _ ha, fun e => hn (e ▸ ha)⟩) (.adopt hr) (fun _ _ => rfl) (fun _ _ => rfl) ro
end

/-- the frame's slots -/
def EnvR (G : Cg) (ι : Z) (H : Hp) (σ : L2.St) (ρ : Ev) : Prop := σ.length = ρ.length ∧ ∀ (i : Nat) (d : D), ρ[i]? = some (some d) → ∃ v, σ[i]? = some (some v) ∧ RelD G ι H d v
section
variable {G : Cg} {ι ι' : Z} {H H' : Hp} {σ : L2.St} {ρ : Ev}
theorem EnvR.monoW (e : ExtW ι H ι' H') (h : EnvR G ι H σ ρ) : EnvR G ι' H' σ ρ := ⟨h.1, fun i d q => let ⟨v, a, b⟩ := h.2 i d q; ⟨v, a, RelD.monoW e _ b⟩⟩
theorem EnvR.mono (e : Ext ι H ι' H') (h : EnvR G ι H σ ρ) : EnvR G ι' H' σ ρ := h.monoW e.w
theorem EnvR.set {i : Nat} {d : D} {v : V} (h : EnvR G ι H σ ρ) (r : RelD G ι H d v) : EnvR G ι H (σ.set i (some v)) (ρ.set i (some d)) := by
  refine ⟨by simp [h.1], fun j e q => ?_⟩
  by_cases hj : i = j
  · subst hj
    have hl : i < ρ.length := by
      have := (List.getElem?_eq_some_iff.mp q).1
      simpa using this
    rw [List.getElem?_set_self hl] at q
    cases q
    exact ⟨v, List.getElem?_set_self (by rw [h.1]; exact hl), r⟩
  · rw [List.getElem?_set_ne hj] at q ⊢
    exact h.2 j e q
theorem EnvR.unset {i : Nat} (h : EnvR G ι H σ ρ) : EnvR G ι H (σ.set i none) (ρ.set i none) := by
  refine ⟨by simp [h.1], fun j e q => ?_⟩
  by_cases hj : i = j
  · subst hj
    have hl : i < ρ.length := by
      have := (List.getElem?_eq_some_iff.mp q).1
      simpa using this
    rw [List.getElem?_set_self hl] at q
    cases q
  · rw [List.getElem?_set_ne hj] at q ⊢
    exact h.2 j e q
end

def ExD (G : Cg) (ι : Z) (H : Hp) (dx : Option Addr) : Option (List (Str × D)) → Prop
  | none => dx = none
  | some fs => ∃ dd gs, dx = some dd ∧ H dd = some (.xd gs) ∧ Paired (fun (p : Str × D) q => p.1 = q.1 ∧ RelD G ι H p.2 q.2) fs gs

/-- what is wanted behind a result -/
def Post {α : Type} (G : Cg) (W : WX) (ι : Z) (H : Hp) (P : α → Z → Hp → S → Prop) : R α → Prop
  | .ok a s => ∀ ι' H', Ext ι H ι' H' → Sim G ι' H' s → P a ι' H' s
  | .exn c fs ρ s => ∀ ι' H' C dx σ, Ext ι H ι' H' → Sim G ι' H' s → G.mg c = some (.ref C) → ExD G ι' H' dx fs → EnvR G ι' H' σ ρ → W (.ref C) dx σ H'
  | .bad => False
section
variable {α β : Type} {G : Cg} {W : WX} {ι ι' : Z} {H H' : Hp} {P : α → Z → Hp → S → Prop}
theorem Post.imp {P' : α → Z → Hp → S → Prop} {r : R α} (h : Post G W ι H P r) (k : ∀ a ι' H' s, P a ι' H' s → P' a ι' H' s) : Post G W ι H P' r := by
  cases r with
  | ok a s => exact fun ι' H' e q => k _ _ _ _ (h ι' H' e q)
  | exn c fs ρ s => exact h
  | bad => exact h
theorem Post.mono {r : R α} (e : Ext ι H ι' H') (h : Post G W ι H P r) : Post G W ι' H' P r := by
  cases r with
  | ok a s => exact fun ι2 H2 e2 q => h ι2 H2 (e.trans e2) q
  | exn c fs ρ s => exact fun ι2 H2 C dx σ e2 => h ι2 H2 C dx σ (e.trans e2)
  | bad => exact h
theorem Post.bnd {r : R α} {f : α → S → R β} {P : β → Z → Hp → S → Prop} (h : Post G W ι H P (r.bnd f)) :
    Post G W ι H (fun a ι' H' s => Ext ι H ι' H' ∧ Sim G ι' H' s ∧ Post G W ι' H' P (f a s)) r := by
  cases r with
  | ok a s => exact fun ι' H' e q => ⟨e, q, Post.mono e h⟩
  | exn c fs ρ s => exact h
  | bad => exact h
/-- the result is here -/
theorem Post.here {a : α} {s : S} (h : Post G W ι H P (.ok a s)) (q : Sim G ι H s) : P a ι H s := h ι H (.refl ι H) q
end

/-! ### readings -/
def rdE (G : Cg) (W : WX) (m : ME) : TE := fun σ H Q => ∃ ι s ρ, Sim G ι H s ∧ EnvR G ι H σ ρ ∧ Post G W ι H (fun d ι' H' _ => ∀ v, RelD G ι' H' d v → Q v H') (m ρ s)
def rdA (G : Cg) (W : WX) (m : MA) : TA := fun σ H Q => ∃ ι s ρ, Sim G ι H s ∧ EnvR G ι H σ ρ ∧ Post G W ι H (fun ds ι' H' _ => ∀ vs, RelDs G ι' H' ds vs → Q vs H') (m ρ s)
def rdT (G : Cg) (W : WX) (m : MT) : TT := fun σ H Q => ∃ ι s ρ, Sim G ι H s ∧ EnvR G ι H σ ρ ∧ Post G W ι H (fun b _ H' _ => Q b H') (m ρ s)
def EndsP (G : Cg) (Dn : Ends) : Fl → Z → Hp → S → Prop := fun fl ι' H' _ => match fl with
  | .nx ρ' => ∀ σ', EnvR G ι' H' σ' ρ' → Dn.nx σ' H'
  | .ret d => ∀ v, RelD G ι' H' d v → Dn.rt v H'
  | .bk ρ' => ∀ σ', EnvR G ι' H' σ' ρ' → Dn.bk σ' H'
  | .ct ρ' => ∀ σ', EnvR G ι' H' σ' ρ' → Dn.ct σ' H'
def rdS (G : Cg) (W : WX) (m : MS) : TS := fun Dn σ H => ∃ ι s ρ, Sim G ι H s ∧ EnvR G ι H σ ρ ∧ Post G W ι H (EndsP G Dn) (m ρ s)

abbrev VE (X : Cx) (W : WX) (e : Expr) (m : ME) : Prop := PE X e (rdE (cg X) W m)
abbrev VA (X : Cx) (W : WX) (es : List Expr) (m : MA) : Prop := PA X es (rdA (cg X) W m)
abbrev VT (X : Cx) (W : WX) (e : Expr) (m : MT) : Prop := PT X e (rdT (cg X) W m)
abbrev VW (X : Cx) (W : WX) (e : Expr) (m : MT) : Prop := PW X e (rdT (cg X) W m)
abbrev VS (X : Cx) (W : WX) (st : Stmt) (m : MS) : Prop := PS X st (rdS (cg X) W m)
abbrev VSs (X : Cx) (W : WX) (st : List Stmt) (m : MS) : Prop := PSs X st (rdS (cg X) W m)

theorem pe_imp {X : Cx} {e : Expr} {t t' : TE} (h : PE X e t) (k : ∀ σ H Q, t' σ H Q → t σ H Q) : PE X e t' := ⟨fun pins s σ H Q I q => h.run pins s σ H Q I (k σ H Q q)⟩
theorem pt_imp {X : Cx} {e : Expr} {t t' : TT} (h : PT X e t) (k : ∀ σ H Q, t' σ H Q → t σ H Q) : PT X e t' := ⟨fun pins s σ H Q I q => h.run pins s σ H Q I (k σ H Q q)⟩
theorem pw_imp {X : Cx} {e : Expr} {t t' : TT} (h : PW X e t) (k : ∀ σ H Q, t' σ H Q → t σ H Q) : PW X e t' := ⟨fun wh pins s σ H Q I q => h.run wh pins s σ H Q I (k σ H Q q)⟩
theorem pa_imp {X : Cx} {e : List Expr} {t t' : TA} (h : PA X e t) (k : ∀ σ H Q, t' σ H Q → t σ H Q) : PA X e t' := ⟨fun pos pins s σ H Q I q => h.run pos pins s σ H Q I (k σ H Q q)⟩
theorem ps_imp {X : Cx} {e : Stmt} {t t' : TS} (h : PS X e t) (k : ∀ Dn σ H, t' Dn σ H → t Dn σ H) : PS X e t' := ⟨fun pins s σ H Dn I q => h.run pins s σ H Dn I (k Dn σ H q)⟩
theorem pss_imp {X : Cx} {e : List Stmt} {t t' : TS} (h : PSs X e t) (k : ∀ Dn σ H, t' Dn σ H → t Dn σ H) : PSs X e t' := ⟨fun pins s σ H Dn I q => h.run pins s σ H Dn I (k Dn σ H q)⟩

/-- an expression's reading, read on -/
theorem rdE_on {G : Cg} {W : WX} {m : ME} {σ : L2.St} {H : Hp} {ι s ρ} {β : Type} {P : β → Z → Hp → S → Prop} {f : D → S → R β} {Q : VK} (q : Sim G ι H s) (e : EnvR G ι H σ ρ) (h : Post G W ι H P ((m ρ s).bnd f))
    (k : ∀ d v ι' H' s', Ext ι H ι' H' → Sim G ι' H' s' → RelD G ι' H' d v → Post G W ι' H' P (f d s') → Q v H') : rdE G W m σ H Q :=
  ⟨ι, s, ρ, q, e, h.bnd.imp fun d ι' H' s' ⟨e1, q1, h1⟩ v r => k d v ι' H' s' e1 q1 r h1⟩
theorem rdA_on {G : Cg} {W : WX} {m : MA} {σ : L2.St} {H : Hp} {ι s ρ} {β : Type} {P : β → Z → Hp → S → Prop} {f : List D → S → R β} {Q : List V → Hp → Prop} (q : Sim G ι H s) (e : EnvR G ι H σ ρ) (h : Post G W ι H P ((m ρ s).bnd f))
    (k : ∀ d v ι' H' s', Ext ι H ι' H' → Sim G ι' H' s' → RelDs G ι' H' d v → Post G W ι' H' P (f d s') → Q v H') : rdA G W m σ H Q :=
  ⟨ι, s, ρ, q, e, h.bnd.imp fun d ι' H' s' ⟨e1, q1, h1⟩ v r => k d v ι' H' s' e1 q1 r h1⟩
theorem rdT_on {G : Cg} {W : WX} {m : MT} {σ : L2.St} {H : Hp} {ι s ρ} {β : Type} {P : β → Z → Hp → S → Prop} {f : Bool → S → R β} {Q : Bool → Hp → Prop} (q : Sim G ι H s) (e : EnvR G ι H σ ρ) (h : Post G W ι H P ((m ρ s).bnd f))
    (k : ∀ b ι' H' s', Ext ι H ι' H' → Sim G ι' H' s' → Post G W ι' H' P (f b s') → Q b H') : rdT G W m σ H Q :=
  ⟨ι, s, ρ, q, e, h.bnd.imp fun d ι' H' s' ⟨e1, q1, h1⟩ => k d ι' H' s' e1 q1 h1⟩
end VL
namespace VL
open PySem PySem.Spec PyProof.Rows L2

def LIM : Nat := 1000000
theorem LIM_le : LIM ≤ sizeLine := by rw [sizeLine_eq]; decide
theorem le_LIM {n : Nat} (h : n ≤ LIM) : n ≤ sizeLine := Nat.le_trans h LIM_le
theorem lt_LIM {n : Nat} (h : n < LIM) : n < sizeLine := Nat.lt_of_lt_of_le h LIM_le

/-! ### new values -/
section
variable {G : Cg} {W : WX} {ι : Z} {H : Hp} {s : S} {Q : VK}
abbrev QE (G : Cg) (Q : VK) : D → Z → Hp → S → Prop := fun d ι' H' _ => ∀ v, RelD G ι' H' d v → Q v H'
theorem Post.val {d : D} {v : V} (h : Post G W ι H (QE G Q) (.ok d s)) (q : Sim G ι H s) (r : RelD G ι H d v) : Q v H := h.here q v r
theorem Post.newT {ds : List D} {xs : List V} {p : Addr} (h : Post G W ι H (QE G Q) (.ok (.tup ds) s)) (q : Sim G ι H s) (r : RelDs G ι H ds xs) (n : H p = none) : Q (.ref p) (upd H p (.tup xs)) :=
  h ι _ (.new n) (q.new n) (.ref p) (by
    simp only [RelD]
    exact ⟨p, xs, rfl, ⟨q.off n, upd_same⟩, r.mono (.new n)⟩)
theorem Post.newL {ds : List D} {xs : List V} {p : Addr} (h : Post G W ι H (QE G Q) (.ok (.lst ds) s)) (q : Sim G ι H s) (r : RelDs G ι H ds xs) (n : H p = none) : Q (.ref p) (upd H p (.lst xs)) :=
  h ι _ (.new n) (q.new n) (.ref p) (by
    simp only [RelD]
    exact ⟨p, xs, rfl, ⟨q.off n, upd_same⟩, r.mono (.new n)⟩)
theorem Post.newLO {ds : List D} {xs : List V} {p : Addr} (h : Post G W ι H (QE G Q) (.ok (.obj s.length) (s ++ [.lst ds]))) (q : Sim G ι H s) (r : RelDs G ι H ds xs) (n : H p = none) : Q (.ref p) (upd H p (.lst xs)) :=
  h (ι.push p) _ (.newObj n) (q.newObj n ⟨xs, upd_same, r.mono (.newObj n)⟩) (.ref p) (by
    simp only [RelD]
    exact ⟨p, rfl, by rw [← q.len]; simp [Z.push]⟩)
end

/-! ### names, constants -/
def mVar (i : Nat) : ME := fun ρ s => match ρ[i]? with
  | some (some d) => .ok d s
  | _ => .bad
def mC (d : D) : ME := fun _ s => .ok d s
section
variable {X : Cx} {W : WX}
theorem ve_v (i : Nat) {x : Str} {pos : Pos} (hN : X.N[i]? = some x := by rfl) (hv : Vis X.env.scope x := by first | exact Or.inl rfl | exact Or.inr (Or.inl rfl) | exact Or.inr (Or.inr rfl)) (hd : (x == ("__debug__" : Str)) = false := by decide)
    (hcd : (x == ("__classdict__" : Str)) = false := by decide) : VE X W (.Name x pos) (mVar i) := by
  refine pe_imp (pe_var hN hv hd hcd) fun σ H Q h => ?_
  obtain ⟨ι, s, ρ, q, e, h⟩ := h
  unfold mVar at h
  split at h
  · rename_i d hd
    obtain ⟨v, h1, h2⟩ := e.2 i d hd
    exact ⟨v, h1, h.val q h2⟩
  · exact h.elim
theorem rdC {G : Cg} {d : D} {v : V} (r : ∀ ι H, RelD G ι H d v) {σ H Q} (h : rdE G W (mC d) σ H Q) : tC v σ H Q := by
  obtain ⟨ι, s, ρ, q, e, h⟩ := h
  exact Post.val h q (r ι H)
theorem ve_int {i j pos} : VE X W (.Constant (.int i) j pos) (mC (.int i)) := pe_imp pe_int fun _ _ _ h => rdC (v := .int i) (fun _ _ => by simp only [RelD]) h
theorem ve_bl {b j pos} : VE X W (.Constant (.bool b) j pos) (mC (.bl b)) := pe_imp pe_bl fun _ _ _ h => rdC (v := .bl b) (fun _ _ => by simp only [RelD]) h
theorem ve_non {j pos} : VE X W (.Constant .none j pos) (mC .non) := pe_imp pe_non fun _ _ _ h => rdC (v := .non) (fun _ _ => by simp only [RelD]) h
theorem ve_str {x j pos} : VE X W (.Constant (.str x) j pos) (mC (.str x)) := pe_imp pe_str fun _ _ _ h => rdC (v := .str x) (fun _ _ => by simp only [RelD]) h
theorem ve_gint {x : Str} {i : Int} {t : Tok} {pos : Pos} (hg : Gl X x) (hm : X.mg x = some (.int i t)) (hd : (x == ("__debug__" : Str)) = false := by decide) : VE X W (.Name x pos) (mC (.int i)) :=
  pe_imp (pe_glob hg hm (v := .int i) ⟨t, rfl⟩ hd) fun _ _ _ h => rdC (v := .int i) (fun _ _ => by simp only [RelD]) h
theorem ve_glo {x : Str} {a : Addr} {pos : Pos} (hg : Gl X x) (hm : X.mg x = some (.ref a)) (hd : (x == ("__debug__" : Str)) = false := by decide) : VE X W (.Name x pos) (mC (.glo x)) :=
  pe_imp (pe_glob hg hm (v := .ref a) rfl hd) fun _ _ _ h => rdC (v := .ref a) (fun _ _ => by simp only [RelD]; exact ⟨a, rfl, hm⟩) h
theorem ve_ty {x : Str} {n : String} {pos : Pos} (hg : Gl X x) (hm : X.mg x = none) (hv : bootBuiltins x = some (.type n)) (hn : x ≠ "__name__" := by decide) (hd : (x == ("__debug__" : Str)) = false := by decide) : VE X W (.Name x pos) (mC (.ty n)) :=
  pe_imp (pe_bltn hg hm hv (v := .ty n) rfl hn hd) fun _ _ _ h => rdC (v := .ty n) (fun _ _ => by simp only [RelD]) h
end

/-! ### operators by values -/
abbrev F2 := D → D → S → R D
def OpV (G : Cg) (W : WX) (r : R2) (f : F2) : Prop := ∀ (ι : Z) (H : Hp) (s : S) (x y : D) (v u : V) (Q : VK), Sim G ι H s → RelD G ι H x v → RelD G ι H y u → Post G W ι H (QE G Q) (f x y s) → r v u H Q
def mBin (f : F2) (ma mb : ME) : ME := fun ρ s => (ma ρ s).bnd fun x s1 => (mb ρ s1).bnd fun y s2 => f x y s2
abbrev F1 := D → S → R D
def UnV (G : Cg) (W : WX) (r : V → Hp → VK → Prop) (f : F1) : Prop := ∀ (ι : Z) (H : Hp) (s : S) (x : D) (v : V) (Q : VK), Sim G ι H s → RelD G ι H x v → Post G W ι H (QE G Q) (f x s) → r v H Q
def mUn (f : F1) (ma : ME) : ME := fun ρ s => (ma ρ s).bnd fun x s1 => f x s1
abbrev FA := List D → S → R D
def CallV (G : Cg) (W : WX) (r : List V → Hp → VK → Prop) (f : FA) : Prop := ∀ (ι : Z) (H : Hp) (s : S) (xs : List D) (vs : List V) (Q : VK), Sim G ι H s → RelDs G ι H xs vs → Post G W ι H (QE G Q) (f xs s) → r vs H Q
def mCall (f : FA) (ma : MA) : ME := fun ρ s => (ma ρ s).bnd fun xs s1 => f xs s1

section
variable {X : Cx} {W : WX} {a b c : Expr} {ma mb mc : ME} {pos p apos : Pos}
theorem rd_bin {r : R2} {f : F2} {ta tb : TE} (hr : OpV (cg X) W r f) (ka : ∀ σ H Q, rdE (cg X) W ma σ H Q → ta σ H Q) (kb : ∀ σ H Q, rdE (cg X) W mb σ H Q → tb σ H Q) (σ : L2.St) (H : Hp) (Q : VK) (h : rdE (cg X) W (mBin f ma mb) σ H Q) : tOp r ta tb σ H Q := by
  obtain ⟨ι, s, ρ, q, e, h⟩ := h
  refine ka _ _ _ (rdE_on q e h fun x v ι1 H1 s1 e1 q1 r1 h1 => kb _ _ _ (rdE_on q1 (e.mono e1) h1 fun y u ι2 H2 s2 e2 q2 r2 h2 => ?_))
  exact hr ι2 H2 s2 x y v u Q q2 (r1.mono e2) r2 h2
theorem ve_op {op : Operator} {r : R2} {f : F2} (ho : OpR X (binaryOp op) r) (hr : OpV (cg X) W r f) (ha : VE X W a ma) (hb : VE X W b mb) : VE X W (.BinOp a op b pos) (mBin f ma mb) :=
  pe_imp (pe_op ho ha hb) (rd_bin hr (fun _ _ _ h => h) fun _ _ _ h => h)
theorem ve_cmp {op : CmpOp} {r : R2} {f : F2} (ho : OpR X (compareOp op) r) (hr : OpV (cg X) W r f) (ha : VE X W a ma) (hb : VE X W b mb) (hm : behindInMarks op b = false) : VE X W (.Compare a [op] [b] pos) (mBin f ma mb) :=
  pe_imp (pe_cmpR ho ha hb hm) (rd_bin hr (fun _ _ _ h => h) fun _ _ _ h => h)
/-- a value as a test: a bool -/
def asB (r : R D) : R Bool := r.bnd fun d s => match d with
  | .bl b => .ok b s
  | _ => .bad
def mB (m : ME) : MT := fun ρ s => asB (m ρ s)
theorem relB {G : Cg} {ι H b v} (h : RelD G ι H (.bl b) v) : v = .bl b := by simpa only [RelD] using h
theorem relI {G : Cg} {ι H b v} (h : RelD G ι H (.int b) v) : v = .int b := by simpa only [RelD] using h
theorem relS {G : Cg} {ι H b v} (h : RelD G ι H (.str b) v) : v = .str b := by simpa only [RelD] using h
theorem relN {G : Cg} {ι H v} (h : RelD G ι H .non v) : v = .non := by simpa only [RelD] using h
theorem rdB {G : Cg} {m : ME} {σ : L2.St} {H : Hp} {Q : Bool → Hp → Prop} (h : rdT G W (mB m) σ H Q) : rdE G W m σ H fun x H1 => ∃ k, x = .bl k ∧ Q k H1 := by
  obtain ⟨ι, s, ρ, q, e, h⟩ := h
  refine rdE_on q e h fun d v ι1 H1 s1 e1 q1 r1 h1 => ?_
  cases d with
  | bl b => exact ⟨b, relB r1, h1.here q1⟩
  | _ => exact h1.elim
theorem vt_val {e : Expr} {m : ME} (h : VE X W e m) (he : ∀ whole, isTrue e X.env whole = (do let v ← whole; standAt e.pos; holding [v] (truthy v)) := by intro _; rfl) : VT X W e (mB m) :=
  pt_imp (pt_val h he) fun _ _ _ q => rdB q
theorem vt_cmp {op : CmpOp} {r : R2} {f : F2} (ho : OpR X (compareOp op) r) (hr : OpV (cg X) W r f) (ha : VE X W a ma) (hb : VE X W b mb) (hm : behindInMarks op b = false) : VT X W (.Compare a [op] [b] pos) (mB (mBin f ma mb)) :=
  pt_imp (pt_cmpR ho ha hb hm) fun σ H Q q => rd_bin hr (fun _ _ _ h => h) (fun _ _ _ h => h) σ H _ (rdB q)
/-- a < b < c -/
def mChn (f g : F2) (ma mb mc : ME) : ME := fun ρ s => (ma ρ s).bnd fun x s1 => (mb ρ s1).bnd fun y s2 => (f x y s2).bnd fun z s3 => match z with
  | .bl true => (mc ρ s3).bnd fun w s4 => g y w s4
  | .bl false => .ok (.bl false) s3
  | _ => .bad
/-- a comparison that changes nothing, whose wish may be read on -/
def OpK (G : Cg) (W : WX) (r : R2) (f : F2) : Prop := ∀ (ι : Z) (H : Hp) (s : S) (x y : D) (v u : V) (P : D → Z → Hp → S → Prop) (Q : VK), Sim G ι H s → RelD G ι H x v → RelD G ι H y u → Post G W ι H P (f x y s) →
  (∀ d w, f x y s = .ok d s → RelD G ι H d w → P d ι H s → Q w H) → r v u H Q
theorem OpK.v {G : Cg} {W : WX} {r : R2} {f : F2} (h : OpK G W r f) : OpV G W r f := fun ι H s x y v u Q q r1 r2 p => h ι H s x y v u (QE G Q) Q q r1 r2 p fun d w _ r3 k => k w r3
theorem ve_chain {op op' : CmpOp} {r r' : R2} {f g : F2} (ho : OpR X (compareOp op) r) (ho' : OpR X (compareOp op') r') (hr : OpK (cg X) W r f) (hr' : OpV (cg X) W r' g) (ha : VE X W a ma) (hb : VE X W b mb) (hc : VE X W c mc)
    (hm : lastMarks [op, op'] [b, c] = false := by rfl) : VE X W (.Compare a [op, op'] [b, c] pos) (mChn f g ma mb mc) := by
  refine pe_imp (pe_chain ho ho' ha hb hc hm) fun σ H Q h => ?_
  obtain ⟨ι, s, ρ, q, e, h⟩ := h
  refine rdE_on q e h fun x v ι1 H1 s1 e1 q1 r1 h1 => rdE_on q1 (e.mono e1) h1 fun y u ι2 H2 s2 e2 q2 r2 h2 => ?_
  refine hr ι2 H2 s2 x y v u _ _ q2 (r1.mono e2) r2 h2.bnd fun z w ez rz hz => ?_
  obtain ⟨_, _, h3⟩ := hz
  cases z with
  | bl k =>
    refine ⟨k, relB rz, ?_⟩
    cases k with
    | true =>
      rw [if_pos rfl]
      exact rdE_on q2 ((e.mono e1).mono e2) h3 fun w' t ι3 H3 s3 e3 q3 r3 h4 => hr' ι3 H3 s3 y w' u t Q q3 (r2.mono e3) r3 h4
    | false =>
      rw [if_neg Bool.false_ne_true]
      exact h3.val q2 (by simp only [RelD])
  | _ => exact h3.elim
end

/-! ### and, or, not, if -/
def mAndT (a b : MT) : MT := fun ρ s => (a ρ s).bnd fun k s1 => if k = true then b ρ s1 else .ok false s1
def mOrT (a b : MT) : MT := fun ρ s => (a ρ s).bnd fun k s1 => if k = true then .ok true s1 else b ρ s1
def mNotT (a : MT) : MT := fun ρ s => (a ρ s).bnd fun k s1 => .ok (!k) s1
def mAndV (a b : ME) : ME := fun ρ s => (asB (a ρ s)).bnd fun k s1 => if k = true then b ρ s1 else .ok (.bl false) s1
def mOrV (a b : ME) : ME := fun ρ s => (asB (a ρ s)).bnd fun k s1 => if k = true then .ok (.bl true) s1 else b ρ s1
def mNotV (a : ME) : ME := fun ρ s => (asB (a ρ s)).bnd fun k s1 => .ok (.bl (!k)) s1
def mIf (t : MT) (a b : ME) : ME := fun ρ s => (t ρ s).bnd fun k s1 => if k = true then a ρ s1 else b ρ s1
section
variable {X : Cx} {W : WX} {a b c : Expr} {ta tb : MT} {ma mb : ME} {rest : List Expr} {pos : Pos}
theorem vw_or1 (h : VT X W a ta) : VW X W (.BoolOp .Or [a] pos) ta := pw_or1 h
theorem vw_or (h1 : VT X W a ta) (h2 : VW X W (.BoolOp .Or (b :: rest) pos) tb) : VW X W (.BoolOp .Or (a :: b :: rest) pos) (mOrT ta tb) := by
  refine pw_imp (pw_or h1 h2) fun σ H Q h => ?_
  obtain ⟨ι, s, ρ, q, e, h⟩ := h
  refine rdT_on q e h fun k ι1 H1 s1 e1 q1 h1 => ?_
  cases k with
  | false => rw [if_neg Bool.false_ne_true] at h1 ⊢; exact ⟨ι1, s1, ρ, q1, e.mono e1, h1⟩
  | true => rw [if_pos rfl] at h1 ⊢; exact h1.here q1
theorem vt_not (h : VT X W a ta) : VT X W (.UnaryOp .Not a pos) (mNotT ta) := by
  refine pt_imp (pt_not h) fun σ H Q h => ?_
  obtain ⟨ι, s, ρ, q, e, h⟩ := h
  exact rdT_on q e h fun k ι1 H1 s1 e1 q1 h1 => h1.here q1
theorem ve_one {op} {m : ME} (h : VE X W a m) : VE X W (.BoolOp op [a] pos) m := pe_one h
theorem rd_asB {G : Cg} {m : ME} {f : Bool → S → R D} {σ : L2.St} {H : Hp} {ι s ρ} {Q Q' : VK} (q : Sim G ι H s) (e : EnvR G ι H σ ρ) (h : Post G W ι H (QE G Q') ((asB (m ρ s)).bnd f))
    (k : ∀ b ι' H' s', EnvR G ι' H' σ ρ → Sim G ι' H' s' → Post G W ι' H' (QE G Q') (f b s') → Q (.bl b) H') : rdE G W m σ H Q := by
  have h' : Post G W ι H (QE G Q') ((m ρ s).bnd fun d s1 => match d with | .bl b => f b s1 | _ => .bad) := by
    unfold asB at h
    cases hm : m ρ s with
    | ok d s1 =>
      rw [hm] at h
      cases d <;> exact h
    | exn c fs ρ s => rw [hm] at h; exact h
    | bad => rw [hm] at h; exact h
  refine rdE_on q e h' fun d v ι1 H1 s1 e1 q1 r1 h1 => ?_
  cases d with
  | bl b => rw [relB r1]; exact k b ι1 H1 s1 (e.mono e1) q1 h1
  | _ => exact h1.elim
theorem ve_and (h1 : VE X W a ma) (h2 : VE X W (.BoolOp .And (b :: rest) pos) mb) : VE X W (.BoolOp .And (a :: b :: rest) pos) (mAndV ma mb) := by
  refine pe_imp (pe_and h1 h2) fun σ H Q h => ?_
  obtain ⟨ι, s, ρ, q, e, h⟩ := h
  refine rd_asB q e h fun k ι1 H1 s1 e1 q1 h1 => ⟨k, rfl, ?_⟩
  cases k with
  | true => rw [if_pos rfl] at h1 ⊢; exact ⟨ι1, s1, ρ, q1, e1, h1⟩
  | false => rw [if_neg Bool.false_ne_true] at h1 ⊢; exact h1.val q1 (by simp only [RelD])
theorem ve_or (h1 : VE X W a ma) (h2 : VE X W (.BoolOp .Or (b :: rest) pos) mb) : VE X W (.BoolOp .Or (a :: b :: rest) pos) (mOrV ma mb) := by
  refine pe_imp (pe_or h1 h2) fun σ H Q h => ?_
  obtain ⟨ι, s, ρ, q, e, h⟩ := h
  refine rd_asB q e h fun k ι1 H1 s1 e1 q1 h1 => ⟨k, rfl, ?_⟩
  cases k with
  | false => rw [if_neg Bool.false_ne_true] at h1 ⊢; exact ⟨ι1, s1, ρ, q1, e1, h1⟩
  | true => rw [if_pos rfl] at h1 ⊢; exact h1.val q1 (by simp only [RelD])
theorem ve_not (h1 : VE X W a ma) : VE X W (.UnaryOp .Not a pos) (mNotV ma) := by
  refine pe_imp (pe_not h1) fun σ H Q h => ?_
  obtain ⟨ι, s, ρ, q, e, h⟩ := h
  exact rd_asB q e h fun k ι1 H1 s1 e1 q1 h1 => ⟨k, rfl, h1.val q1 (by simp only [RelD])⟩
theorem ve_if (hc : VT X W c ta) (h1 : VE X W a ma) (h2 : VE X W b mb) : VE X W (.IfExp c a b pos) (mIf ta ma mb) := by
  refine pe_imp (pe_ifExp hc h1 h2) fun σ H Q h => ?_
  obtain ⟨ι, s, ρ, q, e, h⟩ := h
  refine rdT_on q e h fun k ι1 H1 s1 e1 q1 h1 => ?_
  cases k with
  | true => rw [if_pos rfl] at h1 ⊢; exact ⟨ι1, s1, ρ, q1, e.mono e1, h1⟩
  | false => rw [if_neg Bool.false_ne_true] at h1 ⊢; exact ⟨ι1, s1, ρ, q1, e.mono e1, h1⟩
end

/-! ### argument lists, displays -/
def mNil : MA := fun _ s => .ok [] s
def mCons (m : ME) (ms : MA) : MA := fun ρ s => (m ρ s).bnd fun x s1 => (ms ρ s1).bnd fun xs s2 => .ok (x :: xs) s2
def mTup (m : MA) : ME := fun ρ s => (m ρ s).bnd fun xs s1 => if xs.length ≤ LIM then .ok (.tup xs) s1 else .bad
def mLst (m : MA) : ME := fun ρ s => (m ρ s).bnd fun xs s1 => if xs.length ≤ LIM then .ok (.lst xs) s1 else .bad
def mLstO (m : MA) : ME := fun ρ s => (m ρ s).bnd fun xs s1 => if xs.length ≤ LIM then .ok (.obj s1.length) (s1 ++ [.lst xs]) else .bad
section
variable {X : Cx} {W : WX} {e : Expr} {es : List Expr} {m : ME} {ms : MA} {pos : Pos}
theorem va_nil : VA X W [] mNil := pa_imp pa_nil fun σ H Q ⟨ι, s, ρ, q, e, h⟩ => h.here q [] .nil
theorem va_cons (h1 : VE X W e m) (h2 : VA X W es ms) (hs : starEach (e :: es) X.env = (false, eval e X.env) :: starEach es X.env := by rfl) : VA X W (e :: es) (mCons m ms) := by
  refine pa_imp (pa_cons h1 h2 hs) fun σ H Q h => ?_
  obtain ⟨ι, s, ρ, q, e, h⟩ := h
  refine rdE_on q e h fun x v ι1 H1 s1 e1 q1 r1 h1 => rdA_on q1 (e.mono e1) h1 fun xs vs ι2 H2 s2 e2 q2 r2 h2 => ?_
  exact h2.here q2 (v :: vs) (.cons (r1.mono e2) r2)
theorem ve_tup {k} (h : VA X W es ms) : VE X W (.Tuple es k pos) (mTup ms) := by
  refine pe_imp (pe_tup h) fun σ H Q h => ?_
  obtain ⟨ι, s, ρ, q, e, h⟩ := h
  refine rdA_on q e h fun xs vs ι1 H1 s1 e1 q1 r1 h1 => ?_
  split at h1
  · rename_i hl
    exact ⟨by rw [r1.len]; exact le_LIM hl, fun p hp => h1.newT q1 r1 hp⟩
  · exact h1.elim
theorem ve_lst (h : VA X W es ms) : VE X W (.List es pos) (mLst ms) := by
  refine pe_imp (pe_lst h) fun σ H Q h => ?_
  obtain ⟨ι, s, ρ, q, e, h⟩ := h
  refine rdA_on q e h fun xs vs ι1 H1 s1 e1 q1 r1 h1 => ?_
  split at h1
  · rename_i hl
    exact ⟨by rw [r1.len]; exact le_LIM hl, fun p hp => h1.newL q1 r1 hp⟩
  · exact h1.elim
theorem ve_lstO (h : VA X W es ms) : VE X W (.List es pos) (mLstO ms) := by
  refine pe_imp (pe_lst h) fun σ H Q h => ?_
  obtain ⟨ι, s, ρ, q, e, h⟩ := h
  refine rdA_on q e h fun xs vs ι1 H1 s1 e1 q1 r1 h1 => ?_
  split at h1
  · rename_i hl
    exact ⟨by rw [r1.len]; exact le_LIM hl, fun p hp => h1.newLO q1 r1 hp⟩
  · exact h1.elim
/-! built-ins called -/
theorem rd_call {r : List V → Hp → VK → Prop} {f : FA} (hr : CallV (cg X) W r f) (σ : L2.St) (H : Hp) (Q : VK) (h : rdE (cg X) W (mCall f ms) σ H Q) : tCB r (rdA (cg X) W ms) σ H Q := by
  obtain ⟨ι, s, ρ, q, e, h⟩ := h
  exact rdA_on q e h fun xs vs ι1 H1 s1 e1 q1 r1 h1 => hr ι1 H1 s1 xs vs Q q1 r1 h1
theorem ve_callB {id : String} {x : Str} {p : Pos} {r : List V → Hp → VK → Prop} {f : FA} (hc : CallR X (.builtin id) r) (hr : CallV (cg X) W r f) (hg : Gl X x) (hm : X.mg x = none) (hv : bootBuiltins x = some (.builtin id)) (ha : VA X W (e :: es) ms) (hn : x ≠ "__name__" := by decide) (hdb : (x == ("__debug__" : Str)) = false := by decide)
    (he : starEach (e :: es) X.env = (false, eval e X.env) :: starEach es X.env := by rfl) (hpl : (backTo pos (starEach es X.env)).any (·.1) = false := by rfl) : VE X W (.Call (.Name x p) (e :: es) [] pos) (mCall f ms) :=
  pe_imp (pe_callB hc hg hm hv ha hn hdb he hpl) (rd_call hr)
theorem ve_callTy {T : String} {x : Str} {p : Pos} {r : List V → Hp → VK → Prop} {f : FA} (hc : CallR X (.type T) r) (hr : CallV (cg X) W r f) (hg : Gl X x) (hm : X.mg x = none) (hv : bootBuiltins x = some (.type T)) (ha : VA X W (e :: es) ms) (hn : x ≠ "__name__" := by decide) (hdb : (x == ("__debug__" : Str)) = false := by decide)
    (he : starEach (e :: es) X.env = (false, eval e X.env) :: starEach es X.env := by rfl) (hpl : (backTo pos (starEach es X.env)).any (·.1) = false := by rfl) : VE X W (.Call (.Name x p) (e :: es) [] pos) (mCall f ms) :=
  pe_imp (pe_callTy hc hg hm hv ha hn hdb he hpl) (rd_call hr)
end
end VL
namespace VL
open PySem PySem.Spec PyProof.Rows L2

/-! ### data as the library's data -/
mutual
def toPy : D → Option PyData
  | .non => some .none
  | .bl b => some (.bool b)
  | .int i => some (.int i)
  | .str x => some (.str x)
  | .tup ds => (toPys ds).map .tuple
  | .lst ds => (toPys ds).map .list
  | .scr ds => (toPys ds).map .list
  | .tupF ds => (toPys ds).map .tuple
  | _ => none
def toPys : List D → Option (List PyData)
  | [] => some []
  | d :: ds => match toPy d, toPys ds with
    | some p, some ps => some (p :: ps)
    | _, _ => none
end
/-- a list, by its items: asL to read, asX exact -/
def asX (s : S) : D → Option (List D)
  | .lst ds => some ds
  | .obj n => match s[n]? with
    | some (.lst ds) => some ds
    | _ => none
  | _ => none
def asL (s : S) : D → Option (List D)
  | .scr ds => some ds
  | d => asX s d
def toPyS (s : S) (d : D) : Option PyData := match d with
  | .obj n => (match s[n]? with
    | some (.lst ds) => (toPys ds).map .list
    | _ => none)
  | d => toPy d
section
variable {G : Cg} {W : WX} {ι : Z} {H : Hp} {s : S}
theorem asX_at (q : Sim G ι H s) {d : D} {v : V} {ds : List D} (r : RelD G ι H d v) (h : asX s d = some ds) : ∃ a xs, v = .ref a ∧ H a = some (.lst xs) ∧ RelDs G ι H ds xs := by
  cases d with
  | lst es =>
    simp only [asX, Option.some.injEq] at h
    subst h
    simp only [RelD] at r
    obtain ⟨a, xs, h1, h2, h3⟩ := r
    exact ⟨a, xs, h1, h2.2, h3⟩
  | obj n =>
    simp only [asX] at h
    split at h
    · rename_i es he
      cases h
      obtain ⟨a, h1, h2, xs, h3, h4⟩ := q.addr he
      simp only [RelD] at r
      obtain ⟨b, rfl, e⟩ := r
      rw [h1] at e; cases e
      exact ⟨a, xs, rfl, h3, h4⟩
    · cases h
  | _ => simp [asX] at h
theorem asL_at (q : Sim G ι H s) {d : D} {v : V} {ds : List D} (r : RelD G ι H d v) (h : asL s d = some ds) : ∃ a xs, v = .ref a ∧ SqL G.K H a xs ∧ RelDs G ι H ds xs := by
  cases d with
  | scr es =>
    simp only [asL, Option.some.injEq] at h
    subst h
    simp only [RelD] at r
    obtain ⟨a, xs, h1, h2, h3⟩ := r
    exact ⟨a, xs, h1, h2.sq, h3⟩
  | lst es => obtain ⟨a, xs, h1, h2, h3⟩ := asX_at q r (show asX s _ = some ds from h); exact ⟨a, xs, h1, .inl (.inl h2), h3⟩
  | obj n => obtain ⟨a, xs, h1, h2, h3⟩ := asX_at q r (show asX s _ = some ds from h); exact ⟨a, xs, h1, .inl (.inl h2), h3⟩
  | _ => simp [asL, asX] at h
mutual
theorem dp_of : ∀ (d : D) {v : V} {p : PyData}, RelD G ι H d v → toPy d = some p → Dp G.K H v p
  | .non, v, p, r, h => by simp only [toPy, Option.some.injEq] at h; subst h; rw [relN r]; exact .non
  | .bl b, v, p, r, h => by simp only [toPy, Option.some.injEq] at h; subst h; rw [relB r]; exact .bl b
  | .int b, v, p, r, h => by simp only [toPy, Option.some.injEq] at h; subst h; rw [relI r]; exact .int b
  | .str b, v, p, r, h => by simp only [toPy, Option.some.injEq] at h; subst h; rw [relS r]; exact .str b
  | .tup ds, v, p, r, h => by
    simp only [toPy, Option.map_eq_some_iff] at h
    obtain ⟨ps, hp, rfl⟩ := h
    simp only [RelD] at r
    obtain ⟨a, xs, rfl, h2, h3⟩ := r
    exact .tup h2.sq (dps_of ds h3 hp)
  | .lst ds, v, p, r, h => by
    simp only [toPy, Option.map_eq_some_iff] at h
    obtain ⟨ps, hp, rfl⟩ := h
    simp only [RelD] at r
    obtain ⟨a, xs, rfl, h2, h3⟩ := r
    exact .lst h2.sq (dps_of ds h3 hp)
  | .scr ds, v, p, r, h => by
    simp only [toPy, Option.map_eq_some_iff] at h
    obtain ⟨ps, hp, rfl⟩ := h
    simp only [RelD] at r
    obtain ⟨a, xs, rfl, h2, h3⟩ := r
    exact .lst h2.sq (dps_of ds h3 hp)
  | .obj n, v, p, r, h => by simp [toPy] at h
  | .glo n, v, p, r, h => by simp [toPy] at h
  | .ty n, v, p, r, h => by simp [toPy] at h
  | .tupF ds, v, p, r, h => by
    simp only [toPy, Option.map_eq_some_iff] at h
    obtain ⟨ps, hp, rfl⟩ := h
    simp only [RelD] at r
    obtain ⟨a, xs, rfl, h2, h3⟩ := r
    exact .tup h2.sq (dps_of ds h3 hp)
theorem dps_of : ∀ (ds : List D) {vs : List V} {ps : List PyData}, RelDs G ι H ds vs → toPys ds = some ps → DpAll G.K H vs ps
  | [], vs, ps, r, h => by simp only [toPys, Option.some.injEq] at h; subst h; simp only [RelDs] at r; subst r; exact .nil
  | d :: ds, vs, ps, r, h => by
    simp only [toPys] at h
    split at h
    · rename_i p qs h1 h2
      cases h
      simp only [RelDs] at r
      obtain ⟨x, t, rfl, r1, r2⟩ := r
      exact .cons (dp_of d r1 h1) (dps_of ds r2 h2)
    · cases h
end
theorem dp_ofS (q : Sim G ι H s) {d : D} {v : V} {p : PyData} (r : RelD G ι H d v) (h : toPyS s d = some p) : Dp G.K H v p := by
  cases d with
  | obj n =>
    simp only [toPyS] at h
    split at h
    · rename_i ds hd
      obtain ⟨ps, hp, rfl⟩ := Option.map_eq_some_iff.mp h
      obtain ⟨a, xs, rfl, h2, h3⟩ := asX_at q r (ds := ds) (by simp [asX, hd])
      exact .lst (.inl (.inl h2)) (dps_of ds h3 hp)
    · cases h
  | _ => exact dp_of _ r h
end

/-! ### == and != of data -/
def opEqP (f : Bool → Bool) : F2 := fun x y s => match toPyS s x, toPyS s y with
  | some p, some q => if SeqAt.shaped p = true ∧ SeqAt.shaped q = true then .ok (.bl (f (PyData.eqv p q))) s else .bad
  | _, _ => .bad
def bothS : D → D → Option (Str × Str)
  | .str a, .str b => some (a, b)
  | _, _ => none
def opEqF (f : Bool → Bool) : F2 := fun x y s => match bothS x y with
  | some (a, b) => .ok (.bl (f (decide (a = b)))) s
  | none => opEqP f x y s
abbrev opEq : F2 := opEqF fun b => b
abbrev opNe : F2 := opEqF fun b => !b
def isNonD : D → Bool
  | .non => true
  | _ => false
def opIsN : F2 := fun x y s => match y with
  | .non => .ok (.bl (isNonD x)) s
  | _ => .bad
def opNotN : F2 := fun x y s => match y with
  | .non => .ok (.bl (!isNonD x)) s
  | _ => .bad
def opI (g : Int → Int → D) (c : Int → Int → Prop) [∀ i j, Decidable (c i j)] : F2 := fun x y s => match x, y with
  | .int i, .int j => if c i j then .ok (g i j) s else .bad
  | _, _ => .bad
abbrev opLt : F2 := opI (fun i j => .bl (decide (i < j))) fun _ _ => True
abbrev opLe : F2 := opI (fun i j => .bl (decide (i ≤ j))) fun _ _ => True
abbrev opGt : F2 := opI (fun i j => .bl (decide (j < i))) fun _ _ => True
abbrev opGe : F2 := opI (fun i j => .bl (decide (j ≤ i))) fun _ _ => True
section
variable {G : Cg} {W : WX}
theorem relNon {ι H} {x : D} {v : V} (r : RelD G ι H x v) : decide (v = .non) = isNonD x := by
  cases x with
  | non => rw [relN r]; rfl
  | bl b => rw [relB r]; rfl
  | int b => rw [relI r]; rfl
  | str b => rw [relS r]; rfl
  | tup ds => simp only [RelD] at r; obtain ⟨a, xs, rfl, _⟩ := r; rfl
  | lst ds => simp only [RelD] at r; obtain ⟨a, xs, rfl, _⟩ := r; rfl
  | scr ds => simp only [RelD] at r; obtain ⟨a, xs, rfl, _⟩ := r; rfl
  | obj n => simp only [RelD] at r; obtain ⟨a, rfl, _⟩ := r; rfl
  | glo n => simp only [RelD] at r; obtain ⟨a, rfl, _⟩ := r; rfl
  | ty n => simp only [RelD] at r; subst r; rfl
  | tupF ds => simp only [RelD] at r; obtain ⟨a, xs, rfl, _⟩ := r; rfl
  | adr a => simp only [RelD] at r; subst r; rfl
  | exc a dx ks => simp only [RelD] at r; obtain ⟨rfl, _⟩ := r; rfl
theorem k_isN : OpK G W (fun x y H Q => y = .non ∧ Q (.bl (decide (x = .non))) H) opIsN := fun ι H s x y v u P Q q r1 r2 h k => by
  cases y with
  | non => exact ⟨relN r2, k _ _ rfl (by simp only [RelD]; rw [relNon r1]) (h.here q)⟩
  | _ => exact h.elim
abbrev rEqA (K : PySem.W.Frag) : R2 := fun x y H Q => rEq x y H Q ∨ rEqD K x y H Q
abbrev rNeA (K : PySem.W.Frag) : R2 := fun x y H Q => rNe x y H Q ∨ rNeD K x y H Q
theorem op_eqA {X : Cx} (hu : X.A.units + 64 < cLine) : OpR X (compareOp .Eq) (rEqA X.K) := op_eq.or (op_eqD hu)
theorem op_neA {X : Cx} (hu : X.A.units + 64 < cLine) : OpR X (compareOp .NotEq) (rNeA X.K) := op_ne.or (op_neD hu)
theorem k_eqF {f : Bool → Bool} {ι : Z} {H : Hp} {s : S} {x y : D} {v u : V} {P : D → Z → Hp → S → Prop} {Q : VK} (q : Sim G ι H s) (r1 : RelD G ι H x v) (r2 : RelD G ι H y u) (h : Post G W ι H P (opEqF f x y s))
    (k : ∀ d w, opEqF f x y s = .ok d s → RelD G ι H d w → P d ι H s → Q w H) :
    (scal v u = true ∧ Q (.bl (f (decide (v = u)))) H) ∨ (∃ d e, Dp G.K H v d ∧ Dp G.K H u e ∧ SeqAt.shaped d = true ∧ SeqAt.shaped e = true ∧ Q (.bl (f (PyData.eqv d e))) H) := by
  unfold opEqF at h k
  split at h
  · rename_i a b hab
    left
    unfold bothS at hab
    split at hab
    · rename_i a' b'
      cases hab
      rw [relS r1, relS r2]
      refine ⟨rfl, ?_⟩
      have e : decide (V.str a = V.str b) = decide (a = b) := by
        by_cases z : a = b
        · subst z; simp
        · rw [decide_eq_false z, decide_eq_false (fun e => z (V.str.inj e))]
      rw [e]
      exact k _ _ rfl (by simp only [RelD]) (h.here q)
    · cases hab
  · rename_i hab
    right
    rw [hab] at k
    unfold opEqP at h k
    split at h
    · rename_i a b ha hb
      split at h
      · rename_i hs
        refine ⟨a, b, dp_ofS q r1 ha, dp_ofS q r2 hb, hs.1, hs.2, k _ _ ?_ (by simp only [RelD]) (h.here q)⟩
        simp only [ha, hb, if_pos hs]
      · exact h.elim
    · exact h.elim
theorem k_eq : OpK G W (rEqA G.K) opEq := fun ι H s x y v u P Q q r1 r2 h k => k_eqF q r1 r2 h k
theorem k_ne : OpK G W (rNeA G.K) opNe := fun ι H s x y v u P Q q r1 r2 h k => k_eqF q r1 r2 h k
theorem k_int {g : Int → Int → D} {gV : Int → Int → V} {c : Int → Int → Prop} [∀ i j, Decidable (c i j)] (hg : ∀ ι H i j, RelD G ι H (g i j) (gV i j)) : OpK G W (rI c gV) (opI g c) := fun ι H s x y v u P Q q r1 r2 h k => by
  cases x with
  | int i =>
    cases y with
    | int j =>
      simp only [opI] at h k
      split at h
      · rename_i hc
        exact ⟨i, j, relI r1, relI r2, hc, k _ _ (if_pos hc) (hg ι H i j) (h.here q)⟩
      · exact h.elim
    | _ => exact h.elim
  | _ => exact h.elim
theorem k_int0 {g : Int → Int → D} {gV : Int → Int → V} (hg : ∀ ι H i j, RelD G ι H (g i j) (gV i j)) : OpK G W (rI0 gV) (opI g fun _ _ => True) := fun ι H s x y v u P Q q r1 r2 h k => by
  obtain ⟨i, j, a, b, _, c⟩ := k_int (c := fun _ _ => True) hg ι H s x y v u P Q q r1 r2 h k
  exact ⟨i, j, a, b, c⟩
theorem rb {ι H} (b : Bool) : RelD G ι H (.bl b) (.bl b) := by simp only [RelD]
theorem ri {ι H} (b : Int) : RelD G ι H (.int b) (.int b) := by simp only [RelD]
theorem k_lt : OpK G W (rI0 fun i j => .bl (decide (i < j))) opLt := k_int0 fun _ _ _ _ => rb _
theorem k_le : OpK G W (rI0 fun i j => .bl (decide (i ≤ j))) opLe := k_int0 fun _ _ _ _ => rb _
theorem k_gt : OpK G W (rI0 fun i j => .bl (decide (j < i))) opGt := k_int0 fun _ _ _ _ => rb _
end

/-! ### arithmetic, + of texts, tuples, lists -/
def opAdd : F2 := fun x y s => match x, y with
  | .int i, .int j => .ok (.int (i + j)) s
  | .str i, .str j => if i.length + j.length ≤ LIM then .ok (.str (i ++ j)) s else .bad
  | .tup xs, .tup ys => if xs.length + ys.length ≤ LIM then .ok (.tup (xs ++ ys)) s else .bad
  | x, y => match asX s x, asX s y with
    | some xs, some ys => if xs.length + ys.length ≤ LIM then .ok (.lst (xs ++ ys)) s else .bad
    | _, _ => .bad
abbrev opSub : F2 := opI (fun i j => .int (i - j)) fun _ _ => True
def CMulD (i j : Int) : Prop := (-(2 ^ 64) < i ∧ i < 2 ^ 64) ∨ (-(2 ^ 64) < j ∧ j < 2 ^ 64)
noncomputable instance (i j : Int) : Decidable (CMulD i j) := Classical.propDecidable _
noncomputable def opMul : F2 := fun x y s => match x, y with
  | .int i, .int j => if CMulD i j then .ok (.int (i * j)) s else .bad
  | .tup xs, .int k => if xs ≠ [] ∧ 2 ≤ k ∧ k ≤ 1000 ∧ xs.length ≤ 1000 then .ok (.tup (List.replicate k.toNat xs).flatten) s else .bad
  | x, .int k => match asX s x with
    | some xs => if 0 ≤ k ∧ k ≤ 1000 ∧ xs.length ≤ 1000 then .ok (.lst (List.replicate k.toNat xs).flatten) s else .bad
    | none => .bad
  | _, _ => .bad
abbrev opMod : F2 := opI (fun i j => .int (i % j)) fun _ j => 0 < j
noncomputable instance (i j : Int) : Decidable (CDiv i j) := Classical.propDecidable _
noncomputable instance (i j : Int) : Decidable (CPow i j) := Classical.propDecidable _
noncomputable abbrev opDiv : F2 := opI (fun i j => .int (i / j)) CDiv
noncomputable abbrev opPow : F2 := opI (fun i j => .int (i ^ j.toNat)) CPow
theorem RelDs.nil_iff {G ι H ds xs} (r : RelDs G ι H ds xs) : xs = [] ↔ ds = [] := by
  rw [← List.length_eq_zero_iff, ← List.length_eq_zero_iff, r.len]
section
variable {G : Cg} {W : WX} {X : Cx}
abbrev rAddA (K : PySem.W.Frag) : R2 := fun x y H Q => (rI0 fun i j => .int (i + j)) x y H Q ∨ (∃ i j, x = .str i ∧ y = .str j ∧ i.length + j.length ≤ sizeLine ∧ Q (.str (i ++ j)) H) ∨ rCatA K x y H Q ∨ rCat x y H Q
theorem op_addA : OpR X (binaryOp .Add) (rAddA X.K) := op_add.or (op_add_str.or (op_catA.or op_cat))
theorem v_cat {ι H s x y v u Q} (q : Sim G ι H s) (r1 : RelD G ι H x v) (r2 : RelD G ι H y u) (h : Post G W ι H (QE G Q) (match asX s x, asX s y with
    | some xs, some ys => if xs.length + ys.length ≤ LIM then .ok (.lst (xs ++ ys)) s else .bad
    | _, _ => .bad)) : rCat v u H Q := by
  split at h
  · rename_i xs ys h1 h2
    split at h
    · rename_i hl
      obtain ⟨a, vs, rfl, e1, k1⟩ := asX_at q r1 h1
      obtain ⟨b, ws, rfl, e2, k2⟩ := asX_at q r2 h2
      exact ⟨a, b, vs, ws, rfl, rfl, e1, e2, by rw [k1.len, k2.len]; exact le_LIM hl, fun p hp => h.newL q (k1.app k2) hp⟩
    · exact h.elim
  · exact h.elim
theorem v_add : OpV G W (rAddA G.K) opAdd := fun ι H s x y v u Q q r1 r2 h => by
  unfold opAdd at h
  split at h
  · rename_i i j
    exact .inl ⟨i, j, relI r1, relI r2, h.val q (ri _)⟩
  · rename_i i j
    split at h
    · rename_i hl
      exact .inr (.inl ⟨i, j, relS r1, relS r2, le_LIM hl, h.val q (by simp only [RelD])⟩)
    · exact h.elim
  · rename_i xs ys
    split at h
    · rename_i hl
      have r1' := r1; have r2' := r2
      simp only [RelD] at r1 r2
      obtain ⟨a, vs, rfl, t1, k1⟩ := r1
      obtain ⟨b, ws, rfl, t2, k2⟩ := r2
      refine .inr (.inr (.inl ⟨a, b, vs, ws, rfl, rfl, t1.sq, t2.sq, by rw [k1.len, k2.len]; exact le_LIM hl, fun e => ?_, fun _ e => ?_, fun _ _ p hp => h.newT q (k1.app k2) hp⟩))
      · rw [k1.nil_iff] at e
        subst e
        exact h.val q r2'
      · rw [k2.nil_iff] at e
        subst e
        rw [List.append_nil] at h
        exact h.val q r1'
    · exact h.elim
  · exact .inr (.inr (.inr (v_cat q r1 r2 h)))
theorem v_sub : OpV G W (rI0 fun i j => .int (i - j)) opSub := (k_int0 fun _ _ _ _ => ri _).v
abbrev rMulA (K : PySem.W.Frag) : R2 := fun x y H Q => (rI CMul fun i j => .int (i * j)) x y H Q ∨ rRepT K x y H Q ∨ rRep x y H Q
theorem op_mulA : OpR X (binaryOp .Mult) (rMulA X.K) := op_mul.or (op_repT.or op_rep)
theorem RelDs.rep {ι H} {xs : List D} {vs : List V} (r : RelDs G ι H xs vs) : ∀ n, RelDs G ι H (List.replicate n xs).flatten (List.replicate n vs).flatten
  | 0 => by simp only [List.replicate_zero, List.flatten_nil]; exact .nil
  | n + 1 => by
    simp only [List.replicate_succ, List.flatten_cons]
    exact r.app (RelDs.rep r n)
theorem v_mul : OpV G W (rMulA G.K) opMul := fun ι H s x y v u Q q r1 r2 h => by
  unfold opMul at h
  split at h
  · rename_i i j
    split at h
    · rename_i hc
      exact .inl ⟨i, j, relI r1, relI r2, hc, h.val q (ri _)⟩
    · exact h.elim
  · rename_i xs k
    split at h
    · rename_i hc
      simp only [RelD] at r1
      obtain ⟨a, vs, rfl, t1, k1⟩ := r1
      exact .inr (.inl ⟨a, k, vs, rfl, relI r2, t1.sq, fun e => hc.1 (k1.nil_iff.mp e), hc.2.1, hc.2.2.1, by rw [k1.len]; exact hc.2.2.2, fun p hp => h.newT q (k1.rep _) hp⟩)
    · exact h.elim
  · rename_i x k _ _
    split at h
    · rename_i xs hx
      split at h
      · rename_i hc
        obtain ⟨a, vs, rfl, e1, k1⟩ := asX_at q r1 hx
        refine .inr (.inr ⟨a, k, vs, rfl, relI r2, e1, by omega, by omega, ?_, fun p hp => h.newL q (k1.rep _) hp⟩)
        rw [k1.len]
        have a1 : xs.length * k.toNat ≤ 1000 * 1000 := Nat.mul_le_mul (by omega) (by omega)
        exact Nat.le_trans a1 LIM_le
      · exact h.elim
    · exact h.elim
  · exact h.elim
theorem v_mod : OpV G W (rI (fun _ j => 0 < j) fun i j => .int (i % j)) opMod := (k_int fun _ _ _ _ => ri _).v
theorem v_div : OpV G W (rI CDiv fun i j => .int (i / j)) opDiv := (k_int fun _ _ _ _ => ri _).v
theorem v_pow : OpV G W (rI CPow fun i j => .int (i ^ j.toNat)) opPow := (k_int fun _ _ _ _ => ri _).v
def opNeg : F1 := fun x s => match x with
  | .int i => .ok (.int (-i)) s
  | _ => .bad
end

/-! ### in, not in -/
def flatD : D → Bool
  | .non | .bl _ | .int _ | .str _ => true
  | _ => false
def eqF : D → D → Bool
  | .non, .non => true
  | .bl a, .bl b => a == b
  | .bl a, .int b => (if a then 1 else 0) == b
  | .int a, .bl b => a == (if b then 1 else 0)
  | .int a, .int b => a == b
  | .str a, .str b => a == b
  | _, _ => false
def anyF (x : D) (ys : List D) : Bool := ys.any fun y => eqF y x
def opInB (f : Bool → Bool) : F2 := fun x y s => match y with
  | .tup ys => if flatD x = true ∧ ys.all flatD = true then .ok (.bl (f (anyF x ys))) s else .bad
  | .tupF ys => if flatD x = true ∧ ys.all flatD = true then .ok (.bl (f (anyF x ys))) s else .bad
  | y => match toPyS s x, toPyS s y with
    | some d, some (.list ds) => if SeqAt.shaped d = true ∧ SeqAt.shaped (.list ds) = true then .ok (.bl (f (ds.any fun z => PyData.eqv z d))) s else .bad
    | _, _ => .bad
abbrev opIn : F2 := opInB fun b => b
abbrev opNotIn : F2 := opInB fun b => !b
section
variable {G : Cg} {W : WX} {X : Cx} {ι : Z} {H : Hp}
theorem flat_rel {x : D} {v : V} (r : RelD G ι H x v) (h : flatD x = true) : flatV v = true := by
  cases x with
  | non => rw [relN r]; rfl
  | bl b => rw [relB r]; rfl
  | int b => rw [relI r]; rfl
  | str b => rw [relS r]; rfl
  | _ => cases h
theorem eqF_rel {x y : D} {v u : V} (r1 : RelD G ι H x v) (r2 : RelD G ι H y u) (h1 : flatD x = true) (h2 : flatD y = true) : eqV v u = eqF x y := by
  cases x with
  | non => rw [relN r1]; (cases y <;> first | exact Bool.noConfusion h2 | (first | rw [relN r2] | rw [relB r2] | rw [relI r2] | rw [relS r2]) <;> rfl)
  | bl b => rw [relB r1]; (cases y <;> first | exact Bool.noConfusion h2 | (first | rw [relN r2] | rw [relB r2] | rw [relI r2] | rw [relS r2]) <;> rfl)
  | int b => rw [relI r1]; (cases y <;> first | exact Bool.noConfusion h2 | (first | rw [relN r2] | rw [relB r2] | rw [relI r2] | rw [relS r2]) <;> rfl)
  | str b => rw [relS r1]; (cases y <;> first | exact Bool.noConfusion h2 | (first | rw [relN r2] | rw [relB r2] | rw [relI r2] | rw [relS r2]) <;> rfl)
  | _ => cases h1
theorem anyF_rel {x : D} {v : V} (r1 : RelD G ι H x v) (h1 : flatD x = true) : ∀ {ys : List D} {us : List V}, RelDs G ι H ys us → ys.all flatD = true → us.all flatV = true ∧ inV v us = anyF x ys
  | [], us, r2, _ => by simp only [RelDs] at r2; subst r2; exact ⟨rfl, rfl⟩
  | y :: ys, us, r2, h2 => by
    simp only [RelDs] at r2
    obtain ⟨u, us', rfl, k1, k2⟩ := r2
    simp only [List.all_cons, Bool.and_eq_true] at h2
    obtain ⟨i1, i2⟩ := anyF_rel r1 h1 k2 h2.2
    refine ⟨by simp only [List.all_cons, Bool.and_eq_true]; exact ⟨flat_rel k1 h2.1, i1⟩, ?_⟩
    unfold inV anyF at i2 ⊢
    simp only [List.any_cons]
    rw [eqF_rel k1 r1 h2.1 h1, i2]
abbrev rInA (K : PySem.W.Frag) : R2 := fun x y H Q => rIn K false x y H Q ∨ rInD K x y H Q
abbrev rNotInA (K : PySem.W.Frag) : R2 := fun x y H Q => rIn K true x y H Q ∨ rNotInD K x y H Q
theorem op_inA (hu : X.A.units + 65 < cLine) : OpR X (compareOp .In) (rInA X.K) := op_in_seq.or (op_inD hu)
theorem op_notInA (hu : X.A.units + 65 < cLine) : OpR X (compareOp .NotIn) (rNotInA X.K) := op_notIn_seq.or (op_notInD hu)
theorem v_inB {f : Bool → Bool} {s : S} {x y : D} {v u : V} {Q : VK} (q : Sim G ι H s) (r1 : RelD G ι H x v) (r2 : RelD G ι H y u) (h : Post G W ι H (QE G Q) (opInB f x y s)) :
    (∃ p xs, u = .ref p ∧ SqT G.K H p xs ∧ flatV v = true ∧ xs.all flatV = true ∧ Q (.bl (f (inV v xs))) H) ∨
      (∃ d ds, Dp G.K H v d ∧ Dp G.K H u (.list ds) ∧ SeqAt.shaped d = true ∧ SeqAt.shaped (.list ds) = true ∧ Q (.bl (f (ds.any fun z => PyData.eqv z d))) H) := by
  unfold opInB at h
  split at h
  · rename_i ys
    split at h
    · rename_i hc
      simp only [RelD] at r2
      obtain ⟨a, us, rfl, t, k⟩ := r2
      obtain ⟨i1, i2⟩ := anyF_rel r1 hc.1 k hc.2
      exact .inl ⟨a, us, rfl, t.sq, flat_rel r1 hc.1, i1, by rw [i2]; exact h.val q (rb _)⟩
    · exact h.elim
  · rename_i ys
    split at h
    · rename_i hc
      simp only [RelD] at r2
      obtain ⟨a, us, rfl, t, k⟩ := r2
      obtain ⟨i1, i2⟩ := anyF_rel r1 hc.1 k hc.2
      exact .inl ⟨a, us, rfl, t.sq, flat_rel r1 hc.1, i1, by rw [i2]; exact h.val q (rb _)⟩
    · exact h.elim
  · split at h
    · rename_i d ds h1 h2
      split at h
      · rename_i hc
        exact .inr ⟨d, ds, dp_ofS q r1 h1, dp_ofS q r2 h2, hc.1, hc.2, h.val q (rb _)⟩
      · exact h.elim
    · exact h.elim
theorem v_in : OpV G W (rInA G.K) opIn := fun ι H s x y v u Q q r1 r2 h => by
  rcases v_inB q r1 r2 h with ⟨p, xs, e, t, f1, f2, k⟩ | h
  · exact .inl ⟨p, xs, e, .inr t, f1, f2, k⟩
  · exact .inr h
theorem v_notIn : OpV G W (rNotInA G.K) opNotIn := fun ι H s x y v u Q q r1 r2 h => by
  rcases v_inB q r1 r2 h with ⟨p, xs, e, t, f1, f2, k⟩ | h
  · exact .inl ⟨p, xs, e, .inr t, f1, f2, k⟩
  · exact .inr h
end

/-! ### items, slices -/
def opIx : F2 := fun x y s => match x, y with
  | .tup xs, .int i => (match atI xs i with
    | some d => .ok d s
    | none => .bad)
  | .tupF xs, .int i => (match atI xs i with
    | some d => .ok d s
    | none => .bad)
  | .str z, .int i => if z.length ≤ LIM then (match atI z.cps.toList i with
    | some c => .ok (.str ⟨#[c]⟩) s
    | none => .bad) else .bad
  | x, .int i => (match asL s x with
    | some xs => (match atI xs i with
      | some d => .ok d s
      | none => .bad)
    | none => .bad)
  | _, _ => .bad
section
variable {G : Cg} {W : WX} {X : Cx} {ι : Z} {H : Hp}
theorem at_rel {xs : List D} {vs : List V} (r : RelDs G ι H xs vs) {i : Int} {d : D} (h : atI xs i = some d) : ∃ v, atI vs i = some v ∧ RelD G ι H d v := by
  unfold atI at h ⊢
  rw [r.len]
  cases hj : ixN xs.length i with
  | none => rw [hj] at h; cases h
  | some j =>
    rw [hj] at h
    exact r.get (i := j) h
theorem v_ix : OpV G W (rIx G.K) opIx := fun ι H s x y v u Q q r1 r2 h => by
  unfold opIx at h
  split at h
  · rename_i xs i
    split at h
    · rename_i d hd
      simp only [RelD] at r1
      obtain ⟨a, us, rfl, t, k⟩ := r1
      obtain ⟨w, hw, rw'⟩ := at_rel k hd
      exact .inr (.inl ⟨a, us, i, w, rfl, relI r2, t.sq, hw, h.val q rw'⟩)
    · exact h.elim
  · rename_i xs i
    split at h
    · rename_i d hd
      simp only [RelD] at r1
      obtain ⟨a, us, rfl, t, k⟩ := r1
      obtain ⟨w, hw, rw'⟩ := at_rel k hd
      exact .inr (.inl ⟨a, us, i, w, rfl, relI r2, t.sq, hw, h.val q rw'⟩)
    · exact h.elim
  · rename_i z i
    split at h
    · rename_i hl
      split at h
      · rename_i c hc
        exact .inr (.inr ⟨z, i, c, relS r1, relI r2, le_LIM hl, hc, h.val q (by simp only [RelD])⟩)
      · exact h.elim
    · exact h.elim
  · rename_i x i _ _ _
    split at h
    · rename_i xs hx
      split at h
      · rename_i d hd
        obtain ⟨a, vs, rfl, t, k⟩ := asL_at q r1 hx
        obtain ⟨w, hw, rw'⟩ := at_rel k hd
        exact .inl ⟨a, vs, i, w, rfl, relI r2, t, hw, h.val q rw'⟩
      · exact h.elim
    · exact h.elim
  · exact h.elim
theorem ve_ix {a b : Expr} {ma mb : ME} {pos : Pos} (ha : VE X W a ma) (hb : VE X W b mb) (hs : PlainIx b := by exact fun _ _ => rfl) : VE X W (.Subscript a b pos) (mBin opIx ma mb) :=
  pe_imp (pe_ix ix_seq ha hb hs) (rd_bin v_ix (fun _ _ _ h => h) fun _ _ _ h => h)

def cutD (xs : List D) (lo hi : Option Int) : List D := (xs.drop (HT.sIx xs.length 0 lo)).take (HT.sIx xs.length xs.length hi - HT.sIx xs.length 0 lo)
theorem cut_rel {xs : List D} {vs : List V} (r : RelDs G ι H xs vs) (lo hi : Option Int) : RelDs G ι H (cutD xs lo hi) (cutV vs lo hi) := by
  unfold cutD cutV
  rw [r.len]
  exact (r.drop _).take _
def opSl (x : D) (lo hi : Option Int) (s : S) : R D := match x with
  | .tup xs => .ok (.tup (cutD xs lo hi)) s
  | .str z => if z.length ≤ LIM then .ok (.str (cutS z lo hi)) s else .bad
  | x => match asL s x with
    | some xs => .ok (.lst (cutD xs lo hi)) s
    | none => .bad
abbrev MO := Ev → S → R (Option Int)
def rdO (G : Cg) (W : WX) (m : MO) : TO := fun σ H Q => ∃ ι s ρ, Sim G ι H s ∧ EnvR G ι H σ ρ ∧ Post G W ι H (fun o _ H' _ => Q o H') (m ρ s)
abbrev VO (X : Cx) (W : WX) (e : Option Expr) (m : MO) : Prop := PO X e (rdO (cg X) W m)
def mNo : MO := fun _ s => .ok none s
def mPart (m : ME) : MO := fun ρ s => (m ρ s).bnd fun d s1 => match d with
  | .int i => .ok (some i) s1
  | _ => .bad
theorem po_imp {e : Option Expr} {t t' : TO} (h : PO X e t) (k : ∀ σ H Q, t' σ H Q → t σ H Q) : PO X e t' := ⟨fun pins s σ H Q I q => h.run pins s σ H Q I (k σ H Q q)⟩
theorem vo_no : VO X W none mNo := po_imp po_none fun σ H Q ⟨ι, s, ρ, q, e, h⟩ => h.here q
theorem vo_some {e : Expr} {m : ME} (h : VE X W e m) : VO X W (some e) (mPart m) := by
  refine po_imp (po_some h) fun σ H Q h => ?_
  obtain ⟨ι, s, ρ, q, e, h⟩ := h
  refine rdE_on q e h fun d v ι1 H1 s1 e1 q1 r1 h1 => ?_
  cases d with
  | int i => exact ⟨i, relI r1, h1.here q1⟩
  | _ => exact h1.elim
def mSl (m : ME) (lo hi : MO) : ME := fun ρ s => (m ρ s).bnd fun x s1 => (lo ρ s1).bnd fun l s2 => (hi ρ s2).bnd fun h s3 => opSl x l h s3
abbrev rSlU (K : PySem.W.Frag) : V → Option Int → Option Int → Hp → VK → Prop := fun x lo hi H Q => rSlA K x lo hi H Q ∨ rSlS x lo hi H Q ∨ rSlL K x lo hi H Q
theorem sl_any : SlR X (rSlU X.K) := sl_tupA.or (sl_str.or sl_list)
theorem v_sl {s : S} {x : D} {v : V} {lo hi : Option Int} {Q : VK} (q : Sim G ι H s) (r : RelD G ι H x v) (h : Post G W ι H (QE G Q) (opSl x lo hi s)) : rSlU G.K v lo hi H Q := by
  unfold opSl at h
  split at h
  · rename_i xs
    have r' := r
    simp only [RelD] at r
    obtain ⟨a, us, rfl, t, k⟩ := r
    refine .inl ⟨a, us, rfl, t.sq, fun hw => ?_, fun _ p hp => h.newT q (cut_rel k lo hi) hp⟩
    rw [k.len] at hw
    have e : cutD xs lo hi = xs := by
      unfold cutD
      rw [hw.1, hw.2, List.drop_zero, Nat.sub_zero, List.take_length]
    rw [e] at h
    exact h.val q r'
  · rename_i z
    split at h
    · rename_i hl
      exact .inr (.inl ⟨z, relS r, le_LIM hl, h.val q (by simp only [RelD])⟩)
    · exact h.elim
  · split at h
    · rename_i xs hx
      obtain ⟨a, vs, rfl, t, k⟩ := asL_at q r hx
      exact .inr (.inr ⟨a, vs, rfl, t, fun p hp => h.newL q (cut_rel k lo hi) hp⟩)
    · exact h.elim
theorem ve_sl {e : Expr} {lo hi : Option Expr} {m : ME} {ml mh : MO} {p2 pos : Pos} (he : VE X W e m) (hl : VO X W lo ml) (hh : VO X W hi mh) : VE X W (.Subscript e (.Slice lo hi none p2) pos) (mSl m ml mh) := by
  refine pe_imp (pe_slice sl_any he hl hh) fun σ H Q h => ?_
  obtain ⟨ι, s, ρ, q, e, h⟩ := h
  refine rdE_on q e h fun d v ι1 H1 s1 e1 q1 r1 h1 => ⟨ι1, s1, ρ, q1, e.mono e1, h1.bnd.imp fun l ι2 H2 s2 ⟨e2, q2, h2⟩ => ⟨ι2, s2, ρ, q2, (e.mono e1).mono e2, h2.bnd.imp fun u ι3 H3 s3 ⟨e3, q3, h3⟩ => ?_⟩⟩
  exact v_sl q3 ((r1.mono e2).mono e3) h3
end
end VL
namespace VL
open PySem PySem.Spec PyProof.Rows L2

/-! ### statements -/
def mSkip : MS := fun ρ s => .ok (.nx ρ) s
def mSeq (a b : MS) : MS := fun ρ s => (a ρ s).bnd fun fl s1 => match fl with
  | .nx ρ1 => b ρ1 s1
  | fl => .ok fl s1
def mRet (m : ME) : MS := fun ρ s => (m ρ s).bnd fun d s1 => .ok (.ret d) s1
def mRetN : MS := fun _ s => .ok (.ret .non) s
def mDrop (m : ME) : MS := fun ρ s => (m ρ s).bnd fun _ s1 => .ok (.nx ρ) s1
def mIfS (t : MT) (a b : MS) : MS := fun ρ s => (t ρ s).bnd fun k s1 => if k = true then a ρ s1 else b ρ s1
def mBad : MS := fun _ _ => .bad
def mBreak : MS := fun ρ s => .ok (.bk ρ) s
def mCont : MS := fun ρ s => .ok (.ct ρ) s
section
variable {X : Cx} {W : WX} {st : Stmt} {rest sts : List Stmt} {a b : MS} {e c : Expr} {m : ME} {t : MT} {pos : Pos}
theorem vss_nil : VSs X W [] mSkip := pss_imp pss_nil fun Dn σ H ⟨ι, s, ρ, q, e, h⟩ => h.here q σ e
theorem rd_seq {G : Cg} {Dn : Ends} {σ : L2.St} {H : Hp} (h : rdS G W (mSeq a b) Dn σ H) : rdS G W a { Dn with nx := rdS G W b Dn } σ H := by
  obtain ⟨ι, s, ρ, q, e, h⟩ := h
  refine ⟨ι, s, ρ, q, e, h.bnd.imp fun fl ι1 H1 s1 ⟨e1, q1, h1⟩ => ?_⟩
  cases fl with
  | nx ρ1 => exact fun σ' e' => ⟨ι1, s1, ρ1, q1, e', h1⟩
  | ret d => exact h1.here q1
  | bk ρ1 => exact h1.here q1
  | ct ρ1 => exact h1.here q1
theorem vss_cons (h1 : VS X W st a) (h2 : VSs X W rest b) : VSs X W (st :: rest) (mSeq a b) := pss_imp (pss_cons h1 h2) fun _ _ _ h => rd_seq h
theorem vss_one (h1 : VS X W st a) : VSs X W [st] a := pss_one h1
theorem vs_ret (h : VE X W e m) : VS X W (.Return (some e) pos) (mRet m) := by
  refine ps_imp (ps_ret h) fun Dn σ H h => ?_
  obtain ⟨ι, s, ρ, q, e, h⟩ := h
  exact rdE_on q e h fun d v ι1 H1 s1 e1 q1 r1 h1 => h1.here q1 v r1
theorem vs_expr (h : VE X W e m) (hs : swapsWith e none pos.line X.env = pure false := by rfl) : VS X W (.Expr e pos) (mDrop m) := by
  refine ps_imp (ps_expr h hs) fun Dn σ H h => ?_
  obtain ⟨ι, s, ρ, q, e, h⟩ := h
  exact rdE_on q e h fun d v ι1 H1 s1 e1 q1 r1 h1 => h1.here q1 σ (e.mono e1)
theorem vs_if (hc : VT X W c t) (h1 : VSs X W sts a) (h2 : VSs X W rest b) : VS X W (.If c sts rest pos) (mIfS t a b) := by
  refine ps_imp (ps_if hc h1 h2) fun Dn σ H h => ?_
  obtain ⟨ι, s, ρ, q, e, h⟩ := h
  refine rdT_on q e h fun k ι1 H1 s1 e1 q1 h1 => ?_
  cases k with
  | true => rw [if_pos rfl] at h1 ⊢; exact ⟨ι1, s1, ρ, q1, e.mono e1, h1⟩
  | false => rw [if_neg Bool.false_ne_true] at h1 ⊢; exact ⟨ι1, s1, ρ, q1, e.mono e1, h1⟩
theorem vs_never : VS X W st mBad := ps_imp ps_never fun Dn σ H ⟨ι, s, ρ, q, e, h⟩ => h.elim
end

/-! ### targets -/
abbrev MG := D → Ev → S → R Ev
abbrev MGs := List D → Ev → S → R Ev
def rdG (G : Cg) (W : WX) (m : MG) : TG := fun v σ H Q => ∃ ι s ρ d, Sim G ι H s ∧ EnvR G ι H σ ρ ∧ RelD G ι H d v ∧ Post G W ι H (fun ρ' ι' H' _ => ∀ σ', EnvR G ι' H' σ' ρ' → Q σ' H') (m d ρ s)
def rdGs (G : Cg) (W : WX) (m : MGs) : TGs := fun vs σ H Q => ∃ ι s ρ ds, Sim G ι H s ∧ EnvR G ι H σ ρ ∧ RelDs G ι H ds vs ∧ Post G W ι H (fun ρ' ι' H' _ => ∀ σ', EnvR G ι' H' σ' ρ' → Q σ' H') (m ds ρ s)
abbrev VG (X : Cx) (W : WX) (tg : Expr) (m : MG) : Prop := PG X tg (rdG (cg X) W m)
abbrev VGs (X : Cx) (W : WX) (tgs : List Expr) (m : MGs) : Prop := PGs X tgs (rdGs (cg X) W m)
theorem pg_imp {X : Cx} {e : Expr} {t t' : TG} (h : PG X e t) (k : ∀ v σ H Q, t' v σ H Q → t v σ H Q) : PG X e t' := ⟨fun pins s σ H v u Q I r q => h.run pins s σ H v u Q I r (k v σ H Q q)⟩
theorem pgs_imp {X : Cx} {e : List Expr} {t t' : TGs} (h : PGs X e t) (k : ∀ v σ H Q, t' v σ H Q → t v σ H Q) : PGs X e t' := ⟨fun pins s σ H v u Q I r q => h.run pins s σ H v u Q I r (k v σ H Q q)⟩
def gN (i : Nat) : MG := fun d ρ s => .ok (ρ.set i (some d)) s
def gNilM : MGs := fun ds ρ s => match ds with
  | [] => .ok ρ s
  | _ => .bad
def gConsM (g : MG) (gs : MGs) : MGs := fun ds ρ s => match ds with
  | d :: ds => (g d ρ s).bnd fun ρ1 s1 => gs ds ρ1 s1
  | [] => .bad
def gT (n : Nat) (gs : MGs) : MG := fun d ρ s => match d with
  | .tup ds => if ds.length = n then gs ds ρ s else .bad
  | _ => .bad
section
variable {X : Cx} {W : WX} {pos : Pos}
theorem vg_n (i : Nat) {x : Str} (hN : X.N.Nodup) (hi : X.N[i]? = some x := by rfl) (hx : Loc X.env.scope x := by first | exact Or.inl rfl | exact Or.inr rfl) (hf : X.fn x = true ∨ X.env.scope.names.lookup x = some .local := by first | exact .inl rfl | exact .inr rfl | assumption) : VG X W (.Name x pos) (gN i) :=
  pg_imp (pg_name hN hi hx hf) fun v σ H Q ⟨ι, s, ρ, d, q, e, r, h⟩ => h.here q _ (e.set r)
theorem vgs_nil : VGs X W [] gNilM := pgs_imp pgs_nil fun v σ H Q ⟨ι, s, ρ, d, q, e, r, h⟩ => by
  cases d with
  | nil => simp only [RelDs] at r; exact ⟨r, h.here q σ e⟩
  | cons d ds => exact h.elim
theorem vgs_cons {e : Expr} {es : List Expr} {g : MG} {gs : MGs} (h1 : VG X W e g) (h2 : VGs X W es gs) (hs : (assignEach (e :: es) X.env).map (·.2) = assign e X.env :: (assignEach es X.env).map (·.2) := by rfl) : VGs X W (e :: es) (gConsM g gs) :=
  pgs_imp (pgs_cons h1 h2 hs) fun vs σ H Q ⟨ι, s, ρ, ds, q, e, r, h⟩ => by
    cases ds with
    | nil => exact h.elim
    | cons d ds =>
      simp only [RelDs] at r
      obtain ⟨v, vr, rfl, r1, r2⟩ := r
      exact ⟨v, vr, rfl, ι, s, ρ, d, q, e, r1, h.bnd.imp fun ρ1 ι1 H1 s1 ⟨e1, q1, h1⟩ σ' e' => ⟨ι1, s1, ρ1, ds, q1, e', r2.mono e1, h1⟩⟩
theorem vg_t {es : List Expr} {k : Nat} {gs : MGs} (n : Nat) (h : VGs X W es gs) (hc : X.calm = true := by rfl) (hn : (assignEach es X.env).length = n := by rfl) (hst : (assignEach es X.env).findIdx? (·.1) = none := by rfl) : VG X W (.Tuple es k pos) (gT n gs) :=
  pg_imp (pg_tup hc h hn hst) fun v σ H Q ⟨ι, s, ρ, d, q, e, r, h⟩ => by
    unfold gT at h
    split at h
    · rename_i ds
      split at h
      · rename_i hl
        simp only [RelD] at r
        obtain ⟨a, xs, rfl, t, k⟩ := r
        exact ⟨a, xs, rfl, t.sq, by rw [k.len]; exact hl, ι, s, ρ, ds, q, e, k, h⟩
      · exact h.elim
    · exact h.elim
/-- xs[i] = v -/
def setIx (o i v : D) (s : S) : Option S := match o, i with
  | .obj n, .int k => (match s[n]? with
    | some (.lst ds) => (match ixN ds.length k with
      | some j => some (s.set n (.lst (ds.set j v)))
      | none => none)
    | _ => none)
  | _, _ => none
def gIx (mo mi : ME) : MG := fun d ρ s => (mo ρ s).bnd fun o s1 => (mi ρ s1).bnd fun i s2 => match setIx o i d s2 with
  | some s3 => .ok ρ s3
  | none => .bad
theorem vg_ix {o i : Expr} {mo mi : ME} (ho : VE X W o mo) (hi : VE X W i mi) (ha : ∀ v, assign (.Subscript o i pos) X.env v = (do
      let ov ← holding [v] (eval o X.env)
      let iv ← holding [v, ov] (eval i X.env)
      standAt pos
      holding [v, ov, iv] (setItem ov iv v)
      release [v, ov, iv] []) := by intro _; rfl) : VG X W (.Subscript o i pos) (gIx mo mi) :=
  pg_imp (pg_sub ho hi set_list ha) fun v σ H Q ⟨ι, s, ρ, d, q, e, r, h⟩ => by
    refine rdE_on q e h fun x w ι1 H1 s1 e1 q1 r1 h1 => rdE_on q1 (e.mono e1) h1 fun y u ι2 H2 s2 e2 q2 r2 h2 => ?_
    split at h2
    · rename_i s3 hs
      unfold setIx at hs
      split at hs
      · rename_i n k
        split at hs
        · rename_i ds hd
          split at hs
          · rename_i j hj
            cases hs
            obtain ⟨a, g1, g2, xs, g3, g4⟩ := q2.addr hd
            have r1' := r1.mono e2
            simp only [RelD] at r1'
            obtain ⟨b, rfl, eb⟩ := r1'
            rw [g1] at eb; cases eb
            refine ⟨a, xs, k, j, rfl, relI r2, g3, by rw [g4.len]; exact hj, ?_⟩
            refine h2 ι2 _ (.write g2 (nfix g3 rfl)) (q2.write g1 (nfix g3 rfl) ⟨_, upd_same, ?_⟩) σ (((e.mono e1).mono e2).mono (.write g2 (nfix g3 rfl)))
            exact RelDs.set ((((r.mono e1).mono e2)).mono (.write g2 (nfix g3 rfl))) j (g4.mono (.write g2 (nfix g3 rfl)))
          · cases hs
        · cases hs
      · cases hs
    · exact h2.elim
/-- target = value -/
def mAsg (m : ME) (g : MG) : MS := fun ρ s => (m ρ s).bnd fun d s1 => (g d ρ s1).bnd fun ρ1 s2 => .ok (.nx ρ1) s2
theorem rd_asg {m : ME} {g : MG} {tm : TE} (km : ∀ σ H Q, rdE (cg X) W m σ H Q → tm σ H Q) {Dn : Ends} {σ : L2.St} {H : Hp} (h : rdS (cg X) W (mAsg m g) Dn σ H) : tAsg tm (rdG (cg X) W g) Dn σ H := by
  obtain ⟨ι, s, ρ, q, e, h⟩ := h
  refine km _ _ _ (rdE_on q e h fun x v ι1 H1 s1 e1 q1 r1 h1 => ⟨ι1, s1, ρ, x, q1, e.mono e1, r1, h1.bnd.imp fun ρ2 ι2 H2 s2 ⟨e2, q2, h2⟩ σ' e' => h2.here q2 σ' e'⟩)
theorem vs_asg {tg e : Expr} {m : ME} {g : MG} (he : VE X W e m) (hg : VG X W tg g) (hs : swapsWithSole [tg] e pos.line X.env = pure false := by rfl) (hw : swappedStores [tg] e X.env = pure none := by rfl)
    (h1 : (assignEach [tg] X.env).map (·.2) = [assign tg X.env] := by rfl) : VS X W (.Assign [tg] e pos) (mAsg m g) :=
  ps_imp (ps_asg he hg hs hw h1) fun _ _ _ h => rd_asg (fun _ _ _ h => h) h
/-- a, b = e1, e2 -/
def mPar (i j : Nat) (ms : MA) : MS := fun ρ s => (ms ρ s).bnd fun ds s1 => match ds with
  | [x, y] => .ok (.nx ((ρ.set i (some x)).set j (some y))) s1
  | _ => .bad
def mPar3 (i j k : Nat) (ms : MA) : MS := fun ρ s => (ms ρ s).bnd fun ds s1 => match ds with
  | [x, y, z] => .ok (.nx (((ρ.set i (some x)).set j (some y)).set k (some z))) s1
  | _ => .bad
theorem vs_par {i j : Nat} {x y : Str} {a b : Expr} {ms : MA} {px py pt : Pos} {kt k2 pt2} (hN : X.N.Nodup) (ha : VA X W [a, b] ms) (hi : X.N[i]? = some x := by rfl) (hj : X.N[j]? = some y := by rfl) (hij : i ≠ j := by decide)
    (hx : X.env.scope.names.lookup x = some .local := by rfl) (hy : X.env.scope.names.lookup y = some .local := by rfl) (hc : X.calm = true := by rfl)
    (hw : swappedStores [.Tuple [.Name x px, .Name y py] kt pt] (.Tuple [a, b] k2 pt2) X.env = pure (some [x, y]) := by rfl)
    (hs : swapsWithSole [.Tuple [.Name x px, .Name y py] kt pt] (.Tuple [a, b] k2 pt2) pos.line X.env = pure false := by rfl) :
    VS X W (.Assign [.Tuple [.Name x px, .Name y py] kt pt] (.Tuple [a, b] k2 pt2) pos) (mPar i j ms) :=
  ps_imp (ps_par hc hN hi hj hij hx hy ha hw hs) fun Dn σ H ⟨ι, s, ρ, q, e, h⟩ => by
    refine rdA_on q e h fun xs vs ι1 H1 s1 e1 q1 r1 h1 => ?_
    split at h1
    · rename_i x y
      simp only [RelDs] at r1
      obtain ⟨v, _, rfl, r1, w, _, rfl, r2, rfl⟩ := r1
      exact ⟨v, w, rfl, h1.here q1 _ (((e.mono e1).set r1).set r2)⟩
    · exact h1.elim
end

/-! ### loops -/
inductive Src where
  | fix (xs : List D) | live (n : Nat) | enl (n : Nat)
def enumD (xs : List D) : List D := xs.zipIdx.map fun p => .tup [.int (p.2 : Nat), p.1]
def srcAt (s : S) : Src → Option (List D)
  | .fix xs => some xs
  | .live n => match s[n]? with
    | some (.lst ds) => some ds
    | _ => none
  | .enl n => match s[n]? with
    | some (.lst ds) => some (enumD ds)
    | _ => none
/-- the iterator gives the items, whatever has become of the heap -/
def ItOk (G : Cg) (ι₀ : Z) (H₀ : Hp) (src : Src) (J : It) : Prop := ∀ (ι : Z) (H : Hp) (s : S) (xs : List D), ExtW ι₀ H₀ ι H → Sim G ι H s → srcAt s src = some xs → ∀ i,
  (∀ d, xs[i]? = some d → J.go i H ∧ ∀ x H', J.yld i H x H' → Ext ι H ι H' ∧ (∀ a ∈ ι.ad, H' a = H a) ∧ RelD G ι H' d x) ∧ (xs.length ≤ i → J.stop i H)
theorem ItOk.mono {G : Cg} {ι H ι' H' src J} (e : ExtW ι H ι' H') (h : ItOk G ι H src J) : ItOk G ι' H' src J := fun ι2 H2 s xs e2 => h ι2 H2 s xs (e.trans e2)
abbrev MI := Ev → S → R Src
def rdI (G : Cg) (W : WX) (m : MI) : TI := fun σ H Rr => ∃ ι s ρ, Sim G ι H s ∧ EnvR G ι H σ ρ ∧ Post G W ι H (fun src ι' H' _ => ∀ J, ItOk G ι' H' src J → Rr J H') (m ρ s)
abbrev VI (X : Cx) (W : WX) (tg iter : Expr) (m : MI) : Prop := PI X tg iter (rdI (cg X) W m)
theorem pi_imp {X : Cx} {tg e : Expr} {t t' : TI} (h : PI X tg e t) (k : ∀ σ H Q, t' σ H Q → t σ H Q) : PI X tg e t' := ⟨fun pins s σ H Q I q => h.run pins s σ H Q I (k σ H Q q)⟩
/-- the rest of a loop: n turns are left, i are done -/
def mLoop (src : Src) (g : MG) (body : MS) : Nat → Nat → MS
  | 0, i, ρ, s => (match srcAt s src with
    | some xs => if xs.length = i then .ok (.nx ρ) s else .bad
    | none => .bad)
  | n + 1, i, ρ, s => (match srcAt s src with
    | some xs => (match xs[i]? with
      | some d => (g d ρ s).bnd fun ρ1 s1 => (body ρ1 s1).bnd fun fl s2 => match fl with
        | .nx ρ2 => mLoop src g body n (i + 1) ρ2 s2
        | .ct ρ2 => mLoop src g body n (i + 1) ρ2 s2
        | .bk ρ2 => .ok (.nx ρ2) s2
        | .ret d => .ok (.ret d) s2
      | none => .bad)
    | none => .bad)
def mFor (it : MI) (g : MG) (body : MS) : MS := fun ρ s => (it ρ s).bnd fun src s1 => match srcAt s1 src with
  | some xs => mLoop src g body xs.length 0 ρ s1
  | none => .bad
section
variable {X : Cx} {W : WX} {pos : Pos}
theorem vs_for {tg iter : Expr} {body : List Stmt} {it : MI} {g : MG} {b : MS} (hp : PassesOwn (model X.prog X.w) X.A X.env X.xe) (hi : VI X W tg iter it) (hg : VG X W tg g) (hb : VSs X W body b) (hc : X.calm = true := by rfl)
    (hs : ∀ x, foldedSetIterable iter X.env x = pure x := by intro _; rfl) : VS X W (.For tg iter body [] pos) (mFor it g b) := by
  refine ps_imp (ps_for hp hc hi hg hb hs) fun Dn σ H h => ?_
  obtain ⟨ι, s, ρ, q, e, h⟩ := h
  refine ⟨ι, s, ρ, q, e, h.bnd.imp fun src ι1 H1 s1 ⟨e1, q1, h1⟩ J hJ => ?_⟩
  split at h1
  · rename_i xs hx
    refine ⟨fun i m σ' H' => ∃ ι' s' ρ', Ext ι1 H1 ι' H' ∧ Sim (cg X) ι' H' s' ∧ EnvR (cg X) ι' H' σ' ρ' ∧ Post (cg X) W ι' H' (EndsP (cg X) Dn) (mLoop src g b m i ρ' s'),
      ⟨xs.length, ι1, s1, ρ, .refl _ _, q1, e.mono e1, h1⟩, fun i m σ' H' hW => ?_⟩
    obtain ⟨ι', s', ρ', x', q', e', p'⟩ := hW
    cases m with
    | zero =>
      simp only [mLoop] at p'
      split at p'
      · rename_i ys hy
        split at p'
        · rename_i hl
          exact .inl ⟨(hJ ι' H' s' ys x'.w q' hy i).2 (Nat.le_of_eq hl), p'.here q' σ' e'⟩
        · exact p'.elim
      · exact p'.elim
    | succ m =>
      simp only [mLoop] at p'
      split at p'
      · rename_i ys hy
        split at p'
        · rename_i d hd
          obtain ⟨go, yl⟩ := (hJ ι' H' s' ys x'.w q' hy i).1 d hd
          refine .inr ⟨go, fun σ2 H2 => ∃ ι2 s2 ρ2, Ext ι1 H1 ι2 H2 ∧ Sim (cg X) ι2 H2 s2 ∧ EnvR (cg X) ι2 H2 σ2 ρ2 ∧ Post (cg X) W ι2 H2 (EndsP (cg X) Dn) (mLoop src g b m (i + 1) ρ2 s2), fun σ2 H2 n2 => ⟨m, Nat.lt_succ_self m, n2⟩, fun x H2 hy2 => ?_⟩
          obtain ⟨y1, y2, y3⟩ := yl x H2 hy2
          have q2 : Sim (cg X) ι' H2 s' := q'.ext y1 y2
          refine ⟨ι', s', ρ', d, q2, e'.mono y1, y3, (p'.mono y1).bnd.imp fun ρ3 ι3 H3 s3 ⟨x3, q3, p3⟩ σ3 e3 => ⟨ι3, s3, ρ3, q3, e3, p3.bnd.imp fun fl ι4 H4 s4 ⟨x4, q4, p4⟩ => ?_⟩⟩
          cases fl with
          | nx ρ4 => exact fun σ4 e4 => ⟨ι4, s4, ρ4, ((x'.trans y1).trans x3).trans x4, q4, e4, p4⟩
          | ct ρ4 => exact fun σ4 e4 => ⟨ι4, s4, ρ4, ((x'.trans y1).trans x3).trans x4, q4, e4, p4⟩
          | bk ρ4 => exact fun σ4 e4 => p4.here q4 σ4 e4
          | ret d => exact p4.here q4
        · exact p'.elim
      · exact p'.elim
  · exact h1.elim
/-- while, at most n turns -/
def mWhile (t : MT) (body : MS) : Nat → MS
  | 0, _, _ => .bad
  | n + 1, ρ, s => (t ρ s).bnd fun k s1 => if k = true then (body ρ s1).bnd fun fl s2 => match fl with
      | .nx ρ2 => mWhile t body n ρ2 s2
      | .ct ρ2 => mWhile t body n ρ2 s2
      | .bk ρ2 => .ok (.nx ρ2) s2
      | .ret d => .ok (.ret d) s2
    else .ok (.nx ρ) s1
theorem vs_while {c : Expr} {body : List Stmt} {t : MT} {b : MS} (n : Nat) (hp : PassesOwn (model X.prog X.w) X.A X.env X.xe) (ht : VT X W c t) (hb : VSs X W body b) : VS X W (.While c body [] pos) (mWhile t b n) := by
  refine ps_imp (ps_while hp ht hb) fun Dn σ H h => ?_
  obtain ⟨ι, s, ρ, q, e, h⟩ := h
  refine ⟨fun m σ' H' => ∃ ι' s' ρ', Sim (cg X) ι' H' s' ∧ EnvR (cg X) ι' H' σ' ρ' ∧ Post (cg X) W ι' H' (EndsP (cg X) Dn) (mWhile t b m ρ' s'), ⟨n, ι, s, ρ, q, e, h⟩, fun m σ' H' hW => ?_⟩
  obtain ⟨ι', s', ρ', q', e', p'⟩ := hW
  cases m with
  | zero => exact p'.elim
  | succ m =>
    refine rdT_on q' e' p' fun k ι1 H1 s1 e1 q1 h1 => ?_
    cases k with
    | true =>
      rw [if_pos rfl] at h1
      refine ⟨fun σ2 H2 => ∃ ι2 s2 ρ2, Sim (cg X) ι2 H2 s2 ∧ EnvR (cg X) ι2 H2 σ2 ρ2 ∧ Post (cg X) W ι2 H2 (EndsP (cg X) Dn) (mWhile t b m ρ2 s2), fun σ2 H2 n2 => ⟨m, Nat.lt_succ_self m, n2⟩, ?_⟩
      refine ⟨ι1, s1, ρ', q1, e'.mono e1, h1.bnd.imp fun fl ι4 H4 s4 ⟨x4, q4, p4⟩ => ?_⟩
      cases fl with
      | nx ρ4 => exact fun σ4 e4 => ⟨ι4, s4, ρ4, q4, e4, p4⟩
      | ct ρ4 => exact fun σ4 e4 => ⟨ι4, s4, ρ4, q4, e4, p4⟩
      | bk ρ4 => exact fun σ4 e4 => p4.here q4 σ4 e4
      | ret d => exact p4.here q4
    | false =>
      rw [if_neg Bool.false_ne_true] at h1
      exact h1.here q1 σ' (e'.mono e1)
end
end VL
namespace VL
open PySem PySem.Spec PyProof.Rows L2

/-! ### what is walked -/
def mSrc (m : ME) : MI := fun ρ s => (m ρ s).bnd fun d s1 => match d with
  | .tup xs => .ok (.fix xs) s1
  | .lst xs => .ok (.fix xs) s1
  | .scr xs => .ok (.fix xs) s1
  | .tupF xs => .ok (.fix xs) s1
  | .obj n => (match s1[n]? with
    | some (.lst _) => .ok (.live n) s1
    | _ => .bad)
  | _ => .bad
section
variable {X : Cx} {W : WX}
theorem itok_tup {G : Cg} {ι H xs a vs} (t : TupAt G ι H a vs) (r : RelDs G ι H xs vs) : ItOk G ι H (.fix xs) (Itt G.K a) := fun ι1 H1 s ys e q hy i => by
  simp only [srcAt, Option.some.injEq] at hy
  subst hy
  have t1 := (t.monoW e).sq
  have r1 := RelDs.monoW e _ r
  refine ⟨fun d hd => ?_, fun hl => ⟨vs, t1, by rw [r1.len]; exact hl⟩⟩
  obtain ⟨v, hv, rv⟩ := r1.get hd
  refine ⟨⟨vs, v, t1, hv⟩, fun x H' hy => ?_⟩
  obtain ⟨rfl, hx⟩ := hy
  have := hx vs t1
  rw [hv] at this; cases this
  exact ⟨.refl _ _, fun _ _ => rfl, rv⟩
theorem itok_tupF {G : Cg} {ι H xs a vs} (t : TupF ι H a vs) (r : RelDs G ι H xs vs) : ItOk G ι H (.fix xs) (Itt G.K a) := fun ι1 H1 s ys e q hy i => by
  simp only [srcAt, Option.some.injEq] at hy
  subst hy
  have t1 : SqT G.K H1 a vs := (t.monoW e).sq
  have r1 := RelDs.monoW e _ r
  refine ⟨fun d hd => ?_, fun hl => ⟨vs, t1, by rw [r1.len]; exact hl⟩⟩
  obtain ⟨v, hv, rv⟩ := r1.get hd
  refine ⟨⟨vs, v, t1, hv⟩, fun x H' hy => ?_⟩
  obtain ⟨rfl, hx⟩ := hy
  have := hx vs t1
  rw [hv] at this; cases this
  exact ⟨.refl _ _, fun _ _ => rfl, rv⟩
theorem itok_sq {G : Cg} {ι H xs a vs} (t : ∀ ι' H', ExtW ι H ι' H' → SqL G.K H' a vs) (r : RelDs G ι H xs vs) : ItOk G ι H (.fix xs) (Itl G.K a) := fun ι1 H1 s ys e q hy i => by
  simp only [srcAt, Option.some.injEq] at hy
  subst hy
  have t1 := t _ _ e
  have r1 := RelDs.monoW e _ r
  refine ⟨fun d hd => ?_, fun hl => ⟨vs, t1, by rw [r1.len]; exact hl⟩⟩
  obtain ⟨v, hv, rv⟩ := r1.get hd
  refine ⟨⟨vs, v, t1, hv⟩, fun x H' hy => ?_⟩
  obtain ⟨rfl, hx⟩ := hy
  have := hx vs t1
  rw [hv] at this; cases this
  exact ⟨.refl _ _, fun _ _ => rfl, rv⟩
theorem itok_live {G : Cg} {ι H n a} (t : ι.ad[n]? = some a) : ItOk G ι H (.live n) (Itl G.K a) := fun ι1 H1 s ys e q hy i => by
  simp only [srcAt] at hy
  split at hy
  · rename_i ds hd
    cases hy
    obtain ⟨b, g1, g2, vs, g3, r1⟩ := q.addr hd
    rw [e.get _ _ t] at g1; cases g1
    have t1 : SqL G.K H1 a vs := .inl (.inl g3)
    refine ⟨fun d hd => ?_, fun hl => ⟨vs, t1, by rw [r1.len]; exact hl⟩⟩
    obtain ⟨v, hv, rv⟩ := r1.get hd
    refine ⟨⟨vs, v, t1, hv⟩, fun x H' hy => ?_⟩
    obtain ⟨rfl, hx⟩ := hy
    have := hx vs t1
    rw [hv] at this; cases this
    exact ⟨.refl _ _, fun _ _ => rfl, rv⟩
  · cases hy
theorem pi_or {tg e : Expr} {t t' : TI} (h : PI X tg e t) (h' : PI X tg e t') : PI X tg e (fun σ H Rr => t σ H Rr ∨ t' σ H Rr) :=
  ⟨fun pins s σ H Q I q => q.elim (fun q => h.run pins s σ H Q I q) fun q => h'.run pins s σ H Q I q⟩
theorem vi_seq {tg e : Expr} {m : ME} (h : VE X W e m) : VI X W tg e (mSrc m) :=
  pi_imp (pi_or (pi_list h) (pi_tup h)) fun σ H Rr ⟨ι, s, ρ, q, e, h⟩ => by
    unfold mSrc at h
    cases hm : m ρ s with
    | bad => rw [hm] at h; exact h.elim
    | exn c fs ρ' s' =>
      rw [hm] at h
      refine .inl ⟨ι, s, ρ, q, e, ?_⟩
      rw [hm]
      exact h
    | ok d s' =>
      rw [hm] at h
      cases d with
      | tup xs =>
        refine .inr ⟨ι, s, ρ, q, e, ?_⟩
        rw [hm]
        intro ι1 H1 e1 q1 v r
        have h1 := h ι1 H1 e1 q1
        simp only [RelD] at r
        obtain ⟨a, vs, rfl, t, k⟩ := r
        exact ⟨a, rfl, ⟨vs, t.sq⟩, h1 _ (itok_tup t k)⟩
      | tupF xs =>
        refine .inr ⟨ι, s, ρ, q, e, ?_⟩
        rw [hm]
        intro ι1 H1 e1 q1 v r
        have h1 := h ι1 H1 e1 q1
        simp only [RelD] at r
        obtain ⟨a, vs, rfl, t, k⟩ := r
        exact ⟨a, rfl, ⟨vs, t.sq⟩, h1 _ (itok_tupF t k)⟩
      | lst xs =>
        refine .inl ⟨ι, s, ρ, q, e, ?_⟩
        rw [hm]
        intro ι1 H1 e1 q1 v r
        have h1 := h ι1 H1 e1 q1
        simp only [RelD] at r
        obtain ⟨a, vs, rfl, t, k⟩ := r
        exact ⟨a, rfl, ⟨vs, .inl (.inl t.2)⟩, h1 _ (itok_sq (fun ι' H' e => .inl (.inl (t.monoW e).2)) k)⟩
      | scr xs =>
        refine .inl ⟨ι, s, ρ, q, e, ?_⟩
        rw [hm]
        intro ι1 H1 e1 q1 v r
        have h1 := h ι1 H1 e1 q1
        simp only [RelD] at r
        obtain ⟨a, vs, rfl, t, k⟩ := r
        exact ⟨a, rfl, ⟨vs, t.sq⟩, h1 _ (itok_sq (fun ι' H' e => (t.monoW e).sq) k)⟩
      | obj n =>
        simp only [R.bnd_ok] at h
        split at h
        · rename_i ds hd
          refine .inl ⟨ι, s, ρ, q, e, ?_⟩
          rw [hm]
          intro ι1 H1 e1 q1 v r
          have h1 := h ι1 H1 e1 q1
          simp only [RelD] at r
          obtain ⟨a, rfl, ha⟩ := r
          obtain ⟨b, g1, g2, vs, g3, r1⟩ := q1.addr hd
          rw [ha] at g1; cases g1
          exact ⟨a, rfl, ⟨vs, .inl (.inl g3)⟩, h1 _ (itok_live ha)⟩
        · exact h.elim
      | _ => exact h.elim
def rngD (lo : Int) (n : Nat) : List D := (List.range n).map fun k => .int (lo + (k : Nat))
theorem rngD_get {lo : Int} {n i : Nat} {d : D} (h : (rngD lo n)[i]? = some d) : i < n ∧ d = .int (lo + (i : Nat)) := by
  unfold rngD at h
  rw [List.getElem?_map] at h
  obtain ⟨k, h1, h2⟩ := Option.map_eq_some_iff.mp h
  obtain ⟨h3, h4⟩ := List.getElem?_eq_some_iff.mp h1
  rw [List.getElem_range] at h4
  subst h4
  exact ⟨by simpa using h3, h2.symm⟩
theorem rngD_len {lo : Int} {n : Nat} : (rngD lo n).length = n := by unfold rngD; simp
theorem itok_rng {G : Cg} {ι H lo n} : ItOk G ι H (.fix (rngD lo n)) (Itr lo n) := fun ι1 H1 s ys e q hy i => by
  simp only [srcAt, Option.some.injEq] at hy
  subst hy
  refine ⟨fun d hd => ?_, fun hl => by rw [rngD_len] at hl; exact hl⟩
  obtain ⟨h1, rfl⟩ := rngD_get hd
  refine ⟨h1, fun x H' hy => ?_⟩
  obtain ⟨rfl, rfl⟩ := hy
  exact ⟨.refl _ _, fun _ _ => rfl, by simp only [RelD]⟩
def inR (j : Int) : Prop := -(2 ^ 62) ≤ j ∧ j < 2 ^ 62
noncomputable instance (j : Int) : Decidable (inR j) := Classical.propDecidable _
noncomputable def mRng1 (ms : MA) : MI := fun ρ s => (ms ρ s).bnd fun ds s1 => match ds with
  | [.int j] => if inR j then .ok (.fix (rngD 0 j.toNat)) s1 else .bad
  | _ => .bad
noncomputable def mRng2 (ms : MA) : MI := fun ρ s => (ms ρ s).bnd fun ds s1 => match ds with
  | [.int i, .int j] => if inR i ∧ inR j then .ok (.fix (rngD i (j - i).toNat)) s1 else .bad
  | _ => .bad
theorem vi_rng1 {tg a : Expr} {ms : MA} {p pos : Pos} (hg : Gl X "range") (hm : X.mg "range" = none) (ha : VA X W [a] ms) (hs : starEach [a] X.env = [(false, eval a X.env)] := by rfl) : VI X W tg (.Call (.Name "range" p) [a] [] pos) (mRng1 ms) :=
  pi_imp (pi_range1 hg hm ha hs) fun σ H Rr ⟨ι, s, ρ, q, e, h⟩ => by
    refine rdA_on q e h fun ds vs ι1 H1 s1 e1 q1 r1 h1 => ?_
    split at h1
    · rename_i j
      split at h1
      · rename_i hj
        simp only [RelDs, RelD] at r1
        obtain ⟨v, _, rfl, rfl, rfl⟩ := r1
        exact ⟨j, rfl, hj.1, hj.2, h1.here q1 _ itok_rng⟩
      · exact h1.elim
    · exact h1.elim
end

/-! ### comprehensions -/
inductive Tg where
  | one (i : Nat) | many (is : List Nat)
def Tg.slots : Tg → List Nat
  | .one i => [i]
  | .many is => is
def gsL : List Nat → TGs
  | [] => gNil
  | i :: is => gCons (gName i) (gsL is)
def tgL (K : PySem.W.Frag) : Tg → TG
  | .one i => gName i
  | .many is => gTup K is.length (gsL is)
def setAll : List Nat → List D → Ev → Ev
  | i :: is, d :: ds, ρ => setAll is ds (ρ.set i (some d))
  | _, _, ρ => ρ
def tgM : Tg → D → Ev → Option Ev
  | .one i, d, ρ => some (ρ.set i (some d))
  | .many is, .tup ds, ρ => if ds.length = is.length then some (setAll is ds ρ) else none
  | .many _, _, _ => none
theorem wipe_get {i : Nat} : ∀ (vs : List Nat) (σ : L2.St), (wipe σ vs)[i]? = if i ∈ vs ∧ i < σ.length then some none else σ[i]?
  | [], σ => by simp [wipe]
  | v :: vs, σ => by
    unfold wipe
    by_cases hv : i = v
    · subst hv
      rw [List.getElem?_set]
      simp only [if_true, wipe_length, List.mem_cons, true_or, true_and]
      by_cases hl : i < σ.length
      · rw [if_pos hl, if_pos hl]
      · rw [if_neg hl, if_neg hl, List.getElem?_eq_none (by omega)]
    · rw [List.getElem?_set_ne (Ne.symm hv), wipe_get vs σ]
      simp [hv]
theorem wipe_set {σ : L2.St} {vs : List Nat} {i : Nat} {x : Option V} (h : i ∈ vs) : wipe (σ.set i x) vs = wipe σ vs := by
  apply List.ext_getElem?
  intro k
  rw [wipe_get, wipe_get, List.length_set]
  by_cases hk : k ∈ vs ∧ k < σ.length
  · rw [if_pos hk, if_pos hk]
  · rw [if_neg hk, if_neg hk]
    by_cases e : i = k
    · subst e
      have : ¬ i < σ.length := fun z => hk ⟨h, z⟩
      rw [List.getElem?_eq_none (by simpa using this), List.getElem?_eq_none (by omega)]
    · rw [List.getElem?_set_ne e]
theorem wipe_wipe {σ : L2.St} {vs : List Nat} : wipe (wipe σ vs) vs = wipe σ vs := by
  apply List.ext_getElem?
  intro k
  rw [wipe_get, wipe_length, wipe_get]
  by_cases hk : k ∈ vs ∧ k < σ.length
  · simp only [if_pos hk]
  · simp only [if_neg hk]
def wipeD (ρ : Ev) : List Nat → Ev
  | [] => ρ
  | v :: vs => (wipeD ρ vs).set v none
theorem EnvR.wipe {G ι H σ ρ} (e : EnvR G ι H σ ρ) : ∀ vs : List Nat, EnvR G ι H (wipe σ vs) (wipeD ρ vs)
  | [] => e
  | v :: vs => by
    unfold wipeD L2.wipe
    exact (e.wipe vs).unset
theorem gsL_ok {G : Cg} {ι H} {Q : L2.St → Hp → Prop} {vs : List Nat} : ∀ {is : List Nat} {ds : List D} {xs : List V} {σ : L2.St} {ρ : Ev}, EnvR G ι H σ ρ → RelDs G ι H ds xs → ds.length = is.length → (∀ i ∈ is, i ∈ vs) →
    (∀ σ', EnvR G ι H σ' (setAll is ds ρ) → L2.wipe σ' vs = L2.wipe σ vs → Q σ' H) → gsL is xs σ H Q
  | [], ds, xs, σ, ρ, e, r, hl, hs, k => by
    have : ds = [] := List.length_eq_zero_iff.mp hl
    subst this
    simp only [RelDs] at r
    exact ⟨r, k σ e rfl⟩
  | i :: is, [], xs, σ, ρ, e, r, hl, hs, k => by simp at hl
  | i :: is, d :: ds, xs, σ, ρ, e, r, hl, hs, k => by
    simp only [RelDs] at r
    obtain ⟨v, ws, rfl, r1, r2⟩ := r
    refine ⟨v, ws, rfl, ?_⟩
    show gsL is ws (σ.set i (some v)) H Q
    refine gsL_ok (e.set r1) r2 (by simpa using hl) (fun j hj => hs j (List.mem_cons_of_mem _ hj)) fun σ' e' w => k σ' e' ?_
    rw [w, wipe_set (hs i (List.mem_cons_self ..))]
theorem tgL_ok {G : Cg} {ι H} {Q : L2.St → Hp → Prop} {vs : List Nat} {t : Tg} {d : D} {v : V} {σ : L2.St} {ρ ρ' : Ev} (e : EnvR G ι H σ ρ) (r : RelD G ι H d v) (h : tgM t d ρ = some ρ') (hs : ∀ i ∈ t.slots, i ∈ vs)
    (k : ∀ σ', EnvR G ι H σ' ρ' → L2.wipe σ' vs = L2.wipe σ vs → Q σ' H) : tgL G.K t v σ H Q := by
  cases t with
  | one i =>
    simp only [tgM, Option.some.injEq] at h
    subst h
    exact k _ (e.set r) (wipe_set (hs i (by simp [Tg.slots])))
  | many is =>
    unfold tgM at h
    split at h
    · rename_i he
      cases he
    · rename_i ds _ he
      cases he
      split at h
      · rename_i hl
        cases h
        simp only [RelD] at r
        obtain ⟨a, xs, rfl, t, k1⟩ := r
        exact ⟨a, xs, rfl, t.sq, by rw [k1.len]; exact hl, gsL_ok e k1 hl hs k⟩
      · cases h
    · cases h
/-- nothing is raised -/
def noX {α : Type} (r : R α) : R α := match r with
  | .ok a s => .ok a s
  | _ => .bad
def W0 : WX := fun _ _ _ _ => False
theorem Post.noX {α β : Type} {G : Cg} {W : WX} {ι H} {r : R α} {f : α → S → R β} {P : β → Z → Hp → S → Prop} (h : Post G W ι H P ((VL.noX r).bnd f)) :
    Post G W0 ι H (fun a ι' H' s => Ext ι H ι' H' ∧ Sim G ι' H' s ∧ Post G W ι' H' P (f a s)) r := by
  cases r with
  | ok a s => exact fun ι' H' e q => ⟨e, q, Post.mono e h⟩
  | exn c fs ρ s => exact h.elim
  | bad => exact h
def mYes : MT := fun _ s => .ok true s
def mLcGo (src : Src) (t : Tg) (tt : MT) (el : ME) (ρw : Ev) : Nat → Nat → List D → S → R (List D)
  | 0, i, acc, s => (match srcAt s src with
    | some xs => if xs.length = i then .ok acc s else .bad
    | none => .bad)
  | n + 1, i, acc, s => (match srcAt s src with
    | some xs => (match xs[i]? with
      | some d => (match tgM t d ρw with
        | some ρ1 => (noX (tt ρ1 s)).bnd fun k s1 => if k = true then (noX (el ρ1 s1)).bnd fun y s2 => mLcGo src t tt el ρw n (i + 1) (acc ++ [y]) s2 else mLcGo src t tt el ρw n (i + 1) acc s1
        | none => .bad)
      | none => .bad)
    | none => .bad)
def mLc0 (it : MI) (t : Tg) (tt : MT) (el : ME) (vs : List Nat) : MA := fun ρ s => (it ρ s).bnd fun src s1 => match srcAt s1 src with
  | some xs => if xs.length ≤ LIM ∧ (∀ i ∈ t.slots, i ∈ vs) then mLcGo src t tt el (wipeD ρ vs) xs.length 0 [] s1 else .bad
  | none => .bad
def mLcF (fin : List D → S → R D) (it : MI) (t : Tg) (tt : MT) (el : ME) (vs : List Nat) : ME := fun ρ s => (mLc0 it t tt el vs ρ s).bnd fin
def finL : List D → S → R D := fun xs s => .ok (.lst xs) s
def finO : List D → S → R D := fun xs s => .ok (.obj s.length) (s ++ [.lst xs])
abbrev mLc := mLcF finL
abbrev mLcO := mLcF finO
theorem noX_bnd {α β : Type} {G : Cg} {W : WX} {ι H} {r : R α} {f : α → S → R β} {P : β → Z → Hp → S → Prop} (h : Post G W ι H P ((VL.noX r).bnd f)) : ∃ a s, r = .ok a s ∧ Post G W ι H P (f a s) := by
  cases r with
  | ok a s => exact ⟨a, s, rfl, h⟩
  | exn c fs ρ s => exact h.elim
  | bad => exact h.elim
theorem bnd_assoc {α β γ : Type} (r : R α) (f : α → S → R β) (g : β → S → R γ) : (r.bnd f).bnd g = r.bnd fun a s => (f a s).bnd g := by cases r <;> rfl
structure LcI (G : Cg) (ι1 : Z) (H1 : Hp) (p : Addr) (ι' : Z) (H' : Hp) (s' : S) : Prop where
  w : ExtW ι1 H1 ι' H'
  x : Ext ι1 H1 ⟨ι'.ad, ι1.res⟩ H'
  q : Sim G ι' H' s'
  r : ι'.res = p :: ι1.res
section
variable {G : Cg} {ι1 ι' : Z} {H1 H' : Hp} {p : Addr} {s1 s' : S}
theorem LcI.start (q : Sim G ι1 H1 s1) (h : H1 p = none) {o : HO} (hf : fixO o = false := by rfl) : LcI G ι1 H1 p (ι1.keep p) (upd H1 p o) s1 :=
  ⟨Ext.toKeep q h, Ext.new (ι := ι1) h, q.toKeep h hf, rfl⟩
theorem LcI.step (I : LcI G ι1 H1 p ι' H' s') {ι2 H2 s2} (e : Ext ι' H' ι2 H2) (q : Sim G ι2 H2 s2) : LcI G ι1 H1 p ι2 H2 s2 := by
  refine ⟨I.w.trans e.w, ?_, q, e.res.trans I.r⟩
  have : Ext ⟨ι'.ad, ι1.res⟩ H' ⟨ι2.ad, ι1.res⟩ H2 := ⟨e.more, rfl, e.keep, e.dom, e.fix⟩
  exact I.x.trans this
theorem LcI.write (I : LcI G ι1 H1 p ι' H' s') (h : H1 p = none) {o : HO} (hf : fixO o = false := by rfl) : LcI G ι1 H1 p ι' (upd H' p o) s' := by
  have hm : p ∈ ι'.res := by rw [I.r]; exact List.mem_cons_self ..
  have np := I.q.rs p hm
  refine ⟨I.w.trans (.inKeep hm (I.q.rsn hm)), ⟨I.x.more, I.x.res, fun a u n tb k => ?_, fun a k => ?_, fun a u n k => ?_⟩, I.q.inKeep hm hf, I.r⟩
  · rw [upd_ne (ne_of_none k h)]; exact I.x.keep a u n tb k
  · by_cases e : a = p
    · subst e; rw [upd_same]; simp
    · rw [upd_ne e]; exact I.x.dom a k
  · rw [upd_ne (ne_of_none k h)]; exact I.x.fix a u n k
end
def FinOk (G : Cg) (W : WX) (fin : List D → S → R D) : Prop := ∀ (ι1 : Z) (H1 : Hp) (p : Addr) (ι' : Z) (H' : Hp) (s' : S) (xs : List D) (vs : List V) (Q : VK), LcI G ι1 H1 p ι' H' s' → RelDs G ι' H' xs vs → H' p = some (.lst vs) → p ∉ ι1.res →
  Post G W ι1 H1 (QE G Q) (fin xs s') → Q (.ref p) H'
theorem finL_ok {G : Cg} {W : WX} : FinOk G W finL := fun ι1 H1 p ι' H' s' xs vs Q I r hp hn h => by
  refine h _ H' I.x (I.q.ofKeep I.r) _ ?_
  simp only [RelD]
  exact ⟨p, vs, rfl, ⟨⟨(I.q.rs p (by rw [I.r]; exact List.mem_cons_self ..)).2, hn⟩, hp⟩, RelDs.monoW (.ofKeep I.r) _ r⟩
section
variable {X : Cx} {W : WX}
theorem rd_lc {G : Cg} {fin : List D → S → R D} (hf : FinOk G W fin) {it : MI} {t : Tg} {tt : MT} {el : ME} {vs : List Nat} {tI : TI} (kI : ∀ σ H Rr, rdI G W it σ H Rr → tI σ H Rr) {σ : L2.St} {H : Hp} {Q : VK} (h : rdE G W (mLcF fin it t tt el vs) σ H Q) :
    tLc tI (tgL G.K t) (rdT G W0 tt) (rdE G W0 el) vs σ H Q := by
  obtain ⟨ι, s, ρ, q, e, h⟩ := h
  unfold mLcF mLc0 at h
  rw [bnd_assoc] at h
  refine kI _ _ _ ⟨ι, s, ρ, q, e, h.bnd.imp fun src ι1 H1 s1 ⟨e1, q1, h1⟩ J hJ p hp => ?_⟩
  split at h1
  · rename_i xs hx
    split at h1
    · rename_i hl
      have ew : EnvR G (ι1.keep p) (upd H1 p (.lst [])) (L2.wipe σ vs) (wipeD ρ vs) := ((e.mono e1).wipe vs).monoW (Ext.toKeep q1 hp)
      have npr : p ∉ ι1.res := (q1.off hp).2
      refine ⟨fun i m H' => ∃ ι' s' acc av, LcI G ι1 H1 p ι' H' s' ∧ EnvR G ι' H' (L2.wipe σ vs) (wipeD ρ vs) ∧ RelDs G ι' H' acc av ∧ H' p = some (.lst av) ∧ acc.length ≤ i ∧ i + m ≤ LIM ∧
        Post G W ι1 H1 (QE G Q) ((mLcGo src t tt el (wipeD ρ vs) m i acc s').bnd fin),
        ⟨xs.length, ι1.keep p, s1, [], [], .start q1 hp, ew, .nil, upd_same, Nat.le_refl _, by rw [Nat.zero_add]; exact hl.1, h1⟩, fun i m H' hW => ?_⟩
      obtain ⟨ι', s', acc, av, I, e', ra, hpa, hle, hlim, h'⟩ := hW
      cases m with
      | zero =>
        simp only [mLcGo] at h'
        split at h'
        · rename_i ys hy
          split at h'
          · rename_i hyl
            exact .inl ⟨(hJ ι' H' s' ys I.w I.q hy i).2 (Nat.le_of_eq hyl), hf ι1 H1 p ι' H' s' acc av Q I ra hpa npr h'⟩
          · exact h'.elim
        · exact h'.elim
      | succ m =>
        simp only [mLcGo] at h'
        split at h'
        · rename_i ys hy
          split at h'
          · rename_i d hd
            split at h'
            · rename_i ρ1 hρ
              rw [bnd_assoc] at h'
              obtain ⟨k, s2, hk, h2⟩ := noX_bnd h'
              obtain ⟨go, yl⟩ := (hJ ι' H' s' ys I.w I.q hy i).1 d hd
              refine .inr ⟨go, fun H2 => ∃ ι' s' acc av, LcI G ι1 H1 p ι' H2 s' ∧ EnvR G ι' H2 (L2.wipe σ vs) (wipeD ρ vs) ∧ RelDs G ι' H2 acc av ∧ H2 p = some (.lst av) ∧ acc.length ≤ i + 1 ∧ (i + 1) + m ≤ LIM ∧
                Post G W ι1 H1 (QE G Q) ((mLcGo src t tt el (wipeD ρ vs) m (i + 1) acc s').bnd fin), fun H2 n2 => ⟨m, Nat.lt_succ_self m, n2⟩, fun x H2 hy2 => ?_⟩
              obtain ⟨y1, y2, y3⟩ := yl x H2 hy2
              have I2 : LcI G ι1 H1 p ι' H2 s' := I.step y1 (I.q.ext y1 y2)
              have np : p ∉ ι'.ad := (I.q.rs p (by rw [I.r]; exact List.mem_cons_self ..)).2
              have hp2 : H2 p = some (.lst av) := y1.keep p _ np rfl hpa
              refine tgL_ok (vs := vs) (e'.mono y1) y3 hρ hl.2 fun σ3 e3 w3 => ⟨by rw [w3, wipe_wipe], ι', s', ρ1, I2.q, e3, ?_⟩
              rw [hk]
              intro ι3 H3 x3 q3
              have I3 := I2.step x3 q3
              have hp3 : H3 p = some (.lst av) := x3.keep p _ np rfl hp2
              cases k with
              | false =>
                rw [if_neg Bool.false_ne_true] at h2
                refine L2.iteF ?_
                exact ⟨ι3, s2, acc, av, I3, (e'.mono y1).mono x3, (ra.mono y1).mono x3, hp3, by omega, by omega, h2⟩
              | true =>
                rw [if_pos rfl] at h2
                refine L2.iteT ?_
                rw [bnd_assoc] at h2
                obtain ⟨y, s4, hy4, h4⟩ := noX_bnd h2
                refine ⟨ι3, s2, ρ1, q3, e3.mono x3, ?_⟩
                rw [hy4]
                intro ι4 H4 x4 q4 v rv
                have I4 := I3.step x4 q4
                have np3 : p ∉ ι3.ad := (I3.q.rs p (by rw [I3.r]; exact List.mem_cons_self ..)).2
                have hp4 : H4 p = some (.lst av) := x4.keep p _ np3 rfl hp3
                have ra4 := ((ra.mono y1).mono x3).mono x4
                refine ⟨av, hp4, by rw [ra4.len]; exact lt_LIM (by omega), ?_⟩
                have hm4 : p ∈ ι4.res := by rw [I4.r]; exact List.mem_cons_self ..
                refine ⟨ι4, s4, acc ++ [y], av ++ [v], I4.write hp, (((e'.mono y1).mono x3).mono x4).monoW (.inKeep hm4 (I4.q.rsn hm4)), ?_, upd_same, by simp; omega, by omega, h4⟩
                exact RelDs.monoW (.inKeep hm4 (I4.q.rsn hm4)) _ (ra4.app (.one rv))
            · exact h'.elim
          · exact h'.elim
        · exact h'.elim
    · exact h1.elim
  · exact h1.elim
/-- a comprehension's block -/
theorem ve_lcF {fin : List D → S → R D} (hf : FinOk (cg X) W fin) {elt tg iter : Expr} {ifs : List Expr} {scope : Scope} {own : List (Str × Nat)} {pos : Pos} {it : MI} {t : Tg} {tt : MT} {el : ME} (hN : X.N.Nodup) (hi : VI X W tg iter it)
    (ok : BlkOk X.N X.env.scope scope own) (hg : ∀ (s : Shared) (H : Hp) (C : Addr) (cl : List (Str × Addr)) (fp : List Addr), PG (X.blk s H scope (compEnvC scope cl C X.env) fp) tg (tgL X.K t))
    (ht : ∀ (s : Shared) (H : Hp) (C : Addr) (cl : List (Str × Addr)) (fp : List Addr), PTs (X.blk s H scope (compEnvC scope cl C X.env) fp) ifs (rdT (cg X) W0 tt))
    (he : ∀ (s : Shared) (H : Hp) (C : Addr) (cl : List (Str × Addr)) (fp : List Addr), PE (X.blk s H scope (compEnvC scope cl C X.env) fp) elt (rdE (cg X) W0 el)) (hc : X.calm = true := by rfl) (hs : ∀ x, foldedSetIterable iter X.env x = pure x := by intro _; rfl) :
    VE X W (.ListComp elt [⟨tg, iter, ifs, 0⟩] scope pos) (mLcF fin it t tt el (own.map (·.2))) :=
  pe_imp (pe_lc hc hN hi ok hg ht he hs) fun _ _ _ h => rd_lc hf (fun _ _ _ h => h) h
theorem vs_setLcF {fin : List D → S → R D} (hf : FinOk (cg X) W fin) {i : Nat} {y : Str} {py : Pos} {elt tg iter : Expr} {ifs : List Expr} {scope : Scope} {own : List (Str × Nat)} {pos spos : Pos} {it : MI} {t : Tg} {tt : MT} {el : ME} (hN : X.N.Nodup) (hi : VI X W tg iter it)
    (ok : BlkOk X.N X.env.scope scope own) (hg : ∀ (s : Shared) (H : Hp) (C : Addr) (cl : List (Str × Addr)) (fp : List Addr), PG (X.blk s H scope (compEnvC scope cl C X.env) fp) tg (tgL X.K t))
    (ht : ∀ (s : Shared) (H : Hp) (C : Addr) (cl : List (Str × Addr)) (fp : List Addr), PTs (X.blk s H scope (compEnvC scope cl C X.env) fp) ifs (rdT (cg X) W0 tt))
    (he : ∀ (s : Shared) (H : Hp) (C : Addr) (cl : List (Str × Addr)) (fp : List Addr), PE (X.blk s H scope (compEnvC scope cl C X.env) fp) elt (rdE (cg X) W0 el))
    (hsw : swapsWith (.ListComp elt [⟨tg, iter, ifs, 0⟩] scope pos) (some (.Name y py)) spos.line X.env = pure true)
    (hy : X.N[i]? = some y := by rfl) (hyl : X.env.scope.names.lookup y = some .local := by rfl) (hc : X.calm = true := by rfl) (hs : ∀ x, foldedSetIterable iter X.env x = pure x := by intro _; rfl) :
    VS X W (.Assign [.Name y py] (.ListComp elt [⟨tg, iter, ifs, 0⟩] scope pos) spos) (mAsg (mLcF fin it t tt el (own.map (·.2))) (gN i)) :=
  ps_imp (ps_setLc hc hN hy hyl hsw hi ok hg ht he hs) fun Dn σ H h => by
    obtain ⟨ι, s, ρ, q, e, h⟩ := h
    refine rd_lc hf (fun _ _ _ h => h) (Q := fun x H1 => gName i x σ H1 Dn.nx) (rdE_on q e h fun d v ι1 H1 s1 e1 q1 r1 h1 => ?_)
    exact h1.here q1 _ ((e.mono e1).set r1)
end
end VL
namespace VL
open PySem PySem.Spec PyProof.Rows L2

/-! ### defs: what they promise, where no repr runs around -/
structure RoomG (k : Nat) (A : Around) : Prop where
  r : Room k A
  g : A.guards = some []
theorem RoomG.mono {j k : Nat} {A : Around} (r : RoomG k A) (h : j ≤ k) : RoomG j A := ⟨r.r.mono h, r.g⟩
structure FnG (P : Program) (w : World) (K : PySem.W.Frag) (mg : Str → Option Value) (base : Heap) (k : Nat) (f : Addr) (fd : FuncData) (ps : List Str) (sp : Sp) : Prop where
  len : ∀ vs H Q E, sp vs H Q E → vs.length = ps.length
  run : ∀ (A : Around) (outer : List Env) (st : Shared) (H : Hp) (args : Args) (us : List Value) (vs : List V) (Q : VK) (E : XK), RoomG k A → Env0 P w K mg base A outer st H → BindsTo st fd args (ps.zip us) → Vals vs us → sp vs H Q E →
    codeAny (model P w) A (.call (.ref f) args) (CR (L2.CX P w) outer P w H st Q E) st
def WD (E : XK) : WX := fun c d _ H => E c d H
abbrev FM := List D → S → R D
def spG (G : Cg) (n : Nat) (m : FM) : Sp := fun vs H Q E => ∃ ι s ds, vs.length = n ∧ Sim G ι H s ∧ RelDs G ι H ds vs ∧ Post G (WD E) ι H (QE G Q) (m ds s)
/-- a def's body as a function -/
def initE (N : Nat) (ds : List D) : Ev := ds.map some ++ List.replicate (N - ds.length) none
def mFn (N : Nat) (body : MS) : FM := fun ds s => match body (initE N ds) s with
  | .ok (.nx _) s1 => .ok .non s1
  | .ok (.ret d) s1 => .ok d s1
  | .ok _ _ => .bad
  | .exn c fs _ s1 => .exn c fs [] s1
  | .bad => .bad
theorem start_get {N : List Str} {vs : List V} {i : Nat} {v : V} (h : vs[i]? = some v) : (L2.start N vs)[i]? = some (some v) := by
  unfold L2.start
  have hl := (List.getElem?_eq_some_iff.mp h).1
  rw [List.getElem?_append_left (by simpa using hl), List.getElem?_map, h]; rfl
theorem envR_start {G : Cg} {ι H} {N : List Str} {ds : List D} {vs : List V} (r : RelDs G ι H ds vs) : EnvR G ι H (L2.start N vs) (initE N.length ds) := by
  refine ⟨by simp [L2.start, initE, r.len], fun i d h => ?_⟩
  unfold initE at h
  by_cases hi : i < ds.length
  · rw [List.getElem?_append_left (by simpa using hi), List.getElem?_map] at h
    cases hd : ds[i]? with
    | none => rw [hd] at h; cases h
    | some e =>
      rw [hd] at h
      cases h
      obtain ⟨v, h1, h2⟩ := r.get hd
      exact ⟨v, start_get h1, h2⟩
  · rw [List.getElem?_append_right (by simpa using hi), List.getElem?_replicate] at h
    split at h <;> cases h
section
variable {P : Program} {w : World} {K : PySem.W.Frag} {mg : Str → Option Value} {base : Heap}
theorem fnG {x qual : Str} {params : Arguments} {body : List Stmt} {scope : Scope} {f : Addr} {fd : FuncData} {N ps : List Str} {k : Nat} {b : MS} (F : FunD K x qual params body scope [] [] f fd) (C : FnScope N ps scope)
    (hbody : ∀ (cdv : Value) (A : Around) (outer : List Env) (st : Shared) (H : Hp) (E : XK), RoomG k (A.deeper (envOfC qual scope st.heap.objs.size f cdv)) →
      PassesOwn (model P w) (A.deeper (envOfC qual scope st.heap.objs.size f cdv)) (envOfC qual scope st.heap.objs.size f cdv) (cxOf (L2.CX P w) P w K mg base N qual scope f cdv A outer st H E).xe →
      Takes (cxOf (L2.CX P w) P w K mg base N qual scope f cdv A outer st H E) (WD E) → VSs (cxOf (L2.CX P w) P w K mg base N qual scope f cdv A outer st H E) (WD E) body b) : FnG P w K mg base (k + 1) f fd ps (spG ⟨K, mg⟩ ps.length (mFn N.length b)) := by
  obtain ⟨oc, od, dV, kV, doc, pm, an, cdv, ct, osl, rfl, lk, hcd, hD, hK⟩ := F.ex
  refine ⟨fun vs H Q E ⟨ι, s, ds, h, _⟩ => h, fun A outer st H args us vs Q E hr e0 hb r hsp => ?_⟩
  have hl : vs.length = ps.length := hsp.choose_spec.choose_spec.choose_spec.1
  have kh : K.In st.heap := e0.mod.kin.keeps fun b o e => (e0.bs b o e).1
  have nl : st.heap.NoLimit := e0.mod.nolimit.keeps fun b o e => (e0.bs b o e).1
  refine codeAny_call_function hr.r.depth (kh _ _ lk) rfl C.co C.gen rfl (PySem.W.codeRec_of kh hcd) (hb _ _ _ _ ?_)
  refine wpAny_newFunctionEnv_cells C.kind (fun y hy => ?_) fun env he s1 x1 => ?_
  · obtain ⟨n, v⟩ := y
    rcases C.par n (List.of_mem_zip hy).1 with q | q
    · exact .inl q
    · exact .inr ⟨q, PySem.W.cellsFrom_some _ _ _ (.inl q)⟩
  · subst he
    refine ⟨nl.keeps x1.toInCall.keep, codeAny_func ?_⟩
    have I : Inv (cxOf (L2.CX P w) P w K mg base N qual scope f cdv A outer st H E) [] (L2.start N vs) H s1 := inv_start C hr.r.hd e0 hl r x1
    obtain ⟨ι, s, ds, _, q, rd, hp⟩ := hsp
    have hq : rdS ⟨K, mg⟩ (WD E) b { nx := fun _ H' => Q .non H', rt := Q } (L2.start N vs) H := by
      refine ⟨ι, s, initE N.length ds, q, envR_start rd, ?_⟩
      unfold mFn at hp
      cases hb : b (initE N.length ds) s with
      | ok fl s' =>
        rw [hb] at hp
        cases fl with
        | nx ρ => exact fun ι' H' e q σ _ => hp ι' H' e q .non (by simp only [RelD])
        | ret d => exact fun ι' H' e q v r => hp ι' H' e q v r
        | bk ρ => exact hp.elim
        | ct ρ => exact hp.elim
      | exn c fs ρ s' =>
        rw [hb] at hp
        exact fun ι' H' C dx σ e q hC hD _ => hp ι' H' C dx [] e q hC hD ⟨rfl, fun i d h => by simp at h⟩
      | bad => rw [hb] at hp; exact hp.elim
    have fin : ∀ {s' : Shared} {σ' : L2.St} {H' : Hp} {v : V} {u : Value}, Inv (cxOf (L2.CX P w) P w K mg base N qual scope f cdv A outer st H E) [] σ' H' s' → RelV v u → Q v H' → CE outer P w H st Q u s' :=
      fun {s' σ' H' v u} J rv q => ⟨v, H', J.os, J.bare, J.base, J.hok, rv, q⟩
    have room : RoomG k (A.deeper (envOfC qual scope st.heap.objs.size f cdv)) := ⟨hr.r.deeper _, hr.g⟩
    refine wpAny_mono ((hbody cdv A outer st H E room (passes_of (X := cxOf (L2.CX P w) P w K mg base N qual scope f cdv A outer st H E) rfl) (takes_of rfl rfl rfl rfl)).run [] s1 (L2.start N vs) H _ I hq) (fun fl s' hs => ?_) fun e s' hs => hs
    cases fl with
    | ret u => obtain ⟨v, σ', H', J, rv, q⟩ := hs; exact fin J rv q
    | next => obtain ⟨σ', H', J, q⟩ := hs; exact fin (v := V.non) (u := Value.none) J rfl q
    | brk => obtain ⟨_, _, _, q⟩ := hs; exact q.elim
    | cont => obtain ⟨_, _, _, q⟩ := hs; exact q.elim
end
/-- a def that may be called by its name -/
structure Cl (P : Program) (w : World) (K : PySem.W.Frag) (mg : Str → Option Value) (base : Heap) (k : Nat) (x : Str) (n : Nat) (m : FM) : Prop where
  ex : ∃ (f : Addr) (fd : FuncData) (ps : List Str), FnG P w K mg base k f fd ps (spG ⟨K, mg⟩ n m) ∧ mg x = some (.ref f) ∧ PySem.W.keepIn K (.ref f) = true ∧ Binds K fd ps []
/-- what it hands on to a caller -/
def retag (ρ : Ev) : R D → R D
  | .exn c fs _ s => .exn c fs ρ s
  | r => r
def mUser (m : FM) (ms : MA) : ME := fun ρ s => (ms ρ s).bnd fun ds s1 => retag ρ (m ds s1)
section
variable {X : Cx} {W : WX} {k j n : Nat} {x : Str} {p pos : Pos} {e : Expr} {es : List Expr} {ms : MA} {m : FM}
theorem runG {f : Addr} {fd : FuncData} {ps : List Str} {sp : Sp} {E : XK} {pins : List (Addr × Obj)} {σ : L2.St} {H : Hp} {st : Shared} {Q : VK} {us : List Value} {vs : List V} (F : FnG X.prog X.w X.K X.mg X.base k f fd ps sp) (hr : RoomG k X.A)
    (hb : Binds X.K fd ps []) (hx : PassesAt (L2.CX X.prog X.w) X σ E) (I : Inv X pins σ H st) (r : Vals vs us) (h : sp vs H Q E) : wpAny (model X.prog X.w) X.A (call (.ref f) us) (EP X pins σ Q) X.xe st := by
  have hl : us.length = ps.length := by rw [← r.length]; exact F.len _ _ _ _ h
  have hbt := hb st us I.kIn (by rw [List.append_nil]; exact hl)
  rw [List.append_nil] at hbt
  refine wpAny_call (codeAny_mono (F.run X.A X.stack st H ⟨us, []⟩ us vs Q E hr I.env0 hbt r h) fun rr s' hq => ?_)
  cases rr with
  | error e => exact hx pins H st e s' I hq
  | ok fl => cases fl with
    | ret u => exact I.after hq
    | next => exact hq.elim
    | brk => exact hq.elim
    | cont => exact hq.elim
/-- the promise from a caller's result -/
theorem spG_of {G : Cg} {ι H s ds vs Q σ ρ} (hn : vs.length = n) (q : Sim G ι H s) (r : RelDs G ι H ds vs) (e : EnvR G ι H σ ρ) (h : Post G W ι H (QE G Q) (retag ρ (m ds s))) : spG G n m vs H Q (WE W σ) := by
  refine ⟨ι, s, ds, hn, q, r, ?_⟩
  cases hm : m ds s with
  | ok d s1 => rw [hm] at h; exact h
  | bad => rw [hm] at h; exact h
  | exn c fs ρ' s1 =>
    rw [hm] at h
    exact fun ι' H' C dx σ' x' q' hC hD _ => h ι' H' C dx σ x' q' hC hD (e.mono x')
theorem ve_user (c : Cl X.prog X.w X.K X.mg X.base k x n m) (tk : Takes X W) (hr : RoomG j X.A) (hk : k ≤ j) (hg : Gl X x) (ha : VA X W (e :: es) ms) (hlen : ∀ ρ s ds s', ms ρ s = .ok ds s' → ds.length = n) (hdb : (x == ("__debug__" : Str)) = false := by decide)
    (he : starEach (e :: es) X.env = (false, eval e X.env) :: starEach es X.env := by rfl) (hpl : (backTo pos (starEach es X.env)).any (·.1) = false := by rfl) : VE X W (.Call (.Name x p) (e :: es) [] pos) (mUser m ms) := by
  obtain ⟨f, fd, ps, F, gf, kp, bd⟩ := c.ex
  refine ⟨fun pins st σ H Q I h => ?_⟩
  obtain ⟨ι, s, ρ, q, en, h⟩ := h
  refine wpAny_Call_Name_kw (ld_glob I hg gf ?_ hdb)
  have hA : rdA (cg X) W ms σ H fun vs H1 => spG (cg X) n m vs H1 Q (WE W σ) := by
    refine ⟨ι, s, ρ, q, en, ?_⟩
    have h2 := Post.bnd h
    cases hm : ms ρ s with
    | bad => rw [hm] at h2; exact h2
    | exn c fs ρ' s1 => rw [hm] at h2; exact h2
    | ok ds s1 =>
      rw [hm] at h2
      intro ι1 H1 e1 q1 vs r1
      obtain ⟨_, _, h3⟩ := h2 ι1 H1 e1 q1
      exact spG_of (by rw [r1.len]; exact hlen ρ s ds s1 hm) q1 r1 (en.mono e1) h3
  refine PySem.W.callWith_K (h₀ := X.base) I.ok.mod.kin kp (thn (ha.run pos pins st σ H _ I hA) fun us s1 ⟨vs, H1, I1, r, q1⟩ => ⟨I1.kIn, ?_⟩) he hpl
  exact runG F (hr.mono hk) bd (passAt tk σ) I1 r q1
theorem len_nil {ρ s ds s'} (h : mNil ρ s = .ok ds s') : ds.length = 0 := by cases h; rfl
theorem len_cons {m : ME} {ms : MA} {n : Nat} (k : ∀ ρ s ds s', ms ρ s = .ok ds s' → ds.length = n) : ∀ ρ s ds s', mCons m ms ρ s = .ok ds s' → ds.length = n + 1 := by
  intro ρ s ds s' h
  unfold mCons at h
  cases h1 : m ρ s with
  | ok d s1 =>
    rw [h1] at h
    simp only [R.bnd_ok] at h
    cases h2 : ms ρ s1 with
    | ok es s2 => rw [h2] at h; cases h; simp [k _ _ _ _ h2]
    | exn c fs ρ' s2 => rw [h2] at h; cases h
    | bad => rw [h2] at h; cases h
  | exn c fs ρ' s2 => rw [h1] at h; cases h
  | bad => rw [h1] at h; cases h
/-- where nothing is let out (a comprehension's block) -/
theorem takes_W0 {X : Cx} : Takes X W0 := fun u s' h => by
  obtain ⟨_, _, _, _, _, _, _, _, _, _, _, _, _, _, _, _, z⟩ := h
  exact z.elim
end
end VL
namespace VL
open PySem PySem.Spec PyProof.Rows L2

/-! ### built-ins -/
def fLen : FA := fun xs s => match xs with
  | [.tup ds] => .ok (.int (ds.length : Nat)) s
  | [.tupF ds] => .ok (.int (ds.length : Nat)) s
  | [.str z] => if z.length ≤ LIM then .ok (.int (z.length : Nat)) s else .bad
  | [x] => (match asL s x with
    | some ds => .ok (.int (ds.length : Nat)) s
    | none => .bad)
  | _ => .bad
def fMax2 : FA := fun xs s => match xs with
  | [.int i, .int j] => .ok (.int (if j > i then j else i)) s
  | _ => .bad
def fMin2 : FA := fun xs s => match xs with
  | [.int i, .int j] => .ok (.int (if j < i then j else i)) s
  | _ => .bad
def toI : List D → Option (List Int)
  | [] => some []
  | .int i :: ds => (toI ds).map (i :: ·)
  | _ => none
def toB : List D → Option (List Bool)
  | [] => some []
  | .bl i :: ds => (toB ds).map (i :: ·)
  | _ => none
def fSum : FA := fun xs s => match xs with
  | [x] => (match (asL s x).bind toI with
    | some ns => .ok (.int ns.sum) s
    | none => .bad)
  | _ => .bad
def fAll : FA := fun xs s => match xs with
  | [x] => (match (asL s x).bind toB with
    | some bs => .ok (.bl (bs.all id)) s
    | none => .bad)
  | _ => .bad
def fAny : FA := fun xs s => match xs with
  | [x] => (match (asL s x).bind toB with
    | some bs => .ok (.bl (bs.any id)) s
    | none => .bad)
  | _ => .bad
def fTuple : FA := fun xs s => match xs with
  | [.tup ds] => .ok (.tup ds) s
  | [x] => (match asL s x with
    | some ds => .ok (.tup ds) s
    | none => .bad)
  | _ => .bad
def fList : FA := fun xs s => match xs with
  | [.tup ds] => .ok (.lst ds) s
  | [x] => (match asL s x with
    | some ds => .ok (.lst ds) s
    | none => .bad)
  | _ => .bad
def fListO : FA := fun xs s => match xs with
  | [.tup ds] => .ok (.obj s.length) (s ++ [.lst ds])
  | [x] => (match asL s x with
    | some ds => .ok (.obj s.length) (s ++ [.lst ds])
    | none => .bad)
  | _ => .bad
def isort (ns : List Int) : List Int := ns.mergeSort (fun a b => decide (a ≤ b))
def fSorted : FA := fun xs s => match xs with
  | [x] => (match (asL s x).bind toI with
    | some ns => .ok (.lst ((isort ns).map .int)) s
    | none => .bad)
  | _ => .bad
def fRepr : FA := fun xs s => match xs with
  | [x] => (match toPyS s x with
    | some p => if p.showable = true ∧ p.shown.length ≤ sizeLine ∧ p.hasDict = false ∧ p.depth ≤ 60 then .ok (.str p.shown) s else .bad
    | none => .bad)
  | _ => .bad
/-! isinstance: the type's name of plain data -/
def tyOf (s : S) : D → Option String
  | .non => some "NoneType"
  | .bl _ => some "bool"
  | .int _ => some "int"
  | .str _ => some "str"
  | .tup _ => some "tuple"
  | .tupF _ => some "tuple"
  | .lst _ => some "list"
  | .obj n => (match s[n]? with
    | some (.lst _) => some "list"
    | some (.dct _) => some "dict"
    | some (.dctT _) => some "dict"
    | _ => none)
  | _ => none
def isT (T t : String) : Bool := t == T || (t == "bool" && T == "int")
def fIsi : FA := fun xs s => match xs with
  | [x, .ty T] => if T = "int" ∨ T = "bool" ∨ T = "tuple" ∨ T = "str" then (match tyOf s x with
    | some t => .ok (.bl (isT T t)) s
    | none => .bad) else .bad
  | _ => .bad
section
variable {G : Cg} {W : WX} {X : Cx} {ι : Z} {H : Hp}
theorem rel1 {x : D} {vs : List V} (r : RelDs G ι H [x] vs) : ∃ v, vs = [v] ∧ RelD G ι H x v := by
  simp only [RelDs] at r
  obtain ⟨v, _, rfl, r1, rfl⟩ := r
  exact ⟨v, rfl, r1⟩
theorem rel2 {x y : D} {vs : List V} (r : RelDs G ι H [x, y] vs) : ∃ v u, vs = [v, u] ∧ RelD G ι H x v ∧ RelD G ι H y u := by
  simp only [RelDs] at r
  obtain ⟨v, _, rfl, r1, u, _, rfl, r2, rfl⟩ := r
  exact ⟨v, u, rfl, r1, r2⟩
theorem relTup {ds : List D} {v : V} (r : RelD G ι H (.tup ds) v) : ∃ a xs, v = .ref a ∧ SqT G.K H a xs ∧ RelDs G ι H ds xs := by
  simp only [RelD] at r
  obtain ⟨a, xs, h1, h2, h3⟩ := r
  exact ⟨a, xs, h1, h2.sq, h3⟩
abbrev rLenA (K : PySem.W.Frag) : List V → Hp → VK → Prop := fun xs H Q => (∃ p ys, xs = [.ref p] ∧ (SqL K H p ys ∨ SqT K H p ys) ∧ Q (.int ys.length) H) ∨ (∃ z, xs = [.str z] ∧ z.length ≤ sizeLine ∧ Q (.int z.length) H)
theorem c_len : CallR X (.builtin "len") (rLenA X.K) := call_len_seq.or call_len_str
theorem v_len : CallV G W (rLenA G.K) fLen := fun ι H s xs vs Q q r h => by
  unfold fLen at h
  split at h
  · rename_i ds
    obtain ⟨v, rfl, r1⟩ := rel1 r
    obtain ⟨a, ys, rfl, t, k⟩ := relTup r1
    exact .inl ⟨a, ys, rfl, .inr t, by rw [k.len]; exact h.val q (ri _)⟩
  · rename_i ds
    obtain ⟨v, rfl, r1⟩ := rel1 r
    simp only [RelD] at r1
    obtain ⟨a, ys, rfl, t, k⟩ := r1
    exact .inl ⟨a, ys, rfl, .inr t.sq, by rw [k.len]; exact h.val q (ri _)⟩
  · rename_i z
    split at h
    · rename_i hl
      obtain ⟨v, rfl, r1⟩ := rel1 r
      exact .inr ⟨z, by rw [relS r1], le_LIM hl, h.val q (ri _)⟩
    · exact h.elim
  · rename_i x _ _ _
    split at h
    · rename_i ds hd
      obtain ⟨v, rfl, r1⟩ := rel1 r
      obtain ⟨a, ys, rfl, t, k⟩ := asL_at q r1 hd
      exact .inl ⟨a, ys, rfl, .inl t, by rw [k.len]; exact h.val q (ri _)⟩
    · exact h.elim
  · exact h.elim
theorem v_max2 : CallV G W (fun xs H Q => ∃ i j, xs = [.int i, .int j] ∧ Q (.int (if j > i then j else i)) H) fMax2 := fun ι H s xs vs Q q r h => by
  unfold fMax2 at h
  split at h
  · rename_i i j
    obtain ⟨v, u, rfl, r1, r2⟩ := rel2 r
    exact ⟨i, j, by rw [relI r1, relI r2], h.val q (ri _)⟩
  · exact h.elim
theorem v_min2 : CallV G W (fun xs H Q => ∃ i j, xs = [.int i, .int j] ∧ Q (.int (if j < i then j else i)) H) fMin2 := fun ι H s xs vs Q q r h => by
  unfold fMin2 at h
  split at h
  · rename_i i j
    obtain ⟨v, u, rfl, r1, r2⟩ := rel2 r
    exact ⟨i, j, by rw [relI r1, relI r2], h.val q (ri _)⟩
  · exact h.elim
theorem toI_rel : ∀ {ds : List D} {ns : List Int} {vs : List V}, toI ds = some ns → RelDs G ι H ds vs → vs = ns.map V.int
  | [], ns, vs, h, r => by simp only [toI, Option.some.injEq] at h; subst h; simp only [RelDs] at r; exact r
  | d :: ds, ns, vs, h, r => by
    cases d with
    | int i =>
      simp only [toI] at h
      obtain ⟨ms, h1, rfl⟩ := Option.map_eq_some_iff.mp h
      simp only [RelDs] at r
      obtain ⟨v, ws, rfl, r1, r2⟩ := r
      rw [relI r1, toI_rel h1 r2]; rfl
    | _ => simp [toI] at h
theorem toB_rel : ∀ {ds : List D} {ns : List Bool} {vs : List V}, toB ds = some ns → RelDs G ι H ds vs → vs = ns.map V.bl
  | [], ns, vs, h, r => by simp only [toB, Option.some.injEq] at h; subst h; simp only [RelDs] at r; exact r
  | d :: ds, ns, vs, h, r => by
    cases d with
    | bl i =>
      simp only [toB] at h
      obtain ⟨ms, h1, rfl⟩ := Option.map_eq_some_iff.mp h
      simp only [RelDs] at r
      obtain ⟨v, ws, rfl, r1, r2⟩ := r
      rw [relB r1, toB_rel h1 r2]; rfl
    | _ => simp [toB] at h
theorem seqI {s : S} {x : D} {v : V} {ns : List Int} (q : Sim G ι H s) (r : RelD G ι H x v) (h : (asL s x).bind toI = some ns) : ∃ a, v = .ref a ∧ SqL G.K H a (ns.map V.int) := by
  obtain ⟨ds, h1, h2⟩ := Option.bind_eq_some_iff.mp h
  obtain ⟨a, ys, rfl, t, k⟩ := asL_at q r h1
  rw [toI_rel h2 k] at t
  exact ⟨a, rfl, t⟩
theorem seqB {s : S} {x : D} {v : V} {ns : List Bool} (q : Sim G ι H s) (r : RelD G ι H x v) (h : (asL s x).bind toB = some ns) : ∃ a, v = .ref a ∧ SqL G.K H a (ns.map V.bl) := by
  obtain ⟨ds, h1, h2⟩ := Option.bind_eq_some_iff.mp h
  obtain ⟨a, ys, rfl, t, k⟩ := asL_at q r h1
  rw [toB_rel h2 k] at t
  exact ⟨a, rfl, t⟩
theorem v_sum : CallV G W (rSum G.K) fSum := fun ι H s xs vs Q q r h => by
  unfold fSum at h
  split at h
  · split at h
    · rename_i ns hn
      obtain ⟨v, rfl, r1⟩ := rel1 r
      obtain ⟨a, rfl, t⟩ := seqI q r1 hn
      exact ⟨a, ns, rfl, t, h.val q (ri _)⟩
    · exact h.elim
  · exact h.elim
theorem v_all : CallV G W (rAll G.K) fAll := fun ι H s xs vs Q q r h => by
  unfold fAll at h
  split at h
  · split at h
    · rename_i ns hn
      obtain ⟨v, rfl, r1⟩ := rel1 r
      obtain ⟨a, rfl, t⟩ := seqB q r1 hn
      exact ⟨a, ns, rfl, t, h.val q (rb _)⟩
    · exact h.elim
  · exact h.elim
theorem v_tuple : CallV G W (fun xs H Q => ∃ p ys, xs = [.ref p] ∧ ((SqL G.K H p ys ∧ ∀ l, H l = none → Q (.ref l) (upd H l (.tup ys))) ∨ (SqT G.K H p ys ∧ Q (.ref p) H))) fTuple := fun ι H s xs vs Q q r h => by
  unfold fTuple at h
  split at h
  · rename_i ds
    obtain ⟨v, rfl, r1⟩ := rel1 r
    obtain ⟨a, ys, e, t, k⟩ := relTup r1
    exact ⟨a, ys, by rw [e], .inr ⟨t, by rw [← e]; exact h.val q r1⟩⟩
  · split at h
    · rename_i ds hd
      obtain ⟨v, rfl, r1⟩ := rel1 r
      obtain ⟨a, ys, rfl, t, k⟩ := asL_at q r1 hd
      exact ⟨a, ys, rfl, .inl ⟨t, fun p hp => h.newT q k hp⟩⟩
    · exact h.elim
  · exact h.elim
abbrev rListA (K : PySem.W.Frag) : List V → Hp → VK → Prop := fun xs H Q => ∃ p ys, xs = [.ref p] ∧ (SqL K H p ys ∨ SqT K H p ys) ∧ ∀ l, H l = none → Q (.ref l) (upd H l (.lst ys))
theorem v_list : CallV G W (rListA G.K) fList := fun ι H s xs vs Q q r h => by
  unfold fList at h
  split at h
  · rename_i ds
    obtain ⟨v, rfl, r1⟩ := rel1 r
    obtain ⟨a, ys, rfl, t, k⟩ := relTup r1
    exact ⟨a, ys, rfl, .inr t, fun p hp => h.newL q k hp⟩
  · split at h
    · rename_i ds hd
      obtain ⟨v, rfl, r1⟩ := rel1 r
      obtain ⟨a, ys, rfl, t, k⟩ := asL_at q r1 hd
      exact ⟨a, ys, rfl, .inl t, fun p hp => h.newL q k hp⟩
    · exact h.elim
  · exact h.elim
theorem isort_perm (ns : List Int) : (isort ns).Perm ns := List.mergeSort_perm ..
theorem isort_pw (ns : List Int) : (isort ns).Pairwise (· ≤ ·) := by
  have := List.pairwise_mergeSort (le := fun a b : Int => decide (a ≤ b)) (fun a b c h1 h2 => by simp at h1 h2 ⊢; omega) (fun a b => by simp; omega) ns
  exact this.imp fun h => by simpa using h
theorem isort_of {ns ms : List Int} (p : ms.Perm ns) (w : ms.Pairwise (· ≤ ·)) : ms = isort ns :=
  (p.trans (isort_perm ns).symm).eq_of_pairwise (fun a b _ _ h1 h2 => by omega) w (isort_pw ns)
theorem v_sorted : CallV G W (rSortedI G.K) fSorted := fun ι H s xs vs Q q r h => by
  unfold fSorted at h
  split at h
  · split at h
    · rename_i ns hn
      obtain ⟨v, rfl, r1⟩ := rel1 r
      obtain ⟨a, rfl, t⟩ := seqI q r1 hn
      exact ⟨a, ns, rfl, t, fun ms p pm pw hp => by rw [isort_of pm pw]; exact h.newL q RelDs.ofInts hp⟩
    · exact h.elim
  · exact h.elim
/-! repr of data -/
def rReprD (K : PySem.W.Frag) : List V → Hp → VK → Prop := fun xs H Q => ∃ x p, xs = [x] ∧ Dp K H x p ∧ p.showable = true ∧ p.shown.length ≤ sizeLine ∧ p.hasDict = false ∧ p.depth ≤ 60 ∧ Q (.str p.shown) H
theorem c_repr (hg : X.A.guards = some []) (hu : X.A.units + 64 < cLine) : CallR X (.builtin "repr") (rReprD X.K) := by
  intro pins st σ H xs us Q I r h
  obtain ⟨x, p, rfl, hp, hs, hz, hd, hdp, k⟩ := h
  obtain ⟨u, rfl, ru⟩ := vals1 r
  obtain ⟨as, hr⟩ := Dp.reads I p x u hp ru
  have fin : ∀ (h' : Heap) (t : Tok) (tk : Nat), (∀ b o, st.heap.get? b = some o → h'.get? b = some o) → EP X pins σ Q (.str p.shown t) { st with heap := h', toks := tk } := fun h' t tk hk => ⟨.str p.shown, H, I.kept hk, ⟨t, rfl⟩, k⟩
  cases x with
  | ref a =>
    obtain rfl : u = Value.ref a := ru
    exact repr_of_reads' hr hs (fun z => by rw [hd] at z; cases z) hg (by omega) (fun _ _ e => e) (fun h' u tk hk => fin h' u tk hk) hz
  | non =>
    cases hp
    obtain rfl : u = Value.none := ru
    exact PySem.P.repr_of_none (fin st.heap _ _ fun _ _ e => e)
  | bl b =>
    cases hp
    obtain rfl : u = Value.bool b := ru
    have := fin st.heap st.toks (st.toks + 1) fun _ _ e => e
    simp only [PyData.shown] at this
    exact PySem.P.repr_of_bool this
  | int i =>
    cases hp
    obtain ⟨t, rfl⟩ := ru
    have := fin st.heap st.toks (st.toks + 1) fun _ _ e => e
    simp only [PyData.shown] at this
    exact PySem.P.repr_of_int (by simpa [PyData.showable] using hs) this
  | str z =>
    cases hp
    obtain ⟨t, rfl⟩ := ru
    have := fin st.heap st.toks (st.toks + 1) fun _ _ e => e
    simp only [PyData.shown] at this
    exact PySem.P.repr_of_str this (by simpa only [PyData.shown] using hz)
  | _ => cases hp
theorem v_repr : CallV G W (rReprD G.K) fRepr := fun ι H s xs vs Q q r h => by
  unfold fRepr at h
  split at h
  · split at h
    · rename_i p hp
      split at h
      · rename_i hc
        obtain ⟨v, rfl, r1⟩ := rel1 r
        exact ⟨v, p, rfl, dp_ofS q r1 hp, hc.1, hc.2.1, hc.2.2.1, hc.2.2.2, h.val q (by simp only [RelD])⟩
      · exact h.elim
    · exact h.elim
  · exact h.elim
theorem kit_all {K : PySem.W.Frag} {T t : String} (hT : T = "int" ∨ T = "bool" ∨ T = "tuple" ∨ T = "str") (ht : t = "NoneType" ∨ t = "bool" ∨ t = "int" ∨ t = "str" ∨ t = "tuple" ∨ t = "list" ∨ t = "dict") : PySem.W.kitOne K (.type t) (.type T) = some (isT T t) := by
  rcases hT with rfl | rfl | rfl | rfl <;> rcases ht with rfl | rfl | rfl | rfl | rfl | rfl | rfl <;> exact kit_ty (by decide +kernel)
theorem v_isi : CallV G W (rIsi G.K) fIsi := fun ι H s xs vs Q q r h => by
  unfold fIsi at h
  split at h
  · rename_i x T
    split at h
    · rename_i hT
      split at h
      · rename_i t ht
        obtain ⟨v, u, rfl, r1, r2⟩ := rel2 r
        have eu : u = .ty T := by simpa only [RelD] using r2
        subst eu
        have key : (t = "NoneType" ∨ t = "bool" ∨ t = "int" ∨ t = "str" ∨ t = "tuple" ∨ t = "list" ∨ t = "dict") ∧ TyX G.K H v (.type t) := by
          cases x with
          | non => cases ht; rw [relN r1]; exact ⟨.inl rfl, .base .non⟩
          | bl b => cases ht; rw [relB r1]; exact ⟨.inr (.inl rfl), .base (.bl b)⟩
          | int b => cases ht; rw [relI r1]; exact ⟨.inr (.inr (.inl rfl)), .base (.int b)⟩
          | str b => cases ht; rw [relS r1]; exact ⟨.inr (.inr (.inr (.inl rfl))), .base (.str b)⟩
          | tup ds =>
            cases ht
            refine ⟨.inr (.inr (.inr (.inr (.inl rfl)))), ?_⟩
            simp only [RelD] at r1
            obtain ⟨a, ys, rfl, tt, k⟩ := r1
            exact .base (.tup tt.2)
          | tupF ds =>
            cases ht
            refine ⟨.inr (.inr (.inr (.inr (.inl rfl)))), ?_⟩
            simp only [RelD] at r1
            obtain ⟨a, ys, rfl, ⟨_, ob, _, tt⟩, k⟩ := r1
            exact .fTuple tt
          | lst ds =>
            cases ht
            refine ⟨.inr (.inr (.inr (.inr (.inr (.inl rfl))))), ?_⟩
            simp only [RelD] at r1
            obtain ⟨a, ys, rfl, tt, k⟩ := r1
            exact .base (.lst tt.2)
          | obj n =>
            simp only [tyOf] at ht
            split at ht
            · rename_i ds hd
              cases ht
              obtain ⟨a, g1, _, ys, g3, _⟩ := q.addr hd
              simp only [RelD] at r1
              obtain ⟨b, rfl, eb⟩ := r1
              rw [g1] at eb; cases eb
              exact ⟨.inr (.inr (.inr (.inr (.inr (.inl rfl))))), .base (.lst g3)⟩
            · rename_i ds hd
              cases ht
              obtain ⟨a, g1, _, g3⟩ := q.addr hd
              simp only [RelD] at r1
              obtain ⟨b, rfl, eb⟩ := r1
              rw [g1] at eb; cases eb
              obtain ⟨ks, g3, _⟩ := g3
              exact ⟨.inr (.inr (.inr (.inr (.inr (.inr rfl))))), .base (.dK g3)⟩
            · rename_i ds hd
              cases ht
              obtain ⟨a, g1, _, g3⟩ := q.addr hd
              simp only [RelD] at r1
              obtain ⟨b, rfl, eb⟩ := r1
              rw [g1] at eb; cases eb
              obtain ⟨ks, g3, _⟩ := g3
              exact ⟨.inr (.inr (.inr (.inr (.inr (.inr rfl))))), .base (.dT g3)⟩
            · cases ht
          | _ => simp [tyOf] at ht
        exact ⟨v, .ty T, .type t, .type T, isT T t, rfl, .ty T, key.2, kit_all hT key.1, h.val q (rb _)⟩
      · exact h.elim
    · exact h.elim
  · exact h.elim
/-! range as a list, a tuple -/
def rgOkD (j : Int) : Prop := -(2 ^ 62) ≤ j ∧ j ≤ 1000
noncomputable instance (j : Int) : Decidable (rgOkD j) := Classical.propDecidable _
noncomputable def mListRg (m : ME) : ME := fun ρ s => (m ρ s).bnd fun d s1 => match d with
  | .int j => if rgOkD j then .ok (.lst (rngD 0 j.toNat)) s1 else .bad
  | _ => .bad
noncomputable def mTupRg (m : ME) : ME := fun ρ s => (m ρ s).bnd fun d s1 => match d with
  | .int j => if rgOkD j then .ok (.tup (rngD 0 j.toNat)) s1 else .bad
  | _ => .bad
theorem rgV_rel {j : Int} : RelDs G ι H (rngD 0 j.toNat) (rgV 0 j) := by
  have : ∀ l : List Nat, RelDs G ι H (l.map fun k => D.int (0 + (k : Nat))) (l.map fun i => V.int (0 + (i : Nat))) := by
    intro l
    induction l with
    | nil => exact .nil
    | cons a l ih => exact .cons (ri _) ih
  unfold rngD rgV
  rw [show j - 0 = j by omega]
  exact this _
theorem ve_listRg {a : Expr} {m : ME} {p p2 pos pos2 : Pos} (h : VE X W a m) (hg : Gl X "list") (hm : X.mg "list" = none) (hg2 : Gl X "range") (hm2 : X.mg "range" = none) (hc : X.calm = true := by rfl)
    (na2 : starEach [a] X.env = (false, eval a X.env) :: starEach [] X.env := by rfl) (na : starEach [.Call (.Name "range" p2) [a] [] pos2] X.env = (false, eval (.Call (.Name "range" p2) [a] [] pos2) X.env) :: starEach [] X.env := by rfl) :
    VE X W (.Call (.Name "list" p) [.Call (.Name "range" p2) [a] [] pos2] [] pos) (mListRg m) :=
  pe_imp (pe_listRg hc hg hm (prg_1 hg2 hm2 h na2) na) fun σ H Q ⟨ι, s, ρ, q, e, h⟩ => by
    refine rdE_on q e h fun d v ι1 H1 s1 e1 q1 r1 h1 => ?_
    split at h1
    · rename_i j
      split at h1
      · rename_i hj
        exact ⟨j, relI r1, ⟨by omega, by omega, hj.1, by have := hj.2; omega, by have := hj.2; omega⟩, fun p hp => h1.newL q1 rgV_rel hp⟩
      · exact h1.elim
    · exact h1.elim
/-! methods of lists -/
def isLstO (s : S) (x : D) : Bool := match x with
  | .obj n => (match s[n]? with
    | some (.lst _) => true
    | _ => false)
  | _ => false
def fAppend (x : D) (y : D) (s : S) : R D := match x with
  | .obj n => (match s[n]? with
    | some (.lst ds) => if ds.length < LIM then .ok .non (s.set n (.lst (ds ++ [y]))) else .bad
    | _ => .bad)
  | _ => .bad
def mAppend (mo me : ME) : ME := fun ρ s => (mo ρ s).bnd fun x s1 => if isLstO s1 x = true then (me ρ s1).bnd fun y s2 => fAppend x y s2 else .bad
theorem ve_append {o e : Expr} {mo me : ME} {apos cpos : Pos} (ho : VE X W o mo) (he : VE X W e me)
    (hbase : attributeBase o "append" X.env (eval o X.env) = eval o X.env := by rfl)
    (hfew : ((backTo cpos (starEach [e] X.env)).all (fun x => !x.1) && (backToKw cpos (keywordEach [] X.env)).all (fun x => x.1.isSome)
      && decide ([e].length + ([] : List Keyword).length + (if ([] : List Keyword).isEmpty then 0 else 1) < 30)) = true := by rfl)
    (hline : (apos.endLine == cpos.line) = true := by rfl) (hs : starEach [e] X.env = (false, eval e X.env) :: starEach [] X.env := by rfl) (hplain : (backTo cpos (starEach [] X.env)).any (·.1) = false := by rfl) :
    VE X W (.Call (.Attribute o "append" apos) [e] [] cpos) (mAppend mo me) :=
  pe_imp (pe_bm PySem.F.plainAttrs_list PySem.F.slot_list_append PySem.F.type_list_append mt_append ho (pa_cons he pa_nil hs) hbase hfew hline hs hplain) fun σ H Q ⟨ι, s, ρ, q, e, h⟩ => by
    refine rdE_on q e h fun x v ι1 H1 s1 e1 q1 r1 h1 => ?_
    split at h1
    · rename_i hi
      cases x with
      | obj n =>
        simp only [isLstO] at hi
        split at hi
        · rename_i ds hd
          obtain ⟨a, g1, g2, ys, g3, _⟩ := q1.addr hd
          have r1' := r1
          simp only [RelD] at r1
          obtain ⟨b, rfl, eb⟩ := r1
          rw [g1] at eb; cases eb
          refine ⟨.inl ⟨rfl, ys, .inl (.inl g3)⟩, rdE_on q1 (e.mono e1) h1 fun y w ι2 H2 s2 e2 q2 r2 h2 => ?_⟩
          unfold fAppend at h2
          simp only at h2
          split at h2
          · rename_i es he
            split at h2
            · rename_i hl
              obtain ⟨a', k1, k2, zs, k3, k4⟩ := q2.addr he
              rw [e2.get g1] at k1; cases k1
              refine ⟨a, zs, w, rfl, rfl, k3, by rw [k4.len]; exact lt_LIM hl, ?_⟩
              refine h2 ι2 _ (.write k2 (nfix k3 rfl)) (q2.write (e2.get g1) (nfix k3 rfl) ⟨_, upd_same, ?_⟩) .non (by simp only [RelD])
              exact (k4.app (.one r2)).mono (.write k2 (nfix k3 rfl))
            · exact h2.elim
          · exact h2.elim
        · cases hi
      | _ => simp [isLstO] at hi
    · exact h1.elim
end
end VL
namespace VL
open PySem PySem.Spec PyProof.Rows L2

/-- the law's call at the heap behind the top -/
theorem law_callG {P : Program} {w : World} {K : PySem.W.Frag} {mg mb : Str → Option Value} {k : Nat} {fa a : Addr} {fd : FuncData} {x : Str} {m : FM} {s1 : Shared} {us : List Value} {ns : List Int}
    (kin : K.In s1.heap) (hns : s1.heap.Ns mainGlobals mg) (hb : s1.heap.Ns builtinsNs mb) (hbb : ∀ x : Str, x ≠ "__name__" → mb x = bootBuiltins x) (nl : s1.heap.NoLimit) (hg : s1.gens = #[])
    (ha : s1.heap.get? a = some { cls := .type "list", data := .seq us.toArray }) (hi : IntsAre us ns) (hl : ns.length ≤ sizeLine) (hr : RoomG k callerA)
    (F : ∀ base : Heap, K.In base → base.Ns mainGlobals mg → FnG P w K mg base k fa fd [x] (spG ⟨K, mg⟩ 1 m)) (hbind : ∀ (st : Shared) (u : Value), BindsTo st fd ⟨[u], []⟩ [(x, u)])
    (hm : ∃ s', m [.scr (ns.map D.int)] [] = .ok (.bl true) s') :
    codeAny (model P w) callerA (.call (.ref fa) ⟨[.ref a], []⟩) (fun r s' => r = .ok (.ret (.bool true)) ∧ OldK s1.heap s'.heap ∧ s'.os = s1.os ∧ AllBare s'.gens) s1 := by
  have rv : Vals (ns.map V.int) us := vals_ints hi
  have lu := hi.length
  have core : ∀ H : Hp, (∀ b u, H b = some u → b = a ∧ K.lookup a = none ∧ u = .frz { cls := .type "list", data := .seq us.toArray } (.lst (ns.map V.int))) → ScrAt ⟨K, mg⟩ ⟨[], []⟩ H a (ns.map V.int) → HOk P w H s1.heap →
      codeAny (model P w) callerA (.call (.ref fa) ⟨[.ref a], []⟩) (fun r s' => r = .ok (.ret (.bool true)) ∧ OldK s1.heap s'.heap ∧ s'.os = s1.os ∧ AllBare s'.gens) s1 := by
    intro H only hS hok
    have hid : ∀ {b : Addr} {o : Obj}, s1.heap.get? b = some o → H b = none → (hidT s1.heap H).get? b = some o := fun e n => hidT_get e n
    have isd : ∀ {b : Addr} {o : Obj} {es : Array DictEntry} {ep : Nat}, s1.heap.get? b = some o → o.data = .dict es ep → H b = none := fun {b o es ep} e d => by
      cases q : H b with
      | none => rfl
      | some u =>
        obtain ⟨rfl, _, _⟩ := only b u q
        rw [ha] at e; cases e
        exact absurd d (by intro z; cases z)
    have nsk : ∀ {b : Addr} {mm : Str → Option Value}, s1.heap.Ns b mm → (hidT s1.heap H).Ns b mm := fun {b mm} ⟨o, es, ep, e, d, r⟩ => ⟨o, es, ep, hid e (isd e d), d, r⟩
    have kb : K.In (hidT s1.heap H) := fun b o e => hid (kin b o e) (by
      cases q : H b with
      | none => rfl
      | some u =>
        obtain ⟨rfl, z, _⟩ := only b u q
        rw [z] at e; cases e)
    have md : Mod K mg (hidT s1.heap H) := ⟨kb, nsk hns, ⟨mb, nsk hb, hbb⟩, let ⟨mc, h1, h2⟩ := nl; ⟨mc, nsk h1, h2⟩⟩
    have e0 : Env0 P w K mg (hidT s1.heap H) callerA [] s1 H := ⟨rfl, md, fun b o e => of_hidT e, Nat.le_of_eq (hidT_size _ _), trivial, fun b z => absurd (show b ∈ ([] : List Addr) from z) (by simp), hok, .of_eq hg⟩
    obtain ⟨s', hm⟩ := hm
    have sp : spG ⟨K, mg⟩ 1 m [.ref a] H (fun v _ => v = .bl true) (fun _ _ _ => False) := by
      refine ⟨⟨[], []⟩, [], [.scr (ns.map D.int)], rfl, ⟨rfl, List.nodup_nil, fun n o b h => by simp at h, fun b z => absurd (show b ∈ ([] : List Addr) from z) (by simp)⟩, .one (by simp only [RelD]; exact ⟨a, _, rfl, hS, RelDs.ofInts⟩), ?_⟩
      rw [hm]
      intro ι' H' e q v r
      exact relB r
    refine codeAny_mono ((F _ kb (nsk hns)).run callerA [] s1 H ⟨[.ref a], []⟩ [.ref a] [.ref a] _ _ hr e0 (hbind s1 (.ref a)) (.cons rfl .nil) sp) fun r s2 h => ?_
    cases r with
    | error e =>
      obtain ⟨_, _, _, _, _, _, _, _, _, _, _, _, z⟩ := h
      exact z.elim
    | ok fl =>
      cases fl with
      | next => exact h.elim
      | brk => exact h.elim
      | cont => exact h.elim
      | ret u =>
        obtain ⟨v, H', os, bare, un, hok', r', q⟩ := h
        have q' : v = .bl true := q
        subst q'
        obtain rfl : u = Value.bool true := r'
        refine ⟨rfl, OldK.of_keep fun b o e => ?_, os, bare⟩
        cases q : H b with
        | none => exact un.keep b o e q (by intro z; exact absurd (show b ∈ ([] : List Addr) from z) (by simp)) (by simp)
        | some u =>
          obtain ⟨rfl, _, rfl⟩ := only b u q
          have z2 := un.frzs b _ _ q
          obtain ⟨e2, _⟩ := hok' b _ z2
          rw [ha] at e; cases e
          exact e2
  cases hk : K.lookup a with
  | some o =>
    have e := kin a o hk
    rw [ha] at e
    cases e
    exact core (fun _ => none) (fun b u z => by have z' : (none : Option HO) = some u := z; cases z') (.inr (.inr ⟨_, us.toArray, _, hk, rfl, rfl, rfl, by rw [List.size_toArray, lu]; exact hl, by simpa using rv⟩)) fun b u z => by
      have z' : (none : Option HO) = some u := z; cases z'
  | none =>
    refine core (fun b => if b = a then some (.frz { cls := .type "list", data := .seq us.toArray } (.lst (ns.map V.int))) else none) (fun b u z => ?_) (.inl ⟨⟨by simp, by simp⟩, .inr ⟨_, if_pos rfl⟩⟩) (fun b u z => ?_)
    · by_cases hb : b = a
      · exact ⟨hb, hk, by have z' := (if_pos hb).symm.trans z; cases z'; rfl⟩
      · have z' := (if_neg hb).symm.trans z
        cases z'
    · by_cases hb : b = a
      · have z' := (if_pos hb).symm.trans z
        cases z'
        subst hb
        exact ⟨ha, by rw [List.length_map]; exact hl, us, _, rv, ha⟩
      · have z' := (if_neg hb).symm.trans z
        cases z'
theorem walk_ofG {l : PySem.W.OpenLaw} {n k : Nat} {q : Program} {loose : List Str} {XP : (Str → Option Value) → Heap → Prop} {YP : World → Heap → Prop} {d : DefRec} {x : Str}
    (hn : l.most = some n) (hn2 : n ≤ sizeLine) (hdf : d.params.defaults = []) (hr : RoomG k callerA)
    (F : ∀ (w : World) (mg : Str → Option Value) (fa : Addr) (h : Heap), YP w h → h.Ns mainGlobals mg → mg d.name = some (.ref fa) →
      ∃ (K : PySem.W.Frag) (fd : FuncData) (m : FM), K.In h ∧ (∀ (s : Shared) (u : Value), BindsTo s fd ⟨[u], []⟩ [(x, u)]) ∧ (∀ ns : List Int, ns.length ≤ n → ∃ s', m [.scr (ns.map D.int)] [] = .ok (.bl true) s') ∧
        ∀ base : Heap, K.In base → base.Ns mainGlobals mg → FnG l.prog w K mg base k fa fd [x] (spG ⟨K, mg⟩ 1 m)) :
    PySem.W.WalkO q loose XP YP l.row.toRowW d [] (fun f vs => PySem.call f vs) := by
  refine Att.attach_call hn hdf fun w s0 s1 mg mb fa o pm cd doc a us ns G Y ho hd hcd hmg hobj hints hlen hg => ?_
  obtain ⟨K, fd, m, KX, hb, hm, hF⟩ := F w mg fa _ Y G.T.g hmg
  exact law_callG KX G.T.g G.T.b G.T.builtins G.T.nolimit hg hobj hints (Nat.le_trans hlen hn2) hr hF hb (hm ns hlen)
end VL
namespace VL
open PySem PySem.Spec PyProof.Rows L2
section
variable {X : Cx} {W : WX} {a b c : Expr} {ma mb mc : ME} {pos : Pos}
theorem hu64 {k : Nat} {A : Around} (r : RoomG k A) : A.units + 64 < cLine := r.r.units
theorem hu65 {k : Nat} {A : Around} (r : RoomG k A) : A.units + 65 < cLine := by have := r.r.un; omega
theorem vts_nil : PTs X [] (rdT (cg X) W mYes) := ⟨fun pins s σ H Q I h => pts_nil.run pins s σ H Q I (by
  obtain ⟨ι, s, ρ, q, e, h⟩ := h
  exact h.here q)⟩
theorem vts_one {t : MT} (h : VT X W c t) : PTs X [c] (rdT (cg X) W t) := pts_one h
theorem vt_chain {op op' : CmpOp} {r r' : R2} {f g : F2} (ho : OpR X (compareOp op) r) (ho' : OpR X (compareOp op') r') (hr : OpK (cg X) W r f) (hr' : OpV (cg X) W r' g) (ha : VE X W a ma) (hb : VE X W b mb) (hc : VE X W c mc)
    (hm : lastMarks [op, op'] [b, c] = false := by with_unfolding_all rfl) : VT X W (.Compare a [op, op'] [b, c] pos) (mB (mChn f g ma mb mc)) := by
  refine pt_imp (pt_chain ho ho' ha hb hc hm) fun σ H Q h => ?_
  obtain ⟨ι, s, ρ, q, e, h⟩ := rdB h
  refine rdE_on q e h fun x v ι1 H1 s1 e1 q1 r1 h1 => rdE_on q1 (e.mono e1) h1 fun y u ι2 H2 s2 e2 q2 r2 h2 => ?_
  refine hr ι2 H2 s2 x y v u _ _ q2 (r1.mono e2) r2 h2.bnd fun z w ez rz hz => ?_
  obtain ⟨_, _, h3⟩ := hz
  cases z with
  | bl k =>
    refine ⟨k, relB rz, ?_⟩
    cases k with
    | true =>
      refine L2.iteT ?_
      exact rdE_on q2 ((e.mono e1).mono e2) h3 fun w' t ι3 H3 s3 e3 q3 r3 h4 => hr' ι3 H3 s3 y w' u t _ q3 (r2.mono e3) r3 h4
    | false =>
      refine L2.iteF ?_
      exact h3.val q2 (by simp only [RelD])
  | _ => exact h3.elim
theorem len_nilF : ∀ (ρ : Ev) (s : S) (ds : List D) (s' : S), mNil ρ s = .ok ds s' → ds.length = 0 := fun ρ s ds s' h => len_nil h
/-- the free built-in names -/
structure Bl (mg : Str → Option Value) : Prop where
  all : mg "all" = none
  any : mg "any" = none
  dict : mg "dict" = none
  enumerate : mg "enumerate" = none
  int : mg "int" = none
  bool : mg "bool" = none
  isinstance : mg "isinstance" = none
  len : mg "len" = none
  list : mg "list" = none
  max : mg "max" = none
  min : mg "min" = none
  range : mg "range" = none
  repr : mg "repr" = none
  set : mg "set" = none
  sorted : mg "sorted" = none
  str : mg "str" = none
  sum : mg "sum" = none
  tuple : mg "tuple" = none
  zip : mg "zip" = none
  ValueError : mg "ValueError" = none
/-- a def as a name that may be called -/
theorem clG {P : Program} {w : World} {K : PySem.W.Frag} {mg : Str → Option Value} {base : Heap} {k n : Nat} {x : Str} {m : FM} {f : Addr} {fd : FuncData} {ps : List Str} {params : Arguments} {body : List Stmt} {scope : Scope} (F : FunD K x x params body scope [] [] f fd) (gf : mg x = some (.ref f)) (b : Binds K fd ps [])
    (h : FnG P w K mg base k f fd ps (spG ⟨K, mg⟩ ps.length m)) (hn : ps.length = n) : Cl P w K mg base k x n m := by
  subst hn
  exact ⟨f, fd, ps, h, gf, F.kp, b⟩
end
end VL
namespace VL
open PySem PySem.Spec PyProof.Rows L2

/-! ### enumerate over a tuple: the hand layer's rule is for lists alone -/
theorem meets_enum1 {v : Value} {o : Obj} {H : Heap → Prop} (B : Begins v o H) :
    Meets (Builtin.«enumerate.__new__» ⟨[.type "enumerate", v], []⟩) (fun _ R s => H s.heap ∧
      R (.ok (.ret (.ref (s.heap.push o).objs.size))) { s with heap := (s.heap.push o).push { cls := .type "enumerate", data := .fields #[.none, .bool false, .ref s.heap.objs.size, rawInt 0, .none, .none] } }) :=
  .of_wp fun prog w A R s h => by
    obtain ⟨hp, g, d, tk, os⟩ := s; obtain ⟨h1, h⟩ := h
    have hsub := sub_enumerate
    have q1 : ∀ {A' : Around} {E : Value → Shared → Prop} {Q : Value → Shared → Prop}, Q (.ref hp.objs.size) ⟨hp.push o, g, d, tk, os⟩ → wpAny (model prog w) A' (pyIter v) Q E ⟨hp, g, d, tk, os⟩ :=
      fun q => B.iter prog w _ _ ⟨hp, g, d, tk, os⟩ _ h1 q
    wp_walk using q1
    refine wpAny_stack_any fun st => wpAny_pure ?_
    split
    · rename_i c _ _ _ _ _
      cases (c == Value.type "enumerate")
      · wp_walk using q1
        exact ⟨_, rfl, h⟩
      · wp_walk using q1
        exact ⟨_, rfl, h⟩
    · wp_walk using q1
      exact ⟨_, rfl, h⟩
section
variable {prog : Program} {w : World} {A : Around} {E : Value → Shared → Prop} {s : Shared}
theorem call_enum1 {v : Value} {o : Obj} {H : Heap → Prop} {Q : Value → Shared → Prop} (B : Begins v o H) (h1 : H s.heap)
    (h : ∀ h', IsEnum h' (s.heap.objs.size + 1) s.heap.objs.size 0 .none → h'.get? s.heap.objs.size = some o → h'.objs.size = s.heap.objs.size + 2 →
      (∀ b o, s.heap.get? b = some o → h'.get? b = some o) → Q (.ref (s.heap.objs.size + 1)) { s with heap := h' }) :
    wpAny (model prog w) A (call (.type "enumerate") [v]) Q E s := by
  refine callType_new F.called_enumerate (by decide) (F.typeCall_enumerate_1 _) (F.newCall_enumerate_1 _) (fun obj => F.args_object_init_2 obj _) F.entry_enumerate_new
    (meets_enum1 B) ⟨h1, ?_⟩
  have hz : (s.heap.push o).objs.size = s.heap.objs.size + 1 := Heap.size_push ..
  show _ ∧ _
  rw [hz]
  have he : IsEnum ((s.heap.push o).push { cls := .type "enumerate", data := .fields #[.none, .bool false, .ref s.heap.objs.size, rawInt 0, .none, .none] }) (s.heap.objs.size + 1) s.heap.objs.size 0 .none := by
    have := Heap.get?_push_size (s.heap.push o) (o := { cls := .type "enumerate", data := .fields #[.none, .bool false, .ref s.heap.objs.size, rawInt 0, .none, .none] }) rfl
    rw [hz] at this; exact this
  refine ⟨⟨_, he, rfl⟩, h _ he (Heap.get?_push_of_some _ (Heap.get?_push_size _ B.free)) (by rw [Heap.size_push, hz]) fun b o x => Heap.get?_push_of_some _ (Heap.get?_push_of_some _ x)⟩
end
/-- the tuple at a, each item in a new pair -/
def IteT (K : PySem.W.Frag) (a : Addr) : It :=
  ⟨fun i H => ∃ (xs : List V) (x : V), SqT K H a xs ∧ xs[i]? = some x, fun i H v H' => ∃ T x, v = .ref T ∧ H T = none ∧ H' = upd H T (.tup [.int (i : Nat), x]) ∧ ∀ xs, SqT K H a xs → xs[i]? = some x, fun i H => ∃ xs : List V, SqT K H a xs ∧ xs.length ≤ i⟩
theorem turn_enumT {P : Program} {w : World} {K : PySem.W.Frag} {elts : List Expr} {kk : Nat} {tpos : Pos} (a e it : Addr) :
    Turn P w K (.Tuple elts kk tpos) (IteT K a) [e, it] e (fun i h => (∃ old, IsEnum h e it ((i : Nat) : Int) old) ∧ h.IsTupleIter it a i ∧ e ≠ it ∧ a ≠ it ∧ a ≠ e) where
  mem := by simp
  obj := fun i h st b hb => by
    obtain ⟨⟨old, he⟩, ⟨o, ho, hc, hd⟩, _⟩ := st
    have e' : b = e ∨ b = it := by simpa using hb
    rcases e' with z | z
    · rw [z]; exact ⟨_, he, fun v q => nomatch q⟩
    · rw [z]; exact ⟨o, ho, fun v q => by rw [hd] at q; cases q⟩
  keep := fun i h h' st k => let ⟨⟨old, he⟩, hi, hne⟩ := st; ⟨⟨old, k e (by simp) _ he⟩, hi.at fun o q => k it (by simp) o q, hne⟩
  item := by
    intro X hP hw hK hc i pins s σ H E I hf st hg
    subst hP hw hK
    obtain ⟨⟨old, he⟩, hit, hne, hai, hae⟩ := st
    obtain ⟨xs, x, hq, hx⟩ := hg
    obtain ⟨its, rv, p, hz⟩ := I.tuple hq
    obtain ⟨u, hu, ru⟩ := rv.get hx
    have hel : e < s.heap.objs.size := Heap.lt_size he
    have hil : it < s.heap.objs.size := by obtain ⟨_, q, _⟩ := hit; exact Heap.lt_size q
    have hh : X.A.in1.handled = none := I.ok.hd hc
    have D := Draws.tuple (prog := X.prog) (w := X.w) (A := X.A.in1) hh it a hai its.toArray
    have hlt : i < its.toArray.size := by
      have := (List.getElem?_eq_some_iff.mp hu).1
      simpa using this
    have hef : e ∉ [it, a] := by
      simp only [List.mem_cons, List.not_mem_nil, or_false, not_or]
      exact ⟨hne, fun z => hae z.symm⟩
    refine wpAny_pyNext_enum_itemD D he ⟨hit, p⟩ hlt hne hef fun y h' tk hy ho st' hT hsz hk => ?_
    have hyu : y = u := by
      have hu' : its.toArray[i]? = some u := by simpa using hu
      rw [hu'] at hy
      exact (Option.some.inj hy).symm
    subst hyu
    refine ⟨_, rfl, wpAny_letOwnedTupleGo_enum (s := { s with heap := h', toks := tk + 1 }) ho fun h'' he' sb => ?_⟩
    have hT2 : h''.get? s.heap.objs.size = some { cls := .type "tuple", data := .seq #[.int i tk, y] } := (sb.2 _ (Nat.ne_of_gt hel)).trans hT
    have new : ObjOk X.prog X.w (upd H s.heap.objs.size (.tup [.int (i : Nat), x])) h'' s.heap.objs.size (.tup [.int (i : Nat), x]) :=
      ⟨by show 2 ≤ sizeLine; decide, [.int i tk, y], .cons ⟨_, rfl⟩ (.cons ru .nil), ⟨_, hT2, rfl, _, rfl⟩⟩
    have I1 : Inv X pins σ (upd H s.heap.objs.size (.tup [.int (i : Nat), x])) { s with heap := h'', toks := tk + 1 } :=
      I.turnedNew (ch := [e, it]) (fun b ob hb q => (sb.2 b (fun z => hb (by simp [z]))).trans (hk b ob (fun z => hb (by simp [z])) (fun z => hb (by simp [z])) q)) hf (Nat.le_refl _) new
    refine ⟨.ref s.heap.objs.size, _, I1, rfl, ⟨_, x, rfl, I.hok.fresh (Nat.le_refl _), rfl, fun ys hy => by rw [I.tuple_inj hy hq]; exact hx⟩, ⟨⟨y, ?_⟩, st'.1.at fun o q => (sb.2 it (Ne.symm hne)).trans q, hne, hai, hae⟩, fun b hb => ?_⟩
    · have e1 : ((i + 1 : Nat) : Int) = (i : Int) + 1 := by omega
      rw [e1]; exact he'
    · have hb' : b < s.heap.objs.size := by
        have e' : b = e ∨ b = it := by simpa using hb
        rcases e' with z | z
        · rw [z]; exact hel
        · rw [z]; exact hil
      rw [upd_ne (Nat.ne_of_lt hb')]
      exact (hf b hb).1
  done := by
    intro X hP hw hK hc i pins s σ H E I hf st hg
    subst hP hw hK
    obtain ⟨⟨old, he⟩, hit, hne, hai, hae⟩ := st
    obtain ⟨xs, hq, hx⟩ := hg
    obtain ⟨its, rv, p, hz⟩ := I.tuple hq
    obtain ⟨f0, f1, f2, f3, f4, f5⟩ := hf it (by simp)
    have hl := rv.length
    have hh : X.A.in1.handled = none := I.ok.hd hc
    have hT : s.TypeIs (.ref e) "enumerate" := ⟨_, he, rfl⟩
    unfold pyNext
    refine wpAny_bind (wpAny_attempt (wpAny_callSpecial?_slot (name := Str.ofString "__next__") hT F.slot_enumerate_next
      (wpAny_call_entry F.slot_enumerate_next hT F.entry_enumerate_next ?_ (F.args_enumerate_next_1 _))))
    show wpAny _ _ (field (.ref e) 2 >>= _) _ _ _
    refine wpAny_bind (wpAny_field he rfl (x := .ref it) rfl ?_)
    refine wpAny_bind (wpAny_nextOf_tuple_end hh hit p (by simp; omega) fun h' x he' hx' => ?_)
    obtain ⟨o, ho, hc⟩ := hx'
    refine wpAny_bind (wpAny_isInstance (T := "StopIteration") (b := true) ⟨o, ho, hc⟩ isSubtype_stop ?_)
    exact wpAny_pure ⟨rfl, I.turned (t' := s.toks) (fun b o hb q => he' b o hb q) f0 f1 f3 f4 f5⟩
  self := fun A i s Q E st h => let ⟨⟨_, he⟩, _⟩ := st; wpAny_pyIter_enum he h
def iEnumT (K : PySem.W.Frag) (ta : TA) : TI := fun σ H R => ta σ H fun vs H1 => ∃ a xs, vs = [.ref a] ∧ SqT K H1 a xs ∧ R (IteT K a) H1
theorem pi_enumT {X : Cx} {e : Expr} {ta : TA} {p pos tpos : Pos} {elts : List Expr} {kk : Nat} (hg : Gl X "enumerate") (hm : X.mg "enumerate" = none) (ha : PA X [e] ta) (hs : starEach [e] X.env = [(false, eval e X.env)] := by rfl) :
    PI X (.Tuple elts kk tpos) (.Call (.Name "enumerate" p) [e] [] pos) (iEnumT X.K ta) := by
  refine ⟨fun pins s σ H R I h => ?_⟩
  refine Call_ (ld_blt I hg hm boot_enumerate (PyProof.Rows.callWith_type1 (thn (ha.run pos pins s σ H _ I h) fun us s1 ⟨vs, H1, I1, r1, q1⟩ => ?_) hs rfl))
  obtain ⟨a, xs, ex, hq, q⟩ := q1
  subst ex
  cases r1 with
  | cons r rr =>
    cases rr
    cases r
    obtain ⟨its, rv, p', hz⟩ := I1.tuple hq
    have hal : a < s1.heap.objs.size := by obtain ⟨_, z, _⟩ := id p'; exact Heap.lt_size z
    refine call_enum1 (begins_tuple a its.toArray) p' fun h' he hit hsz hk => wpAny_pyIter_enum he ?_
    have I2 : Inv X pins σ H1 { s1 with heap := h' } := I1.kept (t' := s1.toks) hk
    refine ⟨s1.heap.objs.size + 1, [s1.heap.objs.size + 1, s1.heap.objs.size], _, _, H1, rfl, I2, turn_enumT a (s1.heap.objs.size + 1) s1.heap.objs.size, ⟨⟨.none, he⟩, ⟨_, hit, rfl, rfl⟩, Nat.succ_ne_self _, Nat.ne_of_lt hal, Nat.ne_of_lt (Nat.lt_succ_of_lt hal)⟩, fun b hb => ?_, q⟩
    have e' : b = s1.heap.objs.size + 1 ∨ b = s1.heap.objs.size := by simpa using hb
    have hle : s1.heap.objs.size ≤ b := by
      rcases e' with z | z
      · rw [z]; exact Nat.le_add_right _ _
      · rw [z]; exact Nat.le_refl _
    exact I1.fpOk hle (I1.hok.fresh hle)

/-! ### .. by values -/
theorem enumD_get {xs : List D} {i : Nat} : (enumD xs)[i]? = xs[i]?.map fun d => .tup [.int (i : Nat), d] := by
  unfold enumD
  rw [List.getElem?_map, List.getElem?_zipIdx]
  cases xs[i]? <;> simp
theorem enumD_len {xs : List D} : (enumD xs).length = xs.length := by simp [enumD]
def enumF : List D → S → R Src := fun ds s1 => match ds with
  | [.tup xs] => .ok (.fix (enumD xs)) s1
  | [.lst xs] => .ok (.fix (enumD xs)) s1
  | [.scr xs] => .ok (.fix (enumD xs)) s1
  | [.obj n] => (match s1[n]? with
    | some (.lst _) => .ok (.enl n) s1
    | _ => .bad)
  | _ => .bad
def mEnum (ms : MA) : MI := fun ρ s => (ms ρ s).bnd enumF
section
variable {G : Cg} {ι : Z} {H : Hp} {xs : List D} {vs : List V} {a : Addr}
theorem itok_pair {J : It} {Sq : Hp → Prop} (hgo : ∀ ι1 H1 i v, ExtW ι H ι1 H1 → vs[i]? = some v → J.go i H1) (hstop : ∀ ι1 H1 i, ExtW ι H ι1 H1 → vs.length ≤ i → J.stop i H1)
    (hy : ∀ ι1 H1 i v H', ExtW ι H ι1 H1 → J.yld i H1 v H' → ∃ T x, v = .ref T ∧ H1 T = none ∧ H' = upd H1 T (.tup [.int (i : Nat), x]) ∧ vs[i]? = some x) (r : RelDs G ι H xs vs) : ItOk G ι H (.fix (enumD xs)) J := fun ι1 H1 s ys e q hys i => by
  simp only [srcAt, Option.some.injEq] at hys
  subst hys
  have r1 := RelDs.monoW e _ r
  refine ⟨fun d hd => ?_, fun hl => hstop ι1 H1 i e (by rw [r1.len]; rw [enumD_len] at hl; exact hl)⟩
  rw [enumD_get] at hd
  obtain ⟨d0, hd0, rfl⟩ := Option.map_eq_some_iff.1 hd
  obtain ⟨v, hv, rv⟩ := r1.get hd0
  refine ⟨hgo ι1 H1 i v e hv, fun x H' hyy => ?_⟩
  obtain ⟨T, u, rfl, hT, rfl, hu⟩ := hy ι1 H1 i x H' e hyy
  rw [hv] at hu; cases hu
  refine ⟨.new hT, fun b hb => upd_ne fun z => q.tr hb (z ▸ hT), ?_⟩
  simp only [RelD]
  refine ⟨T, _, rfl, ⟨q.off hT, upd_same⟩, ?_⟩
  simp only [RelDs]
  exact ⟨_, _, rfl, by simp only [RelD], _, _, rfl, rv.mono (.new hT), rfl⟩
theorem itok_enumT (t : TupAt G ι H a vs) (r : RelDs G ι H xs vs) : ItOk G ι H (.fix (enumD xs)) (IteT G.K a) :=
  itok_pair (Sq := fun _ => True) (fun ι1 H1 i v e hv => ⟨vs, v, (t.monoW e).sq, hv⟩) (fun ι1 H1 i e hl => ⟨vs, (t.monoW e).sq, hl⟩) (fun ι1 H1 i v H' e ⟨T, x, h1, h2, h3, h4⟩ => ⟨T, x, h1, h2, h3, h4 vs (t.monoW e).sq⟩) r
theorem itok_enumL (t : ∀ ι' H', ExtW ι H ι' H' → SqL G.K H' a vs) (r : RelDs G ι H xs vs) : ItOk G ι H (.fix (enumD xs)) (Ite G.K a) :=
  itok_pair (Sq := fun _ => True) (fun ι1 H1 i v e hv => ⟨vs, v, t _ _ e, hv⟩) (fun ι1 H1 i e hl => ⟨vs, t _ _ e, hl⟩) (fun ι1 H1 i v H' e ⟨T, x, h1, h2, h3, h4⟩ => ⟨T, x, h1, h2, h3, h4 vs (t _ _ e)⟩) r
end
theorem itok_enl {G : Cg} {ι : Z} {H : Hp} {n : Nat} {a : Addr} (ha : ι.ad[n]? = some a) : ItOk G ι H (.enl n) (Ite G.K a) := fun ι1 H1 s ys e q hys i => by
  simp only [srcAt] at hys
  split at hys
  · rename_i ds hds
    cases hys
    obtain ⟨b, g1, _, us, g3, r1⟩ := q.addr hds
    rw [e.get _ _ ha] at g1; cases g1
    have sq : SqL G.K H1 a us := .inl (.inl g3)
    refine ⟨fun d hd => ?_, fun hl => ⟨us, sq, by rw [r1.len]; rw [enumD_len] at hl; exact hl⟩⟩
    rw [enumD_get] at hd
    obtain ⟨d0, hd0, rfl⟩ := Option.map_eq_some_iff.1 hd
    obtain ⟨v, hv, rv⟩ := r1.get hd0
    refine ⟨⟨us, v, sq, hv⟩, fun x H' hyy => ?_⟩
    obtain ⟨T, u, rfl, hT, rfl, hu⟩ := hyy
    have hu := hu us sq
    rw [hv] at hu; cases hu
    refine ⟨.new hT, fun b hb => upd_ne fun z => q.tr hb (z ▸ hT), ?_⟩
    simp only [RelD]
    refine ⟨T, _, rfl, ⟨q.off hT, upd_same⟩, ?_⟩
    simp only [RelDs]
    exact ⟨_, _, rfl, by simp only [RelD], _, _, rfl, rv.mono (.new hT), rfl⟩
  · cases hys
section
variable {X : Cx} {W : WX}
theorem vi_enum {e : Expr} {ms : MA} {p pos tpos : Pos} {elts : List Expr} {kk : Nat} (hg : Gl X "enumerate") (hm : X.mg "enumerate" = none) (ha : VA X W [e] ms) (hs : starEach [e] X.env = [(false, eval e X.env)] := by rfl) :
    VI X W (.Tuple elts kk tpos) (.Call (.Name "enumerate" p) [e] [] pos) (mEnum ms) :=
  pi_imp (pi_or (pi_enum hg hm ha hs) (pi_enumT hg hm ha hs)) fun σ H Rr ⟨ι, s, ρ, q, e, h⟩ => by
    unfold mEnum at h
    cases hm : ms ρ s with
    | bad => rw [hm] at h; exact h.elim
    | exn c fs ρ' s' =>
      rw [hm] at h
      refine .inl ⟨ι, s, ρ, q, e, ?_⟩
      rw [hm]
      exact h
    | ok ds s' =>
      rw [hm] at h
      simp only [R.bnd_ok] at h
      unfold enumF at h
      split at h
      · refine .inr ⟨ι, s, ρ, q, e, ?_⟩
        rw [hm]
        intro ι1 H1 e1 q1 vs r
        have h1 := h ι1 H1 e1 q1
        simp only [RelDs, RelD] at r
        obtain ⟨_, _, rfl, ⟨a, us, rfl, t, k⟩, rfl⟩ := r
        exact ⟨a, us, rfl, t.sq, h1 _ (itok_enumT t k)⟩
      · refine .inl ⟨ι, s, ρ, q, e, ?_⟩
        rw [hm]
        intro ι1 H1 e1 q1 vs r
        have h1 := h ι1 H1 e1 q1
        simp only [RelDs, RelD] at r
        obtain ⟨_, _, rfl, ⟨a, us, rfl, t, k⟩, rfl⟩ := r
        exact ⟨a, us, rfl, .inl (.inl t.2), h1 _ (itok_enumL (fun ι' H' e => .inl (.inl (t.monoW e).2)) k)⟩
      · refine .inl ⟨ι, s, ρ, q, e, ?_⟩
        rw [hm]
        intro ι1 H1 e1 q1 vs r
        have h1 := h ι1 H1 e1 q1
        simp only [RelDs, RelD] at r
        obtain ⟨_, _, rfl, ⟨a, us, rfl, t, k⟩, rfl⟩ := r
        exact ⟨a, us, rfl, t.sq, h1 _ (itok_enumL (fun ι' H' e => (t.monoW e).sq) k)⟩
      · split at h
        · rename_i n ds hds
          refine .inl ⟨ι, s, ρ, q, e, ?_⟩
          rw [hm]
          intro ι1 H1 e1 q1 vs r
          have h1 := h ι1 H1 e1 q1
          simp only [RelDs, RelD] at r
          obtain ⟨_, _, rfl, ⟨a, rfl, ha⟩, rfl⟩ := r
          obtain ⟨b, g1, _, us, g3, _⟩ := q1.addr hds
          rw [ha] at g1; cases g1
          exact ⟨a, us, rfl, .inl (.inl g3), h1 _ (itok_enl ha)⟩
        · exact h.elim
      · exact h.elim
end
end VL
namespace VL
open PySem PySem.Spec PyProof.Rows L2

/-! ### dicts by values -/
section
variable {κ : Type} [DecidableEq κ]
def look (kf : D → Option κ) (kvs : List (D × D)) (k : κ) : Option D := (kvs.find? fun p => decide (kf p.1 = some k)).map (·.2)
def put (kf : D → Option κ) (kvs : List (D × D)) (kd : D) (k : κ) (v : D) : List (D × D) :=
  if (kvs.any fun p => decide (kf p.1 = some k)) = true then kvs.map (fun p => if kf p.1 = some k then (p.1, v) else p) else kvs ++ [(kd, v)]
abbrev PR (G : Cg) (ι : Z) (H : Hp) (kf : D → Option κ) (kvs : List (D × D)) (ks : List (κ × V)) : Prop := Paired (fun (p : D × D) q => kf p.1 = some q.1 ∧ RelD G ι H p.2 q.2) kvs ks
def OptR (G : Cg) (ι : Z) (H : Hp) : Option D → Option V → Prop
  | some d, some v => RelD G ι H d v
  | none, none => True
  | _, _ => False
variable {G : Cg} {ι : Z} {H : Hp} {kf : D → Option κ}
theorem look_rel {k : κ} : ∀ {kvs : List (D × D)} {ks : List (κ × V)}, PR G ι H kf kvs ks → OptR G ι H (look kf kvs k) (valV ks k)
  | _, _, .nil => trivial
  | _, _, .cons (a := a) (b := b) (l₁ := l1) (l₂ := l2) h t => by
    by_cases e : b.1 = k
    · rw [valV_pos e]
      have : look kf (a :: l1) k = some a.2 := by simp [look, List.find?_cons, h.1, e]
      rw [this]
      exact h.2
    · rw [valV_neg e]
      have e' : ¬ kf a.1 = some k := by rw [h.1]; exact fun z => e (Option.some.inj z)
      have : look kf (a :: l1) k = look kf l1 k := by simp [look, List.find?_cons, e']
      rw [this]
      exact look_rel t
theorem pr_any {k : κ} : ∀ {kvs : List (D × D)} {ks : List (κ × V)}, PR G ι H kf kvs ks → (kvs.any fun p => decide (kf p.1 = some k)) = ks.any fun q => decide (q.1 = k)
  | _, _, .nil => rfl
  | _, _, .cons (a := a) (b := b) h t => by
    have ih := pr_any (k := k) t
    simp only [List.any_cons, ih, h.1, Option.some.injEq]
theorem pr_map {k : κ} {v : V} {d : D} (r : RelD G ι H d v) : ∀ {kvs : List (D × D)} {ks : List (κ × V)}, PR G ι H kf kvs ks → PR G ι H kf (kvs.map fun p => if kf p.1 = some k then (p.1, d) else p) (ks.map fun q => if q.1 = k then (q.1, v) else q)
  | _, _, .nil => .nil
  | _, _, .cons (a := a) (b := b) h t => by
    refine .cons ?_ (pr_map r t)
    by_cases e : b.1 = k
    · have e' : kf a.1 = some k := by rw [h.1, e]
      simp only [if_pos e, if_pos e']
      exact ⟨h.1, r⟩
    · have e' : ¬ kf a.1 = some k := by rw [h.1]; exact fun z => e (Option.some.inj z)
      simp only [if_neg e, if_neg e']
      exact h
theorem put_rel {kd : D} {k : κ} {v : V} {d : D} (hk : kf kd = some k) (r : RelD G ι H d v) {kvs : List (D × D)} {ks : List (κ × V)} (h : PR G ι H kf kvs ks) : PR G ι H kf (put kf kvs kd k d) (putK ks k v) := by
  unfold put putK
  rw [pr_any h]
  split
  · exact pr_map r h
  · exact Paired.snoc h ⟨hk, r⟩
theorem pr_len {kvs : List (D × D)} {ks : List (κ × V)} (h : PR G ι H kf kvs ks) : kvs.length = ks.length := Paired.length h
end
theorem key_rel {G : Cg} {ι H y u k} (r : RelD G ι H y u) (h : keyD y = some k) : u = kV k := by
  cases y with
  | int i => simp only [keyD, Option.some.injEq] at h; subst h; exact relI r
  | str x => simp only [keyD, Option.some.injEq] at h; subst h; exact relS r
  | _ => cases h
theorem keys_rel {G : Cg} {ι H} : ∀ {ds : List D} {us : List V} {ks : List Key}, RelDs G ι H ds us → keyDs ds = some ks → us = ks.map kV
  | [], us, ks, r, h => by simp only [RelDs] at r; subst r; simp only [keyDs, Option.some.injEq] at h; subst h; rfl
  | d :: ds, us, ks, r, h => by
    simp only [RelDs] at r
    obtain ⟨x, t, rfl, r1, r2⟩ := r
    simp only [keyDs] at h
    split at h
    · rename_i k ks' h1 h2
      cases h
      rw [key_rel r1 h1, keys_rel r2 h2]
      rfl
    · cases h
theorem keyT_rel {G : Cg} {ι H y u k} (r : RelD G ι H y u) (h : keyT y = some k) : ∃ b, u = .ref b ∧ H b = some (.tup (k.map kV)) := by
  cases y with
  | tup ds =>
    simp only [RelD] at r
    obtain ⟨a, xs, rfl, t, rr⟩ := r
    have := keys_rel rr (show keyDs ds = some k from h)
    subst this
    exact ⟨a, rfl, t.2⟩
  | _ => cases h
/-- what stands in the dict n at y; none: no such dict, no such key -/
def dgetD (s : S) (x y : D) : Option (Option D) := match x with
  | .obj n => (match s[n]? with
    | some (.dct kvs) => (keyD y).map (look keyD kvs)
    | some (.dctL kvs) => (keyD y).map (look keyD kvs)
    | some (.dctT kvs) => (keyT y).map (look keyT kvs)
    | some (.dctTL kvs) => (keyT y).map (look keyT kvs)
    | _ => none)
  | _ => none
section
variable {G : Cg} {W : WX} {X : Cx} {ι : Z} {H : Hp}
theorem dget_ok {s : S} (q : Sim G ι H s) {x y : D} {w u : V} {o : Option D} (h : dgetD s x y = some o) (r1 : RelD G ι H x w) (r2 : RelD G ι H y u) : ∃ a r, w = .ref a ∧ DGet H a u r ∧ OptR G ι H o r := by
  unfold dgetD at h
  split at h
  · rename_i n
    simp only [RelD] at r1
    obtain ⟨a, rfl, ha⟩ := r1
    split at h
    · rename_i kvs hs
      obtain ⟨b, g1, _, ks, g3, g4⟩ := q.addr hs
      rw [ha] at g1; cases g1
      obtain ⟨k, hk, rfl⟩ := Option.map_eq_some_iff.1 h
      rw [key_rel r2 hk]
      exact ⟨a, _, rfl, .k g3, look_rel g4⟩
    · rename_i kvs hs
      obtain ⟨b, g1, _, f, ks, g3, g4⟩ := q.addr hs
      rw [ha] at g1; cases g1
      obtain ⟨k, hk, rfl⟩ := Option.map_eq_some_iff.1 h
      rw [key_rel r2 hk]
      exact ⟨a, _, rfl, .inl ⟨ks, k, .inr ⟨f, g3⟩, rfl, rfl⟩, look_rel g4⟩
    · rename_i kvs hs
      obtain ⟨b, g1, _, ks, g3, g4⟩ := q.addr hs
      rw [ha] at g1; cases g1
      obtain ⟨k, hk, rfl⟩ := Option.map_eq_some_iff.1 h
      obtain ⟨c, rfl, hc⟩ := keyT_rel r2 hk
      exact ⟨a, _, rfl, .t g3 hc, look_rel g4⟩
    · rename_i kvs hs
      obtain ⟨b, g1, _, f, ks, g3, g4⟩ := q.addr hs
      rw [ha] at g1; cases g1
      obtain ⟨k, hk, rfl⟩ := Option.map_eq_some_iff.1 h
      obtain ⟨c, rfl, hc⟩ := keyT_rel r2 hk
      exact ⟨a, _, rfl, .inr ⟨ks, k, c, .inr ⟨f, g3⟩, rfl, hc, rfl⟩, look_rel g4⟩
    · cases h
  · cases h
/-! d[k] -/
def opIxU : F2 := fun x y s => match dgetD s x y with
  | some (some d) => .ok d s
  | some none => .bad
  | none => opIx x y s
abbrev rIxU (K : PySem.W.Frag) : R2 := fun x y H Q => (∃ a v, x = .ref a ∧ DGet H a y (some v) ∧ Q v H) ∨ rIx K x y H Q
theorem ix_dict (hu : X.A.units + 64 < cLine) : IxR X (fun x y H Q => ∃ a v, x = .ref a ∧ DGet H a y (some v) ∧ Q v H) := by
  intro value slice pins s σ H x y v u Q I rx ry h hs
  obtain ⟨a, w, rfl, g, q⟩ := h
  cases rx
  exact tail_any (dict_typeIs I g) PySem.F.slot_dict_getitem.lookup (d_getItem (by omega) I g ry fun w' s3 I3 rw' => ⟨w, H, I3, rw', q⟩) hs
theorem v_ixU : OpV G W (rIxU G.K) opIxU := fun ι H s x y v u Q q r1 r2 h => by
  unfold opIxU at h
  split at h
  · rename_i d hd
    obtain ⟨a, r, rfl, g, o⟩ := dget_ok q hd r1 r2
    cases r with
    | none => exact o.elim
    | some w => exact .inl ⟨a, w, rfl, g, h.val q o⟩
  · exact h.elim
  · exact .inr (v_ix ι H s x y v u Q q r1 r2 h)
theorem ve_ixU {a b : Expr} {ma mb : ME} {pos : Pos} (hu : X.A.units + 64 < cLine) (ha : VE X W a ma) (hb : VE X W b mb) (hs : PlainIx b := by exact fun _ _ => rfl) : VE X W (.Subscript a b pos) (mBin opIxU ma mb) :=
  pe_imp (pe_ix ((ix_dict hu).or ix_seq) ha hb hs) (rd_bin v_ixU (fun _ _ _ h => h) fun _ _ _ h => h)
/-! k in d -/
def opInU (f : Bool → Bool) : F2 := fun x y s => match dgetD s y x with
  | some o => .ok (.bl (f o.isSome)) s
  | none => opInB f x y s
abbrev opInD : F2 := opInU fun b => b
abbrev opNotInD : F2 := opInU fun b => !b
def rDI (f : Bool → Bool) : R2 := fun y x H Q => ∃ a o, x = .ref a ∧ DGet H a y o ∧ Q (.bl (f o.isSome)) H
theorem op_dnotin (hu : X.A.units + 65 < cLine) : OpR X (compareOp .NotIn) (rDI fun b => !b) := by
  intro pins s σ H y x u v Q I ry rx h
  obtain ⟨a, o, rfl, g, q⟩ := h
  cases rx
  exact d_notIn (by omega) I g ry fun s3 I3 => ⟨.bl (!o.isSome), H, I3, rfl, q⟩
theorem opt_some {o : Option D} {r : Option V} (h : OptR G ι H o r) : o.isSome = r.isSome := by
  cases o <;> cases r <;> first | rfl | exact h.elim
theorem op_notInU (hu : X.A.units + 65 < cLine) : OpR X (compareOp .NotIn) (fun x y H Q => rDI (fun b => !b) x y H Q ∨ rNotInA X.K x y H Q) := (op_dnotin hu).or (op_notInA hu)
theorem v_notInU : OpV G W (fun x y H Q => rDI (fun b => !b) x y H Q ∨ rNotInA G.K x y H Q) opNotInD := fun ι H s x y v u Q q r1 r2 h => by
  unfold opNotInD opInU at h
  split at h
  · rename_i o hd
    obtain ⟨a, r, rfl, g, oo⟩ := dget_ok q hd r2 r1
    exact .inl ⟨a, r, rfl, g, by rw [← opt_some oo]; exact h.val q (rb _)⟩
  · exact .inr (v_notIn ι H s x y v u Q q r1 r2 h)
/-! d[k] = v -/
def dputD (s : S) (x y v : D) : Option S := match x with
  | .obj n => (match s[n]? with
    | some (.dct kvs) => (keyD y).bind fun k => if kvs.length < LIM then some (s.set n (.dct (put keyD kvs y k v))) else none
    | some (.dctT kvs) => (keyT y).bind fun k => if kvs.length < LIM then some (s.set n (.dctT (put keyT kvs y k v))) else none
    | _ => none)
  | _ => none
theorem dput_ok {s s' : S} (q : Sim G ι H s) {x y d : D} {w u v : V} (h : dputD s x y d = some s') (r1 : RelD G ι H x w) (r2 : RelD G ι H y u) (r3 : RelD G ι H d v) :
    ∃ a H', w = .ref a ∧ DPut H a u v H' ∧ Ext ι H ι H' ∧ Sim G ι H' s' := by
  unfold dputD at h
  split at h
  · rename_i n
    simp only [RelD] at r1
    obtain ⟨a, rfl, ha⟩ := r1
    split at h
    · rename_i kvs hs
      obtain ⟨b, g1, g2, ks, g3, g4⟩ := q.addr hs
      rw [ha] at g1; cases g1
      obtain ⟨k, hk, h⟩ := Option.bind_eq_some_iff.1 h
      split at h
      · rename_i hl
        cases h
        rw [key_rel r2 hk]
        have hl2 : ks.length < sizeLine := by rw [← pr_len g4, sizeLine_eq]; have := hl; rw [show LIM = 1000000 from rfl] at this; omega
        refine ⟨a, _, rfl, .k g3 hl2, .write g2 (nfix g3 rfl), q.write ha (nfix g3 rfl) ⟨_, upd_same, ?_⟩⟩
        exact Paired.mapP (put_rel hk r3 g4) fun _ _ z => ⟨z.1, RelD.mono (.write g2 (nfix g3 rfl)) z.2⟩
      · cases h
    · rename_i kvs hs
      obtain ⟨b, g1, g2, ks, g3, g4⟩ := q.addr hs
      rw [ha] at g1; cases g1
      obtain ⟨k, hk, h⟩ := Option.bind_eq_some_iff.1 h
      split at h
      · rename_i hl
        cases h
        obtain ⟨c, rfl, hc⟩ := keyT_rel r2 hk
        have hl2 : ks.length < sizeLine := by rw [← pr_len g4, sizeLine_eq]; have := hl; rw [show LIM = 1000000 from rfl] at this; omega
        refine ⟨a, _, rfl, .t g3 hc hl2, .write g2 (nfix g3 rfl), q.write ha (nfix g3 rfl) ⟨_, upd_same, ?_⟩⟩
        exact Paired.mapP (put_rel hk r3 g4) fun _ _ z => ⟨z.1, RelD.mono (.write g2 (nfix g3 rfl)) z.2⟩
      · cases h
    · cases h
  · cases h
def rSetD : V → V → V → Hp → (Hp → Prop) → Prop := fun o i v H Q => ∃ a H', o = .ref a ∧ DPut H a i v H' ∧ Q H'
theorem set_dict (hu : X.A.units + 64 < cLine) : PSet X rSetD := by
  intro pins s σ H o i v ov iv u Q I ro ri rv h
  obtain ⟨a, H', rfl, g, q⟩ := h
  cases ro
  exact d_setItem (by omega) I g ri rv fun s' I' => ⟨H', I', q⟩
theorem set_or {t t' : TSet} (h : PSet X t) (h' : PSet X t') : PSet X (fun o i v H Q => t o i v H Q ∨ t' o i v H Q) := by
  intro pins s σ H o i v ov iv u Q I ro ri rv z
  exact z.elim (h pins s σ H o i v ov iv u Q I ro ri rv) (h' pins s σ H o i v ov iv u Q I ro ri rv)
def setIxU (o i v : D) (s : S) : Option S := match dputD s o i v with
  | some s' => some s'
  | none => setIx o i v s
def gIxU (mo mi : ME) : MG := fun d ρ s => (mo ρ s).bnd fun o s1 => (mi ρ s1).bnd fun i s2 => match setIxU o i d s2 with
  | some s3 => .ok ρ s3
  | none => .bad
theorem vg_ixU {o i : Expr} {mo mi : ME} {pos : Pos} (hu : X.A.units + 64 < cLine) (ho : VE X W o mo) (hi : VE X W i mi) (ha : ∀ v, assign (.Subscript o i pos) X.env v = (do
      let ov ← holding [v] (eval o X.env)
      let iv ← holding [v, ov] (eval i X.env)
      standAt pos
      holding [v, ov, iv] (setItem ov iv v)
      release [v, ov, iv] []) := by intro _; rfl) : VG X W (.Subscript o i pos) (gIxU mo mi) :=
  pg_imp (pg_sub ho hi (set_or (set_dict hu) set_list) ha) fun v σ H Q ⟨ι, s, ρ, d, q, e, r, h⟩ => by
    refine rdE_on q e h fun x w ι1 H1 s1 e1 q1 r1 h1 => rdE_on q1 (e.mono e1) h1 fun y u ι2 H2 s2 e2 q2 r2 h2 => ?_
    split at h2
    · rename_i s3 hs
      unfold setIxU at hs
      split at hs
      · rename_i s4 hd
        cases hs
        obtain ⟨a, H', rfl, g, ex, q3⟩ := dput_ok q2 hd (r1.mono e2) r2 ((r.mono e1).mono e2)
        exact .inl ⟨a, H', rfl, g, h2 ι2 _ ex q3 σ (((e.mono e1).mono e2).mono ex)⟩
      · refine .inr ?_
        unfold setIx at hs
        split at hs
        · rename_i n k hnone
          split at hs
          · rename_i ds hd
            split at hs
            · rename_i j hj
              cases hs
              obtain ⟨a, g1, g2, xs, g3, g4⟩ := q2.addr hd
              have r1' := r1.mono e2
              simp only [RelD] at r1'
              obtain ⟨b, rfl, eb⟩ := r1'
              rw [g1] at eb; cases eb
              refine ⟨a, xs, k, j, rfl, relI r2, g3, by rw [g4.len]; exact hj, ?_⟩
              refine h2 ι2 _ (.write g2 (nfix g3 rfl)) (q2.write g1 (nfix g3 rfl) ⟨_, upd_same, ?_⟩) σ (((e.mono e1).mono e2).mono (.write g2 (nfix g3 rfl)))
              exact RelDs.set ((((r.mono e1).mono e2)).mono (.write g2 (nfix g3 rfl))) j (g4.mono (.write g2 (nfix g3 rfl)))
            · cases hs
          · cases hs
        · cases hs
    · exact h2.elim
/-! {} -/
def mNewK : ME := fun _ s => .ok (.obj s.length) (s ++ [.dct []])
def mNewT : ME := fun _ s => .ok (.obj s.length) (s ++ [.dctT []])
end
end VL
namespace VL
open PySem PySem.Spec PyProof.Rows L2

/-! ### {k: v} -/
def mDisp1 (mk mv : ME) : ME := fun ρ s => (noX (mk ρ s)).bnd fun k s1 => (noX (mv ρ s1)).bnd fun v s2 => if (keyD k).isSome = true then .ok (.obj s2.length) (s2 ++ [.dct [(k, v)]]) else .bad
section
variable {X : Cx} {W : WX} {pos : Pos}
theorem disp_end {G : Cg} {ι1 : Z} {H1 : Hp} {p : Addr} {ι' : Z} {H' : Hp} {s' : S} {o : O} {ho : HO} {Q : VK} (hf : fixO ho = false) (I : LcI G ι1 H1 p ι' H' s') (hn : H1 p = none) (np : p ∉ ι1.res) (ro : RelO G ⟨ι'.ad ++ [p], ι1.res⟩ (upd H' p ho) p o)
    (h : Post G W ι1 H1 (QE G Q) (.ok (.obj s'.length) (s' ++ [o]))) : Q (.ref p) (upd H' p ho) := by
  have J := I.write (o := ho) hn hf
  refine h ⟨ι'.ad ++ [p], ι1.res⟩ _ ⟨?_, rfl, J.x.keep, J.x.dom, J.x.fix⟩ (J.q.adopt J.r np ro) _ ?_
  · obtain ⟨μ, e1, e2⟩ := J.x.more
    refine ⟨μ ++ [p], by show ι'.ad ++ [p] = _; rw [show ι'.ad = ι1.ad ++ μ from e1, List.append_assoc], fun a ha => ?_⟩
    rcases List.mem_append.mp ha with z | z
    · exact e2 a z
    · rw [List.mem_singleton.mp z]; exact hn
  · simp only [RelD]
    refine ⟨p, rfl, ?_⟩
    show (ι'.ad ++ [p])[s'.length]? = _
    rw [← J.q.len]; simp
theorem ve_disp1 {k v : Expr} {mk mv : ME} (hk : VE X W0 k mk) (hv : VE X W0 v mv) : VE X W (.Dict [some k] [v] pos) (mDisp1 mk mv) :=
  pe_imp (pe_disp (pps_cons hk hv pps_nil) rfl rfl (by simp) (by simp)) fun σ H Q ⟨ι, s, ρ, q, e, h⟩ p hn => by
    unfold mDisp1 at h
    obtain ⟨kd, s1, ek, h⟩ := noX_bnd h
    obtain ⟨vd, s2, ev, h⟩ := noX_bnd h
    have npr : p ∉ ι.res := (q.off hn).2
    have I0 : LcI (cg X) ι H p (ι.keep p) (upd H p (.dK [])) s := .start q hn
    have e0 : EnvR (cg X) (ι.keep p) (upd H p (.dK [])) σ ρ := e.monoW (Ext.toKeep q hn)
    have hp0 : (upd H p (.dK [])) p = some (.dK []) := upd_same
    refine ⟨ι.keep p, s, ρ, I0.q, e0, ?_⟩
    rw [ek]
    intro ι1 H1 x1 q1 w1 r1
    have I1 := I0.step x1 q1
    have np1 : p ∉ (ι.keep p).ad := (I0.q.rs p (by rw [I0.r]; exact List.mem_cons_self ..)).2
    have hp1 : H1 p = some (.dK []) := x1.keep p _ np1 rfl hp0
    refine ⟨ι1, s1, ρ, q1, e0.mono x1, ?_⟩
    rw [ev]
    intro ι2 H2 x2 q2 w2 r2
    have I2 := I1.step x2 q2
    have np2 : p ∉ ι1.ad := (I1.q.rs p (by rw [I1.r]; exact List.mem_cons_self ..)).2
    have hp2 : H2 p = some (.dK []) := x2.keep p _ np2 rfl hp1
    split at h
    · rename_i hs
      obtain ⟨ky, hky⟩ := Option.isSome_iff_exists.1 hs
      refine ⟨hp2, [(ky, w2)], ?_, by simp, ?_⟩
      · rw [key_rel r1 hky]; rfl
      · refine disp_end rfl I2 hn npr ?_ h
        refine ⟨_, upd_same, .cons ⟨hky, ?_⟩ .nil⟩
        have J := I2.write (o := .dK (mergeK [] [(ky, w2)])) hn
        have hm : p ∈ ι2.res := by rw [I2.r]; exact List.mem_cons_self ..
        exact RelD.monoW (ExtW.adopt J.r) _ (RelD.monoW (ExtW.inKeep hm (I2.q.rsn hm)) _ r2)
    · exact h.elim
/-! ### x += n -/
def mAugAdd (i : Nat) (m : ME) : MS := fun ρ s => match ρ[i]? with
  | some (some (.int a)) => (m ρ s).bnd fun d s1 => (match d with
    | .int b => .ok (.nx (ρ.set i (some (.int (a + b))))) s1
    | _ => .bad)
  | _ => .bad
theorem vs_augAdd (i : Nat) {x : Str} {e : Expr} {m : ME} {pos' : Pos} (hN : X.N.Nodup) (he : VE X W e m) (hi : X.N[i]? = some x := by rfl) (hx : Loc X.env.scope x := by exact .inl rfl) (hf : X.fn x = true ∨ X.env.scope.names.lookup x = some .local := by first | exact .inl rfl | exact .inr rfl | assumption) :
    VS X W (.AugAssign (.Name x pos') .Add e pos) (mAugAdd i m) :=
  ps_imp (ps_aug hN hi hx he ip_add hf) fun Dn σ H h => by
    obtain ⟨ι, s, ρ, q, e, h⟩ := h
    unfold mAugAdd at h
    split at h
    · rename_i a ha
      obtain ⟨v, hv, rv⟩ := e.2 i _ ha
      refine ⟨v, hv, rdE_on q e h fun d w ι1 H1 s1 e1 q1 r1 h1 => ?_⟩
      split at h1
      · rename_i b
        refine ⟨a, b, relI rv, relI r1, ?_⟩
        exact h1.here q1 _ ((e.mono e1).set (by simp only [RelD]))
      · exact h1.elim
    · exact h.elim
/-! ### sorted(d), len(d) -/
def keyI : List (D × D) → Option (List Int)
  | [] => some []
  | (.int i, _) :: r => (keyI r).map (i :: ·)
  | _ => none
def fSortedU : FA := fun xs s => match xs with
  | [.obj n] => (match s[n]? with
    | some (.dct kvs) => (match keyI kvs with
      | some ks => if ks.length < 64 then .ok (.lst ((isort ks).map .int)) s else .bad
      | none => .bad)
    | _ => fSorted [.obj n] s)
  | xs => fSorted xs s
theorem keyI_rel {G : Cg} {ι : Z} {H : Hp} : ∀ {kvs : List (D × D)} {ks : List (Key × V)} {is : List Int}, PR G ι H keyD kvs ks → keyI kvs = some is → ks.map (·.1) = is.map Sum.inl
  | _, _, _, .nil, h => by simp only [keyI, Option.some.injEq] at h; subst h; rfl
  | _, _, _, .cons (a := a) (b := b) h t, hk => by
    obtain ⟨x, y⟩ := a
    cases x with
    | int i =>
      simp only [keyI, Option.map_eq_some_iff] at hk
      obtain ⟨is, h1, rfl⟩ := hk
      have e := h.1
      simp only [keyD, Option.some.injEq] at e
      simp only [List.map_cons, keyI_rel t h1, ← e]
    | _ => simp [keyI] at hk
abbrev rSortedD : List V → Hp → VK → Prop := fun xs H Q => ∃ (a : Addr) (kvs : List (Key × V)) (ks : List Int), xs = [.ref a] ∧ Rd H a (.dK kvs) ∧ kvs.map (·.1) = ks.map Sum.inl ∧ ks.length < 64 ∧
    ∀ (ys : List Int) (p : Addr), ys.Perm ks → ys.Pairwise (· ≤ ·) → H p = none → Q (.ref p) (upd H p (.lst (ys.map V.int)))
theorem cr_or {f : Value} {r r' : List V → Hp → VK → Prop} (h : CallR X f r) (h' : CallR X f r') : CallR X f (fun xs H Q => r xs H Q ∨ r' xs H Q) := by
  intro pins s σ H xs us Q I rv z
  exact z.elim (h pins s σ H xs us Q I rv) (h' pins s σ H xs us Q I rv)
theorem cr_sortedU (hc : X.calm = true) : CallR X (.builtin "sorted") (fun xs H Q => rSortedD xs H Q ∨ rSortedI X.K xs H Q) := cr_or (call_sortedDI hc) cr_sortedI
theorem v_sortedU {G : Cg} : CallV G W (fun xs H Q => rSortedD xs H Q ∨ rSortedI G.K xs H Q) fSortedU := fun ι H s xs vs Q q r h => by
  unfold fSortedU at h
  split at h
  · rename_i n
    split at h
    · rename_i kvs hs
      split at h
      · rename_i is hi
        split at h
        · rename_i h64
          obtain ⟨v, rfl, r1⟩ := rel1 r
          simp only [RelD] at r1
          obtain ⟨a, rfl, ha⟩ := r1
          obtain ⟨b, g1, _, ks, g3, g4⟩ := q.addr hs
          rw [ha] at g1; cases g1
          exact .inl ⟨a, ks, is, rfl, .inl g3, keyI_rel g4 hi, h64, fun ms p pm pw hp => by rw [isort_of pm pw]; exact h.newL q RelDs.ofInts hp⟩
        · exact h.elim
      · exact h.elim
    · exact .inr (v_sorted ι H s _ vs Q q r h)
  · exact .inr (v_sorted ι H s _ vs Q q r h)
end
end VL
namespace VL
open PySem PySem.Spec PyProof.Rows L2

/-! ### list comprehensions of any number of clauses: what follows a clause's tests is handed on -/
def testsOf (ifs : List Expr) (env : Env) : Sem Bool :=
  forIn ifs true fun q r => if r = true then do
    let b ← isTrue q env (eval q env)
    pure (ForInStep.yield b)
  else pure (ForInStep.yield r)
def turnOf (t i : Expr) (ifs : List Expr) (rest : Sem PySem.Fin → Sem PySem.Fin) (c : Code) (it : Value) (env : Env) : Sem PySem.Fin :=
  standAt i.pos >>= fun _ => pyNext it >>= fun r => match r with
    | none => pure (.done .next)
    | some v => letOwnedTupleGo t it v >>= fun _ => assign t env v >>= fun _ => testsOf ifs env >>= fun ok => if ok = true then rest (again c) else again c
def restApp (elt : Expr) (acc : Value) (env : Env) : Sem PySem.Fin → Sem PySem.Fin := fun k =>
  (eval elt env >>= fun x => call (.builtin "list.append") [acc, x] >>= fun _ => pure PUnit.unit) >>= fun _ => k
def restIn (i1 : Expr) (e : Expr) (n : Nat) (acc : Value) (env : Env) : Sem PySem.Fin → Sem PySem.Fin := fun k =>
  eval i1 env >>= fun x => standAt i1.pos >>= fun _ => foldedSetIterable i1 env x >>= fun y => holding [y] (pyIter y) >>= fun z => runOwn (.compStart e n z acc env) env >>= fun _ => k
section
variable {prog : Program} {w : World} {A : Around} {s : Shared} {elt t0 i0 t1 i1 t2 i2 : Expr} {ifs0 ifs1 ifs2 : List Expr} {scope : Scope} {pos : Pos} {it acc : Value} {env : Env}
/-- nothing is raised -/
abbrev Fls : Value → Shared → Prop := fun _ _ => False
end

/-- what follows the tests: from tb it comes to Nx, the slots vs forgotten -/
def BO (X : Cx) (vs : List Nat) (rest : Sem PySem.Fin → Sem PySem.Fin) (tb : L2.St → Hp → (Hp → Prop) → Prop) : Prop :=
  ∀ (pins : List (Addr × Obj)) (s : Shared) (σ : L2.St) (H : Hp) (Nx : Hp → Prop) (k : Sem PySem.Fin) (Q : PySem.Fin → Shared → Prop), Inv X pins σ H s → tb σ H Nx →
    (∀ s' H', Inv X pins (L2.wipe σ vs) H' s' → Nx H' → wpAny (model X.prog X.w) X.A k Q Fls s') → wpAny (model X.prog X.w) X.A (rest k) Q Fls s
section
variable {X : Cx}
def tApp (D : Addr) (te : TE) : L2.St → Hp → (Hp → Prop) → Prop := fun σ H Nx => te σ H fun y H1 => ∃ acc, H1 D = some (.lst acc) ∧ acc.length < sizeLine ∧ Nx (upd H1 D (.lst (acc ++ [y])))
def tIn (wi : TI) (g : TG) (tt : TT) (tb : L2.St → Hp → (Hp → Prop) → Prop) (vs : List Nat) : L2.St → Hp → (Hp → Prop) → Prop := fun σ H Nx => wi σ H fun J H1 => ∃ W : Nat → Nat → Hp → Prop, (∃ m, W 0 m H1) ∧ ∀ j m H, W j m H →
  (J.stop j H ∧ Nx H) ∨ (J.go j H ∧ ∃ Ny : Hp → Prop, (∀ H', Ny H' → ∃ m', m' < m ∧ W (j + 1) m' H') ∧ ∀ x H', J.yld j H x H' → g x (L2.wipe σ vs) H' fun σ2 H2 => L2.wipe σ2 vs = L2.wipe σ vs ∧ tt σ2 H2 fun b H3 => if b = true then tb σ2 H3 Ny else Ny H3)
/-- the whole -/
def tLcN (wi : TI) (g : TG) (tt : TT) (tb : Addr → L2.St → Hp → (Hp → Prop) → Prop) (vs : List Nat) : TE := fun σ H Q => wi σ H fun J H1 => ∀ D, H1 D = none → ∃ W : Nat → Nat → Hp → Prop, (∃ m, W 0 m (upd H1 D (.lst []))) ∧ ∀ j m H, W j m H →
  (J.stop j H ∧ Q (.ref D) H) ∨ (J.go j H ∧ ∃ Ny : Hp → Prop, (∀ H', Ny H' → ∃ m', m' < m ∧ W (j + 1) m' H') ∧ ∀ x H', J.yld j H x H' → g x (L2.wipe σ vs) H' fun σ2 H2 => L2.wipe σ2 vs = L2.wipe σ vs ∧ tt σ2 H2 fun b H3 => if b = true then tb D σ2 H3 Ny else Ny H3)
end
end VL
namespace VL
open PySem PySem.Spec PyProof.Rows L2

abbrev MB := Ev → List D → S → R (List D)
def bApp (el : ME) : MB := fun ρ acc s => (noX (el ρ s)).bnd fun y s1 => if acc.length < LIM then .ok (acc ++ [y]) s1 else .bad
def bGo (src : Src) (t : Tg) (tt : MT) (b : MB) (ρw : Ev) : Nat → Nat → List D → S → R (List D)
  | 0, i, acc, s => (match srcAt s src with
    | some xs => if xs.length = i then .ok acc s else .bad
    | none => .bad)
  | n + 1, i, acc, s => (match srcAt s src with
    | some xs => (match xs[i]? with
      | some d => (match tgM t d ρw with
        | some ρ1 => (noX (tt ρ1 s)).bnd fun k s1 => if k = true then (noX (b ρ1 acc s1)).bnd fun acc' s2 => bGo src t tt b ρw n (i + 1) acc' s2 else bGo src t tt b ρw n (i + 1) acc s1
        | none => .bad)
      | none => .bad)
    | none => .bad)
def bIn (it : MI) (t : Tg) (tt : MT) (b : MB) (vs : List Nat) : MB := fun ρ acc s => (noX (it ρ s)).bnd fun src s1 => match srcAt s1 src with
  | some xs => if (∀ i ∈ t.slots, i ∈ vs) then bGo src t tt b (wipeD ρ vs) xs.length 0 acc s1 else .bad
  | none => .bad
def mLcN (fin : List D → S → R D) (it : MI) (t : Tg) (tt : MT) (b : MB) (vs : List Nat) : ME := fun ρ s => ((it ρ s).bnd fun src s1 => match srcAt s1 src with
  | some xs => if (∀ i ∈ t.slots, i ∈ vs) then bGo src t tt b (wipeD ρ vs) xs.length 0 [] s1 else .bad
  | none => .bad).bnd fin
/-- a body's reading: from here it reaches Nx, the list at p made longer -/
def rdMB (G : Cg) (b : MB) (p : Addr) : L2.St → Hp → (Hp → Prop) → Prop := fun σ H Nx => ∃ ι1 H1 ι s ρ acc av, LcI G ι1 H1 p ι H s ∧ EnvR G ι H σ ρ ∧ RelDs G ι H acc av ∧ H p = some (.lst av) ∧ H1 p = none ∧
  ∃ acc' s', b ρ acc s = .ok acc' s' ∧ ∀ ι' H' av', LcI G ι1 H1 p ι' H' s' → ExtW ι H ι' H' → RelDs G ι' H' acc' av' → H' p = some (.lst av') → Nx H'
theorem ExtW.refl (ι : Z) (H : Hp) : ExtW ι H ι H := ⟨fun _ _ h => h, fun _ h _ => h, fun _ h => h, fun _ _ _ _ h => h, fun _ _ _ h => h⟩
section
variable {X : Cx} {W : WX}
abbrev VB (X : Cx) (vs : List Nat) (rest : Value → Env → Sem PySem.Fin → Sem PySem.Fin) (b : MB) : Prop := ∀ D : Addr, BO X vs (rest (.ref D) X.env) (rdMB (cg X) b D)
end
end VL
namespace VL
open PySem PySem.Spec PyProof.Rows L2
section
variable {X : Cx} {W : WX}
/-! xs.extend(ys) -/
def fExtend (x : D) (y : D) (s : S) : R D := match x, asX s y with
  | .obj n, some zs => (match s[n]? with
    | some (.lst ds) => if ds.length + zs.length ≤ LIM then .ok .non (s.set n (.lst (ds ++ zs))) else .bad
    | _ => .bad)
  | _, _ => .bad
def mExtend (mo me : ME) : ME := fun ρ s => (mo ρ s).bnd fun x s1 => if isLstO s1 x = true then (me ρ s1).bnd fun y s2 => fExtend x y s2 else .bad
/-! x is True, x is not True -/
def opIsB : F2 := fun x y s => match x, y with
  | .bl a, .bl b => .ok (.bl (decide (a = b))) s
  | _, _ => .bad
def opNotB : F2 := fun x y s => match x, y with
  | .bl a, .bl b => .ok (.bl (!decide (a = b))) s
  | _, _ => .bad
variable {G : Cg}
end
end VL
namespace VL
open PySem PySem.Spec PyProof.Rows L2

/-! ### instances of own classes -/
theorem RoomG.make {k : Nat} {A : Around} (r : RoomG (k + 1) A) (C : Addr) (us : List Value) (kw : List (Str × Value)) : RoomG k (A.under (.builtin "type.__call__" ⟨.ref C :: us, kw⟩)) :=
  ⟨r.r.make C us kw, by simp [Around.under, Code.guards, Code.isGuard, guardIds, pushGuards, r.g]⟩
def fldG (fs : List (Str × D)) (f : Str) : Option D := fs.lookup f
def putFD (f : Str) (v : D) : List (Str × D) → List (Str × D)
  | [] => [(f, v)]
  | (g, x) :: r => if g = f then (g, v) :: r else (g, x) :: putFD f v r
abbrev FR (G : Cg) (ι : Z) (H : Hp) (fs : List (Str × D)) (gs : List (Str × V)) : Prop := Paired (fun (p : Str × D) q => p.1 = q.1 ∧ RelD G ι H p.2 q.2) fs gs
theorem fr_lookup {G : Cg} {ι : Z} {H : Hp} {f : Str} {d : D} : ∀ {fs : List (Str × D)} {gs : List (Str × V)}, FR G ι H fs gs → fs.lookup f = some d → ∃ v, gs.lookup f = some v ∧ RelD G ι H d v
  | _, _, .nil, h => by cases h
  | _, _, .cons (a := a) (b := b) (l₁ := l1) (l₂ := l2) h t, e => by
    obtain ⟨x, dx⟩ := a
    obtain ⟨y, vy⟩ := b
    obtain ⟨h1, h2⟩ := h
    simp only at h1 h2
    subst h1
    simp only [List.lookup_cons] at e ⊢
    split at e
    · cases e
      exact ⟨vy, rfl, h2⟩
    · exact fr_lookup t e
theorem fr_none {G : Cg} {ι : Z} {H : Hp} {f : Str} : ∀ {fs : List (Str × D)} {gs : List (Str × V)}, FR G ι H fs gs → fs.lookup f = none → gs.lookup f = none
  | _, _, .nil, h => rfl
  | _, _, .cons (a := a) (b := b) h t, e => by
    obtain ⟨x, dx⟩ := a
    obtain ⟨y, vy⟩ := b
    obtain ⟨h1, h2⟩ := h
    simp only at h1 h2
    subst h1
    simp only [List.lookup_cons] at e ⊢
    split at e
    · cases e
    · exact fr_none t e
theorem fr_put {G : Cg} {ι : Z} {H : Hp} {f : Str} {d : D} {v : V} (r : RelD G ι H d v) : ∀ {fs : List (Str × D)} {gs : List (Str × V)}, FR G ι H fs gs → FR G ι H (putFD f d fs) (putF f v gs)
  | _, _, .nil => .cons ⟨rfl, r⟩ .nil
  | _, _, .cons (a := a) (b := b) h t => by
    obtain ⟨x, dx⟩ := a
    obtain ⟨y, vy⟩ := b
    obtain ⟨h1, h2⟩ := h
    simp only at h1 h2
    subst h1
    simp only [putFD, putF]
    split
    · exact .cons ⟨rfl, r⟩ t
    · exact .cons ⟨rfl, h2⟩ (fr_put r t)
/-- the class of an instance, its fields -/
def insOf (s : S) : D → Option (Str × List (Str × D))
  | .obj n => match s[n]? with
    | some (.ins c fs) => some (c, fs)
    | _ => none
  | _ => none
theorem insOf_at {G : Cg} {ι : Z} {H : Hp} {s : S} (q : Sim G ι H s) {d : D} {v : V} {c : Str} {fs : List (Str × D)} (r : RelD G ι H d v) (h : insOf s d = some (c, fs)) : ∃ n a C dx gs, d = .obj n ∧ s[n]? = some (.ins c fs) ∧ v = .ref a ∧ ι.ad[n]? = some a ∧ a ∈ ι.ad ∧ G.mg c = some (.ref C) ∧ H a = some (.ins C dx gs) ∧ FR G ι H fs gs := by
  unfold insOf at h
  split at h
  · rename_i n
    split at h
    · rename_i c' fs' hs
      cases h
      obtain ⟨a, g1, g2, C, dx, gs, g3, g4, g5⟩ := q.addr hs
      simp only [RelD] at r
      obtain ⟨b, rfl, eb⟩ := r
      rw [g1] at eb; cases eb
      exact ⟨n, a, C, dx, gs, rfl, hs, rfl, g1, g2, g3, g4, g5⟩
    · cases h
  · cases h
/-- a class whose instances have plain fields of these names -/
structure FldOk (K : PySem.W.Frag) (mg : Str → Option Value) (cs : List Str) (f : Str) : Prop where
  ok : ∀ c ∈ cs, ∀ C, mg c = some (.ref C) → Cls K C ∧ NoAttr K C f
def mFld (cs : List Str) (f : Str) (m : ME) : ME := fun ρ s => (m ρ s).bnd fun d s1 => match insOf s1 d with
  | some (c, fs) => if c ∈ cs then (match fs.lookup f with
    | some v => .ok v s1
    | none => .bad) else .bad
  | none => .bad
def mSetFld (cs : List Str) (f : Str) (mo mv : ME) : MS := fun ρ s => (mv ρ s).bnd fun v s1 => (mo ρ s1).bnd fun o s2 => match o with
  | .obj n => (match s2[n]? with
    | some (.ins c fs) => if c ∈ cs ∧ fs.length < 1000 then .ok (.nx ρ) (s2.set n (.ins c (putFD f v fs))) else .bad
    | _ => .bad)
  | _ => .bad
/-- C(..) -/
structure ClN (P : Program) (w : World) (K : PySem.W.Frag) (mg : Str → Option Value) (base : Heap) (k : Nat) (x : Str) (n : Nat) (m : FM) : Prop where
  ex : ∃ (C f : Addr) (fd : FuncData) (ps : List Str), mg x = some (.ref C) ∧ Mk K C f ∧ FnG P w K mg base k f fd ps (spG ⟨K, mg⟩ (n + 1) m) ∧ Binds K fd ps []
def mNew (c : Str) (m : FM) (ms : MA) : ME := fun ρ s => (ms ρ s).bnd fun ds s1 => (retag ρ (m (.obj s1.length :: ds) (s1 ++ [.ins c []]))).bnd fun d s2 => match d with
  | .non => .ok (.obj s1.length) s2
  | _ => .bad
/-- an instance that may be called -/
structure ClI (P : Program) (w : World) (K : PySem.W.Frag) (mg : Str → Option Value) (base : Heap) (k : Nat) (x : Str) (n : Nat) (m : FM) : Prop where
  ex : ∀ C, mg x = some (.ref C) → ∃ (f : Addr) (fd : FuncData) (ps : List Str), StX.CallO K C f ∧ FnG P w K mg base k f fd ps (spG ⟨K, mg⟩ (n + 1) m) ∧ Binds K fd ps []
def isObjD : D → Bool
  | .obj _ => true
  | _ => false
def mCallI (cs : List (Str × FM)) (mf : ME) (ms : MA) : ME := fun ρ s => (mf ρ s).bnd fun d s1 => if isObjD d = true then (ms ρ s1).bnd fun ds s2 => (match insOf s2 d with
  | some (c, _) => (match cs.lookup c with
    | some m => retag ρ (m (d :: ds) s2)
    | none => .bad)
  | none => .bad) else .bad
/-- o.meth(..) -/
structure ClM (P : Program) (w : World) (K : PySem.W.Frag) (mg : Str → Option Value) (base : Heap) (k : Nat) (x meth : Str) (n : Nat) (m : FM) : Prop where
  ex : ∀ C, mg x = some (.ref C) → ∃ (f : Addr) (fd : FuncData) (ps : List Str), Cls K C ∧ Meth K C meth f ∧ FnG P w K mg base k f fd ps (spG ⟨K, mg⟩ (n + 1) m) ∧ Binds K fd ps []
def mMeth (cs : List (Str × FM)) (meth : Str) (mo : ME) (ms : MA) : ME := fun ρ s => (mo ρ s).bnd fun d s1 => match insOf s1 d with
  | some (c, fs) => (match cs.lookup c with
    | some m => if fs.lookup meth = none then (ms ρ s1).bnd fun ds s2 => retag ρ (m (d :: ds) s2) else .bad
    | none => .bad)
  | none => .bad
section
variable {X : Cx} {W : WX} {k j n : Nat} {x f : Str} {p pos pos' apos cpos : Pos} {e o fe : Expr} {es : List Expr} {mo mv mf : ME} {ms : MA} {m : FM} {cs : List Str}
theorem ve_fld (F : FldOk X.K X.mg cs f) (he : VE X W e mo) (hb : attributeBase e f X.env (eval e X.env) = eval e X.env := by rfl) : VE X W (.Attribute e f pos) (mFld cs f mo) :=
  pe_imp (pe_fld he hb) fun σ H Q ⟨ι, s, ρ, q, en, h⟩ => by
    refine rdE_on q en h fun d v ι1 H1 s1 e1 q1 r1 h1 => ?_
    split at h1
    · rename_i c fs hi
      split at h1
      · rename_i hc
        split at h1
        · rename_i u hu
          obtain ⟨n, a, C, dx, gs, rfl, hs, rfl, g1, g2, g3, g4, g5⟩ := insOf_at q1 r1 hi
          obtain ⟨w, hw, rw'⟩ := fr_lookup g5 hu
          obtain ⟨c1, c2⟩ := F.ok c hc C g3
          exact ⟨a, C, dx, gs, w, rfl, g4, c1, c2, hw, h1.val q1 rw'⟩
        · exact h1.elim
      · exact h1.elim
    · exact h1.elim
theorem vs_fld (F : FldOk X.K X.mg cs f) (ho : VE X W o mo) (hv : VE X W e mv) (hs : swapsWith e (some (.Attribute o f pos')) pos.line X.env = pure false := by rfl) : VS X W (.Assign [.Attribute o f pos'] e pos) (mSetFld cs f mo mv) :=
  ps_imp (ps_fld ho hv hs) fun Dn σ H ⟨ι, s, ρ, q, en, h⟩ => by
    refine rdE_on q en h fun v w ι1 H1 s1 e1 q1 r1 h1 => rdE_on q1 (en.mono e1) h1 fun ob u ι2 H2 s2 e2 q2 r2 h2 => ?_
    split at h2
    · rename_i n
      split at h2
      · rename_i c fs hs
        split at h2
        · rename_i hc
          obtain ⟨n', a, C, dx, gs, en', hs', rfl, g1, g2, g3, g4, g5⟩ := insOf_at q2 r2 (show insOf s2 (.obj n) = some (c, fs) by simp [insOf, hs])
          cases en'
          obtain ⟨c1, c2⟩ := F.ok c hc.1 C g3
          refine ⟨a, C, dx, gs, rfl, g4, c1, c2, by rw [← Paired.length g5]; exact hc.2, ?_⟩
          refine h2 ι2 _ (.write g2 (nfix g4 rfl)) (q2.write g1 (nfix g4 rfl) ⟨C, dx, _, g3, upd_same, ?_⟩) _ (((en.mono e1).mono e2).mono (.write g2 (nfix g4 rfl)))
          exact Paired.mapP (fr_put (r1.mono e2) g5) fun _ _ z => ⟨z.1, RelD.mono (.write g2 (nfix g4 rfl)) z.2⟩
        · exact h2.elim
      · exact h2.elim
    · exact h2.elim
/-- where the callee stands -/
theorem runGc {f : Addr} {fd : FuncData} {ps : List Str} {sp : Sp} {E : XK} {pins : List (Addr × Obj)} {σ : L2.St} {H : Hp} {st : Shared} {Q : VK} {us : List Value} {vs : List V} (F : FnG X.prog X.w X.K X.mg X.base k f fd ps sp) (hr : RoomG k X.A)
    (hb : Binds X.K fd ps []) (hx : PassesAt (L2.CX X.prog X.w) X σ E) (I : Inv X pins σ H st) (r : Vals vs us) (h : sp vs H Q E) :
    codeAny (model X.prog X.w) X.A (.call (.ref f) ⟨us, []⟩) (fun r s' => match r with
      | .ok (.ret v) => EP X pins σ Q v s'
      | .ok _ => False
      | .error e => X.xe e s') st := by
  have hl : us.length = ps.length := by rw [← r.length]; exact F.len _ _ _ _ h
  have hbt := hb st us I.kIn (by rw [List.append_nil]; exact hl)
  rw [List.append_nil] at hbt
  refine codeAny_mono (F.run X.A X.stack st H ⟨us, []⟩ us vs Q E hr I.env0 hbt r h) fun rr s' hq => ?_
  cases rr with
  | error e => exact hx pins H st e s' I hq
  | ok fl => cases fl with
    | ret u => exact I.after hq
    | next => exact hq.elim
    | brk => exact hq.elim
    | cont => exact hq.elim
theorem run_makeG {C f : Addr} {fd : FuncData} {ps : List Str} {sp : Sp} {E : XK} {pins : List (Addr × Obj)} {σ : L2.St} {H : Hp} {st : Shared} {Q : VK} {us : List Value} {vs : List V} (M : Mk X.K C f) (F : FnG X.prog X.w X.K X.mg X.base k f fd ps sp) (hr : RoomG (k + 1) X.A)
    (hb : Binds X.K fd ps []) (hx : PassesAt (L2.CX X.prog X.w) X σ E) (I : Inv X pins σ H st) (r : Vals vs us)
    (h : ∀ x dx, H x = none → H dx = none → dx ≠ x → sp (.ref x :: vs) (upd (upd H dx (.own x)) x (.ins C dx [])) (fun v H2 => v = .non ∧ Q (.ref x) H2) E) :
    wpAny (model X.prog X.w) X.A (call (.ref C) us) (EP X pins σ Q) X.xe st := by
  have hq := h (st.heap.objs.size + 1) st.heap.objs.size (I.hok.fresh (Nat.le_succ _)) (I.hok.fresh (Nat.le_refl _)) (Nat.ne_of_lt (Nat.lt_succ_self _))
  have I2 := Inv.made (C := C) I
  have r2 : Vals (V.ref (st.heap.objs.size + 1) :: vs) (Value.ref (st.heap.objs.size + 1) :: us) := .cons rfl r
  have hl : (Value.ref (st.heap.objs.size + 1) :: us).length = ps.length := by rw [← r2.length]; exact F.len _ _ _ _ hq
  have hbt := hb _ (Value.ref (st.heap.objs.size + 1) :: us) I2.kIn (by rw [List.append_nil]; exact hl)
  rw [List.append_nil] at hbt
  refine wpAny_call (make_map (f := f) I.kIn M.makes M.init (beq_iff_eq.mp M.fn) (codeAny_mono (F.run _ X.stack _ _ ⟨Value.ref (st.heap.objs.size + 1) :: us, []⟩ _ _ _ E (hr.make C us []) (I2.env0.make C us []) hbt r2 hq) fun rr s' hq' => ?_))
  cases rr with
  | error e => exact hx pins _ _ e s' I2 hq'
  | ok fl =>
    cases fl with
    | ret u =>
      obtain ⟨v, H', I3, rv, ev, q3⟩ := I2.after hq'
      subst ev
      exact ⟨rv, ⟨V.ref (st.heap.objs.size + 1), H', I3, rfl, q3⟩⟩
    | next => exact hq'.elim
    | brk => exact hq'.elim
    | cont => exact hq'.elim
theorem ve_new (c : ClN X.prog X.w X.K X.mg X.base k x n m) (tk : Takes X W) (hr : RoomG j X.A) (hk : k + 1 ≤ j) (hg : Gl X x) (ha : VA X W (e :: es) ms) (hlen : ∀ ρ s ds s', ms ρ s = .ok ds s' → ds.length = n) (hdb : (x == ("__debug__" : Str)) = false := by decide)
    (he : starEach (e :: es) X.env = (false, eval e X.env) :: starEach es X.env := by rfl) (hpl : (backTo pos (starEach es X.env)).any (·.1) = false := by rfl) : VE X W (.Call (.Name x p) (e :: es) [] pos) (mNew x m ms) := by
  obtain ⟨C, f, fd, ps, gf, M, F, bd⟩ := c.ex
  refine ⟨fun pins st σ H Q I h => ?_⟩
  obtain ⟨ι, s, ρ, q, en, h⟩ := h
  refine wpAny_Call_Name_kw (ld_glob I hg gf ?_ hdb)
  have hA : rdA (cg X) W ms σ H fun vs H1 => ∀ z dx, H1 z = none → H1 dx = none → dx ≠ z → spG (cg X) (n + 1) m (.ref z :: vs) (upd (upd H1 dx (.own z)) z (.ins C dx [])) (fun v H2 => v = .non ∧ Q (.ref z) H2) (WE W σ) := by
    refine ⟨ι, s, ρ, q, en, ?_⟩
    have h2 := Post.bnd h
    cases hm : ms ρ s with
    | bad => rw [hm] at h2; exact h2
    | exn c fs ρ' s1 => rw [hm] at h2; exact h2
    | ok ds s1 =>
      rw [hm] at h2
      intro ι1 H1 e1 q1 vs r1 z dx hz hdx hne
      obtain ⟨_, _, h3⟩ := h2 ι1 H1 e1 q1
      have q2 : Sim (cg X) ι1 (upd H1 dx (.own z)) s1 := q1.new hdx
      have hz2 : upd H1 dx (.own z) z = none := by rw [upd_ne (Ne.symm hne)]; exact hz
      have x2 : Ext ι1 H1 (ι1.push z) (upd (upd H1 dx (.own z)) z (.ins C dx [])) := (Ext.new hdx).trans (.newObj hz2)
      have q3 : Sim (cg X) (ι1.push z) (upd (upd H1 dx (.own z)) z (.ins C dx [])) (s1 ++ [.ins x []]) := q2.newObj hz2 ⟨C, dx, [], gf, upd_same, .nil⟩
      have rz : RelD (cg X) (ι1.push z) (upd (upd H1 dx (.own z)) z (.ins C dx [])) (.obj s1.length) (.ref z) := by
        simp only [RelD]
        exact ⟨z, rfl, by rw [← q1.len]; simp [Z.push]⟩
      refine spG_of (by simp only [List.length_cons, r1.len, hlen ρ s ds s1 hm]) q3 (.cons rz (r1.mono x2)) ((en.mono e1).mono x2) ?_
      have h4 := Post.bnd (Post.mono x2 h3)
      refine h4.imp fun d ι4 H4 s4 ⟨e4, q4, h5⟩ => ?_
      split at h5
      · intro v rv
        rw [relN rv]
        refine ⟨rfl, h5.val q4 ?_⟩
        exact RelD.mono e4 rz
      · exact h5.elim
  refine PySem.W.callWith_K (h₀ := X.base) I.ok.mod.kin M.kp (thn (ha.run pos pins st σ H _ I hA) fun us s1 ⟨vs, H1, I1, r, q1⟩ => ⟨I1.kIn, ?_⟩) he hpl
  exact run_makeG M F (hr.mono hk) bd (passAt tk σ) I1 r q1
theorem ve_callI {tab : List (Str × FM)} (c : ∀ c m, (c, m) ∈ tab → ClI X.prog X.w X.K X.mg X.base k c n m) (tk : Takes X W) (hr : RoomG j X.A) (hk : k ≤ j) (hf : VE X W fe mf) (ha : VA X W (e :: es) ms) (hlen : ∀ ρ s ds s', ms ρ s = .ok ds s' → ds.length = n)
    (ht : eval (.Call fe (e :: es) [] pos) X.env = (do callWith pos (← eval fe X.env) [] (backTo pos (starEach (e :: es) X.env)) (backToKw pos (keywordEach [] X.env))) := by rfl)
    (he : starEach (e :: es) X.env = (false, eval e X.env) :: starEach es X.env := by rfl) (hpl : (backTo pos (starEach es X.env)).any (·.1) = false := by rfl) : VE X W (.Call fe (e :: es) [] pos) (mCallI tab mf ms) := by
  refine ⟨fun pins st σ H Q I h => ?_⟩
  obtain ⟨ι, s, ρ, q, en, h⟩ := h
  have hF : rdE (cg X) W mf σ H fun y H1 => ∃ a, y = V.ref a ∧ rdA (cg X) W ms σ H1 fun vs H2 => ∃ C f fd ps m, StX.CallO X.K C f ∧ FnG X.prog X.w X.K X.mg X.base k f fd ps (spG (cg X) (n + 1) m) ∧ Binds X.K fd ps [] ∧ StX.InsC X H2 a C ∧ spG (cg X) (n + 1) m (V.ref a :: vs) H2 Q (WE W σ) := by
    refine rdE_on q en h fun d v ι1 H1 s1 e1 q1 r1 h1 => ?_
    split at h1
    · rename_i hd
      cases d with
      | obj i =>
        have r1' := r1
        simp only [RelD] at r1
        obtain ⟨a, rfl, ea⟩ := r1
        refine ⟨a, rfl, ι1, s1, ρ, q1, en.mono e1, ?_⟩
        have h2 := Post.bnd h1
        cases hm : ms ρ s1 with
        | bad => rw [hm] at h2; exact h2
        | exn c fs ρ' s1 => rw [hm] at h2; exact h2
        | ok ds s2 =>
          rw [hm] at h2
          intro ι2 H2 e2 q2 vs r2
          obtain ⟨_, _, h3⟩ := h2 ι2 H2 e2 q2
          split at h3
          · rename_i c' fs hi
            split at h3
            · rename_i m' hm'
              obtain ⟨n', a', C, dx, gs, en', hs', ea', g1, g2, g3, g4, g5⟩ := insOf_at q2 (r1'.mono e2) hi
              cases ea'
              obtain ⟨f, fd, ps, c1, F, bd⟩ := (c c' m' (PySem.mem_of_lookup hm')).ex C g3
              exact ⟨C, f, fd, ps, m', c1, F, bd, .inr ⟨dx, gs, g4⟩, spG_of (by simp only [List.length_cons, r2.len, hlen ρ s1 ds s2 hm]) q2 (.cons (r1'.mono e2) r2) ((en.mono e1).mono e2) h3⟩
            · exact h3.elim
          · exact h3.elim
      | _ => cases hd
    · exact h1.elim
  refine Call_ (thn (hf.run pins st σ H _ I hF) fun u s1 ⟨y, H1, I1, ry, a, ey, q1⟩ => ?_) ht
  subst ey
  obtain rfl : u = Value.ref a := ry
  refine StX.callO_with (thn (ha.run pos pins s1 σ H1 _ I1 q1) fun us s2 ⟨vs, H2, I2, r, C, f, fd, ps, m, c1, F, bd, hi, sp⟩ => ?_) he hpl
  obtain ⟨ox, od, J, hd⟩ := StX.insC_at I2 hi
  refine ⟨⟨C, ox, od, J, hd⟩, wpAny_call (PySem.W.kco_code I2.kIn J hd c1.at_ c1.fn c1.fi ?_)⟩
  exact runGc (us := .ref a :: us) (vs := .ref a :: vs) F (hr.mono hk) bd (passAt tk σ) I2 (.cons rfl r) sp
end
end VL
namespace VL
open PySem PySem.Spec PyProof.Rows L2

/-! ### {k: v for .. in ..}, keys tuples -/
def tDcT (wi : TI) (g : TG) (tt : TT) (tk tv : TE) (vs : List Nat) : TE := fun σ H Q => wi σ H fun J H1 => ∀ D, H1 D = none → ∃ Wd : Nat → Nat → Hp → Prop, (∃ m, Wd 0 m (upd H1 D (.dT []))) ∧ ∀ j m H, Wd j m H →
  (J.stop j H ∧ Q (.ref D) H) ∨ (J.go j H ∧ ∃ Ny : Hp → Prop, (∀ H', Ny H' → ∃ m', m' < m ∧ Wd (j + 1) m' H') ∧ ∀ x H', J.yld j H x H' → g x (L2.wipe σ vs) H' fun σ2 H2 => L2.wipe σ2 vs = L2.wipe σ vs ∧ tt σ2 H2 fun b H3 =>
    if b = true then tk σ2 H3 fun y H4 => tv σ2 H4 fun z H5 => ∃ kvs k b, y = .ref b ∧ H5 b = some (.tup (k.map kV)) ∧ H5 D = some (.dT kvs) ∧ kvs.length < sizeLine ∧ Ny (upd H5 D (.dT (putK kvs k z))) else Ny H3)
section
variable {X : Cx}
end
/-! its mirror -/
def dcGo (src : Src) (t : Tg) (tt : MT) (mk mv : ME) (ρw : Ev) : Nat → Nat → List (D × D) → S → R (List (D × D))
  | 0, i, acc, s => (match srcAt s src with
    | some xs => if xs.length = i then .ok acc s else .bad
    | none => .bad)
  | n + 1, i, acc, s => (match srcAt s src with
    | some xs => (match xs[i]? with
      | some d => (match tgM t d ρw with
        | some ρ1 => (noX (tt ρ1 s)).bnd fun k s1 => if k = true then (noX (mk ρ1 s1)).bnd fun kd s2 => (noX (mv ρ1 s2)).bnd fun vd s3 => (match keyT kd with
            | some ky => if acc.length < LIM then dcGo src t tt mk mv ρw n (i + 1) (put keyT acc kd ky vd) s3 else .bad
            | none => .bad) else dcGo src t tt mk mv ρw n (i + 1) acc s1
        | none => .bad)
      | none => .bad)
    | none => .bad)
def finT (acc : List (D × D)) (s : S) : R D := .ok (.obj s.length) (s ++ [.dctT acc])
def mDcT (it : MI) (t : Tg) (tt : MT) (mk mv : ME) (vs : List Nat) : ME := fun ρ s => ((it ρ s).bnd fun src s1 => match srcAt s1 src with
  | some xs => if (∀ i ∈ t.slots, i ∈ vs) then dcGo src t tt mk mv (wipeD ρ vs) xs.length 0 [] s1 else .bad
  | none => .bad).bnd finT
section
variable {X : Cx} {W : WX}
variable {kx vx tg iter : Expr} {ifs : List Expr} {scope : Scope} {own : List (Str × Nat)} {pos spos : Pos} {it : MI} {t : Tg} {tt : MT} {mk mv : ME}
end
end VL
namespace VL
open PySem PySem.Spec PyProof.Rows L2

/-! ### min of a list of ints -/
def fMinL : FA := fun xs s => match xs with
  | [x] => (match (asL s x).bind toI with
    | some (n :: ns) => .ok (.int (ns.foldl min n)) s
    | _ => .bad)
  | _ => .bad
/-! ### list(d), keys tuples -/
def dkeys (s : S) : D → Option (List D)
  | .obj n => match s[n]? with
    | some (.dctT kvs) => some (kvs.map (·.1))
    | some (.dctTL kvs) => some (kvs.map (·.1))
    | _ => none
  | _ => none
def fListOU : FA := fun xs s => match xs with
  | [x] => (match dkeys s x with
    | some ds => .ok (.obj s.length) (s ++ [.lst ds])
    | none => fListO [x] s)
  | _ => .bad
section
variable {G : Cg} {W : WX} {ι : Z} {H : Hp} {s : S}
abbrev rListDT : List V → Hp → VK → Prop := fun xs H Q => ∃ d kvs, xs = [V.ref d] ∧ Rd H d (.dT kvs) ∧ ∀ p bs, H p = none → IsKeys H kvs bs → Q (.ref p) (upd H p (.lst (bs.map V.ref)))
end
/-! ### d.get(k, x) -/
def isDO (s : S) : D → Bool
  | .obj n => match s[n]? with
    | some (.dct _) => true
    | some (.dctT _) => true
    | some (.dctL _) => true
    | some (.dctTL _) => true
    | _ => false
  | _ => false
def mGet2 (mo mk md : ME) : ME := fun ρ s => (mo ρ s).bnd fun x s1 => if isDO s1 x = true then (mk ρ s1).bnd fun y s2 => (md ρ s2).bnd fun z s3 => (match dgetD s3 x y with
  | some o => .ok (o.getD z) s3
  | none => .bad) else .bad
section
variable {X : Cx} {W : WX} {o e f : Expr} {mo mk md : ME} {apos cpos : Pos}
end
/-! tables of classes whose instances are called -/
def mst (s : Stmt) (j : Nat) : Stmt := match s with
  | .ClassDef _ _ _ body _ _ _ _ _ _ _ => body.getD j (.Pass ⟨0, 0, 0, 0⟩)
  | _ => .Pass ⟨0, 0, 0, 0⟩
section
variable {P : Program} {w : World} {K : PySem.W.Frag} {mg : Str → Option Value} {base : Heap} {k n : Nat}
theorem tab_nil : ∀ c m, (c, m) ∈ ([] : List (Str × FM)) → ClI P w K mg base k c n m := fun _ _ h => by cases h
theorem tab_cons {x : Str} {mx : FM} {t : List (Str × FM)} (h : ClI P w K mg base k x n mx) (ht : ∀ c m, (c, m) ∈ t → ClI P w K mg base k c n m) : ∀ c m, (c, m) ∈ (x, mx) :: t → ClI P w K mg base k c n m := fun c m hm => by
  rcases List.mem_cons.mp hm with e | hm
  · cases e; exact h
  · exact ht c m hm
theorem fldOk1 {x f : Str} {C : Addr} (g : mg x = some (.ref C)) (c : Cls K C) (n : NoAttr K C f) : FldOk K mg [x] f := ⟨fun y hy C' g' => by
  rcases List.mem_cons.mp hy with rfl | hy
  · rw [g] at g'; cases g'; exact ⟨c, n⟩
  · cases hy⟩
theorem clN_of {x : Str} {C f : Addr} {fd : FuncData} {ps : List Str} {m : FM} (g : mg x = some (.ref C)) (M : Mk K C f) (F : FnG P w K mg base k f fd ps (spG ⟨K, mg⟩ (n + 1) m)) (b : Binds K fd ps []) : ClN P w K mg base k x n m := ⟨C, f, fd, ps, g, M, F, b⟩
theorem clI_of {x : Str} {C f : Addr} {fd : FuncData} {ps : List Str} {m : FM} {y qual : Str} {params : Arguments} {body : List Stmt} {scope : Scope} (g : mg x = some (.ref C)) (M : Meth K C "__call__" f) (D : FunD K y qual params body scope [] [] f fd) (F : FnG P w K mg base k f fd ps (spG ⟨K, mg⟩ (n + 1) m)) (b : Binds K fd ps []) : ClI P w K mg base k x n m :=
  ⟨fun C' g' => by
    rw [g] at g'; cases g'
    refine ⟨f, fd, ps, ⟨M.at_, M.fn, ?_⟩, F, b⟩
    obtain ⟨oc, od, dV, kV, doc, pm, an, cdv, ct, osl, _, hl, _⟩ := D.ex
    unfold PySem.W.fnIn
    rw [hl]⟩
end
end VL
namespace VL
open PySem PySem.Spec PyProof.Rows L2

/-! ### for (..), v in d.items(), keys tuples: the dict is locked for good -/
def Itit (d : Addr) (o : Obj) (kvs : List (List Key × V)) : It :=
  ⟨fun i H => H d = some (.frz o (.dT kvs)) ∧ i < kvs.length, fun i H x H' => ∃ (T q : Addr) (k : List Key) (v : V), kvs[i]? = some (k, v) ∧ x = .ref T ∧ H T = none ∧ H q = some (.tup (k.map kV)) ∧ H' = upd H T (.tup [.ref q, v]), fun i H => H d = some (.frz o (.dT kvs)) ∧ kvs.length ≤ i⟩
section
variable {P : Program} {w : World} {K : PySem.W.Frag} {d : Addr} {o : Obj} {es : Array DictEntry} {ep : Nat}
end
def iItemsT (td : TE) : TI := fun σ H R => td σ H fun x H1 => ∃ d kvs, x = .ref d ∧ ((H1 d = some (.dT kvs) ∧ ∀ o, R (Itit d o kvs) (upd H1 d (.frz o (.dT kvs)))) ∨ ∃ o, H1 d = some (.frz o (.dT kvs)) ∧ R (Itit d o kvs) H1)
section
variable {X : Cx} {W : WX} {e : Expr} {td : TE} {apos cpos tpos : Pos} {elts : List Expr} {kk : Nat}
end
def mItems (mo : ME) : MI := fun ρ s => (mo ρ s).bnd fun x s1 => match x with
  | .obj n => (match s1[n]? with
    | some (.dctT kvs) => .ok (.fix (kvs.map fun p => .tup [p.1, p.2])) (s1.set n (.dctTL kvs))
    | some (.dctTL kvs) => .ok (.fix (kvs.map fun p => .tup [p.1, p.2])) s1
    | _ => .bad)
  | _ => .bad
section
variable {X : Cx} {W : WX} {e : Expr} {mo : ME} {apos cpos tpos : Pos} {elts : List Expr} {kk : Nat}
end
end VL
namespace VL
open PySem PySem.Spec PyProof.Rows L2
open PySem.W (AlikeAll minD readsAll_len iter_listW iter_tupleW cmpIn_lt moved_old argBest_fold reads_keeps)

/-! ### min of tuples of numbers -/
section
variable {prog : Program} {w : World} {A : Around} {E : Value → Shared → Prop} {s : Shared}
end
def pyT (l : List Int) : PyData := .tuple (l.map .int)
def ltI : List Int → List Int → Bool
  | [], [] => false
  | [], _ :: _ => true
  | _ :: _, [] => false
  | a :: as, b :: bs => if a = b then ltI as bs else decide (a < b)
def minI (l : List Int) (ls : List (List Int)) : List Int := ls.foldl (fun a y => if ltI y a = true then y else a) l
abbrev rMinD (K : PySem.W.Frag) : List V → Hp → VK → Prop := fun vs H Q => ∃ (a : Addr) (us : List V) (x : PyData) (xs : List PyData), vs = [V.ref a] ∧ SqL K H a us ∧ DpAll K H us (x :: xs) ∧ AlikeAll (x :: xs) ∧ PyData.depthAll (x :: xs) ≤ 60 ∧ ∀ (i : Nat) (v : V), us[i]? = some v → (x :: xs).getD i .none = minD x xs → Q v H
abbrev rMin2D (K : PySem.W.Frag) : List V → Hp → VK → Prop := fun vs H Q => ∃ (a b : V) (x y : PyData), vs = [a, b] ∧ Dp K H a x ∧ Dp K H b y ∧ AlikeAll [x, y] ∧ PyData.depthAll [x, y] ≤ 60 ∧ ∀ (i : Nat) (v : V), [a, b][i]? = some v → [x, y].getD i .none = minD x [y] → Q v H
/-! their mirrors -/
def toT : D → Option (List Int)
  | .tup ds => toI ds
  | _ => none
def toTs : List D → Option (List (List Int))
  | [] => some []
  | d :: ds => match toT d, toTs ds with
    | some l, some ls => some (l :: ls)
    | _, _ => none
def fMinT : FA := fun xs s => match xs with
  | [x] => (match (asL s x).bind toTs with
    | some (l :: ls) => .ok (.tup ((minI l ls).map .int)) s
    | _ => .bad)
  | _ => .bad
def fMin2T : FA := fun xs s => match xs with
  | [x, y] => (match toT x, toT y with
    | some a, some b => .ok (.tup ((minI a [b]).map .int)) s
    | _, _ => .bad)
  | _ => .bad
section
variable {G : Cg} {W : WX}
end
end VL
namespace VL
open PySem PySem.Spec PyProof.Rows L2

/-! ### d != {} -/
section
variable {prog : Program} {w : World} {A : Around} {E : Value → Shared → Prop} {s : Shared}
end
def rNeE : R2 := fun x y H Q => ∃ a b ks, x = .ref a ∧ y = .ref b ∧ Rd H a (.dT ks) ∧ Rd H b (.dT []) ∧ Q (.bl (!decide (ks.length = 0))) H
def opNeE : F2 := fun x y s => match dkeys s x, dkeys s y with
  | some ds, some [] => .ok (.bl (!decide (ds.length = 0))) s
  | _, _ => .bad
end VL
namespace VL
open PySem PySem.Spec PyProof.Rows L2

/-! ### sorted of tuples of ints, any number of them, any lengths but 0 -/
section
variable {prog : Program} {w : World} {A : Around} {E : Value → Shared → Prop} {s : Shared} {Q : Bool → Shared → Prop}
end
def rSortedTL (K : PySem.W.Frag) : List V → Hp → VK → Prop := fun vs H Q => ∃ (a : Addr) (xs : List V) (k : V → List Int), vs = [V.ref a] ∧ SqL K H a xs ∧ (∀ x ∈ xs, k x ≠ [] ∧ ∃ t, x = V.ref t ∧ H t = some (.tup ((k x).map V.int))) ∧
  ∀ ys p, ys.Pairwise (fun x y => HT.lexLt (k y) (k x) = false) → ys.Perm xs → H p = none → Q (.ref p) (upd H p (.lst ys))
/-! its mirror -/
def sortLe (a b : List Int) : Bool := !HT.lexLt b a
def sortL (ls : List (List Int)) : List (List Int) := ls.mergeSort sortLe
def fSortedTL : FA := fun xs s => match xs with
  | [x] => (match (asL s x).bind toTs with
    | some ls => if ls.all (fun l => !l.isEmpty) = true then .ok (.lst ((sortL ls).map fun l => .tup (l.map .int))) s else .bad
    | none => .bad)
  | _ => .bad
section
variable {G : Cg} {ι : Z} {H : Hp}
/-- the ints of a tuple of the heap -/
def intsV (H : Hp) : V → List Int
  | .ref a => match H a with
    | some (.tup xs) => xs.map fun v => match v with
      | .int i => i
      | _ => 0
    | _ => []
  | _ => []
end
end VL
namespace VL
open PySem PySem.Spec PyProof.Rows L2

/-! ### xs.pop(i), xs.index(x) of lists -/
theorem RelDs.erase {G : Cg} {ι : Z} {H : Hp} : ∀ {xs : List D} {vs : List V}, RelDs G ι H xs vs → ∀ k, RelDs G ι H (xs.eraseIdx k) (vs.eraseIdx k)
  | [], vs, r, k => by simp only [RelDs] at r; subst r; simp only [List.eraseIdx_nil]; exact .nil
  | x :: xs, vs, r, 0 => by
    simp only [RelDs] at r
    obtain ⟨v, t, rfl, _, r2⟩ := r
    exact r2
  | x :: xs, vs, r, k + 1 => by
    simp only [RelDs] at r
    obtain ⟨v, t, rfl, r1, r2⟩ := r
    simp only [List.eraseIdx_cons_succ]
    exact .cons r1 (RelDs.erase r2 k)
noncomputable def fPopAt (x y : D) (s : S) : R D := match x, y with
  | .obj n, .int i => (match s[n]? with
    | some (.lst ds) => if inR i then (match seqIndex? i ds.length with
      | some k => (match ds[k]? with
        | some d => .ok d (s.set n (.lst (ds.eraseIdx k)))
        | none => .bad)
      | none => .bad) else .bad
    | _ => .bad)
  | _, _ => .bad
noncomputable def mPopAt (mo mi : ME) : ME := fun ρ s => (mo ρ s).bnd fun x s1 => if isLstO s1 x = true then (mi ρ s1).bnd fun y s2 => fPopAt x y s2 else .bad
def fIndex (x y : D) (s : S) : R D := match asL s x with
  | some ds => if flatD y = true ∧ ds.all flatD = true then (match ds.findIdx? fun d => eqF d y with
    | some j => .ok (.int (j : Nat)) s
    | none => .bad) else .bad
  | none => .bad
def mIndex (mo mi : ME) : ME := fun ρ s => (mo ρ s).bnd fun x s1 => if (asL s1 x).isSome = true then (mi ρ s1).bnd fun y s2 => fIndex x y s2 else .bad
section
variable {X : Cx} {W : WX} {o e : Expr} {mo me : ME} {apos cpos : Pos}
theorem findIdx_spec {α : Type} {p : α → Bool} {xs : List α} {j : Nat} (h : xs.findIdx? p = some j) : ∃ z, xs[j]? = some z ∧ p z = true ∧ ∀ m z', m < j → xs[m]? = some z' → p z' = false := by
  rw [List.findIdx?_eq_some_iff_getElem] at h
  obtain ⟨h1, h2, h3⟩ := h
  refine ⟨xs[j], List.getElem?_eq_getElem h1, h2, fun m z' hm hz => ?_⟩
  obtain ⟨h4, rfl⟩ := List.getElem?_eq_some_iff.1 hz
  simpa using h3 m hm
theorem rel_flats {G : Cg} {ι : Z} {H : Hp} : ∀ {xs : List D} {vs : List V}, RelDs G ι H xs vs → xs.all flatD = true → vs.all flatV = true
  | [], vs, r, _ => by simp only [RelDs] at r; subst r; rfl
  | x :: xs, vs, r, h => by
    simp only [RelDs] at r
    obtain ⟨v, t, rfl, r1, r2⟩ := r
    simp only [List.all_cons, Bool.and_eq_true] at h ⊢
    exact ⟨flat_rel r1 h.1, rel_flats r2 h.2⟩
theorem ve_index (ho : VE X W o mo) (he : VE X W e me)
    (hbase : attributeBase o "index" X.env (eval o X.env) = eval o X.env := by rfl)
    (hfew : ((backTo cpos (starEach [e] X.env)).all (fun x => !x.1) && (backToKw cpos (keywordEach [] X.env)).all (fun x => x.1.isSome)
      && decide ([e].length + ([] : List Keyword).length + (if ([] : List Keyword).isEmpty then 0 else 1) < 30)) = true := by rfl)
    (hline : (apos.endLine == cpos.line) = true := by rfl) (hs : starEach [e] X.env = (false, eval e X.env) :: starEach [] X.env := by rfl) (hplain : (backTo cpos (starEach [] X.env)).any (·.1) = false := by rfl) :
    VE X W (.Call (.Attribute o "index" apos) [e] [] cpos) (mIndex mo me) :=
  pe_imp (pe_bm PySem.F.plainAttrs_list PySem.F.slot_list_index PySem.F.type_list_index mt_index ho (pa_cons he pa_nil hs) hbase hfew hline hs hplain) fun σ H Q ⟨ι, s, ρ, q, e, h⟩ => by
    refine rdE_on q e h fun x v ι1 H1 s1 e1 q1 r1 h1 => ?_
    split at h1
    · rename_i hi
      obtain ⟨ds, hds⟩ := Option.isSome_iff_exists.1 hi
      obtain ⟨a, ys, rfl, t, _⟩ := asL_at q1 r1 hds
      refine ⟨.inl ⟨rfl, ys, t⟩, rdE_on q1 (e.mono e1) h1 fun y w ι2 H2 s2 e2 q2 r2 h2 => ?_⟩
      unfold fIndex at h2
      split at h2
      · rename_i es hes
        split at h2
        · rename_i hf
          split at h2
          · rename_i j hj
            obtain ⟨a', zs, ea, t2, k2⟩ := asL_at q2 (r1.mono e2) hes
            cases ea
            obtain ⟨z, hz, hp, hm⟩ := findIdx_spec hj
            obtain ⟨u, hu, ru⟩ := k2.get hz
            have ff : ∀ {d : D}, d ∈ es → flatD d = true := fun hd => List.all_eq_true.1 hf.2 _ hd
            refine ⟨a, zs, w, j, u, rfl, rfl, t2, flat_rel r2 hf.1, rel_flats k2 hf.2, hu, ?_, fun m z' hm' hz' => ?_, h2.val q2 (ri _)⟩
            · rw [eqF_rel ru r2 (ff (List.mem_of_getElem? hz)) hf.1]; exact hp
            · obtain ⟨d', hd', rd'⟩ := k2.get' hz'
              rw [eqF_rel rd' r2 (ff (List.mem_of_getElem? hd')) hf.1]
              exact hm m d' hm' hd'
          · exact h2.elim
        · exact h2.elim
      · exact h2.elim
    · exact h1.elim
end

noncomputable def mListRgO (m : ME) : ME := fun ρ s => (m ρ s).bnd fun d s1 => match d with
  | .int j => if rgOkD j then .ok (.obj s1.length) (s1 ++ [.lst (rngD 0 j.toNat)]) else .bad
  | _ => .bad
/-! ### texts: str(n), sep.join(xs), f-strings -/
def CStr (i : Int) : Prop := i.natAbs.log2 < 1920
noncomputable instance (i : Int) : Decidable (CStr i) := Classical.propDecidable _
noncomputable def fStrI : FA := fun xs s => match xs with
  | [.int i] => if CStr i then .ok (.str (toString i)) s else .bad
  | _ => .bad
theorem v_strI {G : Cg} {W : WX} : CallV G W (fun xs H Q => ∃ i, xs = [.int i] ∧ i.natAbs.log2 < 1920 ∧ Q (.str (toString i)) H) fStrI := fun ι H s xs vs Q q r h => by
  unfold fStrI at h
  split at h
  · rename_i i
    split at h
    · rename_i hc
      obtain ⟨v, rfl, r1⟩ := rel1 r
      rw [relI r1]
      exact ⟨i, rfl, hc, h.val q (by simp only [RelD])⟩
    · exact h.elim
  · exact h.elim
def toSs : List D → Option (List Str)
  | [] => some []
  | .str x :: ds => (toSs ds).map (x :: ·)
  | _ :: _ => none
def fJoin (x y : D) (s : S) : R D := match x, (asL s y).bind toSs with
  | .str a, some ys => if (ys.map (·.length)).sum + ys.length * a.length ≤ LIM then .ok (.str (Txt.join a ys)) s else .bad
  | _, _ => .bad
def isStrD : D → Bool
  | .str _ => true
  | _ => false
def mJoin (mo ml : ME) : ME := fun ρ s => (mo ρ s).bnd fun x s1 => if isStrD x = true then (ml ρ s1).bnd fun y s2 => fJoin x y s2 else .bad
/-- the parts of an f-string -/
noncomputable def mFmt (m : ME) : ME := fun ρ s => (m ρ s).bnd fun d s1 => match d with
  | .str y => if y.length ≤ LIM then .ok (.str y) s1 else .bad
  | .int i => if CStr i then .ok (.str (toString i)) s1 else .bad
  | _ => .bad
def mJs : List ME → Str → ME
  | [], acc, _, s => .ok (.str acc) s
  | m :: ms, acc, ρ, s => (m ρ s).bnd fun d s1 => match d with
    | .str y => if (acc ++ y).length ≤ LIM then mJs ms (acc ++ y) ρ s1 else .bad
    | _ => .bad
section
variable {X : Cx} {W : WX} {o e : Expr} {mo me : ME} {apos pos : Pos}
theorem ve_fmt (he : VE X W e me) : VE X W (.FormattedValue e (-1) none pos) (mFmt me) :=
  pe_imp (pe_fmt he) fun σ H Q ⟨ι, s, ρ, q, en, h⟩ => by
    refine rdE_on q en h fun d v ι1 H1 s1 e1 q1 r1 h1 => ?_
    split at h1
    · rename_i y
      split at h1
      · rename_i hl
        exact .inl ⟨y, relS r1, le_LIM hl, h1.val q1 (by simp only [RelD])⟩
      · exact h1.elim
    · rename_i i
      split at h1
      · rename_i hc
        exact .inr ⟨i, relI r1, hc, h1.val q1 (by simp only [RelD])⟩
      · exact h1.elim
    · exact h1.elim
theorem vj_nil : PJ X [] (([] : List ME).map (rdE (cg X) W)) := .nil
theorem vj_cons {es : List Expr} {ms : List ME} (he : VE X W e me) (h : PJ X es (ms.map (rdE (cg X) W))) : PJ X (e :: es) ((me :: ms).map (rdE (cg X) W)) := .cons he h
theorem rd_js {G : Cg} {Q : VK} : ∀ (ms : List ME) (acc : Str) {ι : Z} {H : Hp} {s : S} {σ : L2.St} {ρ : Ev}, Sim G ι H s → EnvR G ι H σ ρ → Post G W ι H (QE G Q) (mJs ms acc ρ s) → tJs (ms.map (rdE G W)) acc σ H fun out H1 => Q (.str out) H1
  | [], acc, ι, H, s, σ, ρ, q, e, h => Post.val h q (by simp only [RelD])
  | m :: ms, acc, ι, H, s, σ, ρ, q, e, h => by
    show rdE G W m σ H _
    refine rdE_on q e h fun d v ι1 H1 s1 e1 q1 r1 h1 => ?_
    split at h1
    · rename_i y
      split at h1
      · rename_i hl
        exact ⟨y, relS r1, le_LIM hl, rd_js ms (acc ++ y) q1 (e.mono e1) h1⟩
      · exact h1.elim
    · exact h1.elim
theorem ve_joined {v1 v2 : Expr} {rest : List Expr} {ms : List ME} (h : PJ X (v1 :: v2 :: rest) (ms.map (rdE (cg X) W))) : VE X W (.JoinedStr (v1 :: v2 :: rest) pos) (mJs ms Str.empty) :=
  pe_imp (pe_joined h) fun σ H Q ⟨ι, s, ρ, q, en, h⟩ => rd_js ms Str.empty q en h
end
end VL
namespace VL
open PySem PySem.Spec PyProof.Rows L2

/-! ### raise C(), try .. except C: (no name) -/
structure ExcOk (K : PySem.W.Frag) (mg : Str → Option Value) (x : Str) (C : Addr) : Prop where
  g : mg x = some (.ref C)
  e : PySem.W.excIn K C He.veBase "ValueError.__new__" = true
  k : PySem.W.keepIn K (.ref C) = true
  b : PySem.W.subIn K (.ref C) (.type "BaseException") = some true
  t : PySem.W.typeIn K (.ref C) = some (.type "type")
def mRaise (c : Str) : MS := fun ρ s => .exn c none ρ s
def mTry (tab : List (Str × Bool)) (body suite : MS) : MS := fun ρ s => match body ρ s with
  | .exn c fs ρ' s' => (match tab.lookup c with
    | some true => noX (suite ρ' s')
    | some false => .exn c fs ρ' s'
    | none => .bad)
  | r => r
section
variable {X : Cx} {W : WX}
end

/-! ### dicts with plain keys: items(), get(k), setdefault(k, v), list(d) -/
def tLockK (td : TE) : TE := fun σ H Q => td σ H fun x H1 => ∃ d kvs, x = .ref d ∧ ((H1 d = some (.dK kvs) ∧ ∀ o, Q x (upd H1 d (.frz o (.dK kvs)))) ∨ ∃ o, H1 d = some (.frz o (.dK kvs)) ∧ Q x H1)
def mItemsK (mo : ME) : MI := fun ρ s => (mo ρ s).bnd fun x s1 => match x with
  | .obj n => (match s1[n]? with
    | some (.dct kvs) => .ok (.fix (kvs.map fun p => .tup [p.1, p.2])) (s1.set n (.dctL kvs))
    | some (.dctL kvs) => .ok (.fix (kvs.map fun p => .tup [p.1, p.2])) s1
    | _ => .bad)
  | _ => .bad
def mSetd (mo mk mv : ME) : ME := fun ρ s => (mo ρ s).bnd fun x s1 => if isDO s1 x = true then (mk ρ s1).bnd fun y s2 => (mv ρ s2).bnd fun z s3 => (match x with
  | .obj n => (match s3[n]? with
    | some (.dct kvs) => (match keyD y with
      | some k => if kvs.length < LIM then (match look keyD kvs k with
        | some v => .ok v s3
        | none => .ok z (s3.set n (.dct (put keyD kvs y k z)))) else .bad
      | none => .bad)
    | _ => .bad)
  | _ => .bad) else .bad
def mGet1 (mo mk : ME) : ME := fun ρ s => (mo ρ s).bnd fun x s1 => if isDO s1 x = true then (mk ρ s1).bnd fun y s2 => (match dgetD s2 x y with
  | some o => .ok (o.getD .non) s2
  | none => .bad) else .bad
/-- list(d) of a dict with plain keys -/
def dkeysK (s : S) : D → Option (List D)
  | .obj n => match s[n]? with
    | some (.dct kvs) => some (kvs.map (·.1))
    | _ => none
  | _ => none
def fListK : FA := fun xs s => match xs with
  | [x] => (match dkeysK s x with
    | some ds => .ok (.lst ds) s
    | none => .bad)
  | _ => .bad
section
variable {X : Cx} {W : WX} {o e f : Expr} {mo mk mv : ME} {apos cpos tpos : Pos} {elts : List Expr} {kk : Nat}
end
end VL
namespace VL
open PySem PySem.Spec PyProof.Rows L2

/-! ### zip of a list and a tuple, by what the two iterators do -/
/-- an iterator at it over what stands at l: St i, i items are out -/
structure Nx (P : Program) (w : World) (it l : Addr) (St : Nat → Heap → Prop) (xs : Array Value) : Prop where
  item : ∀ {A : Around} {E : Value → Shared → Prop} {s : Shared} {i : Nat} {x : Value} {Q : Value → Shared → Prop}, St i s.heap → xs[i]? = some x → (∀ h', St (i + 1) h' → Heap.SameBut it s.heap h' → Q x { s with heap := h' }) →
    wpAny (model P w) A (Builtin.SmallTypes.nextOf (.ref it)) Q E s
  fin : ∀ {A : Around} {E : Value → Shared → Prop} {s : Shared} {i : Nat} {Q : Value → Shared → Prop}, A.handled = none → St i s.heap → xs[i]? = none →
    (∀ h' e, Heap.ExtBut it s.heap h' → (∃ o, h'.get? e = some o ∧ o.cls = .type "StopIteration") → E (.ref e) { s with heap := h' }) → wpAny (model P w) A (Builtin.SmallTypes.nextOf (.ref it)) Q E s
  keep : ∀ {i : Nat} {h h' : Heap}, St i h → (∀ c o, c = it ∨ c = l → h.get? c = some o → h'.get? c = some o) → St i h'
  obj : ∀ {i : Nat} {h : Heap}, St i h → ∃ o, h.get? it = some o
def StL (it l : Addr) (xs : Array Value) (i : Nat) (h : Heap) : Prop := h.IsListIter it l i ∧ h.IsList l xs
def StT (it l : Addr) (xs : Array Value) (i : Nat) (h : Heap) : Prop := h.IsTupleIter it l i ∧ h.IsTuple l xs
section
variable {P : Program} {w : World} {it l : Addr} {xs ys : Array Value}
theorem IsList_at {h h' : Heap} (x : h.IsList l xs) (k : ∀ o, h.get? l = some o → h'.get? l = some o) : h'.IsList l xs := let ⟨o, e, r⟩ := x; ⟨o, k o e, r⟩
theorem IsTuple_at {h h' : Heap} (x : h.IsTuple l xs) (k : ∀ o, h.get? l = some o → h'.get? l = some o) : h'.IsTuple l xs := let ⟨o, e, r⟩ := x; ⟨o, k o e, r⟩
theorem nx_list (hne : l ≠ it) : Nx P w it l (StL it l xs) xs where
  item := fun hs hx k => wpAny_nextOf_list_item hs.1 hs.2 hx fun h' a b => k h' ⟨a, hs.2.extBut b.extBut hne⟩ b
  fin := fun hh hs hx k => wpAny_nextOf_list_end hh hs.1 hs.2 hx fun h' e a b => k h' e a b
  keep := fun hs k => ⟨hs.1.at fun o => k _ o (.inl rfl), IsList_at hs.2 fun o => k _ o (.inr rfl)⟩
  obj := fun hs => let ⟨o, e, _⟩ := hs.1; ⟨o, e⟩
theorem nx_tup (hne : l ≠ it) : Nx P w it l (StT it l xs) xs where
  item := fun hs hx k => RZ.nextOf_tuple_item hs.1 hs.2 hx fun h' a b => k h' ⟨a, hs.2.extBut b.extBut hne⟩ b
  fin := fun hh hs hx k => RZ.nextOf_tuple_end hh hs.1 hs.2 hx fun h' e a b => k h' e a b
  keep := fun hs k => ⟨hs.1.at fun o => k _ o (.inl rfl), IsTuple_at hs.2 fun o => k _ o (.inr rfl)⟩
  obj := fun hs => let ⟨o, e, _⟩ := hs.1; ⟨o, e⟩
end
section
variable {P : Program} {w : World} {A : Around} {E : Value → Shared → Prop} {s : Shared} {z TI TO i1 i2 l1 l2 : Addr} {k1 k2 : Nat} {xs ys : Array Value} {x y a b : Value} {S1 S2 : Nat → Heap → Prop}
theorem zipN_item {Q : Value → Shared → Prop} (D : ZipApart z TI TO i1 i2 l1 l2) (N1 : Nx P w i1 l1 S1 xs) (N2 : Nx P w i2 l2 S2 ys)
    (hz : IsZip s.heap z TI TO .none) (hTI : IsPair s.heap TI (.ref i1) (.ref i2)) (hTO : IsPair s.heap TO a b) (h1 : S1 k1 s.heap) (h2 : S2 k2 s.heap) (hx : xs[k1]? = some x) (hy : ys[k2]? = some y)
    (hQ : ∀ h', IsZip h' z TI TO (rawInt s.heap.objs.size) → IsPair h' TO x y → S1 (k1 + 1) h' → S2 (k2 + 1) h' → IsPair h' s.heap.objs.size x y →
      (∀ c o, c ≠ z → c ≠ TO → c ≠ i1 → c ≠ i2 → s.heap.get? c = some o → h'.get? c = some o) → Q (.ref s.heap.objs.size) { s with heap := h' }) :
    wpAny (model P w) A (Builtin.«zip.__next__» ⟨[.ref z], []⟩) (fun fin s' => ∃ v, fin = .done (.ret v) ∧ Q v s') E s := by
  show wpAny _ _ (field (.ref z) 2 >>= _) _ _ _
  refine wpAny_bind (wpAny_field hz rfl (x := .bool false) rfl ?_)
  show wpAny _ _ (field (.ref z) 3 >>= _) _ _ _
  refine wpAny_bind (wpAny_field hz rfl (x := .ref TI) rfl (wpAny_bind (wpAny_seqItems hTI rfl ?_)))
  show wpAny _ _ (Builtin.SmallTypes.ownedTupleIsFree (.ref z) >>= _) _ _ _
  refine wpAny_bind ?_
  unfold Builtin.SmallTypes.ownedTupleIsFree
  refine wpAny_bind (wpAny_field hz rfl (x := .none) rfl (wpAny_pure ?_))
  simp only [if_true]
  refine wpAny_bind (wpAny_rule (wpAny_bind (wpAny_field hz rfl (x := .ref TO) rfl ?_)))
  refine wpAny_bind (wpAny_setField_rec hz (by simp) fun h₁ hz₁ s₁ => wpAny_bind ?_)
  replace hz₁ : IsZip h₁ z TI TO .ellipsis := hz₁
  have c1 : ∀ c o, c ≠ z → s.heap.get? c = some o → h₁.get? c = some o := fun c o n e => s₁.extBut c o n e
  simp only [List.zipIdx_cons, List.zipIdx_nil, List.forIn_cons, List.forIn_nil]
  refine wpAny_bind (wpAny_bind (wpAny_onRaise ?_))
  show wpAny _ _ (Builtin.SmallTypes.nextOf (.ref i1) >>= _) _ _ _
  refine wpAny_bind (N1.item (N1.keep h1 fun c o e => c1 c o (by rcases e with rfl | rfl; exact D.i1z; exact D.l1z)) hx fun h₂ p₂ s₂ => wpAny_pure ?_)
  have c2 : ∀ c o, c ≠ i1 → h₁.get? c = some o → h₂.get? c = some o := fun c o n e => s₂.extBut c o n e
  have t₂ : IsPair h₂ TO a b := c2 _ _ D.TOi1 (c1 _ _ D.TOz hTO)
  refine wpAny_bind (wpAny_seqItems t₂ rfl (wpAny_bind (wpAny_updateSeq_pair t₂ fun h₃ t₃ s₃ => wpAny_bind (wpAny_letGo (wpAny_pure ?_)))))
  replace t₃ : IsPair h₃ TO x b := t₃
  have c3 : ∀ c o, c ≠ TO → h₂.get? c = some o → h₃.get? c = some o := fun c o n e => s₃.extBut c o n e
  refine wpAny_bind (wpAny_bind (wpAny_onRaise ?_))
  show wpAny _ _ (Builtin.SmallTypes.nextOf (.ref i2) >>= _) _ _ _
  refine wpAny_bind (N2.item (N2.keep h2 fun c o e q => by
    rcases e with rfl | rfl
    · exact c3 _ o (Ne.symm D.TOi2) (c2 _ o (Ne.symm D.i12) (c1 _ o D.i2z q))
    · exact c3 _ o D.l2TO (c2 _ o D.l2i1 (c1 _ o D.l2z q))) hy fun h₄ p₄ s₄ => wpAny_pure ?_)
  have c4 : ∀ c o, c ≠ i2 → h₃.get? c = some o → h₄.get? c = some o := fun c o n e => s₄.extBut c o n e
  have t₄ : IsPair h₄ TO x b := c4 _ _ D.TOi2 t₃
  refine wpAny_bind (wpAny_seqItems t₄ rfl (wpAny_bind (wpAny_updateSeq_pair t₄ fun h₅ t₅ s₅ => wpAny_bind (wpAny_letGo (wpAny_pure (wpAny_pure ?_))))))
  replace t₅ : IsPair h₅ TO x y := t₅
  have c5 : ∀ c o, c ≠ TO → h₄.get? c = some o → h₅.get? c = some o := fun c o n e => s₅.extBut c o n e
  refine wpAny_bind (wpAny_seqItems t₅ rfl (wpAny_bind (wpAny_newTuple ?_)))
  have hsz : h₅.objs.size = s.heap.objs.size := by rw [s₅.1, s₄.1, s₃.1, s₂.1, s₁.1]
  have z₅ : IsZip h₅ z TI TO .ellipsis := c5 _ _ (Ne.symm D.TOz) (c4 _ _ (Ne.symm D.i2z) (c3 _ _ (Ne.symm D.TOz) (c2 _ _ (Ne.symm D.i1z) hz₁)))
  have all : ∀ c o, c ≠ z → c ≠ TO → c ≠ i1 → c ≠ i2 → s.heap.get? c = some o → h₅.get? c = some o := fun c o n1 n2 n3 n4 e => c5 c o n2 (c4 c o n4 (c3 c o n2 (c2 c o n3 (c1 c o n1 e))))
  have q1 : S1 (k1 + 1) h₅ := N1.keep p₂ fun c o e q => by
    rcases e with rfl | rfl
    · exact c5 _ o (Ne.symm D.TOi1) (c4 _ o D.i12 (c3 _ o (Ne.symm D.TOi1) q))
    · exact c5 _ o D.l1TO (c4 _ o D.l1i2 (c3 _ o D.l1TO q))
  have q2 : S2 (k2 + 1) h₅ := N2.keep p₄ fun c o e q => by
    rcases e with rfl | rfl
    · exact c5 _ o (Ne.symm D.TOi2) q
    · exact c5 _ o D.l2TO q
  show wpAny _ _ (Builtin.SmallTypes.ownedTupleHandOut (.ref z) (.ref h₅.objs.size) >>= _) _ _ _
  refine wpAny_bind ?_
  unfold Builtin.SmallTypes.ownedTupleHandOut
  have z₆ : IsZip (h₅.push { cls := .type "tuple", data := .seq #[x, y] }) z TI TO .ellipsis := Heap.get?_push_of_some _ z₅
  refine wpAny_bind (wpAny_setField_rec z₆ (by simp) fun h₇ z₇ s₇ => ?_)
  replace z₇ : IsZip h₇ z TI TO (rawInt h₅.objs.size) := z₇
  refine wpAny_setField_rec z₇ (by simp) fun h₈ z₈ s₈ => ?_
  replace z₈ : IsZip h₈ z TI TO (rawInt h₅.objs.size) := z₈
  have up : ∀ c o, c ≠ z → (h₅.push { cls := .type "tuple", data := .seq #[x, y] }).get? c = some o → h₈.get? c = some o := fun c o n e => s₈.extBut _ _ n (s₇.extBut _ _ n e)
  have up5 : ∀ c o, c ≠ z → h₅.get? c = some o → h₈.get? c = some o := fun c o n e => up c o n (Heap.get?_push_of_some _ e)
  have zlt : h₅.objs.size ≠ z := Nat.ne_of_gt (Heap.lt_size z₅)
  have t₈ : IsPair h₈ h₅.objs.size x y := up _ _ zlt (Heap.get?_push_size _ rfl)
  refine wpAny_pure ⟨_, rfl, ?_⟩
  show Q (.ref h₅.objs.size) _
  rw [hsz] at z₈ t₈ ⊢
  refine hQ h₈ z₈ (up5 _ _ D.TOz t₅) (N1.keep q1 fun c o e q => up5 c o (by rcases e with rfl | rfl; exact D.i1z; exact D.l1z) q) (N2.keep q2 fun c o e q => up5 c o (by rcases e with rfl | rfl; exact D.i2z; exact D.l2z) q) t₈ fun c o n1 n2 n3 n4 e => up5 c o n1 (all c o n1 n2 n3 n4 e)
theorem zipN_end {Q : PySem.Fin → Shared → Prop} (hh : A.handled = none) (D : ZipApart z TI TO i1 i2 l1 l2) (N1 : Nx P w i1 l1 S1 xs) (N2 : Nx P w i2 l2 S2 ys)
    (hz : IsZip s.heap z TI TO .none) (hTI : IsPair s.heap TI (.ref i1) (.ref i2)) (hTO : IsPair s.heap TO a b) (h1 : S1 k1 s.heap) (h2 : S2 k2 s.heap) (hend : xs[k1]? = none ∨ ys[k2]? = none)
    (hE : ∀ h' e, (∀ c o, c ≠ z → c ≠ TO → c ≠ i1 → c ≠ i2 → s.heap.get? c = some o → h'.get? c = some o) → (∃ o, h'.get? e = some o ∧ o.cls = .type "StopIteration") → E (.ref e) { s with heap := h' }) :
    wpAny (model P w) A (Builtin.«zip.__next__» ⟨[.ref z], []⟩) Q E s := by
  show wpAny _ _ (field (.ref z) 2 >>= _) _ _ _
  refine wpAny_bind (wpAny_field hz rfl (x := .bool false) rfl ?_)
  show wpAny _ _ (field (.ref z) 3 >>= _) _ _ _
  refine wpAny_bind (wpAny_field hz rfl (x := .ref TI) rfl (wpAny_bind (wpAny_seqItems hTI rfl ?_)))
  show wpAny _ _ (Builtin.SmallTypes.ownedTupleIsFree (.ref z) >>= _) _ _ _
  refine wpAny_bind ?_
  unfold Builtin.SmallTypes.ownedTupleIsFree
  refine wpAny_bind (wpAny_field hz rfl (x := .none) rfl (wpAny_pure ?_))
  simp only [if_true]
  refine wpAny_bind (wpAny_rule (wpAny_bind (wpAny_field hz rfl (x := .ref TO) rfl ?_)))
  refine wpAny_bind (wpAny_setField_rec hz (by simp) fun h₁ hz₁ s₁ => wpAny_bind ?_)
  replace hz₁ : IsZip h₁ z TI TO .ellipsis := hz₁
  have c1 : ∀ c o, c ≠ z → s.heap.get? c = some o → h₁.get? c = some o := fun c o n e => s₁.extBut c o n e
  have g1 := N1.keep h1 (h' := h₁) fun c o e => c1 c o (by rcases e with rfl | rfl; exact D.i1z; exact D.l1z)
  simp only [List.zipIdx_cons, List.zipIdx_nil, List.forIn_cons, List.forIn_nil]
  refine wpAny_bind (wpAny_bind (wpAny_onRaise ?_))
  show wpAny _ _ (Builtin.SmallTypes.nextOf (.ref i1) >>= _) _ _ _
  cases hx : xs[k1]? with
  | none =>
    refine wpAny_bind (N1.fin hh g1 hx fun h₂ e s₂ ⟨oe, he, hc⟩ => ?_)
    have hz₂ : IsZip h₂ z TI TO .ellipsis := s₂ _ _ (Ne.symm D.i1z) hz₁
    have hez : e ≠ z := fun q => by subst q; rw [hz₂] at he; cases he; simp at hc
    refine wpAny_setField_rec hz₂ (by simp) fun h₃ _ s₃ => hE h₃ e (fun c o n1 _ n3 _ q => s₃.extBut _ _ n1 (s₂ _ _ n3 (c1 c o n1 q))) ⟨oe, s₃.extBut _ _ hez he, hc⟩
  | some x =>
    have hy : ys[k2]? = none := hend.elim (fun q => by rw [hx] at q; cases q) id
    refine wpAny_bind (N1.item g1 hx fun h₂ p₂ s₂ => wpAny_pure ?_)
    have c2 : ∀ c o, c ≠ i1 → h₁.get? c = some o → h₂.get? c = some o := fun c o n e => s₂.extBut c o n e
    have t₂ : IsPair h₂ TO a b := c2 _ _ D.TOi1 (c1 _ _ D.TOz hTO)
    refine wpAny_bind (wpAny_seqItems t₂ rfl (wpAny_bind (wpAny_updateSeq_pair t₂ fun h₃ t₃ s₃ => wpAny_bind (wpAny_letGo (wpAny_pure ?_)))))
    have c3 : ∀ c o, c ≠ TO → h₂.get? c = some o → h₃.get? c = some o := fun c o n e => s₃.extBut c o n e
    refine wpAny_bind (wpAny_bind (wpAny_onRaise ?_))
    show wpAny _ _ (Builtin.SmallTypes.nextOf (.ref i2) >>= _) _ _ _
    refine wpAny_bind (N2.fin hh (N2.keep h2 fun c o e q => by
      rcases e with rfl | rfl
      · exact c3 _ o (Ne.symm D.TOi2) (c2 _ o (Ne.symm D.i12) (c1 _ o D.i2z q))
      · exact c3 _ o D.l2TO (c2 _ o D.l2i1 (c1 _ o D.l2z q))) hy fun h₄ e s₄ ⟨oe, he, hc⟩ => ?_)
    have hz₄ : IsZip h₄ z TI TO .ellipsis := s₄ _ _ (Ne.symm D.i2z) (c3 _ _ (Ne.symm D.TOz) (c2 _ _ (Ne.symm D.i1z) hz₁))
    have hez : e ≠ z := fun q => by subst q; rw [hz₄] at he; cases he; simp at hc
    refine wpAny_setField_rec hz₄ (by simp) fun h₅ _ s₅ => hE h₅ e (fun c o n1 n2 n3 n4 q => s₅.extBut _ _ n1 (s₄ _ _ n4 (c3 c o n2 (c2 c o n3 (c1 c o n1 q))))) ⟨oe, s₅.extBut _ _ hez he, hc⟩
theorem nextZ_item {Q : Option Value → Shared → Prop} (D : ZipApart z TI TO i1 i2 l1 l2) (N1 : Nx P w i1 l1 S1 xs) (N2 : Nx P w i2 l2 S2 ys)
    (hz : IsZip s.heap z TI TO .none) (hTI : IsPair s.heap TI (.ref i1) (.ref i2)) (hTO : IsPair s.heap TO a b) (h1 : S1 k1 s.heap) (h2 : S2 k2 s.heap) (hx : xs[k1]? = some x) (hy : ys[k2]? = some y)
    (hQ : ∀ h', IsZip h' z TI TO (rawInt s.heap.objs.size) → IsPair h' TO x y → S1 (k1 + 1) h' → S2 (k2 + 1) h' → IsPair h' s.heap.objs.size x y →
      (∀ c o, c ≠ z → c ≠ TO → c ≠ i1 → c ≠ i2 → s.heap.get? c = some o → h'.get? c = some o) → Q (some (.ref s.heap.objs.size)) { s with heap := h' }) : wpAny (model P w) A (pyNext (.ref z)) Q E s := by
  have hT : s.TypeIs (.ref z) "zip" := ⟨_, hz, rfl⟩
  unfold pyNext
  exact wpAny_bind (wpAny_attempt (wpAny_callSpecial?_slot (name := Str.ofString "__next__") hT F.slot_zip_next
    (wpAny_call_entry F.slot_zip_next hT F.entry_zip_next (zipN_item D N1 N2 hz hTI hTO h1 h2 hx hy fun h' a1 a2 a3 a4 a5 a6 => wpAny_pure (hQ h' a1 a2 a3 a4 a5 a6)) (F.args_zip_next_1 _))))
theorem nextZ_end {Q : Option Value → Shared → Prop} (hh : A.handled = none) (D : ZipApart z TI TO i1 i2 l1 l2) (N1 : Nx P w i1 l1 S1 xs) (N2 : Nx P w i2 l2 S2 ys)
    (hz : IsZip s.heap z TI TO .none) (hTI : IsPair s.heap TI (.ref i1) (.ref i2)) (hTO : IsPair s.heap TO a b) (h1 : S1 k1 s.heap) (h2 : S2 k2 s.heap) (hend : xs[k1]? = none ∨ ys[k2]? = none)
    (hQ : ∀ h', (∀ c o, c ≠ z → c ≠ TO → c ≠ i1 → c ≠ i2 → s.heap.get? c = some o → h'.get? c = some o) → Q none { s with heap := h' }) : wpAny (model P w) A (pyNext (.ref z)) Q E s := by
  have hT : s.TypeIs (.ref z) "zip" := ⟨_, hz, rfl⟩
  unfold pyNext
  refine wpAny_bind (wpAny_attempt (wpAny_callSpecial?_slot (name := Str.ofString "__next__") hT F.slot_zip_next
    (wpAny_call_entry F.slot_zip_next hT F.entry_zip_next (zipN_end hh D N1 N2 hz hTI hTO h1 h2 hend fun h' e hk ⟨o, ho, hc⟩ => ?_) (F.args_zip_next_1 _))))
  exact wpAny_bind (wpAny_isInstance (T := "StopIteration") (b := true) ⟨o, ho, hc⟩ isSubtype_stop (wpAny_pure (hQ _ hk)))
end
/-! .. made -/
abbrev zm1 (h : Heap) (l1 : Addr) : Heap := h.push { cls := .type "list_iterator", data := .fields #[.ref l1, .int 0 0] }
abbrev zm2 (h : Heap) (l1 l2 : Addr) : Heap := (zm1 h l1).push { cls := .type "tuple_iterator", data := .fields #[.ref l2, .int 0 0] }
abbrev zm3 (h : Heap) (l1 l2 : Addr) : Heap := (zm2 h l1 l2).push { cls := .type "tuple", data := .seq #[.ref h.objs.size, .ref (zm1 h l1).objs.size] }
abbrev zm4 (h : Heap) (l1 l2 : Addr) : Heap := (zm3 h l1 l2).push { cls := .type "tuple", data := .seq #[.none, .none] }
abbrev zm5 (h : Heap) (l1 l2 : Addr) : Heap := (zm4 h l1 l2).push { cls := .type "zip", data := .fields #[.none, .bool false, .bool false, .ref (zm2 h l1 l2).objs.size, .ref (zm3 h l1 l2).objs.size] }
theorem zm_new (l1 l2 : Addr) (xs ys : Array Value) :
    Meets (Builtin.«zip.__new__» ⟨[.type "zip", .ref l1, .ref l2], []⟩) (fun _ R s => s.heap.IsList l1 xs ∧ s.heap.IsTuple l2 ys ∧ R (.ok (.ret (.ref (zm4 s.heap l1 l2).objs.size))) { s with heap := zm5 s.heap l1 l2 }) :=
  .of_wp fun prog w A R s h => by
    obtain ⟨hp, g, d, tk, os⟩ := s
    obtain ⟨hl1, hl2, h⟩ := h
    have hsub := sub_zip
    have hL1 : Heap.IsList (Shared.heap ⟨hp, g, d, tk, os⟩) l1 xs := hl1
    have hL2 : Heap.IsTuple (Shared.heap ⟨hp.push { cls := .type "list_iterator", data := .fields #[.ref l1, .int 0 0] }, g, d, tk, os⟩) l2 ys := Heap.IsTuple.push hl2 _
    wp_walk using wpAny_pyIter_list hL1, wpAny_pyIter_tuple hL2
    exact ⟨_, rfl, h⟩
section
variable {P : Program} {w : World} {A : Around} {E : Value → Shared → Prop} {s : Shared}
theorem call_zm {l1 l2 : Addr} {xs ys : Array Value} {Q : Value → Shared → Prop} (hl1 : s.heap.IsList l1 xs) (hl2 : s.heap.IsTuple l2 ys)
    (h : ∀ h', IsZip h' (s.heap.objs.size + 4) (s.heap.objs.size + 2) (s.heap.objs.size + 3) .none → IsPair h' (s.heap.objs.size + 2) (.ref s.heap.objs.size) (.ref (s.heap.objs.size + 1)) →
      IsPair h' (s.heap.objs.size + 3) .none .none → h'.IsListIter s.heap.objs.size l1 0 → h'.IsTupleIter (s.heap.objs.size + 1) l2 0 →
      (∀ c o, s.heap.get? c = some o → h'.get? c = some o) → Q (.ref (s.heap.objs.size + 4)) { s with heap := h' }) :
    wpAny (model P w) A (call (.type "zip") [.ref l1, .ref l2]) Q E s := by
  refine callType_new F.called_zip (by decide) (F.typeCall_zip_2 _ _) (F.newCall_zip_2 _ _) (fun obj => F.args_object_init_3 obj _ _) F.entry_zip_new (zm_new l1 l2 xs ys) ⟨hl1, hl2, ?_⟩
  have z1 : (zm1 s.heap l1).objs.size = s.heap.objs.size + 1 := Heap.size_push ..
  have z2 : (zm2 s.heap l1 l2).objs.size = s.heap.objs.size + 2 := by rw [Heap.size_push, z1]
  have z3 : (zm3 s.heap l1 l2).objs.size = s.heap.objs.size + 3 := by rw [Heap.size_push, z2]
  have z4 : (zm4 s.heap l1 l2).objs.size = s.heap.objs.size + 4 := by rw [Heap.size_push, z3]
  have up := fun {h : Heap} {c : Addr} {o : Obj} (o' : Obj) (q : h.get? c = some o) => Heap.get?_push_of_some o' q
  have g5 : (zm5 s.heap l1 l2).get? (zm4 s.heap l1 l2).objs.size = some _ := Heap.get?_push_size _ rfl
  have g4 : (zm5 s.heap l1 l2).get? (zm3 s.heap l1 l2).objs.size = some _ := up _ (Heap.get?_push_size _ rfl)
  have g3 : (zm5 s.heap l1 l2).get? (zm2 s.heap l1 l2).objs.size = some _ := up _ (up _ (Heap.get?_push_size _ rfl))
  have g2 : (zm5 s.heap l1 l2).get? (zm1 s.heap l1).objs.size = some _ := up _ (up _ (up _ (Heap.get?_push_size _ rfl)))
  have g1 : (zm5 s.heap l1 l2).get? s.heap.objs.size = some _ := up _ (up _ (up _ (up _ (Heap.get?_push_size _ rfl))))
  show _ ∧ _
  rw [z2, z3, z4] at g5
  rw [z1, z2] at g3
  rw [z3] at g4
  rw [z1] at g2
  rw [z4]
  exact ⟨⟨_, g5, rfl⟩, h _ g5 g3 g4 ⟨_, g1, rfl, rfl⟩ ⟨_, g2, rfl, rfl⟩ fun c o q => up _ (up _ (up _ (up _ (up _ q))))⟩
end
/-- the list at a, the tuple at b, as they stand at each turn -/
def ItzM (K : PySem.W.Frag) (a b : Addr) : It :=
  ⟨fun i H => ∃ (xs ys : List V) (x y : V), SqL K H a xs ∧ SqT K H b ys ∧ xs[i]? = some x ∧ ys[i]? = some y,
    fun i H v H' => ∃ T x y, v = .ref T ∧ H T = none ∧ H' = upd H T (.tup [x, y]) ∧ (∀ xs, SqL K H a xs → xs[i]? = some x) ∧ ∀ ys, SqT K H b ys → ys[i]? = some y,
    fun i H => ∃ xs ys : List V, SqL K H a xs ∧ SqT K H b ys ∧ (xs.length ≤ i ∨ ys.length ≤ i)⟩
theorem turn_zm {P : Program} {w : World} {K : PySem.W.Frag} {elts : List Expr} {kk : Nat} {tpos : Pos} {a b z TI TO i1 i2 : Addr} (D : ZipApart z TI TO i1 i2 a b) :
    Turn P w K (.Tuple elts kk tpos) (ItzM K a b) [z, TI, TO, i1, i2] z (fun i h => IsZip h z TI TO .none ∧ IsPair h TI (.ref i1) (.ref i2) ∧ (∃ x y, IsPair h TO x y) ∧ h.IsListIter i1 a i ∧ h.IsTupleIter i2 b i) where
  mem := by simp
  obj := fun i h st c hc => by
    obtain ⟨hz, hTI, ⟨x, y, hTO⟩, ⟨o1, e1, _, d1⟩, ⟨o2, e2, _, d2⟩⟩ := st
    have e' : c = z ∨ c = TI ∨ c = TO ∨ c = i1 ∨ c = i2 := by simpa using hc
    rcases e' with rfl | rfl | rfl | rfl | rfl
    · exact ⟨_, hz, fun v q => nomatch q⟩
    · exact ⟨_, hTI, fun v q => nomatch q⟩
    · exact ⟨_, hTO, fun v q => nomatch q⟩
    · exact ⟨o1, e1, fun v q => by rw [d1] at q; cases q⟩
    · exact ⟨o2, e2, fun v q => by rw [d2] at q; cases q⟩
  keep := fun i h h' st k => by
    obtain ⟨hz, hTI, ⟨x, y, hTO⟩, h1, h2⟩ := st
    exact ⟨k z (by simp) _ hz, k TI (by simp) _ hTI, ⟨x, y, k TO (by simp) _ hTO⟩, h1.at fun o q => k i1 (by simp) o q, h2.at fun o q => k i2 (by simp) o q⟩
  item := by
    intro X hP hw hK hc i pins s σ H E I hf st hg
    subst hP hw hK
    obtain ⟨hz, hTI, ⟨x0, y0, hTO⟩, h1, h2⟩ := st
    obtain ⟨xs, ys, x, y, hqx, hqy, hx, hy⟩ := hg
    obtain ⟨its, rv, p, _⟩ := I.list hqx
    obtain ⟨its2, rv2, p2, _⟩ := I.tuple hqy
    obtain ⟨u, hu, ru⟩ := rv.get hx
    obtain ⟨u2, hu2, ru2⟩ := rv2.get hy
    have hzl : z < s.heap.objs.size := Heap.lt_size hz
    refine nextZ_item D (nx_list D.l1i1 (xs := its.toArray)) (nx_tup D.l2i2 (xs := its2.toArray)) hz hTI hTO ⟨h1, p.isList⟩ ⟨h2, p2⟩ (x := u) (y := u2) (by simpa using hu) (by simpa using hu2) fun h' z' TO' h1' h2' hT hk => ?_
    refine ⟨_, rfl, wpAny_letOwnedTupleGo_zip (s := { s with heap := h' }) z' fun h'' z'' sb => ?_⟩
    have hT2 : h''.get? s.heap.objs.size = some { cls := .type "tuple", data := .seq #[u, u2] } := (sb.2 _ (Nat.ne_of_gt hzl)).trans hT
    have new : ObjOk X.prog X.w (upd H s.heap.objs.size (.tup [x, y])) h'' s.heap.objs.size (.tup [x, y]) := ⟨by show 2 ≤ sizeLine; decide, [u, u2], .cons ru (.cons ru2 .nil), ⟨_, hT2, rfl, _, rfl⟩⟩
    have nin : ∀ c, c ∉ [z, TI, TO, i1, i2] → c ≠ z ∧ c ≠ TO ∧ c ≠ i1 ∧ c ≠ i2 := fun c hc => ⟨fun e => hc (by simp [e]), fun e => hc (by simp [e]), fun e => hc (by simp [e]), fun e => hc (by simp [e])⟩
    have I1 : Inv X pins σ (upd H s.heap.objs.size (.tup [x, y])) { s with heap := h'' } :=
      I.turnedNew (t' := s.toks) (ch := [z, TI, TO, i1, i2]) (fun c o hb q => (sb.2 c (nin c hb).1).trans (hk c o (nin c hb).1 (nin c hb).2.1 (nin c hb).2.2.1 (nin c hb).2.2.2 q)) hf (Nat.le_refl _) new
    refine ⟨.ref s.heap.objs.size, _, I1, rfl, ⟨_, x, y, rfl, I.hok.fresh (Nat.le_refl _), rfl, fun l hl => by rw [I.list_inj hl hqx]; exact hx, fun l hl => by rw [I.tuple_inj hl hqy]; exact hy⟩, ⟨z'', ?_, ⟨u, u2, ?_⟩, ?_, ?_⟩, fun c hcm => ?_⟩
    · exact (sb.2 _ D.TIz).trans (hk _ _ D.TIz D.TITO D.TIi1 D.TIi2 hTI)
    · exact (sb.2 _ D.TOz).trans TO'
    · exact h1'.1.at fun o q => (sb.2 _ D.i1z).trans q
    · exact h2'.1.at fun o q => (sb.2 _ D.i2z).trans q
    · have hlt : c < s.heap.objs.size := by
        have e' : c = z ∨ c = TI ∨ c = TO ∨ c = i1 ∨ c = i2 := by simpa using hcm
        rcases e' with rfl | rfl | rfl | rfl | rfl
        · exact hzl
        · exact Heap.lt_size hTI
        · exact Heap.lt_size hTO
        · obtain ⟨_, e1, _⟩ := h1; exact Heap.lt_size e1
        · obtain ⟨_, e2, _⟩ := h2; exact Heap.lt_size e2
      rw [upd_ne (Nat.ne_of_lt hlt)]
      exact (hf c hcm).1
  done := by
    intro X hP hw hK hc i pins s σ H E I hf st hg
    subst hP hw hK
    obtain ⟨hz, hTI, ⟨x0, y0, hTO⟩, h1, h2⟩ := st
    obtain ⟨xs, ys, hqx, hqy, hend⟩ := hg
    obtain ⟨its, rv, p, _⟩ := I.list hqx
    obtain ⟨its2, rv2, p2, _⟩ := I.tuple hqy
    have l1 := rv.length
    have l2 := rv2.length
    have he : its.toArray[i]? = none ∨ its2.toArray[i]? = none := hend.imp (fun q => by simp; omega) fun q => by simp; omega
    have nin : ∀ c, c ∉ [z, TI, TO, i1, i2] → c ≠ z ∧ c ≠ TO ∧ c ≠ i1 ∧ c ≠ i2 := fun c hc => ⟨fun e => hc (by simp [e]), fun e => hc (by simp [e]), fun e => hc (by simp [e]), fun e => hc (by simp [e])⟩
    exact nextZ_end (I.ok.hd hc) D (nx_list D.l1i1 (xs := its.toArray)) (nx_tup D.l2i2 (xs := its2.toArray)) hz hTI hTO ⟨h1, p.isList⟩ ⟨h2, p2⟩ he fun h' hk => ⟨rfl, I.turnedL (t' := s.toks) (ch := [z, TI, TO, i1, i2]) (fun c o hb q =>
      hk c o (nin c hb).1 (nin c hb).2.1 (nin c hb).2.2.1 (nin c hb).2.2.2 q) hf⟩
  self := fun A i s Q E st h => wpAny_pyIter_zip st.1 h
def iZipM (K : PySem.W.Frag) (ta : TA) : TI := fun σ H R => ta σ H fun vs H1 => ∃ a b xs ys, vs = [.ref a, .ref b] ∧ ((SqL K H1 a xs ∧ SqL K H1 b ys ∧ R (Itz K a b) H1) ∨ (SqT K H1 a xs ∧ SqT K H1 b ys ∧ R (RZ.ItzT K a b) H1) ∨ (SqL K H1 a xs ∧ SqT K H1 b ys ∧ R (ItzM K a b) H1))
theorem pi_zipM {X : Cx} {e e2 : Expr} {ta : TA} {p pos tpos : Pos} {elts : List Expr} {kk : Nat} (hg : Gl X "zip") (hm : X.mg "zip" = none) (ha : PA X [e, e2] ta)
    (hs : starEach [e, e2] X.env = (false, eval e X.env) :: starEach [e2] X.env := by rfl) (hpl : (backTo pos (starEach [e2] X.env)).any (·.1) = false := by rfl) :
    PI X (.Tuple elts kk tpos) (.Call (.Name "zip" p) [e, e2] [] pos) (iZipM X.K ta) := by
  refine ⟨fun pins s σ H R I h => ?_⟩
  refine Call_ (ld_blt I hg hm PyProof.Rows.boot_zip (PyProof.Rows.callWith_type1 (thn (ha.run pos pins s σ H _ I h) fun us s1 ⟨vs, H1, I1, r1, q1⟩ => ?_) hs hpl))
  obtain ⟨a, b, xs, ys, ex, q1⟩ := q1
  subst ex
  cases r1 with
  | cons r rr => cases rr with
    | cons r' rr =>
      cases rr
      cases r
      cases r'
      have fr : ∀ c, c ∈ [s1.heap.objs.size + 4, s1.heap.objs.size + 2, s1.heap.objs.size + 3, s1.heap.objs.size, s1.heap.objs.size + 1] → FpOk X pins H1 c := fun c hcm => by
        have hle : s1.heap.objs.size ≤ c := by
          simp only [List.mem_cons, List.not_mem_nil, or_false] at hcm
          rcases hcm with z | z | z | z | z <;> omega
        exact I1.fpOk hle (I1.hok.fresh hle)
      rcases q1 with ⟨hqx, hqy, q⟩ | ⟨hqx, hqy, q⟩ | ⟨hqx, hqy, q⟩
      · obtain ⟨its, rv, p1, _⟩ := I1.list hqx
        obtain ⟨its2, rv2, p2, _⟩ := I1.list hqy
        refine call_zip_2 p1.isList p2.isList fun h' hz hTI hTO h1 h2 hsz hk => wpAny_pyIter_zip hz ?_
        exact ⟨s1.heap.objs.size + 4, [s1.heap.objs.size + 4, s1.heap.objs.size + 2, s1.heap.objs.size + 3, s1.heap.objs.size, s1.heap.objs.size + 1], _, _, H1, rfl, I1.kept (t' := s1.toks) hk, turn_zip (PySem.W.ktu_apart s1.heap.objs.size a b p1.lt p2.lt), ⟨hz, hTI, ⟨_, _, hTO⟩, h1, h2⟩, fr, q⟩
      · obtain ⟨its, rv, p1, _⟩ := I1.tuple hqx
        obtain ⟨its2, rv2, p2, _⟩ := I1.tuple hqy
        obtain ⟨o1, ho1, _⟩ := id p1
        obtain ⟨o2, ho2, _⟩ := id p2
        refine RZ.call_zipT (show s1.heap.IsTuple a its.toArray from p1) (show s1.heap.IsTuple b its2.toArray from p2) fun h' hz hTI hTO h1 h2 hsz hk => wpAny_pyIter_zip hz ?_
        exact ⟨s1.heap.objs.size + 4, [s1.heap.objs.size + 4, s1.heap.objs.size + 2, s1.heap.objs.size + 3, s1.heap.objs.size, s1.heap.objs.size + 1], _, _, H1, rfl, I1.kept (t' := s1.toks) hk, RZ.turn_zipT (PySem.W.ktu_apart s1.heap.objs.size a b (Heap.lt_size ho1) (Heap.lt_size ho2)), ⟨hz, hTI, ⟨_, _, hTO⟩, h1, h2⟩, fr, q⟩
      · obtain ⟨its, rv, p1, _⟩ := I1.list hqx
        obtain ⟨its2, rv2, p2, _⟩ := I1.tuple hqy
        obtain ⟨o2, ho2, _⟩ := id p2
        refine call_zm p1.isList (show s1.heap.IsTuple b its2.toArray from p2) fun h' hz hTI hTO h1 h2 hk => wpAny_pyIter_zip hz ?_
        exact ⟨s1.heap.objs.size + 4, [s1.heap.objs.size + 4, s1.heap.objs.size + 2, s1.heap.objs.size + 3, s1.heap.objs.size, s1.heap.objs.size + 1], _, _, H1, rfl, I1.kept (t' := s1.toks) hk, turn_zm (PySem.W.ktu_apart s1.heap.objs.size a b p1.lt (Heap.lt_size ho2)), ⟨hz, hTI, ⟨_, _, hTO⟩, h1, h2⟩, fr, q⟩
/-! .. by values -/
def zipD (xs ys : List D) : List D := List.zipWith (fun a b => .tup [a, b]) xs ys
def zipF : List D → S → R Src := fun ds s1 => match ds with
  | [.tup xs, .tup ys] => .ok (.fix (zipD xs ys)) s1
  | [.lst xs, .lst ys] => .ok (.fix (zipD xs ys)) s1
  | [.lst xs, .tup ys] => .ok (.fix (zipD xs ys)) s1
  | [.tupF xs, .tup ys] => .ok (.fix (zipD xs ys)) s1
  | [.tupF xs, .tupF ys] => .ok (.fix (zipD xs ys)) s1
  | [.lst xs, .tupF ys] => .ok (.fix (zipD xs ys)) s1
  | _ => .bad
def mZip (ms : MA) : MI := fun ρ s => (ms ρ s).bnd zipF
section
variable {G : Cg} {ι : Z} {H : Hp} {xs ys : List D} {vs us : List V} {a b : Addr}
theorem itok_zip {J : It} (hgo : ∀ ι1 H1 i v u, ExtW ι H ι1 H1 → vs[i]? = some v → us[i]? = some u → J.go i H1) (hstop : ∀ ι1 H1 i, ExtW ι H ι1 H1 → (vs.length ≤ i ∨ us.length ≤ i) → J.stop i H1)
    (hy : ∀ ι1 H1 i v H', ExtW ι H ι1 H1 → J.yld i H1 v H' → ∃ T x y, v = .ref T ∧ H1 T = none ∧ H' = upd H1 T (.tup [x, y]) ∧ vs[i]? = some x ∧ us[i]? = some y) (r : RelDs G ι H xs vs) (r' : RelDs G ι H ys us) : ItOk G ι H (.fix (zipD xs ys)) J := fun ι1 H1 s zs e q hzs i => by
  simp only [srcAt, Option.some.injEq] at hzs
  subst hzs
  have r1 := RelDs.monoW e _ r
  have r2 := RelDs.monoW e _ r'
  refine ⟨fun d hd => ?_, fun hl => hstop ι1 H1 i e (by rw [r1.len, r2.len]; unfold zipD at hl; rw [List.length_zipWith] at hl; omega)⟩
  unfold zipD at hd
  rw [List.getElem?_zipWith] at hd
  cases hx : xs[i]? with
  | none => rw [hx] at hd; cases hd
  | some d1 =>
    cases hy2 : ys[i]? with
    | none => rw [hx, hy2] at hd; cases hd
    | some d2 =>
      rw [hx, hy2] at hd
      cases hd
      obtain ⟨v, hv, rv⟩ := r1.get hx
      obtain ⟨u, hu, ru⟩ := r2.get hy2
      refine ⟨hgo ι1 H1 i v u e hv hu, fun x H' hyy => ?_⟩
      obtain ⟨T, x', y', rfl, hT, rfl, h1, h2⟩ := hy ι1 H1 i x H' e hyy
      rw [hv] at h1; cases h1
      rw [hu] at h2; cases h2
      refine ⟨.new hT, fun b hb => upd_ne fun z => q.tr hb (z ▸ hT), ?_⟩
      simp only [RelD]
      refine ⟨T, _, rfl, ⟨q.off hT, upd_same⟩, ?_⟩
      simp only [RelDs]
      exact ⟨_, _, rfl, rv.mono (.new hT), _, _, rfl, ru.mono (.new hT), rfl⟩
end
theorem LstAt.sqW {K : PySem.W.Frag} {ι : Z} {H : Hp} {ι' : Z} {H' : Hp} {a : Addr} {xs : List V} (t : LstAt ι H a xs) (e : ExtW ι H ι' H') : SqL K H' a xs := .inl (.inl (t.monoW e).2)
section
variable {X : Cx} {W : WX}
theorem vi_zip {e e2 : Expr} {ms : MA} {p pos tpos : Pos} {elts : List Expr} {kk : Nat} (hg : Gl X "zip") (hm : X.mg "zip" = none) (ha : VA X W [e, e2] ms) (hs : starEach [e, e2] X.env = (false, eval e X.env) :: starEach [e2] X.env := by rfl) (hpl : (backTo pos (starEach [e2] X.env)).any (·.1) = false := by rfl) :
    VI X W (.Tuple elts kk tpos) (.Call (.Name "zip" p) [e, e2] [] pos) (mZip ms) :=
  pi_imp (pi_zipM hg hm ha hs hpl) fun σ H Rr ⟨ι, s, ρ, q, en, h⟩ => by
    unfold mZip at h
    refine ⟨ι, s, ρ, q, en, ?_⟩
    cases hm : ms ρ s with
    | bad => rw [hm] at h; exact h
    | exn c fs ρ' s' => rw [hm] at h; exact h
    | ok ds s' =>
      rw [hm] at h
      simp only [R.bnd_ok] at h
      unfold zipF at h
      intro ι1 H1 e1 q1 vs r
      split at h
      · have h1 := h ι1 H1 e1 q1
        simp only [RelDs, RelD] at r
        obtain ⟨_, _, rfl, ⟨a, us, rfl, t, k⟩, _, _, rfl, ⟨b, us2, rfl, t2, k2⟩, rfl⟩ := r
        exact ⟨a, b, us, us2, rfl, .inr (.inl ⟨t.sq, t2.sq, h1 _ (itok_zip (fun ι1 H1 i v u e hv hu => ⟨us, us2, v, u, (t.monoW e).sq, (t2.monoW e).sq, hv, hu⟩) (fun ι1 H1 i e hl => ⟨us, us2, (t.monoW e).sq, (t2.monoW e).sq, hl⟩)
          (fun ι1 H1 i v H' e ⟨T, x, y, g1, g2, g3, g4, g5⟩ => ⟨T, x, y, g1, g2, g3, g4 _ (t.monoW e).sq, g5 _ (t2.monoW e).sq⟩) k k2)⟩)⟩
      · have h1 := h ι1 H1 e1 q1
        simp only [RelDs, RelD] at r
        obtain ⟨_, _, rfl, ⟨a, us, rfl, t, k⟩, _, _, rfl, ⟨b, us2, rfl, t2, k2⟩, rfl⟩ := r
        exact ⟨a, b, us, us2, rfl, .inl ⟨.inl (.inl t.2), .inl (.inl t2.2), h1 _ (itok_zip (fun ι1 H1 i v u e hv hu => ⟨us, us2, v, u, t.sqW e, t2.sqW e, hv, hu⟩) (fun ι1 H1 i e hl => ⟨us, us2, t.sqW e, t2.sqW e, hl⟩)
          (fun ι1 H1 i v H' e ⟨T, x, y, g1, g2, g3, g4, g5⟩ => ⟨T, x, y, g1, g2, g3, g4 _ (t.sqW e), g5 _ (t2.sqW e)⟩) k k2)⟩⟩
      · have h1 := h ι1 H1 e1 q1
        simp only [RelDs, RelD] at r
        obtain ⟨_, _, rfl, ⟨a, us, rfl, t, k⟩, _, _, rfl, ⟨b, us2, rfl, t2, k2⟩, rfl⟩ := r
        exact ⟨a, b, us, us2, rfl, .inr (.inr ⟨.inl (.inl t.2), t2.sq, h1 _ (itok_zip (fun ι1 H1 i v u e hv hu => ⟨us, us2, v, u, t.sqW e, (t2.monoW e).sq, hv, hu⟩) (fun ι1 H1 i e hl => ⟨us, us2, t.sqW e, (t2.monoW e).sq, hl⟩)
          (fun ι1 H1 i v H' e ⟨T, x, y, g1, g2, g3, g4, g5⟩ => ⟨T, x, y, g1, g2, g3, g4 _ (t.sqW e), g5 _ (t2.monoW e).sq⟩) k k2)⟩)⟩
      · have h1 := h ι1 H1 e1 q1
        simp only [RelDs, RelD] at r
        obtain ⟨_, _, rfl, ⟨a, us, rfl, t, k⟩, _, _, rfl, ⟨b, us2, rfl, t2, k2⟩, rfl⟩ := r
        exact ⟨a, b, us, us2, rfl, .inr (.inl ⟨t.sq, t2.sq, h1 _ (itok_zip (fun ι1 H1 i v u e hv hu => ⟨us, us2, v, u, (t.monoW e).sq, (t2.monoW e).sq, hv, hu⟩) (fun ι1 H1 i e hl => ⟨us, us2, (t.monoW e).sq, (t2.monoW e).sq, hl⟩)
          (fun ι1 H1 i v H' e ⟨T, x, y, g1, g2, g3, g4, g5⟩ => ⟨T, x, y, g1, g2, g3, g4 _ (t.monoW e).sq, g5 _ (t2.monoW e).sq⟩) k k2)⟩)⟩
      · have h1 := h ι1 H1 e1 q1
        simp only [RelDs, RelD] at r
        obtain ⟨_, _, rfl, ⟨a, us, rfl, t, k⟩, _, _, rfl, ⟨b, us2, rfl, t2, k2⟩, rfl⟩ := r
        exact ⟨a, b, us, us2, rfl, .inr (.inl ⟨t.sq, t2.sq, h1 _ (itok_zip (fun ι1 H1 i v u e hv hu => ⟨us, us2, v, u, (t.monoW e).sq, (t2.monoW e).sq, hv, hu⟩) (fun ι1 H1 i e hl => ⟨us, us2, (t.monoW e).sq, (t2.monoW e).sq, hl⟩)
          (fun ι1 H1 i v H' e ⟨T, x, y, g1, g2, g3, g4, g5⟩ => ⟨T, x, y, g1, g2, g3, g4 _ (t.monoW e).sq, g5 _ (t2.monoW e).sq⟩) k k2)⟩)⟩
      · have h1 := h ι1 H1 e1 q1
        simp only [RelDs, RelD] at r
        obtain ⟨_, _, rfl, ⟨a, us, rfl, t, k⟩, _, _, rfl, ⟨b, us2, rfl, t2, k2⟩, rfl⟩ := r
        exact ⟨a, b, us, us2, rfl, .inr (.inr ⟨.inl (.inl t.2), t2.sq, h1 _ (itok_zip (fun ι1 H1 i v u e hv hu => ⟨us, us2, v, u, t.sqW e, (t2.monoW e).sq, hv, hu⟩) (fun ι1 H1 i e hl => ⟨us, us2, t.sqW e, (t2.monoW e).sq, hl⟩)
          (fun ι1 H1 i v H' e ⟨T, x, y, g1, g2, g3, g4, g5⟩ => ⟨T, x, y, g1, g2, g3, g4 _ (t.sqW e), g5 _ (t2.monoW e).sq⟩) k k2)⟩)⟩
      · exact h.elim
end
end VL
namespace VL
open PySem PySem.Spec PyProof.Rows L2

/-! ### properties, classmethods, cls(..), methods, repr by an own __repr__ -/
structure ClP (P : Program) (w : World) (K : PySem.W.Frag) (mg : Str → Option Value) (base : Heap) (k : Nat) (x f : Str) (m : FM) : Prop where
  ex : ∀ C, mg x = some (.ref C) → ∃ (p g : Addr) (fd : FuncData) (ps : List Str), Cls K C ∧ PropOf K C f p g ∧ FnG P w K mg base k g fd ps (spG ⟨K, mg⟩ 1 m) ∧ Binds K fd ps []
structure ClC (P : Program) (w : World) (K : PySem.W.Frag) (mg : Str → Option Value) (base : Heap) (k : Nat) (x meth : Str) (n : Nat) (m : FM) : Prop where
  ex : ∃ (C p g : Addr) (fd : FuncData) (ps : List Str), mg x = some (.ref C) ∧ ClX.CRead K C (.type "type") ∧ ClX.CMet K C (.type "type") meth p g ∧ FnG P w K mg base k g fd ps (spG ⟨K, mg⟩ (n + 1) m) ∧ Binds K fd ps []
def mProp (tab : List (Str × FM)) (mo : ME) : ME := fun ρ s => (mo ρ s).bnd fun d s1 => match insOf s1 d with
  | some (c, _) => (match tab.lookup c with
    | some m => noX (m [d] s1)
    | none => .bad)
  | none => .bad
def mClsM (x : Str) (m : FM) (ms : MA) : ME := fun ρ s => (ms ρ s).bnd fun ds s1 => retag ρ (m (.glo x :: ds) s1)
def mNewV (tab : List (Str × FM)) (mf : ME) (ms : MA) : ME := fun ρ s => (mf ρ s).bnd fun d s1 => match d with
  | .glo c => (match tab.lookup c with
    | some m => mNew c m ms ρ s1
    | none => .bad)
  | _ => .bad
def fReprI (tab : List (Str × FM)) : FA := fun xs s => match xs with
  | [d] => (match insOf s d with
    | some (c, _) => (match tab.lookup c with
      | some m => (noX (m [d] s)).bnd fun r s2 => (match r with
        | .str x => .ok (.str x) s2
        | _ => .bad)
      | none => .bad)
    | none => .bad)
  | _ => .bad
theorem RoomG.in1 {k : Nat} {A : Around} (r : RoomG (k + 1) A) : RoomG k A.in1 := ⟨r.r.in1, r.g⟩
def XN : XK := fun _ _ _ => False
theorem noX_post {α : Type} {G : Cg} {W : WX} {ι : Z} {H : Hp} {P : α → Z → Hp → S → Prop} {r : R α} (h : Post G W ι H P (VL.noX r)) : Post G (WD XN) ι H P r := by
  cases r with
  | ok a s => exact h
  | exn c fs ρ s => exact h.elim
  | bad => exact h
section
variable {X : Cx} {W : WX} {k j n : Nat} {x f meth : Str} {p pos pos' apos cpos : Pos} {e o fe : Expr} {es : List Expr} {mo mv mf : ME} {ms : MA} {m : FM} {tab : List (Str × FM)}
theorem cx_none {outer : List Env} {H : Hp} {s s' : Shared} {e : Value} (h : L2.CX X.prog X.w outer H s XN e s') : False := by
  obtain ⟨_, _, _, _, _, _, _, _, _, _, _, _, w⟩ := h
  exact w
theorem run_in1 {g : Addr} {fd : FuncData} {ps : List Str} {sp : Sp} {pins : List (Addr × Obj)} {σ : L2.St} {H : Hp} {st : Shared} {Q : VK} {us : List Value} {vs : List V} (F : FnG X.prog X.w X.K X.mg X.base k g fd ps sp) (hr : RoomG (k + 1) X.A) (hb : Binds X.K fd ps [])
    (I : Inv X pins σ H st) (r : Vals vs us) (h : sp vs H Q XN) :
    codeAny (model X.prog X.w) X.A.in1 (.call (.ref g) ⟨us, []⟩) (fun r s' => match r with
      | .ok (.ret u) => EP X pins σ Q u s'
      | _ => False) st := by
  have hl : us.length = ps.length := by rw [← r.length]; exact F.len _ _ _ _ h
  have hbt := hb st us I.kIn (by rw [List.append_nil]; exact hl)
  rw [List.append_nil] at hbt
  refine codeAny_mono (F.run X.A.in1 X.stack st H ⟨us, []⟩ us vs Q XN hr.in1 I.env0.in1 hbt r h) fun rr s' hq => ?_
  cases rr with
  | error e => exact cx_none hq
  | ok fl => cases fl with
    | ret u => exact I.after hq
    | next => exact hq.elim
    | brk => exact hq.elim
    | cont => exact hq.elim
theorem getpropG {C q g a dx : Addr} {fs : List (Str × V)} {fd : FuncData} {ps : List Str} {sp : Sp} {pins : List (Addr × Obj)} {σ : L2.St} {H : Hp} {st : Shared} {Q : VK} {b : Bool} {E' : Value → Shared → Prop} (I : Inv X pins σ H st) (ea : H a = some (.ins C dx fs)) (c : Cls X.K C)
    (hp : PropOf X.K C f q g) (F : FnG X.prog X.w X.K X.mg X.base k g fd ps sp) (hr : RoomG (k + 1) X.A) (hb : Binds X.K fd ps []) (h : sp [.ref a] H Q XN) : wpAny (model X.prog X.w) X.A (getAttr (.ref a) f b) (EP X pins σ Q) E' st := by
  obtain ⟨mA, O, _, _, _, _⟩ := ins_get I.hok ea
  obtain ⟨od, J, _⟩ := O.look
  obtain ⟨rest, hrec⟩ := hp.rec_
  have hc : (PySem.W.clsIn X.K C).isSome = true := by
    obtain ⟨cd, hc, _⟩ := PySem.W.any_some c.hd
    rw [hc]
    rfl
  refine PySem.W.get_bind I.kIn J (PySem.W.plainGet_of (c.get f)).1 (PySem.W.findObj_data hc hp.at_ hp.get hp.tak) (PySem.W.plainGet_of (c.get f)).2 (wpAny_call (PySem.W.prop_get (s := { st with toks := st.toks + 1 }) I.kIn hrec ?_))
  refine codeAny_mono (run_in1 F hr hb (I.tok (st.toks + 1)) (us := [.ref a]) (vs := [.ref a]) (.cons rfl .nil) h) fun r s' hq => ?_
  cases r with
  | error e => exact hq.elim
  | ok fl => cases fl with
    | ret u =>
      obtain ⟨v, H', I3, rv, q3⟩ := hq
      show wpAny _ _ (handedOut u) _ _ _
      rw [PySem.W.handedOut_of (handed_of rv)]
      exact wpAny_pure ⟨v, H', I3, rv, q3⟩
    | next => exact hq.elim
    | brk => exact hq.elim
    | cont => exact hq.elim
theorem ve_prop (c : ∀ c m, (c, m) ∈ tab → ClP X.prog X.w X.K X.mg X.base k c f m) (hr : RoomG j X.A) (hk : k + 1 ≤ j) (he : VE X W e mo) (hab : attributeBase e f X.env (eval e X.env) = eval e X.env := by rfl) : VE X W (.Attribute e f pos) (mProp tab mo) := by
  refine ⟨fun pins st σ H Q I h => ?_⟩
  obtain ⟨ι, s, ρ, q, en, h⟩ := h
  have hF : rdE (cg X) W mo σ H fun y H1 => ∃ a C q g fd ps dx fs m, y = V.ref a ∧ H1 a = some (.ins C dx fs) ∧ Cls X.K C ∧ PropOf X.K C f q g ∧ FnG X.prog X.w X.K X.mg X.base k g fd ps (spG (cg X) 1 m) ∧ Binds X.K fd ps [] ∧ spG (cg X) 1 m [V.ref a] H1 Q XN := by
    refine rdE_on q en h fun d v ι1 H1 s1 e1 q1 r1 h1 => ?_
    split at h1
    · rename_i c' fs hi
      split at h1
      · rename_i m hm
        obtain ⟨n, a, C, dx, gs, rfl, hs, rfl, g1, g2, g3, g4, g5⟩ := insOf_at q1 r1 hi
        obtain ⟨q', g, fd, ps, c1, c2, F, bd⟩ := (c c' m (PySem.mem_of_lookup hm)).ex C g3
        exact ⟨a, C, q', g, fd, ps, dx, gs, m, rfl, g4, c1, c2, F, bd, ι1, s1, [.obj n], rfl, q1, .cons r1 .nil, noX_post h1⟩
      · exact h1.elim
    · exact h1.elim
  refine attr_of hab (thn (he.run pins st σ H _ I hF) fun u s1 ⟨y, H1, I1, ry, a, C, q', g, fd, ps, dx, fs, m, ey, ea, c1, c2, F, bd, sp⟩ => ?_)
  subst ey
  obtain rfl : u = Value.ref a := ry
  exact getpropG I1 ea c1 c2 F (hr.mono hk) bd sp
/-- o.meth(e, ..) -/
theorem ve_meth {pl : Sem Bool} (c : ∀ c m, (c, m) ∈ tab → ClM X.prog X.w X.K X.mg X.base k c meth n m) (tk : Takes X W) (hr : RoomG j X.A) (hk : k ≤ j) (ho : VE X W o mo) (ha : VA X W (e :: es) ms) (hlen : ∀ ρ s ds s', ms ρ s = .ok ds s' → ds.length = n)
    (hst : starEach (e :: es) X.env = (false, eval e X.env) :: starEach es X.env := by rfl) (hpl : (backTo pos (starEach es X.env)).any (·.1) = false := by rfl)
    (ht : eval (.Call (.Attribute o meth apos) (e :: es) [] pos) X.env = (do
      let ov ← eval o X.env
      standAt apos.atName
      let (f, first) ← holding [ov] (getMethod ov meth pl)
      callWith pos f first (backTo pos (starEach (e :: es) X.env)) (backToKw pos (keywordEach [] X.env))) := by rfl) :
    VE X W (.Call (.Attribute o meth apos) (e :: es) [] pos) (mMeth tab meth mo ms) := by
  refine ⟨fun pins st σ H Q I h => ?_⟩
  obtain ⟨ι, s, ρ, q, en, h⟩ := h
  have hF : rdE (cg X) W mo σ H fun y H1 => ∃ a C g fd ps dx fs m, y = V.ref a ∧ H1 a = some (.ins C dx fs) ∧ fs.lookup meth = none ∧ Cls X.K C ∧ Meth X.K C meth g ∧ FnG X.prog X.w X.K X.mg X.base k g fd ps (spG (cg X) (n + 1) m) ∧ Binds X.K fd ps [] ∧
      rdA (cg X) W ms σ H1 fun vs H2 => spG (cg X) (n + 1) m (V.ref a :: vs) H2 Q (WE W σ) := by
    refine rdE_on q en h fun d v ι1 H1 s1 e1 q1 r1 h1 => ?_
    split at h1
    · rename_i c' fs hi
      split at h1
      · rename_i m' hm'
        split at h1
        · rename_i hl
          obtain ⟨n', a, C, dx, gs, rfl, hs, rfl, g1, g2, g3, g4, g5⟩ := insOf_at q1 r1 hi
          obtain ⟨g, fd, ps, c1, c2, F, bd⟩ := (c c' m' (PySem.mem_of_lookup hm')).ex C g3
          refine ⟨a, C, g, fd, ps, dx, gs, m', rfl, g4, fr_none g5 hl, c1, c2, F, bd, ι1, s1, ρ, q1, en.mono e1, ?_⟩
          have h2 := Post.bnd h1
          cases hm : ms ρ s1 with
          | bad => rw [hm] at h2; exact h2
          | exn c fs ρ' s1 => rw [hm] at h2; exact h2
          | ok ds s2 =>
            rw [hm] at h2
            intro ι2 H2 e2 q2 vs r2
            obtain ⟨_, _, h3⟩ := h2 ι2 H2 e2 q2
            exact spG_of (by simp only [List.length_cons, r2.len, hlen ρ s1 ds s2 hm]) q2 (.cons (r1.mono e2) r2) ((en.mono e1).mono e2) h3
        · exact h1.elim
      · exact h1.elim
    · exact h1.elim
  refine PySem.W.methodCall_KW (pl := pl) (thn (ho.run pins st σ H _ I hF) fun u s1 ⟨y, H1, I1, ry, a, C, g, fd, ps, dx, fs, m, ey, ea, l, c1, c2, F, bd, q1⟩ => ?_) ht
  subst ey
  obtain rfl : u = Value.ref a := ry
  refine getmeth_ok I1 ea c1 c2 l ?_
  refine PySem.W.callWith_K (first := [.ref a]) (h₀ := X.base) I1.ok.mod.kin c2.kp (thn (ha.run pos pins s1 σ H1 _ I1 q1) fun us s2 ⟨vs, H2, I2, r, q2⟩ => ⟨I2.kIn, ?_⟩) hst hpl
  exact runG (us := .ref a :: us) (vs := .ref a :: vs) F (hr.mono hk) bd (passAt tk σ) I2 (.cons rfl r) q2
/-- repr(o) by an own __repr__ -/
def rReprI (X : Cx) (k : Nat) : List V → Hp → VK → Prop := fun xs H Q => ∃ a C dx fs g fd ps m, xs = [V.ref a] ∧ H a = some (.ins C dx fs) ∧ Meth X.K C "__repr__" g ∧ FnG X.prog X.w X.K X.mg X.base k g fd ps (spG (cg X) 1 m) ∧ Binds X.K fd ps [] ∧
  spG (cg X) 1 m [V.ref a] H (fun v H' => ∃ y, v = .str y ∧ Q (.str y) H') XN
theorem c_reprI (hr : RoomG j X.A) (hk : k + 1 ≤ j) : CallR X (.builtin "repr") (rReprI X k) := by
  intro pins st σ H xs us Q I r h
  obtain ⟨a, C, dx, fs, g, fd, ps, m, rfl, ea, c2, F, bd, sp⟩ := h
  obtain ⟨u, rfl, ru⟩ := vals1 r
  obtain rfl : u = Value.ref a := ru
  obtain ⟨mA, O, _, _, _, _⟩ := ins_get I.hok ea
  obtain ⟨od, J, _⟩ := O.look
  obtain ⟨mf, hF⟩ := I.fr
  have hu := (hr.mono hk).r.units
  refine PySem.W.repr_K (by show X.A.units + 1 < cLine; omega) hF I.ok.mod.kin J c2.at_ c2.fn (wpAny_call (codeAny_mono (run_in1 F (hr.mono hk) bd I (us := [.ref a]) (vs := [.ref a]) (.cons rfl .nil) sp) fun r s' hq => ?_))
  cases r with
  | error e => exact hq.elim
  | ok fl => cases fl with
    | ret u =>
      obtain ⟨v, H', I3, rv, y, rfl, q3⟩ := hq
      obtain ⟨t, rfl⟩ := rv
      exact ⟨.str y, H', I3, ⟨t, rfl⟩, q3⟩
    | next => exact hq.elim
    | brk => exact hq.elim
    | cont => exact hq.elim
theorem v_reprI (c : ∀ c m, (c, m) ∈ tab → ClM X.prog X.w X.K X.mg X.base k c "__repr__" 0 m) : CallV (cg X) W (rReprI X k) (fReprI tab) := fun ι H s xs vs Q q r h => by
  unfold fReprI at h
  split at h
  · rename_i d
    split at h
    · rename_i c' fs hi
      split at h
      · rename_i m hm
        obtain ⟨v, rfl, r1⟩ := rel1 r
        obtain ⟨n, a, C, dx, gs, rfl, hs, rfl, g1, g2, g3, g4, g5⟩ := insOf_at q r1 hi
        obtain ⟨g, fd, ps, c1, c2, F, bd⟩ := (c c' m (PySem.mem_of_lookup hm)).ex C g3
        refine ⟨a, C, dx, gs, g, fd, ps, m, rfl, g4, c2, F, bd, ι, s, [.obj n], rfl, q, .cons r1 .nil, ?_⟩
        have h2 := noX_post (Post.bnd h)
        refine h2.imp fun d ι1 H1 s1 ⟨e1, q1, h3⟩ => ?_
        split at h3
        · rename_i y _
          intro v rv
          simp only [RelD] at rv
          exact ⟨y, rv, h3.val q1 (by simp only [RelD])⟩
        · exact h3.elim
      · exact h.elim
    · exact h.elim
  · exact h.elim
end
end VL
namespace VL
open PySem PySem.Spec PyProof.Rows L2

/-! ### facts about classes; what a head tells -/
section
variable {P : Program} {w : World} {K : PySem.W.Frag} {mg : Str → Option Value} {base : Heap} {k n : Nat} {x f meth : Str} {C q g : Addr} {fd : FuncData} {ps : List Str} {m : FM}
theorem FnG.mono {j : Nat} {sp : Sp} (F : FnG P w K mg base k g fd ps sp) (h : k ≤ j) : FnG P w K mg base j g fd ps sp := ⟨F.len, fun A outer st H args us vs Q E hr => F.run A outer st H args us vs Q E (hr.mono h)⟩
theorem clP_of (gx : mg x = some (.ref C)) (c : Cls K C) (p : PropOf K C f q g) (F : FnG P w K mg base k g fd ps (spG ⟨K, mg⟩ 1 m)) (b : Binds K fd ps []) : ClP P w K mg base k x f m := ⟨fun C' g' => by
  rw [gx] at g'; cases g'
  exact ⟨q, g, fd, ps, c, p, F, b⟩⟩
theorem clM_of (gx : mg x = some (.ref C)) (c : Cls K C) (M : Meth K C meth g) (F : FnG P w K mg base k g fd ps (spG ⟨K, mg⟩ (n + 1) m)) (b : Binds K fd ps []) : ClM P w K mg base k x meth n m := ⟨fun C' g' => by
  rw [gx] at g'; cases g'
  exact ⟨g, fd, ps, c, M, F, b⟩⟩
theorem ClP.mono {j : Nat} (c : ClP P w K mg base k x f m) (h : k ≤ j) : ClP P w K mg base j x f m := ⟨fun C g => let ⟨p, g, fd, ps, a, b, F, d⟩ := c.ex C g; ⟨p, g, fd, ps, a, b, F.mono h, d⟩⟩
theorem ClM.mono {j : Nat} (c : ClM P w K mg base k x meth n m) (h : k ≤ j) : ClM P w K mg base j x meth n m := ⟨fun C g => let ⟨g, fd, ps, a, b, F, d⟩ := c.ex C g; ⟨g, fd, ps, a, b, F.mono h, d⟩⟩
theorem ClN.mono {j : Nat} (c : ClN P w K mg base k x n m) (h : k ≤ j) : ClN P w K mg base j x n m := let ⟨C, f, fd, ps, a, b, F, d⟩ := c.ex; ⟨C, f, fd, ps, a, b, F.mono h, d⟩
end
theorem tq_nil {Pr : Str → FM → Prop} : ∀ c m, (c, m) ∈ ([] : List (Str × FM)) → Pr c m := fun _ _ h => by cases h
theorem tq_cons {Pr : Str → FM → Prop} {c0 : Str} {m0 : FM} {t : List (Str × FM)} (h : Pr c0 m0) (ht : ∀ c m, (c, m) ∈ t → Pr c m) : ∀ c m, (c, m) ∈ (c0, m0) :: t → Pr c m := fun c m hm => by
  rcases List.mem_cons.1 hm with e | hm
  · cases e; exact h
  · exact ht c m hm

inductive FaV where
  | fa (f : He.Fa) | prop (x f : Str) | cread (x : Str) | cmet (x m : Str) | gen (b : PySem.W.Frag → Bool)
def propB (K : PySem.W.Frag) (C : Addr) (f : Str) : Bool := He.eqO (PySem.W.findIn K (.ref C) f) (some (some (.ref (He.ma K C f)))) && (He.eqO (PySem.W.specialIn K (.ref (He.ma K C f)) "__get__") (some (some (.builtin "property.__get__"))) &&
  (decide (PySem.W.takesIn K (.ref (He.ma K C f)) = some true) && (match PySem.W.recIn K (He.ma K C f) "property" with
    | some (.ref _ :: _) => true
    | _ => false)))
def FaV.ok (K : PySem.W.Frag) : FaV → Bool
  | .fa f => f.ok K
  | .prop x f => propB K (He.ga K x) f
  | .cread x => PySem.W.readsIn K (He.ga K x) (.type "type") && He.eqO (PySem.W.specialIn K (.ref (He.ga K x)) "__getattribute__") (some (some (.builtin "type.__getattribute__")))
  | .gen b => b K
  | .cmet x m => He5.wrapB K (He.ga K x) "classmethod" "classmethod.__get__" m && PySem.W.fnIn K (He5.wf K (He.ga K x) "classmethod" m)
theorem prop_ok {K : PySem.W.Frag} {x f : Str} (c : (FaV.prop x f).ok K = true) : PropOf K (He.ga K x) f (He.ma K (He.ga K x) f) (He5.wf K (He.ga K x) "property" f) := by
  obtain ⟨h1, h2⟩ := He.ba c
  obtain ⟨h2, h3⟩ := He.ba h2
  obtain ⟨h3, h4⟩ := He.ba h3
  refine ⟨He.eqO_ok h1, He.eqO_ok h2, of_decide_eq_true h3, ?_⟩
  unfold He5.wf
  split at h4
  · rename_i f' r e
    exact ⟨r, by rw [e]⟩
  · cases h4
theorem cread_ok {K : PySem.W.Frag} {x : Str} (c : (FaV.cread x).ok K = true) : ClX.CRead K (He.ga K x) (.type "type") := by
  obtain ⟨h1, h2⟩ := He.ba c
  exact ⟨h1, He.eqO_ok h2⟩
/-- where a def stands -/
abbrev atG (x : Str) : PySem.W.Frag → Addr := fun K => He.ga K x
abbrev atM (x m : Str) : PySem.W.Frag → Addr := fun K => He.ma K (He.ga K x) m
abbrev atW (x : Str) (T : String) (m : Str) : PySem.W.Frag → Addr := fun K => He5.wf K (He.ga K x) T m
def obsV (fa : List FaV) (fn : List He5.DefA) (K : PySem.W.Frag) : He.AlD := ((fa.all fun f => f.ok K) && fn.all fun d => d.ok K, fn.map fun d => He5.fnA K (d.at_ K))
def SaysV (fa : List FaV) (fn : List He5.DefA) (K : PySem.W.Frag) : Prop := obsV fa fn K = He5.valA fn
def obsVG (n : Nat) (fa : List FaV) (fn : List He5.DefA) (g : Addr → Option Obj) : He.AlD := obsV fa fn (He.frG g (He5.asA g n))
def hookV (n : Nat) (fa : List FaV) (fn : List He5.DefA) : PySem.W.Hook where
  α := He.AlD
  obs := fun s => obsVG n fa fn s.heap.get?
  val := fun _ => He5.valA fn
  says := fun _ h => ∃ K : PySem.W.Frag, K.In h ∧ SaysV fa fn K
  of := fun _ _ e => ⟨_, He.frG_in, e⟩
  keeps := fun _ _ _ ⟨K, hK, c⟩ k => ⟨K, PySem.W.Frag.In.keeps hK k, c⟩
section
variable {fa : List FaV} {fn : List He5.DefA} {K : PySem.W.Frag}
theorem SaysV.fact (c : SaysV fa fn K) (i : Nat) {f : FaV} (h : fa[i]? = some f := by rfl) : f.ok K = true := by
  have c1 := (He.ba (show ((fa.all fun f => f.ok K) && fn.all fun d => d.ok K) = true from congrArg (fun z : He.AlD => z.1) c)).1
  exact List.all_eq_true.mp c1 f (List.mem_of_getElem? h)
theorem SaysV.def_ (c : SaysV fa fn K) (i : Nat) {d : He5.DefA} (h : fn[i]? = some d := by rfl) : ∃ fd, L2.FunD K d.name d.qual d.params d.body d.scope (d.dvs K) (d.kws K) (d.at_ K) fd := by
  have c2 := (He.ba (show ((fa.all fun f => f.ok K) && fn.all fun d => d.ok K) = true from congrArg (fun z : He.AlD => z.1) c)).2
  have e : fn.map (fun d => He5.fnA K (d.at_ K)) = fn.map He5.DefA.val := congrArg (fun z : He.AlD => z.2) c
  have e2 : (fn.map fun d => He5.fnA K (d.at_ K))[i]? = (fn.map He5.DefA.val)[i]? := by rw [e]
  rw [List.getElem?_map, List.getElem?_map, h] at e2
  exact He5.DefA.funD (Option.some.inj e2) (List.all_eq_true.mp c2 d (List.mem_of_getElem? h))
end
end VL
namespace VL
open PySem PySem.Spec PyProof.Rows L2

/-! ### tuples whose methods are called: t.count(i), t.index(i) of ints -/
def rTupF (K : PySem.W.Frag) : List V → Hp → VK → Prop := fun vs H Q => ∃ p xs, vs = [.ref p] ∧ SqL K H p xs ∧ ∀ q (ob : Obj), ob.dict = none → H q = none → Q (.ref q) (upd H q (.frz ob (.tup xs)))
theorem cr_tupF {X : Cx} : CallR X (.type "tuple") (rTupF X.K) := by
  intro pins s σ H xs us Q I r h
  obtain ⟨p, ys, rfl, hs, q⟩ := h
  obtain ⟨u, rfl, ru⟩ := vals1 r
  obtain rfl : u = .ref p := ru
  obtain ⟨its, rv, pl, hz⟩ := I.list hs
  refine call_tuple_list pl.isList (fun h' hk => ?_) (by rw [List.size_toArray, ← rv.length]; exact hz)
  have I1 : Inv X pins σ H { s with heap := h' } := I.kept (t' := s.toks) hk
  have I2 : Inv X pins σ (upd H h'.objs.size (.frz { cls := .type "tuple", data := .seq its.toArray } (.tup ys))) { s with heap := h'.push { cls := .type "tuple", data := .seq its.toArray } } :=
    I1.laid (t' := s.toks) (fun b o e => Heap.get?_push_of_some _ e) (Nat.le_refl _) (show ObjOk X.prog X.w _ _ _ (.frz _ (.tup ys)) from ⟨Heap.get?_push_size _ rfl, hz, its, rv, IsTup.new _ _⟩)
  exact ⟨.ref h'.objs.size, _, I2, rfl, q _ _ rfl (I1.hok.fresh (Nat.le_refl _))⟩
def fTupleF : FA := fun xs s => match xs with
  | [x] => (match asL s x with
    | some ds => .ok (.tupF ds) s
    | none => .bad)
  | _ => .bad
theorem v_tupF {G : Cg} {W : WX} : CallV G W (rTupF G.K) fTupleF := fun ι H s xs vs Q q r h => by
  unfold fTupleF at h
  split at h
  · split at h
    · rename_i ds hd
      obtain ⟨v, rfl, r1⟩ := rel1 r
      obtain ⟨a, ys, rfl, t, k⟩ := asL_at q r1 hd
      refine ⟨a, ys, rfl, t, fun p ob ho hp => h ι _ (.new hp) (q.new hp) (.ref p) ?_⟩
      simp only [RelD]
      exact ⟨p, ys, rfl, ⟨q.off hp, ob, ho, upd_same⟩, k.mono (.new hp)⟩
    · exact h.elim
  · exact h.elim
def tyF (x : V) (H : Hp) : Prop := ∃ a ob xs, x = .ref a ∧ ob.dict = none ∧ H a = some (.frz ob (.tup xs))
theorem ty_F {X : Cx} : TyOk X "tuple" tyF := by
  intro pins σ H s x v I r ty
  obtain ⟨a, ob, xs, rfl, hd, ea⟩ := ty
  cases r
  obtain ⟨e1, _, its, _, o, e2, hc, _⟩ := (show ObjOk X.prog X.w H s.heap a (.frz ob (.tup xs)) from I.hok a _ ea)
  refine ⟨⟨o, e2, hc⟩, fun b hb => ?_⟩
  cases hb
  exact ⟨ob, e1, hd⟩
theorem mt_tindex {X : Cx} : MtR X "tuple.index" (fun x xs H Q => ∃ p ns k, x = .ref p ∧ xs = [.int k] ∧ SqT X.K H p ((ns : List Int).map V.int) ∧ k ∈ ns ∧ Q (.int (ns.idxOf k : Nat)) H) := by
  intro pins s σ H x xs v us Q I rx rxs h
  obtain ⟨p, ns, k, rfl, rfl, hs, hk, q⟩ := h
  cases rx
  obtain ⟨u, rfl, ru⟩ := rxs.one
  obtain ⟨t, rfl⟩ := ru
  obtain ⟨its, rv, pl, hz⟩ := I.tuple hs
  exact SeqAt.tuple_index_ints (show s.heap.IsTuple p its.toArray from pl) (ints_of_vals rv) hk ⟨.int (ns.idxOf k : Nat), H, I.tok _, ⟨s.toks, rfl⟩, q⟩
def mCountF (mo me : ME) : ME := fun ρ s => (mo ρ s).bnd fun d s1 => match d with
  | .tupF ds => (match toI ds with
    | some ns => (me ρ s1).bnd fun e s2 => (match e with
      | .int k => .ok (.int (ns.count k : Nat)) s2
      | _ => .bad)
    | none => .bad)
  | _ => .bad
def mIndexF (mo me : ME) : ME := fun ρ s => (mo ρ s).bnd fun d s1 => match d with
  | .tupF ds => (match toI ds with
    | some ns => (me ρ s1).bnd fun e s2 => (match e with
      | .int k => if k ∈ ns then .ok (.int (ns.idxOf k : Nat)) s2 else .bad
      | _ => .bad)
    | none => .bad)
  | _ => .bad
section
variable {X : Cx} {W : WX} {o e : Expr} {mo me : ME} {apos cpos : Pos}
theorem ve_indexF (ho : VE X W o mo) (he : VE X W e me)
    (hbase : attributeBase o "index" X.env (eval o X.env) = eval o X.env := by rfl)
    (hfew : ((backTo cpos (starEach [e] X.env)).all (fun x => !x.1) && (backToKw cpos (keywordEach [] X.env)).all (fun x => x.1.isSome)
      && decide ([e].length + ([] : List Keyword).length + (if ([] : List Keyword).isEmpty then 0 else 1) < 30)) = true := by rfl)
    (hline : (apos.endLine == cpos.line) = true := by rfl) (hs : starEach [e] X.env = (false, eval e X.env) :: starEach [] X.env := by rfl) (hplain : (backTo cpos (starEach [] X.env)).any (·.1) = false := by rfl) :
    VE X W (.Call (.Attribute o "index" apos) [e] [] cpos) (mIndexF mo me) :=
  pe_imp (pe_mG ty_F PySem.F.plainAttrs_tuple PySem.F.slot_tuple_index PySem.F.type_tuple_index mt_tindex ho (pa_cons he pa_nil hs) hbase hfew hline hs hplain) fun σ H Q ⟨ι, s, ρ, q, en, h⟩ => by
    refine rdE_on q en h fun x v ι1 H1 s1 e1 q1 r1 h1 => ?_
    split at h1
    · rename_i ds
      split at h1
      · rename_i ns hns
        simp only [RelD] at r1
        obtain ⟨a, ys, rfl, ⟨h2, ob, h3, h4⟩, k⟩ := r1
        refine ⟨⟨a, ob, ys, rfl, h3, h4⟩, rdE_on q1 (en.mono e1) h1 fun y w ι2 H2 s2 e2 q2 r2 h2 => ?_⟩
        split at h2
        · rename_i i
          split at h2
          · rename_i hi
            have ky := toI_rel hns k
            subst ky
            refine ⟨a, ns, i, rfl, by rw [relI r2], ?_, hi, h2.val q2 (ri _)⟩
            exact .inl (.inr ⟨ob, e2.fix a _ rfl h4⟩)
          · exact h2.elim
        · exact h2.elim
      · exact h1.elim
    · exact h1.elim
end
end VL
namespace VL
open PySem PySem.Spec PyProof.Rows L2

/-! ### own operators -/
section
variable {prog : Program} {w : World} {M : Model} {A : Around} {E : Value → Shared → Prop} {s : Shared} {K : PySem.W.Frag} {x y C L f : Addr} {h₀ : Heap} {m : Str → Option Value} {ox : Obj} {od : Option Obj} {name : Str}
theorem ifBound_bK {id : String} {args : List Value} {Q : Option Value → Shared → Prop} (X : K.In s.heap) (I : PySem.W.InstAt s.heap x ox C od) (hs : PySem.W.findIn K (.ref C) name = some (some (.builtin id))) (hb : ∀ self, bindSpecial (.builtin id) self = pure (.builtin id, [self]))
    (h : wpAny M A (call (.builtin id) (.ref x :: args)) (fun v => Q (some v)) E s) : wpAny M A (callSpecialIfBound? (.ref x) name args) Q E s := by
  simp only [callSpecialIfBound?, bindSpecialIfBound?]
  refine wpAny_holding (wpAny_bind (wpAny_bind (wpAny_bind (I.type.here ((PySem.W.looks_findIn X hs).here ?_)))))
  refine wpAny_bind (wpAny_askSetting (wpAny_ite ?_))
  have fin : wpAny M A (call (.builtin id) ([.ref x] ++ args) >>= fun v => pure (some v)) Q E s := wpAny_bind (wpAny_mono h (fun v s' h' => wpAny_pure h') fun _ _ h' => h')
  split
  · exact wpAny_bind ((PySem.W.Looks.of_pure (hb _)).here (wpAny_pure (by exact fin)))
  · exact wpAny_tryCatch (wpAny_bind ((PySem.W.Looks.of_pure (hb _)).here (wpAny_pure (by exact fin))))
theorem objNe_K {Q : Value → Shared → Prop} (hu : A.in1.units < cLine) (X : K.In s.heap) (I : PySem.W.InstAt s.heap x ox C od) (hm : PySem.W.mroIn K C (.type "object") = some true) (hr : PySem.W.findIn K (.ref C) "__eq__" = some (some (.ref f))) (hf : PySem.W.isFn K (.ref f) = true)
    (h : wpAny (model prog w) A.in1 (call (.ref f) [.ref x, .ref y]) (fun v s' => ∃ b, v = .bool b ∧ Q (.bool (!b)) s') E s) : wpAny (model prog w) A (call (.builtin "object.__ne__") [.ref x, .ref y]) Q E s := by
  refine wpAny_call (codeAny_call_builtin F.cmp_object.ne.plain F.cmpEntry_ne (PySem.W.check_slot (i := "object.__ne__") (owner := "object") (n := "__ne__") (by decide +kernel) (by decide +kernel) (I.type.andThen (PySem.W.looks_mroIn X hm)) (F.cmpArgs_ne _ _) ?_))
  unfold Builtin.«object.__ne__»
  refine wpAny_bind (m := slotArgs "__ne__" 1 _) (wpAny_pure ?_)
  refine wpAny_bind (m := cRoomFor _ _) (wpAny_cRoomFor hu ?_)
  refine wpAny_bind (m := callSpecialIfBound? (.ref x) (Str.ofString "__eq__") _) (PySem.W.ifBound_K X I hr hf (wpAny_mono h (fun r s' hq => ?_) fun _ _ y => y))
  obtain ⟨b, rfl, hq⟩ := hq
  refine wpAny_bind (m := truthy (.bool b)) (wpAny_truthy_bool (wpAny_pure hq))
theorem ne_K {Q : Value → Shared → Prop} (hu : A.units + 1 < cLine) (X : K.In s.heap) (I : PySem.W.InstAt s.heap x ox C od) (hb : PySem.W.Looks (model prog w) s.heap (typeOf (.ref y)) (.ref C)) (hm : PySem.W.mroIn K C (.type "object") = some true)
    (hn : PySem.W.findIn K (.ref C) "__ne__" = some (some (.builtin "object.__ne__"))) (hr : PySem.W.findIn K (.ref C) "__eq__" = some (some (.ref f))) (hf : PySem.W.isFn K (.ref f) = true)
    (h : wpAny (model prog w) A.in1 (call (.ref f) [.ref x, .ref y]) (fun v s' => ∃ b, v = .bool b ∧ Q (.bool (!b)) s') E s) : wpAny (model prog w) A (richCompare .NotEq (.ref x) (.ref y)) Q E s := by
  have one : wpAny (model prog w) A (tryCompare (.ref x) (cmpInfo .NotEq).2.1 (.ref y)) (fun r s' => ∃ v, r = some v ∧ Q v s') E s := by
    unfold tryCompare
    refine wpAny_bind (ifBound_bK X I hn F.cmp_object.ne.bind (objNe_K (by exact hu) X I hm hr hf (wpAny_mono h (fun v s' hv => ?_) fun _ _ e => e)))
    obtain ⟨b, rfl, hq⟩ := hv
    exact ⟨b, rfl, wpAny_pure ⟨_, rfl, hq⟩⟩
  unfold richCompare
  simp only [oneThing_ref]
  refine wpAny_holding (wpAny_bind (wpAny_cRoomFor (Nat.lt_of_succ_lt hu) ?_))
  refine wpAny_bind (I.type.here (wpAny_bind (hb.here ?_)))
  rw [show (Value.ref C != Value.ref C) = false from by simp]
  simp only [Bool.false_eq_true, if_false]
  refine wpAny_bind (wpAny_pure ?_)
  simp only [Bool.false_eq_true, if_false]
  refine wpAny_bind (wpAny_mono one (fun r s' z => ?_) fun _ _ e => e)
  obtain ⟨v, rfl, hq⟩ := z
  exact wpAny_pure hq
end
structure NeOk (K : PySem.W.Frag) (C : Addr) : Prop where
  ne : PySem.W.findIn K (.ref C) "__ne__" = some (some (.builtin "object.__ne__"))
  mro : PySem.W.mroIn K C (.type "object") = some true
def relV_ni {v : V} (r : RelV v .notImplemented) : False := by
  cases v <;> first | exact (nomatch (show Value.notImplemented = _ from r)) | (obtain ⟨t, e⟩ := r; cases e)
section
variable {X : Cx} {W : WX} {k j : Nat} {tab : List (Str × FM)}
theorem passXN {σ : L2.St} : PassesAt (L2.CX X.prog X.w) X σ XN := fun pins H st e s' I hq => (cx_none hq).elim
def rOwn2 (X : Cx) (k : Nat) (meth : Str) (P : Addr → Prop) (P2 : V → VK → Hp → Prop) : R2 := fun x y H Q => ∃ a b C dx dy fs gs g fd ps m, x = V.ref a ∧ y = V.ref b ∧ H a = some (.ins C dx fs) ∧ H b = some (.ins C dy gs) ∧ Meth X.K C meth g ∧ P C ∧
  FnG X.prog X.w X.K X.mg X.base k g fd ps (spG (cg X) 2 m) ∧ Binds X.K fd ps [] ∧ spG (cg X) 2 m [x, y] H (fun v H' => P2 v Q H') XN
theorem op_neI (hr : RoomG j X.A) (hk : k + 1 ≤ j) : OpR X (compareOp .NotEq) (rOwn2 X k "__eq__" (NeOk X.K) fun v Q H' => ∃ c, v = .bl c ∧ Q (.bl (!c)) H') := by
  intro pins s σ H x y v u Q I rx ry h
  obtain ⟨a, b, C, dx, dy, fs, gs, g, fd, ps, m, rfl, rfl, ea, eb, M, N, F, bd, sp⟩ := h
  cases rx
  cases ry
  obtain ⟨mA, O, _, _, _, _⟩ := ins_get I.hok ea
  obtain ⟨od, J, _⟩ := O.look
  obtain ⟨mB, O2, _, _, _, _⟩ := ins_get I.hok eb
  obtain ⟨od2, J2, _⟩ := O2.look
  have hu := hr.r.units
  show wpAny (model X.prog X.w) X.A (richCompare .NotEq (.ref a) (.ref b)) (EP X pins σ Q) X.xe s
  refine ne_K (by omega) I.kIn J J2.type N.mro N.ne M.at_ M.fn (wpAny_call (codeAny_mono (run_in1 F (hr.mono hk) bd I (us := [.ref a, .ref b]) (vs := [.ref a, .ref b]) (.cons rfl (.cons rfl .nil)) sp) fun r s' hq => ?_))
  cases r with
  | error e => exact hq.elim
  | ok fl => cases fl with
    | ret u =>
      obtain ⟨v, H', I3, rv, c, rfl, q⟩ := hq
      cases rv
      exact ⟨c, rfl, .bl (!c), H', I3, rfl, q⟩
    | next => exact hq.elim
    | brk => exact hq.elim
    | cont => exact hq.elim
theorem op_addI (hr : RoomG j X.A) (hk : k ≤ j) : OpR X (binaryOp .Add) (rOwn2 X k "__add__" (fun C => PySem.W.selfFirst X.K C = true) fun v Q H' => Q v H') := by
  intro pins s σ H x y v u Q I rx ry h
  obtain ⟨a, b, C, dx, dy, fs, gs, g, fd, ps, m, rfl, rfl, ea, eb, M, sf, F, bd, sp⟩ := h
  cases rx
  cases ry
  obtain ⟨mA, O, _, _, _, _⟩ := ins_get I.hok ea
  obtain ⟨od, J, _⟩ := O.look
  obtain ⟨mB, O2, _, _, _, _⟩ := ins_get I.hok eb
  obtain ⟨od2, J2, _⟩ := O2.look
  obtain ⟨mf, hF⟩ := I.fr
  refine PySem.W.binop_K hF I.ok.mod.kin J J2.type sf M.at_ M.fn ?_
  refine wpAny_mono (runG (us := [.ref a, .ref b]) (vs := [.ref a, .ref b]) F (hr.mono hk) bd passXN I (.cons rfl (.cons rfl .nil)) sp) (fun r s' hq => ?_) fun _ _ e => e
  obtain ⟨v, H', I3, rv, q⟩ := hq
  cases r <;> first | exact ⟨v, H', I3, rv, q⟩ | exact (relV_ni rv).elim
end
/-! ### the value layer's side -/
def opOwn (tab : List (Str × FM)) (f : D → Option D) : F2 := fun x y s => match insOf s x, insOf s y with
  | some (c, _), some (c', _) => if c = c' then (match tab.lookup c with
    | some m => (noX (m [x, y] s)).bnd fun r s2 => (match f r with
      | some d => .ok d s2
      | none => .bad)
    | none => .bad) else .bad
  | _, _ => .bad
def fBl (f : Bool → Bool) : D → Option D
  | .bl b => some (.bl (f b))
  | _ => none
def opEqI (tab : List (Str × FM)) : F2 := opOwn tab (fBl id)
def opNeI (tab : List (Str × FM)) : F2 := opOwn tab (fBl not)
def opAddI (tab : List (Str × FM)) : F2 := opOwn tab some
section
variable {X : Cx} {W : WX} {k j n : Nat} {tab : List (Str × FM)} {meth : Str} {P : Addr → Prop} {P2 : V → VK → Hp → Prop} {f : D → Option D} {x : Str} {C : Addr}
theorem v_own (c : ∀ c m, (c, m) ∈ tab → ClM X.prog X.w X.K X.mg X.base k c meth 1 m) (pc : ∀ c m, (c, m) ∈ tab → ∀ C, X.mg c = some (.ref C) → P C)
    (hP : ∀ {ι : Z} {H : Hp} {d d' : D} {v : V} {Q : VK}, f d = some d' → RelD (cg X) ι H d v → (∀ v', RelD (cg X) ι H d' v' → Q v' H) → P2 v Q H) : OpV (cg X) W (rOwn2 X k meth P P2) (opOwn tab f) := fun ι H s x y v u Q q r1 r2 h => by
  unfold opOwn at h
  split at h
  · rename_i c1 fs1 c2 fs2 h1 h2
    split at h
    · rename_i ec
      subst ec
      split at h
      · rename_i m hm
        obtain ⟨n, a, C, dx, gs, rfl, hs, rfl, g1, g2, g3, g4, g5⟩ := insOf_at q r1 h1
        obtain ⟨n2, b, C2, dx2, gs2, rfl, hs2, rfl, _, _, g32, g42, g52⟩ := insOf_at q r2 h2
        have eC : C = C2 := by
          have z := g3.symm.trans g32
          injection z with z
          injection z
        subst eC
        have mem := PySem.mem_of_lookup hm
        obtain ⟨g, fd, ps, k1, k2, F, bd⟩ := (c _ m mem).ex C g3
        refine ⟨a, b, C, dx, dx2, gs, gs2, g, fd, ps, m, rfl, rfl, g4, g42, k2, pc _ m mem C g3, F, bd, ι, s, [.obj n, .obj n2], rfl, q, .cons r1 (.cons r2 .nil), ?_⟩
        have h3 := noX_post (Post.bnd h)
        refine h3.imp fun d ι1 H1 s1 ⟨e1, q1, h4⟩ => ?_
        split at h4
        · rename_i d' hd
          intro v rv
          exact hP hd rv fun v' rv' => h4.val q1 rv'
        · exact h4.elim
      · exact h.elim
    · exact h.elim
  · exact h.elim
theorem v_neI (c : ∀ c m, (c, m) ∈ tab → ClM X.prog X.w X.K X.mg X.base k c "__eq__" 1 m) (pc : ∀ c m, (c, m) ∈ tab → ∀ C, X.mg c = some (.ref C) → NeOk X.K C) : OpV (cg X) W (rOwn2 X k "__eq__" (NeOk X.K) fun v Q H' => ∃ c, v = .bl c ∧ Q (.bl (!c)) H') (opNeI tab) :=
  v_own c pc fun {ι H d d' v Q} e r z => by
    cases d <;> first | exact (nomatch (show none = some _ from e)) | skip
    cases e
    exact ⟨_, relB r, z _ (by simp only [RelD])⟩
theorem v_addI (c : ∀ c m, (c, m) ∈ tab → ClM X.prog X.w X.K X.mg X.base k c "__add__" 1 m) (pc : ∀ c m, (c, m) ∈ tab → ∀ C, X.mg c = some (.ref C) → PySem.W.selfFirst X.K C = true) : OpV (cg X) W (rOwn2 X k "__add__" (fun C => PySem.W.selfFirst X.K C = true) fun v Q H' => Q v H') (opAddI tab) :=
  v_own c pc fun {ι H d d' v Q} e r z => by
    cases e
    exact z _ r
/-! ### `*` by an int -/
structure MulOk (K : PySem.W.Frag) (C : Addr) : Prop where
  sf : PySem.W.selfFirst K C = true
  rr : PySem.W.findIn K (.ref C) "__rmul__" = some none
  i1 : ∃ fo, PySem.W.findIn K (.type "int") "__mul__" = some fo
  i2 : ∃ fo, PySem.W.findIn K (.type "int") "__rmul__" = some fo
  sub : PySem.W.subIn K (.type "int") (.ref C) = some false
def rMulI (X : Cx) (k : Nat) : R2 := fun x y H Q => ∃ a C dx fs i g fd ps m, x = V.ref a ∧ y = V.int i ∧ H a = some (.ins C dx fs) ∧ Meth X.K C "__mul__" g ∧ MulOk X.K C ∧
  FnG X.prog X.w X.K X.mg X.base k g fd ps (spG (cg X) 2 m) ∧ Binds X.K fd ps [] ∧ spG (cg X) 2 m [x, y] H Q XN
theorem op_mulI (hr : RoomG j X.A) (hk : k ≤ j) : OpR X (binaryOp .Mult) (rMulI X k) := by
  intro pins s σ H x y v u Q I rx ry h
  obtain ⟨a, C, dx, fs, i, g, fd, ps, m, rfl, rfl, ea, M, N, F, bd, sp⟩ := h
  cases rx
  obtain ⟨tk, rfl⟩ := ry
  obtain ⟨mA, O, _, _, _, _⟩ := ins_get I.hok ea
  obtain ⟨od, J, _⟩ := O.look
  obtain ⟨mf, hF⟩ := I.fr
  obtain ⟨fo, i1⟩ := N.i1
  obtain ⟨ro, i2⟩ := N.i2
  refine PySem.W.ksp_binT (T := "int") hF I.ok.mod.kin J rfl N.sf M.at_ M.fn N.rr (.inl rfl) i1 i2 N.sub ?_
  refine wpAny_mono (runG (us := [.ref a, .int i tk]) (vs := [.ref a, .int i]) F (hr.mono hk) bd passXN I (.cons rfl (.cons ⟨tk, rfl⟩ .nil)) sp) (fun r s' hq => ?_) fun _ _ e => e
  obtain ⟨v, H', I3, rv, q⟩ := hq
  cases r <;> first | exact ⟨v, H', I3, rv, q⟩ | exact (relV_ni rv).elim
def opMulI (tab : List (Str × FM)) : F2 := fun x y s => match insOf s x, y with
  | some (c, _), .int i => (match tab.lookup c with
    | some m => noX (m [x, .int i] s)
    | none => .bad)
  | _, _ => .bad
theorem v_mulI (c : ∀ c m, (c, m) ∈ tab → ClM X.prog X.w X.K X.mg X.base k c "__mul__" 1 m) (pc : ∀ c m, (c, m) ∈ tab → ∀ C, X.mg c = some (.ref C) → MulOk X.K C) : OpV (cg X) W (rMulI X k) (opMulI tab) := fun ι H s x y v u Q q r1 r2 h => by
  unfold opMulI at h
  split at h
  · rename_i c1 fs1 i h1
    split at h
    · rename_i m hm
      obtain ⟨n, a, C, dx, gs, rfl, hs, rfl, g1, g2, g3, g4, g5⟩ := insOf_at q r1 h1
      have mem := PySem.mem_of_lookup hm
      obtain ⟨g, fd, ps, k1, k2, F, bd⟩ := (c _ m mem).ex C g3
      have eu := relI r2
      subst eu
      exact ⟨a, C, dx, gs, i, g, fd, ps, m, rfl, rfl, g4, k2, pc _ m mem C g3, F, bd, ι, s, [.obj n, .int i], rfl, q, .cons r1 (.cons r2 .nil), noX_post h⟩
    · exact h.elim
  · exact h.elim
/-! ### isinstance(x, C) -/
def fIsiC (x : Str) : FA := fun xs s => match xs with
  | [d, .glo x'] => if x' = x then (match insOf s d with
    | some (c, _) => if c = x then .ok (.bl true) s else .bad
    | none => .bad) else .bad
  | _ => .bad
theorem v_isiC (gx : X.mg x = some (.ref C)) : CallV (cg X) W (fun xs H Q => ∃ a dx fs, xs = [.ref a, .ref C] ∧ H a = some (.ins C dx fs) ∧ Q (.bl true) H) (fIsiC x) := fun ι H s xs vs Q q r h => by
  unfold fIsiC at h
  split at h
  · rename_i d x'
    split at h
    · rename_i ex
      subst ex
      split at h
      · rename_i c fs hi
        split at h
        · rename_i ec
          subst ec
          obtain ⟨v, u, rfl, r1, r2⟩ := rel2 r
          obtain ⟨n, a, C1, dx, gs, rfl, hs, rfl, g1, g2, g3, g4, g5⟩ := insOf_at q r1 hi
          simp only [RelD] at r2
          obtain ⟨b, rfl, gb⟩ := r2
          have e1 : C1 = C := by
            have z := g3.symm.trans gx
            injection z with z
            injection z
          subst e1
          have e2 : b = C1 := by
            have z := gb.symm.trans gx
            injection z with z
            injection z
          subst e2
          exact ⟨a, dx, gs, rfl, g4, h.val q (by simp only [RelD])⟩
        · exact h.elim
      · exact h.elim
    · exact h.elim
  · exact h.elim
/-! ### t == () -/
def rEqE (K : PySem.W.Frag) : R2 := fun x y H Q => ∃ a b xs, x = V.ref a ∧ y = V.ref b ∧ SqT K H a xs ∧ SqT K H b [] ∧ Q (.bl xs.isEmpty) H
theorem op_eqE (hu : X.A.units + 64 < cLine) : OpR X (compareOp .Eq) (rEqE X.K) := by
  intro pins s σ H x y v u Q I rx ry h
  obtain ⟨a, b, xs, rfl, rfl, e1, e2, q⟩ := h
  cases rx
  cases ry
  obtain ⟨its, rv, p1, _⟩ := I.tuple e1
  obtain ⟨its2, rv2, p2, _⟩ := I.tuple e2
  cases rv2
  refine PySem.SeqAt.rcIn_tuples (e := fun _ => true) p1 p2 (by omega) (fun j h1 h2 => absurd h2 (by simp)) ⟨.bl xs.isEmpty, H, I, ?_, q⟩
  have hl := rv.length
  cases xs with
  | nil => cases rv; rfl
  | cons y ys =>
    cases rv
    exact rfl
def opEqE : F2 := fun x y s => match x, y with
  | .tup xs, .tup ys => if ys.isEmpty then .ok (.bl xs.isEmpty) s else .bad
  | _, _ => .bad
theorem v_eqE : OpV (cg X) W (rEqE X.K) opEqE := fun ι H s x y v u Q q r1 r2 h => by
  unfold opEqE at h
  split at h
  · rename_i xs ys
    split at h
    · rename_i hy
      obtain ⟨a, us, rfl, t1, k1⟩ := relTup r1
      obtain ⟨b, ws, rfl, t2, k2⟩ := relTup r2
      have hys : ys = [] := List.isEmpty_iff.mp hy
      subst hys
      have hw : ws = [] := k2.nil_iff.mpr rfl
      subst hw
      refine ⟨a, b, us, rfl, rfl, t1, t2, h.val q ?_⟩
      cases xs with
      | nil =>
        rw [k1.nil_iff.mpr rfl]
        simp only [RelD]
        rfl
      | cons d ds =>
        cases us with
        | nil => exact absurd (k1.nil_iff.mp rfl) (by simp)
        | cons w ws' => simp only [RelD, List.isEmpty_cons]
    · exact h.elim
  · exact h.elim
end
end VL
namespace VL
open PySem PySem.Spec PyProof.Rows L2

/-! ### a, *b = t -/
section
variable {prog : Program} {w : World} {A : Around} {E : Value → Shared → Prop} {s : Shared}
/-- two targets, the second with a star: the first item and a new list of the others -/
theorem starTwo {l : Addr} {x : Value} {xs : List Value} {Q : List Value → Shared → Prop} (hl : IsTup s.heap l (x :: xs).toArray) (hh : A.handled = none) (hz : xs.length ≤ 16000)
    (h : ∀ (h' : Heap) (tk : Nat), (∀ b o, s.heap.get? b = some o → h'.get? b = some o) → Q [x, .ref h'.objs.size] { s with heap := h'.push { cls := .type "list", data := .seq xs.toArray }, toks := tk }) : wpAny (model prog w) A (unpackItems (.ref l) 2 (some 1)) Q E s := by
  have hlt : l ≠ s.heap.objs.size := by obtain ⟨o, ho, _⟩ := hl; exact Nat.ne_of_lt (Heap.lt_size ho)
  unfold unpackItems
  refine wpAny_bind ?_
  unfold notIterableAtAll
  refine wpAny_bind (wpAny_specialOf hl.typeIs slot_tuple_iter.lookup ?_)
  refine wpAny_pure ?_
  simp only [Bool.false_eq_true, if_false]
  refine wpAny_bind (wpAny_holding (iter_tuple hl ?_))
  refine wpAny_bind (wpAny_holding (draw_tuple hlt 1 0 _ _ ⟨_, Heap.get?_push_size _ rfl, rfl, rfl⟩ (hl.push _) (by simp) fun h₁ hit₁ hs₁ => ?_))
  have hl₁ : IsTup h₁ l (x :: xs).toArray := (hl.push _).extBut hs₁.extBut hlt
  rw [Nat.zero_add] at hit₁
  have hit₁' := hit₁
  obtain ⟨oi, hoi, _⟩ := hit₁'
  have hl₁' := hl₁
  obtain ⟨ol, hol, _⟩ := hl₁'
  show wpAny _ _ (if [x].length < 1 then _ else _) _ _ _
  rw [if_neg (by simp)]
  refine wpAny_bind (wpAny_holding (PySem.W.kun_collect (s := { s with heap := h₁ }) (T := "tuple_iterator") (.inr (.inr (.inr rfl))) (Walks.tuple (A := A.in1) hh s.heap.objs.size l hlt (x :: xs).toArray) (fun j u st => st.1.typeIs) (k := 1) (by simp) ⟨hit₁, hl₁⟩ (Heap.lt_size hoi) (Heap.lt_size hol) (fun h₂ tk hk => ?_) (le_LIM (by show (x :: xs).toArray.size ≤ 1000000; simp only [List.size_toArray, List.length_cons]; omega))))
  have he : ∀ b o, s.heap.get? b = some o → h₂.get? b = some o := fun b o e => hk b o (Nat.ne_of_lt (Heap.lt_size e)) (hs₁.extBut b o (Nat.ne_of_lt (Heap.lt_size e)) (Heap.get?_push_of_some _ e))
  show wpAny _ _ (newList (xs.take (xs.length - 0)) >>= fun d => pure ([x] ++ [d] ++ xs.drop (xs.length - 0))) _ _ _
  rw [Nat.sub_zero, List.take_length, List.drop_length]
  exact wpAny_bind (wpAny_newList (wpAny_pure (h h₂ tk he)) (le_LIM (by show xs.length ≤ 1000000; omega)))
end
section
variable {X : Cx} {W : WX} {pos p : Pos} {e1 e2 : Expr} {k : Nat}
def gStar2 (K : PySem.W.Frag) (t : TGs) : TG := fun v σ H Q => ∃ a x xs, v = .ref a ∧ SqT K H a (x :: xs) ∧ xs.length ≤ 16000 ∧ ∀ p, H p = none → t [x, .ref p] σ (upd H p (.lst xs)) Q
theorem pg_star2 {t : TGs} (hc : X.calm = true) (h : PGs X [e1, e2] t) (hn : (assignEach [e1, .Starred e2 p] X.env).length = 2 := by rfl) (hst : (assignEach [e1, .Starred e2 p] X.env).findIdx? (·.1) = some 1 := by rfl)
    (hm : (assignEach [e1, .Starred e2 p] X.env).map (·.2) = (assignEach [e1, e2] X.env).map (·.2) := by rfl) : PG X (.Tuple [e1, .Starred e2 p] k pos) (gStar2 X.K t) := by
  refine ⟨fun pins s σ H v u Q I r hw => ?_⟩
  obtain ⟨a, x, xs, ev, hq, hl, hw⟩ := hw
  subst ev
  cases r
  obtain ⟨its, rv, ht, hz⟩ := I.tuple hq
  cases rv with
  | cons r1 rs =>
    rename_i y ys
    rw [assign_Tuple]
    refine wpAny_bind (wpAny_standAt ?_)
    unfold unpack
    rw [hn, hst, hm]
    refine wpAny_bind (wpAny_holding (starTwo ht (I.ok.hd hc) (by rw [← rs.length]; exact hl) fun h' tk he => ?_))
    have I0 : Inv X pins σ H { s with heap := h', toks := tk } := I.kept (t' := tk) he
    have I1 := I0.laid (a := h'.objs.size) (o := .lst xs) (h' := h'.push { cls := .type "list", data := .seq ys.toArray }) (t' := tk) (fun b o eb => Heap.get?_push_of_some _ eb) (Nat.le_refl _) ⟨by simp only [List.length_cons] at hz; omega, ys, 0, rs, Heap.get?_push_size _ rfl⟩
    exact h.run pins _ σ _ [x, .ref h'.objs.size] _ Q I1 (.cons r1 (.cons rfl .nil)) (hw _ (I0.hok.fresh (Nat.le_refl _)))
def gTS (gs : MGs) : MG := fun d ρ s => match d with
  | .tup (d0 :: ds) => if ds.length ≤ 16000 then gs [d0, .lst ds] ρ s else .bad
  | _ => .bad
theorem vg_star {gs : MGs} (h : VGs X W [e1, e2] gs) (hc : X.calm = true := by rfl) (hn : (assignEach [e1, .Starred e2 p] X.env).length = 2 := by rfl) (hst : (assignEach [e1, .Starred e2 p] X.env).findIdx? (·.1) = some 1 := by rfl)
    (hm : (assignEach [e1, .Starred e2 p] X.env).map (·.2) = (assignEach [e1, e2] X.env).map (·.2) := by rfl) : VG X W (.Tuple [e1, .Starred e2 p] k pos) (gTS gs) :=
  pg_imp (pg_star2 hc h hn hst hm) fun v σ H Q ⟨ι, s, ρ, d, q, e, r, h⟩ => by
    unfold gTS at h
    split at h
    · rename_i d0 ds
      split at h
      · rename_i hl
        simp only [RelD, RelDs] at r
        obtain ⟨a, xs, rfl, t, v0, vr, rfl, r1, r2⟩ := r
        refine ⟨a, v0, vr, rfl, t.sq, by rw [r2.len]; exact hl, fun p0 hp => ⟨ι, s, ρ, [d0, .lst ds], q.new hp, e.mono (.new hp), ?_, h.mono (.new hp)⟩⟩
        refine .cons (r1.mono (.new hp)) (.cons ?_ .nil)
        simp only [RelD]
        exact ⟨p0, vr, rfl, ⟨q.off hp, upd_same⟩, r2.mono (.new hp)⟩
      · exact h.elim
    · exact h.elim
end

/-! ### C.m(..), m a static method -/
structure ClS (P : Program) (w : World) (K : PySem.W.Frag) (mg : Str → Option Value) (base : Heap) (k : Nat) (x meth : Str) (n : Nat) (m : FM) : Prop where
  ex : ∃ (C p g : Addr) (fd : FuncData) (ps : List Str), mg x = some (.ref C) ∧ ClX.CRead K C (.type "type") ∧ PySem.W.findCls K (.ref C) (.type "type") meth = some (.get (.builtin "staticmethod.__get__") (.ref p) .none (.ref C)) ∧
    (∃ rest, PySem.W.recIn K p "staticmethod" = some (.ref g :: rest)) ∧ PySem.W.keepIn K (.ref g) = true ∧ FnG P w K mg base k g fd ps (spG ⟨K, mg⟩ n m) ∧ Binds K fd ps []
section
variable {X : Cx} {W : WX} {k j n : Nat} {x meth : Str} {pos apos : Pos} {e o : Expr} {es : List Expr} {ms : MA} {m : FM}
theorem ve_smeth {pl : Sem Bool} (c : ClS X.prog X.w X.K X.mg X.base k x meth n m) (tk : Takes X W) (hr : RoomG j X.A) (hk : k ≤ j) (ho : VE X W o (mC (.glo x))) (ha : VA X W (e :: es) ms) (hlen : ∀ ρ s ds s', ms ρ s = .ok ds s' → ds.length = n)
    (hst : starEach (e :: es) X.env = (false, eval e X.env) :: starEach es X.env := by rfl) (hpl : (backTo pos (starEach es X.env)).any (·.1) = false := by rfl)
    (ht : eval (.Call (.Attribute o meth apos) (e :: es) [] pos) X.env = (do
      let ov ← eval o X.env
      standAt apos.atName
      let (f, first) ← holding [ov] (getMethod ov meth pl)
      callWith pos f first (backTo pos (starEach (e :: es) X.env)) (backToKw pos (keywordEach [] X.env))) := by rfl) :
    VE X W (.Call (.Attribute o meth apos) (e :: es) [] pos) (mUser m ms) := by
  obtain ⟨C, q0, g, fd, ps, gf, cr, cm, ⟨rest, hrec⟩, kp, F, bd⟩ := c.ex
  refine ⟨fun pins st σ H Q I h => ?_⟩
  obtain ⟨ι, s, ρ, q, en, h⟩ := h
  have hO : rdE (cg X) W (mC (.glo x)) σ H fun y H1 => y = .ref C ∧ rdA (cg X) W ms σ H1 fun vs H2 => spG (cg X) n m vs H2 Q (WE W σ) := by
    refine ⟨ι, s, ρ, q, en, ?_⟩
    intro ι1 H1 e1 q1 v rv
    simp only [RelD] at rv
    obtain ⟨a, rfl, ga⟩ := rv
    have := gf.symm.trans ga
    cases this
    refine ⟨rfl, ?_⟩
    refine ⟨ι1, s, ρ, q1, en.mono e1, ?_⟩
    have h2 := Post.mono e1 (Post.bnd h)
    cases hm : ms ρ s with
    | bad => rw [hm] at h2; exact h2
    | exn c fs ρ' s1 => rw [hm] at h2; exact h2
    | ok ds s1 =>
      rw [hm] at h2
      intro ι2 H2 e2 q2 vs r1
      obtain ⟨_, _, h3⟩ := h2 ι2 H2 e2 q2
      exact spG_of (by rw [r1.len]; exact hlen ρ s ds s1 hm) q2 r1 ((en.mono e1).mono e2) h3
  refine PySem.W.methodCall_KW (pl := pl) (thn (ho.run pins st σ H _ I hO) fun u s1 ⟨y, H1, I1, ry, ey, q1⟩ => ?_) ht
  subst ey
  obtain rfl : u = Value.ref C := ry
  refine PySem.W.method_cls I1.kIn cr.ga (PySem.W.cls_bind I1.kIn cr.rd cm (wpAny_call (PySem.W.sm_get (s := { s1 with toks := s1.toks + 1 }) I1.kIn hrec (PySem.W.handed_on rfl ?_))))
  have I2 := I1.tok (s1.toks + 1)
  refine PySem.W.callWith_K (first := []) (h₀ := X.base) I2.ok.mod.kin kp (thn (ha.run pos pins _ σ H1 _ I2 q1) fun us s3 ⟨vs, H2, I3, rv, q2⟩ => ⟨I3.kIn, ?_⟩) hst hpl
  exact runG F (hr.mono hk) bd (passAt tk σ) I3 rv q2
end
section
variable {P : Program} {w : World} {K : PySem.W.Frag} {mg : Str → Option Value} {base : Heap} {k n : Nat} {x meth : Str} {C q g : Addr} {fd : FuncData} {ps : List Str} {m : FM}
/-- C.m is a staticmethod: its record at p, its def at g -/
structure SMet (K : PySem.W.Frag) (C : Addr) (m : Str) (p g : Addr) : Prop where
  at_ : PySem.W.findCls K (.ref C) (.type "type") m = some (.get (.builtin "staticmethod.__get__") (.ref p) .none (.ref C))
  rc : ∃ rest, PySem.W.recIn K p "staticmethod" = some (.ref g :: rest)
  kp : PySem.W.keepIn K (.ref g) = true
theorem clS_of (gx : mg x = some (.ref C)) (cr : ClX.CRead K C (.type "type")) (cm : SMet K C meth q g) (F : FnG P w K mg base k g fd ps (spG ⟨K, mg⟩ n m)) (b : Binds K fd ps []) : ClS P w K mg base k x meth n m := ⟨C, q, g, fd, ps, gx, cr, cm.at_, cm.rc, cm.kp, F, b⟩
def smetB (x m : Str) (K : PySem.W.Frag) : Bool := He5.wrapB K (He.ga K x) "staticmethod" "staticmethod.__get__" m && PySem.W.keepIn K (.ref (He5.wf K (He.ga K x) "staticmethod" m))
theorem smet_ok {m : Str} (c : (FaV.gen (smetB x m)).ok K = true) : SMet K (He.ga K x) m (He.ma K (He.ga K x) m) (He5.wf K (He.ga K x) "staticmethod" m) := by
  obtain ⟨h1, h2⟩ := He.ba (show smetB x m K = true from c)
  obtain ⟨h3, h4⟩ := He5.wrapB_ok h1
  exact ⟨h3, h4, h2⟩
def isiB (x : Str) (K : PySem.W.Frag) : Bool := He.eqO (PySem.W.findIn K (.ref (He.ga K x)) "__class__") (some (some (.builtin "object.__class__"))) && (He.eqO (PySem.W.specialIn K (.builtin "object.__class__") "__get__") (some (some (.builtin "getset_descriptor.__get__"))) &&
  (decide (PySem.W.takesIn K (.builtin "object.__class__") = some true) && (decide (PySem.W.mroIn K (He.ga K x) (.type "object") = some true) && decide (PySem.W.kitOne K (.ref (He.ga K x)) (.ref (He.ga K x)) = some true))))
theorem isiC_ok (cl : Cls K (He.ga K x)) (c : (FaV.gen (isiB x)).ok K = true) : C8.InsC K (He.ga K x) := by
  obtain ⟨h1, h⟩ := He.ba (show isiB x K = true from c)
  obtain ⟨h2, h⟩ := He.ba h
  obtain ⟨h3, h⟩ := He.ba h
  obtain ⟨h4, h5⟩ := He.ba h
  exact ⟨cl, He.eqO_ok h1, He.eqO_ok h2, of_decide_eq_true h3, of_decide_eq_true h4, of_decide_eq_true h5⟩
def neB (x : Str) (K : PySem.W.Frag) : Bool := He.eqO (PySem.W.findIn K (.ref (He.ga K x)) "__ne__") (some (some (.builtin "object.__ne__"))) && decide (PySem.W.mroIn K (He.ga K x) (.type "object") = some true)
theorem neI_ok (c : (FaV.gen (neB x)).ok K = true) : NeOk K (He.ga K x) := by
  obtain ⟨h1, h2⟩ := He.ba (show neB x K = true from c)
  exact ⟨He.eqO_ok h1, of_decide_eq_true h2⟩
def mulB (x : Str) (K : PySem.W.Frag) : Bool := PySem.W.selfFirst K (He.ga K x) && (He.eqO (PySem.W.findIn K (.ref (He.ga K x)) "__rmul__") (some none) && ((PySem.W.findIn K (.type "int") "__mul__").isSome && ((PySem.W.findIn K (.type "int") "__rmul__").isSome &&
  decide (PySem.W.subIn K (.type "int") (.ref (He.ga K x)) = some false))))
theorem mulI_ok (c : (FaV.gen (mulB x)).ok K = true) : MulOk K (He.ga K x) := by
  obtain ⟨h1, h⟩ := He.ba (show mulB x K = true from c)
  obtain ⟨h2, h⟩ := He.ba h
  obtain ⟨h3, h⟩ := He.ba h
  obtain ⟨h4, h5⟩ := He.ba h
  exact ⟨h1, He.eqO_ok h2, Option.isSome_iff_exists.mp h3, Option.isSome_iff_exists.mp h4, of_decide_eq_true h5⟩
end
def sfB (x : Str) (K : PySem.W.Frag) : Bool := PySem.W.selfFirst K (He.ga K x)
theorem sfI_ok {K : PySem.W.Frag} {x : Str} (c : (FaV.gen (sfB x)).ok K = true) : PySem.W.selfFirst K (He.ga K x) = true := c
theorem tp_nil {mg : Str → Option Value} {Pr : Addr → Prop} : ∀ c m, (c, m) ∈ ([] : List (Str × FM)) → ∀ C, mg c = some (.ref C) → Pr C := fun _ _ h => by cases h
theorem tp_cons {mg : Str → Option Value} {Pr : Addr → Prop} {c0 : Str} {m0 : FM} {t : List (Str × FM)} {C0 : Addr} (g : mg c0 = some (.ref C0)) (h : Pr C0) (ht : ∀ c m, (c, m) ∈ t → ∀ C, mg c = some (.ref C) → Pr C) : ∀ c m, (c, m) ∈ (c0, m0) :: t → ∀ C, mg c = some (.ref C) → Pr C := fun c m hm C gC => by
  rcases List.mem_cons.1 hm with e | hm
  · cases e
    have z := g.symm.trans gC
    injection z with z
    injection z with z
    exact z ▸ h
  · exact ht c m hm C gC
section
variable {X : Cx} {W : WX} {pos : Pos}
theorem vs_par3 {i j l : Nat} {x y z : Str} {a b c : Expr} {ms : MA} {px py pz pt : Pos} {kt k2 pt2} (hN : X.N.Nodup) (ha : VA X W [a, b, c] ms) (hi : X.N[i]? = some x := by rfl) (hj : X.N[j]? = some y := by rfl) (hl : X.N[l]? = some z := by rfl) (hij : i ≠ j := by decide) (hil : i ≠ l := by decide) (hjl : j ≠ l := by decide)
    (hx : X.env.scope.names.lookup x = some .local := by rfl) (hy : X.env.scope.names.lookup y = some .local := by rfl) (hz : X.env.scope.names.lookup z = some .local := by rfl) (hc : X.calm = true := by rfl)
    (hw : swappedStores [.Tuple [.Name x px, .Name y py, .Name z pz] kt pt] (.Tuple [a, b, c] k2 pt2) X.env = pure (some [x, y, z]) := by rfl)
    (hs : swapsWithSole [.Tuple [.Name x px, .Name y py, .Name z pz] kt pt] (.Tuple [a, b, c] k2 pt2) pos.line X.env = pure false := by rfl) :
    VS X W (.Assign [.Tuple [.Name x px, .Name y py, .Name z pz] kt pt] (.Tuple [a, b, c] k2 pt2) pos) (mPar3 i j l ms) :=
  ps_imp (ps_par3 hc hN hi hj hl hij hil hjl hx hy hz ha hw hs) fun Dn σ H ⟨ι, s, ρ, q, e, h⟩ => by
    refine rdA_on q e h fun xs vs ι1 H1 s1 e1 q1 r1 h1 => ?_
    split at h1
    · rename_i x y z
      simp only [RelDs] at r1
      obtain ⟨v, _, rfl, r1, w, _, rfl, r2, u, _, rfl, r3, rfl⟩ := r1
      exact ⟨v, w, u, rfl, h1.here q1 _ ((((e.mono e1).set r1).set r2).set r3)⟩
    · exact h1.elim
end
end VL
namespace VL
open PySem PySem.Spec PyProof.Rows L2
/-! tuple * k, k any small number, the tuple of any length -/
section
variable {X : Cx} {G : Cg} {W : WX}
def rRepS (K : PySem.W.Frag) : R2 := fun x y H Q => ∃ l k xs, x = .ref l ∧ y = .int k ∧ SqT K H l xs ∧ (xs = [] ∨ k = 1) ∧ -1000 ≤ k ∧ k ≤ 1000 ∧ Q (.ref l) H
def rRepZ (K : PySem.W.Frag) : R2 := fun x y H Q => ∃ l k xs, x = .ref l ∧ y = .int k ∧ SqT K H l xs ∧ xs ≠ [] ∧ k ≤ 0 ∧ -1000 ≤ k ∧ ∀ p, H p = none → Q (.ref p) (upd H p (.tup []))
abbrev rRepTA (K : PySem.W.Frag) : R2 := fun x y H Q => rRepS K x y H Q ∨ rRepZ K x y H Q ∨ rRepT K x y H Q
def opMulT : F2 := fun x y s => match x, y with
  | .tup xs, .int k => if -1000 ≤ k ∧ k ≤ 1000 ∧ xs.length ≤ 1000 then .ok (.tup (List.replicate k.toNat xs).flatten) s else .bad
  | _, _ => .bad
end
end VL
namespace VL
open PySem PySem.Spec PyProof.Rows L2

/-! ### super().m(..) -/
def mSup (c : Str) (m : FM) (ms : MA) : ME := fun ρ s => match ρ[0]? with
  | some (some d) => (match insOf s d with
    | some (c', _) => if c' = c then (ms ρ s).bnd fun ds s1 => retag ρ (m (d :: ds) s1) else .bad
    | none => .bad)
  | _ => .bad
/-- where super().meth of an instance of C, told in the text of D, is the def g; i: the slot of __class__ -/
structure SupX (X : Cx) (C D g : Addr) (meth : Str) (i : Nat) : Prop where
  ks : X.env.scope.names.lookup ("super" : Str) = some .globalImplicit
  kc : X.env.scope.names.lookup ("__class__" : Str) = some .free
  nm : X.N[i]? = some "__class__"
  fu : ∃ (f : Addr) (fd : FuncData) (oc : Value) (od : Option Addr) (osl : Array (Option Value)) (ar : Arg), X.env.func = some f ∧ X.K.lookup f = some ⟨oc, od, .func fd, osl⟩ ∧ (fd.params.posonlyargs ++ fd.params.args).head? = some ar ∧ X.N[0]? = some ar.arg ∧ X.env.scope.names.lookup ar.arg = some .local ∧
    (ar.arg == ("__classdict__" : Str)) = false
  co : ∃ (cda : Addr) (ccl : Value) (cdd : Option Addr) (vs : Array Value) (ccs : Array (Option Value)) (file : Str) (tf : Tok), X.env.code = .ref cda ∧ X.K.lookup cda = some ⟨ccl, cdd, .fields vs, ccs⟩ ∧ vs[2]? = some (.str file tf) ∧ ((X.prog.main.file : Str) == file) = true
  top : (X.prog.main.scope.names.lookup ("super" : Str)).isSome = false
  mg : X.mg "super" = none
  cD : ∃ cdD, PySem.W.clsIn X.K D = some cdD
  sub : PySem.W.mroIn X.K C (.ref D) = some true
  op : PySem.W.nsIn X.K cStatics "thirdparty.any" = some none
  at_ : PySem.W.ks_superIn X.K C D meth = some (some (.ref g))
  ty : PySem.W.typeIn X.K (.ref g) = some (.type "function")
  fi : PySem.W.fnIn X.K g = true
section
variable {X : Cx} {pins : List (Addr × Obj)} {σ : L2.St} {H : Hp} {st : Shared} {a C D g dx : Addr} {fs : List (Str × V)} {meth : Str} {i : Nat} {body : List Stmt} {p0 p1 apos cpos : Pos} {whole : Sem Value} {pl : Sem Bool}
open PySem.W in
end
end VL
namespace VL
open PySem PySem.Spec PyProof.Rows L2

/-! ### what is run in a body that is known to stand on top -/
/-- i: the slot of __class__, D: the class that stands there -/
structure PEa (X : Cx) (b : List Stmt) (i : Nat) (D : Addr) (e : Expr) (t : TE) : Prop where
  run : ∀ (pins : List (Addr × Obj)) (s : Shared) (σ : L2.St) (H : Hp) (Q : VK), Inv X pins σ H s → σ[i]? = some (some (.ref D)) → t σ H Q → _root_.PySem.wpAt (model X.prog X.w) X.A (.func b X.env) (eval e X.env) (EP X pins σ Q) X.xe s
structure PSa (X : Cx) (b : List Stmt) (i : Nat) (D : Addr) (st : List Stmt) (t : TS) : Prop where
  run : ∀ (pins : List (Addr × Obj)) (s : Shared) (σ : L2.St) (H : Hp) (Dn : Ends), Inv X pins σ H s → σ[i]? = some (some (.ref D)) → t Dn σ H → _root_.PySem.wpAt (model X.prog X.w) X.A (.func b X.env) (execs st X.env) (SP X pins Dn) X.xe s
abbrev VEa (X : Cx) (W : WX) (b : List Stmt) (i : Nat) (D : Addr) (e : Expr) (m : ME) : Prop := PEa X b i D e (rdE (cg X) W m)
abbrev VSa (X : Cx) (W : WX) (b : List Stmt) (i : Nat) (D : Addr) (st : List Stmt) (m : MS) : Prop := PSa X b i D st (rdS (cg X) W m)
section
variable {X : Cx} {W : WX} {k j n i : Nat} {C D g dx : Addr} {fd : FuncData} {ps : List Str} {c x : Str} {m : FM} {ms : MA} {e : Expr} {es rest : List Expr} {sts body : List Stmt} {meth : Str} {p p0 p1 apos cpos pos : Pos} {pl : Sem Bool} {me : ME} {mr : MS}
open PySem.W in
end
/-! ### defs that close over __class__ -/
structure FunC (K : PySem.W.Frag) (D : Addr) (file x qual : Str) (params : Arguments) (body : List Stmt) (scope : Scope) (dvs : List V) (f : Addr) (fd : FuncData) : Prop where
  ex : ∃ (oc : Value) (od : Option Addr) (dV kV doc pm : Value) (an : Option Addr) (cda : Addr) (ct : Value) (osl : Array (Option Value)) (cc : Addr) (cl : Value) (cld : Option Addr) (csl : Array (Option Value)) (ccl : Value) (cdd : Option Addr) (vs : Array Value) (ccs : Array (Option Value)) (tf : Tok),
    fd = PySem.W.fnX x qual params body scope [("__class__", cc)] dV kV doc pm an (.ref cda) ct ∧ K.lookup f = some ⟨oc, od, .func fd, osl⟩ ∧ PySem.W.codeIn K (.ref cda) qual = true ∧ K.lookup cc = some ⟨cl, cld, .cell (some (.ref D)), csl⟩ ∧
      K.lookup cda = some ⟨ccl, cdd, .fields vs, ccs⟩ ∧ vs[2]? = some (.str file tf) ∧ DflV K dV dvs
  kp : PySem.W.keepIn K (.ref f) = true
/-- the context of its body -/
abbrev cxC (P : Program) (w : World) (K : PySem.W.Frag) (mg : Str → Option Value) (base : Heap) (N : List Str) (x qual : Str) (params : Arguments) (body : List Stmt) (scope : Scope) (cda cc f : Addr) (A : Around) (outer : List Env) (st : Shared) (H : Hp) (E : XK) : Cx :=
  NdefX.ncx (L2.CX P w) P w K mg base N ⟨x, qual, params, body, scope, [("__class__", cc)], cda⟩ f A outer st H E
section
variable {P : Program} {w : World} {K : PySem.W.Frag} {mg : Str → Option Value} {base : Heap}
end
/-! ### what super() needs -/
structure SupK (K : PySem.W.Frag) (C D g : Addr) (meth : Str) : Prop where
  cD : ∃ cdD, PySem.W.clsIn K D = some cdD
  sub : PySem.W.mroIn K C (.ref D) = some true
  at_ : PySem.W.ks_superIn K C D meth = some (some (.ref g))
  ty : PySem.W.typeIn K (.ref g) = some (.type "function")
  fi : PySem.W.fnIn K g = true
structure SupG (K : PySem.W.Frag) (mg : Str → Option Value) : Prop where
  mg : mg "super" = none
  op : PySem.W.nsIn K cStatics "thirdparty.any" = some none
structure SupP (P : Program) (file : Str) : Prop where
  top : (P.main.scope.names.lookup ("super" : Str)).isSome = false
  fl : ((P.main.file : Str) == file) = true
/-- of an instance of c, told in the text of D: the def that super().meth is -/
structure ClU (P : Program) (w : World) (K : PySem.W.Frag) (mg : Str → Option Value) (base : Heap) (k : Nat) (c : Str) (D : Addr) (meth : Str) (n : Nat) (m : FM) : Prop where
  ex : ∃ (C g : Addr) (fd : FuncData) (ps : List Str), mg c = some (.ref C) ∧ SupK K C D g meth ∧ FnG P w K mg base k g fd ps (spG ⟨K, mg⟩ (n + 1) m) ∧ Binds K fd ps []
section
variable {P : Program} {w : World} {K : PySem.W.Frag} {mg : Str → Option Value} {base : Heap}
theorem ClU.mono {k j n : Nat} {c meth : Str} {D : Addr} {m : FM} (cl : ClU P w K mg base k c D meth n m) (h : k ≤ j) : ClU P w K mg base j c D meth n m := let ⟨C, g, fd, ps, a, b, F, d⟩ := cl.ex; ⟨C, g, fd, ps, a, b, F.mono h, d⟩
end
end VL
namespace VL
open PySem PySem.Spec PyProof.Rows L2
/-! ### the head, with defs that close over __class__ -/
def supA (c d meth : Str) (K : PySem.W.Frag) : Addr := match PySem.W.ks_superIn K (He.ga K c) (He.ga K d) meth with
  | some (some (.ref a)) => a
  | _ => 0
def supB (c d meth : Str) (K : PySem.W.Frag) : Bool := (PySem.W.clsIn K (He.ga K d)).isSome && (decide (PySem.W.mroIn K (He.ga K c) (.ref (He.ga K d)) = some true) && (He.eqO (PySem.W.ks_superIn K (He.ga K c) (He.ga K d) meth) (some (some (.ref (supA c d meth K)))) &&
  (decide (PySem.W.typeIn K (.ref (supA c d meth K)) = some (.type "function")) && PySem.W.fnIn K (supA c d meth K))))
def opaB (K : PySem.W.Frag) : Bool := He.eqO (PySem.W.nsIn K cStatics "thirdparty.any") (some none)
structure DefC where
  at_ : PySem.W.Frag → Addr
  name : PySem.Str
  qual : PySem.Str
  params : Arguments
  body : List Stmt
  scope : Scope
  dfl : List He.Dv := []
  cls : PySem.Str
  file : PySem.Str
abbrev FnC : Type := Option (Str × Str × Arguments × FuncBody × Scope × Addr × List Str × Addr)
def fnC (K : PySem.W.Frag) (a : Addr) : FnC := match K.lookup a with
  | some ⟨_, _, .func fd, _⟩ => some (fd.name, fd.qualname, fd.params, fd.body, fd.scope, fd.globals, fd.closure.map (·.1), fd.builtins)
  | _ => none
def DefC.val (d : DefC) : FnC := some (d.name, d.qual, d.params, .stmts d.body, d.scope, mainGlobals, ["__class__"], builtinsNs)
def DefC.dvs (K : PySem.W.Frag) (d : DefC) : List L2.V := d.dfl.map (He.Dv.v K)
def cellB (K : PySem.W.Frag) (D : Addr) : List (Str × Addr) → Bool
  | [(_, cc)] => (match K.lookup cc with
    | some ⟨_, _, .cell (some (.ref D')), _⟩ => decide (D' = D)
    | _ => false)
  | _ => false
def fileB (K : PySem.W.Frag) (file : Str) : Value → Bool
  | .ref cda => (match K.lookup cda with
    | some ⟨_, _, .fields vs, _⟩ => (match vs[2]? with
      | some (Value.str f _) => decide (f = file)
      | _ => false)
    | _ => false)
  | _ => false
def DefC.ok (K : PySem.W.Frag) (d : DefC) : Bool := PySem.W.keepIn K (.ref (d.at_ K)) && (match K.lookup (d.at_ K) with
  | some ⟨_, _, .func fd, _⟩ => PySem.W.codeIn K fd.code d.qual && (He.dflB K fd.defaults (d.dvs K) && (cellB K (He.ga K d.cls) fd.closure && fileB K d.file fd.code))
  | _ => false)
abbrev AlW : Type := Bool × List He5.FnW × List FnC
def obsW (fa : List FaV) (fn : List He5.DefA) (fc : List DefC) (K : PySem.W.Frag) : AlW := ((fa.all fun f => f.ok K) && ((fn.all fun d => d.ok K) && fc.all fun d => d.ok K), fn.map fun d => He5.fnA K (d.at_ K), fc.map fun d => fnC K (d.at_ K))
def valW (fn : List He5.DefA) (fc : List DefC) : AlW := (true, fn.map He5.DefA.val, fc.map DefC.val)
def SaysW (fa : List FaV) (fn : List He5.DefA) (fc : List DefC) (K : PySem.W.Frag) : Prop := obsW fa fn fc K = valW fn fc
/-- what is of use of what an object names -/
def refsW (o : Obj) : List Addr := match o.data with
  | .dict es _ => es.toList.flatMap fun e => He.refV e.val
  | .func fd => He.refV fd.code ++ (He.refV fd.defaults ++ fd.closure.map (·.2))
  | .cls cd => cd.ns :: cd.mro.flatMap He.refV
  | .fields vs => (match o.cls with
    | .type "property" => vs.toList.flatMap He.refV
    | .type "classmethod" => vs.toList.flatMap He.refV
    | .type "staticmethod" => vs.toList.flatMap He.refV
    | _ => [])
  | _ => []
def nextW (g : Addr → Option Obj) (as : List Addr) : List Addr := (as.flatMap fun a => match g a with
  | some o => refsW o
  | none => []).eraseDups
def levW (g : Addr → Option Obj) : Nat → List Addr → List Addr
  | 0, as => as
  | n + 1, as => as ++ levW g n (nextW g as)
def asW (g : Addr → Option Obj) (n : Nat) : List Addr := levW g n [mainGlobals] ++ [cStatics]
def obsWG (n : Nat) (fa : List FaV) (fn : List He5.DefA) (fc : List DefC) (g : Addr → Option Obj) : AlW := obsW fa fn fc (He.frG g (asW g n))
def hookW (n : Nat) (fa : List FaV) (fn : List He5.DefA) (fc : List DefC) : PySem.W.Hook where
  α := AlW
  obs := fun s => obsWG n fa fn fc s.heap.get?
  val := fun _ => valW fn fc
  says := fun _ h => ∃ K : PySem.W.Frag, K.In h ∧ SaysW fa fn fc K
  of := fun _ _ e => ⟨_, He.frG_in, e⟩
  keeps := fun _ _ _ ⟨K, hK, c⟩ k => ⟨K, PySem.W.Frag.In.keeps hK k, c⟩
section
variable {fa : List FaV} {fn : List He5.DefA} {fc : List DefC} {K : PySem.W.Frag}
theorem SaysW.fact (c : SaysW fa fn fc K) (i : Nat) {f : FaV} (h : fa[i]? = some f := by rfl) : f.ok K = true := by
  have c1 := (He.ba (show ((fa.all fun f => f.ok K) && ((fn.all fun d => d.ok K) && fc.all fun d => d.ok K)) = true from congrArg (fun z : AlW => z.1) c)).1
  exact List.all_eq_true.mp c1 f (List.mem_of_getElem? h)
theorem SaysW.def_ (c : SaysW fa fn fc K) (i : Nat) {d : He5.DefA} (h : fn[i]? = some d := by rfl) : ∃ fd, L2.FunD K d.name d.qual d.params d.body d.scope (d.dvs K) (d.kws K) (d.at_ K) fd := by
  have c2 := (He.ba (He.ba (show ((fa.all fun f => f.ok K) && ((fn.all fun d => d.ok K) && fc.all fun d => d.ok K)) = true from congrArg (fun z : AlW => z.1) c)).2).1
  have e : fn.map (fun d => He5.fnA K (d.at_ K)) = fn.map He5.DefA.val := congrArg (fun z : AlW => z.2.1) c
  have e2 : (fn.map fun d => He5.fnA K (d.at_ K))[i]? = (fn.map He5.DefA.val)[i]? := by rw [e]
  rw [List.getElem?_map, List.getElem?_map, h] at e2
  exact He5.DefA.funD (Option.some.inj e2) (List.all_eq_true.mp c2 d (List.mem_of_getElem? h))
end
end VL
namespace VL
open PySem PySem.Spec PyProof.Rows L2
/-! ### instances of a class that stands below another one -/
/-- isinstance(x, D), x an instance of c -/
def fIsiD (c d : Str) : FA := fun xs s => match xs with
  | [x, .glo d'] => if d' = d then (match insOf s x with
    | some (c', _) => if c' = c then .ok (.bl true) s else .bad
    | none => .bad) else .bad
  | _ => .bad
structure IsD (K : PySem.W.Frag) (C D : Addr) : Prop where
  ins : C8.InsC K C
  md : PySem.W.kitOne K (.ref C) (.ref D) = some true
theorem RelDs.append {G : Cg} {ι : Z} {H : Hp} : ∀ {ds es : List D} {vs ws : List V}, RelDs G ι H ds vs → RelDs G ι H es ws → RelDs G ι H (ds ++ es) (vs ++ ws)
  | [], _, vs, ws, h1, h2 => by
    simp only [RelDs] at h1
    subst h1
    exact h2
  | d :: ds, _, vs, ws, h1, h2 => by
    simp only [RelDs] at h1
    obtain ⟨x, r, rfl, h3, h4⟩ := h1
    show RelDs G ι H (d :: (ds ++ _)) (x :: (r ++ ws))
    simp only [RelDs]
    exact ⟨x, _, rfl, h3, RelDs.append h4 h2⟩
section
variable {X : Cx} {W : WX} {C D : Addr} {c d : Str}
/-! ### constants of the class -/
def mCon (c f : Str) (y : Str) (mo : ME) : ME := fun ρ s => (mo ρ s).bnd fun d s1 => match insOf s1 d with
  | some (c', fs) => if c' = c ∧ fs.lookup f = none then .ok (.str y) s1 else .bad
  | none => .bad
structure ConS (K : PySem.W.Frag) (C : Addr) (f y : Str) : Prop where
  ex : ∃ t, Con K C f (.str y) (.str y t)
/-! ### *e in a display -/
def mStarC (m : ME) (ms : MA) : MA := fun ρ s => (m ρ s).bnd fun x s1 => match x with
  | .tup xs => (ms ρ s1).bnd fun ys s2 => .ok (xs ++ ys) s2
  | _ => .bad
/-! ### C(e, k = v) -/
structure ClNK (P : Program) (w : World) (K : PySem.W.Frag) (mg : Str → Option Value) (base : Heap) (k : Nat) (x kw : Str) (n : Nat) (m : FM) : Prop where
  ex : ∃ (C f : Addr) (fd : FuncData) (ps : List Str), mg x = some (.ref C) ∧ Mk K C f ∧ FnG P w K mg base k f fd ps (spG ⟨K, mg⟩ (n + 2) m) ∧ KBn K fd ps (n + 1) [kw] (fun us ws => us ++ ws) (fun vs zs => vs ++ zs)
def mSnoc (ms : MA) (mv : ME) : MA := fun ρ s => (ms ρ s).bnd fun ds s1 => (mv ρ s1).bnd fun d s2 => .ok (ds ++ [d]) s2
variable {k j n : Nat} {x kw : Str} {p pos kpos : Pos} {e v : Expr} {es : List Expr} {ms : MA} {mv : ME} {m : FM}
end
/-! ### facts -/
def isdB (c d : Str) (K : PySem.W.Frag) : Bool := isiB c K && decide (PySem.W.kitOne K (.ref (He.ga K c)) (.ref (He.ga K d)) = some true)
def conB (c f y : Str) (K : PySem.W.Frag) : Bool := match PySem.W.findIn K (.ref (He.ga K c)) f with
  | some (some (Value.str z t)) => decide (z = y) && (He.eqO (PySem.W.specialIn K (Value.str z t) "__get__") (some none) && !PySem.W.copiedNames.contains f)
  | _ => false
end VL
/-! a lambda without parameters, handed to a def that calls it; the table of code objects is a thing of the store -/
namespace VL
open PySem PySem.Spec PyProof.Rows L2
/-- what the making of a lambda does to the heap: nothing, or the table at P grows by a new code object -/
def LamH (H H1 : Hp) (P : Addr) (q : Str) : Prop := H1 = H ∨ ∃ (ps more : Array Value) (c' : Addr), H P = some (.tbl ps) ∧ H c' = none ∧ H1 = upd (upd H P (.tbl (ps ++ more))) c' (LamX.CodeO c' q)
section
variable {X : Cx} {pins : List (Addr × Obj)} {σ : L2.St} {H : Hp} {s : Shared}
end
end VL
namespace VL
open PySem PySem.Spec PyProof.Rows L2
/-- where nothing is let out -/
def R.nox {α : Type} : R α → R α
  | .ok a s => .ok a s
  | _ => .bad
@[simp] theorem R.nox_ok {α : Type} (a : α) (s : S) : (R.ok a s).nox = .ok a s := rfl
/-- x(lambda: e), x's def: try: return repr(a()) except .. (never reached); the table is the store's n-th thing -/
def mSaid (n : Nat) (x : Str) (mb : ME) : ME := fun ρ s => match s[n]? with
  | some (.tab y) => if y = x then (mb ρ s).nox.bnd fun d s1 => fRepr [d] s1 else .bad
  | _ => .bad
section
variable {X : Cx} {W : WX}
/-- what is asked of the def that is handed the lambda -/
structure SaidD (K : PySem.W.Frag) (mg : Str → Option Value) (x a ec en : Str) (Ng : List Str) (sg : Scope) (bg : List Stmt) (pg : Arguments) : Prop where
  ex : ∃ (g C : Addr) (fd : FuncData), FunD K x x pg bg sg [] [] g fd ∧ mg x = some (.ref g) ∧ Binds K fd [a] [] ∧ mg ec = some (.ref C)
  rp : mg "repr" = none
  sc : FnScope Ng [a] sg
  v0 : Ng[0]? = some a
  va : Vis sg a
  v1 : Ng[1]? = some en
  vn : sg.names.lookup en = some .local
  ge : sg.names.lookup ec = some .globalImplicit
  gr : sg.names.lookup ("repr" : Str) = some .globalImplicit
  ne : (ec == ("__debug__" : Str)) = false
  na : (a == ("__debug__" : Str)) = false
  nc : (a == ("__classdict__" : Str)) = false
  nx : (x == ("__debug__" : Str)) = false
end
end VL
/-! the law's end and its head where the law makes lambdas: the store begins with the table of the law's code objects -/
namespace VL
open PySem PySem.Spec PyProof.Rows L2
/-! the hook: as hookW, and what is known of the table of the def x -/
/-- the table at P is empty -/
def isTabB : Option Obj → Bool
  | some ⟨.none, none, .fields ⟨[]⟩, ⟨[]⟩⟩ => true
  | _ => false
theorem isTabB_ok {o : Option Obj} (h : isTabB o = true) : o = some { cls := .none, data := .fields #[] } := by
  unfold isTabB at h
  split at h
  · rfl
  · cases h
/-- the code object of the function at f and its table -/
def codeTabF (K : PySem.W.Frag) (f : Addr) : Option (Addr × Addr) := match K.lookup f with
  | some ⟨_, _, .func fd, _⟩ => (match fd.code with
    | .ref c => (match K.lookup c with
      | some ⟨_, _, .fields vs, _⟩ => (match (vs[11]? : Option Value) with | some (.ref P) => some (c, P) | _ => none)
      | _ => none)
    | _ => none)
  | _ => none
def tabB (x : Str) (g : Addr → Option Obj) (K : PySem.W.Frag) : Bool := match codeTabF K (He.ga K x) with
  | some (c, P) => isTabB (g P) && ((K.lookup P).isNone && PySem.W.codeHdIn K c P)
  | none => false
def hookT (x : Str) (n : Nat) (fa : List FaV) (fn : List He5.DefA) (fc : List DefC) : PySem.W.Hook where
  α := AlW × Bool
  obs := fun s => (obsWG n fa fn fc s.heap.get?, tabB x s.heap.get? (He.frG s.heap.get? (asW s.heap.get? n)))
  val := fun _ => (valW fn fc, true)
  says := fun _ h => ∃ K : PySem.W.Frag, K.In h ∧ SaysW fa fn fc K ∧ ∃ c P : Addr, codeTabF K (He.ga K x) = some (c, P) ∧ h.get? P = some { cls := .none, data := .fields #[] } ∧ K.lookup P = none ∧ PySem.W.codeHdIn K c P = true
  of := fun _ _ e => by
    refine ⟨_, He.frG_in, (Prod.mk.inj e).1, ?_⟩
    have e2 := (Prod.mk.inj e).2
    unfold tabB at e2
    split at e2
    · rename_i c P hq
      obtain ⟨h1, h2⟩ := He.ba e2
      obtain ⟨h2, h3⟩ := He.ba h2
      exact ⟨c, P, hq, isTabB_ok h1, Option.isNone_iff_eq_none.mp h2, h3⟩
    · cases e2
  keeps := fun _ _ _ ⟨K, hK, c, cc, P, h1, h2, h3, h4⟩ k => ⟨K, PySem.W.Frag.In.keeps hK k, c, cc, P, h1, k _ _ h2, h3, h4⟩
def obsTG (x : Str) (n : Nat) (fa : List FaV) (fn : List He5.DefA) (fc : List DefC) (g : Addr → Option Obj) : AlW × Bool := (obsWG n fa fn fc g, tabB x g (He.frG g (asW g n)))
end VL
/-! xs.pop(), len(o) and o[i] by own defs -/
namespace VL
open PySem PySem.Spec PyProof.Rows L2
def fPopL (x : D) (s : S) : R D := match x with
  | .obj n => (match s[n]? with
    | some (.lst ds) => (match ds[ds.length - 1]? with
      | some d => .ok d (s.set n (.lst ds.dropLast))
      | none => .bad)
    | _ => .bad)
  | _ => .bad
def mPopL (mo : ME) : ME := fun ρ s => (mo ρ s).bnd fun x s1 => fPopL x s1
theorem RelDs.dropLast {G : Cg} {ι : Z} {H : Hp} {xs : List D} {vs : List V} (r : RelDs G ι H xs vs) : RelDs G ι H xs.dropLast vs.dropLast := by
  rw [List.dropLast_eq_take, List.dropLast_eq_take, r.len]
  exact r.take _
section
variable {X : Cx} {W : WX} {o : Expr} {mo : ME} {apos cpos : Pos}
end
/-! ### len(o) -/
def CLen (n : Int) : Prop := 0 ≤ n ∧ n < 1000000
noncomputable instance (n : Int) : Decidable (CLen n) := Classical.propDecidable _
noncomputable def fLenI (tab : List (Str × FM)) : FA := fun xs s => match xs with
  | [d] => (match insOf s d with
    | some (c, _) => (match tab.lookup c with
      | some m => (noX (m [d] s)).bnd fun r s2 => (match r with
        | .int n => if CLen n then .ok (.int n) s2 else .bad
        | _ => .bad)
      | none => .bad)
    | none => .bad)
  | _ => .bad
section
variable {X : Cx} {W : WX} {k j : Nat} {tab : List (Str × FM)}
def rLenI (X : Cx) (k : Nat) : List V → Hp → VK → Prop := fun xs H Q => ∃ a C dx fs g fd ps m, xs = [V.ref a] ∧ H a = some (.ins C dx fs) ∧ Meth X.K C "__len__" g ∧ FnG X.prog X.w X.K X.mg X.base k g fd ps (spG (cg X) 1 m) ∧ Binds X.K fd ps [] ∧
  spG (cg X) 1 m [V.ref a] H (fun v H' => ∃ n : Int, v = .int n ∧ (0 ≤ n ∧ n < 1000000) ∧ Q (.int n) H') XN
/-! ### o[i] -/
def GetOk (K : PySem.W.Frag) (C : Addr) : Prop := ∀ f : Addr, PySem.W.findIn K (.ref C) "__getitem__" = some (some (.ref f)) → PySem.W.fnIn K f = true
def getB (x : Str) (K : PySem.W.Frag) : Bool := match PySem.W.findIn K (.ref (He.ga K x)) "__getitem__" with
  | some (some (.ref f)) => PySem.W.fnIn K f
  | _ => false
def opIxI (tab : List (Str × FM)) : F2 := fun x y s => match insOf s x with
  | some (c, _) => (match tab.lookup c with
    | some m => noX (m [x, y] s)
    | none => .bad)
  | none => .bad
end
end VL
/-! a def whose code object is known (fnG of VL6, and that) -/
namespace VL
open PySem PySem.Spec PyProof.Rows L2
section
variable {P : Program} {w : World} {K : PySem.W.Frag} {mg : Str → Option Value} {base : Heap}
end
end VL
/-! defs called within an except suite; isinstance of the handled exception; xs.count(True), xs.index(True) -/
namespace VL
open PySem PySem.Spec PyProof.Rows L2
/-! ### defs that may be called where an exception is handled -/
structure RoomP (k : Nat) (A : Around) : Prop where
  r : L2H.RoomH k A
  g : A.guards = some []
theorem RoomP.mono {j k : Nat} {A : Around} (r : RoomP k A) (h : j ≤ k) : RoomP j A := ⟨r.r.mono h, r.g⟩
theorem RoomP.units {k : Nat} {A : Around} (r : RoomP k A) : A.units + 65 < cLine := by have := r.r.un; omega
/-- p's object: the exception that is handled; the def is told of it -/
structure FnP (P : Program) (w : World) (K : PySem.W.Frag) (mg : Str → Option Value) (base : Heap) (p : Addr × Obj) (k : Nat) (f : Addr) (fd : FuncData) (ps : List Str) (sp : Sp) : Prop where
  len : ∀ vs H Q E, sp vs H Q E → vs.length = ps.length
  run : ∀ (A : Around) (outer : List Env) (st : Shared) (H : Hp) (args : Args) (us : List Value) (vs : List V) (Q : VK) (E : XK), RoomP k A → L2H.PinOk outer H st p → Env0 P w K mg base A outer st H → BindsTo st fd args (ps.zip us) → Vals vs us → sp vs H Q E →
    codeAny (model P w) A (.call (.ref f) args) (CR (L2.CX P w) outer P w H st Q E) st
section
variable {P : Program} {w : World} {K : PySem.W.Frag} {mg : Str → Option Value} {base : Heap}
end
/-- a call of such a def, where the exception is handled -/
def mHot (m : FM) (ms : MA) : ME := fun ρ s => (ms ρ s).bnd fun ds s1 => noX (m ds s1)
section
variable {X : Cx} {W : WX} {k j n : Nat} {x : Str} {q pos : Pos} {e : Expr} {es : List Expr} {ms : MA} {m : FM} {p : Addr × Obj}
theorem runP {f : Addr} {fd : FuncData} {ps : List Str} {sp : Sp} {pins : List (Addr × Obj)} {σ : L2.St} {H : Hp} {st : Shared} {Q : VK} {us : List Value} {vs : List V} (F : FnP X.prog X.w X.K X.mg X.base p k f fd ps sp) (hp : p ∈ X.pn) (hr : RoomP k X.A)
    (hb : Binds X.K fd ps []) (I : Inv X pins σ H st) (r : Vals vs us) (h : sp vs H Q XN) : wpAny (model X.prog X.w) X.A (call (.ref f) us) (EP X pins σ Q) X.xe st := by
  have hl : us.length = ps.length := by rw [← r.length]; exact F.len _ _ _ _ h
  have hbt := hb st us I.kIn (by rw [List.append_nil]; exact hl)
  rw [List.append_nil] at hbt
  have P1 := I.pin p (List.mem_append_left _ hp)
  have hpin : L2H.PinOk X.stack H st p := ⟨P1.1, P1.2.1, fun hm => (List.mem_cons.mp (I.stkSub p.1 hm)).elim P1.2.2.1 P1.2.2.2.1, P1.2.2.2.2⟩
  refine wpAny_call (codeAny_mono (F.run X.A X.stack st H ⟨us, []⟩ us vs Q XN hr hpin I.env0 hbt r h) fun rr s' hq => ?_)
  cases rr with
  | error e => exact (cx_none hq).elim
  | ok fl => cases fl with
    | ret u => exact I.after hq
    | next => exact hq.elim
    | brk => exact hq.elim
    | cont => exact hq.elim
/-- what is never reached -/
def mNeverE : ME := fun _ _ => .bad
end
/-! ### isinstance of the handled exception -/
section
variable {X : Cx} {W : WX} {a D : Addr} {oe : Obj}
/-- tab: own classes; tv: built-in ones -/
def fIsE (a : Addr) (tab : List (Str × Bool)) (tv : List (String × Bool)) : FA := fun xs s => match xs with
  | [.adr a', .glo c] => if a' = a then (match tab.lookup c with
    | some b => .ok (.bl b) s
    | none => .bad) else .bad
  | [.adr a', .ty n] => if a' = a then (match tv.lookup n with
    | some b => .ok (.bl b) s
    | none => .bad) else .bad
  | _ => .bad
end
end VL
/-! xs.count(True); a lambda handed to a def that catches what it lets out -/
namespace VL
open PySem PySem.Spec PyProof.Rows L2
def toBs : List D → Option (List Bool)
  | [] => some []
  | .bl b :: ds => (toBs ds).map fun bs => b :: bs
  | _ :: _ => none
def mCountB (mo me : ME) : ME := fun ρ s => (mo ρ s).bnd fun x s1 => if (asL s1 x).isSome = true then (me ρ s1).bnd fun y s2 => (match asL s2 x, y with
  | some ds, .bl k => (match toBs ds with
    | some bs => .ok (.int (bs.count k : Nat)) s2
    | none => .bad)
  | _, _ => .bad) else .bad
section
variable {X : Cx} {W : WX} {o e : Expr} {mo me : ME} {apos cpos : Pos}
end
/-! ### a lambda that may let exceptions out -/
section
variable {X : Cx} {pins : List (Addr × Obj)} {σ : L2.St} {H : Hp} {s : Shared}
end
/-- as mSaid, and the exceptions of tab's classes are told by their words -/
def mSaidX (n : Nat) (x : Str) (tab : List (Str × Str)) (mb : ME) : ME := fun ρ s => match s[n]? with
  | some (.tab y) => if y = x then (match mb ρ s with
    | .ok d s1 => fRepr [d] s1
    | .exn c none _ s1 => (match tab.lookup c with
      | some w => .ok (.str w) s1
      | none => .bad)
    | _ => .bad) else .bad
  | _ => .bad
section
variable {X : Cx} {W : WX}
end
/-! the words of the kinds of exceptions: the facts, the checks -/
def kTab (ks : List Str) (cn : Str) : List (Str × Bool) := ks.map fun k => (k, decide (k = cn))
def vTab : List (String × Bool) := [("ValueError", true)]
/-- what is known of the class cn, an exception of the kinds ks -/
structure KindX (K : PySem.W.Frag) (mg : Str → Option Value) (ks : List Str) (ec cn : Str) : Prop where
  C : ExcC K (He.ga K cn)
  g : mg cn = some (.ref (He.ga K cn))
  ge : mg ec = some (.ref (He.ga K ec))
  gk : ∀ k, k ∈ ks → mg k = some (.ref (He.ga K k))
  is : ∀ k, k ∈ ks → PySem.W.kitOne K (.ref (He.ga K cn)) (.ref (He.ga K k)) = some (decide (k = cn))
  ty : PySem.W.kitOne K (.ref (He.ga K cn)) (.type "ValueError") = some true
  ex : PySem.W.exmOne K (.ref (He.ga K cn)) (.ref (He.ga K ec)) = some true
def kindXB (ks : List Str) (ec cn : Str) (K : PySem.W.Frag) : Bool :=
  He.eqO (PySem.W.findIn K (.ref (He.ga K cn)) "__getattribute__") (some (some (.builtin "BaseException.__getattribute__"))) && (He.eqO (PySem.W.findIn K (.ref (He.ga K cn)) "__getattr__") (some none) && (decide (PySem.W.subIn K (.ref (He.ga K cn)) (.type "BaseException") = some true) &&
  (PySem.W.hasDictIn K (He.ga K cn) && (He.eqO (PySem.W.findIn K (.ref (He.ga K cn)) "__class__") (some (some (.builtin "object.__class__"))) && (He.eqO (PySem.W.specialIn K (.builtin "object.__class__") "__get__") (some (some (.builtin "getset_descriptor.__get__"))) &&
  (decide (PySem.W.takesIn K (.builtin "object.__class__") = some true) && (decide (PySem.W.mroIn K (He.ga K cn) (.type "object") = some true) && ((ks.all fun k => decide (PySem.W.kitOne K (.ref (He.ga K cn)) (.ref (He.ga K k)) = some (decide (k = cn)))) &&
  (decide (PySem.W.kitOne K (.ref (He.ga K cn)) (.type "ValueError") = some true) && decide (PySem.W.exmOne K (.ref (He.ga K cn)) (.ref (He.ga K ec)) = some true))))))))))
section
variable {X : Cx} {W : WX} {ks : List Str} {ec cn : Str}
theorem KindX.h1 (x : KindX X.K X.mg ks ec cn) : ∀ c b, (c, b) ∈ kTab ks cn → ∃ C, X.mg c = some (.ref C) ∧ PySem.W.kitOne X.K (.ref (He.ga X.K cn)) (.ref C) = some b := fun c b h => by
  obtain ⟨k, hk, e⟩ := List.mem_map.1 h
  injection e with e1 e2
  subst e1 e2
  exact ⟨_, x.gk k hk, x.is k hk⟩
theorem KindX.h2 (x : KindX X.K X.mg ks ec cn) : ∀ n b, (n, b) ∈ vTab → PySem.W.kitOne X.K (.ref (He.ga X.K cn)) (.type n) = some b := fun n b h => by
  rcases List.mem_cons.1 h with e | h
  · cases e; exact x.ty
  · cases h
end
/-! xs[lo:hi] of a list, the slice a changeable object -/
def opSlO (x : D) (lo hi : Option Int) (s : S) : R D := match asL s x with
  | some xs => .ok (.obj s.length) (s ++ [.lst (cutD xs lo hi)])
  | none => .bad
def mSlO (m : ME) (lo hi : MO) : ME := fun ρ s => (m ρ s).bnd fun x s1 => (lo ρ s1).bnd fun l s2 => (hi ρ s2).bnd fun h s3 => opSlO x l h s3
section
variable {X : Cx} {W : WX}
end
end VL
/-! _law_said of a lambda that gives an instance with an own __repr__ -/
namespace VL
open PySem PySem.Spec PyProof.Rows L2
/-- as mSaidX, what the lambda gives is an instance whose own __repr__ rt has -/
def mSaidXI (rt : List (Str × FM)) (n : Nat) (x : Str) (tab : List (Str × Str)) (mb : ME) : ME := fun ρ s => match s[n]? with
  | some (.tab y) => if y = x then (match mb ρ s with
    | .ok d s1 => fReprI rt [d] s1
    | .exn c none _ s1 => (match tab.lookup c with
      | some w => .ok (.str w) s1
      | none => .bad)
    | _ => .bad) else .bad
  | _ => .bad
section
variable {X : Cx} {W : WX}
end
end VL
/-! exceptions with fields: an __init__ that says super().__init__(text); self.f = a; self.g = b -/
namespace VL
open PySem PySem.Spec PyProof.Rows L2
/-- what super().__init__ of an exception of C, told in the text of C, needs; i: the slot of __class__ -/
structure SupE (X : Cx) (C : Addr) (i : Nat) : Prop where
  ks : X.env.scope.names.lookup ("super" : Str) = some .globalImplicit
  kc : X.env.scope.names.lookup ("__class__" : Str) = some .free
  nm : X.N[i]? = some "__class__"
  fu : ∃ (f : Addr) (fd : FuncData) (oc : Value) (od : Option Addr) (osl : Array (Option Value)) (ar : Arg), X.env.func = some f ∧ X.K.lookup f = some ⟨oc, od, .func fd, osl⟩ ∧ (fd.params.posonlyargs ++ fd.params.args).head? = some ar ∧ X.N[0]? = some ar.arg ∧ X.env.scope.names.lookup ar.arg = some .local ∧
    (ar.arg == ("__classdict__" : Str)) = false
  co : ∃ (cda : Addr) (ccl : Value) (cdd : Option Addr) (vs : Array Value) (ccs : Array (Option Value)) (file : Str) (tf : Tok), X.env.code = .ref cda ∧ X.K.lookup cda = some ⟨ccl, cdd, .fields vs, ccs⟩ ∧ vs[2]? = some (.str file tf) ∧ ((X.prog.main.file : Str) == file) = true
  top : (X.prog.main.scope.names.lookup ("super" : Str)).isSome = false
  mg : X.mg "super" = none
  sub : PySem.W.mroIn X.K C (.ref C) = some true
  op : PySem.W.nsIn X.K cStatics "thirdparty.any" = some none
  at_ : PySem.W.ks_superIn X.K C C "__init__" = some (some (.builtin "ValueError.__init__"))
  isB : PySem.W.subIn X.K (.ref C) (.type "ValueError") = some true
section
variable {X : Cx} {pins : List (Addr × Obj)} {σ : L2.St} {H : Hp} {st : Shared} {a C : Addr} {i : Nat} {body : List Stmt} {p0 p1 p2 p3 cpos : Pos} {whole : Sem Value} {pl : Sem Bool}
open PySem.W in
end
end VL
/-! exceptions with fields: raise C(x, y) -/
namespace VL
open PySem PySem.Spec PyProof.Rows L2
/-- the heap behind self.f1 = x; self.f2 = y -/
def hTM (H : Hp) (a C dx : Addr) (f1 f2 : Str) (x y : V) : Hp := upd (upd (upd H dx (exd dx [(f1, x)])) a (exo a C (some dx))) dx (exd dx [(f2, y), (f1, x)])
def spTM (C : Addr) (f1 f2 : Str) : Sp := fun vs H Q _ => ∃ a x y, vs = [V.ref a, x, y] ∧ H a = some (exo a C none) ∧ ∀ dx, H dx = none → dx ≠ a → Q .non (hTM H a C dx f1 f2 x y)
def tTM (C : Addr) (f1 f2 : Str) : TS := fun Dn σ H => ∃ a x y, σ[0]? = some (some (V.ref a)) ∧ σ[1]? = some (some x) ∧ σ[2]? = some (some y) ∧ H a = some (exo a C none) ∧ ∀ dx, H dx = none → dx ≠ a → Dn.nx σ (hTM H a C dx f1 f2 x y)
/-- what the written part says of such a class -/
structure TooC (K : PySem.W.Frag) (C fI : Addr) (f1 f2 : Str) : Prop where
  o : OexC K C
  n1 : PySem.W.findIn K (.ref C) f1 = some none
  n2 : PySem.W.findIn K (.ref C) f2 = some none
  iC : PySem.W.findIn K (.ref C) "__init__" = some (some (.ref fI))
  tI : PySem.W.typeIn K (.ref fI) = some (.type "function")
  sub : PySem.W.mroIn K C (.ref C) = some true
  op : PySem.W.nsIn K cStatics "thirdparty.any" = some none
  at_ : PySem.W.ks_superIn K C C "__init__" = some (some (.builtin "ValueError.__init__"))
  isB : PySem.W.subIn K (.ref C) (.type "ValueError") = some true
def oexB (K : PySem.W.Frag) (C : Addr) : Bool := (match K.lookup C with
  | some ⟨.type "type", _, .cls cd, sl⟩ => (match cd.mro, sl.toList with
    | .ref C' :: bm, [_, _, _, _, some (.builtin n), _] => decide (C' = C) && (decide (n = "ValueError.__new__") && (!cd.hasDel && (cd.hasDict && PySem.HandSPX.refsVE bm)))
    | _, _ => false)
  | _ => false) && (He.eqO (PySem.W.findIn K (.ref C) "__setattr__") (some (some (.builtin "object.__setattr__"))) && (decide (PySem.W.subIn K (.ref C) (.type "BaseException") = some true) && (decide (PySem.W.typeIn K (.ref C) = some (.type "type")) && PySem.W.keepIn K (.ref C))))
def tooB (c f1 f2 : Str) (K : PySem.W.Frag) : Bool := oexB K (He.ga K c) && (He.eqO (PySem.W.findIn K (.ref (He.ga K c)) f1) (some none) && (He.eqO (PySem.W.findIn K (.ref (He.ga K c)) f2) (some none) && (He.eqO (PySem.W.findIn K (.ref (He.ga K c)) "__init__") (some (some (.ref (He.ma K (He.ga K c) "__init__")))) &&
  (decide (PySem.W.typeIn K (.ref (He.ma K (He.ga K c) "__init__")) = some (.type "function")) && (decide (PySem.W.mroIn K (He.ga K c) (.ref (He.ga K c)) = some true) && (opaB K && (He.eqO (PySem.W.ks_superIn K (He.ga K c) (He.ga K c) "__init__") (some (some (.builtin "ValueError.__init__"))) &&
  decide (PySem.W.subIn K (.ref (He.ga K c)) (.type "ValueError") = some true))))))))
section
variable {X : Cx} {C fI : Addr} {f1 f2 : Str}
variable {P : Program} {w : World} {K : PySem.W.Frag} {mg : Str → Option Value} {base : Heap}
end
/-- the class x, its exceptions made with two values, the fields f1 and f2 -/
structure TooK (P : Program) (w : World) (K : PySem.W.Frag) (mg : Str → Option Value) (base : Heap) (k : Nat) (x f1 f2 : Str) : Prop where
  ex : ∃ (C fI : Addr) (fd : FuncData) (ps : List Str), mg x = some (.ref C) ∧ TooC K C fI f1 f2 ∧ FnOk P w K mg base (L2.CX P w) k fI fd ps (spTM C f1 f2) ∧ Binds K fd ps []
/-- raise c(x, y) -/
def mRaiseF (c f1 f2 : Str) (ms : MA) : MS := fun ρ s => (ms ρ s).bnd fun ds s1 => match ds with
  | [x, y] => .exn c (some [(f2, y), (f1, x)]) ρ s1
  | _ => .bad
section
variable {X : Cx} {W : WX} {k j : Nat} {x f1 f2 : Str} {p pos cpos : Pos} {e : Expr} {es : List Expr} {ms : MA}
end
end VL
/-! a caught exception with fields: isinstance, err.f; a lambda handed to a def that catches such ones too -/
namespace VL
open PySem PySem.Spec PyProof.Rows L2
section
variable {G : Cg} {ι : Z} {H : Hp} {s : S}
end
section
variable {X : Cx} {W : WX} {a D dx : Addr} {oe : Obj}
/-- isinstance(e, c), e the handled exception, its dict at dx -/
def rIsX (K : PySem.W.Frag) (D a dx : Addr) : List V → Hp → VK → Prop := fun xs H Q => ∃ (c : V) (cv : Value) (b : Bool) (gs : List (Str × V)), xs = [.ref a, c] ∧ (∀ u, RelV c u → u = cv) ∧ PySem.W.kitOne K (.ref D) cv = some b ∧ H dx = some (.xd gs) ∧ Q (.bl b) H
def fIsX (a dx : Addr) (tab : List (Str × Bool)) (tv : List (String × Bool)) : FA := fun xs s => match xs with
  | [.exc a' dx' ks, .glo c] => if a' = a ∧ dx' = dx then (match tab.lookup c with
    | some b => .ok (.bl b) s
    | none => .bad) else .bad
  | [.exc a' dx' ks, .ty n] => if a' = a ∧ dx' = dx then (match tv.lookup n with
    | some b => .ok (.bl b) s
    | none => .bad) else .bad
  | _ => .bad
/-- err.f -/
def mXf (a dx : Addr) (f : Str) (m : ME) : ME := fun ρ s => (m ρ s).bnd fun d s1 => match d with
  | .exc a' dx' ks => if a' = a ∧ dx' = dx then (match ks.lookup f with
    | some i => .ok (.int i) s1
    | none => .bad) else .bad
  | _ => .bad
end
/-! repr of plain data and of instances with an own __repr__ -/
def fReprU (rt : List (Str × FM)) : FA := fun xs s => match xs with
  | [d] => (match insOf s d with
    | some _ => fReprI rt xs s
    | none => fRepr xs s)
  | _ => .bad
section
variable {X : Cx} {W : WX} {k j kr : Nat}
def rReprU (X : Cx) (k : Nat) : List V → Hp → VK → Prop := fun xs H Q => rReprD X.K xs H Q ∨ rReprI X k xs H Q
/-- the fields as numbers -/
def toKs : List (Str × D) → Option (List (Str × Int))
  | [] => some []
  | (f, .int i) :: fs => (toKs fs).map fun ks => (f, i) :: ks
  | _ :: _ => none
/-- x(lambda: e), x's def: try: return repr(a()) except .. as err: ..; tab: what is said of exceptions without fields, wf: .. with fields -/
def mSaidU (rt : List (Str × FM)) (n : Nat) (x : Str) (tab : List (Str × Str)) (wf : Str → List (Str × Int) → Option Str) (mb : ME) : ME := fun ρ s => match s[n]? with
  | some (.tab y) => if y = x then (match mb ρ s with
    | .ok d s1 => fReprU rt [d] s1
    | .exn c none _ s1 => (match tab.lookup c with
      | some w => .ok (.str w) s1
      | none => .bad)
    | .exn c (some fs) _ s1 => (match toKs fs with
      | some ks => (match wf c ks with
        | some w => .ok (.str w) s1
        | none => .bad)
      | none => .bad)
    | _ => .bad) else .bad
  | _ => .bad
end
end VL
/-! as VL37, where several defs make lambdas; what is said of TooMany -/
namespace VL
open PySem PySem.Spec PyProof.Rows L2
def noW : Str → List (Str × Int) → Option Str := fun _ _ => none
def manyS (x y : Int) : Str := "! many" ++ " " ++ toString x ++ " " ++ toString y
def manyW : Str → List (Str × Int) → Option Str := fun c ks => match ks with
  | [(l, y), (m, x)] => if (decide (c = "TooMany") && (decide (l = "limit") && (decide (m = "amount") && (decide (0 ≤ x) && (decide (x < 100) && (decide (0 ≤ y) && decide (y < 100))))))) = true then some (manyS x y) else none
  | _ => none
/-- a def, its code object, its table -/
abbrev Host : Type := Str × Addr × Addr
def Hosts (G : Cg) (base : Heap) (ys : List Str) : Prop := ∀ y ∈ ys, ∃ c P, codeTab G y = some (c, P) ∧ LamX.TabB base G.mg c P
/-- what the hook says of the hosts -/
def HostsH (K : PySem.W.Frag) (ys : List Str) (h : Heap) : Prop := ∃ hs : List Host, hs.map (·.1) = ys ∧ (hs.map fun p => p.2.2).Nodup ∧ ∀ p ∈ hs, codeTabF K (He.ga K p.1) = some p.2 ∧ h.get? p.2.2 = some { cls := .none, data := .fields #[] } ∧ K.lookup p.2.2 = none ∧ PySem.W.codeHdIn K p.2.1 p.2.2 = true
def hostP (x : Str) (K : PySem.W.Frag) : Option Host := (codeTabF K (He.ga K x)).map fun p => (x, p)
def tabsB (xs : List Str) (g : Addr → Option Obj) (K : PySem.W.Frag) : Bool := (xs.all fun x => tabB x g K) && decide ((xs.filterMap fun x => (codeTabF K (He.ga K x)).map fun p => p.2).Nodup)
theorem hosts_of {K : PySem.W.Frag} {h : Heap} : ∀ {xs : List Str}, (xs.all fun x => tabB x h.get? K) = true → ∃ hs : List Host, hs.map (·.1) = xs ∧ (hs.map fun p => p.2.2) = (xs.filterMap fun x => (codeTabF K (He.ga K x)).map fun p => p.2) ∧
    ∀ p ∈ hs, codeTabF K (He.ga K p.1) = some p.2 ∧ h.get? p.2.2 = some { cls := .none, data := .fields #[] } ∧ K.lookup p.2.2 = none ∧ PySem.W.codeHdIn K p.2.1 p.2.2 = true
  | [], _ => ⟨[], rfl, rfl, fun _ h => nomatch h⟩
  | x :: xs, hx => by
    rw [List.all_cons] at hx
    obtain ⟨e1, e2⟩ := He.ba hx
    obtain ⟨hs, h1, h2, h3⟩ := hosts_of e2
    unfold tabB at e1
    split at e1
    · rename_i c P hq
      obtain ⟨k1, k2⟩ := He.ba e1
      obtain ⟨k2, k3⟩ := He.ba k2
      refine ⟨(x, c, P) :: hs, by simp [h1], by simp [hq, h2], fun p hp => ?_⟩
      rcases List.mem_cons.1 hp with rfl | hp
      · exact ⟨hq, isTabB_ok k1, Option.isNone_iff_eq_none.mp k2, k3⟩
      · exact h3 p hp
    · cases e1
def hookTs (xs : List Str) (n : Nat) (fa : List FaV) (fn : List He5.DefA) (fc : List DefC) : PySem.W.Hook where
  α := AlW × Bool
  obs := fun s => (obsWG n fa fn fc s.heap.get?, tabsB xs s.heap.get? (He.frG s.heap.get? (asW s.heap.get? n)))
  val := fun _ => (valW fn fc, true)
  says := fun _ h => ∃ K : PySem.W.Frag, K.In h ∧ SaysW fa fn fc K ∧ HostsH K xs h
  of := fun _ _ e => by
    refine ⟨_, He.frG_in, (Prod.mk.inj e).1, ?_⟩
    obtain ⟨e2, e3⟩ := He.ba (Prod.mk.inj e).2
    obtain ⟨hs, h1, h2, h3⟩ := hosts_of e2
    exact ⟨hs, h1, by rw [h2]; exact of_decide_eq_true e3, h3⟩
  keeps := fun _ _ _ ⟨K, hK, c, hs, h1, h2, h3⟩ k => ⟨K, PySem.W.Frag.In.keeps hK k, c, hs, h1, h2, fun p hp => ⟨(h3 p hp).1, k _ _ (h3 p hp).2.1, (h3 p hp).2.2⟩⟩
def obsTsG (xs : List Str) (n : Nat) (fa : List FaV) (fn : List He5.DefA) (fc : List DefC) (g : Addr → Option Obj) : AlW × Bool := (obsWG n fa fn fc g, tabsB xs g (He.frG g (asW g n)))
end VL
/-! C(e, ..) where __init__ has a default, called in all ways; isinstance that tells False -/
namespace VL
open PySem PySem.Spec PyProof.Rows L2
/-- n values are written, the defaults fill up -/
structure DBn (K : PySem.W.Frag) (fd : FuncData) (ps : List Str) (n : Nat) (dvs : List V) : Prop where
  to : ∀ (s : Shared) (us : List Value), K.In s.heap → us.length = n → ∃ its : List Value, Vals dvs its ∧ BindsTo s fd ⟨us, []⟩ (ps.zip (us ++ its))
structure ClNA (P : Program) (w : World) (K : PySem.W.Frag) (mg : Str → Option Value) (base : Heap) (k : Nat) (x kw : Str) (n : Nat) (dvs : List V) (m : FM) : Prop where
  ex : ∃ (C f : Addr) (fd : FuncData) (ps : List Str), mg x = some (.ref C) ∧ Mk K C f ∧ FnG P w K mg base k f fd ps (spG ⟨K, mg⟩ (n + 2) m) ∧ Binds K fd ps [] ∧ KBn K fd ps (n + 1) [kw] (fun us ws => us ++ ws) (fun vs zs => vs ++ zs) ∧ DBn K fd ps (n + 1) dvs
section
variable {P : Program} {w : World} {K : PySem.W.Frag} {mg : Str → Option Value} {base : Heap} {k n : Nat} {x kw : Str} {dvs : List V} {m : FM}
end
section
variable {X : Cx} {W : WX} {k j n : Nat} {x kw : Str} {p pos : Pos} {e : Expr} {es : List Expr} {ms : MA} {m : FM} {C : Addr} {dv : Int}
end
/-- isinstance(x, D), x an instance of c, that is none of D -/
def fIsiN (c d : Str) : FA := fun xs s => match xs with
  | [x, .glo d'] => if d' = d then (match insOf s x with
    | some (c', _) => if c' = c then .ok (.bl false) s else .bad
    | none => .bad) else .bad
  | _ => .bad
structure IsN (K : PySem.W.Frag) (C D : Addr) : Prop where
  ins : C8.InsC K C
  md : PySem.W.kitOne K (.ref C) (.ref D) = some false
section
variable {X : Cx} {W : WX} {C D : Addr} {c d : Str}
end
def isnB (c d : Str) (K : PySem.W.Frag) : Bool := isiB c K && decide (PySem.W.kitOne K (.ref (He.ga K c)) (.ref (He.ga K d)) = some false)
theorem ClI.mono {P : Program} {w : World} {K : PySem.W.Frag} {mg : Str → Option Value} {base : Heap} {k j n : Nat} {x : Str} {m : FM} (c : ClI P w K mg base k x n m) (h : k ≤ j) : ClI P w K mg base j x n m := ⟨fun C g => let ⟨f, fd, ps, a, F, d⟩ := c.ex C g; ⟨f, fd, ps, a, F.mono h, d⟩⟩
end VL
/-! t[::-1], t a tuple -/
namespace VL
open PySem PySem.Spec PyProof.Rows L2 HT
section
variable {prog : Program} {w : World} {A : Around} {E : Value → Shared → Prop} {s : Shared}
end
section
variable {X : Cx} {W : WX}
def rRvT (K : PySem.W.Frag) : V → Hp → VK → Prop := fun x H Q => ∃ a xs, x = .ref a ∧ SqT K H a xs ∧ ∀ p, H p = none → Q (.ref p) (upd H p (.tup xs.reverse))
def tRv (K : PySem.W.Frag) (te : TE) (tk : TO) : TE := fun σ H Q => te σ H fun x H1 => tk σ H1 fun k H2 => k = some (-1) ∧ rRvT K x H2 Q
def mRev (m : ME) (ml : MO) : ME := fun ρ s => (m ρ s).bnd fun x s1 => (ml ρ s1).bnd fun l s2 => match x with
  | .tup ds => if l = some (-1) then .ok (.tup ds.reverse) s2 else .bad
  | _ => .bad
end
end VL
/-! repr of tuples and of empty dicts in them -/
namespace VL
open PySem PySem.Spec PyProof.Rows L2
mutual
inductive Ep (K : PySem.W.Frag) (H : Hp) : V → PyData → Prop
  | non : Ep K H .non .none
  | bl (b : Bool) : Ep K H (.bl b) (.bool b)
  | int (i : Int) : Ep K H (.int i) (.int i)
  | str (x : Str) : Ep K H (.str x) (.str x)
  | dct {a : Addr} : H a = some (.dK []) → Ep K H (.ref a) (.dict [])
  | tup {a : Addr} {xs : List V} {ds : List PyData} : SqT K H a xs → EpAll K H xs ds → Ep K H (.ref a) (.tuple ds)
inductive EpAll (K : PySem.W.Frag) (H : Hp) : List V → List PyData → Prop
  | nil : EpAll K H [] []
  | cons {v : V} {vs : List V} {d : PyData} {ds : List PyData} : Ep K H v d → EpAll K H vs ds → EpAll K H (v :: vs) (d :: ds)
end
section
variable {X : Cx} {pins : List (Addr × Obj)} {σ : L2.St} {H : Hp} {s : Shared}
mutual
theorem Ep.reads (I : L2.Inv X pins σ H s) : ∀ (d : PyData) (v : V) (u : Value), Ep X.K H v d → RelV v u → ∃ as, Reads s.heap u d as ∧ sysModules ∉ as
  | .none, _, _, h, r => by
    cases h
    cases r
    exact ⟨_, Reads.none, by simp⟩
  | .bool b, _, _, h, r => by
    cases h
    cases r
    exact ⟨_, Reads.bool b, by simp⟩
  | .int i, _, _, h, r => by
    cases h
    obtain ⟨t, rfl⟩ := r
    exact ⟨_, Reads.int i t, by simp⟩
  | .str x, _, _, h, r => by
    cases h
    obtain ⟨t, rfl⟩ := r
    exact ⟨_, Reads.str x t, by simp⟩
  | .list ds, _, _, h, r => by cases h
  | .tuple ds, _, _, h, r => by
    cases h with
    | tup hs ha =>
      cases r
      obtain ⟨its, rv, ⟨o, ho, hc, n, hd⟩, _⟩ := I.tuple hs
      obtain ⟨as, hr, hm⟩ := Ep.readsAll I ds _ its ha rv
      exact ⟨_, Reads.tuple ho hc hd hr, hm⟩
  | .dict kvs, _, _, h, r => by
    cases h with
    | @dct a e =>
      cases r
      obtain ⟨_, hm, vs, rel, o, es, ep, ho, hc, hd, hk, hp, _⟩ := dk_of I.hok e
      have e0 : vs = [] := by cases rel; rfl
      subst e0
      have e1 : es.toList = [] := by
        cases z : es.toList with
        | nil => rfl
        | cons x l => rw [z] at hp; cases hp
      have hr := Reads.dict (kvs := []) ho hc.1 hd (by rw [e1]; exact ReadsAll.nil) (by rw [e1]; exact ReadsAll.nil)
      refine ⟨_, hr, ?_⟩
      have hm : a ≠ sysModules := beq_eq_false_iff_ne.mp hm
      simpa using hm.symm
theorem Ep.readsAll (I : L2.Inv X pins σ H s) : ∀ (ds : List PyData) (vs : List V) (us : List Value), EpAll X.K H vs ds → Vals vs us → ∃ as, ReadsAll s.heap us ds as ∧ sysModules ∉ as
  | [], _, _, h, r => by
    cases h
    cases r
    exact ⟨_, ReadsAll.nil, by simp⟩
  | d :: ds, _, _, h, r => by
    cases h with
    | cons h1 h2 =>
      cases r with
      | cons r1 r2 =>
        obtain ⟨as, q1, m1⟩ := Ep.reads I d _ _ h1 r1
        obtain ⟨bs, q2, m2⟩ := Ep.readsAll I ds _ _ h2 r2
        exact ⟨_, ReadsAll.cons q1 q2, by simp [m1, m2]⟩
end
end
section
variable {X : Cx} {W : WX}
def rReprT (K : PySem.W.Frag) : List V → Hp → VK → Prop := fun xs H Q => ∃ a p, xs = [V.ref a] ∧ Ep K H (.ref a) p ∧ p.showable = true ∧ p.shown.length ≤ sizeLine ∧ p.depth ≤ 60 ∧ Q (.str p.shown) H
mutual
/-- the data of a tuple, in which empty dicts may stand -/
def toPyE (s : S) : D → Option PyData
  | .non => some .none
  | .bl b => some (.bool b)
  | .int i => some (.int i)
  | .str x => some (.str x)
  | .tup ds => (toPyEs s ds).map .tuple
  | .obj n => match s[n]? with
    | some (.dct []) => some (.dict [])
    | _ => none
  | _ => none
def toPyEs (s : S) : List D → Option (List PyData)
  | [] => some []
  | d :: ds => match toPyE s d, toPyEs s ds with
    | some p, some ps => some (p :: ps)
    | _, _ => none
end
section
variable {G : Cg} {ι : Z} {H : Hp} {s : S}
mutual
theorem ep_of (q : Sim G ι H s) : ∀ (d : D) {v : V} {p : PyData}, RelD G ι H d v → toPyE s d = some p → Ep G.K H v p
  | .non, v, p, r, h => by simp only [toPyE, Option.some.injEq] at h; subst h; rw [relN r]; exact .non
  | .bl b, v, p, r, h => by simp only [toPyE, Option.some.injEq] at h; subst h; rw [relB r]; exact .bl b
  | .int b, v, p, r, h => by simp only [toPyE, Option.some.injEq] at h; subst h; rw [relI r]; exact .int b
  | .str b, v, p, r, h => by simp only [toPyE, Option.some.injEq] at h; subst h; rw [relS r]; exact .str b
  | .tup ds, v, p, r, h => by
    simp only [toPyE, Option.map_eq_some_iff] at h
    obtain ⟨ps, hp, rfl⟩ := h
    simp only [RelD] at r
    obtain ⟨a, xs, rfl, h2, h3⟩ := r
    exact .tup h2.sq (eps_of q ds h3 hp)
  | .obj n, v, p, r, h => by
    simp only [toPyE] at h
    split at h
    · rename_i hn
      cases h
      obtain ⟨a, h1, _, ks, h3, h4⟩ := q.addr hn
      simp only [RelD] at r
      obtain ⟨b, rfl, e⟩ := r
      rw [h1] at e
      cases e
      cases h4
      exact .dct h3
    · cases h
  | .lst ds, v, p, r, h => by simp [toPyE] at h
  | .scr ds, v, p, r, h => by simp [toPyE] at h
  | .glo n, v, p, r, h => by simp [toPyE] at h
  | .ty n, v, p, r, h => by simp [toPyE] at h
  | .tupF ds, v, p, r, h => by simp [toPyE] at h
  | .adr _, v, p, r, h => by simp [toPyE] at h
  | .exc _ _ _, v, p, r, h => by simp [toPyE] at h
theorem eps_of (q : Sim G ι H s) : ∀ (ds : List D) {vs : List V} {ps : List PyData}, RelDs G ι H ds vs → toPyEs s ds = some ps → EpAll G.K H vs ps
  | [], vs, ps, r, h => by simp only [toPyEs, Option.some.injEq] at h; subst h; simp only [RelDs] at r; subst r; exact .nil
  | d :: ds, vs, ps, r, h => by
    simp only [toPyEs] at h
    split at h
    · rename_i p qs h1 h2
      cases h
      simp only [RelDs] at r
      obtain ⟨x, t, rfl, r1, r2⟩ := r
      exact .cons (ep_of q d r1 h1) (eps_of q ds r2 h2)
    · cases h
end
end
/-- repr, also of empty dicts -/
def fReprE : FA := fun xs s => match xs with
  | [x] => (match toPyS s x with
    | some p => if p.showable = true ∧ p.shown.length ≤ sizeLine ∧ p.hasDict = false ∧ p.depth ≤ 60 then .ok (.str p.shown) s else .bad
    | none => (match toPyE s x with
      | some p => if p.showable = true ∧ p.shown.length ≤ sizeLine ∧ p.depth ≤ 60 then .ok (.str p.shown) s else .bad
      | none => .bad))
  | _ => .bad
def rReprE (K : PySem.W.Frag) : List V → Hp → VK → Prop := fun xs H Q => rReprD K xs H Q ∨ rReprT K xs H Q
end
end VL
/-! o[i] by an own __getitem__ that may raise -/
namespace VL
open PySem PySem.Spec PyProof.Rows L2
section
variable {X : Cx} {W : WX} {k j : Nat} {tab : List (Str × FM)}
def mIxR (tab : List (Str × FM)) (ma mb : ME) : ME := fun ρ s => (ma ρ s).bnd fun x s1 => (mb ρ s1).bnd fun y s2 => match insOf s2 x with
  | some (c, _) => (match tab.lookup c with
    | some m => retag ρ (m [x, y] s2)
    | none => .bad)
  | none => .bad
end
end VL
/-! xs + ys, the sum a changeable object -/
namespace VL
open PySem PySem.Spec PyProof.Rows L2
section
variable {G : Cg} {W : WX}
def opAddO : F2 := fun x y s => match asX s x, asX s y with
  | some xs, some ys => if xs.length + ys.length ≤ LIM then .ok (.obj s.length) (s ++ [.lst (xs ++ ys)]) else .bad
  | _, _ => .bad
end
end VL
/-! repr of a tuple in which instances with an own __repr__ stand -/
namespace VL
open PySem PySem.Spec PyProof.Rows L2
section
variable {prog : Program} {w : World} {A : Around} {E : Value → Shared → Prop} {s : Shared} {K : PySem.W.Frag} {x C f : Addr} {ox : Obj} {od : Option Obj}
end
/-- an own __repr__ that may be called where a repr runs -/
structure ClR (P : Program) (w : World) (K : PySem.W.Frag) (mg : Str → Option Value) (base : Heap) (k : Nat) (x : Str) (m : FM) : Prop where
  ex : ∀ C, mg x = some (.ref C) → ∃ (f : Addr) (fd : FuncData) (ps : List Str), Cls K C ∧ Meth K C "__repr__" f ∧ FnOk P w K mg base (L2.CX P w) k f fd ps (spG ⟨K, mg⟩ 1 m) ∧ Binds K fd ps []
theorem fnOk_G {P : Program} {w : World} {K : PySem.W.Frag} {mg : Str → Option Value} {base : Heap} {k : Nat} {f : Addr} {fd : FuncData} {ps : List Str} {sp : Sp} (F : FnOk P w K mg base (L2.CX P w) k f fd ps sp) : FnG P w K mg base k f fd ps sp :=
  ⟨F.len, fun A outer st H args us vs Q E hr => F.run A outer st H args us vs Q E hr.r⟩
theorem ClR.m {P : Program} {w : World} {K : PySem.W.Frag} {mg : Str → Option Value} {base : Heap} {k : Nat} {x : Str} {m : FM} (c : ClR P w K mg base k x m) : ClM P w K mg base k x "__repr__" 0 m :=
  ⟨fun C g => let ⟨f, fd, ps, a, b, F, d⟩ := c.ex C g; ⟨f, fd, ps, a, b, fnOk_G F, d⟩⟩
theorem ClR.mono {P : Program} {w : World} {K : PySem.W.Frag} {mg : Str → Option Value} {base : Heap} {k j : Nat} {x : Str} {m : FM} (c : ClR P w K mg base k x m) (h : k ≤ j) : ClR P w K mg base j x m :=
  ⟨fun C g => let ⟨f, fd, ps, a, b, F, d⟩ := c.ex C g; ⟨f, fd, ps, a, b, F.mono h, d⟩⟩
/-! the value layer's side -/
open Classical in
noncomputable def rpItem (tab : List (Str × FM)) (s : S) (d : D) : Option Str := match toPyS s d with
  | some p => if p.showable = true ∧ p.shown.length ≤ sizeLine ∧ p.hasDict = false ∧ p.depth ≤ 50 then some p.shown else none
  | none => (match insOf s d with
    | some (c, _) => (match tab.lookup c with
      | some m => (match m [d] s with
        | .ok (.str x) s2 => if s2 = s then some x else none
        | _ => none)
      | none => none)
    | none => none)
noncomputable def rpItems (tab : List (Str × FM)) (s : S) : List D → Option (List Str)
  | [] => some []
  | d :: ds => match rpItem tab s d, rpItems tab s ds with
    | some t, some ts => some (t :: ts)
    | _, _ => none
def hasIns (s : S) (ds : List D) : Bool := ds.any fun d => (insOf s d).isSome
/-- repr of data, of instances, and of a tuple of these -/
noncomputable def fReprN (tab : List (Str × FM)) : FA := fun xs s => match xs with
  | [d] => (match insOf s d with
    | some _ => fReprI tab [d] s
    | none => (match toPyS s d with
      | some _ => fRepr [d] s
      | none => (match d with
        | .tup ds => if hasIns s ds then (match rpItems tab s ds with
            | some ts => if (tupleText ts).length ≤ sizeLine then .ok (.str (tupleText ts)) s else .bad
            | none => .bad) else fReprE [d] s
        | _ => fReprE [d] s)))
  | _ => .bad
section
variable {X : Cx} {W : WX} {k j : Nat} {tab : List (Str × FM)}
/-- where the items' reprs run -/
structure UnderA (X : Cx) (k : Nat) (a : Addr) (A : Around) : Prop where
  r : Room k A
  f : A.frames = some X.stack
  g : ∃ id, A.guards = some [.builtin id ⟨[.ref a], []⟩]
  u : A.units + 60 < cLine
def rReprTup (X : Cx) (k : Nat) (tab : List (Str × FM)) : List V → Hp → VK → Prop := fun xs H Q => ∃ a vs ι s ds ts, xs = [V.ref a] ∧ TupAt (cg X) ι H a vs ∧ Sim (cg X) ι H s ∧ RelDs (cg X) ι H ds vs ∧ hasIns s ds = true ∧ rpItems tab s ds = some ts ∧ (tupleText ts).length ≤ sizeLine ∧
  (∀ c m, (c, m) ∈ tab → ClR X.prog X.w X.K X.mg X.base k c m) ∧ ∀ ι' H', Ext ι H ι' H' → Sim (cg X) ι' H' s → Q (.str (tupleText ts)) H'
/-- repr of data, of empty dicts, of instances, of tuples of these -/
def rReprN (X : Cx) (k : Nat) (tab : List (Str × FM)) : List V → Hp → VK → Prop := fun xs H Q => rReprE X.K xs H Q ∨ rReprI X k xs H Q ∨ rReprTup X k tab xs H Q
end
/-! ### walks of defs that may be called where a repr runs -/
section
variable {P : Program} {w : World} {K : PySem.W.Frag} {mg : Str → Option Value} {base : Heap}
end
/-- a property that may be read where a repr runs -/
structure ClPR (P : Program) (w : World) (K : PySem.W.Frag) (mg : Str → Option Value) (base : Heap) (k : Nat) (x f : Str) (m : FM) : Prop where
  ex : ∀ C, mg x = some (.ref C) → ∃ (p g : Addr) (fd : FuncData) (ps : List Str), Cls K C ∧ PropOf K C f p g ∧ FnOk P w K mg base (L2.CX P w) k g fd ps (spG ⟨K, mg⟩ 1 m) ∧ Binds K fd ps []
theorem ClPR.p {P : Program} {w : World} {K : PySem.W.Frag} {mg : Str → Option Value} {base : Heap} {k : Nat} {x f : Str} {m : FM} (c : ClPR P w K mg base k x f m) : ClP P w K mg base k x f m :=
  ⟨fun C g => let ⟨p, f, fd, ps, a, b, F, d⟩ := c.ex C g; ⟨p, f, fd, ps, a, b, fnOk_G F, d⟩⟩
section
variable {P : Program} {w : World} {K : PySem.W.Frag} {mg : Str → Option Value} {base : Heap} {k : Nat} {x f meth : Str} {m : FM} {C q g : Addr} {fd : FuncData} {ps : List Str}
end
section
variable {X : Cx} {W : WX} {k j : Nat} {f : Str} {pos : Pos} {e : Expr} {mo : ME} {tab : List (Str × FM)}
end
end VL
/-! isinstance of instances and of any value -/
namespace VL
open PySem PySem.Spec PyProof.Rows L2
/-- instances of C are none of the four built-in types that are asked for -/
structure IsT (K : PySem.W.Frag) (C : Addr) : Prop where
  ins : C8.InsC K C
  no : ∀ T : String, T = "int" ∨ T = "bool" ∨ T = "tuple" ∨ T = "str" → PySem.W.kitOne K (.ref C) (.type T) = some false
def isTB (c : Str) (K : PySem.W.Frag) : Bool := isiB c K && decide (PySem.W.kitOne K (.ref (He.ga K c)) (.type "int") = some false) && decide (PySem.W.kitOne K (.ref (He.ga K c)) (.type "bool") = some false) && decide (PySem.W.kitOne K (.ref (He.ga K c)) (.type "tuple") = some false) && decide (PySem.W.kitOne K (.ref (He.ga K c)) (.type "str") = some false)
/-- no value of a built-in type is an instance of D -/
structure IsNo (K : PySem.W.Frag) (D : Addr) : Prop where
  no : ∀ t : String, t = "NoneType" ∨ t = "bool" ∨ t = "int" ∨ t = "str" ∨ t = "tuple" ∨ t = "list" ∨ t = "dict" → PySem.W.kitOne K (.type t) (.ref D) = some false
def isNoB (d : Str) (K : PySem.W.Frag) : Bool := ["NoneType", "bool", "int", "str", "tuple", "list", "dict"].all fun t => decide (PySem.W.kitOne K (.type t) (.ref (He.ga K d)) = some false)
/-- isinstance(x, T), T a built-in type, x any value or an instance of one of the classes -/
def fIsiO (tab : List Str) : FA := fun xs s => match xs with
  | [x, .ty T] => (match insOf s x with
    | some (c, _) => if tab.contains c ∧ (T = "int" ∨ T = "bool" ∨ T = "tuple" ∨ T = "str") then .ok (.bl false) s else .bad
    | none => fIsi [x, .ty T] s)
  | _ => .bad
section
variable {X : Cx} {W : WX} {D : Addr} {d : Str}
/-- isinstance(x, C), C an own class: the table tells it for instances -/
def fIsiA (d : Str) (tab : List (Str × Bool)) : FA := fun xs s => match xs with
  | [x, .glo d'] => if d' = d then (match insOf s x with
    | some (c, _) => (match tab.lookup c with
      | some b => .ok (.bl b) s
      | none => .bad)
    | none => (match tyOf s x with
      | some _ => .ok (.bl false) s
      | none => .bad)) else .bad
  | _ => .bad
structure IsIn (K : PySem.W.Frag) (C D : Addr) (b : Bool) : Prop where
  ins : C8.InsC K C
  md : PySem.W.kitOne K (.ref C) (.ref D) = some b
theorem IsD.i {K : PySem.W.Frag} {C D : Addr} (h : IsD K C D) : IsIn K C D true := ⟨h.ins, h.md⟩
theorem IsN.i {K : PySem.W.Frag} {C D : Addr} (h : IsN K C D) : IsIn K C D false := ⟨h.ins, h.md⟩
end
end VL
/-! x or y by truth -/
namespace VL
open PySem PySem.Spec PyProof.Rows L2
def truD : D → Option Bool
  | .non => some false
  | .bl b => some b
  | .int i => some (i != 0)
  | .tup ds => some (!ds.isEmpty)
  | _ => none
def mOrD (a b : ME) : ME := fun ρ s => (a ρ s).bnd fun d s1 => match truD d with
  | some true => .ok d s1
  | some false => b ρ s1
  | none => .bad
section
variable {X : Cx} {W : WX} {a b : Expr} {ma mb : ME} {rest : List Expr} {pos : Pos}
end
end VL
/-! repr of any nesting of tuples, lists and dicts -/
namespace VL
open PySem PySem.Spec PyProof.Rows L2
mutual
inductive RdS (h : Heap) : Value → PyData → Prop
  | none : RdS h .none .none
  | bool (b : Bool) : RdS h (.bool b) (.bool b)
  | int (i : Int) (t : Tok) : RdS h (.int i t) (.int i)
  | str (x : Str) (t : Tok) : RdS h (.str x t) (.str x)
  | list {a : Addr} {o : Obj} {vs : Array Value} {n : Nat} {xs : List PyData} : h.get? a = some o → o.cls = .type "list" → o.data = .seq vs n → RdSs h vs.toList xs → RdS h (.ref a) (.list xs)
  | tuple {a : Addr} {o : Obj} {vs : Array Value} {n : Nat} {xs : List PyData} : h.get? a = some o → o.cls = .type "tuple" → o.data = .seq vs n → RdSs h vs.toList xs → RdS h (.ref a) (.tuple xs)
  | dict {a : Addr} {o : Obj} {es : Array DictEntry} {n : Nat} {kvs : List (PyData × PyData)} : h.get? a = some o → o.cls = .type "dict" → o.data = .dict es n → (a == sysModules) = false →
      RdSs h (es.toList.map (·.key)) (kvs.map (·.1)) → RdSs h (es.toList.map (·.val)) (kvs.map (·.2)) → RdS h (.ref a) (.dict kvs)
inductive RdSs (h : Heap) : List Value → List PyData → Prop
  | nil : RdSs h [] []
  | cons {v : Value} {vs : List Value} {d : PyData} {ds : List PyData} : RdS h v d → RdSs h vs ds → RdSs h (v :: vs) (d :: ds)
end
mutual
theorem RdS.reads {h : Heap} : ∀ {v : Value} {d : PyData}, RdS h v d → ∃ as, Reads h v d as
  | _, _, .none => ⟨_, .none⟩
  | _, _, .bool b => ⟨_, .bool b⟩
  | _, _, .int i t => ⟨_, .int i t⟩
  | _, _, .str x t => ⟨_, .str x t⟩
  | _, _, .list h1 h2 h3 h4 => let ⟨_, r⟩ := h4.reads; ⟨_, .list h1 h2 h3 r⟩
  | _, _, .tuple h1 h2 h3 h4 => let ⟨_, r⟩ := h4.reads; ⟨_, .tuple h1 h2 h3 r⟩
  | _, _, .dict h1 h2 h3 _ h4 h5 => let ⟨_, r⟩ := h4.reads; let ⟨_, q⟩ := h5.reads; ⟨_, .dict h1 h2 h3 r q⟩
theorem RdSs.reads {h : Heap} : ∀ {vs : List Value} {ds : List PyData}, RdSs h vs ds → ∃ as, ReadsAll h vs ds as
  | _, _, .nil => ⟨_, .nil⟩
  | _, _, .cons h1 h2 => let ⟨_, r⟩ := h1.reads; let ⟨_, q⟩ := h2.reads; ⟨_, .cons r q⟩
end
section
variable {prog : Program} {w : World} {h₀ : Heap}
mutual
theorem RdS.repr : ∀ {v : Value} {d : PyData}, RdS h₀ v d → d.showable = true → d.shown.length ≤ sizeLine → ∃ bs, ReadAtMost h₀ d.depth bs ∧ ReprK prog w bs h₀ d.depth v d.shown
  | _, _, .none, _, _ => ⟨[], (fun _ h => nomatch h), by simp only [PyData.shown]; exact .of_is ReprIs.none _ _ _⟩
  | _, _, .bool b, _, _ => ⟨[], (fun _ h => nomatch h), by simp only [PyData.shown]; exact .of_is (ReprIs.bool b) _ _ _⟩
  | _, _, .int i t, hs, _ => ⟨[], (fun _ h => nomatch h), by simp only [PyData.shown]; exact .of_is (ReprIs.int t (by simpa [PyData.showable] using hs)) _ _ _⟩
  | _, _, .str x t, _, hz => ⟨[], (fun _ h => nomatch h), by simp only [PyData.shown]; exact .of_is (ReprIs.str x t (by simpa only [PyData.shown] using hz)) _ _ _⟩
  | _, _, .list (a := a) (vs := vs) (xs := xs) h1 h2 h3 h4, hs, hz => by
    have hz' : (listText (PyData.shownAll xs)).length ≤ sizeLine := by simpa only [PyData.shown] using hz
    obtain ⟨bs, hb, hk⟩ := h4.repr (by simpa [PyData.showable] using hs) (fun t ht => Nat.le_trans (listText_mem_le ht) hz')
    obtain ⟨_, r4⟩ := h4.reads
    have r : Reads h₀ (.ref a) (.list xs) _ := .list h1 h2 h3 r4
    have hna : a ∉ bs := not_mem_of_deeper r (by simp only [PyData.depth]; omega) hb
    refine ⟨a :: bs, ReadAtMost.cons r (by simp only [PyData.depth]; omega) hb, ?_⟩
    simp only [PyData.depth, PyData.shown]
    obtain ⟨l⟩ := vs
    cases l with
    | nil =>
      have h4' : RdSs h₀ [] xs := h4
      cases h4'
      simp only [PyData.shownAll, listText_nil]
      exact ReprK.listEmpty h1 h2 h3
    | cons x l => exact ReprK.list h1 h2 h3 hna (by simpa using hk.length_eq) (fun i y e => hk.item i y (by simpa using e))
  | _, _, .tuple (a := a) (xs := xs) h1 h2 h3 h4, hs, hz => by
    have hz' : (tupleText (PyData.shownAll xs)).length ≤ sizeLine := by simpa only [PyData.shown] using hz
    obtain ⟨bs, hb, hk⟩ := h4.repr (by simpa [PyData.showable] using hs) (fun t ht => Nat.le_trans (tupleText_mem_le ht) hz')
    obtain ⟨_, r4⟩ := h4.reads
    have r : Reads h₀ (.ref a) (.tuple xs) _ := .tuple h1 h2 h3 r4
    have hna : a ∉ bs := not_mem_of_deeper r (by simp only [PyData.depth]; omega) hb
    refine ⟨a :: bs, ReadAtMost.cons r (by simp only [PyData.depth]; omega) hb, ?_⟩
    simp only [PyData.depth, PyData.shown]
    exact ReprK.tuple h1 h2 h3 hna hk
  | _, _, .dict (a := a) (es := es) (kvs := kvs) h1 h2 h3 hsys h4 h5, hs, hz => by
    have hz' : (dictText (PyData.shownKv kvs)).length ≤ sizeLine := by simpa only [PyData.shown] using hz
    obtain ⟨hs1, hs2⟩ := PyData.showableKv_split kvs (by simpa [PyData.showable] using hs)
    obtain ⟨b1, hb1, k1⟩ := h4.repr hs1 (fun t ht => let ⟨p, hp, hl⟩ := PyData.shownKv_key_le kvs t ht; Nat.le_trans hl (Nat.le_trans (dictText_mem_le hp) hz'))
    obtain ⟨b2, hb2, k2⟩ := h5.repr hs2 (fun t ht => let ⟨p, hp, hl⟩ := PyData.shownKv_val_le kvs t ht; Nat.le_trans hl (Nat.le_trans (dictText_mem_le hp) hz'))
    obtain ⟨_, r4⟩ := h4.reads
    obtain ⟨_, r5⟩ := h5.reads
    have r : Reads h₀ (.ref a) (.dict kvs) _ := .dict h1 h2 h3 r4 r5
    have hb : ReadAtMost h₀ (PyData.depthKv kvs) (b1 ++ b2) := (hb1.mono (PyData.depthAll_keys_le kvs)).append (hb2.mono (PyData.depthAll_vals_le kvs))
    have hna : a ∉ b1 ++ b2 := not_mem_of_deeper r (by simp only [PyData.depth]; omega) hb
    refine ⟨a :: (b1 ++ b2), ReadAtMost.cons r (by simp only [PyData.depth]; omega) hb, ?_⟩
    simp only [PyData.depth, PyData.shown, PyData.shownKv_eq]
    exact ReprK.dict h1 h2 h3 hsys hna (ReprEntriesK.of_two es.toList _ _
      (k1.more_le (fun b hb => List.mem_append_left _ hb) (PyData.depthAll_keys_le kvs)) (k2.more_le (fun b hb => List.mem_append_right _ hb) (PyData.depthAll_vals_le kvs)))
theorem RdSs.repr : ∀ {vs : List Value} {ds : List PyData}, RdSs h₀ vs ds → PyData.showableAll ds = true → (∀ t ∈ PyData.shownAll ds, t.length ≤ sizeLine) →
    ∃ bs, ReadAtMost h₀ (PyData.depthAll ds) bs ∧ ReprAllK prog w bs h₀ (PyData.depthAll ds) vs (PyData.shownAll ds)
  | _, _, .nil, _, _ => ⟨[], (fun _ h => nomatch h), by simp only [PyData.shownAll]; exact .nil⟩
  | _, _, .cons (d := d) (ds := ds) r rs, hs, hz => by
    have hs' : d.showable = true ∧ PyData.showableAll ds = true := by simpa [PyData.showableAll] using hs
    obtain ⟨b1, hb1, k1⟩ := r.repr hs'.1 (hz _ (by simp only [PyData.shownAll]; exact List.mem_cons_self ..))
    obtain ⟨b2, hb2, k2⟩ := rs.repr hs'.2 (fun t ht => hz t (by simp only [PyData.shownAll]; exact List.mem_cons_of_mem _ ht))
    refine ⟨b1 ++ b2, ?_, ?_⟩
    · intro b hm
      simp only [PyData.depthAll]
      rcases List.mem_append.mp hm with hm | hm
      · obtain ⟨d', as', r', hd'⟩ := hb1 b hm
        exact ⟨d', as', r', Nat.le_trans hd' (Nat.le_max_left _ _)⟩
      · obtain ⟨d', as', r', hd'⟩ := hb2 b hm
        exact ⟨d', as', r', Nat.le_trans hd' (Nat.le_max_right _ _)⟩
    · simp only [PyData.depthAll, PyData.shownAll]
      exact .cons ((k1.more fun b hb => List.mem_append_left _ hb).level_le (Nat.le_max_left _ _)) (k2.more_le (fun b hb => List.mem_append_right _ hb) (Nat.le_max_right _ _))
end
variable {A : Around} {E : Value → Shared → Prop} {s : Shared} {Q : Value → Shared → Prop} {a : Addr} {d : PyData}
end
/-! seen by the hand layer -/
def keyPy : Key → PyData
  | .inl i => .int i
  | .inr x => .str x
mutual
inductive Ea (K : PySem.W.Frag) (H : Hp) : V → PyData → Prop
  | non : Ea K H .non .none
  | bl (b : Bool) : Ea K H (.bl b) (.bool b)
  | int (i : Int) : Ea K H (.int i) (.int i)
  | str (x : Str) : Ea K H (.str x) (.str x)
  | dct {a : Addr} {kvs : List (Key × V)} {ds : List (PyData × PyData)} : H a = some (.dK kvs) → EaKv K H kvs ds → Ea K H (.ref a) (.dict ds)
  | tup {a : Addr} {xs : List V} {ds : List PyData} : SqT K H a xs → EaAll K H xs ds → Ea K H (.ref a) (.tuple ds)
  | lst {a : Addr} {xs : List V} {ds : List PyData} : SqL K H a xs → EaAll K H xs ds → Ea K H (.ref a) (.list ds)
inductive EaAll (K : PySem.W.Frag) (H : Hp) : List V → List PyData → Prop
  | nil : EaAll K H [] []
  | cons {v : V} {vs : List V} {d : PyData} {ds : List PyData} : Ea K H v d → EaAll K H vs ds → EaAll K H (v :: vs) (d :: ds)
inductive EaKv (K : PySem.W.Frag) (H : Hp) : List (Key × V) → List (PyData × PyData) → Prop
  | nil : EaKv K H [] []
  | cons {k : Key} {v : V} {vs : List (Key × V)} {d : PyData} {ds : List (PyData × PyData)} : Ea K H v d → EaKv K H vs ds → EaKv K H ((k, v) :: vs) ((keyPy k, d) :: ds)
end
theorem keyPy_rd {h : Heap} {k : Key} {v : Value} (e : keyIs k v = true) : RdS h v (keyPy k) := by
  rcases keyIs_shape e with ⟨i, t, rfl, rfl⟩ | ⟨x, t, rfl, rfl⟩
  · exact .int i t
  · exact .str x t
section
variable {X : Cx} {pins : List (Addr × Obj)} {σ : L2.St} {H : Hp} {s : Shared}
mutual
theorem Ea.rd (I : L2.Inv X pins σ H s) : ∀ (d : PyData) (v : V) (u : Value), Ea X.K H v d → RelV v u → RdS s.heap u d
  | .none, _, _, h, r => by
    cases h
    cases r
    exact .none
  | .bool b, _, _, h, r => by
    cases h
    cases r
    exact .bool b
  | .int i, _, _, h, r => by
    cases h
    obtain ⟨t, rfl⟩ := r
    exact .int i t
  | .str x, _, _, h, r => by
    cases h
    obtain ⟨t, rfl⟩ := r
    exact .str x t
  | .list ds, _, _, h, r => by
    cases h with
    | lst hs ha =>
      cases r
      obtain ⟨its, rv, ⟨o, n, ho, hc, _, hd⟩, _⟩ := I.list hs
      exact .list ho hc hd (Ea.rdAll I ds _ its ha rv)
  | .tuple ds, _, _, h, r => by
    cases h with
    | tup hs ha =>
      cases r
      obtain ⟨its, rv, ⟨o, ho, hc, n, hd⟩, _⟩ := I.tuple hs
      exact .tuple ho hc hd (Ea.rdAll I ds _ its ha rv)
  | .dict ds, _, _, h, r => by
    cases h with
    | @dct a kvs _ e hk =>
      cases r
      obtain ⟨_, hm, vs, rel, o, es, ep, ho, hc, hd, _, hp, _⟩ := dk_of I.hok e
      obtain ⟨h1, h2⟩ := Ea.rdKv I ds kvs vs es.toList hk rel hp
      exact .dict ho hc.1 hd hm h1 h2
theorem Ea.rdAll (I : L2.Inv X pins σ H s) : ∀ (ds : List PyData) (vs : List V) (us : List Value), EaAll X.K H vs ds → Vals vs us → RdSs s.heap us ds
  | [], _, _, h, r => by
    cases h
    cases r
    exact .nil
  | d :: ds, _, _, h, r => by
    cases h with
    | cons h1 h2 =>
      cases r with
      | cons r1 r2 => exact .cons (Ea.rd I d _ _ h1 r1) (Ea.rdAll I ds _ _ h2 r2)
theorem Ea.rdKv (I : L2.Inv X pins σ H s) : ∀ (ds : List (PyData × PyData)) (kvs : List (Key × V)) (vs : List (Key × Value)) (es : List DictEntry), EaKv X.K H kvs ds → KV kvs vs → Pairs (mixKind X.prog X.w) es vs → RdSs s.heap (es.map (·.key)) (ds.map (·.1)) ∧ RdSs s.heap (es.map (·.val)) (ds.map (·.2))
  | [], _, _, _, h, r, q => by
    cases h
    cases r
    cases q
    exact ⟨.nil, .nil⟩
  | (k, d) :: ds, _, _, _, h, r, q => by
    cases h with
    | cons h1 h2 =>
      cases r with
      | cons r1 r2 =>
        cases q with
        | cons q1 q2 q3 =>
          obtain ⟨i1, i2⟩ := Ea.rdKv I ds _ _ _ h2 r2 q3
          obtain ⟨e1, e2⟩ := r1
          rename_i k0 v0 _ _ _ _ _
          have e1 : k0 = _ := e1
          refine ⟨.cons (keyPy_rd ?_) i1, .cons (Ea.rd I d _ _ h1 ?_) i2⟩
          · show keyIs k0 (DictEntry.key _) = true
            rw [e1]
            exact q1
          · show RelV _ (DictEntry.val _)
            rw [q2]
            exact e2
end
end
/-! the value layer -/
def keyPyD : VL.D → Option PyData
  | .int i => some (.int i)
  | .str x => some (.str x)
  | _ => none
mutual
/-- the data of a value, dicts of plain keys with plain values within -/
def toPyA (s : S) : VL.D → Option PyData
  | .non => some .none
  | .bl b => some (.bool b)
  | .int i => some (.int i)
  | .str x => some (.str x)
  | .tup ds => (toPyAs s ds).map .tuple
  | .lst ds => (toPyAs s ds).map .list
  | .obj n => match s[n]? with
    | some (.dct kvs) => (toPyKv kvs).map .dict
    | _ => none
  | _ => none
def toPyAs (s : S) : List VL.D → Option (List PyData)
  | [] => some []
  | d :: ds => match toPyA s d, toPyAs s ds with
    | some p, some ps => some (p :: ps)
    | _, _ => none
def toPyKv : List (VL.D × VL.D) → Option (List (PyData × PyData))
  | [] => some []
  | (k, v) :: r => match keyPyD k, toPy v, toPyKv r with
    | some a, some b, some c => some ((a, b) :: c)
    | _, _, _ => none
end
section
variable {G : Cg} {ι : Z} {H : Hp} {s : S}
mutual
theorem dp_ea {K : PySem.W.Frag} : ∀ (d : PyData) (v : V), Dp K H v d → Ea K H v d
  | .none, _, h => by cases h; exact .non
  | .bool b, _, h => by cases h; exact .bl b
  | .int i, _, h => by cases h; exact .int i
  | .str x, _, h => by cases h; exact .str x
  | .list ds, _, h => by
    cases h with
    | lst hs ha => exact .lst hs (dp_eas ds _ ha)
  | .tuple ds, _, h => by
    cases h with
    | tup hs ha => exact .tup hs (dp_eas ds _ ha)
  | .dict ds, _, h => by cases h
theorem dp_eas {K : PySem.W.Frag} : ∀ (ds : List PyData) (vs : List V), DpAll K H vs ds → EaAll K H vs ds
  | [], _, h => by cases h; exact .nil
  | d :: ds, _, h => by
    cases h with
    | cons h1 h2 => exact .cons (dp_ea d _ h1) (dp_eas ds _ h2)
end
theorem keyPyD_ok {k : VL.D} {q : Key} {p : PyData} (h1 : keyD k = some q) (h2 : keyPyD k = some p) : p = keyPy q := by
  cases k <;> first | (cases h1; done) | skip
  all_goals (cases h1; cases h2; rfl)
theorem kv_ea (q : Sim G ι H s) : ∀ (kvs : List (VL.D × VL.D)) (ks : List (Key × V)) (ps : List (PyData × PyData)), toPyKv kvs = some ps → Paired (fun (p : VL.D × VL.D) q => keyD p.1 = some q.1 ∧ RelD G ι H p.2 q.2) kvs ks → EaKv G.K H ks ps
  | [], _, _, h, r => by
    cases h
    cases r
    exact .nil
  | (k, v) :: kvs, _, ps, h, r => by
    cases r with
    | @cons _ b _ ks' r1 r2 =>
      obtain ⟨k', v'⟩ := b
      simp only [toPyKv] at h
      split at h
      · rename_i a b c h1 h2 h3
        cases h
        obtain ⟨e1, e2⟩ := r1
        rw [keyPyD_ok e1 h1]
        have hv : toPyS s v = some b := by
          cases v with
          | obj n => simp [toPy] at h2
          | _ => exact h2
        exact .cons (dp_ea _ _ (dp_ofS q e2 hv)) (kv_ea q kvs ks' c h3 r2)
      · cases h
mutual
theorem ea_of (q : Sim G ι H s) : ∀ (d : VL.D) {v : V} {p : PyData}, RelD G ι H d v → toPyA s d = some p → Ea G.K H v p
  | .non, v, p, r, h => by simp only [toPyA, Option.some.injEq] at h; subst h; rw [relN r]; exact .non
  | .bl b, v, p, r, h => by simp only [toPyA, Option.some.injEq] at h; subst h; rw [relB r]; exact .bl b
  | .int b, v, p, r, h => by simp only [toPyA, Option.some.injEq] at h; subst h; rw [relI r]; exact .int b
  | .str b, v, p, r, h => by simp only [toPyA, Option.some.injEq] at h; subst h; rw [relS r]; exact .str b
  | .tup ds, v, p, r, h => by
    simp only [toPyA, Option.map_eq_some_iff] at h
    obtain ⟨ps, hp, rfl⟩ := h
    simp only [RelD] at r
    obtain ⟨a, xs, rfl, h2, h3⟩ := r
    exact .tup h2.sq (eas_of q ds h3 hp)
  | .lst ds, v, p, r, h => by
    simp only [toPyA, Option.map_eq_some_iff] at h
    obtain ⟨ps, hp, rfl⟩ := h
    simp only [RelD] at r
    obtain ⟨a, xs, rfl, h2, h3⟩ := r
    exact .lst (LstAt.sq h2) (eas_of q ds h3 hp)
  | .obj n, v, p, r, h => by
    simp only [toPyA] at h
    split at h
    · rename_i kvs hn
      simp only [Option.map_eq_some_iff] at h
      obtain ⟨ps, hp, rfl⟩ := h
      obtain ⟨a, h1, _, ks, h3, h4⟩ := q.addr hn
      simp only [RelD] at r
      obtain ⟨b, rfl, e⟩ := r
      rw [h1] at e
      cases e
      exact .dct h3 (kv_ea q kvs ks ps hp h4)
    · cases h
  | .scr ds, v, p, r, h => by simp [toPyA] at h
  | .glo n, v, p, r, h => by simp [toPyA] at h
  | .ty n, v, p, r, h => by simp [toPyA] at h
  | .tupF ds, v, p, r, h => by simp [toPyA] at h
  | .adr _, v, p, r, h => by simp [toPyA] at h
  | .exc _ _ _, v, p, r, h => by simp [toPyA] at h
theorem eas_of (q : Sim G ι H s) : ∀ (ds : List VL.D) {vs : List V} {ps : List PyData}, RelDs G ι H ds vs → toPyAs s ds = some ps → EaAll G.K H vs ps
  | [], vs, ps, r, h => by simp only [toPyAs, Option.some.injEq] at h; subst h; simp only [RelDs] at r; subst r; exact .nil
  | d :: ds, vs, ps, r, h => by
    simp only [toPyAs] at h
    split at h
    · rename_i p qs h1 h2
      cases h
      simp only [RelDs] at r
      obtain ⟨x, t, rfl, r1, r2⟩ := r
      exact .cons (ea_of q d r1 h1) (eas_of q ds r2 h2)
    · cases h
end
end
section
variable {X : Cx} {W : WX} {k j : Nat} {tab : List (Str × FM)}
def rReprA (K : PySem.W.Frag) : List V → Hp → VK → Prop := fun xs H Q => ∃ a p, xs = [V.ref a] ∧ Ea K H (.ref a) p ∧ p.showable = true ∧ p.shown.length ≤ sizeLine ∧ p.depth ≤ 60 ∧ Q (.str p.shown) H
/-- repr of any value: data, dicts and lists within, instances, and tuples of data and instances -/
noncomputable def fReprV (tab : List (Str × FM)) : FA := fun xs s => match xs with
  | [d] => (match toPyA s d with
    | some p => if p.showable = true ∧ p.shown.length ≤ sizeLine ∧ p.depth ≤ 60 then .ok (.str p.shown) s else .bad
    | none => fReprN tab [d] s)
  | _ => .bad
def rReprV (X : Cx) (k : Nat) (tab : List (Str × FM)) : List V → Hp → VK → Prop := fun xs H Q => rReprN X k tab xs H Q ∨ rReprA X.K xs H Q
end
end VL
/-! the hook of VL27 with the objects found level by level, those seen in a mask: the top's look takes less time and memory -/
namespace VL
open PySem PySem.Spec PyProof.Rows L2
def addF {β : Type} (k : Nat → List Addr → β) : List Addr → Nat → List Addr → β
  | [], m, acc => k m acc
  | a :: r, m, acc => match Nat.beq (Nat.land (Nat.shiftRight m a) 1) 1 with
    | true => addF k r m acc
    | false => HandSHeadRun.frNat (Nat.lor m (Nat.shiftLeft 1 a)) fun m' => addF k r m' (a :: acc)
def levF {β : Type} (g : Addr → Option Obj) (k : Nat → List Addr → β) : List Addr → Nat → List Addr → β
  | [], m, acc => k m acc
  | a :: r, m, acc => match g a with
    | some o => addF (fun m acc => levF g k r m acc) (He.refsD o) m acc
    | none => levF g k r m acc
def allF (g : Addr → Option Obj) : Nat → List Addr → Nat → List Addr → List Addr
  | 0, _, _, all => all
  | n + 1, fr, m, all => levF g (fun m new => allF g n new m (all ++ new)) fr m []
def asF (g : Addr → Option Obj) (n : Nat) : List Addr := allF g n [mainGlobals] (Nat.shiftLeft 1 mainGlobals) [mainGlobals] ++ [PySem.cStatics]
def obsFG (n : Nat) (fa : List FaV) (fn : List He5.DefA) (g : Addr → Option Obj) : He.AlD := obsV fa fn (He.frG g (asF g n))
def hookF (n : Nat) (fa : List FaV) (fn : List He5.DefA) : PySem.W.Hook where
  α := He.AlD
  obs := fun s => obsFG n fa fn s.heap.get?
  val := fun _ => He5.valA fn
  says := fun _ h => ∃ K : PySem.W.Frag, K.In h ∧ SaysV fa fn K
  of := fun _ _ e => ⟨_, He.frG_in, e⟩
  keeps := fun _ _ _ ⟨K, hK, c⟩ k => ⟨K, PySem.W.Frag.In.keeps hK k, c⟩
theorem obsFG_eq {n : Nat} {fa : List FaV} {fn : List He5.DefA} {g : Addr → Option Obj} {s : Shared} (h : ∀ a, g a = s.heap.get? a) : obsFG n fa fn g = (hookF n fa fn).obs s := by
  have e : g = s.heap.get? := funext h
  rw [e] <;> rfl
end VL
namespace W
open PySem PySem.Spec PyProof.Rows L2 VL
def top (i : Nat) : Stmt := PySem.Challenge.pw_lastofkind_k35_effects_put_together.main.body.getD i (.Pass ⟨0, 0, 0, 0⟩)
end W
namespace Hd
open PySem PySem.Spec PyProof.Rows L2 VL
open W (top)
def d13 : He5.DefA := ⟨atG "is_whole", "is_whole", "is_whole", defArgs (top 13), defBody (top 13), defScope (top 13), [], []⟩
def d14 : He5.DefA := ⟨atG "is_between", "is_between", "is_between", defArgs (top 14), defBody (top 14), defScope (top 14), [], []⟩
def d15 : He5.DefA := ⟨atG "are_states", "are_states", "are_states", defArgs (top 15), defBody (top 15), defScope (top 15), [], []⟩
def d16 : He5.DefA := ⟨atG "is_kind", "is_kind", "is_kind", defArgs (top 16), defBody (top 16), defScope (top 16), [], []⟩
def d17 : He5.DefA := ⟨atG "is_system", "is_system", "is_system", defArgs (top 17), defBody (top 17), defScope (top 17), [], []⟩
def d18 : He5.DefA := ⟨atG "need_system", "need_system", "need_system", defArgs (top 18), defBody (top 18), defScope (top 18), [], []⟩
def d19 : He5.DefA := ⟨atG "is_log", "is_log", "is_log", defArgs (top 19), defBody (top 19), defScope (top 19), [], []⟩
def d20 : He5.DefA := ⟨atG "need_log", "need_log", "need_log", defArgs (top 20), defBody (top 20), defScope (top 20), [], []⟩
def d21 : He5.DefA := ⟨atG "run_from", "run_from", "run_from", defArgs (top 21), defBody (top 21), defScope (top 21), [], []⟩
def d22 : He5.DefA := ⟨atG "paths_of", "paths_of", "paths_of", defArgs (top 22), defBody (top 22), defScope (top 22), [], []⟩
def d23 : He5.DefA := ⟨atG "reached", "reached", "reached", defArgs (top 23), defBody (top 23), defScope (top 23), [], []⟩
def d26 : He5.DefA := ⟨atG "are_moves", "are_moves", "are_moves", defArgs (top 26), defBody (top 26), defScope (top 26), [], []⟩
def d29 : He5.DefA := ⟨atG "_law_run", "_law_run", "_law_run", defArgs (top 29), defBody (top 29), defScope (top 29), [], []⟩
def d30 : He5.DefA := ⟨atG "_law_paths", "_law_paths", "_law_paths", defArgs (top 30), defBody (top 30), defScope (top 30), [], []⟩
def d31 : He5.DefA := ⟨atG "_law_reached", "_law_reached", "_law_reached", defArgs (top 31), defBody (top 31), defScope (top 31), [], []⟩
def d32 : He5.DefA := ⟨atG "_law_draw", "_law_draw", "_law_draw", defArgs (top 32), defBody (top 32), defScope (top 32), [], []⟩
def d33 : He5.DefA := ⟨atG "_law_pick", "_law_pick", "_law_pick", defArgs (top 33), defBody (top 33), defScope (top 33), [], []⟩
def d34 : He5.DefA := ⟨atG "_law_pen", "_law_pen", "_law_pen", defArgs (top 34), defBody (top 34), defScope (top 34), [], []⟩
def d35 : He5.DefA := ⟨atG "_law_cell_at", "_law_cell_at", "_law_cell_at", defArgs (top 35), defBody (top 35), defScope (top 35), [], []⟩
def d36 : He5.DefA := ⟨atG "_law_drawn", "_law_drawn", "_law_drawn", defArgs (top 36), defBody (top 36), defScope (top 36), [], []⟩
def d37 : He5.DefA := ⟨atG "_law_cells", "_law_cells", "_law_cells", defArgs (top 37), defBody (top 37), defScope (top 37), [], []⟩
def d38 : He5.DefA := ⟨atG "_law_marks", "_law_marks", "_law_marks", defArgs (top 38), defBody (top 38), defScope (top 38), [], []⟩
def d39 : He5.DefA := ⟨atG "_law_turns", "_law_turns", "_law_turns", defArgs (top 39), defBody (top 39), defScope (top 39), [], []⟩
def d40 : He5.DefA := ⟨atG "_law_system", "_law_system", "_law_system", defArgs (top 40), defBody (top 40), defScope (top 40), [], []⟩
def d41 : He5.DefA := ⟨atG "_law_log", "_law_log", "_law_log", defArgs (top 41), defBody (top 41), defScope (top 41), [], []⟩
def d42 : He5.DefA := ⟨atG "_law_same", "_law_same", "_law_same", defArgs (top 42), defBody (top 42), defScope (top 42), [], []⟩
def d43 : He5.DefA := ⟨atG "_law_moves", "_law_moves", "_law_moves", defArgs (top 43), defBody (top 43), defScope (top 43), [], []⟩
def d44 : He5.DefA := ⟨atG "_law_seen", "_law_seen", "_law_seen", defArgs (top 44), defBody (top 44), defScope (top 44), [], []⟩
def d45 : He5.DefA := ⟨atG "_law_due", "_law_due", "_law_due", defArgs (top 45), defBody (top 45), defScope (top 45), [], []⟩
def d46 : He5.DefA := ⟨atG "_law_any_moves", "_law_any_moves", "_law_any_moves", defArgs (top 46), defBody (top 46), defScope (top 46), [], []⟩
def d47 : He5.DefA := ⟨atG "_law_behind", "_law_behind", "_law_behind", defArgs (top 47), defBody (top 47), defScope (top 47), [], []⟩
def d48 : He5.DefA := ⟨atG "_law_times", "_law_times", "_law_times", defArgs (top 48), defBody (top 48), defScope (top 48), [], []⟩
def d49 : He5.DefA := ⟨atG "law", "law", "law", defArgs (top 49), defBody (top 49), defScope (top 49), [], []⟩
def d_Effect_init : He5.DefA := ⟨atM "Effect" "__init__", "__init__", "Effect.__init__", defArgs (mst (top 27) 0), defBody (mst (top 27) 0), defScope (mst (top 27) 0), [], []⟩
def d_Effect_behind : He5.DefA := ⟨atM "Effect" "behind", "behind", "Effect.behind", defArgs (mst (top 27) 7), defBody (mst (top 27) 7), defScope (mst (top 27) 7), [], []⟩
def d_Effect_add : He5.DefA := ⟨atM "Effect" "__add__", "__add__", "Effect.__add__", defArgs (mst (top 27) 8), defBody (mst (top 27) 8), defScope (mst (top 27) 8), [], []⟩
def d_Effect_joined : He5.DefA := ⟨atW "Effect" "staticmethod" "joined", "joined", "Effect.joined", defArgs (mst (top 27) 2), defBody (mst (top 27) 2), defScope (mst (top 27) 2), [], []⟩
def d_Effect_system : He5.DefA := ⟨atW "Effect" "property" "system", "system", "Effect.system", defArgs (mst (top 27) 3), defBody (mst (top 27) 3), defScope (mst (top 27) 3), [], []⟩
def d_Effect_moves : He5.DefA := ⟨atW "Effect" "property" "moves", "moves", "Effect.moves", defArgs (mst (top 27) 4), defBody (mst (top 27) 4), defScope (mst (top 27) 4), [], []⟩
def d_Effect_fixed : He5.DefA := ⟨atW "Effect" "property" "fixed", "fixed", "Effect.fixed", defArgs (mst (top 27) 5), defBody (mst (top 27) 5), defScope (mst (top 27) 5), [], []⟩
def d_Effect_call : He5.DefA := ⟨atM "Effect" "__call__", "__call__", "Effect.__call__", defArgs (mst (top 27) 6), defBody (mst (top 27) 6), defScope (mst (top 27) 6), [], []⟩
def d_Effect_mul : He5.DefA := ⟨atM "Effect" "__mul__", "__mul__", "Effect.__mul__", defArgs (mst (top 27) 9), defBody (mst (top 27) 9), defScope (mst (top 27) 9), [], []⟩
def d_Effect_eq : He5.DefA := ⟨atM "Effect" "__eq__", "__eq__", "Effect.__eq__", defArgs (mst (top 27) 10), defBody (mst (top 27) 10), defScope (mst (top 27) 10), [], []⟩
def d_Effect_repr : He5.DefA := ⟨atM "Effect" "__repr__", "__repr__", "Effect.__repr__", defArgs (mst (top 27) 11), defBody (mst (top 27) 11), defScope (mst (top 27) 11), [], []⟩
def fn : List He5.DefA := [d13, d14, d15, d16, d17, d18, d19, d20, d21, d22, d23, d26, d29, d30, d31, d32, d33, d34, d35, d36, d37, d38, d39, d40, d41, d42, d43, d44, d45, d46, d47, d48, d49, d_Effect_init, d_Effect_behind, d_Effect_add, d_Effect_joined, d_Effect_system, d_Effect_moves, d_Effect_fixed, d_Effect_call, d_Effect_mul, d_Effect_eq, d_Effect_repr]
def fa : List FaV := [.fa (.glo "is_whole"), .fa (.glo "is_between"), .fa (.glo "are_states"), .fa (.glo "is_kind"), .fa (.glo "is_system"), .fa (.glo "need_system"), .fa (.glo "is_log"), .fa (.glo "need_log"), .fa (.glo "run_from"), .fa (.glo "paths_of"), .fa (.glo "reached"), .fa (.glo "are_moves"), .fa (.glo "_law_run"), .fa (.glo "_law_paths"), .fa (.glo "_law_reached"), .fa (.glo "_law_draw"), .fa (.glo "_law_pick"), .fa (.glo "_law_pen"), .fa (.glo "_law_cell_at"), .fa (.glo "_law_drawn"), .fa (.glo "_law_cells"), .fa (.glo "_law_marks"), .fa (.glo "_law_turns"), .fa (.glo "_law_system"), .fa (.glo "_law_log"), .fa (.glo "_law_same"), .fa (.glo "_law_moves"), .fa (.glo "_law_seen"), .fa (.glo "_law_due"), .fa (.glo "_law_any_moves"), .fa (.glo "_law_behind"), .fa (.glo "_law_times"), .fa (.glo "law"), .fa (.free "all"), .fa (.free "any"), .fa (.free "dict"), .fa (.free "enumerate"), .fa (.free "int"), .fa (.free "bool"), .fa (.free "isinstance"), .fa (.free "len"), .fa (.free "list"), .fa (.free "max"), .fa (.free "min"), .fa (.free "range"), .fa (.free "repr"), .fa (.free "set"), .fa (.free "sorted"), .fa (.free "str"), .fa (.free "sum"), .fa (.free "tuple"), .fa (.free "zip"), .fa (.free "ValueError"), .fa (.int "MOST_STATES" 6), .fa (.int "MOST_OPERATIONS" 6), .fa (.int "MOST_KIND" 9), .fa (.int "MOST_TIMES" 1000000000000), .fa (.glo "Effect"), .fa (.cls "Effect"), .gen (isiB "Effect"), .gen (mulB "Effect"), .gen (neB "Effect"), .gen (sfB "Effect"), .fa (.noat "Effect" "goals"), .fa (.noat "Effect" "home"), .fa (.noat "Effect" "states"), .fa (.mkr "Effect"), .fa (.meth "Effect" "behind"), .fa (.meth "Effect" "__add__"), .gen (smetB "Effect" "joined"), .cread "Effect", .prop "Effect" "system", .prop "Effect" "moves", .prop "Effect" "fixed", .fa (.meth "Effect" "__call__"), .fa (.meth "Effect" "__mul__"), .fa (.meth "Effect" "__eq__"), .fa (.meth "Effect" "__repr__")]
abbrev R : PySem.W.OpenRow := PySem.W.OpenLaw.row PySem.Challenge.rw_lastofkind_k35_effects_put_together
abbrev hk : PySem.W.Hook := hookF 6 fa fn
def ob (s : PySem.W.SharedT) : He.AlD := obsFG 6 fa fn (HandSHeadRun.getT s)
theorem ob_eq (s : PySem.W.SharedT) : ob s = hk.obs s.abs := obsFG_eq (HandSHeadRun.getT_eq s)
def loose0 : List PySem.Str := ["KindError", "NoSystem", "NoLog", "NoState", "NoMoves", "NoEffect", "NoMatch", "NoNumber", "MOST_STATES", "MOST_OPERATIONS", "MOST_KIND", "is_whole", "is_between", "are_states", "is_kind", "is_system", "need_system", "is_log", "need_log", "run_from", "paths_of", "reached", "MOST_TIMES", "are_moves", "Effect", "_law_run", "_law_paths", "_law_reached", "_law_draw", "_law_pick"]
def loose1 : List PySem.Str := ["_law_pen", "_law_cell_at", "_law_drawn", "_law_cells", "_law_marks", "_law_turns", "_law_system", "_law_log", "_law_same", "_law_moves", "_law_seen", "_law_due", "_law_any_moves", "_law_behind", "_law_times"]
def loose : List PySem.Str := loose0 ++ loose1
theorem run (w : World) : HandSHeadRun.RunEq R (PySem.W.view R.prog [49]) hk ob 40000 loose w := by
  intro os
  kernel_rfl
end Hd
namespace VL
open PySem PySem.Spec PyProof.Rows L2
noncomputable def m_is_whole : FM := mFn 1 (mRet (mAndV (mCall fIsi (mCons (mVar 0) (mCons (mC (.ty "int")) mNil))) (mNotV (mCall fIsi (mCons (mVar 0) (mCons (mC (.ty "bool")) mNil))))))
noncomputable def m_is_between : FM := mFn 3 (mRet (mAndV (mUser m_is_whole (mCons (mVar 0) mNil)) (mChn opLe opLe (mVar 1) (mVar 0) (mVar 2))))
noncomputable def m_are_states : FM := mFn 4 (mRet (mAndV (mCall fIsi (mCons (mVar 0) (mCons (mC (.ty "tuple")) mNil))) (mAndV (mBin opEq (mCall fLen (mCons (mVar 0) mNil)) (mVar 1)) (mCall fAll (mCons (mLc (mSrc (mVar 0)) (.one 3) mYes (mUser m_is_between (mCons (mVar 3) (mCons (mC (.int 0)) (mCons (mBin opSub (mVar 2) (mC (.int 1))) mNil)))) [3]) mNil)))))
noncomputable def m_is_kind : FM := mFn 1 (mRet (mOrV (mBin opIsN (mVar 0) (mC .non)) (mUser m_is_between (mCons (mVar 0) (mCons (mC (.int 0)) (mCons (mC (.int 9)) mNil))))))
noncomputable def m_is_system : FM := mFn 6 (mSeq (mIfS (mOrT (mNotT (mB (mCall fIsi (mCons (mVar 0) (mCons (mC (.ty "tuple")) mNil))))) (mOrT (mB (mBin opNe (mCall fLen (mCons (mVar 0) mNil)) (mC (.int 4)))) (mNotT (mB (mUser m_is_between (mCons (mBin opIx (mVar 0) (mC (.int 0))) (mCons (mC (.int 1)) (mCons (mC (.int 6)) mNil))))))))
(mRet (mC (.bl false)))
mSkip)
(mSeq (mAsg (mVar 0) (gT 4 (gConsM (gN 1) (gConsM (gN 2) (gConsM (gN 3) (gConsM (gN 4) gNilM))))))
(mSeq (mIfS (mOrT (mNotT (mB (mUser m_is_between (mCons (mVar 2) (mCons (mC (.int 0)) (mCons (mBin opSub (mVar 1) (mC (.int 1))) mNil)))))) (mOrT (mNotT (mB (mCall fIsi (mCons (mVar 3) (mCons (mC (.ty "tuple")) mNil))))) (mNotT (mB (mCall fIsi (mCons (mVar 4) (mCons (mC (.ty "tuple")) mNil)))))))
(mRet (mC (.bl false)))
mSkip)
(mSeq (mIfS (mOrT (mNotT (mB (mChn opLe opLe (mC (.int 1)) (mCall fLen (mCons (mVar 3) mNil)) (mC (.int 6))))) (mB (mBin opNe (mCall fLen (mCons (mVar 4) mNil)) (mCall fLen (mCons (mVar 3) mNil)))))
(mRet (mC (.bl false)))
mSkip)
(mRet (mAndV (mCall fAll (mCons (mLc (mSrc (mVar 3)) (.one 5) mYes (mUser m_are_states (mCons (mVar 5) (mCons (mVar 1) (mCons (mVar 1) mNil)))) [5]) mNil)) (mCall fAll (mCons (mLc (mSrc (mVar 4)) (.one 5) mYes (mUser m_is_kind (mCons (mVar 5) mNil)) [5]) mNil))))))))
noncomputable def m_need_system : FM := mFn 1 (mIfS (mNotT (mB (mUser m_is_system (mCons (mVar 0) mNil))))
mBad
mSkip)
noncomputable def m_paths_of : FM := mFn 7 (mSeq (mAsg (mDisp1 (mBin opIx (mVar 0) (mC (.int 1))) (mTup mNil)) (gN 1))
(mSeq (mAsg (mLstO (mCons (mBin opIx (mVar 0) (mC (.int 1))) mNil)) (gN 2))
(mSeq (mAsg (mC (.int 0)) (gN 3))
(mSeq (mWhile (mB (mBin opLt (mVar 3) (mCall fLen (mCons (mVar 2) mNil))))
(mSeq (mAsg (mBin opIx (mVar 2) (mVar 3)) (gN 4))
(mSeq (mAugAdd 3 (mC (.int 1)))
(mFor (mEnum (mCons (mBin opIx (mVar 0) (mC (.int 2))) mNil)) (gT 2 (gConsM (gN 5) (gConsM (gN 6) gNilM)))
(mIfS (mB (mBin opNotInD (mBin opIx (mVar 6) (mVar 4)) (mVar 1)))
(mSeq (mAsg (mBin opAdd (mBin opIxU (mVar 1) (mVar 4)) (mTup (mCons (mVar 5) mNil))) (gIxU (mVar 1) (mBin opIx (mVar 6) (mVar 4))))
(mDrop (mAppend (mVar 2) (mBin opIx (mVar 6) (mVar 4)))))
mSkip)))) 2000)
(mRet (mVar 1))))))
noncomputable def m_reached : FM := mFn 1 (mRet (mCall fTuple (mCons (mCall fSortedU (mCons (mUser m_paths_of (mCons (mVar 0) mNil)) mNil)) mNil)))
noncomputable def m_are_moves : FM := mFn 3 (mSeq (mIfS (mOrT (mNotT (mB (mCall fIsi (mCons (mVar 1) (mCons (mC (.ty "tuple")) mNil))))) (mB (mBin opNe (mCall fLen (mCons (mVar 1) mNil)) (mCall fLen (mCons (mVar 0) mNil)))))
(mRet (mC (.bl false)))
mSkip)
(mRet (mCall fAll (mCons (mLc (mSrc (mVar 1)) (.one 2) mYes (mAndV (mUser m_is_whole (mCons (mVar 2) mNil)) (mBin opIn (mVar 2) (mVar 0))) [2]) mNil))))
noncomputable def m_Effect_init : FM := mFn 4 (mSeq (mDrop (mUser m_need_system (mCons (mVar 1) mNil)))
(mSeq (mAsg (mUser m_reached (mCons (mVar 1) mNil)) (gN 3))
(mSeq (mIfS (mNotT (mB (mUser m_are_moves (mCons (mVar 3) (mCons (mVar 2) mNil)))))
mBad
mSkip)
(mSeq (mSetFld ["Effect"] "home" (mVar 0) (mVar 1))
(mSeq (mSetFld ["Effect"] "states" (mVar 0) (mVar 3))
(mSetFld ["Effect"] "goals" (mVar 0) (mVar 2)))))))
noncomputable def m_Store_init : FM := mFn 2 (mSeq (mDrop (mUser m_need_system (mCons (mVar 1) mNil)))
(mSeq (mSetFld ["Store"] "home" (mVar 0) (mVar 1))
(mSeq (mSetFld ["Store"] "log" (mVar 0) (mTup mNil))
(mSetFld ["Store"] "past" (mVar 0) (mTup mNil)))))
noncomputable def m__wall : FM := mFn 1 (mWhile (mB (mC (.bl true)))
mSkip 2000)
noncomputable def m_is_log : FM := mFn 3 (mRet (mAndV (mCall fIsi (mCons (mVar 1) (mCons (mC (.ty "tuple")) mNil))) (mCall fAll (mCons (mLc (mSrc (mVar 1)) (.one 2) mYes (mUser m_is_between (mCons (mVar 2) (mCons (mC (.int 0)) (mCons (mBin opSub (mCall fLen (mCons (mBin opIx (mVar 0) (mC (.int 2))) mNil)) (mC (.int 1))) mNil)))) [2]) mNil))))
noncomputable def m_need_log : FM := mFn 2 (mIfS (mNotT (mB (mUser m_is_log (mCons (mVar 0) (mCons (mVar 1) mNil)))))
mBad
mSkip)
noncomputable def m_need_operation : FM := mFn 2 (mIfS (mNotT (mB (mUser m_is_between (mCons (mVar 1) (mCons (mC (.int 0)) (mCons (mBin opSub (mCall fLen (mCons (mBin opIx (mVar 0) (mC (.int 2))) mNil)) (mC (.int 1))) mNil))))))
mBad
mSkip)
noncomputable def m_run_from : FM := mFn 4 (mSeq (mFor (mSrc (mVar 2)) (gN 3)
(mAsg (mBin opIx (mBin opIx (mBin opIx (mVar 0) (mC (.int 2))) (mVar 3)) (mVar 1)) (gN 1)))
(mRet (mVar 1)))
noncomputable def m__law_draw : FM := mFn 4 (mSeq (mIfS (mB (mBin opGt (mBin opIx (mVar 0) (mC (.int 0))) (mC (.int 0))))
(mSeq (mAsg (mBin opMod (mBin opIx (mVar 0) (mC (.int 0))) (mVar 1)) (gN 2))
(mSeq (mAsg (mBin opDiv (mBin opIx (mVar 0) (mC (.int 0))) (mVar 1)) (gIx (mVar 0) (mC (.int 0))))
(mRet (mVar 2))))
mSkip)
(mSeq (mAsg (mBin opAdd (mBin opIx (mVar 0) (mC (.int 2))) (mC (.int 1))) (gIx (mVar 0) (mC (.int 2))))
(mSeq (mAsg (mBin opMod (mBin opMul (mBin opAdd (mBin opIx (mVar 0) (mC (.int 1))) (mBin opMul (mC (.int 17)) (mBin opIx (mVar 0) (mC (.int 2))))) (mBin opAdd (mC (.int 69621)) (mBin opMul (mC (.int 2)) (mBin opIx (mVar 0) (mC (.int 2)))))) (mC (.int 2147483647))) (gN 3))
(mSeq (mAsg (mBin opMod (mBin opAdd (mBin opAdd (mBin opMul (mVar 3) (mVar 3)) (mBin opMul (mC (.int 40503)) (mBin opIx (mVar 0) (mC (.int 2))))) (mC (.int 5))) (mC (.int 2147483629))) (gN 3))
(mRet (mBin opMod (mBin opDiv (mBin opMod (mBin opMul (mVar 3) (mC (.int 48271))) (mC (.int 2147483647))) (mC (.int 32))) (mVar 1)))))))
noncomputable def m__law_pick : FM := mFn 2 (mRet (mBin opIx (mVar 1) (mUser m__law_draw (mCons (mVar 0) (mCons (mCall fLen (mCons (mVar 1) mNil)) mNil)))))
noncomputable def m__law_pen : FM := mFn 1 (mRet (mLstO (mCons (mCall fMax2 (mCons (mC (.int 0)) (mCons (mBin opSub (mVar 0) (mBin opPow (mC (.int 10)) (mC (.int 18)))) mNil))) (mCons (mBin opMod (mVar 0) (mC (.int 1000000007))) (mCons (mC (.int 0)) mNil)))))
noncomputable def m__law_cell_at : FM := mFn 2 (mSeq (mIfS (mB (mBin opLt (mVar 1) (mCall fLen (mCons (mVar 0) mNil))))
(mRet (mBin opIx (mVar 0) (mVar 1)))
mSkip)
(mRet (mC (.int 0))))
noncomputable def m__law_drawn : FM := mFn 7 (mSeq (mAsg (mTup (mCons (mBin opAdd (mC (.int 1)) (mUser m__law_draw (mCons (mVar 0) (mCons (mC (.int 6)) mNil)))) (mCons (mBin opAdd (mC (.int 1)) (mUser m__law_draw (mCons (mVar 0) (mCons (mC (.int 5)) mNil)))) mNil))) (gT 2 (gConsM (gN 1) (gConsM (gN 2) gNilM))))
(mSeq (mPar 3 4 (mCons (mLstO mNil) (mCons (mLstO mNil) mNil)))
(mSeq (mFor (mRng1 (mCons (mVar 2) mNil)) (gN 5)
(mSeq (mDrop (mAppend (mVar 3) (mCall fTuple (mCons (mLc (mRng1 (mCons (mVar 1) mNil)) (.one 6) mYes (mUser m__law_draw (mCons (mVar 0) (mCons (mVar 1) mNil))) [6]) mNil))))
(mDrop (mAppend (mVar 4) (mUser m__law_pick (mCons (mVar 0) (mCons (mLst (mCons (mC .non) (mCons (mC (.int 0)) (mCons (mC (.int 1)) (mCons (mC (.int 0)) (mCons (mC (.int 7)) mNil)))))) mNil)))))))
(mRet (mTup (mCons (mVar 1) (mCons (mUser m__law_draw (mCons (mVar 0) (mCons (mVar 1) mNil))) (mCons (mCall fTuple (mCons (mVar 3) mNil)) (mCons (mCall fTuple (mCons (mVar 4) mNil)) mNil)))))))))
noncomputable def m__law_cells : FM := mFn 11 (mSeq (mAsg (mUser m__law_pick (mCons (mVar 0) (mCons (mLst (mCons (mTup (mCons (mC (.int 2)) (mCons (mC (.int 2)) mNil))) (mCons (mTup (mCons (mC (.int 2)) (mCons (mC (.int 3)) mNil))) (mCons (mTup (mCons (mC (.int 3)) (mCons (mC (.int 2)) mNil))) (mCons (mTup (mCons (mC (.int 1)) (mCons (mC (.int 4)) mNil))) (mCons (mTup (mCons (mC (.int 6)) (mCons (mC (.int 1)) mNil))) mNil)))))) mNil))) (gT 2 (gConsM (gN 1) (gConsM (gN 2) gNilM))))
(mSeq (mPar 3 4 (mCons (mLstO mNil) (mCons (mLstO mNil) mNil)))
(mSeq (mAsg (mUser m__law_pick (mCons (mVar 0) (mCons (mLst (mCons (mTup (mCons (mC (.int 0)) (mCons (mC (.int 1)) mNil))) (mCons (mTup (mCons (mC (.int 9)) (mCons (mC (.int 4)) mNil))) (mCons (mTup (mCons (mC (.int 3)) (mCons (mC .non) mNil))) (mCons (mTup (mCons (mC (.int 2)) (mCons (mC (.int 0)) mNil))) mNil))))) mNil))) (gN 5))
(mSeq (mFor (mRng1 (mCons (mBin opAdd (mC (.int 1)) (mUser m__law_draw (mCons (mVar 0) (mCons (mC (.int 6)) mNil)))) mNil)) (gN 6)
(mSeq (mAsg (mUser m__law_draw (mCons (mVar 0) (mCons (mC (.int 2)) mNil))) (gN 7))
(mSeq (mAsg (mUser m__law_draw (mCons (mVar 0) (mCons (mBin opIx (mLst (mCons (mVar 1) (mCons (mVar 2) mNil))) (mVar 7)) mNil))) (gN 8))
(mSeq (mAsg (mLcF finL (mRng1 (mCons (mBin opMul (mVar 1) (mVar 2)) mNil)) (.one 10) mYes (mIf (mB (mBin opEq (mVar 7) (mC (.int 0)))) (mBin opAdd (mBin opMul (mVar 8) (mVar 2)) (mBin opMod (mVar 10) (mVar 2))) (mBin opAdd (mBin opMul (mBin opDiv (mVar 10) (mVar 2)) (mVar 2)) (mVar 8))) [10]) (gN 9))
(mSeq (mDrop (mAppend (mVar 3) (mCall fTuple (mCons (mVar 9) mNil))))
(mDrop (mAppend (mVar 4) (mBin opIx (mVar 5) (mVar 7)))))))))
(mRet (mTup (mCons (mBin opMul (mVar 1) (mVar 2)) (mCons (mUser m__law_draw (mCons (mVar 0) (mCons (mBin opMul (mVar 1) (mVar 2)) mNil))) (mCons (mCall fTuple (mCons (mVar 3) mNil)) (mCons (mCall fTuple (mCons (mVar 4) mNil)) mNil))))))))))
noncomputable def m__law_marks : FM := mFn 12 (mSeq (mPar 1 2 (mCons (mLstO mNil) (mCons (mLstO mNil) mNil)))
(mSeq (mFor (mRng1 (mCons (mBin opAdd (mC (.int 1)) (mUser m__law_draw (mCons (mVar 0) (mCons (mC (.int 5)) mNil)))) mNil)) (gN 3)
(mSeq (mAsg (mTup (mCons (mUser m__law_pick (mCons (mVar 0) (mCons (mLst (mCons (mC (.int 1)) (mCons (mC (.int 2)) (mCons (mC (.int 3)) mNil)))) mNil))) (mCons (mBin opGt (mUser m__law_draw (mCons (mVar 0) (mCons (mC (.int 4)) mNil))) (mC (.int 0))) mNil))) (gT 2 (gConsM (gN 4) (gConsM (gN 5) gNilM))))
(mSeq (mAsg (mLstO mNil) (gN 6))
(mSeq (mFor (mRng1 (mCons (mC (.int 4)) mNil)) (gN 7)
(mSeq (mAsg (mLc (mSrc (mTup (mCons (mC (.int 1)) (mCons (mC (.int 2)) mNil)))) (.one 11) (mB (mBin opEq (mBin opMod (mBin opDiv (mVar 7) (mVar 11)) (mC (.int 2))) (mC (.int 1)))) (mVar 11) [11]) (gN 8))
(mSeq (mAsg (mLc (mSrc (mTup (mCons (mC (.int 1)) (mCons (mC (.int 2)) mNil)))) (.one 11) (mB (mBin opEq (mBin opMod (mBin opDiv (mVar 4) (mVar 11)) (mC (.int 2))) (mC (.int 1)))) (mVar 11) [11]) (gN 9))
(mSeq (mAsg (mLcF finL (mSrc (mTup (mCons (mC (.int 1)) (mCons (mC (.int 2)) mNil)))) (.one 11) (mB (mBin opIn (mVar 11) (mBin opAdd (mVar 8) (mVar 9)))) (mVar 11) [11]) (gN 10))
(mDrop (mAppend (mVar 6) (mIf (mB (mVar 5)) (mCall fSum (mCons (mVar 10) mNil)) (mCall fSum (mCons (mLc (mSrc (mVar 8)) (.one 11) (mB (mBin opNotIn (mVar 11) (mVar 9))) (mVar 11) [11]) mNil)))))))))
(mSeq (mDrop (mAppend (mVar 1) (mCall fTuple (mCons (mVar 6) mNil))))
(mDrop (mAppend (mVar 2) (mUser m__law_pick (mCons (mVar 0) (mCons (mLst (mCons (mC .non) (mCons (mVar 4) (mCons (mC (.int 0)) mNil)))) mNil))))))))))
(mRet (mTup (mCons (mC (.int 4)) (mCons (mUser m__law_draw (mCons (mVar 0) (mCons (mC (.int 4)) mNil))) (mCons (mCall fTuple (mCons (mVar 1) mNil)) (mCons (mCall fTuple (mCons (mVar 2) mNil)) mNil))))))))
noncomputable def m__law_turns : FM := mFn 9 (mSeq (mAsg (mTup (mCons (mBin opAdd (mC (.int 2)) (mUser m__law_draw (mCons (mVar 0) (mCons (mC (.int 5)) mNil)))) (mCons (mLstO mNil) (mCons (mLstO mNil) mNil)))) (gT 3 (gConsM (gN 1) (gConsM (gN 2) (gConsM (gN 3) gNilM)))))
(mSeq (mFor (mRng1 (mCons (mBin opAdd (mC (.int 1)) (mUser m__law_draw (mCons (mVar 0) (mCons (mC (.int 5)) mNil)))) mNil)) (gN 4)
(mSeq (mAsg (mTup (mCons (mUser m__law_draw (mCons (mVar 0) (mCons (mC (.int 4)) mNil))) (mCons (mUser m__law_draw (mCons (mVar 0) (mCons (mVar 1) mNil))) mNil))) (gT 2 (gConsM (gN 5) (gConsM (gN 6) gNilM))))
(mSeq (mAsg (mLcF finL (mRng1 (mCons (mVar 1) mNil)) (.one 8) mYes (mBin opMod (mBin opAdd (mVar 8) (mVar 6)) (mVar 1)) [8]) (gN 7))
(mSeq (mIfS (mB (mBin opEq (mVar 5) (mC (.int 1))))
(mAsg (mLcF finL (mRng1 (mCons (mVar 1) mNil)) (.one 8) mYes (mCall fMax2 (mCons (mVar 8) (mCons (mVar 6) mNil))) [8]) (gN 7))
mSkip)
(mSeq (mIfS (mB (mBin opEq (mVar 5) (mC (.int 2))))
(mAsg (mLcF finL (mRng1 (mCons (mVar 1) mNil)) (.one 8) mYes (mVar 6) [8]) (gN 7))
mSkip)
(mSeq (mIfS (mB (mBin opEq (mVar 5) (mC (.int 3))))
(mAsg (mListRg (mVar 1)) (gN 7))
mSkip)
(mSeq (mDrop (mAppend (mVar 2) (mCall fTuple (mCons (mVar 7) mNil))))
(mDrop (mAppend (mVar 3) (mUser m__law_pick (mCons (mVar 0) (mCons (mLst (mCons (mC .non) (mCons (mVar 5) (mCons (mC (.int 5)) mNil)))) mNil))))))))))))
(mRet (mTup (mCons (mVar 1) (mCons (mUser m__law_draw (mCons (mVar 0) (mCons (mVar 1) mNil))) (mCons (mCall fTuple (mCons (mVar 2) mNil)) (mCons (mCall fTuple (mCons (mVar 3) mNil)) mNil))))))))
noncomputable def m__law_system : FM := mFn 10 (mSeq (mAsg (mUser m__law_draw (mCons (mVar 0) (mCons (mC (.int 6)) mNil))) (gN 1))
(mSeq (mIfS (mB (mBin opEq (mVar 1) (mC (.int 0))))
(mRet (mUser m__law_drawn (mCons (mVar 0) mNil)))
mSkip)
(mSeq (mAsg (mIf (mB (mBin opLt (mVar 1) (mC (.int 3)))) (mUser m__law_cells (mCons (mVar 0) mNil)) (mIf (mB (mBin opEq (mVar 1) (mC (.int 3)))) (mUser m__law_marks (mCons (mVar 0) mNil)) (mUser m__law_turns (mCons (mVar 0) mNil)))) (gN 2))
(mSeq (mIfS (mB (mBin opGt (mUser m__law_draw (mCons (mVar 0) (mCons (mC (.int 3)) mNil))) (mC (.int 0))))
(mRet (mVar 2))
mSkip)
(mSeq (mAsg (mVar 2) (gT 4 (gConsM (gN 3) (gConsM (gN 4) (gConsM (gN 5) (gConsM (gN 6) gNilM))))))
(mSeq (mPar 7 8 (mCons (mUser m__law_draw (mCons (mVar 0) (mCons (mCall fLen (mCons (mVar 5) mNil)) mNil))) (mCons (mUser m__law_draw (mCons (mVar 0) (mCons (mVar 3) mNil))) mNil)))
(mSeq (mAsg (mBin opAdd (mBin opAdd (mSl (mBin opIx (mVar 5) (mVar 7)) mNo (mPart (mVar 8))) (mTup (mCons (mUser m__law_draw (mCons (mVar 0) (mCons (mVar 3) mNil))) mNil))) (mSl (mBin opIx (mVar 5) (mVar 7)) (mPart (mBin opAdd (mVar 8) (mC (.int 1)))) mNo)) (gN 9))
(mRet (mTup (mCons (mVar 3) (mCons (mVar 4) (mCons (mBin opAdd (mBin opAdd (mSl (mVar 5) mNo (mPart (mVar 7))) (mTup (mCons (mVar 9) mNil))) (mSl (mVar 5) (mPart (mBin opAdd (mVar 7) (mC (.int 1)))) mNo)) (mCons (mVar 6) mNil)))))))))))))
noncomputable def m__law_same : FM := mFn 2 (mRet (mBin opEq (mCall fRepr (mCons (mVar 0) mNil)) (mCall fRepr (mCons (mVar 1) mNil))))
noncomputable def m__law_is_whole : FM := mFn 3 (mRet (mAndV (mCall fIsi (mCons (mVar 0) (mCons (mC (.ty "int")) mNil))) (mAndV (mNotV (mCall fIsi (mCons (mVar 0) (mCons (mC (.ty "bool")) mNil)))) (mChn opLe opLe (mVar 1) (mVar 0) (mVar 2)))))
noncomputable def m__law_odd : FM := mFn 2 (mSeq (mAsg (mLst (mCons (mC .non) (mCons (mC (.bl true)) (mCons (mC (.bl false)) (mCons (mUn opNeg (mC (.int 1))) (mCons (mC (.int 0)) (mCons (mC (.int 1)) (mCons (mC (.int 2)) (mCons (mC (.int 5)) (mCons (mC (.int 6)) (mCons (mBin opPow (mC (.int 10)) (mC (.int 12))) (mCons (mC (.str "")) (mCons (mC (.str "0")) (mCons (mTup mNil) (mCons (mLst mNil) (mCons mNewK (mCons (mTup (mCons (mC (.int 0)) mNil)) (mCons (mLst (mCons (mC (.int 0)) mNil)) (mCons (mTup (mCons (mC (.int 0)) (mCons (mC (.int 0)) mNil))) (mCons (mTup (mCons (mC (.int 0)) (mCons (mTup (mCons (mC (.int 0)) (mCons (mC (.int 0)) mNil))) mNil))) (mCons (mTup (mCons (mC (.int 1)) mNil)) mNil))))))))))))))))))))) (gN 1))
(mSeq (mAsg (mBin opAdd (mVar 1) (mLst (mCons (mTup (mCons (mC (.int 0)) (mCons (mTup mNil) mNil))) (mCons (mTup (mCons (mC (.int 0)) (mCons (mTup (mCons (mC (.int 0)) mNil)) mNil))) (mCons (mTup (mCons (mC (.int 1)) (mCons (mTup (mCons (mC (.int 0)) (mCons (mC (.int 0)) mNil))) mNil))) (mCons (mTup (mCons (mC (.int 0)) (mCons (mC (.int 0)) (mCons (mC (.int 0)) mNil)))) (mCons (mTup (mCons (mTup (mCons (mC (.int 0)) mNil)) (mCons (mC (.int 0)) mNil))) (mCons (mTup (mCons (mC (.bl true)) mNil)) (mCons (mTup (mCons (mC (.int 0)) (mCons (mTup (mCons (mC (.bl true)) (mCons (mC (.int 0)) mNil))) mNil))) (mCons (mTup (mCons (mC (.str "0")) mNil)) (mCons (mTup (mCons (mC .non) mNil)) mNil))))))))))) (gN 1))
(mSeq (mAsg (mBin opAdd (mVar 1) (mLst (mCons (mTup (mCons (mC (.int 1)) (mCons (mC (.int 0)) (mCons (mTup (mCons (mTup (mCons (mC (.int 0)) mNil)) mNil)) (mCons (mTup (mCons (mC (.int 0)) mNil)) mNil))))) (mCons (mTup (mCons (mC (.int 0)) (mCons (mLst (mCons (mC (.int 0)) (mCons (mC (.int 0)) mNil))) mNil))) (mCons (mLst (mCons (mC (.int 0)) (mCons (mTup (mCons (mC (.int 0)) (mCons (mC (.int 0)) mNil))) mNil))) (mCons (mTup (mCons (mC (.bl false)) (mCons (mTup (mCons (mC (.int 0)) (mCons (mC (.int 0)) mNil))) mNil))) (mCons (mTup (mCons (mC (.int 0)) (mCons (mTup (mCons (mC (.int 0)) (mCons (mC (.int 0)) (mCons (mC (.int 0)) mNil)))) mNil))) (mCons (mDisp1 (mC (.int 0)) (mTup mNil)) mNil)))))))) (gN 1))
(mRet (mUser m__law_pick (mCons (mVar 0) (mCons (mVar 1) mNil)))))))
noncomputable def m_run : FM := mFn 3 (mSeq (mDrop (mUser m_need_system (mCons (mVar 0) mNil)))
(mSeq (mIfS (mNotT (mB (mUser m_is_between (mCons (mVar 1) (mCons (mC (.int 0)) (mCons (mBin opSub (mBin opIx (mVar 0) (mC (.int 0))) (mC (.int 1))) mNil))))))
mBad
mSkip)
(mSeq (mDrop (mUser m_need_log (mCons (mVar 0) (mCons (mVar 2) mNil))))
(mRet (mUser m_run_from (mCons (mVar 0) (mCons (mVar 1) (mCons (mVar 2) mNil))))))))
noncomputable def m_outcome_of : FM := mFn 2 (mRet (mUser m_run_from (mCons (mVar 0) (mCons (mBin opIx (mVar 0) (mC (.int 1))) (mCons (mVar 1) mNil)))))
noncomputable def m_outcome : FM := mFn 2 (mSeq (mDrop (mUser m_need_system (mCons (mVar 0) mNil)))
(mSeq (mDrop (mUser m_need_log (mCons (mVar 0) (mCons (mVar 1) mNil))))
(mRet (mUser m_outcome_of (mCons (mVar 0) (mCons (mVar 1) mNil))))))
noncomputable def m__law_log : FM := mFn 4 (mRet (mCall fTuple (mCons (mLc (mRng1 (mCons (mUser m__law_draw (mCons (mVar 0) (mCons (mBin opAdd (mVar 2) (mC (.int 1))) mNil))) mNil)) (.one 3) mYes (mUser m__law_draw (mCons (mVar 0) (mCons (mCall fLen (mCons (mBin opIx (mVar 1) (mC (.int 2))) mNil)) mNil))) [3]) mNil)))
noncomputable def m__law_run : FM := mFn 4 (mSeq (mFor (mSrc (mVar 2)) (gN 3)
(mAsg (mBin opIx (mBin opIx (mBin opIx (mVar 0) (mC (.int 2))) (mVar 3)) (mVar 1)) (gN 1)))
(mRet (mVar 1)))
noncomputable def m_reachable : FM := mFn 1 (mSeq (mDrop (mUser m_need_system (mCons (mVar 0) mNil)))
(mRet (mUser m_reached (mCons (mVar 0) mNil))))
noncomputable def m_path : FM := mFn 3 (mSeq (mDrop (mUser m_need_system (mCons (mVar 0) mNil)))
(mSeq (mAsg (mUser m_paths_of (mCons (mVar 0) mNil)) (gN 2))
(mSeq (mIfS (mOrT (mNotT (mB (mUser m_is_whole (mCons (mVar 1) mNil)))) (mB (mBin opNotInD (mVar 1) (mVar 2))))
mBad
mSkip)
(mRet (mBin opIxU (mVar 2) (mVar 1))))))
noncomputable def m_first_apart : FM := mFn 4 (mSeq (mFor (mSrc (mUser m_reached (mCons (mVar 0) mNil))) (gN 3)
(mIfS (mB (mBin opNe (mUser m_run_from (mCons (mVar 0) (mCons (mVar 3) (mCons (mVar 1) mNil)))) (mUser m_run_from (mCons (mVar 0) (mCons (mVar 3) (mCons (mVar 2) mNil))))))
(mRet (mVar 3))
mSkip))
(mRet (mC .non)))
noncomputable def m_apart : FM := mFn 3 (mSeq (mDrop (mUser m_need_system (mCons (mVar 0) mNil)))
(mSeq (mDrop (mUser m_need_log (mCons (mVar 0) (mCons (mVar 1) mNil))))
(mSeq (mDrop (mUser m_need_log (mCons (mVar 0) (mCons (mVar 2) mNil))))
(mRet (mUser m_first_apart (mCons (mVar 0) (mCons (mVar 1) (mCons (mVar 2) mNil))))))))
noncomputable def m__law_paths : FM := mFn 7 (mSeq (mPar 1 2 (mCons (mLstO (mCons (mTup (mCons (mBin opIx (mVar 0) (mC (.int 1))) (mCons (mTup mNil) mNil))) mNil)) (mCons (mC (.int 0)) mNil)))
(mSeq (mAsg (mLstO (mCons (mBin opIx (mVar 0) (mC (.int 1))) mNil)) (gN 3))
(mSeq (mWhile (mB (mBin opLt (mVar 2) (mCall fLen (mCons (mVar 1) mNil))))
(mSeq (mFor (mEnum (mCons (mBin opIx (mVar 0) (mC (.int 2))) mNil)) (gT 2 (gConsM (gN 4) (gConsM (gN 5) gNilM)))
(mSeq (mAsg (mBin opIx (mVar 5) (mBin opIx (mBin opIx (mVar 1) (mVar 2)) (mC (.int 0)))) (gN 6))
(mIfS (mB (mBin opNotIn (mVar 6) (mVar 3)))
(mSeq (mDrop (mAppend (mVar 3) (mVar 6)))
(mDrop (mAppend (mVar 1) (mTup (mCons (mVar 6) (mCons (mBin opAdd (mBin opIx (mBin opIx (mVar 1) (mVar 2)) (mC (.int 1))) (mTup (mCons (mVar 4) mNil))) mNil))))))
mSkip)))
(mAsg (mBin opAdd (mVar 2) (mC (.int 1))) (gN 2))) 2000)
(mRet (mVar 1)))))
noncomputable def m__law_reached : FM := mFn 3 (mRet (mCall fSorted (mCons (mLc (mSrc (mUser m__law_paths (mCons (mVar 0) mNil))) (.many [1, 2]) mYes (mVar 1) [1, 2]) mNil)))
noncomputable def m_has_later : FM := mFn 5 (mSeq (mAsg (mBin opIx (mBin opIx (mVar 0) (mC (.int 3))) (mBin opIx (mVar 1) (mVar 2))) (gN 3))
(mRet (mAndV (mBin opNotN (mVar 3) (mC .non)) (mBin opIn (mVar 3) (mLc (mSrc (mSl (mVar 1) (mPart (mBin opAdd (mVar 2) (mC (.int 1)))) mNo)) (.one 4) mYes (mBin opIx (mBin opIx (mVar 0) (mC (.int 3))) (mVar 4)) [4])))))
noncomputable def m_compacted_log : FM := mFn 4 (mRet (mCall fTuple (mCons (mLc (mEnum (mCons (mVar 1) mNil)) (.many [2, 3]) (mNotT (mB (mUser m_has_later (mCons (mVar 0) (mCons (mVar 1) (mCons (mVar 2) mNil)))))) (mVar 3) [2, 3]) mNil)))
noncomputable def m_compacted : FM := mFn 2 (mSeq (mDrop (mUser m_need_system (mCons (mVar 0) mNil)))
(mSeq (mDrop (mUser m_need_log (mCons (mVar 0) (mCons (mVar 1) mNil))))
(mRet (mUser m_compacted_log (mCons (mVar 0) (mCons (mVar 1) mNil))))))
noncomputable def m_is_form : FM := mFn 4 (mSeq (mAsg (mLcF finL (mSrc (mVar 1)) (.one 3) mYes (mBin opIx (mBin opIx (mVar 0) (mC (.int 3))) (mVar 3)) [3]) (gN 2))
(mSeq (mIfS (mOrT (mB (mBin opNotIn (mCall fLen (mCons (mVar 1) mNil)) (mTup (mCons (mC (.int 2)) (mCons (mC (.int 3)) mNil))))) (mOrT (mB (mBin opIsN (mBin opIx (mVar 2) (mC (.int 0))) (mC .non))) (mB (mBin opNe (mBin opIx (mVar 2) (mC (.int 0))) (mBin opIx (mVar 2) (mUn opNeg (mC (.int 1))))))))
(mRet (mC (.bl false)))
mSkip)
(mRet (mOrV (mBin opEq (mCall fLen (mCons (mVar 1) mNil)) (mC (.int 2))) (mBin opNe (mBin opIx (mVar 2) (mC (.int 1))) (mBin opIx (mVar 2) (mC (.int 0))))))))
noncomputable def m_forms_of : FM := mFn 7 (mSeq (mAsg (mListRg (mCall fLen (mCons (mBin opIx (mVar 0) (mC (.int 2))) mNil))) (gN 1))
(mSeq (mAsg (mLcN finL (mSrc (mVar 1)) (.one 3) mYes (bIn (mSrc (mVar 1)) (.one 4) mYes (bApp (mTup (mCons (mVar 3) (mCons (mVar 4) mNil)))) [4]) [3, 4]) (gN 2))
(mSeq (mAsg (mBin opAdd (mVar 2) (mLcN finL (mSrc (mVar 1)) (.one 3) mYes (bIn (mSrc (mVar 1)) (.one 6) mYes (bIn (mSrc (mVar 1)) (.one 4) mYes (bApp (mTup (mCons (mVar 3) (mCons (mVar 6) (mCons (mVar 4) mNil))))) [4]) [6, 4]) [3, 6, 4])) (gN 2))
(mRet (mLc (mSrc (mVar 2)) (.one 5) (mB (mUser m_is_form (mCons (mVar 0) (mCons (mVar 5) mNil)))) (mVar 5) [5])))))
noncomputable def m_is_faulty : FM := mFn 3 (mRet (mBin opNe (mUser m_run_from (mCons (mVar 0) (mCons (mVar 1) (mCons (mVar 2) mNil)))) (mUser m_run_from (mCons (mVar 0) (mCons (mVar 1) (mCons (mSl (mVar 2) (mPart (mC (.int 1))) mNo) mNil))))))
noncomputable def m_fault_of : FM := mFn 4 (mSeq (mAsg (mUser m_forms_of (mCons (mVar 0) mNil)) (gN 1))
(mSeq (mFor (mSrc (mUser m_reached (mCons (mVar 0) mNil))) (gN 2)
(mFor (mSrc (mVar 1)) (gN 3)
(mIfS (mB (mUser m_is_faulty (mCons (mVar 0) (mCons (mVar 2) (mCons (mVar 3) mNil)))))
(mRet (mTup (mCons (mVar 2) (mCons (mVar 3) mNil))))
mSkip)))
(mRet (mC .non))))
noncomputable def m_fault : FM := mFn 1 (mSeq (mDrop (mUser m_need_system (mCons (mVar 0) mNil)))
(mRet (mUser m_fault_of (mCons (mVar 0) mNil))))
noncomputable def m_shows_fault : FM := mFn 4 (mSeq (mDrop (mUser m_need_system (mCons (mVar 0) mNil)))
(mSeq (mIfS (mB (mBin opIsN (mVar 1) (mC .non)))
(mRet (mBin opIsN (mUser m_fault_of (mCons (mVar 0) mNil)) (mC .non)))
mSkip)
(mSeq (mIfS (mOrT (mNotT (mB (mCall fIsi (mCons (mVar 1) (mCons (mC (.ty "tuple")) mNil))))) (mOrT (mB (mBin opNe (mCall fLen (mCons (mVar 1) mNil)) (mC (.int 2)))) (mOrT (mNotT (mB (mUser m_is_whole (mCons (mBin opIx (mVar 1) (mC (.int 0))) mNil)))) (mNotT (mB (mUser m_is_log (mCons (mVar 0) (mCons (mBin opIx (mVar 1) (mC (.int 1))) mNil))))))))
(mRet (mC (.bl false)))
mSkip)
(mSeq (mAsg (mVar 1) (gT 2 (gConsM (gN 2) (gConsM (gN 3) gNilM))))
(mRet (mAndV (mBin opIn (mVar 2) (mUser m_reached (mCons (mVar 0) mNil))) (mAndV (mUser m_is_form (mCons (mVar 0) (mCons (mVar 3) mNil))) (mUser m_is_faulty (mCons (mVar 0) (mCons (mVar 2) (mCons (mVar 3) mNil)))))))))))
noncomputable def m_is_changed : FM := mFn 2 (mRet (mBin opNe (mUser m_outcome_of (mCons (mVar 0) (mCons (mVar 1) mNil))) (mUser m_outcome_of (mCons (mVar 0) (mCons (mUser m_compacted_log (mCons (mVar 0) (mCons (mVar 1) mNil))) mNil)))))
noncomputable def m_changed : FM := mFn 5 (mSeq (mDrop (mUser m_need_system (mCons (mVar 0) mNil)))
(mSeq (mAsg (mUser m_fault_of (mCons (mVar 0) mNil)) (gN 1))
(mSeq (mIfS (mB (mBin opIsN (mVar 1) (mC .non)))
(mRet (mC .non))
mSkip)
(mSeq (mAsg (mVar 1) (gT 2 (gConsM (gN 2) (gConsM (gN 3) gNilM))))
(mSeq (mAsg (mBin opIxU (mUser m_paths_of (mCons (mVar 0) mNil)) (mVar 2)) (gN 4))
(mRet (mIf (mB (mUser m_is_changed (mCons (mVar 0) (mCons (mBin opAdd (mVar 4) (mVar 3)) mNil)))) (mBin opAdd (mVar 4) (mVar 3)) (mBin opAdd (mVar 4) (mSl (mVar 3) (mPart (mC (.int 1))) mNo)))))))))
noncomputable def m_shows_changed : FM := mFn 2 (mSeq (mDrop (mUser m_need_system (mCons (mVar 0) mNil)))
(mSeq (mIfS (mB (mBin opIsN (mVar 1) (mC .non)))
(mRet (mBin opIsN (mUser m_fault_of (mCons (mVar 0) mNil)) (mC .non)))
mSkip)
(mRet (mAndV (mUser m_is_log (mCons (mVar 0) (mCons (mVar 1) mNil))) (mUser m_is_changed (mCons (mVar 0) (mCons (mVar 1) mNil)))))))
noncomputable def m__law_no_logs : FM := mFn 2 (mSeq (mAsg (mLst (mCons (mC .non) (mCons (mC (.bl true)) (mCons (mC (.int 0)) (mCons (mC (.str "")) (mCons (mC (.str "0")) (mCons (mLst mNil) (mCons (mLst (mCons (mC (.int 0)) mNil)) (mCons mNewK (mCons (mTup (mCons (mVar 0) mNil)) (mCons (mTup (mCons (mUn opNeg (mC (.int 1))) mNil)) (mCons (mTup (mCons (mC (.int 0)) (mCons (mVar 0) mNil))) (mCons (mTup (mCons (mC (.bl true)) mNil)) (mCons (mTup (mCons (mC (.int 0)) (mCons (mC (.bl false)) mNil))) (mCons (mTup (mCons (mC .non) mNil)) (mCons (mTup (mCons (mC (.str "0")) mNil)) mNil)))))))))))))))) (gN 1))
(mRet (mBin opAdd (mVar 1) (mLst (mCons (mTup (mCons (mTup (mCons (mC (.int 0)) mNil)) mNil)) (mCons (mTup (mCons (mLst mNil) mNil)) (mCons (mTup (mCons (mTup mNil) mNil)) (mCons (mTup (mCons (mBin opPow (mC (.int 10)) (mC (.int 12))) mNil)) (mCons (mTup (mCons (mC (.int 0)) (mCons (mC (.int 0)) (mCons (mUn opNeg (mC (.int 1))) mNil)))) (mCons (mTup (mCons (mC (.int 0)) (mCons (mC (.int 6)) mNil))) mNil))))))))))
noncomputable def m__law_compacted : FM := mFn 7 (mSeq (mAsg (mLstO mNil) (gN 2))
(mSeq (mFor (mEnum (mCons (mVar 1) mNil)) (gT 2 (gConsM (gN 3) (gConsM (gN 4) gNilM)))
(mSeq (mAsg (mBin opIx (mBin opIx (mVar 0) (mC (.int 3))) (mVar 4)) (gN 5))
(mIfS (mOrT (mB (mBin opIsN (mVar 5) (mC .non))) (mB (mBin opNotIn (mVar 5) (mLc (mSrc (mSl (mVar 1) (mPart (mBin opAdd (mVar 3) (mC (.int 1)))) mNo)) (.one 6) mYes (mBin opIx (mBin opIx (mVar 0) (mC (.int 3))) (mVar 6)) [6]))))
(mDrop (mAppend (mVar 2) (mVar 4)))
mSkip)))
(mRet (mCall fTuple (mCons (mVar 2) mNil)))))
noncomputable def m__law_logs : FM := mFn 8 (mSeq (mPar 2 3 (mCons (mLst (mCons (mTup mNil) mNil)) (mCons (mLst (mCons (mTup mNil) mNil)) mNil)))
(mSeq (mFor (mRng1 (mCons (mVar 1) mNil)) (gN 4)
(mSeq (mAsg (mLstO mNil) (gN 5))
(mSeq (mFor (mSrc (mVar 3)) (gN 6)
(mDrop (mExtend (mVar 5) (mLc (mRng1 (mCons (mVar 0) mNil)) (.one 7) mYes (mBin opAdd (mVar 6) (mTup (mCons (mVar 7) mNil))) [7]))))
(mPar 2 3 (mCons (mBin opAdd (mVar 2) (mVar 5)) (mCons (mVar 5) mNil))))))
(mRet (mVar 2))))
noncomputable def m__law_is_form : FM := mFn 4 (mSeq (mIfS (mB (mBin opNotIn (mCall fLen (mCons (mVar 1) mNil)) (mTup (mCons (mC (.int 2)) (mCons (mC (.int 3)) mNil)))))
(mRet (mC (.bl false)))
mSkip)
(mSeq (mPar 2 3 (mCons (mBin opIx (mBin opIx (mVar 0) (mC (.int 3))) (mBin opIx (mVar 1) (mC (.int 0)))) (mCons (mBin opIx (mBin opIx (mVar 0) (mC (.int 3))) (mBin opIx (mVar 1) (mUn opNeg (mC (.int 1))))) mNil)))
(mSeq (mIfS (mOrT (mB (mBin opIsN (mVar 2) (mC .non))) (mB (mBin opNe (mVar 2) (mVar 3))))
(mRet (mC (.bl false)))
mSkip)
(mRet (mOrV (mBin opEq (mCall fLen (mCons (mVar 1) mNil)) (mC (.int 2))) (mBin opNe (mBin opIx (mBin opIx (mVar 0) (mC (.int 3))) (mBin opIx (mVar 1) (mC (.int 1)))) (mVar 2)))))))
noncomputable def m__law_fault : FM := mFn 4 (mSeq (mAsg (mLcF finL (mSrc (mUser m__law_logs (mCons (mCall fLen (mCons (mBin opIx (mVar 0) (mC (.int 2))) mNil)) (mCons (mC (.int 3)) mNil)))) (.one 1) (mB (mUser m__law_is_form (mCons (mVar 0) (mCons (mVar 1) mNil)))) (mVar 1) [1]) (gN 2))
(mSeq (mFor (mSrc (mUser m__law_reached (mCons (mVar 0) mNil))) (gN 3)
(mFor (mSrc (mVar 2)) (gN 1)
(mIfS (mB (mBin opNe (mUser m__law_run (mCons (mVar 0) (mCons (mVar 3) (mCons (mVar 1) mNil)))) (mUser m__law_run (mCons (mVar 0) (mCons (mVar 3) (mCons (mSl (mVar 1) (mPart (mC (.int 1))) mNo) mNil))))))
(mRet (mTup (mCons (mVar 3) (mCons (mVar 1) mNil))))
mSkip)))
(mRet (mC .non))))
noncomputable def m__law_is_log : FM := mFn 3 (mSeq (mIfS (mNotT (mB (mCall fIsi (mCons (mVar 1) (mCons (mC (.ty "tuple")) mNil)))))
(mRet (mC (.bl false)))
mSkip)
(mRet (mBin opEq (mLc (mSrc (mVar 1)) (.one 2) (mNotT (mB (mUser m__law_is_whole (mCons (mVar 2) (mCons (mC (.int 0)) (mCons (mBin opSub (mCall fLen (mCons (mBin opIx (mVar 0) (mC (.int 2))) mNil)) (mC (.int 1))) mNil)))))) (mC (.int 1)) [2]) (mLst mNil))))
noncomputable def m_Unlike_init : FM := mFn 2 (mSetFld ["Unlike"] "operation" (mVar 0) (mVar 1))
noncomputable def m_Unlike_call : FM := mFn 2 (mRet (mBin opNe (mBin opIx (mFld ["Unlike"] "operation" (mVar 0)) (mBin opIx (mVar 1) (mC (.int 0)))) (mBin opIx (mFld ["Unlike"] "operation" (mVar 0)) (mBin opIx (mVar 1) (mC (.int 1))))))
noncomputable def m_longer : FM := mFn 10 (mSeq (mAsg mNewT (gN 2))
(mSeq (mFor (mItems (mVar 1)) (gT 2 (gConsM (gT 2 (gConsM (gN 3) (gConsM (gN 4) gNilM))) (gConsM (gN 5) gNilM)))
(mFor (mEnum (mCons (mBin opIx (mVar 0) (mC (.int 2))) mNil)) (gT 2 (gConsM (gN 6) (gConsM (gN 7) gNilM)))
(mSeq (mPar 8 9 (mCons (mTup (mCons (mBin opIx (mVar 7) (mVar 3)) (mCons (mBin opIx (mVar 7) (mVar 4)) mNil))) (mCons (mBin opAdd (mVar 5) (mTup (mCons (mVar 6) mNil))) mNil)))
(mAsg (mCall fMin2T (mCons (mGet2 (mVar 2) (mVar 8) (mVar 9)) (mCons (mVar 9) mNil))) (gIxU (mVar 2) (mVar 8))))))
(mRet (mVar 2))))
noncomputable def m_first_log : FM := mFn 8 (mSeq (mAsg (mTup (mCons (mDcT (mSrc (mVar 1)) (.one 6) mYes (mVar 6) (mTup mNil) [6]) (mCons (mLst mNil) mNil))) (gT 2 (gConsM (gN 3) (gConsM (gN 4) gNilM))))
(mSeq (mWhile (mB (mBin opNeE (mVar 3) mNewT))
(mSeq (mAsg (mLcF finL (mItems (mVar 3)) (.many [6, 7]) (mB (mCallI [("Unlike", m_Unlike_call)] (mVar 2) (mCons (mVar 6) mNil))) (mVar 7) [6, 7]) (gN 5))
(mSeq (mIfS (mB (mBin opNe (mVar 5) (mLst mNil)))
(mRet (mCall fMinT (mCons (mVar 5) mNil)))
mSkip)
(mSeq (mAsg (mBin opAdd (mVar 4) (mCall fListOU (mCons (mVar 3) mNil))) (gN 4))
(mAsg (mDcT (mItems (mUser m_longer (mCons (mVar 0) (mCons (mVar 3) mNil)))) (.many [6, 7]) (mB (mBin opNotIn (mVar 6) (mVar 4))) (mVar 6) (mVar 7) [6, 7]) (gN 3))))) 2000)
(mRet (mC .non))))
noncomputable def m_uncovered_log : FM := mFn 6 (mSeq (mAsg (mTup (mCons (mBin opIx (mBin opIx (mVar 0) (mC (.int 2))) (mVar 1)) (mCons (mNew "Unlike" m_Unlike_init (mCons (mBin opIx (mBin opIx (mVar 0) (mC (.int 2))) (mVar 2)) mNil)) mNil))) (gT 2 (gConsM (gN 3) (gConsM (gN 4) gNilM))))
(mRet (mUser m_first_log (mCons (mVar 0) (mCons (mLc (mSrc (mUser m_reached (mCons (mVar 0) mNil))) (.one 5) mYes (mTup (mCons (mBin opIx (mVar 3) (mVar 5)) (mCons (mVar 5) mNil))) [5]) (mCons (mVar 4) mNil))))))
noncomputable def m_uncovered : FM := mFn 3 (mSeq (mDrop (mUser m_need_system (mCons (mVar 0) mNil)))
(mSeq (mDrop (mUser m_need_operation (mCons (mVar 0) (mCons (mVar 1) mNil))))
(mSeq (mDrop (mUser m_need_operation (mCons (mVar 0) (mCons (mVar 2) mNil))))
(mRet (mUser m_uncovered_log (mCons (mVar 0) (mCons (mVar 1) (mCons (mVar 2) mNil))))))))
noncomputable def m__law_pairs : FM := mFn 4 (mSeq (mAsg (mLstO mNil) (gN 1))
(mSeq (mFor (mRng1 (mCons (mVar 0) mNil)) (gN 2)
(mDrop (mExtend (mVar 1) (mLc (mRng1 (mCons (mVar 0) mNil)) (.one 3) mYes (mTup (mCons (mVar 2) (mCons (mVar 3) mNil))) [3]))))
(mRet (mVar 1))))
noncomputable def m__law_steps_to : FM := mFn 10 (mSeq (mAsg (mTup (mCons mNewT (mCons (mC (.bl true)) (mCons (mC (.int 0)) mNil)))) (gT 3 (gConsM (gN 2) (gConsM (gN 3) (gConsM (gN 4) gNilM)))))
(mSeq (mFor (mSrc (mVar 1)) (gN 5)
(mAsg (mC (.int 0)) (gIxU (mVar 2) (mVar 5))))
(mSeq (mWhile (mB (mVar 3))
(mSeq (mAsg (mC (.bl false)) (gN 3))
(mSeq (mFor (mSrc (mUser m__law_pairs (mCons (mBin opIx (mVar 0) (mC (.int 0))) mNil))) (gT 2 (gConsM (gN 6) (gConsM (gN 7) gNilM)))
(mSeq (mAsg (mLcF finL (mSrc (mBin opIx (mVar 0) (mC (.int 2)))) (.one 9) mYes (mGet2 (mVar 2) (mTup (mCons (mBin opIx (mVar 9) (mVar 6)) (mCons (mBin opIx (mVar 9) (mVar 7)) mNil))) (mUn opNeg (mC (.int 1)))) [9]) (gN 8))
(mIfS (mAndT (mB (mBin opNotInD (mTup (mCons (mVar 6) (mCons (mVar 7) mNil))) (mVar 2))) (mB (mBin opIn (mVar 4) (mVar 8))))
(mSeq (mAsg (mBin opAdd (mVar 4) (mC (.int 1))) (gIxU (mVar 2) (mTup (mCons (mVar 6) (mCons (mVar 7) mNil)))))
(mAsg (mC (.bl true)) (gN 3)))
mSkip)))
(mAsg (mBin opAdd (mVar 4) (mC (.int 1))) (gN 4)))) 2000)
(mRet (mVar 2)))))
noncomputable def m__law_first_between : FM := mFn 15 (mSeq (mAsg (mTup (mCons (mUser m__law_steps_to (mCons (mVar 0) (mCons (mVar 2) mNil))) (mCons (mTup mNil) mNil))) (gT 2 (gConsM (gN 3) (gConsM (gN 4) gNilM))))
(mSeq (mIfS (mB (mBin opEq (mLc (mSrc (mVar 1)) (.one 11) (mB (mBin opInD (mVar 11) (mVar 3))) (mVar 11) [11]) (mLst mNil)))
(mRet (mC .non))
mSkip)
(mSeq (mAsg (mCall fMinL (mCons (mLc (mSrc (mVar 1)) (.one 11) (mB (mBin opInD (mVar 11) (mVar 3))) (mBin opIxU (mVar 3) (mVar 11)) [11]) mNil)) (gN 5))
(mSeq (mAsg (mLcF finL (mSrc (mVar 1)) (.one 11) (mB (mBin opEq (mGet2 (mVar 3) (mVar 11) (mUn opNeg (mC (.int 1)))) (mVar 5))) (mVar 11) [11]) (gN 6))
(mSeq (mWhile (mB (mBin opGt (mVar 5) (mC (.int 0))))
(mSeq (mAsg (mLstO mNil) (gN 7))
(mSeq (mFor (mEnum (mCons (mBin opIx (mVar 0) (mC (.int 2))) mNil)) (gT 2 (gConsM (gN 8) (gConsM (gN 9) gNilM)))
(mSeq (mAsg (mLcF finL (mSrc (mVar 6)) (.many [12, 13]) mYes (mTup (mCons (mBin opIx (mVar 9) (mVar 12)) (mCons (mBin opIx (mVar 9) (mVar 13)) mNil))) [12, 13]) (gN 10))
(mDrop (mAppend (mVar 7) (mTup (mCons (mVar 8) (mCons (mLc (mSrc (mVar 10)) (.one 11) (mB (mBin opEq (mGet2 (mVar 3) (mVar 11) (mUn opNeg (mC (.int 1)))) (mBin opSub (mVar 5) (mC (.int 1))))) (mVar 11) [11]) mNil)))))))
(mSeq (mAsg (mBin opIx (mLc (mSrc (mVar 7)) (.one 14) (mB (mBin opNe (mBin opIx (mVar 14) (mC (.int 1))) (mLst mNil))) (mVar 14) [14]) (mC (.int 0))) (gT 2 (gConsM (gN 8) (gConsM (gN 6) gNilM))))
(mAsg (mTup (mCons (mBin opAdd (mVar 4) (mTup (mCons (mVar 8) mNil))) (mCons (mBin opSub (mVar 5) (mC (.int 1))) mNil))) (gT 2 (gConsM (gN 4) (gConsM (gN 5) gNilM))))))) 2000)
(mRet (mVar 4)))))))
noncomputable def m__law_uncovered : FM := mFn 8 (mSeq (mAsg (mTup (mCons (mBin opIx (mBin opIx (mVar 0) (mC (.int 2))) (mVar 1)) (mCons (mBin opIx (mBin opIx (mVar 0) (mC (.int 2))) (mVar 2)) mNil))) (gT 2 (gConsM (gN 3) (gConsM (gN 4) gNilM))))
(mSeq (mAsg (mLcF finL (mSrc (mUser m__law_pairs (mCons (mBin opIx (mVar 0) (mC (.int 0))) mNil))) (.one 6) (mB (mBin opNe (mBin opIx (mVar 4) (mBin opIx (mVar 6) (mC (.int 0)))) (mBin opIx (mVar 4) (mBin opIx (mVar 6) (mC (.int 1)))))) (mVar 6) [6]) (gN 5))
(mRet (mUser m__law_first_between (mCons (mVar 0) (mCons (mLc (mSrc (mUser m__law_reached (mCons (mVar 0) mNil))) (.one 7) mYes (mTup (mCons (mBin opIx (mVar 3) (mVar 7)) (mCons (mVar 7) mNil))) [7]) (mCons (mVar 5) mNil)))))))
noncomputable def m_is_telling : FM := mFn 6 (mSeq (mAsg (mBin opAdd (mVar 3) (mTup (mCons (mVar 2) mNil))) (gN 4))
(mSeq (mFor (mSrc (mUser m_reached (mCons (mVar 0) mNil))) (gN 5)
(mIfS (mB (mBin opNe (mUser m_run_from (mCons (mVar 0) (mCons (mVar 5) (mCons (mBin opAdd (mTup (mCons (mVar 1) mNil)) (mVar 4)) mNil)))) (mUser m_run_from (mCons (mVar 0) (mCons (mVar 5) (mCons (mVar 4) mNil))))))
(mRet (mC (.bl true)))
mSkip))
(mRet (mC (.bl false)))))
noncomputable def m_shows_uncovered : FM := mFn 4 (mSeq (mDrop (mUser m_need_system (mCons (mVar 0) mNil)))
(mSeq (mDrop (mUser m_need_operation (mCons (mVar 0) (mCons (mVar 1) mNil))))
(mSeq (mDrop (mUser m_need_operation (mCons (mVar 0) (mCons (mVar 2) mNil))))
(mSeq (mIfS (mB (mBin opIsN (mVar 3) (mC .non)))
(mRet (mBin opIsN (mUser m_uncovered_log (mCons (mVar 0) (mCons (mVar 1) (mCons (mVar 2) mNil)))) (mC .non)))
mSkip)
(mRet (mAndV (mUser m_is_log (mCons (mVar 0) (mCons (mVar 3) mNil))) (mUser m_is_telling (mCons (mVar 0) (mCons (mVar 1) (mCons (mVar 2) (mCons (mVar 3) mNil)))))))))))
noncomputable def m_does_cover : FM := mFn 12 (mSeq (mAsg (mTup (mCons (mBin opIx (mBin opIx (mVar 0) (mC (.int 2))) (mVar 1)) (mCons (mNew "Unlike" m_Unlike_init (mCons (mBin opIx (mBin opIx (mVar 0) (mC (.int 2))) (mVar 2)) mNil)) mNil))) (gT 2 (gConsM (gN 3) (gConsM (gN 4) gNilM))))
(mSeq (mAsg (mDcT (mSrc (mUser m_reached (mCons (mVar 0) mNil))) (.one 11) mYes (mTup (mCons (mBin opIx (mVar 3) (mVar 11)) (mCons (mVar 11) mNil))) (mC (.bl true)) [11]) (gN 5))
(mSeq (mAsg (mCall fListOU (mCons (mVar 5) mNil)) (gN 6))
(mSeq (mAsg (mC (.int 0)) (gN 7))
(mSeq (mWhile (mB (mBin opLt (mVar 7) (mCall fLen (mCons (mVar 6) mNil))))
(mSeq (mAsg (mBin opIx (mVar 6) (mVar 7)) (gN 8))
(mSeq (mAugAdd 7 (mC (.int 1)))
(mSeq (mIfS (mB (mCallI [("Unlike", m_Unlike_call)] (mVar 4) (mCons (mVar 8) mNil)))
(mRet (mC (.bl false)))
mSkip)
(mFor (mSrc (mBin opIx (mVar 0) (mC (.int 2)))) (gN 9)
(mSeq (mAsg (mTup (mCons (mBin opIx (mVar 9) (mBin opIx (mVar 8) (mC (.int 0)))) (mCons (mBin opIx (mVar 9) (mBin opIx (mVar 8) (mC (.int 1)))) mNil))) (gN 10))
(mIfS (mAndT (mB (mBin opNe (mBin opIx (mVar 10) (mC (.int 0))) (mBin opIx (mVar 10) (mC (.int 1))))) (mB (mBin opNotInD (mVar 10) (mVar 5))))
(mSeq (mAsg (mC (.bl true)) (gIxU (mVar 5) (mVar 10)))
(mDrop (mAppend (mVar 6) (mVar 10))))
mSkip)))))) 2000)
(mRet (mC (.bl true))))))))
noncomputable def m_coverage_of : FM := mFn 4 (mSeq (mAsg (mListRg (mCall fLen (mCons (mBin opIx (mVar 0) (mC (.int 2))) mNil))) (gN 1))
(mRet (mCall fTuple (mCons (mLc (mSrc (mVar 1)) (.one 2) mYes (mCall fTuple (mCons (mLc (mSrc (mVar 1)) (.one 3) mYes (mUser m_does_cover (mCons (mVar 0) (mCons (mVar 2) (mCons (mVar 3) mNil)))) [3]) mNil)) [2]) mNil))))
noncomputable def m_coverage : FM := mFn 1 (mSeq (mDrop (mUser m_need_system (mCons (mVar 0) mNil)))
(mRet (mUser m_coverage_of (mCons (mVar 0) mNil))))
noncomputable def m__law_coverage : FM := mFn 5 (mSeq (mAsg (mLstO mNil) (gN 1))
(mSeq (mFor (mRng1 (mCons (mCall fLen (mCons (mBin opIx (mVar 0) (mC (.int 2))) mNil)) mNil)) (gN 2)
(mSeq (mAsg (mLcF finL (mRng1 (mCons (mCall fLen (mCons (mBin opIx (mVar 0) (mC (.int 2))) mNil)) mNil)) (.one 4) mYes (mBin opIsN (mUser m__law_uncovered (mCons (mVar 0) (mCons (mVar 2) (mCons (mVar 4) mNil)))) (mC .non)) [4]) (gN 3))
(mDrop (mAppend (mVar 1) (mCall fTuple (mCons (mVar 3) mNil))))))
(mRet (mCall fTuple (mCons (mVar 1) mNil)))))
noncomputable def m_best_of : FM := mFn 8 (mSeq (mAsg (mUser m_coverage_of (mCons (mVar 0) mNil)) (gN 1))
(mSeq (mPar 2 3 (mCons (mLstO mNil) (mCons (mC (.int 0)) mNil)))
(mSeq (mFor (mEnum (mCons (mVar 1) mNil)) (gT 2 (gConsM (gN 4) (gConsM (gN 5) gNilM)))
(mSeq (mAsg (mLcF finL (mRng1 (mCons (mVar 4) mNil)) (.one 7) (mAndT (mB (mBin opIx (mVar 5) (mVar 7))) (mB (mBin opIx (mBin opIx (mVar 1) (mVar 7)) (mVar 4)))) (mVar 7) [7]) (gN 6))
(mIfS (mB (mBin opNe (mVar 6) (mLst mNil)))
(mDrop (mAppend (mVar 2) (mBin opIx (mVar 2) (mBin opIx (mVar 6) (mC (.int 0))))))
(mIfS (mB (mBin opIx (mVar 5) (mVar 4)))
(mSeq (mDrop (mAppend (mVar 2) (mVar 3)))
(mAugAdd 3 (mC (.int 1))))
(mDrop (mAppend (mVar 2) (mC .non)))))))
(mRet (mCall fTuple (mCons (mVar 2) mNil))))))
noncomputable def m_best_kinds : FM := mFn 1 (mSeq (mDrop (mUser m_need_system (mCons (mVar 0) mNil)))
(mRet (mUser m_best_of (mCons (mVar 0) mNil))))
noncomputable def m_thinned_log : FM := mFn 6 (mSeq (mAsg (mUser m_coverage_of (mCons (mVar 0) mNil)) (gN 2))
(mRet (mCall fTuple (mCons (mLc (mEnum (mCons (mVar 1) mNil)) (.many [3, 4]) (mNotT (mB (mCall fAny (mCons (mLc (mSrc (mSl (mVar 1) (mPart (mBin opAdd (mVar 3) (mC (.int 1)))) mNo)) (.one 5) mYes (mBin opIx (mBin opIx (mVar 2) (mVar 4)) (mVar 5)) [5]) mNil)))) (mVar 4) [3, 4]) mNil))))
noncomputable def m_thinned : FM := mFn 2 (mSeq (mDrop (mUser m_need_system (mCons (mVar 0) mNil)))
(mSeq (mDrop (mUser m_need_log (mCons (mVar 0) (mCons (mVar 1) mNil))))
(mRet (mUser m_thinned_log (mCons (mVar 0) (mCons (mVar 1) mNil))))))
noncomputable def m__law_thinned : FM := mFn 6 (mSeq (mAsg (mLstO mNil) (gN 2))
(mSeq (mFor (mEnum (mCons (mVar 1) mNil)) (gT 2 (gConsM (gN 3) (gConsM (gN 4) gNilM)))
(mIfS (mB (mBin opNotIn (mC (.bl true)) (mLc (mSrc (mSl (mVar 1) (mPart (mBin opAdd (mVar 3) (mC (.int 1)))) mNo)) (.one 5) mYes (mBin opIx (mBin opIx (mVar 0) (mVar 4)) (mVar 5)) [5])))
(mDrop (mAppend (mVar 2) (mVar 4)))
mSkip))
(mRet (mCall fTuple (mCons (mVar 2) mNil)))))
noncomputable def m_Moved_init : FM := mFn 2 (mSetFld ["Moved"] "operation" (mVar 0) (mVar 1))
noncomputable def m_Moved_call : FM := mFn 2 (mRet (mBin opNe (mBin opIx (mFld ["Moved"] "operation" (mVar 0)) (mBin opIx (mVar 1) (mC (.int 0)))) (mBin opIx (mVar 1) (mC (.int 0)))))
noncomputable def m_order_of : FM := mFn 5 (mSeq (mAsg (mCall fLen (mCons (mBin opIx (mVar 0) (mC (.int 2))) mNil)) (gN 1))
(mSeq (mFor (mSrc (mUser m_reached (mCons (mVar 0) mNil))) (gN 2)
(mFor (mRng1 (mCons (mVar 1) mNil)) (gN 3)
(mFor (mRng2 (mCons (mBin opAdd (mVar 3) (mC (.int 1))) (mCons (mVar 1) mNil))) (gN 4)
(mIfS (mB (mBin opNe (mUser m_run_from (mCons (mVar 0) (mCons (mVar 2) (mCons (mTup (mCons (mVar 3) (mCons (mVar 4) mNil))) mNil)))) (mUser m_run_from (mCons (mVar 0) (mCons (mVar 2) (mCons (mTup (mCons (mVar 4) (mCons (mVar 3) mNil))) mNil))))))
(mRet (mTup (mCons (mVar 2) (mCons (mVar 3) (mCons (mVar 4) mNil)))))
mSkip))))
(mRet (mC .non))))
noncomputable def m_order_fault : FM := mFn 1 (mSeq (mDrop (mUser m_need_system (mCons (mVar 0) mNil)))
(mRet (mUser m_order_of (mCons (mVar 0) mNil))))
noncomputable def m_by_set : FM := mFn 2 (mSeq (mDrop (mUser m_need_system (mCons (mVar 0) mNil)))
(mSeq (mIfS (mB (mBin opNotN (mUser m_order_of (mCons (mVar 0) mNil)) (mC .non)))
(mRet (mC (.bl false)))
mSkip)
(mRet (mCall fAll (mCons (mLc (mRng1 (mCons (mCall fLen (mCons (mBin opIx (mVar 0) (mC (.int 2))) mNil)) mNil)) (.one 1) mYes (mBin opIsN (mUser m_first_apart (mCons (mVar 0) (mCons (mTup (mCons (mVar 1) (mCons (mVar 1) mNil))) (mCons (mTup (mCons (mVar 1) mNil)) mNil)))) (mC .non)) [1]) mNil)))))
noncomputable def m_unsteady : FM := mFn 4 (mSeq (mDrop (mUser m_need_system (mCons (mVar 0) mNil)))
(mSeq (mDrop (mUser m_need_operation (mCons (mVar 0) (mCons (mVar 1) mNil))))
(mSeq (mAsg (mBin opIx (mBin opIx (mVar 0) (mC (.int 2))) (mVar 1)) (gN 2))
(mRet (mUser m_first_log (mCons (mVar 0) (mCons (mLc (mSrc (mUser m_reached (mCons (mVar 0) mNil))) (.one 3) mYes (mTup (mCons (mBin opIx (mVar 2) (mVar 3)) (mCons (mBin opIx (mVar 2) (mVar 3)) mNil))) [3]) (mCons (mNew "Moved" m_Moved_init (mCons (mVar 2) mNil)) mNil))))))))
noncomputable def m_repeat_logs : FM := mFn 5 (mSeq (mAsg (mListRg (mCall fLen (mCons (mBin opIx (mVar 0) (mC (.int 2))) mNil))) (gN 1))
(mSeq (mAsg (mLcF finL (mSrc (mVar 1)) (.one 3) mYes (mTup (mCons (mVar 3) (mCons (mVar 3) mNil))) [3]) (gN 2))
(mRet (mBin opAdd (mVar 2) (mLcN finL (mSrc (mVar 1)) (.one 3) mYes (bIn (mSrc (mVar 1)) (.one 4) (mB (mBin opNe (mVar 3) (mVar 4))) (bApp (mTup (mCons (mVar 3) (mCons (mVar 4) (mCons (mVar 3) mNil))))) [4]) [3, 4])))))
noncomputable def m_repeat_of : FM := mFn 4 (mSeq (mAsg (mUser m_repeat_logs (mCons (mVar 0) mNil)) (gN 1))
(mSeq (mFor (mSrc (mUser m_reached (mCons (mVar 0) mNil))) (gN 2)
(mFor (mSrc (mVar 1)) (gN 3)
(mIfS (mB (mBin opNe (mUser m_run_from (mCons (mVar 0) (mCons (mVar 2) (mCons (mVar 3) mNil)))) (mUser m_run_from (mCons (mVar 0) (mCons (mVar 2) (mCons (mSl (mVar 3) mNo (mPart (mUn opNeg (mC (.int 1))))) mNil))))))
(mRet (mTup (mCons (mVar 2) (mCons (mVar 3) mNil))))
mSkip)))
(mRet (mC .non))))
noncomputable def m_repeat_fault : FM := mFn 1 (mSeq (mDrop (mUser m_need_system (mCons (mVar 0) mNil)))
(mRet (mUser m_repeat_of (mCons (mVar 0) mNil))))
noncomputable def m_firsts_of : FM := mFn 3 (mRet (mCall fTuple (mCons (mLc (mEnum (mCons (mVar 0) mNil)) (.many [1, 2]) (mB (mBin opNotIn (mVar 2) (mSl (mVar 0) mNo (mPart (mVar 1))))) (mVar 2) [1, 2]) mNil)))
noncomputable def m_firsts : FM := mFn 2 (mSeq (mDrop (mUser m_need_system (mCons (mVar 0) mNil)))
(mSeq (mDrop (mUser m_need_log (mCons (mVar 0) (mCons (mVar 1) mNil))))
(mRet (mUser m_firsts_of (mCons (mVar 1) mNil)))))
noncomputable def m__law_no_systems : FM := mFn 3 (mSeq (mPar 0 1 (mCons (mTup (mCons (mTup (mCons (mC (.int 0)) mNil)) mNil)) (mCons (mTup (mCons (mC .non) mNil)) mNil)))
(mSeq (mAsg (mLst (mCons (mC .non) (mCons (mC (.int 0)) (mCons (mC (.str "")) (mCons (mTup mNil) (mCons (mLst mNil) (mCons mNewK (mCons (mTup (mCons (mC (.int 1)) (mCons (mC (.int 0)) (mCons (mVar 0) mNil)))) (mCons (mTup (mCons (mC (.int 1)) (mCons (mC (.int 0)) (mCons (mVar 0) (mCons (mVar 1) (mCons (mTup mNil) mNil)))))) (mCons (mLst (mCons (mC (.int 1)) (mCons (mC (.int 0)) (mCons (mVar 0) (mCons (mVar 1) mNil))))) mNil)))))))))) (gN 2))
(mSeq (mAsg (mBin opAdd (mVar 2) (mLst (mCons (mTup (mCons (mC (.int 0)) (mCons (mC (.int 0)) (mCons (mTup (mCons (mTup mNil) mNil)) (mCons (mVar 1) mNil))))) (mCons (mTup (mCons (mC (.int 7)) (mCons (mC (.int 0)) (mCons (mTup (mCons (mBin opMul (mTup (mCons (mC (.int 0)) mNil)) (mC (.int 7))) mNil)) (mCons (mVar 1) mNil))))) (mCons (mTup (mCons (mC (.int 1)) (mCons (mC (.int 1)) (mCons (mVar 0) (mCons (mVar 1) mNil))))) (mCons (mTup (mCons (mC (.int 1)) (mCons (mUn opNeg (mC (.int 1))) (mCons (mVar 0) (mCons (mVar 1) mNil))))) mNil)))))) (gN 2))
(mSeq (mAsg (mBin opAdd (mVar 2) (mLst (mCons (mTup (mCons (mC (.int 1)) (mCons (mC (.int 0)) (mCons (mTup mNil) (mCons (mTup mNil) mNil))))) (mCons (mTup (mCons (mC (.int 1)) (mCons (mC (.int 0)) (mCons (mBin opMul (mVar 0) (mC (.int 7))) (mCons (mBin opMul (mVar 1) (mC (.int 7))) mNil))))) (mCons (mTup (mCons (mC (.int 1)) (mCons (mC (.int 0)) (mCons (mVar 0) (mCons (mTup mNil) mNil))))) (mCons (mTup (mCons (mC (.int 1)) (mCons (mC (.int 0)) (mCons (mVar 0) (mCons (mBin opMul (mVar 1) (mC (.int 2))) mNil))))) mNil)))))) (gN 2))
(mSeq (mAsg (mBin opAdd (mVar 2) (mLst (mCons (mTup (mCons (mC (.int 1)) (mCons (mC (.int 0)) (mCons (mVar 0) (mCons (mTup (mCons (mC (.int 10)) mNil)) mNil))))) (mCons (mTup (mCons (mC (.int 1)) (mCons (mC (.int 0)) (mCons (mVar 0) (mCons (mTup (mCons (mUn opNeg (mC (.int 1))) mNil)) mNil))))) (mCons (mTup (mCons (mC (.int 1)) (mCons (mC (.int 0)) (mCons (mVar 0) (mCons (mTup (mCons (mC (.bl true)) mNil)) mNil))))) (mCons (mTup (mCons (mC (.int 1)) (mCons (mC (.int 0)) (mCons (mVar 0) (mCons (mTup (mCons (mC (.str "0")) mNil)) mNil))))) mNil)))))) (gN 2))
(mSeq (mAsg (mBin opAdd (mVar 2) (mLst (mCons (mTup (mCons (mC (.bl true)) (mCons (mC (.int 0)) (mCons (mVar 0) (mCons (mVar 1) mNil))))) (mCons (mTup (mCons (mC (.int 1)) (mCons (mC (.bl false)) (mCons (mVar 0) (mCons (mVar 1) mNil))))) (mCons (mTup (mCons (mC (.int 1)) (mCons (mC (.int 0)) (mCons (mTup (mCons (mTup (mCons (mC (.int 1)) mNil)) mNil)) (mCons (mVar 1) mNil))))) (mCons (mTup (mCons (mC (.str "1")) (mCons (mC (.int 0)) (mCons (mVar 0) (mCons (mVar 1) mNil))))) mNil)))))) (gN 2))
(mSeq (mAsg (mBin opAdd (mVar 2) (mLst (mCons (mTup (mCons (mC (.int 1)) (mCons (mC (.int 0)) (mCons (mTup (mCons (mTup (mCons (mC (.int 0)) (mCons (mC (.int 0)) mNil))) mNil)) (mCons (mVar 1) mNil))))) (mCons (mTup (mCons (mC (.int 1)) (mCons (mC (.int 0)) (mCons (mTup (mCons (mTup mNil) mNil)) (mCons (mVar 1) mNil))))) (mCons (mTup (mCons (mC (.int 1)) (mCons (mC (.int 0)) (mCons (mTup (mCons (mLst (mCons (mC (.int 0)) mNil)) mNil)) (mCons (mVar 1) mNil))))) (mCons (mTup (mCons (mC (.int 1)) (mCons (mC (.int 0)) (mCons (mLst (mCons (mTup (mCons (mC (.int 0)) mNil)) mNil)) (mCons (mVar 1) mNil))))) mNil)))))) (gN 2))
(mSeq (mAsg (mBin opAdd (mVar 2) (mLst (mCons (mTup (mCons (mC (.int 1)) (mCons (mC (.int 0)) (mCons (mVar 0) (mCons (mLst (mCons (mC .non) mNil)) mNil))))) (mCons (mTup (mCons (mC (.int 1)) (mCons (mC (.int 0)) (mCons (mTup (mCons (mTup (mCons (mC (.bl false)) mNil)) mNil)) (mCons (mVar 1) mNil))))) (mCons (mTup (mCons (mC (.int 2)) (mCons (mC (.int 0)) (mCons (mTup (mCons (mTup (mCons (mC (.int 0)) (mCons (mC .non) mNil))) mNil)) (mCons (mVar 1) mNil))))) mNil))))) (gN 2))
(mRet (mBin opAdd (mVar 2) (mLst (mCons (mTup (mCons (mC (.int 1)) (mCons (mC .non) (mCons (mVar 0) (mCons (mVar 1) mNil))))) (mCons (mTup (mCons (mC (.int 2)) (mCons (mC (.int 0)) (mCons (mTup (mCons (mTup (mCons (mC (.int 0)) (mCons (mC (.int 2)) mNil))) mNil)) (mCons (mVar 1) mNil))))) (mCons (mTup (mCons (mC (.int 1)) (mCons (mC (.int 0)) (mCons (mVar 0) (mCons (mC .non) mNil))))) (mCons (mTup (mCons (mC (.int 1)) (mCons (mC (.int 0)) (mCons (mC .non) (mCons (mVar 1) mNil))))) mNil)))))))))))))))
noncomputable def m__law_moves : FM := mFn 3 (mRet (mCall fTuple (mCons (mLc (mSrc (mUser m__law_reached (mCons (mVar 0) mNil))) (.one 2) mYes (mUser m__law_run (mCons (mVar 0) (mCons (mVar 2) (mCons (mVar 1) mNil)))) [2]) mNil)))
noncomputable def m__law_any_moves : FM := mFn 4 (mSeq (mAsg (mUser m__law_reached (mCons (mVar 1) mNil)) (gN 2))
(mRet (mCall fTuple (mCons (mLc (mSrc (mVar 2)) (.one 3) mYes (mUser m__law_pick (mCons (mVar 0) (mCons (mVar 2) mNil))) [3]) mNil))))
noncomputable def m__law_deed : FM := mFn 6 (mSeq (mAsg (mUser m__law_draw (mCons (mVar 0) (mCons (mC (.int 6)) mNil))) (gN 3))
(mSeq (mIfS (mB (mBin opLt (mVar 3) (mC (.int 3))))
(mSeq (mAsg (mUser m__law_draw (mCons (mVar 0) (mCons (mCall fLen (mCons (mBin opIx (mVar 1) (mC (.int 2))) mNil)) mNil))) (gN 4))
(mRet (mTup (mCons (mBin opIx (mLst (mCons (mC (.str "add")) (mCons (mC (.str "call")) mNil))) (mBin opMod (mVar 3) (mC (.int 2)))) (mCons (mVar 4) (mCons (mBin opAdd (mVar 2) (mTup (mCons (mVar 4) mNil))) mNil))))))
mSkip)
(mSeq (mAsg (mUser m__law_log (mCons (mVar 0) (mCons (mVar 1) (mCons (mC (.int 5)) mNil)))) (gN 5))
(mRet (mIf (mB (mBin opLt (mVar 3) (mC (.int 5)))) (mTup (mCons (mC (.str "extend")) (mCons (mVar 5) (mCons (mBin opAdd (mVar 2) (mVar 5)) mNil)))) (mTup (mCons (mC (.str "assign")) (mCons (mVar 5) (mCons (mVar 5) mNil)))))))))
noncomputable def m_Trying_init : FM := mFn 2 (mSeq (mSetFld ["Trying"] "store" (mVar 0) (mVar 1))
(mSeq (mSetFld ["Trying"] "log" (mVar 0) (mTup mNil))
(mSetFld ["Trying"] "past" (mVar 0) (mTup mNil))))
noncomputable def m__law_right_system : FM := mFn 5 (mSeq (mAsg (mUser m__law_system (mCons (mVar 0) mNil)) (gN 1))
(mSeq (mIfS (mB (mBin opNotN (mUser m__law_fault (mCons (mVar 1) mNil)) (mC .non)))
(mAsg (mBin opAdd (mSl (mVar 1) mNo (mPart (mC (.int 3)))) (mTup (mCons (mBin opMul (mTup (mCons (mC .non) mNil)) (mCall fLen (mCons (mBin opIx (mVar 1) (mC (.int 2))) mNil))) mNil))) (gN 1))
mSkip)
(mSeq (mFor (mSrc (mBin opIx (mVar 1) (mC (.int 2)))) (gN 2)
(mFor (mSrc (mUser m__law_reached (mCons (mVar 1) mNil))) (gN 3)
(mFor (mSrc (mUser m__law_reached (mCons (mTup (mCons (mBin opIx (mVar 1) (mC (.int 0))) (mCons (mBin opIx (mVar 2) (mVar 3)) (mCons (mBin opIx (mVar 1) (mC (.int 2))) (mCons (mBin opIx (mVar 1) (mC (.int 3))) mNil))))) mNil))) (gN 4)
(mIfS (mB (mBin opNe (mBin opIx (mVar 2) (mVar 4)) (mVar 4)))
(mRet (mTup (mCons (mBin opIx (mVar 1) (mC (.int 0))) (mCons (mBin opIx (mVar 1) (mC (.int 1))) (mCons (mTup (mCons (mTupRg (mBin opIx (mVar 1) (mC (.int 0)))) mNil)) (mCons (mTup (mCons (mC (.int 0)) mNil)) mNil))))))
mSkip))))
(mRet (mVar 1)))))
noncomputable def m__law_is_covered : FM := mFn 10 (mSeq (mAsg (mLcF finO (mSrc (mUser m__law_reached (mCons (mVar 0) mNil))) (.one 9) mYes (mTup (mCons (mBin opIx (mBin opIx (mBin opIx (mVar 0) (mC (.int 2))) (mVar 1)) (mVar 9)) (mCons (mVar 9) mNil))) [9]) (gN 3))
(mSeq (mAsg (mC (.int 0)) (gN 4))
(mSeq (mWhile (mB (mBin opLt (mVar 4) (mCall fLen (mCons (mVar 3) mNil))))
(mSeq (mAsg (mBin opIx (mVar 3) (mVar 4)) (gT 2 (gConsM (gN 5) (gConsM (gN 6) gNilM))))
(mSeq (mIfS (mB (mBin opNe (mBin opIx (mBin opIx (mBin opIx (mVar 0) (mC (.int 2))) (mVar 2)) (mVar 5)) (mBin opIx (mBin opIx (mBin opIx (mVar 0) (mC (.int 2))) (mVar 2)) (mVar 6))))
(mRet (mC (.bl false)))
mSkip)
(mSeq (mFor (mSrc (mBin opIx (mVar 0) (mC (.int 2)))) (gN 7)
(mSeq (mAsg (mTup (mCons (mBin opIx (mVar 7) (mVar 5)) (mCons (mBin opIx (mVar 7) (mVar 6)) mNil))) (gN 8))
(mIfS (mB (mBin opNotIn (mVar 8) (mVar 3)))
(mDrop (mAppend (mVar 3) (mVar 8)))
mSkip)))
(mAsg (mBin opAdd (mVar 4) (mC (.int 1))) (gN 4))))) 2000)
(mRet (mC (.bl true))))))
noncomputable def m__law_rows : FM := mFn 4 (mSeq (mAsg (mListRg (mCall fLen (mCons (mBin opIx (mVar 0) (mC (.int 2))) mNil))) (gN 1))
(mRet (mLc (mSrc (mVar 1)) (.one 2) mYes (mLc (mSrc (mVar 1)) (.one 3) mYes (mUser m__law_is_covered (mCons (mVar 0) (mCons (mVar 2) (mCons (mVar 3) mNil)))) [3]) [2])))
noncomputable def m__law_name : FM := mFn 1 (mRet (mBin opIx (mLst (mCons (mC (.str "Store")) (mCons (mC (.str "Thin")) (mCons (mC (.str "Limited")) (mCons (mC (.str "LimitedThin")) (mCons (mC (.str "Compact")) (mCons (mC (.str "Once")) mNil))))))) (mVar 0)))
end VL
namespace VL
open PySem PySem.Spec PyProof.Rows L2

/-! ### what a result is to meet -/
def wp {α : Type} (r : R α) (Q : α → S → Prop) : Prop := match r with
  | .ok a s => Q a s
  | _ => False
section
variable {α β : Type} {Q Q' : α → S → Prop}
@[simp] theorem wp_ok (a : α) (s : S) : wp (.ok a s) Q = Q a s := rfl
@[simp] theorem wp_bad : wp (.bad : R α) Q = False := rfl
@[simp] theorem wp_exn (c fs ρ s) : wp (.exn c fs ρ s : R α) Q = False := rfl
@[simp] theorem wp_bnd (r : R α) (f : α → S → R β) (Q : β → S → Prop) : wp (r.bnd f) Q = wp r fun a s => wp (f a s) Q := by cases r <;> rfl
theorem wp.mono {r : R α} (h : wp r Q) (k : ∀ a s, Q a s → Q' a s) : wp r Q' := by
  cases r with
  | ok a s => exact k a s h
  | exn c fs ρ s => exact h
  | bad => exact h
theorem wp.ok {r : R α} (h : wp r Q) : ∃ a s, r = .ok a s ∧ Q a s := by
  cases r with
  | ok a s => exact ⟨a, s, rfl, h⟩
  | exn c fs ρ s => exact h.elim
  | bad => exact h.elim
theorem wp.of {r : R α} {a s} (e : r = .ok a s) (h : Q a s) : wp r Q := by rw [e]; exact h
@[simp] theorem wp_retag (ρ : Ev) (r : R D) (Q : D → S → Prop) : wp (retag ρ r) Q = wp r Q := by cases r <;> rfl
@[simp] theorem retag_ok (ρ : Ev) (d s) : retag ρ (.ok d s) = .ok d s := rfl
@[simp] theorem wp_noX (r : R α) : wp (noX r) Q = wp r Q := by cases r <;> rfl
@[simp] theorem noX_ok (a : α) (s) : noX (.ok a s) = .ok a s := rfl
end
/-- a def's end -/
def fin : R Fl → R D
  | .ok (.nx _) s1 => .ok .non s1
  | .ok (.ret d) s1 => .ok d s1
  | .ok _ _ => .bad
  | .exn c fs _ s1 => .exn c fs [] s1
  | .bad => .bad
def endQ (Q : D → S → Prop) : Fl → S → Prop := fun fl s => match fl with
  | .nx _ => Q .non s
  | .ret d => Q d s
  | _ => False
theorem mFn_eq (N : Nat) (b : MS) (ds : List D) (s : S) : mFn N b ds s = fin (b (initE N ds) s) := by
  unfold mFn fin
  cases b (initE N ds) s with
  | ok fl s => cases fl <;> rfl
  | exn c fs ρ s => rfl
  | bad => rfl
@[simp] theorem fin_nx (ρ s) : fin (.ok (.nx ρ) s) = .ok .non s := rfl
@[simp] theorem fin_ret (d s) : fin (.ok (.ret d) s) = .ok d s := rfl
@[simp] theorem wp_fin (r : R Fl) (Q : D → S → Prop) : wp (fin r) Q = wp r (endQ Q) := by
  cases r with
  | ok fl s => cases fl <;> rfl
  | exn c fs ρ s => rfl
  | bad => rfl
@[simp] theorem endQ_nx (Q : D → S → Prop) (ρ s) : endQ Q (.nx ρ) s = Q .non s := rfl
@[simp] theorem endQ_ret (Q : D → S → Prop) (d s) : endQ Q (.ret d) s = Q d s := rfl
/-! ### the combinators, opened -/
@[simp] theorem LIM_eq : LIM = 1000000 := rfl
@[simp] theorem get_0 {α : Type} (a : α) (l : List α) : (a :: l)[0]? = some a := rfl
@[simp] theorem get_n0 {α : Type} : ([] : List α)[0]? = none := rfl
def vg : Option (Option D) → S → R D
  | some (some d), s => .ok d s
  | _, _ => .bad
@[simp] theorem vg_some (d s) : vg (some (some d)) s = .ok d s := rfl
@[simp] theorem mVar_eq (i : Nat) (ρ : Ev) (s : S) : mVar i ρ s = vg ρ[i]? s := by
  unfold mVar vg
  cases h : ρ[i]? with
  | none => rfl
  | some o => cases o <;> rfl
section
variable (ρ : Ev) (s : S)
@[simp] theorem mC_eq (d : D) : mC d ρ s = .ok d s := rfl
@[simp] theorem mBin_eq (f a b) : mBin f a b ρ s = (a ρ s).bnd fun x s1 => (b ρ s1).bnd fun y s2 => f x y s2 := rfl
@[simp] theorem mUn_eq (f a) : mUn f a ρ s = (a ρ s).bnd fun x s1 => f x s1 := rfl
@[simp] theorem mCall_eq (f a) : mCall f a ρ s = (a ρ s).bnd fun x s1 => f x s1 := rfl
@[simp] theorem asB_ok (b s) : asB (.ok (.bl b) s) = .ok b s := rfl
def bQ (Q : Bool → S → Prop) : D → S → Prop := fun d s => match d with
  | .bl b => Q b s
  | _ => False
@[simp] theorem bQ_bl (Q : Bool → S → Prop) (b s) : bQ Q (.bl b) s = Q b s := rfl
@[simp] theorem wp_asB (r : R D) (Q : Bool → S → Prop) : wp (asB r) Q = wp r (bQ Q) := by
  cases r with
  | ok d s => cases d <;> rfl
  | exn c fs ρ s => rfl
  | bad => rfl
@[simp] theorem mB_eq (m) : mB m ρ s = asB (m ρ s) := rfl
def chF (k : S → R D) : D → S → R D := fun z s3 => match z with
  | .bl true => k s3
  | .bl false => .ok (.bl false) s3
  | _ => .bad
@[simp] theorem chF_bl (k : S → R D) (b s) : chF k (.bl b) s = if b = true then k s else .ok (.bl false) s := by cases b <;> rfl
@[simp] theorem mChn_eq (f g a b c) : mChn f g a b c ρ s = (a ρ s).bnd fun x s1 => (b ρ s1).bnd fun y s2 => (f x y s2).bnd (chF fun s3 => (c ρ s3).bnd fun w s4 => g y w s4) := rfl
@[simp] theorem mAndT_eq (a b) : mAndT a b ρ s = (a ρ s).bnd fun k s1 => if k = true then b ρ s1 else .ok false s1 := rfl
@[simp] theorem mOrT_eq (a b) : mOrT a b ρ s = (a ρ s).bnd fun k s1 => if k = true then .ok true s1 else b ρ s1 := rfl
@[simp] theorem mNotT_eq (a) : mNotT a ρ s = (a ρ s).bnd fun k s1 => .ok (!k) s1 := rfl
@[simp] theorem mAndV_eq (a b) : mAndV a b ρ s = (asB (a ρ s)).bnd fun k s1 => if k = true then b ρ s1 else .ok (.bl false) s1 := rfl
@[simp] theorem mOrV_eq (a b) : mOrV a b ρ s = (asB (a ρ s)).bnd fun k s1 => if k = true then .ok (.bl true) s1 else b ρ s1 := rfl
@[simp] theorem mNotV_eq (a) : mNotV a ρ s = (asB (a ρ s)).bnd fun k s1 => .ok (.bl (!k)) s1 := rfl
@[simp] theorem mIf_eq (t a b) : mIf t a b ρ s = (t ρ s).bnd fun k s1 => if k = true then a ρ s1 else b ρ s1 := rfl
@[simp] theorem mNil_eq : mNil ρ s = .ok [] s := rfl
@[simp] theorem mCons_eq (m ms) : mCons m ms ρ s = (m ρ s).bnd fun x s1 => (ms ρ s1).bnd fun xs s2 => .ok (x :: xs) s2 := rfl
@[simp] theorem mTup_eq (m) : mTup m ρ s = (m ρ s).bnd fun xs s1 => if xs.length ≤ LIM then .ok (.tup xs) s1 else .bad := rfl
@[simp] theorem mLst_eq (m) : mLst m ρ s = (m ρ s).bnd fun xs s1 => if xs.length ≤ LIM then .ok (.lst xs) s1 else .bad := rfl
@[simp] theorem mLstO_eq (m) : mLstO m ρ s = (m ρ s).bnd fun xs s1 => if xs.length ≤ LIM then .ok (.obj s1.length) (s1 ++ [.lst xs]) else .bad := rfl
@[simp] theorem mUser_eq (m ms) : mUser m ms ρ s = (ms ρ s).bnd fun ds s1 => retag ρ (m ds s1) := rfl
@[simp] theorem mSl_eq (m lo hi) : mSl m lo hi ρ s = (m ρ s).bnd fun x s1 => (lo ρ s1).bnd fun l s2 => (hi ρ s2).bnd fun h s3 => opSl x l h s3 := rfl
@[simp] theorem mNo_eq : mNo ρ s = .ok none s := rfl
@[simp] theorem mPart_eq (m) : mPart m ρ s = (m ρ s).bnd fun d s1 => match d with
  | .int i => .ok (some i) s1
  | _ => .bad := rfl
@[simp] theorem mSkip_eq : mSkip ρ s = .ok (.nx ρ) s := rfl
def seqF (b : MS) : Fl → S → R Fl := fun fl s1 => match fl with
  | .nx ρ1 => b ρ1 s1
  | fl => .ok fl s1
@[simp] theorem seqF_nx (b ρ s) : seqF b (.nx ρ) s = b ρ s := rfl
@[simp] theorem seqF_ret (b d s) : seqF b (.ret d) s = .ok (.ret d) s := rfl
@[simp] theorem seqF_bk (b d s) : seqF b (.bk d) s = .ok (.bk d) s := rfl
@[simp] theorem seqF_ct (b d s) : seqF b (.ct d) s = .ok (.ct d) s := rfl
@[simp] theorem mSeq_eq (a b) : mSeq a b ρ s = (a ρ s).bnd (seqF b) := by
  unfold mSeq
  cases a ρ s with
  | ok fl s => cases fl <;> rfl
  | exn c fs ρ s => rfl
  | bad => rfl
@[simp] theorem mRet_eq (m) : mRet m ρ s = (m ρ s).bnd fun d s1 => .ok (.ret d) s1 := rfl
@[simp] theorem mRetN_eq : mRetN ρ s = .ok (.ret .non) s := rfl
@[simp] theorem mDrop_eq (m) : mDrop m ρ s = (m ρ s).bnd fun _ s1 => .ok (.nx ρ) s1 := rfl
@[simp] theorem mIfS_eq (t a b) : mIfS t a b ρ s = (t ρ s).bnd fun k s1 => if k = true then a ρ s1 else b ρ s1 := rfl
@[simp] theorem mBad_eq : mBad ρ s = .bad := rfl
@[simp] theorem mBreak_eq : mBreak ρ s = .ok (.bk ρ) s := rfl
@[simp] theorem mCont_eq : mCont ρ s = .ok (.ct ρ) s := rfl
@[simp] theorem mAsg_eq (m g) : mAsg m g ρ s = (m ρ s).bnd fun d s1 => (g d ρ s1).bnd fun ρ1 s2 => .ok (.nx ρ1) s2 := rfl
@[simp] theorem gN_eq (i d) : gN i d ρ s = .ok (ρ.set i (some d)) s := rfl
@[simp] theorem gNilM_eq : gNilM [] ρ s = .ok ρ s := rfl
@[simp] theorem gConsM_eq (g gs d ds) : gConsM g gs (d :: ds) ρ s = (g d ρ s).bnd fun ρ1 s1 => gs ds ρ1 s1 := rfl
@[simp] theorem gT_eq (n gs ds) : gT n gs (.tup ds) ρ s = if ds.length = n then gs ds ρ s else .bad := rfl
@[simp] theorem gIx_eq (mo mi d) : gIx mo mi d ρ s = (mo ρ s).bnd fun o s1 => (mi ρ s1).bnd fun i s2 => match setIx o i d s2 with
  | some s3 => .ok ρ s3
  | none => .bad := rfl
@[simp] theorem mPar_eq (i j ms) : mPar i j ms ρ s = (ms ρ s).bnd fun ds s1 => match ds with
  | [x, y] => .ok (.nx ((ρ.set i (some x)).set j (some y))) s1
  | _ => .bad := rfl
@[simp] theorem mPar3_eq (i j k ms) : mPar3 i j k ms ρ s = (ms ρ s).bnd fun ds s1 => match ds with
  | [x, y, z] => .ok (.nx (((ρ.set i (some x)).set j (some y)).set k (some z))) s1
  | _ => .bad := rfl
@[simp] theorem mYes_eq : mYes ρ s = .ok true s := rfl
end
section
variable (s : S)
@[simp] theorem opAdd_int (i j) : opAdd (.int i) (.int j) s = .ok (.int (i + j)) s := rfl
@[simp] theorem opAdd_tup (xs ys) : opAdd (.tup xs) (.tup ys) s = if xs.length + ys.length ≤ LIM then .ok (.tup (xs ++ ys)) s else .bad := rfl
@[simp] theorem opAdd_str (i j) : opAdd (.str i) (.str j) s = if i.length + j.length ≤ LIM then .ok (.str (i ++ j)) s else .bad := rfl
@[simp] theorem opAdd_lst (xs ys) : opAdd (.lst xs) (.lst ys) s = if xs.length + ys.length ≤ LIM then .ok (.lst (xs ++ ys)) s else .bad := rfl
@[simp] theorem opLt_int (i j) : opLt (.int i) (.int j) s = .ok (.bl (decide (i < j))) s := rfl
@[simp] theorem opLe_int (i j) : opLe (.int i) (.int j) s = .ok (.bl (decide (i ≤ j))) s := rfl
@[simp] theorem opGt_int (i j) : opGt (.int i) (.int j) s = .ok (.bl (decide (j < i))) s := rfl
@[simp] theorem opGe_int (i j) : opGe (.int i) (.int j) s = .ok (.bl (decide (j ≤ i))) s := rfl
@[simp] theorem opSub_int (i j) : opSub (.int i) (.int j) s = .ok (.int (i - j)) s := rfl
@[simp] theorem mod_ok {i j : Int} (h : 0 < j) : opMod (.int i) (.int j) s = .ok (.int (i % j)) s := if_pos h
@[simp] theorem div_ok {i j : Int} (h : 0 < j ∧ j < 1073741824) : opDiv (.int i) (.int j) s = .ok (.int (i / j)) s := if_pos (show CDiv i j from h)
@[simp] theorem pow_ok {i j : Int} (h : 0 ≤ j ∧ j ≤ 1000000 ∧ i.natAbs < 2 ^ 64) : opPow (.int i) (.int j) s = .ok (.int (i ^ j.toNat)) s := if_pos (show CPow i j from h)
@[simp] theorem mul_ok {i j : Int} (h : (-(2 ^ 64) < i ∧ i < 2 ^ 64) ∨ (-(2 ^ 64) < j ∧ j < 2 ^ 64)) : opMul (.int i) (.int j) s = .ok (.int (i * j)) s := if_pos (show CMulD i j from h)
@[simp] theorem opMul_tup (xs j) : opMul (.tup xs) (.int j) s = if xs ≠ [] ∧ 2 ≤ j ∧ j ≤ 1000 ∧ xs.length ≤ 1000 then .ok (.tup (List.replicate j.toNat xs).flatten) s else .bad := rfl
@[simp] theorem opNeg_int (i) : opNeg (.int i) s = .ok (.int (-i)) s := rfl
@[simp] theorem isNonD_non : isNonD .non = true := rfl
@[simp] theorem isNonD_int (i) : isNonD (.int i) = false := rfl
@[simp] theorem isNonD_bl (i) : isNonD (.bl i) = false := rfl
@[simp] theorem isNonD_str (i) : isNonD (.str i) = false := rfl
@[simp] theorem isNonD_tup (i) : isNonD (.tup i) = false := rfl
@[simp] theorem isNonD_lst (i) : isNonD (.lst i) = false := rfl
@[simp] theorem isNonD_obj (i) : isNonD (.obj i) = false := rfl
@[simp] theorem opIsN_eq (x) : opIsN x .non s = .ok (.bl (isNonD x)) s := rfl
@[simp] theorem opNotN_eq (x) : opNotN x .non s = .ok (.bl (!isNonD x)) s := rfl
def ixR : Option D → S → R D
  | some d, s => .ok d s
  | none, _ => .bad
@[simp] theorem ixR_some (d) : ixR (some d) s = .ok d s := rfl
@[simp] theorem opIx_tup (xs i) : opIx (.tup xs) (.int i) s = ixR (atI xs i) s := by
  show (match atI xs i with | some d => R.ok d s | none => .bad) = _
  cases atI xs i <;> rfl
@[simp] theorem opIx_lst (xs i) : opIx (.lst xs) (.int i) s = ixR (atI xs i) s := by
  show (match atI xs i with | some d => R.ok d s | none => .bad) = _
  cases atI xs i <;> rfl
@[simp] theorem opIx_scr (xs i) : opIx (.scr xs) (.int i) s = ixR (atI xs i) s := by
  show (match atI xs i with | some d => R.ok d s | none => .bad) = _
  cases atI xs i <;> rfl
theorem opIx_obj {n : Nat} {xs : List D} (h : s[n]? = some (.lst xs)) (i : Int) : opIx (.obj n) (.int i) s = ixR (atI xs i) s := by
  have e : asL s (.obj n) = some xs := by simp [asL, asX, h]
  show (match asL s (.obj n) with | some xs => (match atI xs i with | some d => R.ok d s | none => .bad) | none => .bad) = _
  rw [e]
  show (match atI xs i with | some d => R.ok d s | none => .bad) = _
  cases atI xs i <;> rfl
theorem atI_eq (xs : List D) (i : Int) : atI xs i = if 0 ≤ i then xs[i.toNat]? else if -(xs.length : Int) ≤ i then xs[(i + xs.length).toNat]? else none := by
  unfold atI ixN
  by_cases h : 0 ≤ i
  · rw [if_pos h, if_pos h]
    by_cases h2 : i < xs.length
    · rw [if_pos h2]; rfl
    · rw [if_neg h2, List.getElem?_eq_none (by omega)]; rfl
  · rw [if_neg h, if_neg h]
    by_cases h2 : -(xs.length : Int) ≤ i
    · rw [if_pos h2, if_pos h2]; rfl
    · rw [if_neg h2, if_neg h2]; rfl
@[simp] theorem atI_nat' (xs : List D) (k : Nat) : atI xs (k : Int) = xs[k]? := by rw [atI_eq, if_pos (by omega), Int.toNat_natCast]
@[simp] theorem atI_0 (xs : List D) : atI xs 0 = xs[0]? := atI_nat' xs 0
@[simp] theorem atI_2 (xs : List D) : atI xs 2 = xs[2]? := atI_nat' xs 2
@[simp] theorem atI_3 (xs : List D) : atI xs 3 = xs[3]? := atI_nat' xs 3
@[simp] theorem atI_4 (xs : List D) : atI xs 4 = xs[4]? := atI_nat' xs 4
@[simp] theorem atI_5 (xs : List D) : atI xs 5 = xs[5]? := atI_nat' xs 5
@[simp] theorem atI_6 (xs : List D) : atI xs 6 = xs[6]? := atI_nat' xs 6
@[simp] theorem atI_7 (xs : List D) : atI xs 7 = xs[7]? := atI_nat' xs 7
@[simp] theorem atI_1 (xs : List D) : atI xs 1 = xs[1]? := atI_nat' xs 1
/-! built-ins -/
@[simp] theorem fLen_tup (ds) : fLen [.tup ds] s = .ok (.int (ds.length : Nat)) s := rfl
@[simp] theorem fLen_lst (ds) : fLen [.lst ds] s = .ok (.int (ds.length : Nat)) s := rfl
@[simp] theorem fLen_scr (ds) : fLen [.scr ds] s = .ok (.int (ds.length : Nat)) s := rfl
theorem fLen_obj {n : Nat} {ds : List D} (h : s[n]? = some (.lst ds)) : fLen [.obj n] s = .ok (.int (ds.length : Nat)) s := by
  have e : asL s (.obj n) = some ds := by simp [asL, asX, h]
  show (match asL s (.obj n) with | some ds => R.ok (D.int (ds.length : Nat)) s | none => .bad) = _
  rw [e]
@[simp] theorem fMax2_eq (i j) : fMax2 [.int i, .int j] s = .ok (.int (if j > i then j else i)) s := rfl
@[simp] theorem fMin2_eq (i j) : fMin2 [.int i, .int j] s = .ok (.int (if j < i then j else i)) s := rfl
@[simp] theorem toI_ints (ns : List Int) : toI (ns.map D.int) = some ns := by
  induction ns with
  | nil => rfl
  | cons n ns ih => simp [toI, ih]
@[simp] theorem toB_bls (ns : List Bool) : toB (ns.map D.bl) = some ns := by
  induction ns with
  | nil => rfl
  | cons n ns ih => simp [toB, ih]
theorem fAll_lst (bs : List Bool) : fAll [.lst (bs.map .bl)] s = .ok (.bl (bs.all id)) s := by
  show (match (some (bs.map D.bl)).bind toB with | some bs => R.ok (D.bl (bs.all id)) s | none => .bad) = _
  simp
theorem fSum_lst (ns : List Int) : fSum [.lst (ns.map .int)] s = .ok (.int ns.sum) s := by
  show (match (some (ns.map D.int)).bind toI with | some ns => R.ok (D.int ns.sum) s | none => .bad) = _
  simp
theorem fSorted_lst (ns : List Int) : fSorted [.lst (ns.map .int)] s = .ok (.lst ((isort ns).map .int)) s := by
  show (match (some (ns.map D.int)).bind toI with | some ns => R.ok (D.lst ((isort ns).map D.int)) s | none => .bad) = _
  simp
@[simp] theorem fTuple_tup (ds) : fTuple [.tup ds] s = .ok (.tup ds) s := rfl
@[simp] theorem fTuple_lst (ds) : fTuple [.lst ds] s = .ok (.tup ds) s := rfl
theorem fTuple_obj {n : Nat} {ds : List D} (h : s[n]? = some (.lst ds)) : fTuple [.obj n] s = .ok (.tup ds) s := by
  have e : asL s (.obj n) = some ds := by simp [asL, asX, h]
  show (match asL s (.obj n) with | some ds => R.ok (D.tup ds) s | none => .bad) = _
  rw [e]
@[simp] theorem fList_tup (ds) : fList [.tup ds] s = .ok (.lst ds) s := rfl
@[simp] theorem fList_lst (ds) : fList [.lst ds] s = .ok (.lst ds) s := rfl
@[simp] theorem tyOf_non : tyOf s .non = some "NoneType" := rfl
@[simp] theorem tyOf_bl (b) : tyOf s (.bl b) = some "bool" := rfl
@[simp] theorem tyOf_int (b) : tyOf s (.int b) = some "int" := rfl
@[simp] theorem tyOf_str (b) : tyOf s (.str b) = some "str" := rfl
@[simp] theorem tyOf_tup (b) : tyOf s (.tup b) = some "tuple" := rfl
@[simp] theorem tyOf_lst (b) : tyOf s (.lst b) = some "list" := rfl
@[simp] theorem fIsi_tup (ds T) : fIsi [.tup ds, .ty T] s = if T = "int" ∨ T = "bool" ∨ T = "tuple" ∨ T = "str" then .ok (.bl (isT T "tuple")) s else .bad := rfl
@[simp] theorem fIsi_int (ds T) : fIsi [.int ds, .ty T] s = if T = "int" ∨ T = "bool" ∨ T = "tuple" ∨ T = "str" then .ok (.bl (isT T "int")) s else .bad := rfl
@[simp] theorem fIsi_bl (ds T) : fIsi [.bl ds, .ty T] s = if T = "int" ∨ T = "bool" ∨ T = "tuple" ∨ T = "str" then .ok (.bl (isT T "bool")) s else .bad := rfl
@[simp] theorem fIsi_non (T) : fIsi [.non, .ty T] s = if T = "int" ∨ T = "bool" ∨ T = "tuple" ∨ T = "str" then .ok (.bl (isT T "NoneType")) s else .bad := rfl
@[simp] theorem fIsi_str (ds T) : fIsi [.str ds, .ty T] s = if T = "int" ∨ T = "bool" ∨ T = "tuple" ∨ T = "str" then .ok (.bl (isT T "str")) s else .bad := rfl
@[simp] theorem fIsi_lst (ds T) : fIsi [.lst ds, .ty T] s = if T = "int" ∨ T = "bool" ∨ T = "tuple" ∨ T = "str" then .ok (.bl (isT T "list")) s else .bad := rfl
@[simp] theorem isT_ii : isT "int" "int" = true := by decide
@[simp] theorem isT_bi : isT "bool" "int" = false := by decide
@[simp] theorem isT_ib : isT "int" "bool" = true := by decide
@[simp] theorem isT_bb : isT "bool" "bool" = true := by decide
@[simp] theorem isT_tt : isT "tuple" "tuple" = true := by decide
@[simp] theorem isT_ti : isT "tuple" "int" = false := by decide
@[simp] theorem isT_tl : isT "tuple" "list" = false := by decide
@[simp] theorem isT_tn : isT "tuple" "NoneType" = false := by decide
@[simp] theorem isT_in : isT "int" "NoneType" = false := by decide
@[simp] theorem isT_it : isT "int" "tuple" = false := by decide
/-! == -/
@[simp] theorem opEqF_str (f a b) : opEqF f (.str a) (.str b) s = .ok (.bl (f (decide (a = b)))) s := rfl
@[simp] theorem opEqF_int (f i j) : opEqF f (.int i) (.int j) s = .ok (.bl (f (i == j))) s := by
  show (if SeqAt.shaped (.int i) = true ∧ SeqAt.shaped (.int j) = true then R.ok (D.bl (f (PyData.eqv (.int i) (.int j)))) s else R.bad) = _
  rw [if_pos ⟨rfl, rfl⟩]
  simp [PyData.eqv]
theorem opEqF_py {f : Bool → Bool} {x y : D} {p q : PyData} (hx : toPyS s x = some p) (hy : toPyS s y = some q) (h1 : SeqAt.shaped p = true) (h2 : SeqAt.shaped q = true) (hn : bothS x y = none) : opEqF f x y s = .ok (.bl (f (PyData.eqv p q))) s := by
  unfold opEqF
  rw [hn]
  show opEqP f x y s = _
  unfold opEqP
  rw [hx, hy]
  show (if SeqAt.shaped p = true ∧ SeqAt.shaped q = true then _ else _) = _
  rw [if_pos ⟨h1, h2⟩]
end

/-! ### loops over fixed items -/
def loopF (k : Ev → S → R Fl) : Fl → S → R Fl := fun fl s2 => match fl with
  | .nx ρ2 => k ρ2 s2
  | .ct ρ2 => k ρ2 s2
  | .bk ρ2 => .ok (.nx ρ2) s2
  | .ret d => .ok (.ret d) s2
@[simp] theorem loopF_nx (k ρ s) : loopF k (.nx ρ) s = k ρ s := rfl
@[simp] theorem loopF_ct (k ρ s) : loopF k (.ct ρ) s = k ρ s := rfl
@[simp] theorem loopF_bk (k ρ s) : loopF k (.bk ρ) s = .ok (.nx ρ) s := rfl
@[simp] theorem loopF_ret (k d s) : loopF k (.ret d) s = .ok (.ret d) s := rfl
def lloop (g : MG) (b : MS) : List D → MS
  | [], ρ, s => .ok (.nx ρ) s
  | d :: ds, ρ, s => (g d ρ s).bnd fun ρ1 s1 => (b ρ1 s1).bnd (loopF (lloop g b ds))
theorem mLoop_fix (g : MG) (b : MS) : ∀ (xs pre : List D) (ρ : Ev) (s : S), mLoop (.fix (pre ++ xs)) g b xs.length pre.length ρ s = lloop g b xs ρ s
  | [], pre, ρ, s => by simp [mLoop, srcAt, lloop]
  | d :: ds, pre, ρ, s => by
    have ih := mLoop_fix g b ds (pre ++ [d])
    simp only [List.append_assoc, List.singleton_append, List.length_append, List.length_singleton] at ih
    simp only [List.length_cons, mLoop, srcAt, lloop]
    rw [List.getElem?_append_right (Nat.le_refl _), Nat.sub_self]
    show (g d ρ s).bnd _ = _
    congr 1
    funext ρ1 s1
    congr 1
    funext fl s2
    cases fl with
    | nx ρ2 => exact ih ρ2 s2
    | ct ρ2 => exact ih ρ2 s2
    | bk ρ2 => rfl
    | ret d => rfl
@[simp] theorem mSrc_tup (m ρ s) {xs : List D} {s1 : S} (h : m ρ s = .ok (.tup xs) s1) : mSrc m ρ s = .ok (.fix xs) s1 := by unfold mSrc; rw [h]; rfl
@[simp] theorem mSrc_lst (m ρ s) {xs : List D} {s1 : S} (h : m ρ s = .ok (.lst xs) s1) : mSrc m ρ s = .ok (.fix xs) s1 := by unfold mSrc; rw [h]; rfl
/-- what is wanted behind a loop -/
def loopQ (I : Ev → S → Prop) (Qr : D → S → Prop) : Fl → S → Prop := fun fl s => match fl with
  | .nx ρ => I ρ s
  | .ret d => Qr d s
  | _ => False
@[simp] theorem loopQ_nx (I Qr ρ s) : loopQ I Qr (.nx ρ) s = I ρ s := rfl
@[simp] theorem loopQ_ret (I Qr d s) : loopQ I Qr (.ret d) s = Qr d s := rfl
def turnQ (I : Ev → S → Prop) (B : Ev → S → Prop) (Qr : D → S → Prop) : Fl → S → Prop := fun fl s => match fl with
  | .nx ρ => I ρ s
  | .ct ρ => I ρ s
  | .bk ρ => B ρ s
  | .ret d => Qr d s
@[simp] theorem turnQ_nx (I B Qr ρ s) : turnQ I B Qr (.nx ρ) s = I ρ s := rfl
@[simp] theorem turnQ_ct (I B Qr ρ s) : turnQ I B Qr (.ct ρ) s = I ρ s := rfl
@[simp] theorem turnQ_bk (I B Qr ρ s) : turnQ I B Qr (.bk ρ) s = B ρ s := rfl
@[simp] theorem turnQ_ret (I B Qr d s) : turnQ I B Qr (.ret d) s = Qr d s := rfl
/-! ### comprehensions over fixed items -/
def llc (t : Tg) (tt : MT) (el : ME) (ρw : Ev) : List D → List D → S → R (List D)
  | [], acc, s => .ok acc s
  | d :: ds, acc, s => (match tgM t d ρw with
    | some ρ1 => (noX (tt ρ1 s)).bnd fun k s1 => if k = true then (noX (el ρ1 s1)).bnd fun y s2 => llc t tt el ρw ds (acc ++ [y]) s2 else llc t tt el ρw ds acc s1
    | none => .bad)
theorem mLcGo_fix (t : Tg) (tt : MT) (el : ME) (ρw : Ev) : ∀ (xs pre acc : List D) (s : S), mLcGo (.fix (pre ++ xs)) t tt el ρw xs.length pre.length acc s = llc t tt el ρw xs acc s
  | [], pre, acc, s => by simp [mLcGo, srcAt, llc]
  | d :: ds, pre, acc, s => by
    have ih := mLcGo_fix t tt el ρw ds (pre ++ [d])
    simp only [List.append_assoc, List.singleton_append, List.length_append, List.length_singleton] at ih
    simp only [List.length_cons, mLcGo, srcAt, llc]
    rw [List.getElem?_append_right (Nat.le_refl _), Nat.sub_self]
    show (match tgM t d ρw with | some ρ1 => _ | none => _) = _
    cases tgM t d ρw with
    | none => rfl
    | some ρ1 =>
      show (noX (tt ρ1 s)).bnd _ = (noX (tt ρ1 s)).bnd _
      congr 1
      funext k s1
      cases k with
      | true =>
        rw [if_pos rfl, if_pos rfl]
        congr 1
        funext y s2
        exact ih (acc ++ [y]) s2
      | false =>
        rw [if_neg Bool.false_ne_true, if_neg Bool.false_ne_true]
        exact ih acc s1
/-- by an invariant -/
theorem wp_llc {t : Tg} {el : ME} {ρw : Ev} {I : List D → List D → S → Prop} (turn : ∀ d ds acc s, I (d :: ds) acc s → ∃ ρ1, tgM t d ρw = some ρ1 ∧ wp (el ρ1 s) fun y s1 => I ds (acc ++ [y]) s1) :
    ∀ (xs acc : List D) (s : S), I xs acc s → wp (llc t mYes el ρw xs acc s) fun ys s' => I [] ys s'
  | [], acc, s, h => h
  | d :: ds, acc, s, h => by
    obtain ⟨ρ1, h1, h2⟩ := turn d ds acc s h
    unfold llc
    rw [h1]
    simp only [mYes_eq, noX_ok, R.bnd_ok, if_true, wp_bnd, wp_noX]
    exact h2.mono fun y s1 h3 => wp_llc turn ds (acc ++ [y]) s1 h3
@[simp] theorem finL_eq (xs s) : finL xs s = .ok (.lst xs) s := rfl
@[simp] theorem finO_eq (xs s) : finO xs s = .ok (.obj s.length) (s ++ [.lst xs]) := rfl
@[simp] theorem tgM_one (i d ρ) : tgM (.one i) d ρ = some (ρ.set i (some d)) := rfl

/-! ### what is walked, opened for simp -/
def srcF : D → S → R Src := fun d s1 => match d with
  | .tup xs => .ok (.fix xs) s1
  | .lst xs => .ok (.fix xs) s1
  | .scr xs => .ok (.fix xs) s1
  | .tupF xs => .ok (.fix xs) s1
  | .obj n => (match s1[n]? with
    | some (.lst _) => .ok (.live n) s1
    | _ => .bad)
  | _ => .bad
@[simp] theorem mSrc_eq (m ρ s) : mSrc m ρ s = (m ρ s).bnd srcF := rfl
@[simp] theorem srcF_tup (xs s) : srcF (.tup xs) s = .ok (.fix xs) s := rfl
@[simp] theorem srcF_lst (xs s) : srcF (.lst xs) s = .ok (.fix xs) s := rfl
@[simp] theorem srcF_scr (xs s) : srcF (.scr xs) s = .ok (.fix xs) s := rfl
noncomputable def rng1F : List D → S → R Src := fun ds s1 => match ds with
  | [.int j] => if inR j then .ok (.fix (rngD 0 j.toNat)) s1 else .bad
  | _ => .bad
noncomputable def rng2F : List D → S → R Src := fun ds s1 => match ds with
  | [.int i, .int j] => if inR i ∧ inR j then .ok (.fix (rngD i (j - i).toNat)) s1 else .bad
  | _ => .bad
@[simp] theorem mRng1_bnd (m ρ s) : mRng1 m ρ s = (m ρ s).bnd rng1F := rfl
@[simp] theorem mRng2_bnd (m ρ s) : mRng2 m ρ s = (m ρ s).bnd rng2F := rfl
@[simp] theorem rng1F_ok {j : Int} (s) (h : -(2 ^ 62) ≤ j ∧ j < 2 ^ 62) : rng1F [.int j] s = .ok (.fix (rngD 0 j.toNat)) s := if_pos h
@[simp] theorem rng2F_ok {i j : Int} (s) (h : (-(2 ^ 62) ≤ i ∧ i < 2 ^ 62) ∧ (-(2 ^ 62) ≤ j ∧ j < 2 ^ 62)) : rng2F [.int i, .int j] s = .ok (.fix (rngD i (j - i).toNat)) s := if_pos h
def forF (g : MG) (b : MS) (ρ : Ev) : Src → S → R Fl := fun src s1 => match srcAt s1 src with
  | some xs => mLoop src g b xs.length 0 ρ s1
  | none => .bad
@[simp] theorem mFor_eq (it g b ρ s) : mFor it g b ρ s = (it ρ s).bnd (forF g b ρ) := rfl
@[simp] theorem forF_fix (g b ρ xs s) : forF g b ρ (.fix xs) s = lloop g b xs ρ s := mLoop_fix g b xs [] ρ s
def lcF (fi : List D → S → R D) (t : Tg) (tt : MT) (el : ME) (vs : List Nat) (ρ : Ev) : Src → S → R D := fun src s1 => (match srcAt s1 src with
  | some xs => if xs.length ≤ LIM ∧ (∀ i ∈ t.slots, i ∈ vs) then mLcGo src t tt el (wipeD ρ vs) xs.length 0 [] s1 else .bad
  | none => R.bad).bnd fi
theorem bnd_bnd {α β γ : Type} (r : R α) (f : α → S → R β) (g : β → S → R γ) : (r.bnd f).bnd g = r.bnd fun a s => (f a s).bnd g := by cases r <;> rfl
@[simp] theorem mLcF_eq (fi it t tt el vs ρ s) : mLcF fi it t tt el vs ρ s = (it ρ s).bnd (lcF fi t tt el vs ρ) := by
  unfold mLcF mLc0
  rw [bnd_bnd]
  rfl
theorem lcF_fix {fi : List D → S → R D} {t : Tg} {tt : MT} {el : ME} {vs : List Nat} {ρ : Ev} {s : S} {xs : List D} (hl : xs.length ≤ 1000000) (hs : (t.slots.all fun i => vs.contains i) = true) :
    lcF fi t tt el vs ρ (.fix xs) s = (llc t tt el (wipeD ρ vs) xs [] s).bnd fi := by
  show (if xs.length ≤ LIM ∧ (∀ i ∈ t.slots, i ∈ vs) then _ else R.bad).bnd fi = _
  rw [if_pos ⟨hl, fun i hi => by simpa using List.all_eq_true.1 hs i hi⟩]
  congr 1
  exact mLcGo_fix t tt el (wipeD ρ vs) xs [] [] s
@[simp] theorem lcF_rng {fi : List D → S → R D} {t : Tg} {tt : MT} {el : ME} {vs : List Nat} {ρ : Ev} {s : S} {lo : Int} {n : Nat} (hl : n ≤ 1000000) :
    lcF fi t tt el vs ρ (.fix (rngD lo n)) s = if (t.slots.all fun i => vs.contains i) = true then (llc t tt el (wipeD ρ vs) (rngD lo n) [] s).bnd fi else .bad := by
  by_cases h : (t.slots.all fun i => vs.contains i) = true
  · rw [if_pos h, lcF_fix (by rw [rngD_len]; exact hl) h]
  · rw [if_neg h]
    show (if (rngD lo n).length ≤ LIM ∧ (∀ i ∈ t.slots, i ∈ vs) then _ else R.bad).bnd fi = _
    rw [if_neg fun hh => h (List.all_eq_true.2 fun i hi => by simpa using hh.2 i hi)]
    rfl
@[simp] theorem slots_one (i) : (Tg.one i).slots = [i] := rfl
@[simp] theorem slots_many (i) : (Tg.many i).slots = i := rfl
@[simp] theorem wipeD_nil (ρ) : wipeD ρ [] = ρ := rfl
@[simp] theorem wipeD_cons (ρ v vs) : wipeD ρ (v :: vs) = (wipeD ρ vs).set v none := rfl
@[simp] theorem mListRg_eq (m ρ s) : mListRg m ρ s = (m ρ s).bnd fun d s1 => match d with
  | .int j => if rgOkD j then .ok (.lst (rngD 0 j.toNat)) s1 else .bad
  | _ => .bad := rfl
@[simp] theorem mTupRg_eq (m ρ s) : mTupRg m ρ s = (m ρ s).bnd fun d s1 => match d with
  | .int j => if rgOkD j then .ok (.tup (rngD 0 j.toNat)) s1 else .bad
  | _ => .bad := rfl
@[simp] theorem rgOk_pos {α : Type} {j : Int} {a b : α} (h : -(2 ^ 62) ≤ j ∧ j ≤ 1000) : (if rgOkD j then a else b) = a := if_pos h
@[simp] theorem mAppend_eq (mo me ρ s) : mAppend mo me ρ s = (mo ρ s).bnd fun x s1 => if isLstO s1 x = true then (me ρ s1).bnd fun y s2 => fAppend x y s2 else .bad := rfl
theorem isLstO_obj {s : S} {n : Nat} {ds : List D} (h : s[n]? = some (.lst ds)) : isLstO s (.obj n) = true := by simp [isLstO, h]
theorem fAppend_obj {s : S} {n : Nat} {ds : List D} (h : s[n]? = some (.lst ds)) (hl : ds.length < 1000000) (y : D) : fAppend (.obj n) y s = .ok .non (s.set n (.lst (ds ++ [y]))) := by
  simp [fAppend, h, hl]
@[simp] theorem opSl_tup (xs lo hi s) : opSl (.tup xs) lo hi s = .ok (.tup (cutD xs lo hi)) s := rfl
@[simp] theorem opSl_lst (xs lo hi s) : opSl (.lst xs) lo hi s = .ok (.lst (cutD xs lo hi)) s := rfl
theorem cut_to (xs : List D) (n : Nat) : cutD xs none (some (n : Int)) = xs.take n := by
  unfold cutD
  rw [HT.sIx_nat, HT.sIx_none]
  simp only [Nat.sub_zero, List.drop_zero]
  rw [Nat.min_def]
  split
  · rfl
  · rw [List.take_of_length_le (Nat.le_refl _), List.take_of_length_le (by omega)]
theorem cut_from (xs : List D) (n : Nat) : cutD xs (some (n : Int)) none = xs.drop n := by
  unfold cutD
  rw [HT.sIx_nat, HT.sIx_none, List.take_of_length_le (by rw [List.length_drop]; exact Nat.le_refl _), Nat.min_def]
  split
  · rfl
  · rw [List.drop_of_length_le (Nat.le_refl _), List.drop_of_length_le (by omega)]
@[simp] theorem rngD_length (lo n) : (rngD lo n).length = n := rngD_len
theorem rngD_0 (n : Nat) : rngD 0 n = (List.range n).map fun k => .int (k : Int) := by simp [rngD]
theorem rngD_mem {n : Nat} {d : D} (h : d ∈ rngD 0 n) : ∃ k, k < n ∧ d = .int (k : Nat) := by
  rw [rngD_0] at h
  obtain ⟨k, hk, rfl⟩ := List.mem_map.1 h
  exact ⟨k, List.mem_range.1 hk, rfl⟩
/-- numbers made one by one, nothing changed -/
theorem llc_nums {i : Nat} {el : ME} {ρw : Ev} {s : S} {b : Nat} : ∀ (xs acc : List D), (∀ d ∈ xs, ∃ x : Nat, x < b ∧ el (ρw.set i (some d)) s = .ok (.int (x : Int)) s) →
    ∃ l : List Nat, llc (.one i) mYes el ρw xs acc s = .ok (acc ++ l.map fun x => .int (x : Int)) s ∧ l.length = xs.length ∧ ∀ x ∈ l, x < b
  | [], acc, _ => ⟨[], by simp [llc], rfl, by simp⟩
  | d :: ds, acc, h => by
    obtain ⟨x, hx, e⟩ := h d (List.mem_cons_self ..)
    obtain ⟨l, h1, h2, h3⟩ := llc_nums (i := i) (el := el) (ρw := ρw) (s := s) (b := b) ds (acc ++ [.int (x : Int)]) fun x hx => h x (List.mem_cons_of_mem _ hx)
    refine ⟨x :: l, ?_, by simp [h2], fun y hy => ?_⟩
    · unfold llc
      simp [e, h1]
    · rcases List.mem_cons.1 hy with rfl | hy
      · exact hx
      · exact h3 y hy
/-- what a turn of a loop is to give: the loop is in I before each turn, in K behind it -/
def turnK (I : Ev → S → Prop) (K : Fl → S → Prop) : Fl → S → Prop := fun fl s => match fl with
  | .nx ρ => I ρ s
  | .ct ρ => I ρ s
  | .bk ρ => K (.nx ρ) s
  | .ret d => K (.ret d) s
@[simp] theorem turnK_nx (I K ρ s) : turnK I K (.nx ρ) s = I ρ s := rfl
@[simp] theorem turnK_ct (I K ρ s) : turnK I K (.ct ρ) s = I ρ s := rfl
@[simp] theorem turnK_bk (I K ρ s) : turnK I K (.bk ρ) s = K (.nx ρ) s := rfl
@[simp] theorem turnK_ret (I K d s) : turnK I K (.ret d) s = K (.ret d) s := rfl
theorem wp_loop {g : MG} {b : MS} {K : Fl → S → Prop} (I : List D → Ev → S → Prop) (turn : ∀ d ds ρ s, I (d :: ds) ρ s → wp (g d ρ s) fun ρ1 s1 => wp (b ρ1 s1) (turnK (I ds) K))
    (done : ∀ ρ s, I [] ρ s → K (.nx ρ) s) : ∀ (xs : List D) (ρ : Ev) (s : S), I xs ρ s → wp (lloop g b xs ρ s) K
  | [], ρ, s, h => done ρ s h
  | d :: ds, ρ, s, h => by
    unfold lloop
    rw [wp_bnd]
    refine (turn d ds ρ s h).mono fun ρ1 s1 h1 => ?_
    rw [wp_bnd]
    refine h1.mono fun fl s2 h2 => ?_
    cases fl with
    | nx ρ2 => exact wp_loop I turn done ds ρ2 s2 h2
    | ct ρ2 => exact wp_loop I turn done ds ρ2 s2 h2
    | bk ρ2 => exact h2
    | ret d => exact h2
theorem wp_nums {i : Nat} {el : ME} {ρw : Ev} {s : S} (b : Nat) {xs : List D} {Q : List D → S → Prop} (h : ∀ d ∈ xs, ∃ x : Nat, x < b ∧ el (ρw.set i (some d)) s = .ok (.int (x : Int)) s)
    (k : ∀ l : List Nat, l.length = xs.length → (∀ x ∈ l, x < b) → Q (l.map fun (x : Nat) => D.int (x : Int)) s) : wp (llc (.one i) mYes el ρw xs [] s) Q := by
  obtain ⟨l, h1, h2, h3⟩ := llc_nums (i := i) (el := el) (ρw := ρw) (s := s) xs [] h
  exact wp.of h1 (k l h2 h3)
@[simp] theorem lcF_nil {fi : List D → S → R D} {t : Tg} {tt : MT} {el : ME} {vs : List Nat} {ρ : Ev} {s : S} : lcF fi t tt el vs ρ (.fix []) s = if (t.slots.all fun i => vs.contains i) = true then fi [] s else .bad := by
  by_cases h : (t.slots.all fun i => vs.contains i) = true
  · rw [if_pos h, lcF_fix (by simp) h]; rfl
  · rw [if_neg h]
    show (if ([] : List D).length ≤ LIM ∧ (∀ i ∈ t.slots, i ∈ vs) then _ else R.bad).bnd fi = _
    rw [if_neg fun hh => h (List.all_eq_true.2 fun i hi => by simpa using hh.2 i hi)]
    rfl
@[simp] theorem lcF_cons {fi : List D → S → R D} {t : Tg} {tt : MT} {el : ME} {vs : List Nat} {ρ : Ev} {s : S} {x : D} {xs : List D} (hl : (x :: xs).length ≤ 1000000) :
    lcF fi t tt el vs ρ (.fix (x :: xs)) s = if (t.slots.all fun i => vs.contains i) = true then (llc t tt el (wipeD ρ vs) (x :: xs) [] s).bnd fi else .bad := by
  by_cases h : (t.slots.all fun i => vs.contains i) = true
  · rw [if_pos h, lcF_fix hl h]
  · rw [if_neg h]
    show (if (x :: xs).length ≤ LIM ∧ (∀ i ∈ t.slots, i ∈ vs) then _ else R.bad).bnd fi = _
    rw [if_neg fun hh => h (List.all_eq_true.2 fun i hi => by simpa using hh.2 i hi)]
    rfl
theorem llc_nil (t tt el ρw acc s) : llc t tt el ρw [] acc s = .ok acc s := rfl
theorem llc_cons (t tt el ρw d ds acc s) : llc t tt el ρw (d :: ds) acc s = (match tgM t d ρw with
    | some ρ1 => (noX (tt ρ1 s)).bnd fun k s1 => if k = true then (noX (el ρ1 s1)).bnd fun y s2 => llc t tt el ρw ds (acc ++ [y]) s2 else llc t tt el ρw ds acc s1
    | none => .bad) := rfl
/-! lists of numbers -/
def allI : List D → Bool
  | [] => true
  | .int _ :: ds => allI ds
  | _ => false
def ofI : List D → List Int
  | [] => []
  | .int i :: ds => i :: ofI ds
  | _ :: ds => 0 :: ofI ds
@[simp] theorem allI_nil : allI [] = true := by simp [allI]
@[simp] theorem allI_cons (i ds) : allI (.int i :: ds) = allI ds := by simp [allI]
@[simp] theorem ofI_nil : ofI [] = [] := rfl
@[simp] theorem ofI_cons (i ds) : ofI (.int i :: ds) = i :: ofI ds := rfl
@[simp] theorem allI_map (ns : List Int) : allI (ns.map D.int) = true := by induction ns <;> simp [*]
@[simp] theorem ofI_map (ns : List Int) : ofI (ns.map D.int) = ns := by induction ns <;> simp [*]
theorem allI_eq : ∀ {ds : List D}, allI ds = true → ds = (ofI ds).map D.int
  | [], _ => rfl
  | .int i :: ds, h => by simp only [ofI_cons, List.map_cons]; exact congrArg _ (allI_eq (ds := ds) h)
  | .non :: _, h => by cases h
  | .bl _ :: _, h => by cases h
  | .str _ :: _, h => by cases h
  | .tup _ :: _, h => by cases h
  | .lst _ :: _, h => by cases h
  | .scr _ :: _, h => by cases h
  | .obj _ :: _, h => by cases h
  | .glo _ :: _, h => by cases h
  | .ty _ :: _, h => by cases h
theorem toPys_ints : ∀ ns : List Int, toPys (ns.map D.int) = some (ns.map PyData.int)
  | [] => rfl
  | n :: ns => by simp [toPys, toPy, toPys_ints ns]
@[simp] theorem fSum_ints {ds : List D} (h : allI ds = true) (s) : fSum [.lst ds] s = .ok (.int (ofI ds).sum) s := by
  rw [allI_eq h, fSum_lst]
  simp
theorem any_eqv (x : Int) : ∀ ns : List Int, ((ns.map PyData.int).any fun z => PyData.eqv z (.int x)) = ns.contains x
  | [] => rfl
  | n :: ns => by
    have := any_eqv x ns
    simp only [List.map_cons, List.any_cons, List.contains_cons, this]
    congr 1
    simp only [PyData.eqv]
    exact Bool.beq_comm
theorem shaped_ints (ns : List Int) : SeqAt.shaped (.list (ns.map PyData.int)) = true := by
  have h1 : ∀ ns : List Int, PyData.canLayAll0 (ns.map PyData.int) = true := fun ns => by induction ns <;> simp_all [PyData.canLayAll0, PyData.canLay0]
  have h2 : ∀ ns : List Int, PyData.depthAll (ns.map PyData.int) = 0 := fun ns => by induction ns <;> simp_all [PyData.depthAll, PyData.depth]
  simp [SeqAt.shaped, PyData.canLay0, PyData.depth, h1, h2]
@[simp] theorem opIn_ints {f : Bool → Bool} {x : Int} {ds : List D} (h : allI ds = true) (s) : opInB f (.int x) (.lst ds) s = .ok (.bl (f ((ofI ds).contains x))) s := by
  rw [allI_eq h]
  show (match toPyS s (.int x), toPyS s (.lst ((ofI ds).map D.int)) with
    | some d, some (.list ds) => if SeqAt.shaped d = true ∧ SeqAt.shaped (.list ds) = true then R.ok (D.bl (f (ds.any fun z => PyData.eqv z d))) s else .bad
    | _, _ => .bad) = _
  rw [show toPyS s (.lst ((ofI ds).map D.int)) = some (.list ((ofI ds).map PyData.int)) by simp [toPyS, toPy, toPys_ints]]
  show (if SeqAt.shaped (.int x) = true ∧ SeqAt.shaped (.list ((ofI ds).map PyData.int)) = true then R.ok (D.bl (f (((ofI ds).map PyData.int).any fun z => PyData.eqv z (.int x)))) s else .bad) = _
  rw [if_pos ⟨rfl, shaped_ints _⟩, any_eqv]
  simp
@[simp] theorem mEnum_eq (ms ρ s) : mEnum ms ρ s = (ms ρ s).bnd enumF := rfl
@[simp] theorem enumF_tup (xs s) : enumF [.tup xs] s = .ok (.fix (enumD xs)) s := rfl
@[simp] theorem enumF_lst (xs s) : enumF [.lst xs] s = .ok (.fix (enumD xs)) s := rfl
@[simp] theorem enumD_length (xs) : (enumD xs).length = xs.length := enumD_len
end VL
namespace VL
open PySem PySem.Spec PyProof.Rows L2

/-! ### repr: what is fine to be shown -/
structure FineP (k n : Nat) (p : PyData) : Prop where
  sh : p.showable = true
  hd : p.hasDict = false
  dp : p.depth ≤ k
  lv : p.leavesShort 24 = true
  bk : p.bulk ≤ n
def Fine (k n : Nat) (d : D) : Prop := ∃ p, toPy d = some p ∧ FineP k n p
theorem FineP.mono {k n k' n' p} (h : FineP k n p) (hk : k ≤ k') (hn : n ≤ n') : FineP k' n' p := ⟨h.sh, h.hd, Nat.le_trans h.dp hk, h.lv, Nat.le_trans h.bk hn⟩
theorem Fine.mono {k n k' n' d} (h : Fine k n d) (hk : k ≤ k') (hn : n ≤ n') : Fine k' n' d := h.elim fun p h => ⟨p, h.1, h.2.mono hk hn⟩
theorem fine_non (k n) : Fine k n .non := ⟨.none, rfl, rfl, rfl, Nat.zero_le _, rfl, Nat.zero_le _⟩
theorem shown_int_len (i : Int) (h : i.natAbs < 10 ^ 20) : (PyData.shown (.int i)).length ≤ 24 := by
  show (Str.ofString (toString i)).length ≤ 24
  rw [PySem.ofString_length]
  exact Nat.le_trans (int_text_length_le10 (k := 20) (by decide) h) (by decide)
theorem fine_int (k n) (i : Int) (h : i.natAbs < 10 ^ 20) : Fine k n (.int i) := by
  refine ⟨.int i, rfl, decide_eq_true ?_, rfl, Nat.zero_le _, decide_eq_true (shown_int_len i h), Nat.zero_le _⟩
  by_cases h0 : i.natAbs = 0
  · rw [h0]; decide
  · exact Nat.lt_trans ((Nat.log2_lt h0).2 (Nat.lt_of_lt_of_le h (by decide : 10 ^ 20 ≤ 2 ^ 70))) (by decide)
theorem fine_all {k n : Nat} : ∀ ds : List D, (∀ d ∈ ds, Fine k n d) → ∃ ps, toPys ds = some ps ∧ PyData.showableAll ps = true ∧ PyData.hasDictAll ps = false ∧ PyData.depthAll ps ≤ k ∧ PyData.leavesShortAll 24 ps = true ∧ PyData.bulkAll ps ≤ ds.length * (n + 1)
  | [], _ => ⟨[], rfl, rfl, rfl, Nat.zero_le _, rfl, Nat.zero_le _⟩
  | d :: ds, h => by
    obtain ⟨p, hp, f⟩ := h d (List.mem_cons_self ..)
    obtain ⟨ps, hps, h1, h2, h3, h4, h5⟩ := fine_all ds fun x hx => h x (List.mem_cons_of_mem _ hx)
    refine ⟨p :: ps, by simp [toPys, hp, hps], by simp [PyData.showableAll, f.sh, h1], by simp [PyData.hasDictAll, f.hd, h2], by simp only [PyData.depthAll]; exact Nat.max_le.2 ⟨f.dp, h3⟩, by simp [PyData.leavesShortAll, f.lv, h4], ?_⟩
    have := f.bk
    simp only [PyData.bulkAll, List.length_cons, Nat.add_mul, Nat.one_mul]
    omega
theorem fine_tup {k n : Nat} {ds : List D} (h : ∀ d ∈ ds, Fine k n d) : Fine (k + 1) (ds.length * (n + 1)) (.tup ds) := by
  obtain ⟨ps, hps, h1, h2, h3, h4, h5⟩ := fine_all ds h
  exact ⟨.tuple ps, by simp [toPy, hps], by simpa only [PyData.showable] using h1, by simpa only [PyData.hasDict] using h2, by simp only [PyData.depth]; omega, by simpa only [PyData.leavesShort] using h4, by simpa only [PyData.bulk] using h5⟩
theorem fine_lst {k n : Nat} {ds : List D} (h : ∀ d ∈ ds, Fine k n d) : Fine (k + 1) (ds.length * (n + 1)) (.lst ds) := by
  obtain ⟨ps, hps, h1, h2, h3, h4, h5⟩ := fine_all ds h
  exact ⟨.list ps, by simp [toPy, hps], by simpa only [PyData.showable] using h1, by simpa only [PyData.hasDict] using h2, by simp only [PyData.depth]; omega, by simpa only [PyData.leavesShort] using h4, by simpa only [PyData.bulk] using h5⟩
/-- the text of a value -/
def shw (d : D) : Str := ((toPy d).getD .none).shown
theorem Fine.repr {k n : Nat} {d : D} (h : Fine k n d) (hk : k ≤ 60) (hn : n ≤ 400000) (s : S) : fRepr [d] s = .ok (.str (shw d)) s := by
  obtain ⟨p, hp, f⟩ := h
  have e : toPyS s d = some p := by
    cases d with
    | obj n => simp [toPy] at hp
    | _ => exact hp
  have e2 : p.shown.length ≤ sizeLine := by
    have := PyData.shown_le_bulk 24 (by decide) p f.lv
    have := f.bk
    rw [sizeLine_eq]
    omega
  show (match toPyS s d with | some p => (if p.showable = true ∧ p.shown.length ≤ sizeLine ∧ p.hasDict = false ∧ p.depth ≤ 60 then R.ok (D.str p.shown) s else R.bad) | none => .bad) = _
  rw [e]
  show (if p.showable = true ∧ p.shown.length ≤ sizeLine ∧ p.hasDict = false ∧ p.depth ≤ 60 then R.ok (D.str p.shown) s else R.bad) = _
  rw [if_pos ⟨f.sh, e2, f.hd, Nat.le_trans f.dp hk⟩, shw, hp]
  rfl

/-! ### systems -/
abbrev nD (n : Nat) : D := .int (n : Int)
def kD : Option Nat → D
  | none => .non
  | some n => nD n
structure Sys where
  many : Nat
  start : Nat
  ops : List (List Nat)
  kinds : List (Option Nat)
def opD (o : List Nat) : D := .tup (o.map nD)
def Sys.D (y : Sys) : D := .tup [nD y.many, nD y.start, .tup (y.ops.map opD), .tup (y.kinds.map kD)]
structure Sys.Ok (y : Sys) : Prop where
  m1 : 1 ≤ y.many
  m6 : y.many ≤ 6
  st : y.start < y.many
  o1 : 1 ≤ y.ops.length
  o6 : y.ops.length ≤ 6
  ol : ∀ o ∈ y.ops, o.length = y.many
  oe : ∀ o ∈ y.ops, ∀ x ∈ o, x < y.many
  kl : y.kinds.length = y.ops.length
  ke : ∀ k ∈ y.kinds, ∀ n, k = some n → n ≤ 9
def logD (l : List Nat) : D := .tup (l.map nD)
theorem fine_nD (k n : Nat) {i : Nat} (h : i < 10 ^ 20) : Fine k n (nD i) := fine_int k n _ (by simpa using h)
theorem fine_log {l : List Nat} {b : Nat} (h : ∀ x ∈ l, x < b) (hb : b ≤ 10 ^ 20) : Fine 1 l.length (logD l) := by
  have := fine_tup (k := 0) (n := 0) (ds := l.map nD) fun d hd => by
    obtain ⟨x, hx, rfl⟩ := List.mem_map.1 hd
    exact fine_nD _ _ (Nat.lt_of_lt_of_le (h x hx) hb)
  simpa [logD] using this
theorem fine_kD (k n : Nat) {i : Option Nat} (h : ∀ x, i = some x → x ≤ 9) : Fine k n (kD i) := by
  cases i with
  | none => exact fine_non _ _
  | some x => exact fine_nD _ _ (Nat.lt_of_le_of_lt (h x rfl) (by decide))
theorem fine_sys {y : Sys} (h : y.Ok) : Fine 3 200 y.D := by
  have h6 := h.m6
  have a : Fine 2 42 (.tup (y.ops.map opD)) := by
    have := fine_tup (k := 1) (n := 6) (ds := y.ops.map opD) fun d hd => by
      obtain ⟨o, ho, rfl⟩ := List.mem_map.1 hd
      have := fine_log (h.oe o ho) (Nat.le_trans h.m6 (by decide))
      rw [h.ol o ho] at this
      exact this.mono (Nat.le_refl _) h.m6
    refine this.mono (Nat.le_refl _) ?_
    have := h.o6
    simp only [List.length_map]
    omega
  have b : Fine 2 42 (.tup (y.kinds.map kD)) := by
    have := fine_tup (k := 0) (n := 0) (ds := y.kinds.map kD) fun d hd => by
      obtain ⟨o, ho, rfl⟩ := List.mem_map.1 hd
      exact fine_kD _ _ (h.ke o ho)
    refine this.mono (by omega) ?_
    have := h.o6
    have := h.kl
    simp only [List.length_map]
    omega
  have := fine_tup (k := 2) (n := 42) (ds := [nD y.many, nD y.start, .tup (y.ops.map opD), .tup (y.kinds.map kD)]) fun d hd => by
    simp only [List.mem_cons, List.not_mem_nil, or_false] at hd
    rcases hd with rfl | rfl | rfl | rfl
    · exact fine_nD _ _ (Nat.lt_of_le_of_lt h.m6 (by decide))
    · exact fine_nD _ _ (Nat.lt_trans h.st (Nat.lt_of_le_of_lt h.m6 (by decide)))
    · exact a
    · exact b
  exact this.mono (Nat.le_refl _) (by simp)

/-! ### the law's pen -/
/-- the pen p: digits left, a stir, a count with f draws to spare -/
def Pen (p f : Nat) (s : S) : Prop := ∃ a m c : Int, s[p]? = some (.lst [.int a, .int m, .int c]) ∧ 0 ≤ a ∧ 0 ≤ m ∧ m < 1000000007 ∧ 0 ≤ c ∧ c + f ≤ 2 ^ 60
theorem Pen.mono {p f f' : Nat} {s : S} (h : Pen p f s) (k : f' ≤ f) : Pen p f' s := by
  obtain ⟨a, m, c, h1, h2, h3, h4, h5, h6⟩ := h
  exact ⟨a, m, c, h1, h2, h3, h4, h5, by omega⟩
theorem Pen.lt {p f : Nat} {s : S} (h : Pen p f s) : p < s.length := by
  obtain ⟨a, m, c, h1, _⟩ := h
  exact (List.getElem?_eq_some_iff.1 h1).1
/-- the store but p is as before, new ones are behind -/
def Frm (p : Nat) (s s' : S) : Prop := s.length ≤ s'.length ∧ ∀ i, i < s.length → i ≠ p → s'[i]? = s[i]?
theorem Frm.refl (p s) : Frm p s s := ⟨Nat.le_refl _, fun _ _ _ => rfl⟩
theorem Frm.trans {p s s' s''} (h : Frm p s s') (k : Frm p s' s'') : Frm p s s'' := ⟨Nat.le_trans h.1 k.1, fun i hi hp => (k.2 i (Nat.lt_of_lt_of_le hi h.1) hp).trans (h.2 i hi hp)⟩
theorem Frm.set {p s} (o : O) : Frm p s (s.set p o) := ⟨by simp, fun i _ hp => by rw [List.getElem?_set_ne (Ne.symm hp)]⟩
theorem Frm.app {p s} (t : S) : Frm p s (s ++ t) := ⟨by simp, fun i hi _ => by rw [List.getElem?_append_left hi]⟩
theorem Frm.get {p s s'} (h : Frm p s s') {i : Nat} {o : O} (e : s[i]? = some o) (hp : i ≠ p) : s'[i]? = some o := by
  rw [h.2 i (List.getElem?_eq_some_iff.1 e).1 hp]; exact e
theorem Pen.app {p f s} (h : Pen p f s) (t : S) : Pen p f (s ++ t) := by
  have hl := h.lt
  obtain ⟨a, m, c, h1, h2⟩ := h
  exact ⟨a, m, c, by rw [List.getElem?_append_left hl]; exact h1, h2⟩
theorem Pen.set {p f s} (h : Pen p f s) {q : Nat} (hq : q ≠ p) (o : O) : Pen p f (s.set q o) := by
  obtain ⟨a, m, c, h1, h2⟩ := h
  exact ⟨a, m, c, by rw [List.getElem?_set_ne hq]; exact h1, h2⟩
end VL
namespace VL
open PySem PySem.Spec PyProof.Rows L2

/-! ### draws -/
theorem getset0 {p : Nat} {s : S} {o o' : O} (h : s[p]? = some o) : (s.set p o')[p]? = some o' := by
  rw [List.getElem?_set_self (List.getElem?_eq_some_iff.1 h).1]
theorem setIx_obj {p : Nat} {s : S} {xs : List D} (h : s[p]? = some (.lst xs)) {i : Nat} (hi : i < xs.length) (v : D) : setIx (.obj p) (.int (i : Int)) v s = some (s.set p (.lst (xs.set i v))) := by
  simp [setIx, h, ixN, hi]
theorem wp_pen (z : Int) (f : Nat) (hf : f ≤ 2 ^ 60) (s : S) : m__law_pen [.int z] s = .ok (.obj s.length) (s ++ [.lst [.int (if z - 10 ^ 18 > 0 then z - 10 ^ 18 else 0), .int (z % 1000000007), .int 0]]) ∧ Pen s.length f (s ++ [.lst [.int (if z - 10 ^ 18 > 0 then z - 10 ^ 18 else 0), .int (z % 1000000007), .int 0]]) := by
  constructor
  · unfold m__law_pen
    rw [mFn_eq]
    simp [initE, CPow]
  · refine ⟨(if z - 10 ^ 18 > 0 then z - 10 ^ 18 else 0), z % 1000000007, 0, by simp, ?_, ?_, ?_, ?_, ?_⟩ <;> first | omega | skip
theorem wp_cell {ns : List Int} {k : Nat} (s : S) : ∃ z : Int, m__law_cell_at [.scr (ns.map .int), nD k] s = .ok (.int z) s := by
  unfold m__law_cell_at nD
  rw [mFn_eq]
  by_cases h : k < ns.length
  · exact ⟨ns[k], by simp [initE, h]⟩
  · exact ⟨0, by simp [initE, h]⟩
theorem wp_draw {p f n : Nat} {s : S} (h : Pen p (f + 1) s) (hn : 1 ≤ n) (hn2 : n ≤ 1000) : wp (m__law_draw [.obj p, nD n] s) fun d s' => ∃ k, d = nD k ∧ k < n ∧ Pen p f s' ∧ Frm p s s' := by
  obtain ⟨a, m, c, h1, h2, h3, h4, h5, h6⟩ := h
  unfold m__law_draw nD
  rw [mFn_eq]
  have r1 := opIx_obj s h1
  have w1 := fun (s0 : S) (x y z : D) (hh : s0[p]? = some (.lst [x, y, z])) v => setIx_obj hh (i := 0) (by decide : 0 < 3) v
  have w2 := fun (s0 : S) (x y z : D) (hh : s0[p]? = some (.lst [x, y, z])) v => setIx_obj hh (i := 2) (by decide : 2 < 3) v
  have q0 : (0 : Int) < n := by omega
  have a0 := w1 s _ _ _ h1
  have a2 : ∀ v, setIx (.obj p) (.int 2) v s = _ := w2 s _ _ _ h1
  simp only [Int.ofNat_zero, Int.natCast_zero] at a0
  have key : ∀ z : Int, 0 ≤ z % (n : Int) ∧ z % (n : Int) < n := fun z => ⟨Int.emod_nonneg _ (by omega), Int.emod_lt_of_pos _ q0⟩
  have fin : ∀ z : Int, ∃ k : Nat, z % (n : Int) = k ∧ k < n := fun z => ⟨(z % (n : Int)).toNat, by have := key z; omega, by have := key z; omega⟩
  by_cases ha : 0 < a
  · simp (disch := omega) [initE, r1, ha, a0]
    obtain ⟨k, hk, hk2⟩ := fin a
    refine ⟨k, by rw [hk], hk2, ⟨a / n, m, c, by rw [getset0 h1], Int.ediv_nonneg h2 (by omega), h3, h4, h5, by omega⟩, Frm.set _⟩
  · have h1' : (s.set p (.lst ([D.int a, D.int m, D.int c].set 2 (.int (c + 1)))))[p]? = some (.lst [.int a, .int m, .int (c + 1)]) := getset0 h1
    have r2 := opIx_obj _ h1'
    simp only [List.set_cons_succ, List.set_cons_zero] at r2 a2
    have ha' : (if 0 < a then True else False) = False := by simp [ha]
    simp (disch := omega) [initE, r1, ha, a2, r2]
    obtain ⟨k, hk, hk2⟩ := fin (((m + 17 * (c + 1)) * (69621 + 2 * (c + 1)) % 2147483647 * ((m + 17 * (c + 1)) * (69621 + 2 * (c + 1)) % 2147483647) + 40503 * (c + 1) + 5) % 2147483629 * 48271 % 2147483647 / 32)
    exact ⟨k, by rw [hk], hk2, ⟨a, m, c + 1, h1', h2, h3, h4, by omega, by omega⟩, Frm.set _⟩
theorem wp_drawI {p f n : Nat} {i : Int} {s : S} (h : Pen p (f + 1) s) (hi : i = n) (hn : 1 ≤ n) (hn2 : n ≤ 1000) : wp (m__law_draw [.obj p, .int i] s) fun d s' => ∃ k : Nat, d = .int (k : Int) ∧ k < n ∧ Pen p f s' ∧ Frm p s s' := by
  subst hi
  exact wp_draw h hn hn2
theorem wp_pick {p f : Nat} {xs : List D} {s : S} (h : Pen p (f + 1) s) (h1 : 1 ≤ xs.length) (h2 : xs.length ≤ 1000) : wp (m__law_pick [.obj p, .lst xs] s) fun d s' => d ∈ xs ∧ Pen p f s' ∧ Frm p s s' := by
  unfold m__law_pick
  rw [mFn_eq]
  simp [initE]
  refine (wp_drawI h rfl h1 h2).mono fun d s1 ⟨k, e, hk, hp, hf⟩ => ?_
  subst e
  simp [hk]
  exact ⟨hp, hf⟩
/-- a row of draws -/
theorem wp_rolls {i p m f : Nat} {el : ME} {ρw : Ev} {s : S} (xs : List D) (hel : ∀ (d : D) (s : S) (Q : D → S → Prop), wp (m__law_draw [.obj p, .int (m : Int)] s) Q → wp (el (ρw.set i (some d)) s) Q)
    (hm : 1 ≤ m) (hm2 : m ≤ 1000) (h : Pen p (f + xs.length) s) :
    wp (llc (.one i) mYes el ρw xs [] s) fun ys s' => ∃ l : List Nat, ys = l.map nD ∧ l.length = xs.length ∧ (∀ x ∈ l, x < m) ∧ Pen p f s' ∧ Frm p s s' := by
  refine (wp_llc (I := fun ds acc s' => ∃ l : List Nat, acc = l.map nD ∧ l.length + ds.length = xs.length ∧ (∀ x ∈ l, x < m) ∧ Pen p (f + ds.length) s' ∧ Frm p s s') ?_ xs [] s ⟨[], rfl, by simp, by simp, h, Frm.refl _ _⟩).mono ?_
  · intro d ds acc s' ⟨l, h1, h2, h3, h4, h5⟩
    refine ⟨_, rfl, hel _ _ _ ((wp_draw (f := f + ds.length) h4 hm hm2).mono fun d s1 ⟨k, e, hk, hp, hf⟩ => ?_)⟩
    refine ⟨l ++ [k], by simp [h1, e], by simp at h2 ⊢; omega, ?_, hp, h5.trans hf⟩
    intro x hx
    rcases List.mem_append.1 hx with hx | hx
    · exact h3 x hx
    · simp at hx; omega
  · intro ys s' ⟨l, h1, h2, h3, h4, h5⟩
    exact ⟨l, h1, by simpa using h2, h3, by simpa using h4, h5⟩
theorem wp_log {y : Sys} (hy : y.Ok) {p f c : Nat} {i : Int} {s : S} (h : Pen p (f + (c + 1)) s) (hi : i = c) (hc : c ≤ 999) : wp (m__law_log [.obj p, y.D, .int i] s) fun d s' => ∃ l : List Nat, d = logD l ∧ l.length ≤ c ∧ (∀ x ∈ l, x < y.ops.length) ∧ Pen p f s' ∧ Frm p s s' := by
  subst hi
  unfold m__law_log Sys.D
  rw [mFn_eq]
  simp [initE]
  refine (wp_drawI (f := f + c) h (n := c + 1) (by simp) (by omega) (by omega)).mono fun d s1 ⟨k, e, hk, hp, hf⟩ => ?_
  subst e
  have := hy.o6
  simp (disch := omega)
  refine (wp_rolls (m := y.ops.length) (f := f) (rngD 0 k) ?_ hy.o1 (by omega) (hp.mono (by simp; omega))).mono fun ys s2 ⟨l, h1, h2, h3, h4, h5⟩ => ?_
  · intro d s Q h
    simpa using h
  · exact ⟨l, by rw [h1]; rfl, by simp at h2; omega, h3, h4, hf.trans h5⟩

/-! ### two lists in the making -/
structure Two (p q : Nat) (many n m : Nat) (s0 s : S) : Prop where
  ex : ∃ (ops : List (List Nat)) (kinds : List (Option Nat)), ops.length = n ∧ kinds.length = m ∧ (∀ o ∈ ops, o.length = many) ∧ (∀ o ∈ ops, ∀ x ∈ o, x < many) ∧ (∀ k ∈ kinds, ∀ n, k = some n → n ≤ 9) ∧
    s[q]? = some (.lst (ops.map opD)) ∧ s[q + 1]? = some (.lst (kinds.map kD))
  pq : p < q
  fr : Frm p s0 s
  ql : s0.length ≤ q
theorem Two.step {p q many n m s0 s s'} (h : Two p q many n m s0 s) (f : Frm p s s') : Two p q many n m s0 s' := by
  obtain ⟨⟨ops, kinds, h1, h2, h3, h4, h5, h6, h7⟩, hpq, hf, hq⟩ := h
  exact ⟨⟨ops, kinds, h1, h2, h3, h4, h5, f.get h6 (by omega), f.get h7 (by omega)⟩, hpq, hf.trans f, hq⟩
theorem Two.isO1 {p q many n m s0 s} (h : Two p q many n m s0 s) : isLstO s (.obj q) = true := by
  obtain ⟨⟨ops, kinds, h1, h2, h3, h4, h5, h6, h7⟩, _⟩ := h
  exact isLstO_obj h6
theorem Two.isO2 {p q many n m s0 s} (h : Two p q many n m s0 s) : isLstO s (.obj (q + 1)) = true := by
  obtain ⟨⟨ops, kinds, h1, h2, h3, h4, h5, h6, h7⟩, _⟩ := h
  exact isLstO_obj h7
theorem frm_set {p q : Nat} {s0 s : S} (h : Frm p s0 s) (hq : s0.length ≤ q) (o : O) : Frm p s0 (s.set q o) :=
  ⟨by simpa using h.1, fun i hi hp => by rw [List.getElem?_set_ne (by omega)]; exact h.2 i hi hp⟩
/-- an operation is put behind -/
theorem Two.add1 {p q many n m s0 s f} (h : Two p q many n m s0 s) (hp : Pen p f s) (hn : n < 1000) {l : List Nat} (hl : l.length = many) (hx : ∀ x ∈ l, x < many) :
    ∃ s', fAppend (.obj q) (opD l) s = .ok .non s' ∧ Two p q many (n + 1) m s0 s' ∧ Pen p f s' := by
  obtain ⟨⟨ops, kinds, h1, h2, h3, h4, h5, h6, h7⟩, hpq, hf, hq⟩ := h
  refine ⟨_, fAppend_obj h6 (by simp; omega) _, ⟨⟨ops ++ [l], kinds, by simp [h1], h2, ?_, ?_, h5, ?_, ?_⟩, hpq, frm_set hf hq _, hq⟩, hp.set (by omega) _⟩
  · intro o ho
    rcases List.mem_append.1 ho with ho | ho
    · exact h3 o ho
    · simp at ho; subst ho; exact hl
  · intro o ho
    rcases List.mem_append.1 ho with ho | ho
    · exact h4 o ho
    · simp at ho; subst ho; exact hx
  · rw [getset0 h6]; simp
  · rw [List.getElem?_set_ne (by omega)]; exact h7
/-- a kind -/
def KD (d : D) : Prop := ∃ k : Option Nat, d = kD k ∧ ∀ n, k = some n → n ≤ 9
theorem Two.add2 {p q many n m s0 s f} (h : Two p q many n m s0 s) (hp : Pen p f s) (hn : m < 1000) {d : D} (hd : KD d) :
    ∃ s', fAppend (.obj (q + 1)) d s = .ok .non s' ∧ Two p q many n (m + 1) s0 s' ∧ Pen p f s' := by
  obtain ⟨⟨ops, kinds, h1, h2, h3, h4, h5, h6, h7⟩, hpq, hf, hq⟩ := h
  obtain ⟨k, rfl, hk⟩ := hd
  refine ⟨_, fAppend_obj h7 (by simp; omega) _, ⟨⟨ops, kinds ++ [k], h1, by simp [h2], h3, h4, ?_, ?_, ?_⟩, hpq, frm_set hf (by omega) _, hq⟩, hp.set (by omega) _⟩
  · intro o ho
    rcases List.mem_append.1 ho with ho | ho
    · exact h5 o ho
    · simp at ho; subst ho; exact hk
  · rw [List.getElem?_set_ne (by omega)]; exact h6
  · rw [getset0 h7]; simp
theorem Two.start {p f : Nat} {s0 s : S} (many : Nat) (hp : Pen p f s) (hf : Frm p s0 s) (e : S) (he : e = s ++ [.lst [], .lst []]) : Two p s.length many 0 0 s0 e ∧ Pen p f e := by
  subst he
  exact ⟨⟨⟨[], [], rfl, rfl, by simp, by simp, by simp, by simp, by simp⟩, hp.lt, hf.trans (Frm.app _), hf.1⟩, hp.app _⟩
theorem Two.done {p q many n s0 s} (h : Two p q many n n s0 s) (h1 : 1 ≤ many) (h6 : many ≤ 6) (n1 : 1 ≤ n) (n6 : n ≤ 6) {st : Nat} (hs : st < many) :
    ∃ (y : Sys) (os ks : List D), y.Ok ∧ s[q]? = some (.lst os) ∧ s[q + 1]? = some (.lst ks) ∧ D.tup [nD many, nD st, .tup os, .tup ks] = y.D := by
  obtain ⟨⟨ops, kinds, e1, e2, e3, e4, e5, e6, e7⟩, _⟩ := h
  exact ⟨⟨many, st, ops, kinds⟩, _, _, ⟨h1, h6, hs, by simp; omega, by simp; omega, e3, e4, by simp; omega, e5⟩, e6, e7, rfl⟩
end VL
namespace VL
open PySem PySem.Spec PyProof.Rows L2

theorem kd_non : KD .non := ⟨none, rfl, by simp⟩
theorem kd_int {i : Int} (h0 : 0 ≤ i) (h9 : i ≤ 9) : KD (.int i) := ⟨some i.toNat, by simp only [kD]; congr 1; omega, by simp; omega⟩
def okK : D → Bool
  | .non => true
  | .int i => decide (0 ≤ i ∧ i ≤ 9)
  | _ => false
theorem kd_ok {d : D} (h : okK d = true) : KD d := by
  cases d with
  | non => exact kd_non
  | int i => exact kd_int (of_decide_eq_true h).1 (of_decide_eq_true h).2
  | _ => cases h
theorem kd_mem {d : D} {xs : List D} (h : d ∈ xs) (hx : xs.all okK = true) : KD d := kd_ok (List.all_eq_true.1 hx d h)
/-- what a maker of systems gives -/
def SysQ (p f : Nat) (s0 : S) : D → S → Prop := fun d s' => ∃ y : Sys, y.Ok ∧ d = y.D ∧ Pen p f s' ∧ Frm p s0 s'
theorem wp_drawn {p f : Nat} {s : S} (h : Pen p (f + 60) s) : wp (m__law_drawn [.obj p] s) (SysQ p f s) := by
  unfold m__law_drawn
  rw [mFn_eq]
  simp [initE]
  refine (wp_drawI (f := f + 59) (n := 6) h rfl (by omega) (by omega)).mono fun d s1 ⟨k1, e, hk1, hp1, hf1⟩ => ?_
  subst e
  simp
  refine (wp_drawI (f := f + 58) (n := 5) hp1 rfl (by omega) (by omega)).mono fun d s2 ⟨k2, e, hk2, hp2, hf2⟩ => ?_
  subst e
  obtain ⟨n1, e1, b1⟩ : ∃ n : Nat, (1 : Int) + k1 = n ∧ n = k1 + 1 := ⟨k1 + 1, by omega, rfl⟩
  obtain ⟨n2, e2, b2⟩ : ∃ n : Nat, (1 : Int) + k2 = n ∧ n = k2 + 1 := ⟨k2 + 1, by omega, rfl⟩
  obtain ⟨t1, t2⟩ := Two.start n1 hp2 (hf1.trans hf2) _ rfl
  simp (disch := omega) [e1, e2]
  refine wp_loop (fun ds ρ s' => ∃ (j : Nat) (x y : Option D), ρ = [some (.obj p), some (.int n1), some (.int n2), some (.obj s2.length), some (.obj (s2.length + 1)), x, y] ∧
    j + ds.length = n2 ∧ Two p s2.length n1 j j s s' ∧ Pen p (f + 1 + ds.length * 10) s') ?_ ?_ _ _ _ ⟨0, _, _, rfl, by simp, t1, t2.mono (by simp; omega)⟩
  · rintro d ds ρ s' ⟨j, x, y, rfl, hj, ht, hp⟩
    have hO1 := ht.isO1
    simp (disch := omega) [hO1]
    refine (wp_rolls (m := n1) (f := f + 2 + ds.length * 10) (rngD 0 n1) ?_ (by omega) (by omega) (hp.mono (by simp; omega))).mono ?_
    · intro d s Q h
      simpa using h
    rintro ys s3 ⟨l, rfl, hl, hx, hp3, hf3⟩
    obtain ⟨s4, a4, ht4, hp4⟩ := (ht.step hf3).add1 hp3 (by simp at hj; omega) (by simpa using hl) hx
    have hO2 := ht4.isO2
    rw [opD] at a4
    simp [hO2, a4]
    refine (wp_pick (f := f + 1 + ds.length * 10) (hp4.mono (by omega)) (by simp) (by simp)).mono ?_
    rintro d5 s5 ⟨hd5, hp5, hf5⟩
    obtain ⟨s6, a6, ht6, hp6⟩ := (ht4.step hf5).add2 hp5 (by simp at hj; omega) (d := d5) (kd_mem hd5 (by decide))
    simp [a6]
    exact ⟨j + 1, by simp at hj; omega, ht6, hp6⟩
  · rintro ρ s' ⟨j, x, y, rfl, hj, ht, hp⟩
    simp
    refine (wp_drawI (f := f) (n := n1) (by simpa using hp) rfl (by omega) (by omega)).mono ?_
    rintro d s3 ⟨k3, rfl, hk3, hp3, hf3⟩
    simp at hj
    subst hj
    obtain ⟨y, os, ks, hy, q1, q2, e⟩ := (ht.step hf3).done (by omega) (by omega) (by omega) (by omega) hk3
    simp [fTuple_obj _ q1, fTuple_obj _ q2]
    exact ⟨y, hy, e, hp3, (ht.step hf3).fr⟩
theorem wp_cells {p f : Nat} {s : S} (h : Pen p (f + 60) s) : wp (m__law_cells [.obj p] s) (SysQ p f s) := by
  unfold m__law_cells
  rw [mFn_eq]
  simp [initE]
  refine (wp_pick (f := f + 59) h (by simp) (by simp)).mono ?_
  rintro d1 s1 ⟨hd1, hp1, hf1⟩
  obtain ⟨hi, lo, rfl, i1, i2, i3, i4, i5⟩ : ∃ hi lo : Nat, d1 = .tup [.int hi, .int lo] ∧ 1 ≤ hi ∧ hi ≤ 6 ∧ 1 ≤ lo ∧ lo ≤ 4 ∧ hi * lo ≤ 6 := by
    simp only [List.mem_cons, List.not_mem_nil, or_false] at hd1
    rcases hd1 with rfl | rfl | rfl | rfl | rfl
    · exact ⟨2, 2, rfl, by decide⟩
    · exact ⟨2, 3, rfl, by decide⟩
    · exact ⟨3, 2, rfl, by decide⟩
    · exact ⟨1, 4, rfl, by decide⟩
    · exact ⟨6, 1, rfl, by decide⟩
  have i6 : 1 ≤ hi * lo := Nat.mul_pos i1 i3
  obtain ⟨n, en, bn⟩ : ∃ n : Nat, (hi : Int) * lo = n ∧ n = hi * lo := ⟨hi * lo, by simp, rfl⟩
  rw [← bn] at i5 i6
  simp
  refine (wp_pick (f := f + 58) (Pen.app hp1 _) (by simp) (by simp)).mono ?_
  rintro d2 s2 ⟨hd2, hp2, hf2⟩
  obtain ⟨a, b, rfl, ha, hb⟩ : ∃ a b : D, d2 = .tup [a, b] ∧ KD a ∧ KD b := by
    simp only [List.mem_cons, List.not_mem_nil, or_false] at hd2
    rcases hd2 with rfl | rfl | rfl | rfl <;> exact ⟨_, _, rfl, kd_ok (by decide), kd_ok (by decide)⟩
  obtain ⟨t1, t2⟩ := Two.start n hp1 hf1 _ rfl
  refine (wp_drawI (f := f + 57) (n := 6) hp2 rfl (by omega) (by omega)).mono ?_
  rintro d s3 ⟨k3, rfl, hk3, hp3, hf3⟩
  have t3 := t1.step (hf2.trans hf3)
  obtain ⟨n2, e2, b2⟩ : ∃ n : Nat, (1 : Int) + k3 = n ∧ n = k3 + 1 := ⟨k3 + 1, by omega, rfl⟩
  simp (disch := omega) [e2]
  refine wp_loop (fun ds ρ s' => ∃ (j : Nat) (x y z u v : Option D), ρ = [some (.obj p), some (.int hi), some (.int lo), some (.obj s1.length), some (.obj (s1.length + 1)), some (.tup [a, b]), x, y, z, u, v] ∧
    j + ds.length = n2 ∧ Two p s1.length n j j s s' ∧ Pen p (f + 1 + ds.length * 8) s') ?_ ?_ _ _ _ ⟨0, _, _, _, _, _, rfl, by simp, t3, hp3.mono (by simp; omega)⟩
  · rintro d ds ρ s' ⟨j, x, y, z, u, v, rfl, hj, ht, hp⟩
    simp at hj
    simp (disch := omega)
    refine (wp_drawI (f := f + 8 + ds.length * 8) (n := 2) (hp.mono (by simp; omega)) rfl (by omega) (by omega)).mono ?_
    rintro d s4 ⟨k4, rfl, hk4, hp4, hf4⟩
    have ht4 := ht.step hf4
    simp
    have key : ∀ v : Nat, ∀ s5, (k4 = 0 → v < hi) → (k4 = 1 → v < lo) → Frm p s4 s5 → Pen p (f + 2 + ds.length * 8) s5 → wp ((llc (.one 10) mYes
        (mIf (mB (mBin opEq (mVar 7) (mC (.int 0)))) (mBin opAdd (mBin opMul (mVar 8) (mVar 2)) (mBin opMod (mVar 10) (mVar 2))) (mBin opAdd (mBin opMul (mBin opDiv (mVar 10) (mVar 2)) (mVar 2)) (mVar 8)))
        [some (.obj p), some (.int hi), some (.int lo), some (.obj s1.length), some (.obj (s1.length + 1)), some (.tup [a, b]), some d, some (.int k4), some (.int v), u, none] (rngD 0 n) [] s5)) fun ys s6 => s6 = s5 ∧ ∃ l : List Nat, ys = l.map nD ∧ l.length = n ∧ ∀ x ∈ l, x < n := by
      intro v s5 q1 q2 q3 q4
      refine wp_nums n ?_ fun l h1 h2 => ⟨rfl, l, rfl, by simpa using h1, h2⟩
      intro d hd
      obtain ⟨k, hk, rfl⟩ := rngD_mem hd
      obtain rfl | rfl : k4 = 0 ∨ k4 = 1 := by omega
      · have q1 := q1 rfl
        refine ⟨v * lo + k % lo, ?_, ?_⟩
        · have := Nat.mod_lt k (by omega : lo > 0)
          have := Nat.mul_le_mul_right lo (by omega : v + 1 ≤ hi)
          rw [Nat.add_mul] at this
          omega
        · simp (disch := omega)
      · have q2 := q2 rfl
        refine ⟨k / lo * lo + v, ?_, ?_⟩
        · have h1 : k / lo < hi := (Nat.div_lt_iff_lt_mul (by omega)).2 (by omega)
          have := Nat.mul_le_mul_right lo (by omega : k / lo + 1 ≤ hi)
          rw [Nat.add_mul] at this
          omega
        · have h1 : k / lo ≤ k := Nat.div_le_self _ _
          have h2 : (k : Int) / lo = ((k / lo : Nat) : Int) := by simp
          generalize k / lo = q at h1 h2 ⊢
          simp (disch := omega) [h2]
    obtain rfl | rfl : k4 = 0 ∨ k4 = 1 := by omega
    all_goals
      simp [en]
      refine (wp_drawI (f := f + 2 + ds.length * 8) (n := _) (hp4.mono (by omega)) rfl (by omega) (by omega)).mono ?_
      rintro d5 s5 ⟨k5, rfl, hk5, hp5, hf5⟩
      refine (key k5 s5 (by omega) (by omega) hf5 hp5).mono ?_
      rintro ys s6 ⟨rfl, l, rfl, hl, hx⟩
      have ht5 := ht4.step hf5
      obtain ⟨s7, a7, ht7, hp7⟩ := ht5.add1 hp5 (by omega) hl hx
      rw [opD] at a7
      have hO2 := ht7.isO2
    · obtain ⟨s8, a8, ht8, hp8⟩ := ht7.add2 hp7 (by omega) ha
      simp [a7, a8, hO2, ht5.isO1]
      exact ⟨j + 1, by omega, ht8, hp8.mono (by omega)⟩
    · obtain ⟨s8, a8, ht8, hp8⟩ := ht7.add2 hp7 (by omega) hb
      simp [a7, a8, hO2, ht5.isO1]
      exact ⟨j + 1, by omega, ht8, hp8.mono (by omega)⟩
  · rintro ρ s' ⟨j, x, y, z, u, v, rfl, hj, ht, hp⟩
    simp (disch := omega) [en]
    refine (wp_drawI (f := f) (n := n) (by simpa using hp) rfl (by omega) (by omega)).mono ?_
    rintro d s3 ⟨k3, rfl, hk3, hp3, hf3⟩
    simp at hj
    subst hj
    obtain ⟨y, os, ks, hy, q1, q2, e⟩ := (ht.step hf3).done (by omega) (by omega) (by omega) (by omega) hk3
    simp [fTuple_obj _ q1, fTuple_obj _ q2]
    exact ⟨y, hy, e, hp3, (ht.step hf3).fr⟩
theorem marks_turn {r k : Nat} {mk : Int} {b : Bool} {a0 a1 a2 a3 a8 a9 a10 a11 : Option D} {s : S} {K : Fl → S → Prop} (hk : k < 4) (hm : mk = 1 ∨ mk = 2 ∨ mk = 3) (hO : isLstO s (.obj r) = true)
    (h : ∀ (x y z : Option D) (v : Nat), v < 4 → wp (fAppend (.obj r) (.int (v : Int)) s) fun _ s1 => K (.nx [a0, a1, a2, a3, some (.int mk), some (.bl b), some (.obj r), some (.int (k : Int)), x, y, z, a11]) s1) :
    wp ((mSeq (mAsg (mLc (mSrc (mTup (mCons (mC (.int 1)) (mCons (mC (.int 2)) mNil)))) (.one 11) (mB (mBin opEq (mBin opMod (mBin opDiv (mVar 7) (mVar 11)) (mC (.int 2))) (mC (.int 1)))) (mVar 11) [11]) (gN 8))
(mSeq (mAsg (mLc (mSrc (mTup (mCons (mC (.int 1)) (mCons (mC (.int 2)) mNil)))) (.one 11) (mB (mBin opEq (mBin opMod (mBin opDiv (mVar 4) (mVar 11)) (mC (.int 2))) (mC (.int 1)))) (mVar 11) [11]) (gN 9))
(mSeq (mAsg (mLcF finL (mSrc (mTup (mCons (mC (.int 1)) (mCons (mC (.int 2)) mNil)))) (.one 11) (mB (mBin opIn (mVar 11) (mBin opAdd (mVar 8) (mVar 9)))) (mVar 11) [11]) (gN 10))
(mDrop (mAppend (mVar 6) (mIf (mB (mVar 5)) (mCall fSum (mCons (mVar 10) mNil)) (mCall fSum (mCons (mLc (mSrc (mVar 8)) (.one 11) (mB (mBin opNotIn (mVar 11) (mVar 9))) (mVar 11) [11]) mNil)))))))) [a0, a1, a2, a3, some (.int mk), some (.bl b), some (.obj r), some (.int (k : Int)), a8, a9, a10, a11] s) K := by
  obtain rfl | rfl | rfl | rfl : k = 0 ∨ k = 1 ∨ k = 2 ∨ k = 3 := by omega
  all_goals
    rcases hm with rfl | rfl | rfl
    all_goals
      cases b
      all_goals
        simp [llc_cons, llc_nil, hO]
        first
          | exact h _ _ _ 0 (by decide)
          | exact h _ _ _ 1 (by decide)
          | exact h _ _ _ 2 (by decide)
          | exact h _ _ _ 3 (by decide)
end VL
namespace VL
open PySem PySem.Spec PyProof.Rows L2

theorem Two.setR {p q many n m s0 s r} (h : Two p q many n m s0 s) (h1 : r ≠ q) (h2 : r ≠ q + 1) (h3 : s0.length ≤ r) (o : O) : Two p q many n m s0 (s.set r o) := by
  obtain ⟨⟨ops, kinds, e1, e2, e3, e4, e5, e6, e7⟩, hpq, hf, hq⟩ := h
  exact ⟨⟨ops, kinds, e1, e2, e3, e4, e5, by rw [List.getElem?_set_ne h1]; exact e6, by rw [List.getElem?_set_ne h2]; exact e7⟩, hpq, frm_set hf h3 _, hq⟩
theorem Two.len {p q many n m s0 s} (h : Two p q many n m s0 s) : q + 1 < s.length := by
  obtain ⟨⟨ops, kinds, e1, e2, e3, e4, e5, e6, e7⟩, _⟩ := h
  exact (List.getElem?_eq_some_iff.1 e7).1
theorem wp_marks {p f : Nat} {s : S} (h : Pen p (f + 60) s) : wp (m__law_marks [.obj p] s) (SysQ p f s) := by
  unfold m__law_marks
  rw [mFn_eq]
  obtain ⟨t1, t2⟩ := Two.start 4 h (Frm.refl p s) _ rfl
  simp [initE]
  refine (wp_drawI (f := f + 59) (n := 5) t2 rfl (by omega) (by omega)).mono ?_
  rintro d s1 ⟨k1, rfl, hk1, hp1, hf1⟩
  obtain ⟨n2, e2, b2⟩ : ∃ n : Nat, (1 : Int) + k1 = n ∧ n = k1 + 1 := ⟨k1 + 1, by omega, rfl⟩
  simp (disch := omega) [e2]
  refine wp_loop (fun ds ρ s' => ∃ (j : Nat) (x3 x4 x5 x6 x7 x8 x9 x10 x11 : Option D), ρ = [some (.obj p), some (.obj s.length), some (.obj (s.length + 1)), x3, x4, x5, x6, x7, x8, x9, x10, x11] ∧
    j + ds.length = n2 ∧ Two p s.length 4 j j s s' ∧ Pen p (f + 1 + ds.length * 8) s') ?_ ?_ _ _ _ ⟨0, _, _, _, _, _, _, _, _, _, rfl, by simp, t1.step hf1, hp1.mono (by simp; omega)⟩
  · rintro d ds ρ s' ⟨j, x3, x4, x5, x6, x7, x8, x9, x10, x11, rfl, hj, ht, hp⟩
    simp at hj
    simp
    refine (wp_pick (f := f + 8 + ds.length * 8) (hp.mono (by simp; omega)) (by simp) (by simp)).mono ?_
    rintro d4 s4 ⟨hd4, hp4, hf4⟩
    refine (wp_drawI (f := f + 7 + ds.length * 8) (n := 4) (hp4.mono (by omega)) rfl (by omega) (by omega)).mono ?_
    rintro d5 s5 ⟨k5, rfl, hk5, hp5, hf5⟩
    have ht5 := (ht.step hf4).step hf5
    obtain ⟨mk, rfl, hmk⟩ : ∃ mk : Int, d4 = .int mk ∧ (mk = 1 ∨ mk = 2 ∨ mk = 3) := by
      simp only [List.mem_cons, List.not_mem_nil, or_false] at hd4
      rcases hd4 with rfl | rfl | rfl
      · exact ⟨_, rfl, .inl rfl⟩
      · exact ⟨_, rfl, .inr (.inl rfl)⟩
      · exact ⟨_, rfl, .inr (.inr rfl)⟩
    rw [opGt_int, wp_ok]
    refine wp_loop (fun ds2 ρ s' => ∃ (l : List Nat) (y7 y8 y9 y10 y11 : Option D), ρ = [some (.obj p), some (.obj s.length), some (.obj (s.length + 1)), some d, some (.int mk), some (.bl (decide ((0 : Int) < k5))), some (.obj s5.length), y7, y8, y9, y10, y11] ∧
      l.length + ds2.length = 4 ∧ (∀ x ∈ l, x < 4) ∧ (∀ d ∈ ds2, ∃ k : Nat, k < 4 ∧ d = .int k) ∧ s'[s5.length]? = some (.lst (l.map nD)) ∧ Two p s.length 4 j j s s' ∧ Pen p (f + 7 + ds.length * 8) s') ?_ ?_ _ _ _ ⟨[], _, _, _, _, _, rfl, by simp, by simp, fun d hd => rngD_mem hd, by simp, ht5.step (Frm.app _), hp5.app _⟩
    · rintro d6 ds6 ρ s6 ⟨l, y7, y8, y9, y10, y11, rfl, hl, hx, hds, hs, ht6, hp6⟩
      obtain ⟨k, hk, rfl⟩ := hds d6 (List.mem_cons_self ..)
      simp only [gN_eq, wp_ok, List.set_cons_succ, List.set_cons_zero]
      refine marks_turn hk hmk (isLstO_obj hs) fun x y z v hv => ?_
      simp at hl
      rw [fAppend_obj hs (by simp; omega)]
      refine ⟨l ++ [v], _, _, _, _, _, rfl, by simp; omega, ?_, fun d hd => hds d (List.mem_cons_of_mem _ hd), by rw [getset0 hs]; simp, ?_, hp6.set (by have := hp5.lt; omega) _⟩
      · intro x hx2
        rcases List.mem_append.1 hx2 with h | h
        · exact hx x h
        · simp at h; omega
      · have := ht5.len
        exact ht6.setR (by omega) (by omega) (by omega) _
    · rintro ρ s6 ⟨l, y7, y8, y9, y10, y11, rfl, hl, hx, hds, hs, ht6, hp6⟩
      obtain ⟨s7, a7, ht7, hp7⟩ := ht6.add1 hp6 (by omega) (by simpa using hl) hx
      rw [opD] at a7
      have hO2 := ht7.isO2
      simp [ht6.isO1, fTuple_obj _ hs, a7, hO2]
      refine (wp_pick (f := f + 1 + ds.length * 8) (hp7.mono (by omega)) (by simp) (by simp)).mono ?_
      rintro d8 s8 ⟨hd8, hp8, hf8⟩
      obtain ⟨s9, a9, ht9, hp9⟩ := (ht7.step hf8).add2 hp8 (by omega) (d := d8) (kd_mem hd8 (by rcases hmk with rfl | rfl | rfl <;> decide))
      simp [a9]
      trace_state
      exact ⟨j + 1, by omega, ht9, hp9⟩
  · rintro ρ s' ⟨j, x3, x4, x5, x6, x7, x8, x9, x10, x11, rfl, hj, ht, hp⟩
    simp
    refine (wp_drawI (f := f) (n := 4) (by simpa using hp) rfl (by omega) (by omega)).mono ?_
    rintro d s3 ⟨k3, rfl, hk3, hp3, hf3⟩
    simp at hj
    subst hj
    obtain ⟨y, os, ks, hy, q1, q2, e⟩ := (ht.step hf3).done (by omega) (by omega) (by omega) (by omega) hk3
    simp [fTuple_obj _ q1, fTuple_obj _ q2]
    exact ⟨y, hy, e, hp3, (ht.step hf3).fr⟩
end VL
namespace VL
open PySem PySem.Spec PyProof.Rows L2

theorem wp_turns {p f : Nat} {s : S} (h : Pen p (f + 60) s) : wp (m__law_turns [.obj p] s) (SysQ p f s) := by
  unfold m__law_turns
  rw [mFn_eq]
  simp [initE]
  refine (wp_drawI (f := f + 59) (n := 5) h rfl (by omega) (by omega)).mono ?_
  rintro d s1 ⟨k1, rfl, hk1, hp1, hf1⟩
  obtain ⟨n, e1, b1⟩ : ∃ n : Nat, (2 : Int) + k1 = n ∧ n = k1 + 2 := ⟨k1 + 2, by omega, rfl⟩
  obtain ⟨t1, t2⟩ := Two.start n hp1 hf1 _ rfl
  simp (disch := omega) [e1]
  refine (wp_drawI (f := f + 58) (n := 5) t2 rfl (by omega) (by omega)).mono ?_
  rintro d s2 ⟨k2, rfl, hk2, hp2, hf2⟩
  obtain ⟨n2, e2, b2⟩ : ∃ n : Nat, (1 : Int) + k2 = n ∧ n = k2 + 1 := ⟨k2 + 1, by omega, rfl⟩
  simp (disch := omega) [e2]
  refine wp_loop (fun ds ρ s' => ∃ (j : Nat) (x4 x5 x6 x7 x8 : Option D), ρ = [some (.obj p), some (.int n), some (.obj s1.length), some (.obj (s1.length + 1)), x4, x5, x6, x7, x8] ∧
    j + ds.length = n2 ∧ Two p s1.length n j j s s' ∧ Pen p (f + 1 + ds.length * 8) s') ?_ ?_ _ _ _ ⟨0, _, _, _, _, _, rfl, by simp, t1.step hf2, hp2.mono (by simp; omega)⟩
  · rintro d ds ρ s' ⟨j, x4, x5, x6, x7, x8, rfl, hj, ht, hp⟩
    simp at hj
    simp
    refine (wp_drawI (f := f + 8 + ds.length * 8) (n := 4) (hp.mono (by simp; omega)) rfl (by omega) (by omega)).mono ?_
    rintro d4 s4 ⟨k4, rfl, hk4, hp4, hf4⟩
    refine (wp_drawI (f := f + 7 + ds.length * 8) (n := n) (hp4.mono (by omega)) rfl (by omega) (by omega)).mono ?_
    rintro d5 s5 ⟨k5, rfl, hk5, hp5, hf5⟩
    have ht5 := (ht.step hf4).step hf5
    have hO1 := ht5.isO1
    simp (disch := omega)
    refine wp_nums n ?_ fun l0 hl0 hx0 => ?_
    · intro d hd
      obtain ⟨k, hk, rfl⟩ := rngD_mem hd
      refine ⟨(k + k5) % n, Nat.mod_lt _ (by omega), ?_⟩
      simp (disch := omega)
    obtain rfl | rfl | rfl | rfl : k4 = 0 ∨ k4 = 1 ∨ k4 = 2 ∨ k4 = 3 := by omega
    · simp (disch := omega)
      have hl : l0.length = n := by simpa using hl0
      have hx := hx0
      generalize l0 = l at hl hx
      skip
      obtain ⟨s7, a7, ht7, hp7⟩ := ht5.add1 hp5 (by omega) hl hx
      have a7 : fAppend (.obj s1.length) (.tup (l.map fun (x : Nat) => D.int (x : Int))) s5 = .ok .non s7 := a7
      have hO2 := ht7.isO2
      simp [hO1, a7, hO2]
      refine (wp_pick (f := f + 1 + ds.length * 8) (hp7.mono (by omega)) (by simp) (by simp)).mono ?_
      rintro d8 s8 ⟨hd8, hp8, hf8⟩
      obtain ⟨s9, a9, ht9, hp9⟩ := (ht7.step hf8).add2 hp8 (by omega) (d := d8) (kd_mem hd8 (by decide))
      simp [a9]
      exact ⟨j + 1, by omega, ht9, hp9⟩
    · simp (disch := omega)
      refine wp_nums n ?_ fun l hl hx => ?_
      · intro d hd
        obtain ⟨k, hk, rfl⟩ := rngD_mem hd
        refine ⟨max k k5, by omega, ?_⟩
        simp (disch := omega)
        split <;> omega
      · have hl : l.length = n := by simpa using hl
        obtain ⟨s7, a7, ht7, hp7⟩ := ht5.add1 hp5 (by omega) hl hx
        have a7 : fAppend (.obj s1.length) (.tup (l.map fun (x : Nat) => D.int (x : Int))) s5 = .ok .non s7 := a7
        have hO2 := ht7.isO2
        simp [hO1, a7, hO2]
        refine (wp_pick (f := f + 1 + ds.length * 8) (hp7.mono (by omega)) (by simp) (by simp)).mono ?_
        rintro d8 s8 ⟨hd8, hp8, hf8⟩
        obtain ⟨s9, a9, ht9, hp9⟩ := (ht7.step hf8).add2 hp8 (by omega) (d := d8) (kd_mem hd8 (by decide))
        simp [a9]
        exact ⟨j + 1, by omega, ht9, hp9⟩
    · simp (disch := omega)
      refine wp_nums n ?_ fun l hl hx => ?_
      · intro d hd
        obtain ⟨k, hk, rfl⟩ := rngD_mem hd
        exact ⟨k5, hk5, by simp⟩
      · have hl : l.length = n := by simpa using hl
        obtain ⟨s7, a7, ht7, hp7⟩ := ht5.add1 hp5 (by omega) hl hx
        have a7 : fAppend (.obj s1.length) (.tup (l.map fun (x : Nat) => D.int (x : Int))) s5 = .ok .non s7 := a7
        have hO2 := ht7.isO2
        simp [hO1, a7, hO2]
        refine (wp_pick (f := f + 1 + ds.length * 8) (hp7.mono (by omega)) (by simp) (by simp)).mono ?_
        rintro d8 s8 ⟨hd8, hp8, hf8⟩
        obtain ⟨s9, a9, ht9, hp9⟩ := (ht7.step hf8).add2 hp8 (by omega) (d := d8) (kd_mem hd8 (by decide))
        simp [a9]
        exact ⟨j + 1, by omega, ht9, hp9⟩
    · simp (disch := omega)
      rw [rngD_0]
      have hl : (List.range n).length = n := by simp
      have hx : ∀ x ∈ List.range n, x < n := fun x hx => List.mem_range.1 hx
      generalize List.range n = l at hl hx
      skip
      obtain ⟨s7, a7, ht7, hp7⟩ := ht5.add1 hp5 (by omega) hl hx
      have a7 : fAppend (.obj s1.length) (.tup (l.map fun (x : Nat) => D.int (x : Int))) s5 = .ok .non s7 := a7
      have hO2 := ht7.isO2
      simp [hO1, a7, hO2]
      refine (wp_pick (f := f + 1 + ds.length * 8) (hp7.mono (by omega)) (by simp) (by simp)).mono ?_
      rintro d8 s8 ⟨hd8, hp8, hf8⟩
      obtain ⟨s9, a9, ht9, hp9⟩ := (ht7.step hf8).add2 hp8 (by omega) (d := d8) (kd_mem hd8 (by decide))
      simp [a9]
      exact ⟨j + 1, by omega, ht9, hp9⟩
  · rintro ρ s' ⟨j, x4, x5, x6, x7, x8, rfl, hj, ht, hp⟩
    simp
    refine (wp_drawI (f := f) (n := n) (by simpa using hp) rfl (by omega) (by omega)).mono ?_
    rintro d s3 ⟨k3, rfl, hk3, hp3, hf3⟩
    simp at hj
    subst hj
    obtain ⟨y, os, ks, hy, q1, q2, e⟩ := (ht.step hf3).done (by omega) (by omega) (by omega) (by omega) hk3
    simp [fTuple_obj _ q1, fTuple_obj _ q2]
    exact ⟨y, hy, e, hp3, (ht.step hf3).fr⟩
end VL
namespace VL
open PySem PySem.Spec PyProof.Rows L2

theorem SysQ.step {p f f' : Nat} {s0 s : S} {d : D} {s' : S} (h : SysQ p f s d s') (hf : Frm p s0 s) (hk : f' ≤ f) : SysQ p f' s0 d s' := by
  obtain ⟨y, h1, h2, h3, h4⟩ := h
  exact ⟨y, h1, h2, h3.mono hk, hf.trans h4⟩
theorem wp_system {p f : Nat} {s : S} (h : Pen p (f + 100) s) : wp (m__law_system [.obj p] s) (SysQ p f s) := by
  unfold m__law_system
  rw [mFn_eq, wp_fin, mSeq_eq, wp_bnd]
  refine wp.mono (Q := fun fl s1 => ∃ k1 : Nat, k1 < 6 ∧ fl = .nx [some (.obj p), some (.int (k1 : Int)), none, none, none, none, none, none, none, none] ∧ Pen p (f + 99) s1 ∧ Frm p s s1) ?_ ?_
  · simp [initE]
    refine (wp_drawI (f := f + 99) (n := 6) h rfl (by omega) (by omega)).mono ?_
    rintro d s1 ⟨k1, rfl, hk1, hp1, hf1⟩
    exact ⟨k1, hk1, rfl, hp1, hf1⟩
  rintro fl s1 ⟨k1, hk1, rfl, hp1, hf1⟩
  rw [seqF_nx, mSeq_eq, wp_bnd]
  by_cases hz : k1 = 0
  · subst hz
    simp
    exact (wp_drawn (f := f) (hp1.mono (by omega))).mono fun d s' h => h.step hf1 (by omega)
  refine wp.of (a := .nx [some (.obj p), some (.int (k1 : Int)), none, none, none, none, none, none, none, none]) (s := s1) (by simp [hz]) ?_
  rw [seqF_nx, mSeq_eq, wp_bnd]
  refine wp.mono (Q := fun fl s2 => ∃ d2, fl = .nx [some (.obj p), some (.int (k1 : Int)), some d2, none, none, none, none, none, none, none] ∧ SysQ p (f + 39) s d2 s2) ?_ ?_
  · have made : wp (if (k1 : Int) < 3 then m__law_cells [.obj p] s1 else if (k1 : Int) = 3 then m__law_marks [.obj p] s1 else m__law_turns [.obj p] s1) (SysQ p (f + 39) s) := by
      split
      · exact (wp_cells (f := f + 39) hp1).mono fun d s' h => h.step hf1 (by omega)
      · split
        · exact (wp_marks (f := f + 39) hp1).mono fun d s' h => h.step hf1 (by omega)
        · exact (wp_turns (f := f + 39) hp1).mono fun d s' h => h.step hf1 (by omega)
    simp
    by_cases h3 : (k1 : Int) < 3
    · rw [if_pos h3] at made ⊢
      simp
      exact made
    · rw [if_neg h3] at made ⊢
      by_cases h4 : (k1 : Int) = 3
      · rw [if_pos h4] at made ⊢
        simp
        exact made
      · rw [if_neg h4] at made ⊢
        simp
        exact made
  rintro fl s2 ⟨d2, rfl, y, hy, rfl, hp2, hf2⟩
  rw [seqF_nx, mSeq_eq, wp_bnd]
  refine wp.mono (Q := fun fl s3 => (fl = .ret y.D ∧ Pen p f s3 ∧ Frm p s s3) ∨ (fl = .nx [some (.obj p), some (.int (k1 : Int)), some y.D, none, none, none, none, none, none, none] ∧ Pen p (f + 38) s3 ∧ Frm p s s3)) ?_ ?_
  · simp
    refine (wp_drawI (f := f + 38) (n := 3) hp2 rfl (by omega) (by omega)).mono ?_
    rintro d s3 ⟨k3, rfl, hk3, hp3, hf3⟩
    by_cases hk : 0 < k3
    · simp [hk]
      exact ⟨hp3.mono (by omega), hf2.trans hf3⟩
    · simp [hk]
      exact ⟨hp3, hf2.trans hf3⟩
  rintro fl s3 (⟨rfl, hp3, hf3⟩ | ⟨rfl, hp3, hf3⟩)
  · simp
    exact ⟨y, hy, rfl, hp3, hf3⟩
  rw [seqF_nx]
  have h6 := hy.m6
  have hm1 := hy.m1
  have ho6 := hy.o6
  simp [Sys.D]
  refine (wp_drawI (f := f + 37) (n := y.ops.length) hp3 rfl hy.o1 (by omega)).mono ?_
  rintro d s4 ⟨at', rfl, hat, hp4, hf4⟩
  refine (wp_drawI (f := f + 36) (n := y.many) hp4 rfl hm1 (by omega)).mono ?_
  rintro d s5 ⟨st, rfl, hst, hp5, hf5⟩
  have ho : y.ops[at'] ∈ y.ops := List.getElem_mem hat
  have hl := hy.ol _ ho
  have e1 : (st : Int) + 1 = ((st + 1 : Nat) : Int) := by omega
  have e2 : (at' : Int) + 1 = ((at' + 1 : Nat) : Int) := by omega
  simp [hat, opD, cut_to]
  refine (wp_drawI (f := f + 35) (n := y.many) hp5 rfl hm1 (by omega)).mono ?_
  rintro d s6 ⟨v, rfl, hv, hp6, hf6⟩
  rw [if_pos (by omega)]
  simp only [wp_ok, e1, cut_from]
  rw [opAdd_tup, if_pos (by simp; omega)]
  simp only [wp_ok]
  rw [if_pos (by omega)]
  simp only [wp_ok, e2, cut_from]
  rw [opAdd_tup, if_pos (by simp; omega)]
  refine ⟨⟨y.many, y.start, y.ops.take at' ++ [y.ops[at'].take st ++ [v] ++ y.ops[at'].drop (st + 1)] ++ y.ops.drop (at' + 1), y.kinds⟩, ⟨hm1, h6, hy.st, by simp; omega, by simp; omega, ?_, ?_, by have := hy.kl; simp; omega, hy.ke⟩, ?_, hp6.mono (by omega), (((hf3).trans hf4).trans hf5).trans hf6⟩
  · intro o ho
    rcases List.mem_append.1 ho with ho | ho
    · rcases List.mem_append.1 ho with ho | ho
      · exact hy.ol o (List.mem_of_mem_take ho)
      · simp at ho; subst ho; simp; omega
    · exact hy.ol o (List.mem_of_mem_drop ho)
  · intro o ho x hx
    rcases List.mem_append.1 ho with ho | ho
    · rcases List.mem_append.1 ho with ho | ho
      · exact hy.oe o (List.mem_of_mem_take ho) x hx
      · rw [List.mem_singleton] at ho
        subst ho
        rcases List.mem_append.1 hx with hx | hx
        · rcases List.mem_append.1 hx with hx | hx
          · exact hy.oe _ (List.getElem_mem hat) x (List.mem_of_mem_take hx)
          · rw [List.mem_singleton] at hx; subst hx; exact hv
        · exact hy.oe _ (List.getElem_mem hat) x (List.mem_of_mem_drop hx)
    · exact hy.oe o (List.mem_of_mem_drop ho) x hx
  · simp [Sys.D, List.map_take, List.map_drop, opD]
end VL
namespace VL
open PySem PySem.Spec PyProof.Rows L2

/-! ### systems.py -/
@[simp] theorem is_whole_int (i s) : m_is_whole [.int i] s = .ok (.bl true) s := by
  unfold m_is_whole
  rw [mFn_eq]
  simp [initE]
@[simp] theorem is_whole_non (s) : m_is_whole [.non] s = .ok (.bl false) s := by
  unfold m_is_whole
  rw [mFn_eq]
  simp [initE]
theorem is_between_int (i a b s) : m_is_between [.int i, .int a, .int b] s = .ok (.bl (decide (a ≤ i ∧ i ≤ b))) s := by
  unfold m_is_between
  rw [mFn_eq]
  by_cases h : a ≤ i
  · simp [initE, h]
  · simp [initE, h]
@[simp] theorem is_between_t {i a b : Int} (h : a ≤ i ∧ i ≤ b) (s) : m_is_between [.int i, .int a, .int b] s = .ok (.bl true) s := by
  rw [is_between_int, decide_eq_true h]
/-- all of a list's items pass -/
theorem llc_true {i : Nat} {el : ME} {ρw : Ev} {s : S} : ∀ (xs : List D) (acc : List D), (∀ d ∈ xs, el (ρw.set i (some d)) s = .ok (.bl true) s) → llc (.one i) mYes el ρw xs acc s = .ok (acc ++ List.replicate xs.length (.bl true)) s
  | [], acc, _ => by simp [llc]
  | d :: ds, acc, h => by
    have ih := llc_true (i := i) (el := el) (ρw := ρw) (s := s) ds (acc ++ [.bl true]) fun x hx => h x (List.mem_cons_of_mem _ hx)
    unfold llc
    simp [h d (List.mem_cons_self ..), ih, List.replicate_succ]
@[simp] theorem fAll_true (n : Nat) (s) : fAll [.lst (List.replicate n (.bl true))] s = .ok (.bl true) s := by
  have := fAll_lst s (List.replicate n true)
  simpa using this
theorem lcF_fixI {fi : List D → S → R D} {t : Tg} {tt : MT} {el : ME} {vs : List Nat} {ρ : Ev} {s : S} {xs : List D} (hl : xs.length ≤ 1000000) :
    lcF fi t tt el vs ρ (.fix xs) s = if (t.slots.all fun i => vs.contains i) = true then (llc t tt el (wipeD ρ vs) xs [] s).bnd fi else .bad := by
  by_cases h : (t.slots.all fun i => vs.contains i) = true
  · rw [if_pos h, lcF_fix hl h]
  · rw [if_neg h]
    show (if xs.length ≤ LIM ∧ (∀ i ∈ t.slots, i ∈ vs) then _ else R.bad).bnd fi = _
    rw [if_neg fun hh => h (List.all_eq_true.2 fun i hi => by simpa using hh.2 i hi)]
    rfl
theorem are_states_ok {o : List Nat} {n m : Nat} (h : o.length = n) (hn : n ≤ 1000) (hx : ∀ x ∈ o, x < m) (s) : m_are_states [opD o, .int n, .int m] s = .ok (.bl true) s := by
  unfold m_are_states opD
  rw [mFn_eq]
  have hl : (o.map nD).length ≤ 1000000 := by simp; omega
  have e := llc_true (i := 3) (el := mUser m_is_between (mCons (mVar 3) (mCons (mC (.int 0)) (mCons (mBin opSub (mVar 2) (mC (.int 1))) mNil)))) (ρw := [some (.tup (o.map nD)), some (.int n), some (.int m), none]) (s := s) (o.map nD) [] (by
    intro d hd
    obtain ⟨x, hx2, rfl⟩ := List.mem_map.1 hd
    have := hx x hx2
    simp (disch := omega))
  simp [initE, h, lcF_fixI hl, e]
theorem is_kind_ok {k : Option Nat} (h : ∀ n, k = some n → n ≤ 9) (s) : m_is_kind [kD k] s = .ok (.bl true) s := by
  unfold m_is_kind
  rw [mFn_eq]
  cases k with
  | none => simp [initE, kD]
  | some n =>
    have := h n rfl
    simp (disch := omega) [initE, kD]
theorem is_system_ok {y : Sys} (h : y.Ok) (s) : m_is_system [y.D] s = .ok (.bl true) s := by
  unfold m_is_system
  rw [mFn_eq]
  have h1 := h.m1
  have h6 := h.m6
  have hs := h.st
  have h7 := h.o1
  have h8 := h.o6
  have h9 := h.kl
  have l1 : (y.ops.map opD).length ≤ 1000000 := by simp; omega
  have l2 : (y.kinds.map kD).length ≤ 1000000 := by simp; omega
  have b1 : (1 : Int) ≤ y.many ∧ (y.many : Int) ≤ 6 := by omega
  have b2 : (1 : Int) ≤ y.ops.length := by omega
  have b3 : (y.ops.length : Int) ≤ 6 := by omega
  have e1 := llc_true (i := 5) (el := mUser m_are_states (mCons (mVar 5) (mCons (mVar 1) (mCons (mVar 1) mNil)))) (ρw := [some y.D, some (nD y.many), some (nD y.start), some (.tup (y.ops.map opD)), some (.tup (y.kinds.map kD)), none]) (s := s) (y.ops.map opD) [] (by
    intro d hd
    obtain ⟨o, ho, rfl⟩ := List.mem_map.1 hd
    simp [are_states_ok (h.ol o ho) (by omega) (h.oe o ho)])
  have e2 := llc_true (i := 5) (el := mUser m_is_kind (mCons (mVar 5) mNil)) (ρw := [some y.D, some (nD y.many), some (nD y.start), some (.tup (y.ops.map opD)), some (.tup (y.kinds.map kD)), none]) (s := s) (y.kinds.map kD) [] (by
    intro d hd
    obtain ⟨o, ho, rfl⟩ := List.mem_map.1 hd
    simp [is_kind_ok (h.ke o ho)])
  simp only [Sys.D] at e1 e2
  simp (disch := omega) [initE, Sys.D, lcF_fixI l1, lcF_fixI l2, e1, e2, h9, b2, b3, h7, h8]
theorem need_system_ok {y : Sys} (h : y.Ok) (s) : m_need_system [y.D] s = .ok .non s := by
  unfold m_need_system
  rw [mFn_eq]
  simp [initE, is_system_ok h]
/-- one step, a log -/
def Sys.step (y : Sys) (st e : Nat) : Nat := (y.ops.getD e []).getD st 0
def Sys.run (y : Sys) (st : Nat) (l : List Nat) : Nat := l.foldl y.step st
theorem Sys.Ok.step_lt {y : Sys} (h : y.Ok) {st e : Nat} (hs : st < y.many) (he : e < y.ops.length) : y.step st e < y.many := by
  unfold Sys.step
  have ho : y.ops[e] ∈ y.ops := List.getElem_mem he
  have h1 := h.ol _ ho
  have h2 : st < y.ops[e].length := by omega
  simp only [List.getD_eq_getElem?_getD, List.getElem?_eq_getElem he, List.getElem?_eq_getElem h2, Option.getD_some]
  exact h.oe _ ho _ (List.getElem_mem _)
/-- the program's way to the next state -/
theorem ix_ops (y : Sys) (s) : opIx y.D (.int 2) s = .ok (.tup (y.ops.map opD)) s := by simp [Sys.D]
theorem ix_op {y : Sys} {e : Nat} (he : e < y.ops.length) (s) : opIx (.tup (y.ops.map opD)) (.int (e : Int)) s = .ok (opD (y.ops.getD e [])) s := by
  simp [he]
theorem ix_state {y : Sys} (h : y.Ok) {st e : Nat} (hs : st < y.many) (he : e < y.ops.length) (s : S) : opIx (opD (y.ops.getD e [])) (.int (st : Int)) s = .ok (.int (y.step st e : Nat)) s := by
  have ho : y.ops[e] ∈ y.ops := List.getElem_mem he
  have h1 := h.ol _ ho
  have h2 : st < y.ops[e].length := by omega
  simp [he, opD, h2, Sys.step]
theorem loop_run {y : Sys} (h : y.Ok) : ∀ (l : List Nat) (st : Nat) (x : Option D) (d2 : D) (s : S), st < y.many → (∀ x ∈ l, x < y.ops.length) →
    ∃ x', lloop (gN 3) (mAsg (mBin opIx (mBin opIx (mBin opIx (mVar 0) (mC (.int 2))) (mVar 3)) (mVar 1)) (gN 1)) (l.map nD) [some y.D, some (nD st), some d2, x] s = .ok (.nx [some y.D, some (nD (y.run st l)), some d2, x']) s
  | [], st, x, d2, s, hs, hx => ⟨x, rfl⟩
  | e :: l, st, x, d2, s, hs, hx => by
    have he := hx e (List.mem_cons_self ..)
    obtain ⟨x', ih⟩ := loop_run h l (y.step st e) (some (nD e)) d2 s (h.step_lt hs he) fun x hm => hx x (List.mem_cons_of_mem _ hm)
    refine ⟨x', ?_⟩
    simp only [List.map_cons]
    unfold lloop
    have s2 := ix_op he s
    have s3 := ix_state h hs he s
    simp only [mAsg_eq, mBin_eq, mVar_eq, mC_eq, gN_eq, R.bnd_ok, List.set_cons_succ, List.set_cons_zero, get_0, List.getElem?_cons_succ, vg_some, ix_ops, s2, s3, loopF_nx]
    exact ih
theorem law_run_ok {y : Sys} (h : y.Ok) {l : List Nat} {st : Nat} (hs : st < y.many) (hx : ∀ x ∈ l, x < y.ops.length) (s) : m__law_run [y.D, nD st, logD l] s = .ok (nD (y.run st l)) s := by
  unfold m__law_run
  rw [mFn_eq]
  obtain ⟨x', e⟩ := loop_run h l st none (logD l) s hs hx
  simp only [logD, nD] at e
  simp [initE, logD, e]
/-- the law's comparison of two equal values -/
theorem same_ok {k n : Nat} {d : D} (h : Fine k n d) (hk : k ≤ 60) (hn : n ≤ 400000) (s) : m__law_same [d, d] s = .ok (.bl true) s := by
  unfold m__law_same
  rw [mFn_eq]
  simp [initE, h.repr hk hn]
end VL
namespace VL
open PySem PySem.Spec PyProof.Rows L2
/-- a law that walks some cells, a pen for each -/
theorem law_frame {c : Int} {N : Nat} {B : MS} {ns : List Int} (hc : 1 ≤ c ∧ c ≤ 100)
    (hb : ∀ (k : D) (p : Nat) (s : S) (rest : Ev), rest.length = N → Pen p (2 ^ 59) s → wp (B (some (.scr (ns.map D.int)) :: some k :: some (.obj p) :: rest) s) fun fl _ => ∃ t : Ev, t.length = N + 2 ∧ fl = .nx (some (.scr (ns.map D.int)) :: t)) :
    ∃ s', mFn (N + 3) (mSeq (mFor (mRng1 (mCons (mCall fMax2 (mCons (mC (.int 1)) (mCons (mCall fMin2 (mCons (mCall fLen (mCons (mVar 0) mNil)) (mCons (mC (.int c)) mNil))) mNil))) mNil)) (gN 1)
      (mSeq (mAsg (mUser m__law_pen (mCons (mUser m__law_cell_at (mCons (mVar 0) (mCons (mVar 1) mNil))) mNil)) (gN 2)) B)) (mRet (mC (.bl true)))) [.scr (ns.map D.int)] [] = .ok (.bl true) s' := by
  have key : wp (mFn (N + 3) (mSeq (mFor (mRng1 (mCons (mCall fMax2 (mCons (mC (.int 1)) (mCons (mCall fMin2 (mCons (mCall fLen (mCons (mVar 0) mNil)) (mCons (mC (.int c)) mNil))) mNil))) mNil)) (gN 1)
      (mSeq (mAsg (mUser m__law_pen (mCons (mUser m__law_cell_at (mCons (mVar 0) (mCons (mVar 1) mNil))) mNil)) (gN 2)) B)) (mRet (mC (.bl true)))) [.scr (ns.map D.int)] []) fun d _ => d = .bl true := by
    rw [mFn_eq, wp_fin, mSeq_eq, wp_bnd]
    have e0 : initE (N + 3) [.scr (ns.map D.int)] = some (.scr (ns.map D.int)) :: List.replicate (N + 2) none := by simp [initE]
    rw [e0]
    have e1 : ∃ j : Nat, mRng1 (mCons (mCall fMax2 (mCons (mC (.int 1)) (mCons (mCall fMin2 (mCons (mCall fLen (mCons (mVar 0) mNil)) (mCons (mC (.int c)) mNil))) mNil))) mNil) (some (.scr (ns.map D.int)) :: List.replicate (N + 2) none) [] = .ok (.fix (rngD 0 j)) [] := by
      simp
      split <;> split <;> exact ⟨_, rng1F_ok _ (by omega)⟩
    obtain ⟨j, e1⟩ := e1
    rw [mFor_eq, e1]
    simp only [R.bnd_ok, forF_fix]
    refine wp_loop (fun ds ρ s => (∀ d ∈ ds, ∃ k : Nat, d = .int (k : Int)) ∧ ∃ t : Ev, t.length = N + 2 ∧ ρ = some (.scr (ns.map D.int)) :: t) ?_ ?_ _ _ _ ⟨fun d hd => ?_, _, by simp, rfl⟩
    · rintro d ds ρ s ⟨hd, t, ht, rfl⟩
      obtain ⟨k, rfl⟩ := hd d (List.mem_cons_self ..)
      obtain ⟨t0, t1, rest, rfl⟩ : ∃ t0 t1 rest, t = t0 :: t1 :: rest := by
        match t, ht with
        | t0 :: t1 :: rest, _ => exact ⟨t0, t1, rest, rfl⟩
      simp only [gN_eq, wp_ok, List.set_cons_succ, List.set_cons_zero]
      rw [mSeq_eq, wp_bnd]
      obtain ⟨z, hz⟩ := wp_cell (ns := ns) (k := k) s
      obtain ⟨hp1, hp2⟩ := wp_pen z (2 ^ 59) (by decide) s
      simp only [nD] at hz
      simp only [mAsg_eq, mUser_eq, mCons_eq, mNil_eq, mVar_eq, get_0, List.getElem?_cons_succ, vg_some, R.bnd_ok, hz, retag_ok, hp1, gN_eq, List.set_cons_succ, List.set_cons_zero, wp_ok, seqF_nx]
      refine (hb _ _ _ rest (by simpa using ht) hp2).mono ?_
      rintro fl s2 ⟨t, ht, rfl⟩
      exact ⟨fun d hd2 => hd d (List.mem_cons_of_mem _ hd2), t, ht, rfl⟩
    · rintro ρ s ⟨hd, t, ht, rfl⟩
      simp
    · obtain ⟨k, hk, rfl⟩ := rngD_mem hd
      exact ⟨k, rfl⟩
  obtain ⟨a, s', e, rfl⟩ := key.ok
  exact ⟨s', e⟩
/-- a right log -/
def LogOk (y : Sys) (c : Nat) (l : List Nat) : Prop := l.length ≤ c ∧ ∀ x ∈ l, x < y.ops.length
end VL
namespace VL
open PySem PySem.Spec PyProof.Rows L2

/-! ### in -/
def plainK : D → Bool
  | .non | .bl _ | .int _ => true
  | _ => false
theorem plain_py {d : D} (h : plainK d = true) (s : S) : ∃ p, toPy d = some p ∧ toPyS s d = some p ∧ PyData.canLay0 p = true ∧ p.depth = 0 := by
  cases d with
  | non => exact ⟨_, rfl, rfl, rfl, rfl⟩
  | bl b => exact ⟨_, rfl, rfl, rfl, rfl⟩
  | int i => exact ⟨_, rfl, rfl, rfl, rfl⟩
  | _ => cases h
theorem plain_eqv {a b : D} (ha : plainK a = true) (hb : plainK b = true) {p q : PyData} (hp : toPy a = some p) (hq : toPy b = some q) : PyData.eqv p q = eqF a b := by
  cases a with
  | non => cases b <;> first | (cases hb; done) | (simp only [toPy, Option.some.injEq] at hp hq; subst hp; subst hq; simp [PyData.eqv, eqF])
  | bl b => cases b <;> cases ‹D› <;> first | (cases hb; done) | (simp only [toPy, Option.some.injEq] at hp hq; subst hp; subst hq; simp [PyData.eqv, eqF])
  | int i => cases b <;> first | (cases hb; done) | (simp only [toPy, Option.some.injEq] at hp hq; subst hp; subst hq; simp [PyData.eqv, eqF])
  | _ => cases ha
theorem plain_pys : ∀ {ds : List D}, ds.all plainK = true → ∃ ps, toPys ds = some ps ∧ PyData.canLayAll0 ps = true ∧ PyData.depthAll ps = 0 ∧ ∀ x q, plainK x = true → toPy x = some q → (ps.any fun z => PyData.eqv z q) = anyF x ds
  | [], _ => ⟨[], rfl, rfl, rfl, fun _ _ _ _ => rfl⟩
  | d :: ds, h => by
    simp only [List.all_cons, Bool.and_eq_true] at h
    obtain ⟨p, h1, _, h3, h4⟩ := plain_py h.1 []
    obtain ⟨ps, g1, g2, g3, g4⟩ := plain_pys h.2
    refine ⟨p :: ps, by simp [toPys, h1, g1], by simp [PyData.canLayAll0, h3, g2], by simp [PyData.depthAll, h4, g3], fun x q hx hq => ?_⟩
    simp only [List.any_cons, anyF, plain_eqv h.1 hx h1 hq]
    exact congrArg _ (g4 x q hx hq)
theorem opIn_objK {f : Bool → Bool} {x : D} {ds : List D} {n : Nat} {s : S} (hx : plainK x = true) (h : ds.all plainK = true) (hs : s[n]? = some (.lst ds)) : opInB f x (.obj n) s = .ok (.bl (f (anyF x ds))) s := by
  obtain ⟨p, _, h2, h3, h4⟩ := plain_py hx s
  obtain ⟨ps, g1, g2, g3, g4⟩ := plain_pys h
  show (match toPyS s x, toPyS s (.obj n) with
    | some d, some (.list ds) => if SeqAt.shaped d = true ∧ SeqAt.shaped (.list ds) = true then R.ok (D.bl (f (ds.any fun z => PyData.eqv z d))) s else .bad
    | _, _ => .bad) = _
  rw [h2, show toPyS s (.obj n) = some (.list ps) by simp [toPyS, hs, g1]]
  show (if SeqAt.shaped p = true ∧ SeqAt.shaped (.list ps) = true then R.ok (D.bl (f (ps.any fun z => PyData.eqv z p))) s else .bad) = _
  rw [if_pos ⟨by simp [SeqAt.shaped, h3, h4], by simp [SeqAt.shaped, PyData.canLay0, PyData.depth, g2, g3]⟩, g4 x p hx ‹_›]
theorem plain_flat {d : D} (h : plainK d = true) : flatD d = true := by cases d <;> first | rfl | cases h
theorem opIn_tupK {f : Bool → Bool} {x : D} {ds : List D} (hx : plainK x = true) (h : ds.all plainK = true) (s : S) : opInB f x (.tup ds) s = .ok (.bl (f (anyF x ds))) s := by
  show (if flatD x = true ∧ ds.all flatD = true then R.ok (D.bl (f (anyF x ds))) s else .bad) = _
  rw [if_pos ⟨plain_flat hx, List.all_eq_true.2 fun d hd => plain_flat (List.all_eq_true.1 h d hd)⟩]
@[simp] theorem plainK_kD (k) : plainK (kD k) = true := by cases k <;> rfl
theorem all_nD (ks : List Nat) : (ks.map nD).all plainK = true := List.all_eq_true.2 fun d hd => by
  obtain ⟨x, _, rfl⟩ := List.mem_map.1 hd
  rfl
theorem anyF_nD (k : Nat) : ∀ ks : List Nat, anyF (nD k) (ks.map nD) = ks.contains k
  | [] => rfl
  | j :: ks => by
    have := anyF_nD k ks
    simp only [anyF, List.map_cons, List.any_cons, List.contains_cons] at this ⊢
    rw [this]
    congr 1
    simp only [eqF]
    by_cases e : j = k
    · subst e; simp
    · have e' : ¬ (j : Int) = k := by omega
      have e2 : ¬ k = j := fun z => e z.symm
      simp [e', e2, beq_eq_false_iff_ne.2 e, beq_eq_false_iff_ne.2 e2]

/-! ### items picked by what stands ahead and behind -/
def pickL (p : List Nat → Nat → List Nat → Bool) : List Nat → List Nat → List Nat
  | _, [] => []
  | pre, e :: rest => if p pre e rest = true then e :: pickL p (pre ++ [e]) rest else pickL p (pre ++ [e]) rest
def enumK (k : Nat) (l : List Nat) : List D := (l.zipIdx k).map fun p => .tup [.int (p.2 : Nat), .int (p.1 : Nat)]
@[simp] theorem enumK_nil (k) : enumK k [] = [] := rfl
@[simp] theorem enumK_cons (k e l) : enumK k (e :: l) = .tup [.int (k : Nat), .int (e : Nat)] :: enumK (k + 1) l := rfl
/-! compacting -/
def Sys.kd (y : Sys) (e : Nat) : Option Nat := y.kinds.getD e none
def Sys.cmp (y : Sys) : List Nat → List Nat
  | [] => []
  | e :: l => if y.kd e = none ∨ y.kd e ∉ l.map y.kd then e :: y.cmp l else y.cmp l
def Sys.cmpP (y : Sys) : List Nat → Nat → List Nat → Bool := fun _ e rest => decide (y.kd e = none ∨ y.kd e ∉ rest.map y.kd)
/-! firsts -/
def firstP : List Nat → Nat → List Nat → Bool := fun pre e _ => !pre.contains e
def firstsL (l : List Nat) : List Nat := pickL firstP [] l
end VL
namespace VL
open PySem PySem.Spec PyProof.Rows L2

/-! ### the reachable states, by breadth -/
abbrev Fnd := List (Nat × List Nat)
def visit (a : Nat × List Nat) (k : Nat) (o : List Nat) (f : Fnd) : Fnd := if o.getD a.1 0 ∈ f.map (·.1) then f else f ++ [(o.getD a.1 0, a.2 ++ [k])]
def rowFrom (a : Nat × List Nat) : Nat → List (List Nat) → Fnd → Fnd
  | _, [], f => f
  | k, o :: os, f => rowFrom a (k + 1) os (visit a k o f)
def Sys.bfs (y : Sys) : Nat → Nat → Fnd → Fnd
  | 0, _, f => f
  | n + 1, at', f => if at' < f.length then y.bfs n (at' + 1) (rowFrom (f.getD at' (0, [])) 0 y.ops f) else f
def Sys.paths (y : Sys) : Fnd := y.bfs 2000 0 [(y.start, [])]
def Sys.states (y : Sys) : List Nat := y.paths.map (·.1)
structure FOk (y : Sys) (f : Fnd) : Prop where
  nd : (f.map (·.1)).Nodup
  lt : ∀ p ∈ f, p.1 < y.many
  lg : ∀ p ∈ f, ∀ x ∈ p.2, x < y.ops.length
  ll : ∀ p ∈ f, p.2.length < f.length
theorem nodup_len : ∀ (n : Nat) (l : List Nat), l.Nodup → (∀ x ∈ l, x < n) → l.length ≤ n
  | 0, l, _, h => by
    cases l with
    | nil => simp
    | cons a l => exact absurd (h a (List.mem_cons_self ..)) (by omega)
  | n + 1, l, hd, h => by
    have ih := nodup_len n (l.erase n) (hd.erase n) fun x hx => by
      have h1 := h x (List.mem_of_mem_erase hx)
      have h2 : x ≠ n := fun e => by
        subst e
        exact hd.not_mem_erase hx
      omega
    have : l.length ≤ (l.erase n).length + 1 := by
      rw [List.length_erase]
      split <;> omega
    omega
theorem FOk.len {y : Sys} {f : Fnd} (h : FOk y f) : f.length ≤ y.many := by
  have := nodup_len y.many (f.map (·.1)) h.nd fun x hx => by
    obtain ⟨p, hp, rfl⟩ := List.mem_map.1 hx
    exact h.lt p hp
  simpa using this
theorem FOk.visit {y : Sys} (hy : y.Ok) {f : Fnd} (h : FOk y f) {a : Nat × List Nat} (ha : a ∈ f) {k : Nat} {o : List Nat} (ho : y.ops[k]? = some o) : FOk y (visit a k o f) := by
  unfold VL.visit
  split
  · exact h
  · rename_i hn
    have hk : k < y.ops.length := (List.getElem?_eq_some_iff.1 ho).1
    have hom : o ∈ y.ops := List.mem_of_getElem? ho
    have hlen := hy.ol o hom
    have hlt : o.getD a.1 0 < y.many := by
      have h1 : a.1 < o.length := by rw [hlen]; exact h.lt a ha
      simp only [List.getD_eq_getElem?_getD, List.getElem?_eq_getElem h1, Option.getD_some]
      exact hy.oe o hom _ (List.getElem_mem _)
    refine ⟨?_, fun p hp => ?_, fun p hp x hx => ?_, fun p hp => ?_⟩
    · rw [List.map_append]
      refine List.nodup_append.2 ⟨h.nd, by simp, fun x hx z hz e => hn ?_⟩
      have hz' : z = o.getD a.1 0 := by simpa only [List.map_cons, List.map_nil, List.mem_singleton] using hz
      exact hz' ▸ e ▸ hx
    · rcases List.mem_append.1 hp with hp | hp
      · exact h.lt p hp
      · simp at hp; subst hp; exact hlt
    · rcases List.mem_append.1 hp with hp | hp
      · exact h.lg p hp x hx
      · simp at hp; subst hp
        rcases List.mem_append.1 hx with hx | hx
        · exact h.lg a ha x hx
        · simp at hx; subst hx; exact hk
    · rw [List.length_append, List.length_singleton]
      rcases List.mem_append.1 hp with hp | hp
      · have := h.ll p hp
        omega
      · have := h.ll a ha
        rw [List.mem_singleton] at hp
        subst hp
        rw [List.length_append, List.length_singleton]
        omega
theorem visit_mem {a b : Nat × List Nat} {k o f} (h : b ∈ f) : b ∈ visit a k o f := by
  unfold visit
  split
  · exact h
  · exact List.mem_append_left _ h
theorem visit_pre {a : Nat × List Nat} {k o f} : ∃ t, visit a k o f = f ++ t := by
  unfold visit
  split
  · exact ⟨[], by simp⟩
  · exact ⟨_, rfl⟩
theorem FOk.row {y : Sys} (hy : y.Ok) {a : Nat × List Nat} : ∀ (os pre : List (List Nat)) {f : Fnd}, y.ops = pre ++ os → FOk y f → a ∈ f → FOk y (rowFrom a pre.length os f)
  | [], pre, f, _, h, _ => h
  | o :: os, pre, f, e, h, ha => by
    have h1 := h.visit hy ha (k := pre.length) (o := o) (by rw [e]; simp)
    have := FOk.row hy os (pre ++ [o]) (by rw [e]; simp) h1 (visit_mem ha)
    simpa [rowFrom] using this
theorem FOk.bfs {y : Sys} (hy : y.Ok) : ∀ (n at' : Nat) {f : Fnd}, FOk y f → FOk y (y.bfs n at' f)
  | 0, _, _, h => h
  | n + 1, at', f, h => by
    unfold Sys.bfs
    split
    · rename_i hl
      have hm : f.getD at' (0, []) ∈ f := by
        rw [List.getD_eq_getElem?_getD, List.getElem?_eq_getElem hl, Option.getD_some]
        exact List.getElem_mem _
      exact FOk.bfs hy n (at' + 1) (FOk.row hy y.ops [] rfl h hm)
    · exact h
theorem FOk.start {y : Sys} (hy : y.Ok) : FOk y [(y.start, [])] := ⟨by simp, by simpa using hy.st, by simp, by simp⟩
theorem paths_ok {y : Sys} (hy : y.Ok) : FOk y y.paths := FOk.bfs hy _ _ (FOk.start hy)
end VL
namespace VL
open PySem PySem.Spec PyProof.Rows L2

theorem wp_while {t : MT} {b : MS} {K : Fl → S → Prop} (I : Nat → Ev → S → Prop) (zero : ∀ ρ s, ¬ I 0 ρ s)
    (turn : ∀ n ρ s, I (n + 1) ρ s → wp (t ρ s) fun k s1 => if k = true then wp (b ρ s1) (turnK (I n) K) else K (.nx ρ) s1) :
    ∀ (n : Nat) (ρ : Ev) (s : S), I n ρ s → wp (mWhile t b n ρ s) K
  | 0, ρ, s, h => absurd h (zero ρ s)
  | n + 1, ρ, s, h => by
    unfold mWhile
    rw [wp_bnd]
    refine (turn n ρ s h).mono fun k s1 h1 => ?_
    cases k with
    | false => exact h1
    | true =>
      rw [if_pos rfl] at h1
      rw [if_pos rfl, wp_bnd]
      refine wp.mono h1 fun fl s2 h2 => ?_
      cases fl with
      | nx ρ2 => exact wp_while I zero turn n ρ2 s2 h2
      | ct ρ2 => exact wp_while I zero turn n ρ2 s2 h2
      | bk ρ2 => exact h2
      | ret d => exact h2
def pairD (p : Nat × List Nat) : D := .tup [nD p.1, logD p.2]
/-- operations with their numbers -/
def enumO (k : Nat) (os : List (List Nat)) : List D := (os.zipIdx k).map fun p => .tup [.int (p.2 : Nat), opD p.1]
theorem enumD_ops (os : List (List Nat)) : enumD (os.map opD) = enumO 0 os := by
  unfold enumD enumO
  rw [List.zipIdx_map, List.map_map]
  rfl
@[simp] theorem enumO_nil (k) : enumO k [] = [] := rfl
@[simp] theorem enumO_cons (k o os) : enumO k (o :: os) = .tup [.int (k : Nat), opD o] :: enumO (k + 1) os := rfl
theorem set2a (s : S) (a b c : O) : (s ++ [a, b]).set s.length c = s ++ [c, b] := by rw [List.set_append_right _ _ (Nat.le_refl _)]; simp
theorem set2b (s : S) (a b c : O) : (s ++ [a, b]).set (s.length + 1) c = s ++ [a, c] := by rw [List.set_append_right _ _ (by omega)]; simp
theorem get2a (s : S) (a b : O) : (s ++ [a, b])[s.length]? = some a := by simp
theorem get2b (s : S) (a b : O) : (s ++ [a, b])[s.length + 1]? = some b := by rw [List.getElem?_append_right (by omega)]; simp
/-- the law's own paths -/
theorem law_paths_ok {y : Sys} (hy : y.Ok) (s : S) : wp (m__law_paths [y.D] s) fun d s' => d = .obj s.length ∧ s' = s ++ [.lst (y.paths.map pairD), .lst (y.states.map nD)] := by
  unfold m__law_paths
  rw [mFn_eq]
  have e1 : ∀ s, opIx y.D (.int 1) s = .ok (.int (y.start : Int)) s := fun s => by simp [Sys.D]
  simp [initE, e1]
  refine wp_while (fun n ρ s' => ∃ (at' : Nat) (f : Fnd) (x4 x5 x6 : Option D), FOk y f ∧ at' ≤ f.length ∧ y.many + 1 ≤ at' + n ∧ n ≤ 2000 ∧ y.bfs n at' f = y.paths ∧ s' = s ++ [.lst (f.map pairD), .lst (f.map fun p => nD p.1)] ∧
    ρ = [some y.D, some (.obj s.length), some (.int (at' : Int)), some (.obj (s.length + 1)), x4, x5, x6]) ?_ ?_ 2000 _ _ ⟨0, [(y.start, [])], _, _, _, FOk.start hy, by simp, by have := hy.m6; omega, by omega, rfl, by simp [pairD, logD], rfl⟩
  · rintro ρ s' ⟨at', f, x4, x5, x6, hf, h1, h2, _⟩
    have := hf.len
    omega
  · rintro n ρ s' ⟨at', f, x4, x5, x6, hf, h1, h2, h3, hb, rfl, rfl⟩
    have g1 : (s ++ [O.lst (f.map pairD), O.lst (f.map fun p => nD p.1)])[s.length]? = some (.lst (f.map pairD)) := by simp
    have t1 := fLen_obj _ g1
    simp only [mB_eq, mBin_eq, mVar_eq, get_0, List.getElem?_cons_succ, vg_some, R.bnd_ok, mCall_eq, mCons_eq, mNil_eq, t1, opLt_int, asB_ok, wp_ok, List.length_map]
    by_cases hl : at' < f.length
    · rw [if_pos (decide_eq_true (by omega))]
      rw [mSeq_eq, wp_bnd]
      have ha : f[at'] ∈ f := List.getElem_mem hl
      have hfa : f.getD at' (0, []) = f[at'] := by rw [List.getD_eq_getElem?_getD, List.getElem?_eq_getElem hl, Option.getD_some]
      have step : y.bfs (n + 1) at' f = y.bfs n (at' + 1) (rowFrom f[at'] 0 y.ops f) := by
        conv => lhs; unfold Sys.bfs
        rw [if_pos hl, hfa]
      rw [step] at hb
      simp only [mFor_eq, mEnum_eq, mCons_eq, mNil_eq, mBin_eq, mVar_eq, mC_eq, get_0, vg_some, R.bnd_ok, ix_ops, enumF_tup, forF_fix, enumD_ops]
      refine wp_loop (fun ds ρ s2 => ∃ (pre os : List (List Nat)) (g : Fnd) (x4 x5 x6 : Option D), y.ops = pre ++ os ∧ ds = enumO pre.length os ∧ FOk y g ∧ (∃ t, g = f ++ t) ∧ rowFrom f[at'] pre.length os g = rowFrom f[at'] 0 y.ops f ∧
        s2 = s ++ [.lst (g.map pairD), .lst (g.map fun p => nD p.1)] ∧ ρ = [some y.D, some (.obj s.length), some (.int (at' : Int)), some (.obj (s.length + 1)), x4, x5, x6]) ?_ ?_ _ _ _ ⟨[], y.ops, f, _, _, _, rfl, rfl, hf, ⟨[], by simp⟩, rfl, rfl, rfl⟩
      · rintro d ds ρ s2 ⟨pre, os, g, x4, x5, x6, ho, hd, hg, ⟨t, ht⟩, hr, rfl, rfl⟩
        cases os with
        | nil => cases hd
        | cons o os =>
          rw [enumO_cons] at hd
          injection hd with hd1 hd2
          subst hd1 hd2
          have hko : y.ops[pre.length]? = some o := by rw [ho]; simp
          have hom : o ∈ y.ops := List.mem_of_getElem? hko
          have hag : f[at'] ∈ g := by rw [ht]; exact List.mem_append_left _ ha
          have hlt : (f[at']).1 < o.length := by rw [hy.ol o hom]; exact hf.lt _ ha
          have hgl := hg.len
          have hm6 := hy.m6
          have i1 : ∀ s3 : S, s3[s.length]? = some (.lst (g.map pairD)) → opIx (.obj s.length) (.int (at' : Int)) s3 = .ok (pairD f[at']) s3 := fun s3 h3 => by
            rw [opIx_obj _ h3, atI_nat', List.getElem?_map, ht, List.getElem?_append_left hl, List.getElem?_eq_getElem hl]
            rfl
          have i2 : ∀ s3 : S, opIx (pairD f[at']) (.int 0) s3 = .ok (nD (f[at']).1) s3 := fun s3 => by simp [pairD]
          have i4 : ∀ s3 : S, opIx (pairD f[at']) (.int 1) s3 = .ok (logD (f[at']).2) s3 := fun s3 => by simp [pairD]
          have i3 : ∀ s3 : S, opIx (opD o) (nD (f[at']).1) s3 = .ok (nD (o.getD (f[at']).1 0)) s3 := fun s3 => by simp [opD, hlt]
          have m1 : opNotIn (nD (o.getD (f[at']).1 0)) (.obj (s.length + 1)) (s ++ [.lst (g.map pairD), .lst (g.map fun p => nD p.1)]) = .ok (.bl (!(g.map (·.1)).contains (o.getD (f[at']).1 0))) (s ++ [.lst (g.map pairD), .lst (g.map fun p => nD p.1)]) := by
            have hh : (g.map fun p => nD p.1) = (g.map (·.1)).map nD := by simp
            rw [show opNotIn (nD (o.getD (f[at']).1 0)) (.obj (s.length + 1)) (s ++ [.lst (g.map pairD), .lst (g.map fun p => nD p.1)]) = _ from opIn_objK (f := fun b => !b) rfl (by rw [hh]; exact all_nD _) (get2b ..), hh, anyF_nD]
          have hv := hg.visit hy hag hko
          simp only [nD] at i2 i3 m1
          simp only [gT_eq, gConsM_eq, gN_eq, gNilM_eq, List.length_cons, List.length_nil, Nat.reduceAdd, if_true, R.bnd_ok, wp_ok, List.set_cons_succ, List.set_cons_zero, mSeq_eq, mAsg_eq, mBin_eq, mVar_eq, mC_eq, get_0, List.getElem?_cons_succ, vg_some, i1 _ (get2a ..), i2, i3, seqF_nx, mIfS_eq, mB_eq, m1, asB_ok]
          rw [rowFrom] at hr
          by_cases hin : o.getD (f[at']).1 0 ∈ g.map (·.1)
          · have hc : (g.map (·.1)).contains (o.getD (f[at']).1 0) = true := by simpa only [List.contains_iff_mem] using hin
            have hvv : visit f[at'] pre.length o g = g := by unfold visit; rw [if_pos hin]
            rw [hvv] at hr
            simp only [hc, Bool.not_true, Bool.false_eq_true, if_false, mSkip_eq, wp_ok, turnK_nx]
            exact ⟨pre ++ [o], os, g, _, _, _, by rw [ho]; simp, by simp, hg, ⟨t, ht⟩, by simpa using hr, rfl, rfl⟩
          · have hc : (g.map (·.1)).contains (o.getD (f[at']).1 0) = false := by
              have := mt List.contains_iff_mem.1 hin
              simpa using this
            have hvv : visit f[at'] pre.length o g = g ++ [(o.getD (f[at']).1 0, (f[at']).2 ++ [pre.length])] := by unfold visit; rw [if_neg hin]
            rw [hvv] at hr hv
            have o1 : isLstO (s ++ [O.lst (g.map pairD), .lst (g.map fun p => nD p.1)]) (.obj (s.length + 1)) = true := isLstO_obj (get2b ..)
            have a1 := fAppend_obj (get2b s (.lst (g.map pairD)) (.lst (g.map fun p => nD p.1))) (by simp; omega) (.int ((o.getD (f[at']).1 0 : Nat) : Int))
            rw [set2b] at a1
            have o2 : isLstO (s ++ [O.lst (g.map pairD), .lst ((g.map fun p => nD p.1) ++ [.int ((o.getD (f[at']).1 0 : Nat) : Int)])]) (.obj s.length) = true := isLstO_obj (get2a ..)
            have a2 := fun d => fAppend_obj (get2a s (.lst (g.map pairD)) (.lst ((g.map fun p => nD p.1) ++ [.int ((o.getD (f[at']).1 0 : Nat) : Int)]))) (by simp; omega) d
            simp only [set2a] at a2
            have hll : (f[at']).2.length + 1 ≤ 1000000 := by
              have := hf.ll _ ha
              have := hf.len
              omega
            simp only [hc, Bool.not_false, if_true, mSeq_eq, mDrop_eq, mAppend_eq, mVar_eq, get_0, List.getElem?_cons_succ, vg_some, R.bnd_ok, o1, a1, seqF_nx, o2, mTup_eq, mCons_eq, mNil_eq, mBin_eq, mC_eq, i1 _ (get2a ..), i4, logD, List.length_cons, List.length_nil, Nat.reduceAdd, LIM_eq, Nat.reduceLeDiff, opAdd_tup, List.length_map, hll, a2, wp_ok, turnK_nx]
            refine ⟨pre ++ [o], os, _, _, _, _, by rw [ho]; simp, by simp, hv, ⟨t ++ [(o.getD (f[at']).1 0, (f[at']).2 ++ [pre.length])], by rw [ht]; simp⟩, by simpa using hr, ?_, rfl⟩
            simp [pairD, logD]
      · rintro ρ s2 ⟨pre, os, g, x4, x5, x6, ho, hd, hg, ⟨t, ht⟩, hr, rfl, rfl⟩
        cases os with
        | cons o os => cases hd
        | nil =>
          rw [rowFrom] at hr
          subst hr
          have hlen : at' + 1 ≤ (rowFrom f[at'] 0 y.ops f).length := by rw [ht]; simp; omega
          have e3 : (at' : Int) + 1 = ((at' + 1 : Nat) : Int) := by omega
          simp only [seqF_nx, mAsg_eq, mBin_eq, mVar_eq, get_0, List.getElem?_cons_succ, vg_some, R.bnd_ok, mC_eq, opAdd_int, gN_eq, List.set_cons_succ, List.set_cons_zero, wp_ok, turnK_nx]
          exact ⟨at' + 1, _, _, _, _, hg, hlen, by omega, by omega, hb, rfl, by rw [e3]⟩
    · rw [if_neg (by simp; omega)]
      have : y.bfs (n + 1) at' f = f := by unfold Sys.bfs; rw [if_neg hl]
      rw [this] at hb
      subst hb
      simp [Sys.states]
end VL
namespace VL
open PySem PySem.Spec PyProof.Rows L2

def kvD (p : Nat × List Nat) : D × D := (nD p.1, logD p.2)
theorem look_kv (st : Nat) : ∀ f : Fnd, look keyD (f.map kvD) (Sum.inl (st : Int)) = (f.find? fun p => decide (p.1 = st)).map fun p => logD p.2
  | [] => rfl
  | p :: f => by
    have ih := look_kv st f
    unfold look at ih ⊢
    simp only [List.map_cons, List.find?_cons]
    have e : decide (keyD (kvD p).1 = some (Sum.inl (st : Int))) = decide (p.1 = st) := by
      simp only [kvD, keyD, Option.some.injEq, Sum.inl.injEq]
      apply decide_eq_decide.2
      omega
    rw [e]
    by_cases h : p.1 = st
    · simp [h, kvD]
    · simp only [h, decide_false]
      exact ih
theorem look_some {y : Sys} {f : Fnd} (h : (f.map (·.1)).Nodup) {a : Nat × List Nat} (ha : a ∈ f) : look keyD (f.map kvD) (Sum.inl (a.1 : Int)) = some (logD a.2) := by
  rw [look_kv]
  induction f with
  | nil => cases ha
  | cons p f ih =>
    rw [List.find?_cons]
    by_cases e : p.1 = a.1
    · simp only [e, decide_true]
      rcases List.mem_cons.1 ha with rfl | ha
      · rfl
      · simp only [List.map_cons, List.nodup_cons] at h
        exact absurd (e ▸ List.mem_map_of_mem ha) h.1
    · simp only [e, decide_false]
      rcases List.mem_cons.1 ha with rfl | ha
      · exact absurd rfl e
      · simp only [List.map_cons, List.nodup_cons] at h
        exact ih h.2 ha
theorem look_none {f : Fnd} {st : Nat} : (look keyD (f.map kvD) (Sum.inl (st : Int))).isSome = decide (st ∈ f.map (·.1)) := by
  rw [look_kv, Option.isSome_map]
  by_cases h : st ∈ f.map (·.1)
  · rw [decide_eq_true h, List.find?_isSome]
    obtain ⟨p, hp, e⟩ := List.mem_map.1 h
    exact ⟨p, hp, decide_eq_true e⟩
  · rw [decide_eq_false h]
    cases hh : f.find? fun p => decide (p.1 = st) with
    | none => rfl
    | some p =>
      have h1 := List.find?_some hh
      have h2 := List.mem_of_find?_eq_some hh
      exact absurd (of_decide_eq_true h1 ▸ List.mem_map_of_mem h2) h
theorem put_new {f : Fnd} {st : Nat} {v : D} (h : st ∉ f.map (·.1)) : put keyD (f.map kvD) (nD st) (Sum.inl (st : Int)) v = f.map kvD ++ [(nD st, v)] := by
  unfold put
  rw [if_neg]
  intro z
  obtain ⟨p, hp, e⟩ := List.any_eq_true.1 z
  obtain ⟨q, hq, rfl⟩ := List.mem_map.1 hp
  have e := of_decide_eq_true e
  simp only [kvD, keyD, Option.some.injEq, Sum.inl.injEq] at e
  have e : q.1 = st := by omega
  exact h (e ▸ List.mem_map_of_mem hq)
theorem paths_of_ok {y : Sys} (hy : y.Ok) (s : S) : wp (m_paths_of [y.D] s) fun d s' => d = .obj s.length ∧ s' = s ++ [.dct (y.paths.map kvD), .lst (y.states.map nD)] := by
  unfold m_paths_of
  rw [mFn_eq]
  have e1 : ∀ s, opIx y.D (.int 1) s = .ok (.int (y.start : Int)) s := fun s => by simp [Sys.D]
  have d1 : ∀ ρ : Ev, ρ[0]? = some (some y.D) → mDisp1 (mBin opIx (mVar 0) (mC (.int 1))) (mTup mNil) ρ s = .ok (.obj s.length) (s ++ [.dct [(nD y.start, logD [])]]) := fun ρ h => by
    unfold mDisp1
    simp [h, e1, keyD, logD]
  have hi : initE 7 [y.D] = [some y.D, none, none, none, none, none, none] := rfl
  rw [hi, mSeq_eq, mAsg_eq, d1 _ rfl]
  simp [e1]
  refine wp_while (fun n ρ s' => ∃ (at' : Nat) (f : Fnd) (x4 x5 x6 : Option D), FOk y f ∧ at' ≤ f.length ∧ y.many + 1 ≤ at' + n ∧ n ≤ 2000 ∧ y.bfs n at' f = y.paths ∧ s' = s ++ [.dct (f.map kvD), .lst (f.map fun p => nD p.1)] ∧
    ρ = [some y.D, some (.obj s.length), some (.obj (s.length + 1)), some (.int (at' : Int)), x4, x5, x6]) ?_ ?_ 2000 _ _ ⟨0, [(y.start, [])], _, _, _, FOk.start hy, by simp, by have := hy.m6; omega, by omega, rfl, by simp [kvD, logD], rfl⟩
  · rintro ρ s' ⟨at', f, x4, x5, x6, hf, h1, h2, _⟩
    have := hf.len
    omega
  · rintro n ρ s' ⟨at', f, x4, x5, x6, hf, h1, h2, h3, hb, rfl, rfl⟩
    have g1 := get2b s (.dct (f.map kvD)) (.lst (f.map fun p => nD p.1))
    have t1 := fLen_obj _ g1
    simp only [mB_eq, mBin_eq, mVar_eq, get_0, List.getElem?_cons_succ, vg_some, R.bnd_ok, mCall_eq, mCons_eq, mNil_eq, t1, opLt_int, asB_ok, wp_ok, List.length_map]
    by_cases hl : at' < f.length
    · rw [if_pos (decide_eq_true (by omega))]
      have ha : f[at'] ∈ f := List.getElem_mem hl
      have hfa : f.getD at' (0, []) = f[at'] := by rw [List.getD_eq_getElem?_getD, List.getElem?_eq_getElem hl, Option.getD_some]
      have step : y.bfs (n + 1) at' f = y.bfs n (at' + 1) (rowFrom f[at'] 0 y.ops f) := by
        conv => lhs; unfold Sys.bfs
        rw [if_pos hl, hfa]
      rw [step] at hb
      have i1 : opIx (.obj (s.length + 1)) (.int (at' : Int)) (s ++ [.dct (f.map kvD), .lst (f.map fun p => nD p.1)]) = .ok (nD (f[at']).1) (s ++ [.dct (f.map kvD), .lst (f.map fun p => nD p.1)]) := by
        rw [opIx_obj _ g1, atI_nat', List.getElem?_map, List.getElem?_eq_getElem hl]
        rfl
      have aug : ∀ x4 x5 x6 : Option D, ∀ s2 : S, mAugAdd 3 (mC (.int 1)) [some y.D, some (.obj s.length), some (.obj (s.length + 1)), some (.int (at' : Int)), x4, x5, x6] s2 = .ok (.nx [some y.D, some (.obj s.length), some (.obj (s.length + 1)), some (.int (at' + 1 : Nat)), x4, x5, x6]) s2 := fun x4 x5 x6 s2 => rfl
      rw [mSeq_eq, wp_bnd, mAsg_eq]
      simp only [mBin_eq, mVar_eq, get_0, List.getElem?_cons_succ, vg_some, R.bnd_ok, i1, gN_eq, List.set_cons_succ, List.set_cons_zero, wp_ok, seqF_nx]
      rw [mSeq_eq, wp_bnd, aug]
      simp only [wp_ok, seqF_nx, mFor_eq, mEnum_eq, mCons_eq, mNil_eq, mBin_eq, mVar_eq, mC_eq, get_0, vg_some, R.bnd_ok, ix_ops, enumF_tup, forF_fix, enumD_ops]
      refine wp_loop (fun ds ρ s2 => ∃ (pre os : List (List Nat)) (g : Fnd) (x5 x6 : Option D), y.ops = pre ++ os ∧ ds = enumO pre.length os ∧ FOk y g ∧ (∃ t, g = f ++ t) ∧ rowFrom f[at'] pre.length os g = rowFrom f[at'] 0 y.ops f ∧
        s2 = s ++ [.dct (g.map kvD), .lst (g.map fun p => nD p.1)] ∧ ρ = [some y.D, some (.obj s.length), some (.obj (s.length + 1)), some (.int (at' + 1 : Nat)), some (.int ((f[at']).1 : Nat)), x5, x6]) ?_ ?_ _ _ _ ⟨[], y.ops, f, _, _, rfl, rfl, hf, ⟨[], by simp⟩, rfl, rfl, rfl⟩
      · rintro d ds ρ s2 ⟨pre, os, g, x5, x6, ho, hd, hg, ⟨t, ht⟩, hr, rfl, rfl⟩
        cases os with
        | nil => cases hd
        | cons o os =>
          rw [enumO_cons] at hd
          injection hd with hd1 hd2
          subst hd1 hd2
          have hko : y.ops[pre.length]? = some o := by rw [ho]; simp
          have hom : o ∈ y.ops := List.mem_of_getElem? hko
          have hag : f[at'] ∈ g := by rw [ht]; exact List.mem_append_left _ ha
          have hlt : (f[at']).1 < o.length := by rw [hy.ol o hom]; exact hf.lt _ ha
          have hgl := hg.len
          have hm6 := hy.m6
          have i3 : ∀ s3 : S, opIx (opD o) (.int ((f[at']).1 : Int)) s3 = .ok (.int (o.getD (f[at']).1 0 : Nat)) s3 := fun s3 => by simp [opD, hlt]
          have dg : ∀ st : Nat, ∀ b : O, dgetD (s ++ [.dct (g.map kvD), b]) (.obj s.length) (.int (st : Int)) = some (look keyD (g.map kvD) (Sum.inl (st : Int))) := fun st b => by
            unfold dgetD
            simp only [get2a]
            rfl
          have m1 : opNotInD (.int (o.getD (f[at']).1 0 : Nat)) (.obj s.length) (s ++ [.dct (g.map kvD), .lst (g.map fun p => nD p.1)]) = .ok (.bl (!decide (o.getD (f[at']).1 0 ∈ g.map (·.1)))) (s ++ [.dct (g.map kvD), .lst (g.map fun p => nD p.1)]) := by
            show opInU (fun b => !b) _ _ _ = _
            unfold opInU
            rw [dg]
            show R.ok (D.bl (!(look keyD (g.map kvD) (Sum.inl ((o.getD (f[at']).1 0 : Nat) : Int))).isSome)) _ = _
            rw [look_none]
          have i4 : opIxU (.obj s.length) (.int ((f[at']).1 : Int)) (s ++ [.dct (g.map kvD), .lst (g.map fun p => nD p.1)]) = .ok (logD (f[at']).2) (s ++ [.dct (g.map kvD), .lst (g.map fun p => nD p.1)]) := by
            unfold opIxU
            rw [dg, look_some (y := y) hg.nd hag]
          have hv := hg.visit hy hag hko
          simp only [gT_eq, gConsM_eq, gN_eq, gNilM_eq, List.length_cons, List.length_nil, Nat.reduceAdd, if_true, R.bnd_ok, wp_ok, List.set_cons_succ, List.set_cons_zero, mIfS_eq, mB_eq, mBin_eq, mVar_eq, get_0, List.getElem?_cons_succ, vg_some, i3, m1, asB_ok]
          rw [rowFrom] at hr
          by_cases hin : o.getD (f[at']).1 0 ∈ g.map (·.1)
          · have hvv : visit f[at'] pre.length o g = g := by unfold visit; rw [if_pos hin]
            rw [hvv] at hr
            simp only [decide_eq_true hin, Bool.not_true, Bool.false_eq_true, if_false, mSkip_eq, wp_ok, turnK_nx]
            exact ⟨pre ++ [o], os, g, _, _, by rw [ho]; simp, by simp, hg, ⟨t, ht⟩, by simpa using hr, rfl, rfl⟩
          · have hvv : visit f[at'] pre.length o g = g ++ [(o.getD (f[at']).1 0, (f[at']).2 ++ [pre.length])] := by unfold visit; rw [if_neg hin]
            rw [hvv] at hr hv
            have hll : (f[at']).2.length + 1 ≤ 1000000 := by
              have := hf.ll _ ha
              have := hf.len
              omega
            have st1 : ∀ v, setIxU (.obj s.length) (.int (o.getD (f[at']).1 0 : Nat)) v (s ++ [.dct (g.map kvD), .lst (g.map fun p => nD p.1)]) = some (s ++ [.dct (g.map kvD ++ [(nD (o.getD (f[at']).1 0), v)]), .lst (g.map fun p => nD p.1)]) := fun v => by
              unfold setIxU dputD
              simp only [get2a]
              show (match (some (Sum.inl ((o.getD (f[at']).1 0 : Nat) : Int)) : Option Key).bind (fun k => if (g.map kvD).length < LIM then some ((s ++ [O.dct (g.map kvD), O.lst (g.map fun p => nD p.1)]).set s.length (O.dct (put keyD (g.map kvD) (.int (o.getD (f[at']).1 0 : Nat)) k v))) else none) with | some s' => some s' | none => _) = _
              rw [Option.bind_some, if_pos (by simp; omega), put_new hin, set2a]
            have o1 : ∀ A : O, isLstO (s ++ [A, .lst (g.map fun p => nD p.1)]) (.obj (s.length + 1)) = true := fun A => isLstO_obj (get2b ..)
            have a1 := fun A d => fAppend_obj (get2b s A (.lst (g.map fun p => nD p.1))) (by simp; omega) d
            simp only [set2b] at a1
            simp only [decide_eq_false hin, Bool.not_false, if_true, mSeq_eq, mAsg_eq, mBin_eq, mVar_eq, get_0, List.getElem?_cons_succ, vg_some, R.bnd_ok, i4, mTup_eq, mCons_eq, mNil_eq, List.length_cons, List.length_nil, Nat.reduceAdd, LIM_eq, Nat.reduceLeDiff, logD, opAdd_tup, List.length_map, hll, gIxU, i3, st1, seqF_nx, mDrop_eq, mAppend_eq, o1, a1, wp_ok, turnK_nx]
            refine ⟨pre ++ [o], os, _, _, _, by rw [ho]; simp, by simp, hv, ⟨t ++ [(o.getD (f[at']).1 0, (f[at']).2 ++ [pre.length])], by rw [ht]; simp⟩, by simpa using hr, ?_, rfl⟩
            simp [kvD, logD]
      · rintro ρ s2 ⟨pre, os, g, x5, x6, ho, hd, hg, ⟨t, ht⟩, hr, rfl, rfl⟩
        cases os with
        | cons o os => cases hd
        | nil =>
          rw [rowFrom] at hr
          subst hr
          have hlen : at' + 1 ≤ (rowFrom f[at'] 0 y.ops f).length := by rw [ht]; simp; omega
          simp only [turnK_nx]
          exact ⟨at' + 1, _, _, _, _, hg, hlen, by omega, by omega, hb, rfl, rfl⟩
    · rw [if_neg (by simp; omega)]
      have : y.bfs (n + 1) at' f = f := by unfold Sys.bfs; rw [if_neg hl]
      rw [this] at hb
      subst hb
      simp [Sys.states]
end VL
namespace VL
open PySem PySem.Spec PyProof.Rows L2

/-- ascending -/
def srt (l : List Nat) : List Nat := (isort (l.map fun (n : Nat) => (n : Int))).map Int.toNat
theorem srt_D (l : List Nat) : (isort (l.map fun (n : Nat) => (n : Int))).map D.int = (srt l).map nD := by
  unfold srt
  rw [List.map_map]
  refine List.map_congr_left fun x hx => ?_
  have := (isort_perm _).mem_iff.1 hx
  obtain ⟨n, _, rfl⟩ := List.mem_map.1 this
  simp
theorem srt_mem {l : List Nat} {x : Nat} : x ∈ srt l ↔ x ∈ l := by
  unfold srt
  rw [List.mem_map]
  constructor
  · rintro ⟨z, hz, rfl⟩
    obtain ⟨n, hn, rfl⟩ := List.mem_map.1 ((isort_perm _).mem_iff.1 hz)
    simpa using hn
  · intro h
    exact ⟨x, (isort_perm _).mem_iff.2 (List.mem_map_of_mem h), by simp⟩
theorem keyI_kv : ∀ f : Fnd, keyI (f.map kvD) = some (f.map fun p => (p.1 : Int))
  | [] => rfl
  | p :: f => by
    have := keyI_kv f
    simp only [List.map_cons, kvD, keyI] at this ⊢
    rw [this]
    rfl
def Sys.reach (y : Sys) : List Nat := srt y.states
theorem reach_lt {y : Sys} (hy : y.Ok) {x : Nat} (h : x ∈ y.reach) : x < y.many := by
  have := srt_mem.1 h
  obtain ⟨p, hp, rfl⟩ := List.mem_map.1 this
  exact (paths_ok hy).lt p hp
end VL
namespace VL
open PySem PySem.Spec PyProof.Rows L2

theorem mLcGo_live {n : Nat} {t : Tg} {el : ME} {ρw : Ev} {s : S} {xs : List D} {f : D → D} (h : s[n]? = some (.lst xs)) (hp : ∀ d ∈ xs, ∃ ρ1, tgM t d ρw = some ρ1 ∧ el ρ1 s = .ok (f d) s) :
    ∀ (m i : Nat) (acc : List D), i + m = xs.length → mLcGo (.live n) t mYes el ρw m i acc s = .ok (acc ++ (xs.drop i).map f) s
  | 0, i, acc, e => by
    have hs : srcAt s (.live n) = some xs := by simp [srcAt, h]
    simp only [mLcGo, hs]
    rw [if_pos (by omega), List.drop_of_length_le (by omega)]
    simp
  | m + 1, i, acc, e => by
    have hs : srcAt s (.live n) = some xs := by simp [srcAt, h]
    have hi : i < xs.length := by omega
    obtain ⟨ρ1, h1, h2⟩ := hp xs[i] (List.getElem_mem hi)
    have ih := mLcGo_live h hp m (i + 1) (acc ++ [f xs[i]]) (by omega)
    simp only [mLcGo, hs, List.getElem?_eq_getElem hi, h1, mYes_eq, noX_ok, R.bnd_ok, if_true, h2, ih]
    rw [List.drop_eq_getElem_cons hi, List.map_cons, List.append_assoc, List.singleton_append]
theorem lcF_live {n : Nat} {fi : List D → S → R D} {t : Tg} {el : ME} {vs : List Nat} {ρ : Ev} {s : S} {xs : List D} {f : D → D} (h : s[n]? = some (.lst xs)) (hl : xs.length ≤ 1000000) (hs : (t.slots.all fun i => vs.contains i) = true)
    (hp : ∀ d ∈ xs, ∃ ρ1, tgM t d (wipeD ρ vs) = some ρ1 ∧ el ρ1 s = .ok (f d) s) : lcF fi t mYes el vs ρ (.live n) s = fi (xs.map f) s := by
  show (match srcAt s (.live n) with
    | some xs => if xs.length ≤ LIM ∧ (∀ i ∈ t.slots, i ∈ vs) then mLcGo (.live n) t mYes el (wipeD ρ vs) xs.length 0 [] s else .bad
    | none => R.bad).bnd fi = _
  rw [show srcAt s (.live n) = some xs by simp [srcAt, h]]
  show (if xs.length ≤ LIM ∧ (∀ i ∈ t.slots, i ∈ vs) then _ else R.bad).bnd fi = _
  rw [if_pos ⟨hl, fun i hi => by simpa using List.all_eq_true.1 hs i hi⟩, mLcGo_live h hp _ 0 [] (by omega)]
  simp
theorem srcF_obj {n : Nat} {s : S} {xs : List D} (h : s[n]? = some (.lst xs)) : srcF (.obj n) s = .ok (.live n) s := by
  show (match s[n]? with | some (.lst _) => R.ok (Src.live n) s | _ => .bad) = _
  rw [h]
/-- the law's own reachable states -/
theorem law_reached_ok {y : Sys} (hy : y.Ok) (s : S) : wp (m__law_reached [y.D] s) fun d s' => d = .lst (y.reach.map nD) ∧ ∃ t, s' = s ++ t := by
  unfold m__law_reached
  rw [mFn_eq]
  simp [initE]
  refine (law_paths_ok hy s).mono ?_
  rintro d s1 ⟨rfl, rfl⟩
  have g := get2a s (.lst (y.paths.map pairD)) (.lst (y.states.map nD))
  have hlen : (y.paths.map pairD).length ≤ 1000000 := by
    have := (paths_ok hy).len
    have := hy.m6
    simp; omega
  rw [srcF_obj g]
  simp only [wp_ok]
  rw [lcF_live g hlen rfl (f := fun d => match d with | .tup [a, _] => a | d => d) (by
    intro d hd
    obtain ⟨p, hp, rfl⟩ := List.mem_map.1 hd
    exact ⟨_, rfl, by simp [pairD, setAll]⟩)]
  have e : (y.paths.map pairD).map (fun d => match d with | .tup [a, _] => a | d => d) = (y.states.map fun (n : Nat) => (n : Int)).map D.int := by
    simp [Sys.states, pairD, Function.comp_def]
  rw [finL_eq, wp_ok, e, fSorted_lst, srt_D]
  simp
  rfl
end VL
namespace VL
open PySem PySem.Spec PyProof.Rows L2

/-- the first state of some from which two logs lead apart -/
def Sys.apartIn (y : Sys) (a b : List Nat) (xs : List Nat) : Option Nat := xs.find? fun st => decide (y.run st a ≠ y.run st b)
def Sys.apart (y : Sys) (a b : List Nat) : Option Nat := y.apartIn a b y.reach
end VL
namespace VL
open PySem PySem.Spec PyProof.Rows L2

/-! ### what a def leaves behind in the store, by name -/
def gar (m : FM) (ds : List D) (s : S) : S := match m ds s with
  | .ok _ s' => s'.drop s.length
  | _ => []
theorem eq_gar {m : FM} {ds : List D} {s : S} {a : D} (h : wp (m ds s) fun d s' => d = a ∧ ∃ t, s' = s ++ t) : m ds s = .ok a (s ++ gar m ds s) := by
  obtain ⟨d, s', e, rfl, t, rfl⟩ := h.ok
  rw [e]
  simp [gar, e]
theorem law_reached_eq {y : Sys} (hy : y.Ok) (s : S) : m__law_reached [y.D] s = .ok (.lst (y.reach.map nD)) (s ++ gar m__law_reached [y.D] s) := eq_gar (law_reached_ok hy s)

/-! ### loops that look for something -/
def findQ (J : Ev → S → Prop) (I : S → Prop) : Option D → Fl → S → Prop
  | some r, fl, s => fl = .ret r ∧ I s
  | none, .nx ρ, s => J ρ s
  | none, .ct ρ, s => J ρ s
  | none, _, _ => False
@[simp] theorem findQ_some (J I r fl s) : findQ J I (some r) fl s = (fl = .ret r ∧ I s) := rfl
@[simp] theorem findQ_nx (J I ρ s) : findQ J I none (.nx ρ) s = J ρ s := rfl
@[simp] theorem findQ_ct (J I ρ s) : findQ J I none (.ct ρ) s = J ρ s := rfl
section
variable {α : Type} {f : α → D}
/-- .. that go through: A is what has been made of the items so far -/
theorem wp_go {g : MG} {b : MS} {K : Fl → S → Prop} (J : List α → Ev → S → Prop) : ∀ (xs pre : List α) (ρ : Ev) (s : S), J pre ρ s →
    (∀ pre' x rest ρ s, pre ++ xs = pre' ++ x :: rest → J pre' ρ s → wp (g (f x) ρ s) fun ρ1 s1 => wp (b ρ1 s1) (turnQ (J (pre' ++ [x])) (fun _ _ => False) (fun _ _ => False))) → (∀ ρ' s', J (pre ++ xs) ρ' s' → K (.nx ρ') s') → wp (lloop g b (xs.map f) ρ s) K
  | [], pre, ρ, s, hj, _, k => k ρ s (by simpa using hj)
  | x :: xs, pre, ρ, s, hj, ht, k => by
    simp only [List.map_cons]
    unfold lloop
    rw [wp_bnd]
    refine (ht pre x xs ρ s rfl hj).mono fun ρ1 s1 h1 => ?_
    rw [wp_bnd]
    refine h1.mono fun fl s2 h2 => ?_
    have more := fun ρ2 s2 (hj2 : J (pre ++ [x]) ρ2 s2) => wp_go J xs (pre ++ [x]) ρ2 s2 hj2 (fun pre' x' rest ρ s e h => ht pre' x' rest ρ s (by rw [← e]; simp) h) (fun ρ' s' h => k ρ' s' (by simpa using h))
    cases fl with
    | nx ρ2 => exact more ρ2 s2 h2
    | ct ρ2 => exact more ρ2 s2 h2
    | bk ρ2 => exact h2.elim
    | ret d => exact h2.elim
theorem wp_each {g : MG} {b : MS} {K : Fl → S → Prop} (J : List α → Ev → S → Prop) (xs : List α) (ρ : Ev) (s : S) (h0 : J [] ρ s)
    (ht : ∀ pre x rest ρ s, xs = pre ++ x :: rest → J pre ρ s → wp (g (f x) ρ s) fun ρ1 s1 => wp (b ρ1 s1) (turnQ (J (pre ++ [x])) (fun _ _ => False) (fun _ _ => False))) (k : ∀ ρ' s', J xs ρ' s' → K (.nx ρ') s') : wp (lloop g b (xs.map f) ρ s) K :=
  wp_go J xs [] ρ s h0 (fun pre' x rest ρ s e h => ht pre' x rest ρ s (by simpa using e) h) (fun ρ' s' h => k ρ' s' (by simpa using h))

/-! ### comprehensions by a function -/
theorem llc_map {t : Tg} {el : ME} {ρw : Ev} {s : S} {g : α → D} : ∀ (xs : List α) (acc : List D), (∀ x ∈ xs, ∃ ρ1, tgM t (f x) ρw = some ρ1 ∧ el ρ1 s = .ok (g x) s) → llc t mYes el ρw (xs.map f) acc s = .ok (acc ++ xs.map g) s
  | [], acc, _ => by simp [llc]
  | x :: xs, acc, h => by
    obtain ⟨ρ1, h1, h2⟩ := h x (List.mem_cons_self ..)
    have ih := llc_map (el := el) (ρw := ρw) (s := s) (g := g) xs (acc ++ [g x]) fun y hy => h y (List.mem_cons_of_mem _ hy)
    simp only [List.map_cons]
    unfold llc
    rw [h1]
    simp [h2, ih]
theorem llc_filt {t : Tg} {tt : MT} {el : ME} {ρw : Ev} {s : S} {p : α → Bool} {g : α → D} : ∀ (xs : List α) (acc : List D), (∀ x ∈ xs, ∃ ρ1, tgM t (f x) ρw = some ρ1 ∧ tt ρ1 s = .ok (p x) s ∧ (p x = true → el ρ1 s = .ok (g x) s)) →
    llc t tt el ρw (xs.map f) acc s = .ok (acc ++ (xs.filter p).map g) s
  | [], acc, _ => by simp [llc]
  | x :: xs, acc, h => by
    obtain ⟨ρ1, h1, h2, h3⟩ := h x (List.mem_cons_self ..)
    have ih := fun acc => llc_filt (tt := tt) (el := el) (ρw := ρw) (s := s) (p := p) (g := g) xs acc fun y hy => h y (List.mem_cons_of_mem _ hy)
    simp only [List.map_cons]
    unfold llc
    rw [h1]
    cases hp : p x with
    | true => simp [h2, hp, h3 hp, ih]
    | false => simp [h2, hp, ih]
/-! several clauses -/
def lbgo (t : Tg) (tt : MT) (b : MB) (ρw : Ev) : List D → List D → S → R (List D)
  | [], acc, s => .ok acc s
  | d :: ds, acc, s => (match tgM t d ρw with
    | some ρ1 => (noX (tt ρ1 s)).bnd fun k s1 => if k = true then (noX (b ρ1 acc s1)).bnd fun acc' s2 => lbgo t tt b ρw ds acc' s2 else lbgo t tt b ρw ds acc s1
    | none => .bad)
def inF (t : Tg) (tt : MT) (b : MB) (vs : List Nat) (ρ : Ev) (acc : List D) : Src → S → R (List D) := fun src s1 => match srcAt s1 src with
  | some xs => if (∀ i ∈ t.slots, i ∈ vs) then bGo src t tt b (wipeD ρ vs) xs.length 0 acc s1 else .bad
  | none => .bad
@[simp] theorem mLcN_eq (fi it t tt b vs ρ s) : mLcN fi it t tt b vs ρ s = ((it ρ s).bnd (inF t tt b vs ρ [])).bnd fi := rfl
@[simp] theorem bIn_eq (it t tt b vs ρ acc s) : bIn it t tt b vs ρ acc s = (noX (it ρ s)).bnd (inF t tt b vs ρ acc) := rfl
end
end VL
namespace VL
open PySem PySem.Spec PyProof.Rows L2

/-! ### loops over a list that may be a changeable object -/
section
variable {α : Type} {f : α → D}
end
@[simp] theorem asX_lst (s xs) : asX s (.lst xs) = some xs := rfl
@[simp] theorem mExtend_eq (mo me ρ s) : mExtend mo me ρ s = (mo ρ s).bnd fun x s1 => if isLstO s1 x = true then (me ρ s1).bnd fun y s2 => fExtend x y s2 else .bad := rfl
theorem rngD_nD (n : Nat) : rngD 0 n = (List.range n).map nD := rngD_0 n
/-! ### all logs -/
def lev (m : Nat) : Nat → List (List Nat)
  | 0 => [[]]
  | n + 1 => (lev m n).flatMap fun l => (List.range m).map fun e => l ++ [e]
def fnd (m : Nat) : Nat → List (List Nat)
  | 0 => [[]]
  | n + 1 => fnd m n ++ lev m (n + 1)
def pairsL (m : Nat) : List (List Nat) := (List.range m).flatMap fun a => (List.range m).map fun b => [a, b]
def triplesL (m : Nat) : List (List Nat) := (List.range m).flatMap fun a => (List.range m).flatMap fun b => (List.range m).map fun c => [a, b, c]
end VL
namespace VL
open PySem PySem.Spec PyProof.Rows L2

/-! ### the forms of logs -/
def Sys.form (y : Sys) : List Nat → Bool
  | [a, b] => decide (y.kd a ≠ none ∧ y.kd a = y.kd b)
  | [a, b, c] => decide (y.kd a ≠ none ∧ y.kd a = y.kd c ∧ y.kd b ≠ y.kd a)
  | _ => false
end VL
namespace VL
open PySem PySem.Spec PyProof.Rows L2

def Sys.forms (y : Sys) : List (List Nat) := (pairsL y.ops.length ++ triplesL y.ops.length).filter y.form
/-! the innermost clause -/
section
variable {α : Type} {f : α → D}
end
end VL
namespace VL
open PySem PySem.Spec PyProof.Rows L2

/-! ### a state and a log -/
def find2 {α β : Type} (xs : List α) (ys : List β) (q : α → β → Bool) : Option (α × β) := xs.findSome? fun a => ys.findSome? fun b => if q a b = true then some (a, b) else none
def slD : Option (Nat × List Nat) → D
  | none => .non
  | some p => .tup [nD p.1, logD p.2]
def slO (p : Nat × List Nat) : D := .tup [nD p.1, logD p.2]
/-! faults of kinds -/
def Sys.bad (y : Sys) (st : Nat) (l : List Nat) : Bool := decide (y.run st l ≠ y.run st l.tail)
theorem opNe_nD (f : Bool → Bool) (a b : Nat) (s : S) : opEqF f (.int (a : Int)) (.int (b : Int)) s = .ok (.bl (f (decide (a = b)))) s := by
  rw [opEqF_int]
  congr 3
  by_cases e : a = b
  · subst e; simp
  · have : ¬ (a : Int) = b := by omega
    simp [e, this]
def Sys.fault (y : Sys) : Option (Nat × List Nat) := find2 y.reach y.forms y.bad
end VL
namespace VL
open PySem PySem.Spec PyProof.Rows L2

/-- a law that draws systems into slot 4 -/
theorem law_B {c : Int} {N n : Nat} {B : MS} {ns : List Int} (hc : 1 ≤ c ∧ c ≤ 100) (hn : n ≤ 100)
    (hb : ∀ (y : Sys) (k d3 : D) (p f : Nat) (rest : Ev) (s : S), y.Ok → rest.length = N → Pen p (f + 100000) s →
      wp (B (some (.scr (ns.map D.int)) :: some k :: some (.obj p) :: some d3 :: some y.D :: rest) s) fun fl s' => ∃ (d3 d4 : Option D) (rest' : Ev), (fl = .nx (some (.scr (ns.map D.int)) :: some k :: some (.obj p) :: d3 :: d4 :: rest') ∨ fl = .ct (some (.scr (ns.map D.int)) :: some k :: some (.obj p) :: d3 :: d4 :: rest')) ∧ rest'.length = N ∧ Pen p f s') :
    ∃ s', mFn (N + 2 + 3) (mSeq (mFor (mRng1 (mCons (mCall fMax2 (mCons (mC (.int 1)) (mCons (mCall fMin2 (mCons (mCall fLen (mCons (mVar 0) mNil)) (mCons (mC (.int c)) mNil))) mNil))) mNil)) (gN 1)
      (mSeq (mAsg (mUser m__law_pen (mCons (mUser m__law_cell_at (mCons (mVar 0) (mCons (mVar 1) mNil))) mNil)) (gN 2))
      (mFor (mRng1 (mCons (mC (.int (n : Int))) mNil)) (gN 3)
      (mSeq (mAsg (mUser m__law_system (mCons (mVar 2) mNil)) (gN 4)) B)))) (mRet (mC (.bl true)))) [.scr (ns.map D.int)] [] = .ok (.bl true) s' := by
  refine law_frame (N := N + 2) hc ?_
  intro k p s rest hr hp
  obtain ⟨x3, x4, rest, rfl⟩ : ∃ x3 x4 r, rest = x3 :: x4 :: r := by
    match rest, hr with
    | x3 :: x4 :: r, _ => exact ⟨_, _, _, rfl⟩
  simp only [mFor_eq, mRng1_bnd, mCons_eq, mC_eq, mNil_eq, R.bnd_ok]
  rw [rng1F_ok _ (by omega), rngD_nD]
  simp only [R.bnd_ok, forF_fix, Int.toNat_natCast]
  refine wp_each (f := nD) (fun pre ρ s => (∃ x3 x4 rest, ρ = some (.scr (ns.map D.int)) :: some k :: some (.obj p) :: x3 :: x4 :: rest ∧ rest.length = N) ∧ Pen p ((n - pre.length) * 200000) s) _ _ _ ⟨⟨_, _, _, rfl, by simpa using hr⟩, hp.mono (by simp; omega)⟩ ?_ ?_
  · rintro pre x post ρ s he ⟨⟨x3, x4, rest, rfl, hr⟩, hp⟩
    have hl : pre.length < n := by
      have := congrArg List.length he
      simp at this
      omega
    simp only [gN_eq, wp_ok, List.set_cons_succ, List.set_cons_zero, mSeq_eq, mAsg_eq, mUser_eq, mCons_eq, mNil_eq, mVar_eq, get_0, List.getElem?_cons_succ, vg_some, R.bnd_ok, wp_bnd, wp_retag]
    refine (wp_system (f := (n - (pre.length + 1)) * 200000 + 100000) (hp.mono (by omega))).mono ?_
    rintro d s1 ⟨y, hy, rfl, hp1, hf1⟩
    simp only [R.bnd_ok, wp_retag, wp_ok, List.set_cons_succ, List.set_cons_zero, seqF_nx]
    refine (hb y k (nD x) p ((n - (pre.length + 1)) * 200000) rest s1 hy hr hp1).mono ?_
    rintro fl s2 ⟨d3, d4, rest', rfl | rfl, hr', hp2⟩
    · exact ⟨⟨_, _, _, rfl, hr'⟩, hp2.mono (by simp)⟩
    · exact ⟨⟨_, _, _, rfl, hr'⟩, hp2.mono (by simp)⟩
  · rintro ρ s ⟨⟨x3, x4, rest, rfl, hr⟩, _⟩
    exact ⟨_, by simp [hr], rfl⟩
end VL
namespace VL
open PySem PySem.Spec PyProof.Rows L2

end VL
namespace VL
open PySem PySem.Spec PyProof.Rows L2

/-! ### repeats -/
def Sys.rlogs (y : Sys) : List (List Nat) := ((List.range y.ops.length).map fun a => [a, a]) ++ (List.range y.ops.length).flatMap fun a => ((List.range y.ops.length).filter fun b => decide (a ≠ b)).map fun b => [a, b, a]
def Sys.badL (y : Sys) (st : Nat) (l : List Nat) : Bool := decide (y.run st l ≠ y.run st l.dropLast)
def Sys.rfault (y : Sys) : Option (Nat × List Nat) := find2 y.reach y.rlogs y.badL
end VL
namespace VL
open PySem PySem.Spec PyProof.Rows L2

section
variable {α : Type} {f : α → D}
end
/-! ### pairs -/
/-! ### orders -/
def upL (a m : Nat) : List Nat := (List.range (m - (a + 1))).map fun k => a + 1 + k
def Sys.swp (y : Sys) (st a b : Nat) : Bool := decide (y.run st [a, b] ≠ y.run st [b, a])
def Sys.ofault (y : Sys) : Option (Nat × Nat × Nat) := y.reach.findSome? fun st => (List.range y.ops.length).findSome? fun a => (upL a y.ops.length).findSome? fun b => if y.swp st a b = true then some (st, a, b) else none
def sabO (p : Nat × Nat × Nat) : D := .tup [nD p.1, nD p.2.1, nD p.2.2]
def sabD : Option (Nat × Nat × Nat) → D
  | none => .non
  | some p => sabO p
/-- all calm -/
def Sys.calm (y : Sys) : Bool := (List.range y.ops.length).all fun n => decide (y.apart [n, n] [n] = none)
def Sys.bySet (y : Sys) : Bool := decide (y.ofault = none) && y.calm
end VL
namespace VL
open PySem PySem.Spec PyProof.Rows L2

/-! ### reachable states: closed under steps, their paths lead there -/
theorem step_eq {y : Sys} {k : Nat} {o : List Nat} (h : y.ops[k]? = some o) (st : Nat) : y.step st k = o.getD st 0 := by
  unfold Sys.step
  rw [List.getD_eq_getElem?_getD (l := y.ops), h, Option.getD_some]
theorem run_snoc (y : Sys) (st : Nat) (l : List Nat) (e : Nat) : y.run st (l ++ [e]) = y.step (y.run st l) e := by simp [Sys.run]
def PathOk (y : Sys) (f : Fnd) : Prop := ∀ p ∈ f, y.run y.start p.2 = p.1
theorem PathOk.visit {y : Sys} {f : Fnd} (h : PathOk y f) {a : Nat × List Nat} (ha : a ∈ f) {k : Nat} {o : List Nat} (ho : y.ops[k]? = some o) : PathOk y (visit a k o f) := by
  unfold VL.visit
  split
  · exact h
  · intro p hp
    rcases List.mem_append.1 hp with hp | hp
    · exact h p hp
    · rw [List.mem_singleton] at hp
      subst hp
      simp only [run_snoc, h a ha, step_eq ho]
theorem PathOk.row {y : Sys} {a : Nat × List Nat} : ∀ (os pre : List (List Nat)) {f : Fnd}, y.ops = pre ++ os → PathOk y f → a ∈ f → PathOk y (rowFrom a pre.length os f)
  | [], pre, f, _, h, _ => h
  | o :: os, pre, f, e, h, ha => by
    have h1 := h.visit ha (k := pre.length) (o := o) (by rw [e]; simp)
    have := PathOk.row os (pre ++ [o]) (by rw [e]; simp) h1 (visit_mem ha)
    simpa [rowFrom] using this
theorem PathOk.bfs {y : Sys} : ∀ (n at' : Nat) {f : Fnd}, PathOk y f → PathOk y (y.bfs n at' f)
  | 0, _, _, h => h
  | n + 1, at', f, h => by
    unfold Sys.bfs
    split
    · rename_i hl
      have hm : f.getD at' (0, []) ∈ f := by
        rw [List.getD_eq_getElem?_getD, List.getElem?_eq_getElem hl, Option.getD_some]
        exact List.getElem_mem _
      exact PathOk.bfs n (at' + 1) (PathOk.row y.ops [] rfl h hm)
    · exact h
theorem row_pre {a : Nat × List Nat} : ∀ (os : List (List Nat)) (k : Nat) (f : Fnd), ∃ t, rowFrom a k os f = f ++ t
  | [], _, f => ⟨[], by simp [rowFrom]⟩
  | o :: os, k, f => by
    obtain ⟨t1, h1⟩ := visit_pre (a := a) (k := k) (o := o) (f := f)
    obtain ⟨t2, h2⟩ := row_pre (a := a) os (k + 1) (visit a k o f)
    exact ⟨t1 ++ t2, by rw [rowFrom, h2, h1, List.append_assoc]⟩
theorem visit_has (a : Nat × List Nat) (k : Nat) (o : List Nat) (f : Fnd) : o.getD a.1 0 ∈ (visit a k o f).map (·.1) := by
  unfold visit
  split
  · assumption
  · simp
theorem row_has {a : Nat × List Nat} : ∀ (os : List (List Nat)) (k : Nat) (f : Fnd) (o : List Nat), o ∈ os → o.getD a.1 0 ∈ (rowFrom a k os f).map (·.1)
  | o :: os, k, f, o', h => by
    rcases List.mem_cons.1 h with rfl | h
    · obtain ⟨t, ht⟩ := row_pre (a := a) os (k + 1) (visit a k o' f)
      rw [rowFrom, ht, List.map_append]
      exact List.mem_append_left _ (visit_has ..)
    · rw [rowFrom]
      exact row_has os (k + 1) _ o' h
/-- the first ones are done -/
def Done (y : Sys) (at' : Nat) (f : Fnd) : Prop := ∀ i, i < at' → ∀ p, f[i]? = some p → ∀ o ∈ y.ops, o.getD p.1 0 ∈ f.map (·.1)
theorem bfs_done {y : Sys} (hy : y.Ok) : ∀ (n at' : Nat) (f : Fnd), FOk y f → at' ≤ f.length → Done y at' f → y.many + 1 ≤ n + at' → Done y (y.bfs n at' f).length (y.bfs n at' f)
  | 0, at', f, hf, h1, h2, h3 => by
    have := hf.len
    omega
  | n + 1, at', f, hf, h1, h2, h3 => by
    unfold Sys.bfs
    split
    · rename_i hl
      have hm : f.getD at' (0, []) ∈ f := by
        rw [List.getD_eq_getElem?_getD, List.getElem?_eq_getElem hl, Option.getD_some]
        exact List.getElem_mem _
      obtain ⟨t, ht⟩ := row_pre (a := f.getD at' (0, [])) y.ops 0 f
      refine bfs_done hy n (at' + 1) _ (FOk.row hy y.ops [] rfl hf hm) (by rw [ht, List.length_append]; omega) ?_ (by omega)
      intro i hi p hp o ho
      by_cases e : i = at'
      · subst e
        have : p = f.getD i (0, []) := by
          rw [ht, List.getElem?_append_left hl] at hp
          rw [List.getD_eq_getElem?_getD, hp, Option.getD_some]
        subst this
        exact row_has y.ops 0 f o ho
      · rw [ht, List.getElem?_append_left (by omega)] at hp
        have := h2 i (by omega) p hp o ho
        rw [ht, List.map_append]
        exact List.mem_append_left _ this
    · intro i hi p hp o ho
      exact h2 i (by omega) p hp o ho
theorem reach_iff {y : Sys} {st : Nat} : st ∈ y.reach ↔ ∃ l, (st, l) ∈ y.paths := by
  unfold Sys.reach
  rw [srt_mem]
  unfold Sys.states
  rw [List.mem_map]
  constructor
  · rintro ⟨⟨a, l⟩, h, rfl⟩
    exact ⟨l, h⟩
  · rintro ⟨l, h⟩
    exact ⟨_, h, rfl⟩
theorem bfs_pre {y : Sys} : ∀ (n at' : Nat) (f : Fnd), ∃ t, y.bfs n at' f = f ++ t
  | 0, _, f => ⟨[], by simp [Sys.bfs]⟩
  | n + 1, at', f => by
    unfold Sys.bfs
    split
    · obtain ⟨t1, h1⟩ := row_pre (a := f.getD at' (0, [])) y.ops 0 f
      obtain ⟨t2, h2⟩ := bfs_pre (y := y) n (at' + 1) (rowFrom (f.getD at' (0, [])) 0 y.ops f)
      exact ⟨t1 ++ t2, by rw [h2, h1, List.append_assoc]⟩
    · exact ⟨[], by simp⟩
theorem reach_start (y : Sys) : y.start ∈ y.reach := by
  obtain ⟨t, ht⟩ := bfs_pre (y := y) 2000 0 [(y.start, [])]
  exact reach_iff.2 ⟨[], by unfold Sys.paths; rw [ht]; simp⟩
theorem reach_step {y : Sys} (hy : y.Ok) {st e : Nat} (h : st ∈ y.reach) (he : e < y.ops.length) : y.step st e ∈ y.reach := by
  obtain ⟨l, hl⟩ := reach_iff.1 h
  have hd : Done y y.paths.length y.paths := bfs_done hy 2000 0 _ (FOk.start hy) (by simp) (fun i hi => absurd hi (by omega)) (by have := hy.m6; omega)
  obtain ⟨i, hi, e1⟩ := List.getElem_of_mem hl
  have := hd i hi (st, l) (by rw [List.getElem?_eq_getElem hi, e1]) y.ops[e] (List.getElem_mem he)
  rw [step_eq (List.getElem?_eq_getElem he)]
  unfold Sys.reach
  rw [srt_mem]
  exact this
theorem reach_run {y : Sys} (hy : y.Ok) : ∀ {l : List Nat} {st : Nat}, st ∈ y.reach → (∀ x ∈ l, x < y.ops.length) → y.run st l ∈ y.reach
  | [], _, h, _ => h
  | e :: l, st, h, hx => reach_run hy (l := l) (reach_step hy h (hx e (List.mem_cons_self ..))) fun x hx2 => hx x (List.mem_cons_of_mem _ hx2)

/-! ### compacting with right kinds -/
/-- the kinds are right -/
structure Right (y : Sys) : Prop where
  two : ∀ st ∈ y.reach, ∀ a c, a < y.ops.length → c < y.ops.length → y.kd a ≠ none → y.kd a = y.kd c → y.run st [a, c] = y.run st [c]
  three : ∀ st ∈ y.reach, ∀ a b c, a < y.ops.length → b < y.ops.length → c < y.ops.length → y.kd a ≠ none → y.kd a = y.kd c → y.run st [a, b, c] = y.run st [b, c]
/-- alike for a kind -/
def Alike (y : Sys) (k u v : Nat) : Prop := ∀ c, c < y.ops.length → y.kd c = y.kd k → y.step u c = y.step v c
theorem Alike.step {y : Sys} (hy : y.Ok) (R : Right y) {k u v b : Nat} (hk : k < y.ops.length) (hk1 : y.kd k ≠ none) (hu : u ∈ y.reach) (hv : v ∈ y.reach) (hb : b < y.ops.length) (h : Alike y k u v) : Alike y k (y.step u b) (y.step v b) := fun c hc e => by
  have e0 := h k hk rfl
  have e1 := R.three u hu k b c hk hb hc hk1 e.symm
  have e2 := R.three v hv k b c hk hb hc hk1 e.symm
  show y.run u [b, c] = y.run v [b, c]
  rw [← e1, ← e2]
  show y.step (y.step (y.step u k) b) c = y.step (y.step (y.step v k) b) c
  rw [e0]
theorem Alike.run {y : Sys} (hy : y.Ok) (R : Right y) {k : Nat} (hk : k < y.ops.length) (hk1 : y.kd k ≠ none) : ∀ {w : List Nat} {u v : Nat}, (∀ x ∈ w, x < y.ops.length) → u ∈ y.reach → v ∈ y.reach → Alike y k u v → Alike y k (y.run u w) (y.run v w)
  | [], _, _, _, _, _, h => h
  | b :: w, u, v, hx, hu, hv, h => by
    have hb := hx b (List.mem_cons_self ..)
    exact Alike.run hy R hk hk1 (w := w) (fun x hx2 => hx x (List.mem_cons_of_mem _ hx2)) (reach_step hy hu hb) (reach_step hy hv hb) (h.step hy R hk hk1 hu hv hb)
/-- what changed tells -/
def Sys.pathTo (y : Sys) (st : Nat) : List Nat := ((y.paths.find? fun p => decide (p.1 = st)).map (·.2)).getD []
def Sys.chg (y : Sys) (l : List Nat) : Bool := decide (y.run y.start l ≠ y.run y.start (y.cmp l))
def Sys.changed (y : Sys) : Option (List Nat) := y.fault.map fun p => if y.chg (y.pathTo p.1 ++ p.2) = true then y.pathTo p.1 ++ p.2 else y.pathTo p.1 ++ p.2.tail
end VL
namespace VL
open PySem PySem.Spec PyProof.Rows L2

def lD : Option (List Nat) → D
  | none => .non
  | some l => logD l
/-! path -/
end VL
namespace VL
open PySem PySem.Spec PyProof.Rows L2

end VL
namespace VL
open PySem PySem.Spec PyProof.Rows L2
end VL
namespace VL
open PySem PySem.Spec PyProof.Rows L2

/-! ### == of logs -/
def pyL (l : List Nat) : List PyData := l.map fun (n : Nat) => PyData.int (n : Int)
theorem toPys_log : ∀ l : List Nat, toPys (l.map nD) = some (pyL l)
  | [] => rfl
  | n :: l => by simp [toPys, toPy, toPys_log l, pyL]
theorem toPy_log (l : List Nat) : toPy (logD l) = some (.tuple (pyL l)) := by simp [logD, toPy, toPys_log]
theorem lay_log : ∀ l : List Nat, PyData.canLayAll0 (pyL l) = true ∧ PyData.depthAll (pyL l) = 0
  | [] => ⟨rfl, rfl⟩
  | n :: l => by
    obtain ⟨h1, h2⟩ := lay_log l
    unfold pyL at h1 h2 ⊢
    simp [PyData.canLayAll0, PyData.canLay0, PyData.depthAll, PyData.depth, h1, h2]
theorem shaped_log (l : List Nat) : SeqAt.shaped (.tuple (pyL l)) = true ∧ SeqAt.shaped (.list (pyL l)) = true := by
  obtain ⟨h1, h2⟩ := lay_log l
  simp [SeqAt.shaped, PyData.canLay0, PyData.depth, h1, h2]
theorem eqv_log : ∀ a b : List Nat, PyData.eqvAll (pyL a) (pyL b) = decide (a = b)
  | [], [] => rfl
  | [], _ :: _ => rfl
  | _ :: _, [] => rfl
  | a :: as, b :: bs => by
    have ih := eqv_log as bs
    unfold pyL at ih ⊢
    simp only [List.map_cons, PyData.eqvAll, PyData.eqv, ih]
    by_cases h : a = b
    · subst h; simp
    · have : ¬ (a : Int) = b := by omega
      simp [h, this]
/-! ### what is asked of states and logs -/
theorem opIn_reach {y : Sys} (f : Bool → Bool) (st : Nat) (s : S) : opInB f (nD st) (logD y.reach) s = .ok (.bl (f (decide (st ∈ y.reach)))) s := by
  unfold logD
  rw [opIn_tupK rfl (all_nD _), anyF_nD]
  congr 3
  rw [List.contains_eq_mem]
/-! path -/
end VL
namespace VL
open PySem PySem.Spec PyProof.Rows L2
/-! ### sorting that computes -/
def ins (x : Nat) : List Nat → List Nat
  | [] => [x]
  | y :: l => if x ≤ y then x :: y :: l else y :: ins x l
def isrt : List Nat → List Nat
  | [] => []
  | x :: l => ins x (isrt l)
theorem ins_perm (x : Nat) : ∀ l : List Nat, (ins x l).Perm (x :: l)
  | [] => .refl _
  | y :: l => by
    unfold ins
    split
    · exact .refl _
    · exact ((ins_perm x l).cons y).trans (.swap ..)
theorem isrt_perm : ∀ l : List Nat, (isrt l).Perm l
  | [] => .refl _
  | x :: l => (ins_perm x _).trans ((isrt_perm l).cons x)
theorem ins_pw (x : Nat) : ∀ l : List Nat, l.Pairwise (· ≤ ·) → (ins x l).Pairwise (· ≤ ·)
  | [], _ => by simp [ins]
  | y :: l, h => by
    obtain ⟨h1, h2⟩ := List.pairwise_cons.1 h
    unfold ins
    split
    · rename_i hxy
      refine List.pairwise_cons.2 ⟨fun z hz => ?_, h⟩
      rcases List.mem_cons.1 hz with rfl | hz
      · exact hxy
      · exact Nat.le_trans hxy (h1 z hz)
    · rename_i hxy
      refine List.pairwise_cons.2 ⟨fun z hz => ?_, ins_pw x l h2⟩
      rcases List.mem_cons.1 ((ins_perm x l).mem_iff.1 hz) with rfl | hz
      · omega
      · exact h1 z hz
theorem isrt_pw : ∀ l : List Nat, (isrt l).Pairwise (· ≤ ·)
  | [] => .nil
  | x :: l => ins_pw x _ (isrt_pw l)
theorem srt_isrt (l : List Nat) : srt l = isrt l := by
  have h : (isrt l).map (fun (n : Nat) => (n : Int)) = isort (l.map fun (n : Nat) => (n : Int)) := by
    refine isort_of ((isrt_perm l).map _) ?_
    rw [List.pairwise_map]
    exact (isrt_pw l).imp fun h => by omega
  unfold srt
  rw [← h, List.map_map]
  simp [Function.comp_def]
theorem reach_isrt (y : Sys) : y.reach = isrt y.states := srt_isrt _
end VL
namespace VL
open PySem PySem.Spec PyProof.Rows L2

/-! ### pairs of states, dicts with pairs as keys -/
def prD (p : Nat × Nat) : D := .tup [nD p.1, nD p.2]
def pk (p : Nat × Nat) : List Key := [.inl (p.1 : Int), .inl (p.2 : Int)]
@[simp] theorem keyT_pr (p : Nat × Nat) : keyT (prD p) = some (pk p) := rfl
section
variable {α : Type} (pp : α → Nat × Nat) (v : α → D)
def kvs (f : List α) : List (D × D) := f.map fun x => (prD (pp x), v x)
end
@[simp] theorem gIxU_eq (mo mi d ρ s) : gIxU mo mi d ρ s = (mo ρ s).bnd fun o s1 => (mi ρ s1).bnd fun i s2 => match setIxU o i d s2 with
  | some s3 => .ok ρ s3
  | none => .bad := rfl
/-! a dict's making -/
/-! list(d) -/
/-! Unlike -/
theorem mFld_at {cs : List Str} {f : Str} {m : ME} {ρ : Ev} {s : S} {n : Nat} {c : Str} {fs : List (Str × D)} {x : D} (hm : m ρ s = .ok (.obj n) s) (h : s[n]? = some (.ins c fs)) (hc : c ∈ cs) (hf : fs.lookup f = some x) : mFld cs f m ρ s = .ok x s := by
  unfold mFld
  simp only [hm, R.bnd_ok, insOf, h, if_pos hc, hf]
theorem mCallI_at {c : Str} {m : FM} {mf : ME} {ms : MA} {ρ : Ev} {s : S} {n : Nat} {fs : List (Str × D)} {ds : List D} (hf : mf ρ s = .ok (.obj n) s) (hm : ms ρ s = .ok ds s) (h : s[n]? = some (.ins c fs)) : mCallI [(c, m)] mf ms ρ s = retag ρ (m (.obj n :: ds) s) := by
  unfold mCallI
  have : ([(c, m)] : List (Str × FM)).lookup c = some m := by simp
  simp only [hf, hm, R.bnd_ok, isObjD, if_true, insOf, h, this]
theorem mNew_at {c : Str} {m : FM} {ms : MA} {ρ : Ev} {s s1 s2 : S} {ds : List D} (hm : ms ρ s = .ok ds s1) (h : m (.obj s1.length :: ds) (s1 ++ [.ins c []]) = .ok .non s2) : mNew c m ms ρ s = .ok (.obj s1.length) s2 := by
  unfold mNew
  simp only [hm, R.bnd_ok, h, retag_ok]
end VL
namespace VL
open PySem PySem.Spec PyProof.Rows L2

theorem nodup_map {α β : Type} {g : α → β} : ∀ {l : List α}, (∀ x ∈ l, ∀ z ∈ l, g x = g z → x = z) → l.Nodup → (l.map g).Nodup
  | [], _, _ => by simp
  | x :: l, h, hn => by
    rw [List.nodup_cons] at hn
    rw [List.map_cons, List.nodup_cons]
    refine ⟨fun hm => ?_, nodup_map (fun a ha b hb => h a (List.mem_cons_of_mem _ ha) b (List.mem_cons_of_mem _ hb)) hn.2⟩
    obtain ⟨z, hz, e⟩ := List.mem_map.1 hm
    exact hn.1 (h z (List.mem_cons_of_mem _ hz) x (List.mem_cons_self ..) e ▸ hz)
theorem reach_nodup {y : Sys} (hy : y.Ok) : y.reach.Nodup := by
  rw [reach_isrt]
  exact (isrt_perm _).nodup_iff.2 (paths_ok hy).nd
/-! ### does one operation cover another -/
def Vl (y : Sys) (l : List Nat) : Prop := ∀ x ∈ l, x < y.ops.length
def Sys.stepP (y : Sys) (e : Nat) (p : Nat × Nat) : Nat × Nat := (y.step p.1 e, y.step p.2 e)
def Sys.runP (y : Sys) (p : Nat × Nat) (l : List Nat) : Nat × Nat := (y.run p.1 l, y.run p.2 l)
def Sys.Cov (y : Sys) (a b : Nat) : Prop := ∀ st ∈ y.reach, ∀ w, Vl y w → y.step (y.run (y.step st a) w) b = y.step (y.run st w) b
open Classical in
noncomputable def Sys.cov (y : Sys) (a b : Nat) : Bool := decide (y.Cov a b)
theorem runP_snoc (y : Sys) (p : Nat × Nat) (w : List Nat) (e : Nat) : y.runP p (w ++ [e]) = y.stepP e (y.runP p w) := by simp [Sys.runP, Sys.stepP, run_snoc]
theorem Vl.snoc {y : Sys} {w : List Nat} {e : Nat} (h : Vl y w) (he : e < y.ops.length) : Vl y (w ++ [e]) := fun x hx => by
  rcases List.mem_append.1 hx with hx | hx
  · exact h x hx
  · rw [List.mem_singleton.1 hx]; exact he
theorem runP_lt {y : Sys} (hy : y.Ok) : ∀ {w : List Nat} {p : Nat × Nat}, Vl y w → p.1 < y.many ∧ p.2 < y.many → (y.runP p w).1 < y.many ∧ (y.runP p w).2 < y.many
  | [], p, _, h => h
  | e :: w, p, hw, h => by
    have he := hw e (List.mem_cons_self ..)
    exact runP_lt hy (w := w) (p := y.stepP e p) (fun x hx => hw x (List.mem_cons_of_mem _ hx)) ⟨hy.step_lt h.1 he, hy.step_lt h.2 he⟩
/-- the pairs found so far -/
structure CF (y : Sys) (a : Nat) (f : List (Nat × Nat)) : Prop where
  nd : f.Nodup
  lt : ∀ p ∈ f, p.1 < y.many ∧ p.2 < y.many
  src : ∀ p ∈ f, ∃ st ∈ y.reach, ∃ w, Vl y w ∧ p = y.runP (y.step st a, st) w
  base : ∀ st ∈ y.reach, (y.step st a, st) ∈ f
theorem CF.len {y : Sys} (hy : y.Ok) {a : Nat} {f : List (Nat × Nat)} (h : CF y a f) : f.length ≤ 36 := by
  have := nodup_len 36 (f.map fun p => p.1 * 6 + p.2) (by
    refine nodup_map ?_ h.nd
    intro p hp q hq e
    obtain ⟨p1, p2⟩ := h.lt p hp
    obtain ⟨q1, q2⟩ := h.lt q hq
    have hm := hy.m6
    obtain ⟨p, p'⟩ := p
    obtain ⟨q, q'⟩ := q
    simp only at *
    have e1 : p = q := by omega
    have e2 : p' = q' := by omega
    rw [e1, e2]) fun x hx => by
    obtain ⟨p, hp, rfl⟩ := List.mem_map.1 hx
    obtain ⟨p1, p2⟩ := h.lt p hp
    have := hy.m6
    omega
  simpa using this
theorem CF.snoc {y : Sys} (hy : y.Ok) {a : Nat} {f : List (Nat × Nat)} (h : CF y a f) {p : Nat × Nat} (hp : p ∈ f) {e : Nat} (he : e < y.ops.length) (hn : y.stepP e p ∉ f) : CF y a (f ++ [y.stepP e p]) := by
  obtain ⟨p1, p2⟩ := h.lt p hp
  refine ⟨List.nodup_append.2 ⟨h.nd, by simp, fun x hx z hz e => hn (by rw [← List.mem_singleton.1 hz, ← e]; exact hx)⟩, fun q hq => ?_, fun q hq => ?_, fun st hst => List.mem_append_left _ (h.base st hst)⟩
  · rcases List.mem_append.1 hq with hq | hq
    · exact h.lt q hq
    · rw [List.mem_singleton.1 hq]
      exact ⟨hy.step_lt p1 he, hy.step_lt p2 he⟩
  · rcases List.mem_append.1 hq with hq | hq
    · exact h.src q hq
    · rw [List.mem_singleton.1 hq]
      obtain ⟨st, hst, w, hw, rfl⟩ := h.src p hp
      exact ⟨st, hst, w ++ [e], hw.snoc he, (runP_snoc ..).symm⟩
/-- the first n pairs are done: not unlike behind b, what follows them is found -/
def CD (y : Sys) (b n : Nat) (f : List (Nat × Nat)) : Prop := ∀ i, i < n → ∀ p, f[i]? = some p → y.step p.1 b = y.step p.2 b ∧ ∀ e, e < y.ops.length → (y.stepP e p).1 = (y.stepP e p).2 ∨ y.stepP e p ∈ f
theorem CD.cov {y : Sys} {a b : Nat} {f : List (Nat × Nat)} (h : CF y a f) (d : CD y b f.length f) : y.Cov a b := by
  intro st hst w hw
  have key : ∀ w, Vl y w → (y.runP (y.step st a, st) w).1 = (y.runP (y.step st a, st) w).2 ∨ y.runP (y.step st a, st) w ∈ f := by
    intro w
    induction hn : w.length generalizing w with
    | zero =>
      intro _
      rw [List.length_eq_zero_iff] at hn
      subst hn
      exact .inr (h.base st hst)
    | succ n ih =>
      intro hw
      obtain ⟨u, e, rfl⟩ : ∃ u e, w = u ++ [e] := ⟨w.dropLast, w.getLast (by intro z; subst z; cases hn), (List.dropLast_concat_getLast _).symm⟩
      have hu : Vl y u := fun x hx => hw x (List.mem_append_left _ hx)
      have he := hw e (by simp)
      rw [runP_snoc]
      rcases ih u (by simpa using hn) hu with z | z
      · left
        simp only [Sys.stepP, z]
      · obtain ⟨i, hi, ei⟩ := List.getElem_of_mem z
        exact (d i hi _ (by rw [List.getElem?_eq_getElem hi, ei])).2 e he
  rcases key w hw with z | z
  · exact congrArg (fun x => y.step x b) z
  · obtain ⟨i, hi, ei⟩ := List.getElem_of_mem z
    exact (d i hi _ (by rw [List.getElem?_eq_getElem hi, ei])).1
theorem CF.start {y : Sys} (hy : y.Ok) {a : Nat} (ha : a < y.ops.length) : CF y a (y.reach.map fun st => (y.step st a, st)) := by
  refine ⟨nodup_map (fun x _ z _ e => (Prod.mk.inj e).2) (reach_nodup hy), fun p hp => ?_, fun p hp => ?_, fun st hst => List.mem_map.2 ⟨st, hst, rfl⟩⟩
  · obtain ⟨st, hst, rfl⟩ := List.mem_map.1 hp
    have := reach_lt hy hst
    exact ⟨hy.step_lt this ha, this⟩
  · obtain ⟨st, hst, rfl⟩ := List.mem_map.1 hp
    exact ⟨st, hst, [], (fun _ h => nomatch h), rfl⟩

abbrev tD : Nat × Nat → D := fun _ => .bl true
abbrev idP : Nat × Nat → Nat × Nat := fun p => p
end VL
namespace VL
open PySem PySem.Spec PyProof.Rows L2

/-! ### how far pairs stand from ends -/
def prs (m : Nat) : List (Nat × Nat) := (List.range m).flatMap fun a => (List.range m).map fun b => (a, b)
theorem prs_mem {m : Nat} {p : Nat × Nat} : p ∈ prs m ↔ p.1 < m ∧ p.2 < m := by
  unfold prs
  simp only [List.mem_flatMap, List.mem_map, List.mem_range]
  constructor
  · rintro ⟨a, ha, b, hb, rfl⟩
    exact ⟨ha, hb⟩
  · rintro ⟨h1, h2⟩
    exact ⟨p.1, h1, p.2, h2, rfl⟩
section
variable (y : Sys) (E : List (Nat × Nat))
def Hit (p : Nat × Nat) (w : List Nat) : Prop := Vl y w ∧ y.runP p w ∈ E
structure MinD (p : Nat × Nat) (d : Nat) : Prop where
  hit : ∃ w, Hit y E p w ∧ w.length = d
  min : ∀ w, Hit y E p w → d ≤ w.length
end
section
variable {y : Sys} {E : List (Nat × Nat)} {p : Nat × Nat} {d d' : Nat}
theorem MinD.uniq (h : MinD y E p d) (h' : MinD y E p d') : d = d' := by
  obtain ⟨w, hw, e⟩ := h.hit
  obtain ⟨w', hw', e'⟩ := h'.hit
  have := h.min w' hw'
  have := h'.min w hw
  omega
theorem minD_ex {w : List Nat} (h : Hit y E p w) : ∃ d, d ≤ w.length ∧ MinD y E p d := by
  induction hn : w.length using Nat.strongRecOn generalizing w with
  | _ n ih =>
    by_cases hx : ∃ w', Hit y E p w' ∧ w'.length < n
    · obtain ⟨w', h1, h2⟩ := hx
      obtain ⟨d, h3, h4⟩ := ih w'.length h2 h1 rfl
      exact ⟨d, by omega, h4⟩
    · exact ⟨n, Nat.le_refl _, ⟨⟨w, h, hn⟩, fun w' hw' => Nat.le_of_not_lt fun z => hx ⟨w', hw', z⟩⟩⟩
theorem minD_zero : MinD y E p 0 ↔ p ∈ E := by
  constructor
  · rintro ⟨⟨w, hw, e⟩, _⟩
    rw [List.length_eq_zero_iff] at e
    subst e
    exact hw.2
  · intro h
    exact ⟨⟨[], ⟨(fun _ z => nomatch z), h⟩, rfl⟩, fun _ _ => Nat.zero_le _⟩
theorem Hit.cons {e : Nat} {w : List Nat} (he : e < y.ops.length) (h : Hit y E (y.stepP e p) w) : Hit y E p (e :: w) := ⟨fun x hx => by
  rcases List.mem_cons.1 hx with rfl | hx
  · exact he
  · exact h.1 x hx, h.2⟩
theorem Hit.tail {e : Nat} {w : List Nat} (h : Hit y E p (e :: w)) : e < y.ops.length ∧ Hit y E (y.stepP e p) w := ⟨h.1 e (List.mem_cons_self ..), fun x hx => h.1 x (List.mem_cons_of_mem _ hx), h.2⟩
theorem MinD.step (h : MinD y E p (d + 1)) : ∃ e, e < y.ops.length ∧ MinD y E (y.stepP e p) d := by
  obtain ⟨w, hw, e⟩ := h.hit
  cases w with
  | nil => cases e
  | cons a w =>
    obtain ⟨ha, ht⟩ := hw.tail
    refine ⟨a, ha, ⟨w, ht, by simpa using e⟩, fun w' hw' => ?_⟩
    have := h.min _ (hw'.cons ha)
    simp only [List.length_cons] at this
    omega
theorem minD_succ {e : Nat} (he : e < y.ops.length) (h : MinD y E (y.stepP e p) d) (hn : ∀ d', d' ≤ d → ¬ MinD y E p d') : MinD y E p (d + 1) := by
  obtain ⟨w, hw, ew⟩ := h.hit
  refine ⟨⟨e :: w, hw.cons he, by simp [ew]⟩, fun w' hw' => ?_⟩
  obtain ⟨d', h1, h2⟩ := minD_ex hw'
  by_cases hle : d' ≤ d
  · exact absurd h2 (hn d' hle)
  · omega
/-- whoever is farther passes there -/
theorem MinD.pass : ∀ {k : Nat} {p : Nat × Nat}, MinD y E p (d + k) → p.1 < y.many ∧ p.2 < y.many → y.Ok → ∃ q, (q.1 < y.many ∧ q.2 < y.many) ∧ MinD y E q d
  | 0, p, h, hp, _ => ⟨p, hp, h⟩
  | k + 1, p, h, hp, hy => by
    obtain ⟨e, he, h1⟩ := MinD.step (d := d + k) h
    exact MinD.pass (k := k) h1 ⟨hy.step_lt hp.1 he, hy.step_lt hp.2 he⟩ hy
/-! ### the first of the shortest logs -/
def LexLt (a b : List Nat) : Prop := ∃ c x z r1 r2, a = c ++ x :: r1 ∧ b = c ++ z :: r2 ∧ x < z
theorem lexLt_cons {x : Nat} {a b : List Nat} (h : LexLt a b) : LexLt (x :: a) (x :: b) := by
  obtain ⟨c, u, v, r1, r2, rfl, rfl, h⟩ := h
  exact ⟨x :: c, u, v, r1, r2, rfl, rfl, h⟩
theorem lexLt_iff {x z : Nat} {a b : List Nat} : LexLt (x :: a) (z :: b) ↔ x < z ∨ (x = z ∧ LexLt a b) := by
  constructor
  · rintro ⟨c, u, v, r1, r2, h1, h2, h⟩
    cases c with
    | nil =>
      simp only [List.nil_append, List.cons.injEq] at h1 h2
      left
      omega
    | cons k c =>
      simp only [List.cons_append, List.cons.injEq] at h1 h2
      exact .inr ⟨by omega, c, u, v, r1, r2, h1.2, h2.2, h⟩
  · rintro (h | ⟨rfl, h⟩)
    · exact ⟨[], x, z, a, b, rfl, rfl, h⟩
    · exact lexLt_cons h
theorem lexLt_nil {b : List Nat} : ¬ LexLt [] b := by
  rintro ⟨c, x, z, r1, r2, h, _⟩
  simp at h
theorem lexLt_asymm : ∀ {a b : List Nat}, LexLt a b → ¬ LexLt b a
  | [], _, h, _ => lexLt_nil h
  | _ :: _, [], _, h => lexLt_nil h
  | x :: a, z :: b, h, h' => by
    rw [lexLt_iff] at h h'
    rcases h with h | ⟨e, h⟩
    · rcases h' with h' | ⟨e', _⟩ <;> omega
    · rcases h' with h' | ⟨_, h'⟩
      · omega
      · exact lexLt_asymm h h'
theorem LexLt.app {a b : List Nat} (h : LexLt a b) (u : List Nat) : LexLt (a ++ u) b := by
  obtain ⟨c, x, z, r1, r2, rfl, rfl, h⟩ := h
  exact ⟨c, x, z, r1 ++ u, r2, by simp, rfl, h⟩
end
/-- w is the first of the shortest logs that lead from one of these pairs to an end -/
structure FirstLog (y : Sys) (E P : List (Nat × Nat)) (w : List Nat) : Prop where
  hit : ∃ p ∈ P, Hit y E p w
  min : ∀ w', (∃ p ∈ P, Hit y E p w') → w.length ≤ w'.length
  lex : ∀ w', (∃ p ∈ P, Hit y E p w') → w'.length = w.length → w' = w ∨ LexLt w w'
theorem FirstLog.uniq {y : Sys} {E P : List (Nat × Nat)} {w w' : List Nat} (h : FirstLog y E P w) (h' : FirstLog y E P w') : w = w' := by
  have l1 := h.min w' h'.hit
  have l2 := h'.min w h.hit
  rcases h.lex w' h'.hit (by omega) with e | a
  · exact e.symm
  · rcases h'.lex w h.hit (by omega) with e | b
    · exact e
    · exact absurd b (lexLt_asymm a)
end VL
namespace VL
open PySem PySem.Spec PyProof.Rows L2

/-! ### the law's own distances -/
abbrev fP : (Nat × Nat) × Nat → Nat × Nat := fun q => q.1
abbrev fV : (Nat × Nat) × Nat → D := fun q => .int (q.2 : Nat)
abbrev Lt (y : Sys) (p : Nat × Nat) : Prop := p.1 < y.many ∧ p.2 < y.many
def gv (f : List ((Nat × Nat) × Nat)) (p : Nat × Nat) : Int := ((f.find? fun x => decide (x.1 = p)).map fun x => (x.2 : Int)).getD (-1)
theorem gv_iff {f : List ((Nat × Nat) × Nat)} (h : (f.map fP).Nodup) {p : Nat × Nat} {d : Nat} : gv f p = (d : Int) ↔ (p, d) ∈ f := by
  unfold gv
  cases hf : f.find? fun x => decide (x.1 = p) with
  | none =>
    constructor
    · intro e
      simp only [Option.map_none, Option.getD_none] at e
      omega
    · intro hm
      have := List.find?_eq_none.1 hf _ hm
      simp at this
  | some q =>
    have h1 := List.find?_some hf
    simp only [decide_eq_true_eq] at h1
    have h2 := List.mem_of_find?_eq_some hf
    obtain ⟨q1, q2⟩ := q
    subst h1
    simp only [Option.map_some, Option.getD_some]
    constructor
    · intro e
      have : q2 = d := by omega
      rw [← this]
      exact h2
    · intro hm
      have key : ∀ (f : List ((Nat × Nat) × Nat)), (f.map fP).Nodup → ∀ {p a b}, (p, a) ∈ f → (p, b) ∈ f → a = b := by
        intro f
        induction f with
        | nil => intro _ p a b h; cases h
        | cons x f ih =>
          intro hn p a b ha hb
          rw [List.map_cons, List.nodup_cons] at hn
          rcases List.mem_cons.1 ha with ea | ha
          · rcases List.mem_cons.1 hb with eb | hb
            · exact (Prod.mk.inj (ea.trans eb.symm)).2
            · exact absurd (List.mem_map.2 ⟨(p, b), hb, by rw [← ea]⟩) hn.1
          · rcases List.mem_cons.1 hb with eb | hb
            · exact absurd (List.mem_map.2 ⟨(p, a), ha, by rw [← eb]⟩) hn.1
            · exact ih hn.2 ha hb
      rw [key f h h2 hm]
structure Far (y : Sys) (E : List (Nat × Nat)) (L : Nat) (f : List ((Nat × Nat) × Nat)) : Prop where
  nd : (f.map fP).Nodup
  mem : ∀ p d, (p, d) ∈ f ↔ Lt y p ∧ MinD y E p d ∧ d ≤ L
structure FarAll (y : Sys) (E : List (Nat × Nat)) (f : List ((Nat × Nat) × Nat)) : Prop where
  nd : (f.map fP).Nodup
  mem : ∀ p d, (p, d) ∈ f ↔ Lt y p ∧ MinD y E p d
  le : ∀ p d, (p, d) ∈ f → d ≤ 37
/-- within a lap -/
structure Mid (y : Sys) (E : List (Nat × Nat)) (L : Nat) (f : List ((Nat × Nat) × Nat)) (pre : List (Nat × Nat)) (g : List ((Nat × Nat) × Nat)) (gr : Bool) : Prop where
  nd : (g.map fP).Nodup
  mem : ∀ p d, (p, d) ∈ g ↔ (p, d) ∈ f ∨ (d = L + 1 ∧ p ∈ pre ∧ MinD y E p (L + 1))
  no : gr = false → g = f
  yes : gr = true → f.length < g.length
theorem Mid.lt {y E L f pre g gr} (h : Mid y E L f pre g gr) (hf : Far y E L f) (hp : ∀ p ∈ pre, Lt y p) : ∀ p d, (p, d) ∈ g → Lt y p := fun p d hm => by
  rcases (h.mem p d).1 hm with h1 | ⟨_, h1, _⟩
  · exact ((hf.mem p d).1 h1).1
  · exact hp p h1
theorem key_iff {f : List ((Nat × Nat) × Nat)} {p : Nat × Nat} : p ∈ f.map fP ↔ ∃ d, (p, d) ∈ f := by
  rw [List.mem_map]
  constructor
  · rintro ⟨⟨q, d⟩, h, rfl⟩
    exact ⟨d, h⟩
  · rintro ⟨d, h⟩
    exact ⟨_, h, rfl⟩
/-- a pair looked at -/
theorem Mid.turn {y : Sys} {E : List (Nat × Nat)} {L : Nat} {f : List ((Nat × Nat) × Nat)} {pre : List (Nat × Nat)} {g : List ((Nat × Nat) × Nat)} {gr : Bool} (hy : y.Ok) (h : Mid y E L f pre g gr) (hf : Far y E L f) {p : Nat × Nat} (hp : Lt y p) (hn : p ∉ pre) :
    (if p ∉ g.map fP ∧ (∃ e, e < y.ops.length ∧ gv g (y.stepP e p) = (L : Int)) then Mid y E L f (pre ++ [p]) (g ++ [(p, L + 1)]) true else Mid y E L f (pre ++ [p]) g gr) := by
  have hst : ∀ e, gv g (y.stepP e p) = (L : Int) ↔ (y.stepP e p, L) ∈ f := fun e => by
    rw [gv_iff h.nd, h.mem]
    constructor
    · rintro (h1 | ⟨h1, _⟩)
      · exact h1
      · omega
    · exact .inl
  have hk : p ∉ g.map fP ↔ ∀ d, d ≤ L → ¬ MinD y E p d := by
    rw [key_iff]
    constructor
    · intro h1 d hd h2
      exact h1 ⟨d, (h.mem p d).2 (.inl ((hf.mem p d).2 ⟨hp, h2, hd⟩))⟩
    · rintro h1 ⟨d, h2⟩
      rcases (h.mem p d).1 h2 with h3 | ⟨_, h3, _⟩
      · obtain ⟨_, h4, h5⟩ := (hf.mem p d).1 h3
        exact h1 d h5 h4
      · exact hn h3
  have hmin : (p ∉ g.map fP ∧ ∃ e, e < y.ops.length ∧ gv g (y.stepP e p) = (L : Int)) ↔ MinD y E p (L + 1) := by
    constructor
    · rintro ⟨h1, e, he, h2⟩
      have h3 := ((hf.mem _ _).1 ((hst e).1 h2)).2.1
      exact minD_succ he h3 (hk.1 h1)
    · intro hm
      refine ⟨hk.2 fun d hd h2 => ?_, ?_⟩
      · have := h2.uniq hm
        omega
      · obtain ⟨e, he, h1⟩ := hm.step
        exact ⟨e, he, (hst e).2 ((hf.mem _ _).2 ⟨⟨hy.step_lt hp.1 he, hy.step_lt hp.2 he⟩, h1, Nat.le_refl _⟩)⟩
  by_cases hc : p ∉ g.map fP ∧ ∃ e, e < y.ops.length ∧ gv g (y.stepP e p) = (L : Int)
  · rw [if_pos hc]
    have hm := hmin.1 hc
    refine ⟨?_, fun q d => ?_, (fun z => by cases z), fun _ => ?_⟩
    · rw [List.map_append]
      exact List.nodup_append.2 ⟨h.nd, by simp, fun x hx z hz e => hc.1 (by
        have : z = p := by simpa using hz
        rw [← this, ← e]; exact hx)⟩
    · rw [List.mem_append, h.mem, List.mem_singleton, List.mem_append, List.mem_singleton]
      constructor
      · rintro ((h1 | ⟨h1, h2, h3⟩) | h1)
        · exact .inl h1
        · exact .inr ⟨h1, .inl h2, h3⟩
        · obtain ⟨rfl, rfl⟩ := Prod.mk.inj h1
          exact .inr ⟨rfl, .inr rfl, hm⟩
      · rintro (h1 | ⟨h1, h2 | h2, h3⟩)
        · exact .inl (.inl h1)
        · exact .inl (.inr ⟨h1, h2, h3⟩)
        · exact .inr (by rw [h1, h2])
    · rw [List.length_append, List.length_singleton]
      cases gr with
      | false => rw [h.no rfl]; omega
      | true => have := h.yes rfl; omega
  · rw [if_neg hc]
    have hm : ¬ MinD y E p (L + 1) := fun z => hc (hmin.2 z)
    refine ⟨h.nd, fun q d => ?_, h.no, h.yes⟩
    rw [h.mem, List.mem_append, List.mem_singleton]
    constructor
    · rintro (h1 | ⟨h1, h2, h3⟩)
      · exact .inl h1
      · exact .inr ⟨h1, .inl h2, h3⟩
    · rintro (h1 | ⟨h1, h2 | h2, h3⟩)
      · exact .inl h1
      · exact .inr ⟨h1, h2, h3⟩
      · rw [h2] at h3; exact absurd h3 hm
theorem Mid.start {y : Sys} {E : List (Nat × Nat)} {L : Nat} {f : List ((Nat × Nat) × Nat)} (hf : Far y E L f) : Mid y E L f [] f false := ⟨hf.nd, fun p d => by simp, fun _ => rfl, fun z => by cases z⟩
theorem Mid.done {y : Sys} {E : List (Nat × Nat)} {L : Nat} {f g : List ((Nat × Nat) × Nat)} {gr : Bool} (h : Mid y E L f (prs y.many) g gr) (hf : Far y E L f) : Far y E (L + 1) g := ⟨h.nd, fun p d => by
  rw [h.mem, hf.mem, prs_mem]
  constructor
  · rintro (⟨h1, h2, h3⟩ | ⟨rfl, h2, h3⟩)
    · exact ⟨h1, h2, by omega⟩
    · exact ⟨h2, h3, Nat.le_refl _⟩
  · rintro ⟨h1, h2, h3⟩
    by_cases e : d = L + 1
    · subst e
      exact .inr ⟨rfl, h1, h2⟩
    · exact .inl ⟨h1, h2, by omega⟩⟩
theorem Far.start {y : Sys} {E : List (Nat × Nat)} (hE : E.Nodup) (hl : ∀ p ∈ E, Lt y p) : Far y E 0 (E.map fun p => (p, 0)) := by
  refine ⟨?_, fun p d => ?_⟩
  · rw [List.map_map, show (fP ∘ fun p : Nat × Nat => (p, 0)) = id from rfl, List.map_id]
    exact hE
  · rw [List.mem_map]
    constructor
    · rintro ⟨q, hq, e⟩
      obtain ⟨rfl, rfl⟩ := Prod.mk.inj e
      exact ⟨hl q hq, minD_zero.2 hq, Nat.le_refl _⟩
    · rintro ⟨h1, h2, h3⟩
      have : d = 0 := by omega
      subst this
      exact ⟨p, minD_zero.1 h2, rfl⟩
end VL
namespace VL
open PySem PySem.Spec PyProof.Rows L2

end VL
namespace VL
open PySem PySem.Spec PyProof.Rows L2

/-! ### == of lists of pairs and [] -/
def pyP (p : Nat × Nat) : PyData := .tuple [.int (p.1 : Int), .int (p.2 : Int)]
/-! ### a live list sifted -/
/-! ### min -/
/-! ### the walk that picks the first log -/
structure Bt (y : Sys) (E P : List (Nat × Nat)) (T l : Nat) (log : List Nat) (now : List (Nat × Nat)) : Prop where
  len : log.length + l = T
  ent : ∀ q ∈ now, Lt y q ∧ MinD y E q l ∧ ∃ p ∈ P, Vl y log ∧ q = y.runP p log
  ne : now ≠ []
  lex : ∀ w, (∃ p ∈ P, Hit y E p w) → w.length = T → (∃ u q, w = log ++ u ∧ q ∈ now ∧ Hit y E q u) ∨ LexLt log w
  nl : now.length ≤ P.length
def way (y : Sys) (f : List ((Nat × Nat) × Nat)) (l : Nat) (now : List (Nat × Nat)) (e : Nat) : List (Nat × Nat) := (now.map (y.stepP e)).filter fun q => decide (gv f q = (l : Int))
section
variable {y : Sys} {E P : List (Nat × Nat)} {f : List ((Nat × Nat) × Nat)} {T l : Nat} {log : List Nat} {now : List (Nat × Nat)}
theorem way_mem (hf : FarAll y E f) {e : Nat} {q : Nat × Nat} : q ∈ way y f l now e ↔ ∃ p ∈ now, q = y.stepP e p ∧ Lt y q ∧ MinD y E q l := by
  unfold way
  rw [List.mem_filter, List.mem_map, decide_eq_true_eq, gv_iff hf.nd, hf.mem]
  constructor
  · rintro ⟨⟨p, hp, rfl⟩, h⟩
    exact ⟨p, hp, rfl, h⟩
  · rintro ⟨p, hp, rfl, h⟩
    exact ⟨⟨p, hp, rfl⟩, h⟩
theorem Bt.some (hy : y.Ok) (hf : FarAll y E f) (h : Bt y E P T (l + 1) log now) : ∃ e, e < y.ops.length ∧ way y f l now e ≠ [] := by
  obtain ⟨q, hq⟩ := List.exists_mem_of_ne_nil _ h.ne
  obtain ⟨hl, hm, _⟩ := h.ent q hq
  obtain ⟨e, he, h1⟩ := hm.step
  exact ⟨e, he, List.ne_nil_of_mem ((way_mem hf).2 ⟨q, hq, rfl, ⟨hy.step_lt hl.1 he, hy.step_lt hl.2 he⟩, h1⟩)⟩
theorem Bt.step (hy : y.Ok) (hf : FarAll y E f) (h : Bt y E P T (l + 1) log now) {e : Nat} (he : e < y.ops.length) (hw : way y f l now e ≠ []) (hmin : ∀ e', e' < y.ops.length → way y f l now e' ≠ [] → e ≤ e') : Bt y E P T l (log ++ [e]) (way y f l now e) := by
  refine ⟨by have := h.len; simp; omega, fun q hq => ?_, hw, fun w hw2 hl => ?_, ?_⟩
  · obtain ⟨p, hp, rfl, h1, h2⟩ := (way_mem hf).1 hq
    obtain ⟨_, _, p0, hp0, hv, rfl⟩ := h.ent p hp
    exact ⟨h1, h2, p0, hp0, hv.snoc he, (runP_snoc ..).symm⟩
  · rcases h.lex w hw2 hl with ⟨u, q, rfl, hq, hu⟩ | hlt
    · obtain ⟨hql, hqm, _⟩ := h.ent q hq
      have hul : u.length = l + 1 := by have := h.len; rw [List.length_append] at hl; omega
      cases u with
      | nil => cases hul
      | cons e' u =>
        obtain ⟨he', ht⟩ := hu.tail
        simp only [List.length_cons] at hul
        have hm' : MinD y E (y.stepP e' q) l := by
          refine ⟨⟨u, ht, by omega⟩, fun w' hw' => ?_⟩
          have := hqm.min _ (hw'.cons he')
          simp only [List.length_cons] at this
          omega
        have hmem : y.stepP e' q ∈ way y f l now e' := (way_mem hf).2 ⟨q, hq, rfl, ⟨hy.step_lt hql.1 he', hy.step_lt hql.2 he'⟩, hm'⟩
        have hle := hmin e' he' (List.ne_nil_of_mem hmem)
        by_cases ee : e = e'
        · subst ee
          exact .inl ⟨u, _, by simp, hmem, ht⟩
        · exact .inr ⟨log, e, e', [], u, rfl, rfl, by omega⟩
    · exact .inr (hlt.app _)
  · refine Nat.le_trans ?_ h.nl
    unfold way
    exact Nat.le_trans (List.length_filter_le _ _) (by simp)
theorem Bt.start (hf : FarAll y E f) (hP : ∀ p ∈ P, Lt y p) (h1 : ∃ p ∈ P, (p, T) ∈ f) (h2 : ∀ p ∈ P, ∀ d, (p, d) ∈ f → T ≤ d) : Bt y E P T T [] (P.filter fun p => decide (gv f p = (T : Int))) := by
  have hm : ∀ q, q ∈ (P.filter fun p => decide (gv f p = (T : Int))) ↔ q ∈ P ∧ Lt y q ∧ MinD y E q T := fun q => by
    rw [List.mem_filter, decide_eq_true_eq, gv_iff hf.nd, hf.mem]
  refine ⟨by simp, fun q hq => ?_, ?_, fun w hw hl => ?_, List.length_filter_le _ _⟩
  · obtain ⟨a, b, c⟩ := (hm q).1 hq
    exact ⟨b, c, q, a, (fun _ z => nomatch z), rfl⟩
  · obtain ⟨p, hp, hq⟩ := h1
    exact List.ne_nil_of_mem ((hm p).2 ⟨hp, (hf.mem _ _).1 hq⟩)
  · obtain ⟨p, hp, hh⟩ := hw
    obtain ⟨d, hd, hmd⟩ := minD_ex hh
    have := h2 p hp d ((hf.mem _ _).2 ⟨hP p hp, hmd⟩)
    have e : d = T := by omega
    subst e
    exact .inl ⟨w, p, rfl, (hm p).2 ⟨hp, hP p hp, hmd⟩, hh⟩
theorem Bt.fin (hf : FarAll y E f) (hP : ∀ p ∈ P, Lt y p) (h2 : ∀ p ∈ P, ∀ d, (p, d) ∈ f → T ≤ d) (h : Bt y E P T 0 log now) : FirstLog y E P log := by
  have hlen : log.length = T := by have := h.len; omega
  obtain ⟨q, hq⟩ := List.exists_mem_of_ne_nil _ h.ne
  obtain ⟨_, hm, p, hp, hv, rfl⟩ := h.ent q hq
  refine ⟨⟨p, hp, hv, minD_zero.1 hm⟩, fun w' hw' => ?_, fun w' hw' hl => ?_⟩
  · obtain ⟨p', hp', hh⟩ := hw'
    obtain ⟨d, hd, hmd⟩ := minD_ex hh
    have := h2 p' hp' d ((hf.mem _ _).2 ⟨hP p' hp', hmd⟩)
    omega
  · rcases h.lex w' hw' (by omega) with ⟨u, q, e, _, _⟩ | hlt
    · left
      have : u.length = 0 := by
        have := congrArg List.length e
        rw [List.length_append] at this
        omega
      rw [List.length_eq_zero_iff] at this
      subst this
      simpa using e
    · exact .inr hlt
end
end VL
namespace VL
open PySem PySem.Spec PyProof.Rows L2

end VL
namespace VL
open PySem PySem.Spec PyProof.Rows L2

/-! ### who covers whom: the program -/
noncomputable def Sys.rowC (y : Sys) (a : Nat) : List Bool := (List.range y.ops.length).map fun b => y.cov a b
noncomputable def Sys.rowD (y : Sys) (a : Nat) : VL.D := VL.D.tup ((y.rowC a).map VL.D.bl)
noncomputable def Sys.covD (y : Sys) : VL.D := VL.D.tup ((List.range y.ops.length).map y.rowD)
/-! ### .. and the law -/
def Sys.ends (y : Sys) (b : Nat) : List (Nat × Nat) := (prs y.many).filter fun p => !decide (y.step p.1 b = y.step p.2 b)
def Sys.starts (y : Sys) (a : Nat) : List (Nat × Nat) := y.reach.map fun st => (y.step st a, st)
end VL
namespace VL
open PySem PySem.Spec PyProof.Rows L2

end VL
namespace VL
open PySem PySem.Spec PyProof.Rows L2

/-! ### thinned logs -/
noncomputable def thinP (y : Sys) : List Nat → Nat → List Nat → Bool := fun _ e rest => !(rest.any fun x => y.cov e x)
noncomputable def Sys.thin (y : Sys) (l : List Nat) : List Nat := pickL (thinP y) [] l
end VL
namespace VL
open PySem PySem.Spec PyProof.Rows L2

/-! ### the greatest right kinds: the mathematics -/
theorem cov_trans {y : Sys} (hy : y.Ok) {a b c : Nat} (ha : a < y.ops.length) (h1 : y.Cov a b) (h2 : y.Cov b c) : y.Cov a c := by
  intro st hst w hw
  have e1 := h2 (y.step st a) (reach_step hy hst ha) w hw
  have e2 : y.step (y.step st a) b = y.step st b := h1 st hst [] (fun _ z => nomatch z)
  have e3 := h2 st hst w hw
  rw [← e1, e2, e3]
noncomputable def Sys.mu (y : Sys) (a b : Nat) : Bool := y.cov a b && y.cov b a
theorem mu_iff {y : Sys} {a b : Nat} : y.mu a b = true ↔ y.Cov a b ∧ y.Cov b a := by simp [Sys.mu, Sys.cov]
theorem mu_symm {y : Sys} {a b : Nat} (h : y.mu a b = true) : y.mu b a = true := mu_iff.2 (mu_iff.1 h).symm
theorem mu_trans {y : Sys} (hy : y.Ok) {a b c : Nat} (ha : a < y.ops.length) (hc : c < y.ops.length) (h1 : y.mu a b = true) (h2 : y.mu b c = true) : y.mu a c = true := by
  obtain ⟨a1, a2⟩ := mu_iff.1 h1
  obtain ⟨b1, b2⟩ := mu_iff.1 h2
  exact mu_iff.2 ⟨cov_trans hy ha a1 b1, cov_trans hy hc b2 a2⟩
/-- as the law makes them: kinds, heads -/
noncomputable def ownL (y : Sys) (hs : List Nat) (n : Nat) : List Nat := (List.range hs.length).filter fun i => y.mu n (hs.getD i 0)
noncomputable def lst1 (y : Sys) (p : List (Option Nat) × List Nat) (n : Nat) : List (Option Nat) × List Nat :=
  if ownL y p.2 n = [] ∧ y.cov n n = true then (p.1 ++ [some p.2.length], p.2 ++ [n]) else (p.1 ++ [(ownL y p.2 n).head?], p.2)
noncomputable def lstN (y : Sys) : Nat → List (Option Nat) × List Nat
  | 0 => ([], [])
  | n + 1 => lst1 y (lstN y n) n
/-- as the program makes them: kinds, how many -/
noncomputable def alikeL (y : Sys) (n : Nat) : List Nat := (List.range n).filter fun o => y.mu n o
noncomputable def prg1 (y : Sys) (p : List (Option Nat) × Nat) (n : Nat) : List (Option Nat) × Nat :=
  match alikeL y n with
  | o :: _ => (p.1 ++ [p.1.getD o none], p.2)
  | [] => if y.cov n n = true then (p.1 ++ [some p.2], p.2 + 1) else (p.1 ++ [none], p.2)
noncomputable def prgN (y : Sys) : Nat → List (Option Nat) × Nat
  | 0 => ([], 0)
  | n + 1 => prg1 y (prgN y n) n
structure BI (y : Sys) (n : Nat) (ks : List (Option Nat)) (hs : List Nat) : Prop where
  kl : ks.length = n
  hl : hs.length ≤ n
  hh : ∀ h ∈ hs, h < n ∧ y.cov h h = true
  dis : ∀ i j h h' : Nat, hs[i]? = some h → hs[j]? = some h' → y.mu h h' = true → i = j
  iff : ∀ o k : Nat, o < n → (ks[o]? = some (some k) ↔ ∃ h, hs[k]? = some h ∧ y.mu o h = true)
  all : ∀ o : Nat, o < n → y.cov o o = true → ∃ (k : Nat) (h : Nat), hs[k]? = some h ∧ y.mu o h = true
theorem own_mem {y : Sys} {hs : List Nat} {n i : Nat} : i ∈ ownL y hs n ↔ ∃ h, hs[i]? = some h ∧ y.mu n h = true := by
  unfold ownL
  rw [List.mem_filter, List.mem_range]
  constructor
  · rintro ⟨h1, h2⟩
    refine ⟨hs[i], List.getElem?_eq_getElem h1, ?_⟩
    rwa [List.getD_eq_getElem?_getD, List.getElem?_eq_getElem h1, Option.getD_some] at h2
  · rintro ⟨h, h1, h2⟩
    obtain ⟨h3, h4⟩ := List.getElem?_eq_some_iff.1 h1
    refine ⟨h3, ?_⟩
    rw [List.getD_eq_getElem?_getD, h1, Option.getD_some]
    exact h2
theorem BI.head {y : Sys} (hy : y.Ok) {n : Nat} {ks : List (Option Nat)} {hs : List Nat} (hn : n < y.ops.length) (B : BI y n ks hs) {k : Nat} (hk : k ∈ ownL y hs n) : (ownL y hs n).head? = some k := by
  cases hl : ownL y hs n with
  | nil => rw [hl] at hk; cases hk
  | cons k' r =>
    have hk' : k' ∈ ownL y hs n := by rw [hl]; simp
    obtain ⟨h, h1, h2⟩ := own_mem.1 hk
    obtain ⟨h', h1', h2'⟩ := own_mem.1 hk'
    have b1 := (B.hh h (List.mem_of_getElem? h1)).1
    have b2 := (B.hh h' (List.mem_of_getElem? h1')).1
    have := B.dis k k' h h' h1 h1' (mu_trans hy (by omega) (by omega) (mu_symm h2) h2')
    rw [this]
    rfl
theorem BI.step {y : Sys} (hy : y.Ok) {n : Nat} {ks : List (Option Nat)} {hs : List Nat} (hn : n < y.ops.length) (B : BI y n ks hs) : prg1 y (ks, hs.length) n = ((lst1 y (ks, hs) n).1, (lst1 y (ks, hs) n).2.length) ∧ BI y (n + 1) (lst1 y (ks, hs) n).1 (lst1 y (ks, hs) n).2 := by
  have hne : ∀ o, o < n → y.mu n o = true → ownL y hs n ≠ [] := fun o ho hm => by
    have hoo : y.cov o o = true := by
      have := mu_iff.1 (mu_trans hy (a := o) (c := o) (by omega) (by omega) (mu_symm hm) hm)
      simp [Sys.cov, this.1]
    obtain ⟨k, h, h1, h2⟩ := B.all o ho hoo
    have b1 := (B.hh h (List.mem_of_getElem? h1)).1
    exact List.ne_nil_of_mem (own_mem.2 ⟨h, h1, mu_trans hy hn (by omega) hm h2⟩)
  have hal : ownL y hs n ≠ [] → ∃ k h, k ∈ ownL y hs n ∧ hs[k]? = some h ∧ h < n ∧ y.mu n h = true := fun h => by
    obtain ⟨k, hk⟩ := List.exists_mem_of_ne_nil _ h
    obtain ⟨h, h1, h2⟩ := own_mem.1 hk
    exact ⟨k, h, hk, h1, (B.hh h (List.mem_of_getElem? h1)).1, h2⟩
  constructor
  · unfold prg1
    cases hA : alikeL y n with
    | nil =>
      have hown : ownL y hs n = [] := Classical.byContradiction fun z => by
        obtain ⟨k, h, hk, h1, h2, h3⟩ := hal z
        have : h ∈ alikeL y n := List.mem_filter.2 ⟨List.mem_range.2 h2, h3⟩
        rw [hA] at this
        cases this
      simp only [lst1, hown, true_and, List.head?_nil]
      by_cases hc : y.cov n n = true
      · simp [hc]
      · simp [hc]
    | cons o r =>
      have ho : o ∈ alikeL y n := by rw [hA]; simp
      obtain ⟨o1, o2⟩ := List.mem_filter.1 ho
      have o1 := List.mem_range.1 o1
      have hz := hne o o1 o2
      have hoo : y.cov o o = true := by
        have := mu_iff.1 (mu_trans hy (a := o) (c := o) (by omega) (by omega) (mu_symm o2) o2)
        simp [Sys.cov, this.1]
      obtain ⟨k, h, h1, h2⟩ := B.all o o1 hoo
      have b1 := (B.hh h (List.mem_of_getElem? h1)).1
      have hk : k ∈ ownL y hs n := own_mem.2 ⟨h, h1, mu_trans hy hn (by omega) o2 h2⟩
      have e1 : ks[o]? = some (some k) := (B.iff o k o1).2 ⟨h, h1, h2⟩
      simp only [lst1, hz, false_and, if_false, B.head hy hn hk, List.getD_eq_getElem?_getD, e1, Option.getD_some]
  · unfold lst1
    by_cases hc : ownL y hs n = [] ∧ y.cov n n = true
    · rw [if_pos hc]
      have hno : ∀ o, o < n → y.mu o n = true → False := fun o ho hm => hne o ho (mu_symm hm) hc.1
      have hnn : y.mu n n = true := by simp [Sys.mu, hc.2]
      have hget : ∀ (k h : Nat), (hs ++ [n])[k]? = some h → (hs[k]? = some h ∧ k < hs.length) ∨ (k = hs.length ∧ h = n) := fun k h e => by
        by_cases hk : k < hs.length
        · rw [List.getElem?_append_left hk] at e
          exact .inl ⟨e, hk⟩
        · have hk2 : k < (hs ++ [n]).length := (List.getElem?_eq_some_iff.1 e).1
          rw [List.length_append, List.length_singleton] at hk2
          have : k = hs.length := by omega
          subst this
          simp at e
          exact .inr ⟨rfl, e.symm⟩
      refine ⟨by simp [B.kl], by have := B.hl; simp; omega, fun h hh => ?_, fun i j h h' h1 h2 hm => ?_, fun o k ho => ?_, fun o ho hco => ?_⟩
      · rcases List.mem_append.1 hh with hh | hh
        · obtain ⟨a, b⟩ := B.hh h hh
          exact ⟨by omega, b⟩
        · rw [List.mem_singleton.1 hh]
          exact ⟨Nat.lt_succ_self _, hc.2⟩
      · rcases hget i h h1 with ⟨a, _⟩ | ⟨a, rfl⟩
        · rcases hget j h' h2 with ⟨b, _⟩ | ⟨b, rfl⟩
          · exact B.dis i j h h' a b hm
          · exact (hno h (B.hh h (List.mem_of_getElem? a)).1 hm).elim
        · rcases hget j h' h2 with ⟨b, _⟩ | ⟨b, rfl⟩
          · exact (hno h' (B.hh h' (List.mem_of_getElem? b)).1 (mu_symm hm)).elim
          · omega
      · by_cases e : o = n
        · subst e
          have hk : (ks ++ [some hs.length])[o]? = some (some hs.length) := by rw [← B.kl]; simp
          rw [hk]
          constructor
          · intro z
            have : k = hs.length := by simpa using z.symm
            subst this
            exact ⟨o, by simp, hnn⟩
          · rintro ⟨h, h1, h2⟩
            rcases hget k h h1 with ⟨a, _⟩ | ⟨a, rfl⟩
            · exact (hno h (B.hh h (List.mem_of_getElem? a)).1 (mu_symm h2)).elim
            · rw [a]
        · have ho' : o < n := by omega
          rw [List.getElem?_append_left (by rw [B.kl]; exact ho'), B.iff o k ho']
          constructor
          · rintro ⟨h, h1, h2⟩
            exact ⟨h, by rw [List.getElem?_append_left (List.getElem?_eq_some_iff.1 h1).1]; exact h1, h2⟩
          · rintro ⟨h, h1, h2⟩
            rcases hget k h h1 with ⟨a, _⟩ | ⟨a, rfl⟩
            · exact ⟨h, a, h2⟩
            · exact (hno o ho' h2).elim
      · by_cases e : o = n
        · subst e
          exact ⟨hs.length, o, by simp, hnn⟩
        · obtain ⟨k, h, h1, h2⟩ := B.all o (by omega) hco
          exact ⟨k, h, by rw [List.getElem?_append_left (List.getElem?_eq_some_iff.1 h1).1]; exact h1, h2⟩
    · rw [if_neg hc]
      refine ⟨by simp [B.kl], by have := B.hl; simp; omega, fun h hh => ?_, B.dis, fun o k ho => ?_, fun o ho hco => ?_⟩
      · obtain ⟨a, b⟩ := B.hh h hh
        exact ⟨by omega, b⟩
      · by_cases e : o = n
        · subst e
          have hk : (ks ++ [(ownL y hs o).head?])[o]? = some (ownL y hs o).head? := by
            have : o = ks.length := B.kl.symm
            rw [List.getElem?_append_right (by omega), this]
            simp
          rw [hk, ← own_mem]
          constructor
          · intro z
            exact List.mem_of_mem_head? (Option.some.inj z)
          · intro z
            rw [B.head hy hn z]
        · have ho' : o < n := by omega
          rw [List.getElem?_append_left (by rw [B.kl]; exact ho'), B.iff o k ho']
      · by_cases e : o = n
        · subst e
          have hz : ownL y hs o ≠ [] := fun z => hc ⟨z, hco⟩
          obtain ⟨k, h, hk, h1, h2, h3⟩ := hal hz
          exact ⟨k, h, h1, h3⟩
        · exact B.all o (by omega) hco
noncomputable def Sys.best (y : Sys) : List (Option Nat) := (lstN y y.ops.length).1
end VL
namespace VL
open PySem PySem.Spec PyProof.Rows L2

/-! ### the greatest right kinds: the program -/
noncomputable def Sys.bestD (y : Sys) : VL.D := VL.D.tup (y.best.map kD)
end VL
namespace VL
open PySem PySem.Spec PyProof.Rows L2

/-! ### the program's search by levels: the mathematics -/
def ltN : List Nat → List Nat → Bool
  | [], [] => false
  | [], _ :: _ => true
  | _ :: _, [] => false
  | a :: as, b :: bs => if a = b then ltN as bs else decide (a < b)
theorem ltN_iff : ∀ {a b : List Nat}, a.length = b.length → (ltN a b = true ↔ LexLt a b)
  | [], [], _ => ⟨fun h => (by cases h), fun h => (lexLt_nil h).elim⟩
  | [], _ :: _, h => by cases h
  | _ :: _, [], h => by cases h
  | a :: as, b :: bs, h => by
    rw [lexLt_iff]
    unfold ltN
    by_cases e : a = b
    · subst e
      rw [if_pos rfl, ltN_iff (by simpa using h)]
      simp
    · rw [if_neg e, decide_eq_true_eq]
      simp [e]
theorem lex_tri : ∀ {a b : List Nat}, a.length = b.length → a = b ∨ LexLt a b ∨ LexLt b a
  | [], [], _ => .inl rfl
  | [], _ :: _, h => by cases h
  | _ :: _, [], h => by cases h
  | a :: as, b :: bs, h => by
    rw [lexLt_iff, lexLt_iff]
    rcases Nat.lt_trichotomy a b with z | z | z
    · exact .inr (.inl (.inl z))
    · subst z
      rcases lex_tri (a := as) (b := bs) (by simpa using h) with e | e | e
      · exact .inl (by rw [e])
      · exact .inr (.inl (.inr ⟨rfl, e⟩))
      · exact .inr (.inr (.inr ⟨rfl, e⟩))
    · exact .inr (.inr (.inl z))
theorem lex_trans : ∀ {a b c : List Nat}, LexLt a b → LexLt b c → LexLt a c
  | [], _, _, h, _ => (lexLt_nil h).elim
  | _ :: _, [], _, _, h => (lexLt_nil h).elim
  | _ :: _, _ :: _, [], _, h => by
    obtain ⟨c, x, z, r1, r2, _, h2, _⟩ := h
    simp at h2
  | a :: as, b :: bs, c :: cs, h1, h2 => by
    rw [lexLt_iff] at h1 h2 ⊢
    rcases h1 with h1 | ⟨rfl, h1⟩
    · rcases h2 with h2 | ⟨rfl, h2⟩
      · exact .inl (by omega)
      · exact .inl h1
    · rcases h2 with h2 | ⟨rfl, h2⟩
      · exact .inl h2
      · exact .inr ⟨rfl, lex_trans h1 h2⟩
abbrev LeL (a b : List Nat) : Prop := b = a ∨ LexLt a b
theorem leL_trans {a b c : List Nat} (h1 : LeL a b) (h2 : LeL b c) : LeL a c := by
  rcases h1 with rfl | h1
  · exact h2
  · rcases h2 with rfl | h2
    · exact .inr h1
    · exact .inr (lex_trans h1 h2)
theorem leL_snoc {a b : List Nat} (h : LeL a b) (hl : a.length = b.length) {d e : Nat} (hde : a = b → d ≤ e) : LeL (a ++ [d]) (b ++ [e]) := by
  rcases h with rfl | h
  · have := hde rfl
    by_cases e2 : d = e
    · subst e2; exact .inl rfl
    · exact .inr ⟨b, d, e, [], [], rfl, rfl, by omega⟩
  · obtain ⟨c, x, z, r1, r2, rfl, rfl, hx⟩ := h
    exact .inr ⟨c, x, z, r1 ++ [d], r2 ++ [e], by simp, by simp, hx⟩
/-- the less one of two -/
def minL (a b : List Nat) : List Nat := if ltN b a = true then b else a
theorem minL_le {a b : List Nat} (h : a.length = b.length) : LeL (minL a b) a ∧ LeL (minL a b) b ∧ (minL a b = a ∨ minL a b = b) := by
  unfold minL
  by_cases e : ltN b a = true
  · rw [if_pos e]
    exact ⟨.inr ((ltN_iff h.symm).1 e), .inl rfl, .inr rfl⟩
  · rw [if_neg e]
    refine ⟨.inl rfl, ?_, .inl rfl⟩
    rcases lex_tri h with z | z | z
    · exact .inl z.symm
    · exact .inr z
    · exact absurd ((ltN_iff h.symm).2 z) e
/-! candidates and the best ones -/
abbrev Cd := (Nat × Nat) × List Nat
structure Best (n : Nat) (cs g : List Cd) : Prop where
  nd : (g.map (·.1)).Nodup
  mem : ∀ q v, (q, v) ∈ g ↔ (q, v) ∈ cs ∧ ∀ v', (q, v') ∈ cs → LeL v v'
  key : ∀ q v, (q, v) ∈ cs → ∃ w, (q, w) ∈ g
  len : ∀ q v, (q, v) ∈ cs → v.length = n
def insB (g : List Cd) (q : Nat × Nat) (v : List Nat) : List Cd :=
  match g.find? fun x => decide (x.1 = q) with
  | some x => g.map fun z => if z.1 = q then (z.1, minL x.2 v) else z
  | none => g ++ [(q, v)]
theorem Best.nil (n : Nat) : Best n [] [] := ⟨by simp, by simp, by simp, by simp⟩
theorem leL_anti {a b : List Nat} (h1 : LeL a b) (h2 : LeL b a) : a = b := by
  rcases h1 with rfl | h1
  · rfl
  · rcases h2 with rfl | h2
    · rfl
    · exact absurd h2 (lexLt_asymm h1)
theorem Best.ins {n : Nat} {cs g : List Cd} (B : Best n cs g) {q : Nat × Nat} {v : List Nat} (hv : v.length = n) : Best n (cs ++ [(q, v)]) (insB g q v) := by
  have hlen : ∀ q' v', (q', v') ∈ cs ++ [(q, v)] → v'.length = n := fun q' v' h => by
    rcases List.mem_append.1 h with h | h
    · exact B.len q' v' h
    · rw [(Prod.mk.inj (List.mem_singleton.1 h)).2]; exact hv
  unfold insB
  cases hf : g.find? fun x => decide (x.1 = q) with
  | some x =>
    have hx1 : x.1 = q := by have := List.find?_some hf; simpa using this
    have hxg : (q, x.2) ∈ g := by
      have := List.mem_of_find?_eq_some hf
      rw [← hx1]
      exact this
    obtain ⟨hxc, hxm⟩ := (B.mem q x.2).1 hxg
    have hxl := B.len q x.2 hxc
    obtain ⟨m1, m2, m3⟩ := minL_le (a := x.2) (b := v) (by omega)
    have hgm : ∀ q' v', (q', v') ∈ (g.map fun z => if z.1 = q then (z.1, minL x.2 v) else z) ↔ (q' ≠ q ∧ (q', v') ∈ g) ∨ (q' = q ∧ v' = minL x.2 v) := fun q' v' => by
      rw [List.mem_map]
      constructor
      · rintro ⟨z, hz, e⟩
        by_cases hzq : z.1 = q
        · rw [if_pos hzq] at e
          obtain ⟨e1, e2⟩ := Prod.mk.inj e
          exact .inr ⟨by rw [← e1]; exact hzq, e2.symm⟩
        · rw [if_neg hzq] at e
          subst e
          exact .inl ⟨hzq, hz⟩
      · rintro (⟨h1, h2⟩ | ⟨rfl, rfl⟩)
        · exact ⟨(q', v'), h2, by rw [if_neg h1]⟩
        · exact ⟨(q', x.2), hxg, by rw [if_pos rfl]⟩
    refine ⟨?_, fun q' v' => ?_, fun q' v' h => ?_, hlen⟩
    · have : (g.map fun z => if z.1 = q then (z.1, minL x.2 v) else z).map (·.1) = g.map (·.1) := by
        rw [List.map_map]
        refine List.map_congr_left fun z _ => ?_
        simp only [Function.comp]
        split <;> rfl
      rw [this]
      exact B.nd
    · rw [hgm, List.mem_append, List.mem_singleton]
      constructor
      · rintro (⟨h1, h2⟩ | ⟨rfl, rfl⟩)
        · obtain ⟨a, b⟩ := (B.mem q' v').1 h2
          refine ⟨.inl a, fun v'' h => ?_⟩
          rcases List.mem_append.1 h with h | h
          · exact b v'' h
          · exact absurd (Prod.mk.inj (List.mem_singleton.1 h)).1 h1
        · refine ⟨?_, fun v'' h => ?_⟩
          · rcases m3 with e | e
            · rw [e]; exact .inl hxc
            · rw [e]; exact .inr rfl
          · rcases List.mem_append.1 h with h | h
            · exact leL_trans m1 (hxm v'' h)
            · rw [(Prod.mk.inj (List.mem_singleton.1 h)).2]; exact m2
      · rintro ⟨h1, h2⟩
        by_cases e : q' = q
        · subst e
          refine .inr ⟨rfl, ?_⟩
          have a1 : LeL v' x.2 := h2 x.2 (List.mem_append_left _ hxc)
          have a2 : LeL v' v := h2 v (by simp)
          have a3 : LeL v' (minL x.2 v) := by rcases m3 with e | e <;> rw [e] <;> assumption
          have a4 : LeL (minL x.2 v) v' := by
            rcases h1 with h1 | h1
            · exact leL_trans m1 (hxm v' h1)
            · rw [(Prod.mk.inj h1).2]; exact m2
          exact leL_anti a3 a4
        · refine .inl ⟨e, (B.mem q' v').2 ⟨?_, fun v'' h => h2 v'' (List.mem_append_left _ h)⟩⟩
          rcases h1 with h1 | h1
          · exact h1
          · exact absurd (Prod.mk.inj h1).1 e
    · rcases List.mem_append.1 h with h | h
      · obtain ⟨w, hw⟩ := B.key q' v' h
        by_cases e : q' = q
        · exact ⟨_, (hgm q' _).2 (.inr ⟨e, rfl⟩)⟩
        · exact ⟨w, (hgm q' w).2 (.inl ⟨e, hw⟩)⟩
      · exact ⟨_, (hgm q' _).2 (.inr ⟨(Prod.mk.inj (List.mem_singleton.1 h)).1, rfl⟩)⟩
  | none =>
    have hno : ∀ w, (q, w) ∉ g := fun w h => by
      have := List.find?_eq_none.1 hf _ h
      simp at this
    have hnc : ∀ w, (q, w) ∉ cs := fun w h => by
      obtain ⟨u, hu⟩ := B.key q w h
      exact hno u hu
    refine ⟨?_, fun q' v' => ?_, fun q' v' h => ?_, hlen⟩
    · rw [List.map_append]
      refine List.nodup_append.2 ⟨B.nd, by simp, fun a ha b hb e => ?_⟩
      obtain ⟨⟨z, w⟩, hz, rfl⟩ := List.mem_map.1 ha
      have : b = q := by simpa using hb
      subst this
      subst e
      exact hno w hz
    · rw [List.mem_append, List.mem_singleton, List.mem_append, List.mem_singleton, B.mem]
      constructor
      · rintro (⟨h1, h2⟩ | h)
        · refine ⟨.inl h1, fun v'' h => ?_⟩
          rcases List.mem_append.1 h with h | h
          · exact h2 v'' h
          · have e := (Prod.mk.inj (List.mem_singleton.1 h)).1
            subst e
            exact absurd h1 (hnc _)
        · obtain ⟨rfl, rfl⟩ := Prod.mk.inj h
          refine ⟨.inr rfl, fun v'' h => ?_⟩
          rcases List.mem_append.1 h with h | h
          · exact absurd h (hnc _)
          · exact .inl (Prod.mk.inj (List.mem_singleton.1 h)).2
      · rintro ⟨h1 | h1, h2⟩
        · exact .inl ⟨h1, fun v'' h => h2 v'' (List.mem_append_left _ h)⟩
        · exact .inr h1
    · rcases List.mem_append.1 h with h | h
      · obtain ⟨w, hw⟩ := B.key q' v' h
        exact ⟨w, List.mem_append_left _ hw⟩
      · have e := (Prod.mk.inj (List.mem_singleton.1 h)).1
        exact ⟨v, by rw [e]; simp⟩
/-! levels -/
section
variable (y : Sys) (P : List (Nat × Nat))
def Rch (p : Nat × Nat) (w : List Nat) : Prop := Vl y w ∧ ∃ p0 ∈ P, y.runP p0 w = p
structure MinR (p : Nat × Nat) (n : Nat) : Prop where
  hit : ∃ w, Rch y P p w ∧ w.length = n
  min : ∀ w, Rch y P p w → n ≤ w.length
structure Found (n : Nat) (f : List Cd) : Prop where
  nd : (f.map (·.1)).Nodup
  mem : ∀ p w, (p, w) ∈ f ↔ MinR y P p n ∧ (Rch y P p w ∧ w.length = n) ∧ ∀ w', Rch y P p w' → w'.length = n → LeL w w'
  key : ∀ p, MinR y P p n → ∃ w, (p, w) ∈ f
structure Seen (n : Nat) (l : List (Nat × Nat)) : Prop where
  nd : l.Nodup
  mem : ∀ p, p ∈ l ↔ ∃ m, m < n ∧ MinR y P p m
end
section
variable {y : Sys} {P : List (Nat × Nat)} {p q : Nat × Nat} {n m : Nat} {w : List Nat} {f g : List Cd} {l : List (Nat × Nat)}
theorem MinR.uniq (h : MinR y P p n) (h' : MinR y P p m) : n = m := by
  obtain ⟨w, hw, e⟩ := h.hit
  obtain ⟨w', hw', e'⟩ := h'.hit
  have := h.min w' hw'
  have := h'.min w hw
  omega
theorem minR_ex (h : Rch y P p w) : ∃ d, d ≤ w.length ∧ MinR y P p d := by
  induction hn : w.length using Nat.strongRecOn generalizing w with
  | _ n ih =>
    by_cases hx : ∃ w', Rch y P p w' ∧ w'.length < n
    · obtain ⟨w', h1, h2⟩ := hx
      obtain ⟨d, h3, h4⟩ := ih w'.length h2 h1 rfl
      exact ⟨d, by omega, h4⟩
    · exact ⟨n, Nat.le_refl _, ⟨⟨w, h, hn⟩, fun w' hw' => Nat.le_of_not_lt fun z => hx ⟨w', hw', z⟩⟩⟩
theorem Rch.snoc (h : Rch y P p w) {e : Nat} (he : e < y.ops.length) : Rch y P (y.stepP e p) (w ++ [e]) := by
  obtain ⟨hv, p0, hp0, rfl⟩ := h
  exact ⟨hv.snoc he, p0, hp0, runP_snoc ..⟩
theorem Rch.split {e : Nat} (h : Rch y P p (w ++ [e])) : e < y.ops.length ∧ ∃ q, Rch y P q w ∧ y.stepP e q = p := by
  obtain ⟨hv, p0, hp0, rfl⟩ := h
  exact ⟨hv e (by simp), y.runP p0 w, ⟨fun x hx => hv x (List.mem_append_left _ hx), p0, hp0, rfl⟩, (runP_snoc ..).symm⟩
/-- on the way to one first reached at n + 1, each is first reached at n -/
theorem MinR.prev {e : Nat} (h : MinR y P p (n + 1)) (hq : Rch y P q w) (hl : w.length = n) (he : e < y.ops.length) (es : y.stepP e q = p) : MinR y P q n := by
  refine ⟨⟨w, hq, hl⟩, fun w' hw' => ?_⟩
  have := h.min (w' ++ [e]) (es ▸ hw'.snoc he)
  simp only [List.length_append, List.length_singleton] at this
  omega
def cands (y : Sys) (f : List Cd) : List Cd := f.flatMap fun x => (List.range y.ops.length).map fun e => (y.stepP e x.1, x.2 ++ [e])
theorem cands_mem : (q, w) ∈ cands y f ↔ ∃ p u e, (p, u) ∈ f ∧ e < y.ops.length ∧ q = y.stepP e p ∧ w = u ++ [e] := by
  unfold cands
  rw [List.mem_flatMap]
  constructor
  · rintro ⟨⟨p, u⟩, h1, h2⟩
    obtain ⟨e, he, h3⟩ := List.mem_map.1 h2
    obtain ⟨h4, h5⟩ := Prod.mk.inj h3
    exact ⟨p, u, e, h1, List.mem_range.1 he, h4.symm, h5.symm⟩
  · rintro ⟨p, u, e, h1, h2, rfl, rfl⟩
    exact ⟨(p, u), h1, List.mem_map.2 ⟨e, List.mem_range.2 h2, rfl⟩⟩
/-- a level more: what is new of the best candidates -/
theorem Found.next (F : Found y P n f) (B : Best (n + 1) (cands y f) g) (S : Seen y P (n + 1) l) : Found y P (n + 1) (g.filter fun x => decide (x.1 ∉ l)) := by
  have snoc_of : ∀ w : List Nat, w.length = n + 1 → ∃ u e, w = u ++ [e] ∧ u.length = n := fun w hl => by
    have e := List.dropLast_concat_getLast (l := w) (by intro z; subst z; cases hl)
    exact ⟨w.dropLast, w.getLast (by intro z; subst z; cases hl), e.symm, by simp [hl]⟩
  have hnew : ∀ p, MinR y P p (n + 1) → p ∉ l := fun p hm hp => by
    obtain ⟨m, h1, h2⟩ := (S.mem p).1 hp
    have := h2.uniq hm
    omega
  have cand_of : ∀ p w, MinR y P p (n + 1) → Rch y P p w → w.length = n + 1 → ∃ q b e, (q, b) ∈ f ∧ e < y.ops.length ∧ y.stepP e q = p ∧ Rch y P p (b ++ [e]) ∧ (b ++ [e]).length = n + 1 ∧ LeL (b ++ [e]) w := fun p w hm hw hl => by
    obtain ⟨u, e, rfl, hul⟩ := snoc_of w hl
    obtain ⟨he, q, hq, es⟩ := hw.split
    have hqm := hm.prev hq hul he es
    obtain ⟨b, hb⟩ := F.key q hqm
    obtain ⟨_, ⟨g2, g3⟩, g4⟩ := (F.mem q b).1 hb
    exact ⟨q, b, e, hb, he, es, es ▸ g2.snoc he, by simp [g3], leL_snoc (g4 u hq hul) (by omega) fun _ => Nat.le_refl _⟩
  have rch_of : ∀ q v, (q, v) ∈ cands y f → Rch y P q v ∧ v.length = n + 1 := fun q v h => by
    obtain ⟨p, u, e, h1, h2, rfl, rfl⟩ := cands_mem.1 h
    obtain ⟨_, ⟨f2, f3⟩, _⟩ := (F.mem p u).1 h1
    exact ⟨f2.snoc h2, by simp [f3]⟩
  refine ⟨List.Nodup.sublist (List.Sublist.map _ List.filter_sublist) B.nd, fun p w => ?_, fun p hm => ?_⟩
  · rw [List.mem_filter, decide_eq_true_eq, B.mem]
    constructor
    · rintro ⟨⟨h1, hb⟩, hn⟩
      obtain ⟨hr, hl⟩ := rch_of p w h1
      obtain ⟨d, hd, hm⟩ := minR_ex hr
      have hd1 : d = n + 1 := by
        by_cases hlt : d < n + 1
        · exact absurd ((S.mem p).2 ⟨d, hlt, hm⟩) hn
        · omega
      subst hd1
      refine ⟨hm, ⟨hr, hl⟩, fun w' hw' hl' => ?_⟩
      obtain ⟨q, b, e, hb1, he, es, _, _, hle⟩ := cand_of p w' hm hw' hl'
      exact leL_trans (hb (b ++ [e]) (cands_mem.2 ⟨q, b, e, hb1, he, es.symm, rfl⟩)) hle
    · rintro ⟨hm, ⟨hr, hl⟩, hb⟩
      obtain ⟨q, b, e, hb1, he, es, hbr, hbl, hle⟩ := cand_of p w hm hr hl
      have e1 : b ++ [e] = w := leL_anti hle (hb _ hbr hbl)
      refine ⟨⟨cands_mem.2 ⟨q, b, e, hb1, he, es.symm, e1.symm⟩, fun v' hv' => ?_⟩, hnew p hm⟩
      obtain ⟨h3, h4⟩ := rch_of p v' hv'
      exact hb v' h3 h4
  · obtain ⟨w, hw, hl⟩ := hm.hit
    obtain ⟨q, b, e, hb1, he, es, _, _, _⟩ := cand_of p w hm hw hl
    obtain ⟨v, hv⟩ := B.key p (b ++ [e]) (cands_mem.2 ⟨q, b, e, hb1, he, es.symm, rfl⟩)
    exact ⟨v, List.mem_filter.2 ⟨hv, decide_eq_true (hnew p hm)⟩⟩
theorem Seen.next (F : Found y P n f) (S : Seen y P n l) : Seen y P (n + 1) (l ++ f.map (·.1)) := by
  refine ⟨List.nodup_append.2 ⟨S.nd, F.nd, fun a ha b hb e => ?_⟩, fun p => ?_⟩
  · subst e
    obtain ⟨m, h1, h2⟩ := (S.mem a).1 ha
    obtain ⟨⟨q, w⟩, hq, rfl⟩ := List.mem_map.1 hb
    have := ((F.mem q w).1 hq).1.uniq h2
    omega
  · rw [List.mem_append, S.mem, List.mem_map]
    constructor
    · rintro (⟨m, h1, h2⟩ | ⟨⟨q, w⟩, hq, rfl⟩)
      · exact ⟨m, by omega, h2⟩
      · exact ⟨n, Nat.lt_succ_self _, ((F.mem q w).1 hq).1⟩
    · rintro ⟨m, h1, h2⟩
      by_cases e : m = n
      · subst e
        obtain ⟨w, hw⟩ := F.key p h2
        exact .inr ⟨(p, w), hw, rfl⟩
      · exact .inl ⟨m, by omega, h2⟩
/-- where the search ends -/
theorem Rch.at_hit {E : List (Nat × Nat)} {p0 : Nat × Nat} (hp : p0 ∈ P) (h : Hit y E p0 w) : Rch y P (y.runP p0 w) w := ⟨h.1, p0, hp, rfl⟩
theorem Found.first {E : List (Nat × Nat)} (F : Found y P n f) (hno : ∀ m, m < n → ∀ p, MinR y P p m → p ∉ E) {v : List Nat} (h1 : ∃ p, (p, v) ∈ f ∧ p ∈ E) (h2 : ∀ p w, (p, w) ∈ f → p ∈ E → LeL v w) : FirstLog y E P v := by
  have hmin : ∀ w', (∃ p ∈ P, Hit y E p w') → n ≤ w'.length ∧ (w'.length = n → ∃ q, MinR y P q n ∧ Rch y P q w' ∧ q ∈ E) := by
    rintro w' ⟨p0, hp0, hh⟩
    have hr := Rch.at_hit hp0 hh
    obtain ⟨d, hd, hm⟩ := minR_ex hr
    have hdn : n ≤ d := Nat.le_of_not_lt fun z => hno d z _ hm hh.2
    refine ⟨by omega, fun hl => ?_⟩
    have : d = n := by omega
    subst this
    exact ⟨_, hm, hr, hh.2⟩
  obtain ⟨p, hp, hpE⟩ := h1
  obtain ⟨_, ⟨⟨hv, p0, hp0, e⟩, hl⟩, _⟩ := (F.mem p v).1 hp
  refine ⟨⟨p0, hp0, hv, by rw [e]; exact hpE⟩, fun w' hw' => by have := (hmin w' hw').1; omega, fun w' hw' hl' => ?_⟩
  obtain ⟨q, hqm, hqr, hqE⟩ := (hmin w' hw').2 (by omega)
  obtain ⟨b, hb⟩ := F.key q hqm
  have h3 := h2 q b hb hqE
  have h4 := ((F.mem q b).1 hb).2.2 w' hqr (by omega)
  exact leL_trans h3 h4
theorem Found.start {Q : List (Nat × Nat)} (h : Q.Nodup) (hQ : ∀ p, p ∈ Q ↔ p ∈ P) : Found y P 0 (Q.map fun p => (p, [])) := by
  have hm0 : ∀ p, MinR y P p 0 ↔ p ∈ Q := fun p => by
    rw [hQ]
    constructor
    · rintro ⟨⟨w, ⟨_, p0, hp0, e⟩, hl⟩, _⟩
      rw [List.length_eq_zero_iff] at hl
      subst hl
      rw [← e]
      exact hp0
    · intro hp
      exact ⟨⟨[], ⟨(fun _ z => nomatch z), p, hp, rfl⟩, rfl⟩, fun _ _ => Nat.zero_le _⟩
  refine ⟨?_, fun p w => ?_, fun p hp => ⟨[], List.mem_map.2 ⟨p, (hm0 p).1 hp, rfl⟩⟩⟩
  · rw [List.map_map, show ((fun x : Cd => x.1) ∘ fun p : Nat × Nat => (p, [])) = id from rfl, List.map_id]
    exact h
  · rw [hm0, List.mem_map]
    constructor
    · rintro ⟨q, hq, e⟩
      obtain ⟨rfl, rfl⟩ := Prod.mk.inj e
      refine ⟨hq, ⟨⟨(fun _ z => nomatch z), q, (hQ q).1 hq, rfl⟩, rfl⟩, fun w' _ hl => ?_⟩
      rw [List.length_eq_zero_iff] at hl
      exact .inl hl
    · rintro ⟨h1, ⟨_, h2⟩, _⟩
      rw [List.length_eq_zero_iff] at h2
      subst h2
      exact ⟨p, h1, rfl⟩
end
end VL
namespace VL
open PySem PySem.Spec PyProof.Rows L2

/-! ### longer -/
abbrev cP : Cd → Nat × Nat := fun x => x.1
abbrev cV : Cd → D := fun x => logD x.2
end VL
namespace VL
open PySem PySem.Spec PyProof.Rows L2

/-! ### pieces of first_log -/
def pyG (l : List Nat) : PyData := .tuple (pyL l)
/-! a dict's making, sifted -/
end VL
namespace VL
open PySem PySem.Spec PyProof.Rows L2

/-! ### first_log, whatever class its test is of -/
noncomputable def flB (tab : List (Str × FM)) : FM := mFn 8 (mSeq (mAsg (mTup (mCons (mDcT (mSrc (mVar 1)) (.one 6) mYes (mVar 6) (mTup mNil) [6]) (mCons (mLst mNil) mNil))) (gT 2 (gConsM (gN 3) (gConsM (gN 4) gNilM))))
  (mSeq (mWhile (mB (mBin opNeE (mVar 3) mNewT))
  (mSeq (mAsg (mLcF finL (mItems (mVar 3)) (.many [6, 7]) (mB (mCallI tab (mVar 2) (mCons (mVar 6) mNil))) (mVar 7) [6, 7]) (gN 5))
  (mSeq (mIfS (mB (mBin opNe (mVar 5) (mLst mNil)))
  (mRet (mCall fMinT (mCons (mVar 5) mNil)))
  mSkip)
  (mSeq (mAsg (mBin opAdd (mVar 4) (mCall fListOU (mCons (mVar 3) mNil))) (gN 4))
  (mAsg (mDcT (mItems (mUser m_longer (mCons (mVar 0) (mCons (mVar 3) mNil)))) (.many [6, 7]) (mB (mBin opNotIn (mVar 6) (mVar 4))) (mVar 6) (mVar 7) [6, 7]) (gN 3))))) 2000)
  (mRet (mC .non))))
theorem Found.lt {y : Sys} (hy : y.Ok) {P : List (Nat × Nat)} (hP : ∀ p ∈ P, Lt y p) {k : Nat} {f : List Cd} (F : Found y P k f) : ∀ p w, (p, w) ∈ f → Lt y p ∧ w.length = k := fun p w h => by
  obtain ⟨_, ⟨⟨hv, p0, hp0, rfl⟩, hl⟩, _⟩ := (F.mem p w).1 h
  exact ⟨runP_lt hy hv (hP p0 hp0), hl⟩
theorem MinR.lt {y : Sys} (hy : y.Ok) {P : List (Nat × Nat)} (hP : ∀ p ∈ P, Lt y p) {p : Nat × Nat} {k : Nat} (h : MinR y P p k) : Lt y p := by
  obtain ⟨w, ⟨hv, p0, hp0, rfl⟩, _⟩ := h.hit
  exact runP_lt hy hv (hP p0 hp0)
end VL
namespace VL
open PySem PySem.Spec PyProof.Rows L2

/-! ### first logs between: both sides told as one -/
open Classical in
noncomputable def btwD (y : Sys) (E P : List (Nat × Nat)) : D := if h : ∃ w, FirstLog y E P w then logD h.choose else .non
end VL
namespace VL
open PySem PySem.Spec PyProof.Rows L2

/-! ### operations delivered again: Moved, both sides -/
def Sys.endsM (y : Sys) (b : Nat) : List (Nat × Nat) := ((List.range y.many).filter fun st => !decide (y.step st b = st)).map fun st => (st, st)
def Sys.startsM (y : Sys) (b : Nat) : List (Nat × Nat) := y.reach.map fun st => (y.step st b, y.step st b)
def Sys.endsP (y : Sys) (b : Nat) : List (Nat × Nat) := (prs y.many).filter fun p => !decide (y.step p.1 b = p.1)
theorem FirstLog.congr {y : Sys} {E E' P : List (Nat × Nat)} (h : ∀ p ∈ P, ∀ w, Hit y E p w ↔ Hit y E' p w) {w : List Nat} (F : FirstLog y E P w) : FirstLog y E' P w := by
  have h2 : ∀ w, (∃ p ∈ P, Hit y E' p w) → ∃ p ∈ P, Hit y E p w := fun w ⟨p, hp, hh⟩ => ⟨p, hp, (h p hp w).2 hh⟩
  obtain ⟨p, hp, hh⟩ := F.hit
  exact ⟨⟨p, hp, (h p hp w).1 hh⟩, fun w' hw' => F.min w' (h2 w' hw'), fun w' hw' => F.lex w' (h2 w' hw')⟩
/-- the program's unsteady: from its body on -/
noncomputable def unsB : FM := mFn 4 (mSeq (mDrop (mUser m_need_system (mCons (mVar 0) mNil)))
  (mSeq (mDrop (mUser m_need_operation (mCons (mVar 0) (mCons (mVar 1) mNil))))
  (mSeq (mAsg (mBin opIx (mBin opIx (mVar 0) (mC (.int 2))) (mVar 1)) (gN 2))
  (mRet (mUser (flB [("Moved", m_Moved_call)]) (mCons (mVar 0) (mCons (mLc (mSrc (mUser m_reached (mCons (mVar 0) mNil))) (.one 3) mYes (mTup (mCons (mBin opIx (mVar 2) (mVar 3)) (mCons (mBin opIx (mVar 2) (mVar 3)) mNil))) [3]) (mCons (mNew "Moved" m_Moved_init (mCons (mVar 2) mNil)) mNil))))))))
end VL
namespace VL
open PySem PySem.Spec PyProof.Rows L2

/-! ### for k21, k26: thinning, steadiness -/
/-- an operation that may be delivered again -/
def Sys.Steady (y : Sys) (b : Nat) : Prop := ∀ st ∈ y.reach, ∀ w, Vl y w → y.step (y.run (y.step st b) w) b = y.run (y.step st b) w
end VL
namespace VL
open PySem PySem.Spec PyProof.Rows L2

/-! ### is_telling, shows_uncovered -/
def Sys.tell (y : Sys) (a b : Nat) (w : List Nat) : Bool := y.reach.any fun st => !decide (y.run st (a :: (w ++ [b])) = y.run st (w ++ [b]))
end VL
namespace VL
open PySem PySem.Spec PyProof.Rows L2

/-! ### k21: one pair of operations -/
noncomputable def twoB : FM := mFn 9 (mSeq (mAsg (mUser m_uncovered (mCons (mVar 1) (mCons (mVar 2) (mCons (mVar 3) mNil)))) (gN 5))
(mSeq (mIfS (mOrT (mB (mBin opNe (mBin opIsN (mVar 5) (mC .non)) (mVar 4))) (mB (mBin opNotB (mUser m_shows_uncovered (mCons (mVar 1) (mCons (mVar 2) (mCons (mVar 3) (mCons (mVar 5) mNil))))) (mC (.bl true)))))
(mRet (mC (.bl false)))
mSkip)
(mSeq (mIfS (mB (mBin opNotN (mVar 5) (mC .non)))
(mRet (mBin opNotN (mUser m_apart (mCons (mVar 1) (mCons (mBin opAdd (mBin opAdd (mTup (mCons (mVar 2) mNil)) (mVar 5)) (mTup (mCons (mVar 3) mNil))) (mCons (mBin opAdd (mVar 5) (mTup (mCons (mVar 3) mNil))) mNil)))) (mC .non)))
mSkip)
(mSeq (mFor (mRng1 (mCons (mC (.int 3)) mNil)) (gN 6)
(mSeq (mPar 7 8 (mCons (mUser m__law_log (mCons (mVar 0) (mCons (mVar 1) (mCons (mC (.int 6)) mNil)))) (mCons (mUser m__law_log (mCons (mVar 0) (mCons (mVar 1) (mCons (mC (.int 4)) mNil)))) mNil)))
(mSeq (mIfS (mB (mBin opNotN (mUser m_apart (mCons (mVar 1) (mCons (mBin opAdd (mBin opAdd (mTup (mCons (mVar 2) mNil)) (mVar 7)) (mTup (mCons (mVar 3) mNil))) (mCons (mBin opAdd (mVar 7) (mTup (mCons (mVar 3) mNil))) mNil)))) (mC .non)))
(mRet (mC (.bl false)))
mSkip)
(mSeq (mAsg (mBin opAdd (mVar 7) (mTup (mCons (mVar 3) mNil))) (gN 7))
(mIfS (mB (mBin opNe (mUser m_outcome (mCons (mVar 1) (mCons (mBin opAdd (mBin opAdd (mVar 8) (mTup (mCons (mVar 2) mNil))) (mVar 7)) mNil))) (mUser m_outcome (mCons (mVar 1) (mCons (mBin opAdd (mVar 8) (mVar 7)) mNil)))))
(mRet (mC (.bl false)))
mSkip)))))
(mRet (mBin opIsB (mUser m_shows_uncovered (mCons (mVar 1) (mCons (mVar 2) (mCons (mVar 3) (mCons (mTup mNil) mNil))))) (mC (.bl false))))))))
end VL
namespace VL
open PySem PySem.Spec PyProof.Rows L2
/-! effects: what the classes' defs compute (the texts of the laws' own mirrors) -/
noncomputable def eOf : FM := mFn 4 (mSeq (mDrop (mUser m_need_system (mCons (mVar 1) mNil)))
(mSeq (mDrop (mUser m_need_log (mCons (mVar 1) (mCons (mVar 2) mNil))))
(mRet (mNewV [("Effect", m_Effect_init)] (mVar 0) (mCons (mVar 1) (mCons (mCall fTuple (mCons (mLc (mSrc (mUser m_reached (mCons (mVar 1) mNil))) (.one 3) mYes (mUser m_run_from (mCons (mVar 1) (mCons (mVar 3) (mCons (mVar 2) mNil)))) [3]) mNil)) mNil))))))
noncomputable def eSys : FM := mFn 1 (mRet (mFld ["Effect"] "home" (mVar 0)))
noncomputable def eMov : FM := mFn 1 (mRet (mFld ["Effect"] "goals" (mVar 0)))
noncomputable def eFix : FM := mFn 3 (mRet (mCall fTuple (mCons (mLc (mZip (mCons (mFld ["Effect"] "states" (mVar 0)) (mCons (mFld ["Effect"] "goals" (mVar 0)) mNil))) (.many [1, 2]) (mB (mBin opEq (mVar 1) (mVar 2))) (mVar 1) [1, 2]) mNil)))
noncomputable def eRep : FM := mFn 1 (mRet (mJs ((mC (.str "Effect(")) :: (mFmt (mCall fLen (mCons (mFld ["Effect"] "states" (mVar 0)) mNil))) :: (mC (.str " states, ")) :: (mFmt (mCall fLen (mCons (mProp [("Effect", eFix)] (mVar 0)) mNil))) :: (mC (.str " fixed)")) :: []) Str.empty))
noncomputable def eSeen : FM := mFn 1 (mRet (mLst (mCons (mProp [("Effect", eSys)] (mVar 0)) (mCons (mProp [("Effect", eMov)] (mVar 0)) (mCons (mProp [("Effect", eFix)] (mVar 0)) (mCons (mCall (fReprI [("Effect", eRep)]) (mCons (mVar 0) mNil)) mNil))))))
noncomputable def eDue : FM := mFn 6 (mSeq (mAsg (mCall fTuple (mCons (mLc (mZip (mCons (mUser m__law_reached (mCons (mVar 0) mNil)) (mCons (mVar 1) mNil))) (.many [4, 5]) (mB (mBin opEq (mVar 4) (mVar 5))) (mVar 4) [4, 5]) mNil)) (gN 2))
(mSeq (mAsg (mBin opAdd (mBin opAdd (mBin opAdd (mBin opAdd (mC (.str "Effect(")) (mCall fStrI (mCons (mCall fLen (mCons (mVar 1) mNil)) mNil))) (mC (.str " states, "))) (mCall fStrI (mCons (mCall fLen (mCons (mVar 2) mNil)) mNil))) (mC (.str " fixed)"))) (gN 3))
(mRet (mLst (mCons (mVar 0) (mCons (mVar 1) (mCons (mVar 2) (mCons (mVar 3) mNil))))))))
/-! numbers as texts -/
def nuS (n : Nat) : Str := toString (n : Int)
theorem nuS_len : ∀ n, n < 10 → (nuS n).length = 1 := by decide +kernel
theorem cStr_sm {n : Nat} (h : n < 10) : CStr (n : Int) := by
  unfold CStr
  rw [Int.natAbs_natCast]
  rcases Nat.eq_zero_or_pos n with e | e
  · subst e; decide
  · rw [Nat.log2_lt (by omega)]
    exact Nat.lt_of_lt_of_le h (Nat.le_trans (show 10 ≤ 2 ^ 4 by decide) (Nat.pow_le_pow_right (by decide) (show 4 ≤ 1920 by decide)))
theorem strI_nu {n : Nat} (h : n < 10) (s : S) : fStrI [.int (n : Int)] s = .ok (.str (nuS n)) s := if_pos (cStr_sm h)
def effS (n m : Nat) : Str := "Effect(" ++ nuS n ++ " states, " ++ nuS m ++ " fixed)"
/-- an effect that is made -/
def effO (y : Sys) (gs : List Nat) : O := .ins "Effect" [("home", y.D), ("states", logD y.reach), ("goals", logD gs)]
structure MovOk (y : Sys) (gs : List Nat) : Prop where
  len : gs.length = y.reach.length
  mem : ∀ x ∈ gs, x ∈ y.reach
def fixL (xs gs : List Nat) : List Nat := ((xs.zip gs).filter fun p => p.1 == p.2).map (·.1)
def tellD (y : Sys) (gs : List Nat) : D := .lst [y.D, logD gs, logD (fixL y.reach gs), .str (effS y.reach.length (fixL y.reach gs).length)]
theorem reach_l6 {y : Sys} (hy : y.Ok) : y.reach.length ≤ 6 := by
  have := nodup_len y.many y.reach (reach_nodup hy) fun x hx => reach_lt hy hx
  have := hy.m6
  omega
theorem fixL_len (xs gs : List Nat) : (fixL xs gs).length ≤ xs.length := by
  unfold fixL
  rw [List.length_map]
  refine Nat.le_trans (List.length_filter_le _ _) ?_
  rw [List.length_zip]
  omega
theorem fixL_mem {xs gs : List Nat} {x : Nat} (h : x ∈ fixL xs gs) : x ∈ xs := by
  unfold fixL at h
  obtain ⟨p, hp, rfl⟩ := List.mem_map.1 h
  exact (List.of_mem_zip (List.mem_filter.1 hp).1).1
theorem MovOk.lt {y : Sys} (hy : y.Ok) {gs : List Nat} (h : MovOk y gs) : ∀ x ∈ gs, x < y.many := fun x hx => reach_lt hy (h.mem x hx)
theorem putFD_len (f : Str) (v : D) : ∀ fs : List (Str × D), (putFD f v fs).length ≤ fs.length + 1
  | [] => by simp [putFD]
  | (g, x) :: r => by
    have := putFD_len f v r
    unfold putFD
    split <;> simp <;> omega
/-- the moves of a log -/
def movL (y : Sys) (l : List Nat) : List Nat := y.reach.map fun st => y.run st l
theorem movL_ok {y : Sys} (hy : y.Ok) {l : List Nat} (hx : Vl y l) : MovOk y (movL y l) := ⟨by simp [movL], fun x hx' => by
  obtain ⟨st, hst, rfl⟩ := List.mem_map.1 hx'
  exact reach_run hy hst hx⟩
/-! what an effect tells -/
theorem zip_fix (xs gs : List Nat) : zipD (xs.map nD) (gs.map nD) = (xs.zip gs).map fun p => .tup [nD p.1, nD p.2] := by
  unfold zipD
  induction xs generalizing gs with
  | nil => rfl
  | cons x xs ih => cases gs with
    | nil => rfl
    | cons g gs => simp [ih]
theorem fix_llc {i j : Nat} {ρw : Ev} (xs gs : List Nat) (s : S) (hij : ∀ a b : D, ((ρw.set i (some a)).set j (some b))[i]? = some (some a) ∧ ((ρw.set i (some a)).set j (some b))[j]? = some (some b)) :
    llc (.many [i, j]) (mB (mBin opEq (mVar i) (mVar j))) (mVar i) ρw (zipD (xs.map nD) (gs.map nD)) [] s = .ok ((fixL xs gs).map nD) s := by
  rw [zip_fix, llc_filt (f := fun p : Nat × Nat => .tup [nD p.1, nD p.2]) (p := fun p => p.1 == p.2) (g := fun p => nD p.1) (xs.zip gs) [] (fun p hp => ⟨(ρw.set i (some (nD p.1))).set j (some (nD p.2)), rfl, ?_, fun _ => ?_⟩)]
  · simp [fixL, Function.comp_def]
  · obtain ⟨h1, h2⟩ := hij (nD p.1) (nD p.2)
    have : opEq (nD p.1) (nD p.2) s = .ok (.bl (p.1 == p.2)) s := by
      rw [show opEq (nD p.1) (nD p.2) s = _ from opNe_nD (fun b => b) _ _ s]
      congr 2
    simp only [mB_eq, mBin_eq, mVar_eq, h1, h2, vg_some, R.bnd_ok, this, asB_ok]
  · obtain ⟨h1, h2⟩ := hij (nD p.1) (nD p.2)
    simp only [mVar_eq, h1, vg_some]
theorem effS_chk : ((List.range 10).all fun n => (List.range 10).all fun m => (PyData.str (effS n m)).showable && (PyData.str (effS n m)).leavesShort 24 && decide ((PyData.str (effS n m)).bulk ≤ 30)) = true := by decide +kernel
theorem fine_effS {n m : Nat} (hn : n < 10) (hm : m < 10) : Fine 0 30 (.str (effS n m)) := by
  have h := List.all_eq_true.1 (List.all_eq_true.1 effS_chk n (List.mem_range.2 hn)) m (List.mem_range.2 hm)
  simp only [Bool.and_eq_true, decide_eq_true_eq] at h
  exact ⟨.str (effS n m), rfl, h.1.1, rfl, Nat.le_refl _, h.1.2, h.2⟩
theorem fine_tell {y : Sys} (hy : y.Ok) {gs : List Nat} (h : MovOk y gs) : Fine 4 1000 (tellD y gs) := by
  have hr := reach_l6 hy
  have hf := fixL_len y.reach gs
  have hm := hy.m6
  have hl := h.len
  refine (fine_lst (k := 3) (n := 200) (ds := [y.D, logD gs, logD (fixL y.reach gs), .str (effS y.reach.length (fixL y.reach gs).length)]) fun d hd => ?_).mono (Nat.le_refl _) (by simp)
  simp only [List.mem_cons, List.not_mem_nil, or_false] at hd
  rcases hd with rfl | rfl | rfl | rfl
  · exact fine_sys hy
  · exact (fine_log (b := y.many) (h.lt hy) (by omega)).mono (by omega) (by omega)
  · exact (fine_log (b := y.many) (fun x hx => reach_lt hy (fixL_mem hx)) (by omega)).mono (by omega) (by omega)
  · exact (fine_effS (by omega) (by omega)).mono (by omega) (by omega)
/-! the law's own side -/
theorem eDue_ok {y : Sys} (hy : y.Ok) {gs : List Nat} (h : MovOk y gs) (s : S) : eDue [y.D, logD gs] s = .ok (tellD y gs) (s ++ gar m__law_reached [y.D] s) := by
  have hr := reach_l6 hy
  have hf := fixL_len y.reach gs
  have hl := h.len
  unfold eDue
  rw [mFn_eq]
  have hi : initE 6 [y.D, logD gs] = [some y.D, some (logD gs), none, none, none, none] := rfl
  rw [hi]
  have zl : (zipD (y.reach.map nD) (gs.map nD)).length ≤ 1000000 := by
    unfold zipD
    rw [List.length_zipWith]
    simp
    omega
  have hz : mZip (mCons (mUser m__law_reached (mCons (mVar 0) mNil)) (mCons (mVar 1) mNil)) [some y.D, some (logD gs), none, none, none, none] s = .ok (.fix (zipD (y.reach.map nD) (gs.map nD))) (s ++ gar m__law_reached [y.D] s) := by
    unfold mZip
    simp only [mCons_eq, mUser_eq, mVar_eq, get_0, List.getElem?_cons_succ, vg_some, R.bnd_ok, mNil_eq, law_reached_eq hy, retag_ok]
    rfl
  generalize s ++ gar m__law_reached [y.D] s = s1 at hz
  have tl : ∀ l : List Nat, fTuple [.lst (l.map nD)] s1 = .ok (logD l) s1 := fun _ => rfl
  have e1 := nuS_len _ (show y.reach.length < 10 by omega)
  have e2 := nuS_len _ (show (fixL y.reach gs).length < 10 by omega)
  have L1 : ("Effect(" : Str).length = 7 := by decide
  have L2 : (" states, " : Str).length = 9 := by decide
  have L3 : (" fixed)" : Str).length = 7 := by decide
  have fl : ∀ l : List Nat, fLen [logD l] s1 = .ok (.int (l.length : Nat)) s1 := fun l => by simp [logD]
  have s1' := strI_nu (show y.reach.length < 10 by omega) s1
  have s2' := strI_nu (show (fixL y.reach gs).length < 10 by omega) s1
  simp only [mSeq_eq, mAsg_eq, mCall_eq, mCons_eq, mLcF_eq, hz, R.bnd_ok]
  rw [lcF_fix zl rfl, fix_llc _ _ _ (fun a b => ⟨rfl, rfl⟩)]
  simp only [R.bnd_ok, finL_eq, mNil_eq, tl, gN_eq, List.set_cons_succ, List.set_cons_zero, seqF_nx, mSeq_eq, mAsg_eq, mBin_eq, mC_eq, mCall_eq, mCons_eq, mVar_eq, get_0, List.getElem?_cons_succ, vg_some, fl, hl, s1', s2', opAdd_str, Str.length_append, L1, L2, L3, e1, e2, LIM_eq, Nat.reduceAdd, Nat.reduceLeDiff, if_true, mRet_eq, mLst_eq, List.length_cons, List.length_nil, fin_ret]
  rfl
theorem lmoves_ok {y : Sys} (hy : y.Ok) {l : List Nat} (hx : Vl y l) (s : S) : m__law_moves [y.D, logD l] s = .ok (logD (movL y l)) (s ++ gar m__law_reached [y.D] s) := by
  have hr := reach_l6 hy
  unfold m__law_moves
  rw [mFn_eq]
  have hi : initE 3 [y.D, logD l] = [some y.D, some (logD l), none] := rfl
  rw [hi]
  simp only [mRet_eq, mCall_eq, mLcF_eq, mSrc_eq, mUser_eq, mCons_eq, mVar_eq, get_0, List.getElem?_cons_succ, vg_some, R.bnd_ok, mNil_eq, law_reached_eq hy, retag_ok, srcF_lst]
  generalize s ++ gar m__law_reached [y.D] s = s1
  rw [lcF_fix (by simp; omega) rfl, llc_map (f := nD) (g := fun st => nD (y.run st l)) y.reach [] (fun st hst => ⟨_, rfl, by
      have := law_run_ok hy (reach_lt hy hst) hx s1
      unfold logD at this
      simp [this, logD]⟩)]
  have : (y.reach.map fun st => nD (y.run st l)) = (movL y l).map nD := by simp [movL, Function.comp_def]
  rw [List.nil_append, this]
  rfl
end VL
namespace VL
open PySem PySem.Spec PyProof.Rows L2
/-! effects put together: what the classes' defs compute, where the reachable states are a tuple without a dict -/
noncomputable def fReached : FM := mFn 1 (mRet (mCall fTupleF (mCons (mCall fSortedU (mCons (mUser m_paths_of (mCons (mVar 0) mNil)) mNil)) mNil)))
noncomputable def fInit : FM := mFn 4 (mSeq (mDrop (mUser m_need_system (mCons (mVar 1) mNil)))
(mSeq (mAsg (mUser fReached (mCons (mVar 1) mNil)) (gN 3))
(mSeq (mIfS (mNotT (mB (mUser m_are_moves (mCons (mVar 3) (mCons (mVar 2) mNil)))))
mBad
mSkip)
(mSeq (mSetFld ["Effect"] "home" (mVar 0) (mVar 1))
(mSeq (mSetFld ["Effect"] "states" (mVar 0) (mVar 3))
(mSetFld ["Effect"] "goals" (mVar 0) (mVar 2)))))))
noncomputable def fBeh : FM := mFn 3 (mRet (mCall fTuple (mCons (mLc (mSrc (mVar 1)) (.one 2) mYes (mBin opIx (mFld ["Effect"] "goals" (mVar 0)) (mIndexF (mFld ["Effect"] "states" (mVar 0)) (mVar 2))) [2]) mNil)))
noncomputable def fAdd : FM := mFn 2 (mSeq (mIfS (mNotT (mB (mCall (fIsiC "Effect") (mCons (mVar 1) (mCons (mC (.glo "Effect")) mNil)))))
mBad
mSkip)
(mSeq (mIfS (mB (mBin opNe (mFld ["Effect"] "home" (mVar 0)) (mFld ["Effect"] "home" (mVar 1))))
mBad
mSkip)
(mRet (mNew "Effect" fInit (mCons (mFld ["Effect"] "home" (mVar 0)) (mCons (mMeth [("Effect", fBeh)] "behind" (mVar 1) (mCons (mFld ["Effect"] "goals" (mVar 0)) mNil)) mNil))))))
noncomputable def fJoi : FM := mFn 5 (mSeq (mIfS (mOrT (mNotT (mB (mCall fIsi (mCons (mVar 0) (mCons (mC (.ty "tuple")) mNil))))) (mB (mBin opEqE (mVar 0) (mTup mNil))))
mBad
mSkip)
(mSeq (mIfS (mNotT (mB (mCall fAll (mCons (mLc (mSrc (mVar 0)) (.one 1) mYes (mCall (fIsiC "Effect") (mCons (mVar 1) (mCons (mC (.glo "Effect")) mNil))) [1]) mNil))))
mBad
mSkip)
(mSeq (mAsg (mVar 0) (gTS (gConsM (gN 2) (gConsM (gN 3) gNilM))))
(mSeq (mIfS (mNotT (mB (mCall fAll (mCons (mLc (mSrc (mVar 3)) (.one 1) mYes (mBin opEq (mFld ["Effect"] "home" (mVar 1)) (mFld ["Effect"] "home" (mVar 2))) [1]) mNil))))
mBad
mSkip)
(mSeq (mAsg (mVar 2) (gN 4))
(mSeq (mFor (mSrc (mVar 3)) (gN 1)
(mAsg (mBin (opAddI [("Effect", fAdd)]) (mVar 4) (mVar 1)) (gN 4)))
(mRet (mVar 4))))))))
noncomputable def fCal : FM := mFn 2 (mSeq (mIfS (mOrT (mNotT (mB (mUser m_is_whole (mCons (mVar 1) mNil)))) (mB (mBin opNotIn (mVar 1) (mFld ["Effect"] "states" (mVar 0)))))
mBad
mSkip)
(mRet (mBin opIx (mFld ["Effect"] "goals" (mVar 0)) (mIndexF (mFld ["Effect"] "states" (mVar 0)) (mVar 1)))))
noncomputable def fMul : FM := mFn 5 (mSeq (mIfS (mNotT (mB (mUser m_is_between (mCons (mVar 1) (mCons (mC (.int 0)) (mCons (mC (.int 1000000000000)) mNil))))))
mBad
mSkip)
(mSeq (mPar3 2 3 4 (mCons (mNew "Effect" fInit (mCons (mFld ["Effect"] "home" (mVar 0)) (mCons (mFld ["Effect"] "states" (mVar 0)) mNil))) (mCons (mVar 0) (mCons (mVar 1) mNil))))
(mSeq (mWhile (mB (mBin opGt (mVar 4) (mC (.int 0))))
(mSeq (mIfS (mB (mBin opEq (mBin opMod (mVar 4) (mC (.int 2))) (mC (.int 1))))
(mAsg (mBin (opAddI [("Effect", fAdd)]) (mVar 2) (mVar 3)) (gN 2))
mSkip)
(mSeq (mAsg (mBin (opAddI [("Effect", fAdd)]) (mVar 3) (mVar 3)) (gN 3))
(mAsg (mBin opDiv (mVar 4) (mC (.int 2))) (gN 4)))) 2000)
(mRet (mVar 2)))))
noncomputable def fEqI : FM := mFn 2 (mRet (mAndV (mCall (fIsiC "Effect") (mCons (mVar 1) (mCons (mC (.glo "Effect")) mNil))) (mAndV (mBin opEq (mFld ["Effect"] "home" (mVar 0)) (mFld ["Effect"] "home" (mVar 1))) (mBin opEq (mFld ["Effect"] "goals" (mVar 0)) (mFld ["Effect"] "goals" (mVar 1))))))
noncomputable def lBeh : FM := mFn 4 (mRet (mCall fTuple (mCons (mLc (mSrc (mVar 1)) (.one 3) mYes (mBin opIx (mVar 2) (mIndex (mVar 0) (mVar 3))) [3]) mNil)))
noncomputable def lTim : FM := mFn 8 (mSeq (mAsg (mLstO mNil) (gN 3))
(mSeq (mFor (mSrc (mVar 0)) (gN 4)
(mSeq (mPar 5 6 (mCons (mLstO mNil) (mCons (mVar 4) mNil)))
(mSeq (mWhile (mB (mBin opNotIn (mVar 6) (mVar 5)))
(mSeq (mDrop (mAppend (mVar 5) (mVar 6)))
(mAsg (mBin opIx (mVar 1) (mIndex (mVar 0) (mVar 6))) (gN 6))) 2000)
(mSeq (mAsg (mIndex (mVar 5) (mVar 6)) (gN 7))
(mDrop (mAppend (mVar 3) (mIf (mB (mBin opLt (mVar 2) (mCall fLen (mCons (mVar 5) mNil)))) (mBin opIx (mVar 5) (mVar 2)) (mBin opIx (mVar 5) (mBin opAdd (mVar 7) (mBin opMod (mBin opSub (mVar 2) (mVar 7)) (mBin opSub (mCall fLen (mCons (mVar 5) mNil)) (mVar 7))))))))))))
(mRet (mCall fTuple (mCons (mVar 3) mNil)))))
def logF (l : List Nat) : D := .tupF (l.map nD)
/-- the moves, as either kind of tuple -/
def GD (g : D) (l : List Nat) : Prop := g = logD l ∨ g = logF l
@[simp] theorem srcF_tupF (xs : List D) (s : S) : srcF (.tupF xs) s = .ok (.fix xs) s := rfl
@[simp] theorem fLen_tupF (ds : List D) (s : S) : fLen [.tupF ds] s = .ok (.int (ds.length : Nat)) s := rfl
theorem freached_eq {y : Sys} (hy : y.Ok) (s : S) : fReached [y.D] s = .ok (logF y.reach) (s ++ gar fReached [y.D] s) := eq_gar (by
  unfold fReached
  rw [mFn_eq]
  simp [initE]
  refine (paths_of_ok hy s).mono ?_
  rintro d s1 ⟨rfl, rfl⟩
  have hl : (y.paths.map fun p => (p.1 : Int)).length < 64 := by
    have := (paths_ok hy).len
    have := hy.m6
    simp; omega
  have e : fSortedU [.obj s.length] (s ++ [.dct (y.paths.map kvD), .lst (y.states.map nD)]) = .ok (.lst (y.reach.map nD)) (s ++ [.dct (y.paths.map kvD), .lst (y.states.map nD)]) := by
    unfold fSortedU
    simp only [get2a, keyI_kv]
    rw [if_pos hl]
    have : (y.paths.map fun p => (p.1 : Int)) = y.states.map fun (n : Nat) => (n : Int) := by simp [Sys.states]
    rw [this, srt_D]
    rfl
  simp [e]
  show wp (R.ok (logF y.reach) _) _
  rw [wp_ok]
  exact ⟨rfl, _, rfl⟩)
def effFs (y : Sys) (g : D) : List (Str × D) := [("home", y.D), ("states", logF y.reach), ("goals", g)]
def effF (y : Sys) (g : D) : O := .ins "Effect" (effFs y g)
theorem GD.src {g : D} {l : List Nat} (h : GD g l) (s : S) : srcF g s = .ok (.fix (l.map nD)) s := by rcases h with rfl | rfl <;> rfl
theorem GD.len {g : D} {l : List Nat} (h : GD g l) (s : S) : fLen [g] s = .ok (.int (l.length : Nat)) s := by
  rcases h with rfl | rfl
  · simp [logD]
  · simp [logF]
theorem GD.isi {g : D} {l : List Nat} (h : GD g l) (s : S) : fIsi [g, .ty "tuple"] s = .ok (.bl true) s := by rcases h with rfl | rfl <;> rfl
theorem GD.py {g : D} {l : List Nat} (h : GD g l) : toPy g = toPy (logD l) := by rcases h with rfl | rfl <;> rfl
theorem GD.ix {g : D} {l : List Nat} (h : GD g l) (k : Nat) (s : S) : opIx g (.int (k : Int)) s = ixR ((l.map nD)[k]?) s := by
  rcases h with rfl | rfl
  · unfold logD; rw [opIx_tup, atI_nat']
  · rw [show opIx (logF l) (.int (k : Int)) s = opIx (.tup (l.map nD)) (.int (k : Int)) s from rfl, opIx_tup, atI_nat']
theorem opIn_reachF {y : Sys} (f : Bool → Bool) (st : Nat) (s : S) : opInB f (nD st) (logF y.reach) s = .ok (.bl (f (decide (st ∈ y.reach)))) s := by
  rw [← opIn_reach f st s]
  rfl
theorem are_moves_okF {y : Sys} (hy : y.Ok) {g : D} {gs : List Nat} (hg : GD g gs) (h : MovOk y gs) (s : S) : m_are_moves [logF y.reach, g] s = .ok (.bl true) s := by
  have hr := reach_l6 hy
  have hl := h.len
  unfold m_are_moves
  rw [mFn_eq]
  have hi : initE 3 [logF y.reach, g] = [some (logF y.reach), some g, none] := rfl
  rw [hi]
  have e1 := llc_true (i := 2) (el := mAndV (mUser m_is_whole (mCons (mVar 2) mNil)) (mBin opIn (mVar 2) (mVar 0))) (ρw := [some (logF y.reach), some g, none]) (s := s) (gs.map nD) [] (by
    intro d hd
    obtain ⟨x, hx2, rfl⟩ := List.mem_map.1 hd
    have i1 : opIn (nD x) (logF y.reach) s = .ok (.bl true) s := by
      rw [show opIn (nD x) (logF y.reach) s = _ from opIn_reachF (fun b => b) _ _, decide_eq_true (h.mem x hx2)]
    simp only [nD] at i1
    simp [i1, nD])
  have n1 : ∀ s : S, opNe (.int (gs.length : Nat)) (.int (y.reach.length : Nat)) s = .ok (.bl false) s := fun s => by
    rw [show opNe (.int (gs.length : Nat)) (.int (y.reach.length : Nat)) s = _ from opEqF_int s (fun b => !b) _ _, hl]
    simp
  have l1 : (gs.map nD).length ≤ 1000000 := by simp; omega
  have lr : ∀ s, fLen [logF y.reach] s = .ok (.int (y.reach.length : Nat)) s := fun s => by simp [logF]
  simp only [mSeq_eq, mIfS_eq, mOrT_eq, mNotT_eq, mB_eq, mCall_eq, mCons_eq, mVar_eq, get_0, List.getElem?_cons_succ, vg_some, R.bnd_ok, mC_eq, mNil_eq, hg.isi, mBin_eq, hg.len, lr, n1]
  simp [lcF_fixI l1, e1, hg.src]
theorem finit {y : Sys} (hy : y.Ok) {g : D} {gs : List Nat} (hg : GD g gs) (h : MovOk y gs) (s : S) : fInit [.obj s.length, y.D, g] (s ++ [.ins "Effect" []]) = .ok .non ((s ++ [effF y g]) ++ gar fReached [y.D] (s ++ [.ins "Effect" []])) := by
  have hq := freached_eq hy (s ++ [.ins "Effect" []])
  generalize gar fReached [y.D] (s ++ [.ins "Effect" []]) = t at hq
  unfold fInit
  rw [mFn_eq]
  have hi : initE 4 [.obj s.length, y.D, g] = [some (.obj s.length), some y.D, some g, none] := rfl
  rw [hi]
  have st : ∀ (f : Str) (v : D) (fs : List (Str × D)) (m1 m2 : ME) (ρ : Ev), fs.length < 1000 → m1 ρ ((s ++ [.ins "Effect" fs]) ++ t) = .ok (.obj s.length) ((s ++ [.ins "Effect" fs]) ++ t) → m2 ρ ((s ++ [.ins "Effect" fs]) ++ t) = .ok v ((s ++ [.ins "Effect" fs]) ++ t) →
      mSetFld ["Effect"] f m1 m2 ρ ((s ++ [.ins "Effect" fs]) ++ t) = .ok (.nx ρ) ((s ++ [.ins "Effect" (putFD f v fs)]) ++ t) := fun f v fs m1 m2 ρ hl h1 h2 => by
    have g : ((s ++ [O.ins "Effect" fs]) ++ t)[s.length]? = some (.ins "Effect" fs) := by simp
    unfold mSetFld
    simp only [h1, h2, R.bnd_ok, g]
    rw [if_pos ⟨List.mem_singleton.2 rfl, hl⟩]
    congr 1
    simp
  simp only [mSeq_eq, mDrop_eq, mUser_eq, mCons_eq, mVar_eq, get_0, List.getElem?_cons_succ, vg_some, R.bnd_ok, mNil_eq, need_system_ok hy, retag_ok, seqF_nx, mAsg_eq, hq, gN_eq, List.set_cons_succ, List.set_cons_zero, mIfS_eq, mNotT_eq, mB_eq, are_moves_okF hy hg h, asB_ok, Bool.not_true, Bool.false_eq_true, if_false, mSkip_eq]
  rw [st "home" y.D [] (mVar 0) (mVar 1) _ (by decide) (by simp) (by simp)]
  simp only [R.bnd_ok, seqF_nx]
  have p1 := putFD_len "home" y.D []
  have p2 := putFD_len "states" (logF y.reach) (putFD "home" y.D [])
  simp only [List.length_nil] at p1
  rw [mSeq_eq, st "states" (logF y.reach) _ (mVar 0) (mVar 3) _ (by omega) (by simp) (by simp)]
  simp only [R.bnd_ok, seqF_nx]
  rw [st "goals" g _ (mVar 0) (mVar 2) _ (by omega) (by simp) (by simp)]
  rfl
theorem fnew {y : Sys} (hy : y.Ok) {g : D} {gs : List Nat} (hg : GD g gs) (h : MovOk y gs) {ms : MA} {ρ : Ev} {s s1 : S} (hm : ms ρ s = .ok [y.D, g] s1) : ∃ t, mNew "Effect" fInit ms ρ s = .ok (.obj s1.length) (s1 ++ effF y g :: t) :=
  ⟨gar fReached [y.D] (s1 ++ [.ins "Effect" []]), by rw [mNew_at hm (finit hy hg h s1)]; simp⟩
/-! what an effect tells -/
def isE (s : S) (n : Nat) (y : Sys) (g : D) : Prop := s[n]? = some (effF y g)
theorem isE.app {s : S} {n : Nat} {y : Sys} {g : D} (h : isE s n y g) (t : S) : isE (s ++ t) n y g := by
  unfold isE at *
  rw [List.getElem?_append_left (by
    rcases Nat.lt_or_ge n s.length with z | z
    · exact z
    · rw [List.getElem?_eq_none z] at h; cases h)]
  exact h
section
variable {y : Sys} {g : D} {gs : List Nat} {s : S} {n : Nat} {m : ME} {ρ : Ev}
theorem isE.home (h : isE s n y g) (hm : m ρ s = .ok (.obj n) s) : mFld ["Effect"] "home" m ρ s = .ok y.D s := mFld_at (n := n) (x := y.D) hm h (List.mem_singleton.2 rfl) (by rfl)
theorem isE.states (h : isE s n y g) (hm : m ρ s = .ok (.obj n) s) : mFld ["Effect"] "states" m ρ s = .ok (logF y.reach) s := mFld_at (n := n) (x := logF y.reach) hm h (List.mem_singleton.2 rfl) (by rfl)
theorem isE.goals (h : isE s n y g) (hm : m ρ s = .ok (.obj n) s) : mFld ["Effect"] "goals" m ρ s = .ok g s := mFld_at (n := n) (x := g) hm h (List.mem_singleton.2 rfl) (by rfl)
theorem isE.ins (h : isE s n y g) : insOf s (.obj n) = some (("Effect" : Str), effFs y g) := by
  unfold isE effF at h
  simp only [insOf, h]
theorem fSys_ok (h : isE s n y g) : eSys [.obj n] s = .ok y.D s := by
  unfold eSys
  rw [mFn_eq, mRet_eq, h.home rfl]
  rfl
theorem fMov_ok (h : isE s n y g) : eMov [.obj n] s = .ok g s := by
  unfold eMov
  rw [mFn_eq, mRet_eq, h.goals rfl]
  rfl
theorem fFix_ok (hy : y.Ok) (hg : GD g gs) (h : isE s n y g) : eFix [.obj n] s = .ok (logD (fixL y.reach gs)) s := by
  have hr := reach_l6 hy
  unfold eFix
  rw [mFn_eq]
  have hi : initE 3 [.obj n] = [some (.obj n), none, none] := rfl
  rw [hi]
  have f1 := h.states (m := mVar 0) (ρ := [some (.obj n), none, none]) rfl
  have f2 := h.goals (m := mVar 0) (ρ := [some (.obj n), none, none]) rfl
  have zl : (zipD (y.reach.map nD) (gs.map nD)).length ≤ 1000000 := by
    unfold zipD
    rw [List.length_zipWith]
    simp
    omega
  have hz : mZip (mCons (mFld ["Effect"] "states" (mVar 0)) (mCons (mFld ["Effect"] "goals" (mVar 0)) mNil)) [some (.obj n), none, none] s = .ok (.fix (zipD (y.reach.map nD) (gs.map nD))) s := by
    unfold mZip
    simp only [mCons_eq, f1, f2, R.bnd_ok, mNil_eq]
    rcases hg with rfl | rfl <;> rfl
  simp only [mRet_eq, mCall_eq, mCons_eq, mLcF_eq, hz, R.bnd_ok]
  rw [lcF_fix zl rfl, fix_llc _ _ _ (fun a b => ⟨rfl, rfl⟩)]
  rfl
theorem fRep_ok (hy : y.Ok) (hg : GD g gs) (h : isE s n y g) : eRep [.obj n] s = .ok (.str (effS y.reach.length (fixL y.reach gs).length)) s := by
  have hr := reach_l6 hy
  have hf := fixL_len y.reach gs
  unfold eRep
  rw [mFn_eq]
  have hi : initE 1 [.obj n] = [some (.obj n)] := rfl
  rw [hi]
  have f1 : mCall fLen (mCons (mFld ["Effect"] "states" (mVar 0)) mNil) [some (.obj n)] s = .ok (.int (y.reach.length : Nat)) s := by
    simp only [mCall_eq, mCons_eq, h.states (m := mVar 0) (ρ := [some (.obj n)]) rfl, mNil_eq, R.bnd_ok]
    simp [logF]
  have f2 : mCall fLen (mCons (mProp [("Effect", eFix)] (mVar 0)) mNil) [some (.obj n)] s = .ok (.int ((fixL y.reach gs).length : Nat)) s := by
    have : mProp [("Effect", eFix)] (mVar 0) [some (.obj n)] s = .ok (logD (fixL y.reach gs)) s := by
      unfold mProp
      simp only [mVar_eq, get_0, vg_some, R.bnd_ok, h.ins, List.lookup_cons, beq_self_eq_true, fFix_ok hy hg h, noX_ok]
    simp only [mCall_eq, mCons_eq, this, mNil_eq, R.bnd_ok]
    simp [logD]
  have fm : ∀ {m : ME} {k : Nat}, m [some (.obj n)] s = .ok (.int (k : Nat)) s → k < 10 → mFmt m [some (.obj n)] s = .ok (.str (nuS k)) s := fun {m k} hm hl => by
    unfold mFmt
    simp only [hm, R.bnd_ok]
    show (if CStr ((k : Nat) : Int) then _ else _) = _
    rw [if_pos (cStr_sm hl)]
    rfl
  have g1 := fm f1 (by omega)
  have g2 := fm f2 (by omega)
  have e1 := nuS_len _ (show y.reach.length < 10 by omega)
  have e2 := nuS_len _ (show (fixL y.reach gs).length < 10 by omega)
  have L1 : ("Effect(" : Str).length = 7 := by decide
  have L2 : (" states, " : Str).length = 9 := by decide
  have L3 : (" fixed)" : Str).length = 7 := by decide
  have L0 : Str.empty.length = 0 := rfl
  simp only [mRet_eq, mJs, mC_eq, g1, g2, R.bnd_ok, Str.length_append, L0, L1, L2, L3, e1, e2, LIM_eq, Nat.reduceAdd, Nat.reduceLeDiff, if_true, fin_ret, Str.empty_append]
  rfl
def tellG (y : Sys) (g : D) (gs : List Nat) : D := .lst [y.D, g, logD (fixL y.reach gs), .str (effS y.reach.length (fixL y.reach gs).length)]
theorem fSeen_ok (hy : y.Ok) (hg : GD g gs) (h : isE s n y g) : eSeen [.obj n] s = .ok (tellG y g gs) s := by
  unfold eSeen
  rw [mFn_eq]
  have hi : initE 1 [.obj n] = [some (.obj n)] := rfl
  rw [hi]
  have pr : ∀ {m : FM} {d : D}, m [.obj n] s = .ok d s → mProp [("Effect", m)] (mVar 0) [some (.obj n)] s = .ok d s := fun {m d} hm => by
    unfold mProp
    simp only [mVar_eq, get_0, vg_some, R.bnd_ok, h.ins, List.lookup_cons, beq_self_eq_true, hm, noX_ok]
  have rp : fReprI [("Effect", eRep)] [.obj n] s = .ok (.str (effS y.reach.length (fixL y.reach gs).length)) s := by
    unfold fReprI
    simp only [h.ins, List.lookup_cons, beq_self_eq_true, fRep_ok hy hg h, noX_ok, R.bnd_ok]
  simp only [mRet_eq, mLst_eq, mCons_eq, pr (fSys_ok h), pr (fMov_ok h), pr (fFix_ok hy hg h), R.bnd_ok, mCall_eq, mVar_eq, get_0, vg_some, mNil_eq, rp, List.length_cons, List.length_nil, Nat.reduceAdd, LIM_eq, Nat.reduceLeDiff, if_true, fin_ret]
  rfl
theorem tell_py (hg : GD g gs) : toPy (tellG y g gs) = toPy (tellD y gs) := by
  unfold tellG tellD
  simp only [toPy, toPys, hg.py]
theorem fine_py {k n : Nat} {d d' : D} (h : Fine k n d) (e : toPy d' = toPy d) : Fine k n d' := by
  unfold Fine at *
  rw [e]
  exact h
end
end VL
namespace VL
open PySem PySem.Spec PyProof.Rows L2
/-! effects: one after another, many times -/
def LayD (d : D) : Prop := ∃ p, toPy d = some p ∧ p.canLay0 = true
theorem lay_nD (n : Nat) : LayD (nD n) := ⟨.int n, rfl, rfl⟩
theorem lay_kD : ∀ k, LayD (kD k)
  | none => ⟨.none, rfl, rfl⟩
  | some n => lay_nD n
theorem lay_all : ∀ ds : List D, (∀ d ∈ ds, LayD d) → ∃ ps, toPys ds = some ps ∧ PyData.canLayAll0 ps = true
  | [], _ => ⟨[], rfl, rfl⟩
  | d :: ds, h => by
    obtain ⟨p, hp, f⟩ := h d (List.mem_cons_self ..)
    obtain ⟨ps, hps, h1⟩ := lay_all ds fun x hx => h x (List.mem_cons_of_mem _ hx)
    exact ⟨p :: ps, by simp [toPys, hp, hps], by simp [PyData.canLayAll0, f, h1]⟩
theorem lay_tup {ds : List D} (h : ∀ d ∈ ds, LayD d) : LayD (.tup ds) := by
  obtain ⟨ps, hps, h1⟩ := lay_all ds h
  exact ⟨.tuple ps, by simp [toPy, hps], by simpa only [PyData.canLay0] using h1⟩
theorem lay_sys (y : Sys) : LayD y.D := lay_tup fun d hd => by
  simp only [List.mem_cons, List.not_mem_nil, or_false] at hd
  rcases hd with rfl | rfl | rfl | rfl
  · exact lay_nD _
  · exact lay_nD _
  · refine lay_tup fun d hd => ?_
    obtain ⟨o, _, rfl⟩ := List.mem_map.1 hd
    refine lay_tup fun d hd => ?_
    obtain ⟨x, _, rfl⟩ := List.mem_map.1 hd
    exact lay_nD x
  · refine lay_tup fun d hd => ?_
    obtain ⟨x, _, rfl⟩ := List.mem_map.1 hd
    exact lay_kD x
theorem sys_eq {y : Sys} (hy : y.Ok) (f : Bool → Bool) (s : S) : opEqF f y.D y.D s = .ok (.bl (f true)) s := by
  obtain ⟨p, hp, hl⟩ := lay_sys y
  obtain ⟨p', hp', F⟩ := fine_sys hy
  have e : p' = p := Option.some.inj (hp'.symm.trans hp)
  subst e
  have sh : SeqAt.shaped p' = true := by
    unfold SeqAt.shaped
    rw [hl, decide_eq_true (Nat.le_trans F.dp (by decide))]
    rfl
  have hs : toPyS s y.D = some p' := hp
  rw [opEqF_py s hs hs sh sh rfl, PySem.SeqAt.eqv_refl p' hl]
def stp (y : Sys) (gs : List Nat) (x : Nat) : Nat := gs.getD (y.reach.idxOf x) 0
def bhd (y : Sys) (gs l : List Nat) : List Nat := l.map (stp y gs)
section
variable {y : Sys} {g g1 g2 : D} {gs l l1 l2 : List Nat} {s : S} {n a b : Nat}
theorem MovOk.lt_ix (h : MovOk y gs) {x : Nat} (hx : x ∈ y.reach) : y.reach.idxOf x < gs.length := by
  rw [h.len]; exact List.idxOf_lt_length_of_mem hx
theorem stp_at (h : MovOk y gs) {x : Nat} (hx : x ∈ y.reach) : gs[y.reach.idxOf x]? = some (stp y gs x) := by
  unfold stp
  rw [List.getD_eq_getElem?_getD, List.getElem?_eq_getElem (h.lt_ix hx)]
  rfl
theorem MovOk.stp (h : MovOk y gs) {x : Nat} (hx : x ∈ y.reach) : stp y gs x ∈ y.reach := h.mem _ (List.mem_of_getElem? (stp_at h hx))
theorem ix_stp (hg : GD g gs) (h : MovOk y gs) {x : Nat} (hx : x ∈ y.reach) (s : S) : opIx g (.int (y.reach.idxOf x : Nat)) s = .ok (nD (stp y gs x)) s := by
  rw [hg.ix, List.getElem?_map, stp_at h hx]
  rfl
theorem MovOk.bhd (ha : MovOk y l) (hb : MovOk y gs) : MovOk y (bhd y gs l) := ⟨by simp [VL.bhd, ha.len], fun x hx => by
  obtain ⟨z, hz, rfl⟩ := List.mem_map.1 hx
  exact hb.stp (ha.mem z hz)⟩
theorem toI_nats : ∀ l : List Nat, toI (l.map nD) = some (l.map fun (n : Nat) => (n : Int))
  | [] => rfl
  | x :: l => by simp [toI, toI_nats l, nD]
theorem idxOf_cast (x : Nat) : ∀ l : List Nat, (l.map fun (n : Nat) => (n : Int)).idxOf (x : Int) = l.idxOf x
  | [] => rfl
  | z :: l => by
    simp only [List.map_cons, List.idxOf_cons, idxOf_cast x l]
    by_cases h : z = x
    · subst h; simp
    · have h1 : ((z : Int) == (x : Int)) = false := by simp; omega
      have h2 : (z == x) = false := by simp [h]
      rw [h1, h2]
theorem idxF_at {mo me : ME} {ρ : Ev} {x : Nat} (h1 : mo ρ s = .ok (logF y.reach) s) (h2 : me ρ s = .ok (nD x) s) (hx : x ∈ y.reach) : mIndexF mo me ρ s = .ok (.int (y.reach.idxOf x : Nat)) s := by
  unfold mIndexF
  simp only [h1, R.bnd_ok, logF, toI_nats, h2, nD]
  rw [if_pos (List.mem_map.2 ⟨x, hx, rfl⟩), idxOf_cast]
theorem fBeh_ok (h : isE s n y g) (hg : GD g gs) (mo : MovOk y gs) (h2 : GD g2 l) (hl : ∀ x ∈ l, x ∈ y.reach) (hn : l.length ≤ 1000) : fBeh [.obj n, g2] s = .ok (logD (bhd y gs l)) s := by
  unfold fBeh
  rw [mFn_eq]
  have hi : initE 3 [.obj n, g2] = [some (.obj n), some g2, none] := rfl
  rw [hi]
  simp only [mRet_eq, mCall_eq, mCons_eq, mLcF_eq, mSrc_eq, mVar_eq, get_0, List.getElem?_cons_succ, vg_some, R.bnd_ok, h2.src]
  rw [lcF_fix (by simp; omega) rfl, llc_map (f := nD) (g := fun x => nD (stp y gs x)) l [] (fun x hx => ⟨_, rfl, by
    have f1 := h.states (m := mVar 0) (ρ := [some (.obj n), some g2, some (nD x)]) rfl
    have f2 := h.goals (m := mVar 0) (ρ := [some (.obj n), some g2, some (nD x)]) rfl
    have f3 := idxF_at (me := mVar 2) f1 rfl (hl x hx)
    show mBin opIx _ _ [some (.obj n), some g2, some (nD x)] s = _
    simp only [mBin_eq, f2, R.bnd_ok, f3, ix_stp hg mo (hl x hx)]⟩)]
  simp only [List.nil_append, R.bnd_ok, mNil_eq, finL_eq]
  have : (l.map fun x => nD (stp y gs x)) = (bhd y gs l).map nD := by simp [bhd, Function.comp_def]
  rw [this]
  rfl
theorem fAdd_ok (hy : y.Ok) (ha : isE s a y g1) (h1 : GD g1 l1) (m1 : MovOk y l1) (hb : isE s b y g2) (h2 : GD g2 l2) (m2 : MovOk y l2) : ∃ t, fAdd [.obj a, .obj b] s = .ok (.obj s.length) (s ++ effF y (logD (bhd y l2 l1)) :: t) := by
  have hr := reach_l6 hy
  have hl := m1.len
  unfold fAdd
  rw [mFn_eq]
  have hi : initE 2 [.obj a, .obj b] = [some (.obj a), some (.obj b)] := rfl
  rw [hi]
  have is : fIsiC "Effect" [.obj b, .glo "Effect"] s = .ok (.bl true) s := by
    unfold fIsiC
    simp only [if_true, hb.ins]
  have q1 := ha.home (m := mVar 0) (ρ := [some (.obj a), some (.obj b)]) rfl
  have q2 := hb.home (m := mVar 1) (ρ := [some (.obj a), some (.obj b)]) rfl
  have q3 := ha.goals (m := mVar 0) (ρ := [some (.obj a), some (.obj b)]) rfl
  have ne : opNe y.D y.D s = .ok (.bl false) s := sys_eq hy (fun b => !b) s
  have mb := m1.bhd m2
  have me : mMeth [("Effect", fBeh)] "behind" (mVar 1) (mCons (mFld ["Effect"] "goals" (mVar 0)) mNil) [some (.obj a), some (.obj b)] s = .ok (logD (bhd y l2 l1)) s := by
    unfold mMeth
    simp only [mVar_eq, get_0, List.getElem?_cons_succ, vg_some, R.bnd_ok, hb.ins, List.lookup_cons, beq_self_eq_true, mCons_eq, q3, mNil_eq, fBeh_ok hb h2 m2 h1 (fun x hx => m1.mem x hx) (by omega), retag_ok]
    rfl
  obtain ⟨t, ht⟩ := fnew hy (.inl rfl) mb (ms := mCons (mFld ["Effect"] "home" (mVar 0)) (mCons (mMeth [("Effect", fBeh)] "behind" (mVar 1) (mCons (mFld ["Effect"] "goals" (mVar 0)) mNil)) mNil)) (ρ := [some (.obj a), some (.obj b)]) (s := s) (s1 := s) (by
    simp only [mCons_eq, q1, me, mNil_eq, R.bnd_ok])
  refine ⟨t, ?_⟩
  simp only [mSeq_eq, mIfS_eq, mNotT_eq, mB_eq, mCall_eq, mCons_eq, mVar_eq, get_0, List.getElem?_cons_succ, vg_some, R.bnd_ok, mC_eq, mNil_eq, is, asB_ok, Bool.not_true, Bool.false_eq_true, if_false, mSkip_eq, seqF_nx, mBin_eq, q1, q2, ne, mRet_eq, ht, fin_ret]
theorem add_ok (hy : y.Ok) (ha : isE s a y g1) (h1 : GD g1 l1) (m1 : MovOk y l1) (hb : isE s b y g2) (h2 : GD g2 l2) (m2 : MovOk y l2) : ∃ t, opAddI [("Effect", fAdd)] (.obj a) (.obj b) s = .ok (.obj s.length) (s ++ effF y (logD (bhd y l2 l1)) :: t) := by
  obtain ⟨t, ht⟩ := fAdd_ok hy ha h1 m1 hb h2 m2
  refine ⟨t, ?_⟩
  unfold opAddI opOwn
  simp only [ha.ins, hb.ins, if_true, List.lookup_cons, beq_self_eq_true, ht, noX_ok, R.bnd_ok]
theorem isE_new (y : Sys) (g : D) (s t : S) : isE (s ++ effF y g :: t) s.length y g := by
  unfold isE
  simp
/-! a function many times -/
def itr (f : Nat → Nat) : Nat → Nat → Nat
  | 0, x => x
  | k + 1, x => itr f k (f x)
theorem itr_add (f : Nat → Nat) : ∀ (a b x : Nat), itr f (a + b) x = itr f b (itr f a x)
  | 0, b, x => by rw [Nat.zero_add]; rfl
  | a + 1, b, x => by rw [Nat.succ_add]; exact itr_add f a b (f x)
def itL (y : Sys) (gs : List Nat) (k : Nat) : List Nat := y.reach.map (itr (stp y gs) k)
theorem itr_mem (h : MovOk y gs) : ∀ (k x : Nat), x ∈ y.reach → itr (stp y gs) k x ∈ y.reach
  | 0, _, hx => hx
  | k + 1, x, hx => itr_mem h k _ (h.stp hx)
theorem itL_mov (h : MovOk y gs) (k : Nat) : MovOk y (itL y gs k) := ⟨by simp [itL], fun x hx => by
  obtain ⟨z, hz, rfl⟩ := List.mem_map.1 hx
  exact itr_mem h k z hz⟩
theorem stp_map (f : Nat → Nat) {x : Nat} (hx : x ∈ y.reach) : stp y (y.reach.map f) x = f x := by
  have hi := List.idxOf_lt_length_of_mem hx
  unfold stp
  rw [List.getD_eq_getElem?_getD, List.getElem?_map, List.getElem?_eq_getElem hi, List.getElem_idxOf hi]
  rfl
theorem itL_add (h : MovOk y gs) (a b : Nat) : bhd y (itL y gs b) (itL y gs a) = itL y gs (a + b) := by
  unfold bhd
  rw [show itL y gs a = y.reach.map (itr (stp y gs) a) from rfl, List.map_map]
  refine List.map_congr_left fun x hx => ?_
  show stp y (itL y gs b) (itr (stp y gs) a x) = _
  rw [show itL y gs b = y.reach.map (itr (stp y gs) b) from rfl, stp_map _ (itr_mem h a x hx), itr_add]
theorem itL_zero : itL y gs 0 = y.reach := by
  unfold itL
  rw [show itr (stp y gs) 0 = id from rfl, List.map_id]
theorem itL_one (hy : y.Ok) (h : MovOk y gs) : itL y gs 1 = gs := by
  refine List.ext_getElem? fun i => ?_
  unfold itL
  rw [List.getElem?_map]
  rcases Nat.lt_or_ge i y.reach.length with hi | hi
  · rw [List.getElem?_eq_getElem hi]
    show some (stp y gs y.reach[i]) = _
    have e := stp_at h (List.getElem_mem hi)
    rw [(reach_nodup hy).idxOf_getElem i hi] at e
    exact e.symm
  · rw [List.getElem?_eq_none hi, List.getElem?_eq_none (by rw [h.len]; exact hi)]
    rfl
theorem reach_mov (y : Sys) : MovOk y y.reach := ⟨rfl, fun _ h => h⟩
end
end VL
namespace VL
open PySem PySem.Spec PyProof.Rows L2
section
variable {y : Sys} {g g1 g2 : D} {gs l l1 l2 : List Nat} {s : S} {n a b : Nat}
theorem fMul_ok (hy : y.Ok) (ha : isE s a y g) (hg : GD g gs) (mo : MovOk y gs) {m : Nat} (hm : m ≤ 10 ^ 12) : wp (fMul [.obj a, .int (m : Int)] s) fun d s' => ∃ r t g', d = .obj r ∧ s' = s ++ t ∧ isE s' r y g' ∧ GD g' (itL y gs m) := by
  unfold fMul
  rw [mFn_eq, wp_fin]
  have hi : initE 5 [.obj a, .int (m : Int)] = [some (.obj a), some (.int (m : Int)), none, none, none] := rfl
  rw [hi]
  have q1 := ha.home (m := mVar 0) (ρ := [some (.obj a), some (.int (m : Int)), none, none, none]) rfl
  have q2 := ha.states (m := mVar 0) (ρ := [some (.obj a), some (.int (m : Int)), none, none, none]) rfl
  have bt : m_is_between [.int (m : Int), .int 0, .int 1000000000000] s = .ok (.bl true) s := is_between_t ⟨by omega, by omega⟩ s
  obtain ⟨t, ht⟩ := fnew hy (.inr rfl) (reach_mov y) (ms := mCons (mFld ["Effect"] "home" (mVar 0)) (mCons (mFld ["Effect"] "states" (mVar 0)) mNil)) (ρ := [some (.obj a), some (.int (m : Int)), none, none, none]) (s := s) (s1 := s) (by
    simp only [mCons_eq, q1, q2, mNil_eq, R.bnd_ok])
  simp only [mSeq_eq, mIfS_eq, mNotT_eq, mB_eq, mUser_eq, mCons_eq, mVar_eq, get_0, List.getElem?_cons_succ, vg_some, R.bnd_ok, mC_eq, mNil_eq, bt, retag_ok, asB_ok, Bool.not_true, Bool.false_eq_true, if_false, mSkip_eq, seqF_nx, mPar3_eq, ht, List.set_cons_succ, List.set_cons_zero]
  have hw := isE_new y (logF y.reach) s t
  have hp := ha.app (effF y (logF y.reach) :: t)
  rw [wp_bnd]
  refine wp_while (fun n ρ s' => ∃ (w p k kw kp : Nat) (gw gp : D) (u : S), ρ = [some (.obj a), some (.int (m : Int)), some (.obj w), some (.obj p), some (.int (k : Int))] ∧ s' = s ++ u ∧ isE s' w y gw ∧ GD gw (itL y gs kw) ∧ isE s' p y gp ∧ GD gp (itL y gs kp) ∧
    kw + kp * k = m ∧ 1 ≤ n ∧ k < 2 ^ (n - 1)) ?_ ?_ 2000 _ _ ⟨s.length, a, m, 0, 1, _, g, effF y (logF y.reach) :: t, rfl, rfl, hw, by rw [itL_zero]; exact .inr rfl, hp, by rw [itL_one hy mo]; exact hg, by omega, by decide, Nat.lt_of_lt_of_le (Nat.lt_of_le_of_lt hm (show 10 ^ 12 < 2 ^ 40 by decide)) (Nat.pow_le_pow_right (by decide) (by decide))⟩
  · rintro ρ s' ⟨w, p, k, kw, kp, gw, gp, u, _, _, _, _, _, _, _, h, _⟩
    omega
  · rintro n ρ s' ⟨w, p, k, kw, kp, gw, gp, u, rfl, rfl, hw, gw1, hp, gp1, he, hn, hk⟩
    simp only [mB_eq, mBin_eq, mVar_eq, get_0, List.getElem?_cons_succ, vg_some, R.bnd_ok, mC_eq, opGt_int, asB_ok, wp_ok]
    by_cases h0 : 0 < k
    · rw [if_pos (decide_eq_true (by omega))]
      have hn1 : 1 ≤ n := by
        rcases Nat.eq_zero_or_pos n with z | z
        · subst z; simp at hk; omega
        · exact z
      have hk2 : k / 2 < 2 ^ (n - 1) := by
        have e : 2 ^ n = 2 ^ (n - 1) * 2 := by
          rw [← Nat.pow_succ]
          congr 1
          omega
        have : k < 2 ^ n := hk
        omega
      have m2 : opMod (.int (k : Int)) (.int 2) (s ++ u) = .ok (.int ((k : Int) % 2)) (s ++ u) := mod_ok _ (by decide)
      have eq2 : ∀ s : S, opEq (.int ((k : Int) % 2)) (.int 1) s = .ok (.bl ((k : Int) % 2 == 1)) s := fun s => opEqF_int s (fun b => b) _ _
      have dv : ∀ s : S, opDiv (.int (k : Int)) (.int 2) s = .ok (.int ((k / 2 : Nat) : Int)) s := fun s => div_ok s (by decide)
      simp only [mSeq_eq, mIfS_eq, mB_eq, mBin_eq, mVar_eq, get_0, List.getElem?_cons_succ, vg_some, R.bnd_ok, mC_eq, m2, eq2, asB_ok]
      have step : ∀ (w' kw' : Nat) (gw' : D) (u' : S), isE (s ++ u') w' y gw' → GD gw' (itL y gs kw') → isE (s ++ u') p y gp → kw' + 2 * kp * (k / 2) = m →
          wp (seqF (mSeq (mAsg (mBin (opAddI [("Effect", fAdd)]) (mVar 3) (mVar 3)) (gN 3)) (mAsg (mBin opDiv (mVar 4) (mC (.int 2))) (gN 4))) (.nx [some (.obj a), some (.int (m : Int)), some (.obj w'), some (.obj p), some (.int (k : Int))]) (s ++ u'))
            (turnK (fun ρ s' => ∃ (w p k kw kp : Nat) (gw gp : D) (u : S), ρ = [some (.obj a), some (.int (m : Int)), some (.obj w), some (.obj p), some (.int (k : Int))] ∧ s' = s ++ u ∧ isE s' w y gw ∧ GD gw (itL y gs kw) ∧ isE s' p y gp ∧ GD gp (itL y gs kp) ∧ kw + kp * k = m ∧ 1 ≤ n ∧ k < 2 ^ (n - 1)) fun fl s' => wp (seqF (mRet (mVar 2)) fl s') (endQ fun d s' => ∃ r t g', d = .obj r ∧ s' = s ++ t ∧ isE s' r y g' ∧ GD g' (itL y gs m))) := by
        intro w' kw' gw' u' h1 h2 h3 h4
        obtain ⟨t2, ht2⟩ := add_ok hy h3 gp1 (itL_mov mo kp) h3 gp1 (itL_mov mo kp)
        rw [itL_add mo] at ht2
        simp only [seqF_nx, mSeq_eq, mAsg_eq, mBin_eq, mVar_eq, get_0, List.getElem?_cons_succ, vg_some, R.bnd_ok, ht2, gN_eq, List.set_cons_succ, List.set_cons_zero, mC_eq, dv, wp_ok, turnK_nx]
        refine ⟨w', _, k / 2, kw', kp + kp, gw', _, u' ++ effF y (logD (itL y gs (kp + kp))) :: t2, rfl, by rw [List.append_assoc], h1.app _, h2, isE_new y _ _ _, .inl rfl, ?_, hn1, hk2⟩
        rw [← h4, Nat.two_mul]
      by_cases ho : k % 2 = 1
      · rw [show ((k : Int) % 2 == 1) = true from by rw [beq_iff_eq]; omega, if_pos rfl]
        obtain ⟨t1, ht1⟩ := add_ok hy hw gw1 (itL_mov mo kw) hp gp1 (itL_mov mo kp)
        rw [itL_add mo] at ht1
        simp only [mAsg_eq, mBin_eq, mVar_eq, get_0, List.getElem?_cons_succ, vg_some, R.bnd_ok, ht1, gN_eq, List.set_cons_succ, List.set_cons_zero]
        have := step (s ++ u).length (kw + kp) _ (u ++ effF y (logD (itL y gs (kw + kp))) :: t1) (by rw [← List.append_assoc]; exact isE_new y _ _ _) (.inl rfl) (by rw [← List.append_assoc]; exact hp.app _) (by
          have e : kp * k = kp * (2 * (k / 2) + 1) := by congr 1; omega
          rw [e, Nat.mul_add, Nat.mul_one] at he
          rw [← he, Nat.mul_comm 2 kp, Nat.mul_assoc]
          omega)
        rw [← List.append_assoc] at this
        exact this
      · rw [show ((k : Int) % 2 == 1) = false from by rw [beq_eq_false_iff_ne]; omega, if_neg (by decide)]
        simp only [mSkip_eq, R.bnd_ok]
        exact step w kw gw u hw gw1 hp (by
          have e : kp * k = kp * (2 * (k / 2)) := by congr 1; omega
          rw [e] at he
          rw [← he, Nat.mul_comm 2 kp, Nat.mul_assoc])
    · rw [if_neg (by simp; omega)]
      have hk0 : k = 0 := by omega
      subst hk0
      rw [Nat.mul_zero, Nat.add_zero] at he
      subst he
      simp only [seqF_nx, mRet_eq, mVar_eq, get_0, List.getElem?_cons_succ, vg_some, R.bnd_ok, wp_ok, endQ_ret]
      exact ⟨w, u, gw, rfl, rfl, hw, gw1⟩
theorem mul_okI (hy : y.Ok) (ha : isE s a y g) (hg : GD g gs) (mo : MovOk y gs) {m : Nat} (hm : m ≤ 10 ^ 12) : wp (opMulI [("Effect", fMul)] (.obj a) (.int (m : Int)) s) fun d s' => ∃ r t g', d = .obj r ∧ s' = s ++ t ∧ isE s' r y g' ∧ GD g' (itL y gs m) := by
  obtain ⟨d, s', e, h⟩ := (fMul_ok hy ha hg mo hm).ok
  unfold opMulI
  simp only [ha.ins, List.lookup_cons, beq_self_eq_true, e, noX_ok, wp_ok]
  exact h
end
end VL
namespace VL
open PySem PySem.Spec PyProof.Rows L2
theorem toPyS_F (l : List Nat) (s : S) : toPyS s (logF l) = some (.tuple (pyL l)) := toPy_log l
theorem toPyS_D (l : List Nat) (s : S) : toPyS s (logD l) = some (.tuple (pyL l)) := toPy_log l
section
variable {y : Sys} {g g1 g2 : D} {gs l l1 l2 : List Nat} {s : S} {n a b : Nat}
theorem GD.eq (h1 : GD g1 l1) (h2 : GD g2 l2) (f : Bool → Bool) (s : S) : opEqF f g1 g2 s = .ok (.bl (f (decide (l1 = l2)))) s := by
  have p1 : toPyS s g1 = some (.tuple (pyL l1)) := by rcases h1 with rfl | rfl; exact toPyS_D l1 s; exact toPyS_F l1 s
  have p2 : toPyS s g2 = some (.tuple (pyL l2)) := by rcases h2 with rfl | rfl; exact toPyS_D l2 s; exact toPyS_F l2 s
  rw [opEqF_py s p1 p2 (shaped_log l1).1 (shaped_log l2).1 (by rcases h1 with rfl | rfl <;> rcases h2 with rfl | rfl <;> rfl)]
  show R.ok (D.bl (f (PyData.eqvAll (pyL l1) (pyL l2)))) s = _
  rw [eqv_log]
theorem fEq_ok (hy : y.Ok) (ha : isE s a y g1) (h1 : GD g1 l1) (hb : isE s b y g2) (h2 : GD g2 l2) : fEqI [.obj a, .obj b] s = .ok (.bl (decide (l1 = l2))) s := by
  unfold fEqI
  rw [mFn_eq]
  have hi : initE 2 [.obj a, .obj b] = [some (.obj a), some (.obj b)] := rfl
  rw [hi]
  have is : fIsiC "Effect" [.obj b, .glo "Effect"] s = .ok (.bl true) s := by
    unfold fIsiC
    simp only [if_true, hb.ins]
  have q1 := ha.home (m := mVar 0) (ρ := [some (.obj a), some (.obj b)]) rfl
  have q2 := hb.home (m := mVar 1) (ρ := [some (.obj a), some (.obj b)]) rfl
  have q3 := ha.goals (m := mVar 0) (ρ := [some (.obj a), some (.obj b)]) rfl
  have q4 := hb.goals (m := mVar 1) (ρ := [some (.obj a), some (.obj b)]) rfl
  have e1 : opEq y.D y.D s = .ok (.bl true) s := sys_eq hy (fun b => b) s
  have e2 : opEq g1 g2 s = .ok (.bl (decide (l1 = l2))) s := h1.eq h2 (fun b => b) s
  have i1 : mCall (fIsiC "Effect") (mCons (mVar 1) (mCons (mC (.glo "Effect")) mNil)) [some (.obj a), some (.obj b)] s = .ok (.bl true) s := by
    simp only [mCall_eq, mCons_eq, mVar_eq, get_0, List.getElem?_cons_succ, vg_some, R.bnd_ok, mC_eq, mNil_eq, is]
  have i2 : mBin opEq (mFld ["Effect"] "home" (mVar 0)) (mFld ["Effect"] "home" (mVar 1)) [some (.obj a), some (.obj b)] s = .ok (.bl true) s := by
    simp only [mBin_eq, q1, q2, R.bnd_ok, e1]
  have i3 : mBin opEq (mFld ["Effect"] "goals" (mVar 0)) (mFld ["Effect"] "goals" (mVar 1)) [some (.obj a), some (.obj b)] s = .ok (.bl (decide (l1 = l2))) s := by
    simp only [mBin_eq, q3, q4, R.bnd_ok, e2]
  simp only [mRet_eq, mAndV_eq, i1, i2, i3, asB_ok, R.bnd_ok, if_true, fin_ret]
theorem neI_okE (hy : y.Ok) (ha : isE s a y g1) (h1 : GD g1 l1) (hb : isE s b y g2) (h2 : GD g2 l2) : opNeI [("Effect", fEqI)] (.obj a) (.obj b) s = .ok (.bl (!decide (l1 = l2))) s := by
  unfold opNeI opOwn
  simp only [ha.ins, hb.ins, if_true, List.lookup_cons, beq_self_eq_true, fEq_ok hy ha h1 hb h2, noX_ok, R.bnd_ok, fBl]
theorem fCal_ok (ha : isE s a y g) (hg : GD g gs) (mo : MovOk y gs) {x : Nat} (hx : x ∈ y.reach) : fCal [.obj a, nD x] s = .ok (nD (stp y gs x)) s := by
  unfold fCal
  rw [mFn_eq]
  have hi : initE 2 [.obj a, nD x] = [some (.obj a), some (nD x)] := rfl
  rw [hi]
  have q1 := ha.states (m := mVar 0) (ρ := [some (.obj a), some (nD x)]) rfl
  have q2 := ha.goals (m := mVar 0) (ρ := [some (.obj a), some (nD x)]) rfl
  have q3 := idxF_at (me := mVar 1) q1 rfl hx
  have n1 : opNotIn (nD x) (logF y.reach) s = .ok (.bl false) s := by
    rw [show opNotIn (nD x) (logF y.reach) s = _ from opIn_reachF (fun b => !b) _ _, decide_eq_true hx]
    rfl
  have w1 : m_is_whole [nD x] s = .ok (.bl true) s := by simp [nD]
  simp only [mSeq_eq, mIfS_eq, mOrT_eq, mNotT_eq, mB_eq, mUser_eq, mCons_eq, mVar_eq, get_0, List.getElem?_cons_succ, vg_some, R.bnd_ok, mNil_eq, w1, retag_ok, asB_ok, mBin_eq, q1, n1, Bool.not_true, Bool.false_eq_true, if_false, mSkip_eq, seqF_nx, mRet_eq, q2, q3, ix_stp hg mo hx, fin_ret]
/-- an effect at hand -/
structure Ef (y : Sys) (s : S) (e : Nat × D × List Nat) : Prop where
  at_ : isE s e.1 y e.2.1
  gd : GD e.2.1 e.2.2
  mo : MovOk y e.2.2
theorem Ef.app {e : Nat × D × List Nat} (h : Ef y s e) (t : S) : Ef y (s ++ t) e := ⟨h.at_.app t, h.gd, h.mo⟩
def eD (e : Nat × D × List Nat) : D := .obj e.1
theorem fJoi_ok (hy : y.Ok) (e0 : Nat × D × List Nat) (es : List (Nat × D × List Nat)) (h : ∀ e ∈ e0 :: es, Ef y s e) (hn : es.length ≤ 1000) :
    wp (fJoi [.tup ((e0 :: es).map eD)] s) fun d s' => ∃ r t g', d = .obj r ∧ s' = s ++ t ∧ Ef y s' (r, g', es.foldl (fun acc e => bhd y e.2.2 acc) e0.2.2) ∧ (es = [] → r = e0.1) := by
  unfold fJoi
  rw [mFn_eq, wp_fin]
  have hi : initE 5 [.tup ((e0 :: es).map eD)] = [some (.tup ((e0 :: es).map eD)), none, none, none, none] := rfl
  rw [hi]
  have e1 := llc_true (i := 1) (el := mCall (fIsiC "Effect") (mCons (mVar 1) (mCons (mC (.glo "Effect")) mNil))) (ρw := [some (.tup ((e0 :: es).map eD)), none, none, none, none]) (s := s) ((e0 :: es).map eD) [] (by
    intro d hd
    obtain ⟨e, he, rfl⟩ := List.mem_map.1 hd
    have is : fIsiC "Effect" [eD e, .glo "Effect"] s = .ok (.bl true) s := by
      unfold fIsiC eD
      simp only [if_true, (h e he).at_.ins]
    simp only [List.set_cons_succ, List.set_cons_zero, mCall_eq, mCons_eq, mVar_eq, get_0, List.getElem?_cons_succ, vg_some, R.bnd_ok, mC_eq, mNil_eq, is])
  have e2 := llc_true (i := 1) (el := mBin opEq (mFld ["Effect"] "home" (mVar 1)) (mFld ["Effect"] "home" (mVar 2))) (ρw := [some (.tup ((e0 :: es).map eD)), none, some (eD e0), some (.lst (es.map eD)), none]) (s := s) (es.map eD) [] (by
    intro d hd
    obtain ⟨e, he, rfl⟩ := List.mem_map.1 hd
    have q1 := (h e (List.mem_cons_of_mem _ he)).at_.home (m := mVar 1) (ρ := [some (.tup ((e0 :: es).map eD)), some (eD e), some (eD e0), some (.lst (es.map eD)), none]) rfl
    have q2 := (h e0 (List.mem_cons_self ..)).at_.home (m := mVar 2) (ρ := [some (.tup ((e0 :: es).map eD)), some (eD e), some (eD e0), some (.lst (es.map eD)), none]) rfl
    have e1 : opEq y.D y.D s = .ok (.bl true) s := sys_eq hy (fun b => b) s
    simp only [List.set_cons_succ, List.set_cons_zero, mBin_eq, q1, q2, R.bnd_ok, e1])
  have l1 : ((e0 :: es).map eD).length ≤ 1000000 := by simp; omega
  have l2 : (es.map eD).length ≤ 1000000 := by simp; omega
  have l3 : (es.map eD).length ≤ 16000 := by simp; omega
  have a1 : ∀ (k : Nat), fAll [.lst ([] ++ List.replicate k (.bl true))] s = .ok (.bl true) s := fun k => by simp
  have is : fIsi [.tup ((e0 :: es).map eD), .ty "tuple"] s = .ok (.bl true) s := rfl
  have ee : opEqE (.tup ((e0 :: es).map eD)) (.tup []) s = .ok (.bl false) s := rfl
  simp only [mSeq_eq, mIfS_eq, mOrT_eq, mNotT_eq, mB_eq, mCall_eq, mCons_eq, mVar_eq, get_0, List.getElem?_cons_succ, vg_some, R.bnd_ok, mC_eq, mNil_eq, is, asB_ok, Bool.not_true, Bool.false_eq_true, if_false, mBin_eq, mTup_eq, List.length_nil, Nat.zero_le, LIM_eq, if_true, ee, mSkip_eq, seqF_nx, mLcF_eq, mSrc_eq, srcF_tup]
  rw [lcF_fix l1 rfl]
  simp only [wipeD_cons, wipeD_nil, List.set_cons_succ, List.set_cons_zero]
  rw [e1]
  simp only [R.bnd_ok, finL_eq, a1, asB_ok, Bool.not_true, Bool.false_eq_true, if_false, mSkip_eq, seqF_nx, mSeq_eq, mAsg_eq, mVar_eq, get_0, vg_some]
  have star : ∀ ρ : Ev, gTS (gConsM (gN 2) (gConsM (gN 3) gNilM)) (.tup ((e0 :: es).map eD)) ρ s = .ok ((ρ.set 2 (some (eD e0))).set 3 (some (.lst (es.map eD)))) s := fun ρ => by
    unfold gTS
    simp only [List.map_cons, l3, if_true, gConsM_eq, gN_eq, R.bnd_ok, gNilM_eq]
  simp only [star, R.bnd_ok, List.set_cons_succ, List.set_cons_zero, seqF_nx, mSeq_eq, mIfS_eq, mNotT_eq, mB_eq, mCall_eq, mCons_eq, mLcF_eq, mSrc_eq, mVar_eq, get_0, List.getElem?_cons_succ, vg_some, srcF_lst]
  rw [lcF_fix l2 rfl]
  simp only [wipeD_cons, wipeD_nil, List.set_cons_succ, List.set_cons_zero]
  rw [e2]
  simp only [R.bnd_ok, finL_eq, mNil_eq, a1, asB_ok, Bool.not_true, Bool.false_eq_true, if_false, mSkip_eq, seqF_nx, mSeq_eq, mAsg_eq, mVar_eq, get_0, List.getElem?_cons_succ, vg_some, gN_eq, List.set_cons_succ, List.set_cons_zero, mFor_eq, mSrc_eq, srcF_lst, forF_fix, wp_bnd]
  refine wp_each (f := eD) (fun pre ρ s' => ∃ (r : Nat) (t : S) (g' : D) (x1 : Option D), ρ = [some (.tup ((e0 :: es).map eD)), x1, some (eD e0), some (.lst (es.map eD)), some (.obj r)] ∧ s' = s ++ t ∧ Ef y s' (r, g', pre.foldl (fun acc e => bhd y e.2.2 acc) e0.2.2) ∧ (pre = [] → r = e0.1)) es _ _
    ⟨e0.1, [], e0.2.1, _, rfl, by simp, h e0 (List.mem_cons_self ..), fun _ => rfl⟩ ?_ ?_
  · rintro pre e rest ρ s' he ⟨r, t, g', x1, rfl, rfl, hE, _⟩
    have hm : e ∈ es := by rw [he]; simp
    have hb := (h e (List.mem_cons_of_mem _ hm)).app t
    obtain ⟨t2, ht2⟩ := add_ok hy hE.at_ hE.gd hE.mo hb.at_ hb.gd hb.mo
    simp only [gN_eq, wp_ok, List.set_cons_succ, List.set_cons_zero, mAsg_eq, mBin_eq, mVar_eq, get_0, List.getElem?_cons_succ, vg_some, R.bnd_ok]
    rw [show opAddI [("Effect", fAdd)] (.obj r) (eD e) (s ++ t) = _ from ht2]
    simp only [R.bnd_ok, gN_eq, List.set_cons_succ, List.set_cons_zero, wp_ok, turnQ_nx]
    have fe : (pre ++ [e]).foldl (fun acc e => bhd y e.2.2 acc) e0.2.2 = bhd y e.2.2 (pre.foldl (fun acc e => bhd y e.2.2 acc) e0.2.2) := by rw [List.foldl_append]; rfl
    rw [fe]
    refine ⟨(s ++ t).length, t ++ effF y _ :: t2, logD (bhd y e.2.2 (pre.foldl (fun acc e => bhd y e.2.2 acc) e0.2.2)), _, rfl, by rw [List.append_assoc], ?_, fun z => by simp at z⟩
    exact ⟨isE_new y _ _ _, .inl rfl, hE.mo.bhd hb.mo⟩
  · rintro ρ s' ⟨r, t, g', x1, rfl, rfl, hE, h0⟩
    simp only [seqF_nx, mRet_eq, mVar_eq, get_0, List.getElem?_cons_succ, vg_some, R.bnd_ok, wp_ok, endQ_ret]
    exact ⟨r, t, g', rfl, rfl, hE, h0⟩
end
end VL
namespace VL
open PySem PySem.Spec PyProof.Rows L2
/-! the law's own side: one after another, many times -/
theorem index_at {l : List Nat} (nd : l.Nodup) {d : D} {s : S} (hd : asL s d = some (l.map nD)) {x : Nat} (hx : x ∈ l) : fIndex d (nD x) s = .ok (.int (l.idxOf x : Nat)) s := by
  unfold fIndex
  rw [hd]
  have ha : (l.map nD).all flatD = true := by simp [nD, flatD]
  have hf : (l.map nD).findIdx? (fun d => eqF d (nD x)) = some (l.idxOf x) := by
    have hl := List.idxOf_lt_length_of_mem hx
    rw [List.findIdx?_map, List.findIdx?_eq_some_iff_getElem]
    refine ⟨hl, by simp [nD, eqF, List.getElem_idxOf hl], fun j hj => ?_⟩
    have : l[j]'(by omega) ≠ x := fun e => by
      have := nd.idxOf_getElem j (by omega)
      rw [e] at this
      omega
    simp only [Function.comp, nD, eqF, Bool.not_eq_true, beq_eq_false_iff_ne]
    omega
  show (if flatD (nD x) = true ∧ (l.map nD).all flatD = true then (match (l.map nD).findIdx? fun d => eqF d (nD x) with
    | some j => R.ok (D.int (j : Nat)) s
    | none => .bad) else .bad) = _
  rw [if_pos ⟨rfl, ha⟩, hf]
theorem mIndex_in {l : List Nat} (nd : l.Nodup) {d : D} {s : S} {ρ : Ev} {mo mi : ME} (hd : asL s d = some (l.map nD)) {x : Nat} (hx : x ∈ l) (h1 : mo ρ s = .ok d s) (h2 : mi ρ s = .ok (nD x) s) : mIndex mo mi ρ s = .ok (.int (l.idxOf x : Nat)) s := by
  unfold mIndex
  rw [h1]
  simp only [R.bnd_ok]
  rw [if_pos (by rw [hd]; rfl), h2]
  simp only [R.bnd_ok]
  exact index_at nd hd hx
section
variable {y : Sys} {g g1 g2 : D} {gs l l1 l2 : List Nat} {s : S} {n a b : Nat}
theorem lBeh_ok (hy : y.Ok) (h1 : GD g1 l1) (m1 : MovOk y l1) (h2 : GD g2 l2) (m2 : MovOk y l2) (s : S) : lBeh [.lst (y.reach.map nD), g1, g2] s = .ok (logD (bhd y l2 l1)) s := by
  have hr := reach_l6 hy
  have hl := m1.len
  unfold lBeh
  rw [mFn_eq]
  have hi : initE 4 [.lst (y.reach.map nD), g1, g2] = [some (.lst (y.reach.map nD)), some g1, some g2, none] := rfl
  rw [hi]
  simp only [mRet_eq, mCall_eq, mCons_eq, mLcF_eq, mSrc_eq, mVar_eq, get_0, List.getElem?_cons_succ, vg_some, R.bnd_ok, h1.src]
  rw [lcF_fix (by simp; omega) rfl, llc_map (f := nD) (g := fun x => nD (stp y l2 x)) l1 [] (fun x hx => ⟨_, rfl, by
    have f3 := mIndex_in (mo := mVar 0) (mi := mVar 3) (ρ := [some (.lst (y.reach.map nD)), some g1, some g2, some (nD x)]) (reach_nodup hy) (s := s) (d := .lst (y.reach.map nD)) rfl (m1.mem x hx) rfl rfl
    show mBin opIx _ _ [some (.lst (y.reach.map nD)), some g1, some g2, some (nD x)] s = _
    simp only [mBin_eq, mVar_eq, get_0, List.getElem?_cons_succ, vg_some, R.bnd_ok, f3, ix_stp h2 m2 (m1.mem x hx)]⟩)]
  simp only [List.nil_append, R.bnd_ok, mNil_eq, finL_eq]
  have : (l1.map fun x => nD (stp y l2 x)) = (bhd y l2 l1).map nD := by simp [bhd, Function.comp_def]
  rw [this]
  rfl
def orb (f : Nat → Nat) (x j : Nat) : List Nat := (List.range j).map fun i => itr f i x
theorem orb_succ (f : Nat → Nat) (x j : Nat) : orb f x (j + 1) = orb f x j ++ [itr f j x] := by
  unfold orb
  rw [List.range_succ, List.map_append]
  rfl
theorem itr_succ (f : Nat → Nat) (j x : Nat) : itr f (j + 1) x = f (itr f j x) := by rw [itr_add]; rfl
theorem orb_at (f : Nat → Nat) (x : Nat) {i j : Nat} (h : i < j) : (orb f x j)[i]? = some (itr f i x) := by
  unfold orb
  rw [List.getElem?_map, List.getElem?_range h]
  rfl
theorem itr_per {f : Nat → Nat} {x b j : Nat} (hb : b < j) (e : itr f j x = itr f b x) : ∀ (q k : Nat), itr f (b + q * (j - b) + k) x = itr f (b + k) x
  | 0, k => by rw [Nat.zero_mul, Nat.add_zero]
  | q + 1, k => by
    have : b + (q + 1) * (j - b) + k = j + (q * (j - b) + k) := by rw [Nat.succ_mul]; omega
    rw [this, itr_add, e, ← itr_add, ← Nat.add_assoc]
    exact itr_per hb e q k
theorem itr_mod {f : Nat → Nat} {x b j m : Nat} (hb : b < j) (hm : j ≤ m) (e : itr f j x = itr f b x) : itr f (b + (m - b) % (j - b)) x = itr f m x := by
  have h := itr_per hb e ((m - b) / (j - b)) ((m - b) % (j - b))
  rw [← h]
  congr 1
  have := Nat.div_add_mod (m - b) (j - b)
  rw [Nat.mul_comm] at this
  omega
theorem lTim_ok (hy : y.Ok) (mo : MovOk y gs) (m : Nat) (s : S) : wp (lTim [.lst (y.reach.map nD), logD gs, .int (m : Int)] s) fun d s' => d = logD (itL y gs m) ∧ ∃ t, s' = s ++ t := by
  have hr := reach_l6 hy
  unfold lTim
  rw [mFn_eq, wp_fin]
  have hi : initE 8 [.lst (y.reach.map nD), logD gs, .int (m : Int)] = [some (.lst (y.reach.map nD)), some (logD gs), some (.int (m : Int)), none, none, none, none, none] := rfl
  rw [hi]
  simp only [mSeq_eq, mAsg_eq, mLstO_eq, mNil_eq, R.bnd_ok, List.length_nil, Nat.zero_le, LIM_eq, if_true, gN_eq, List.set_cons_succ, List.set_cons_zero, seqF_nx, mFor_eq, mSrc_eq, mVar_eq, get_0, List.getElem?_cons_succ, vg_some, srcF_lst, forF_fix, wp_bnd]
  refine wp_each (f := nD) (fun pre ρ s' => ∃ (u : S) (x4 x5 x6 x7 : Option D), ρ = [some (.lst (y.reach.map nD)), some (logD gs), some (.int (m : Int)), some (.obj s.length), x4, x5, x6, x7] ∧ s' = s ++ .lst ((pre.map (itr (stp y gs) m)).map nD) :: u) y.reach _ _
    ⟨[], _, _, _, _, rfl, rfl⟩ ?_ ?_
  · rintro pre x rest ρ s' he ⟨u, x4, x5, x6, x7, rfl, hs⟩
    have hx : x ∈ y.reach := by rw [he]; simp
    have hpl : pre.length ≤ 6 := by
      have := congrArg List.length he
      simp at this
      omega
    simp only [gN_eq, wp_ok, List.set_cons_succ, List.set_cons_zero, mSeq_eq, mPar_eq, mCons_eq, mLstO_eq, mNil_eq, R.bnd_ok, List.length_nil, Nat.zero_le, LIM_eq, if_true, mVar_eq, get_0, List.getElem?_cons_succ, vg_some, seqF_nx, wp_bnd]
    refine wp_while (fun n ρ s2 => ∃ (j : Nat) (x7 : Option D), ρ = [some (.lst (y.reach.map nD)), some (logD gs), some (.int (m : Int)), some (.obj s.length), some (nD x), some (.obj s'.length), some (nD (itr (stp y gs) j x)), x7] ∧ s2 = s' ++ [.lst ((orb (stp y gs) x j).map nD)] ∧
      (orb (stp y gs) x j).Nodup ∧ 8 ≤ j + n) ?_ ?_ 2000 _ _ ⟨0, _, rfl, rfl, by simp [orb], by omega⟩
    · rintro ρ s2 ⟨j, x7, rfl, rfl, nd, h8⟩
      have h1 := nodup_len y.many (orb (stp y gs) x j) nd fun z hz => by
        obtain ⟨i, _, rfl⟩ := List.mem_map.1 hz
        exact reach_lt hy (itr_mem mo i x hx)
      have := hy.m6
      simp [orb] at h1
      omega
    · rintro n ρ s2 ⟨j, x7, rfl, rfl, nd, h8⟩
      have hj : j ≤ 6 := by
        have h1 := nodup_len y.many (orb (stp y gs) x j) nd fun z hz => by
          obtain ⟨i, _, rfl⟩ := List.mem_map.1 hz
          exact reach_lt hy (itr_mem mo i x hx)
        have := hy.m6
        simp [orb] at h1
        omega
      have hz := itr_mem mo j x hx
      have gq : (s' ++ [O.lst ((orb (stp y gs) x j).map nD)])[s'.length]? = some (.lst ((orb (stp y gs) x j).map nD)) := by simp
      have ni : opNotIn (nD (itr (stp y gs) j x)) (.obj s'.length) (s' ++ [.lst ((orb (stp y gs) x j).map nD)]) = .ok (.bl (!decide (itr (stp y gs) j x ∈ orb (stp y gs) x j))) (s' ++ [.lst ((orb (stp y gs) x j).map nD)]) := by
        rw [show opNotIn (nD (itr (stp y gs) j x)) (.obj s'.length) (s' ++ [.lst ((orb (stp y gs) x j).map nD)]) = _ from opIn_objK (f := fun b => !b) rfl (all_nD _) gq, anyF_nD]
        congr 3
        rw [List.contains_eq_mem]
      simp only [mB_eq, mBin_eq, mVar_eq, get_0, List.getElem?_cons_succ, vg_some, R.bnd_ok, ni, asB_ok, wp_ok]
      have jl : (orb (stp y gs) x j).length = j := by simp [orb]
      by_cases hin : itr (stp y gs) j x ∈ orb (stp y gs) x j
      · rw [decide_eq_true hin, if_neg (by decide)]
        have hb := List.idxOf_lt_length_of_mem hin
        rw [jl] at hb
        generalize hbe : (orb (stp y gs) x j).idxOf (itr (stp y gs) j x) = b at hb
        have eb : itr (stp y gs) j x = itr (stp y gs) b x := by
          have e1 := List.getElem?_eq_getElem (l := orb (stp y gs) x j) (i := b) (by omega)
          rw [orb_at _ _ hb] at e1
          have e2 : (orb (stp y gs) x j)[b]'(by omega) = itr (stp y gs) j x := by
            subst hbe
            exact List.getElem_idxOf _
          rw [e2] at e1
          exact (Option.some.inj e1).symm
        have ix := fun x7 : Option D => mIndex_in (mo := mVar 5) (mi := mVar 6) (ρ := [some (.lst (y.reach.map nD)), some (logD gs), some (.int (m : Int)), some (.obj s.length), some (nD x), some (.obj s'.length), some (nD (itr (stp y gs) j x)), x7]) nd (s := s' ++ [.lst ((orb (stp y gs) x j).map nD)]) (d := .obj s'.length) (by simp [asL, asX]) hin rfl rfl
        rw [hbe] at ix
        have fl := fLen_obj (s' ++ [.lst ((orb (stp y gs) x j).map nD)]) gq
        rw [List.length_map, jl] at fl
        have ox : ∀ k : Nat, k < j → opIx (.obj s'.length) (.int (k : Int)) (s' ++ [.lst ((orb (stp y gs) x j).map nD)]) = .ok (nD (itr (stp y gs) k x)) (s' ++ [.lst ((orb (stp y gs) x j).map nD)]) := fun k hk => by
          rw [opIx_obj _ gq, atI_nat', List.getElem?_map, orb_at _ _ hk]
          rfl
        have val : mIf (mB (mBin opLt (mVar 2) (mCall fLen (mCons (mVar 5) mNil)))) (mBin opIx (mVar 5) (mVar 2)) (mBin opIx (mVar 5) (mBin opAdd (mVar 7) (mBin opMod (mBin opSub (mVar 2) (mVar 7)) (mBin opSub (mCall fLen (mCons (mVar 5) mNil)) (mVar 7)))))
            [some (.lst (y.reach.map nD)), some (logD gs), some (.int (m : Int)), some (.obj s.length), some (nD x), some (.obj s'.length), some (nD (itr (stp y gs) j x)), some (.int (b : Int))] (s' ++ [.lst ((orb (stp y gs) x j).map nD)]) = .ok (nD (itr (stp y gs) m x)) (s' ++ [.lst ((orb (stp y gs) x j).map nD)]) := by
          simp only [mIf_eq, mB_eq, mBin_eq, mCall_eq, mCons_eq, mVar_eq, get_0, List.getElem?_cons_succ, vg_some, R.bnd_ok, mNil_eq, fl, opLt_int, asB_ok]
          by_cases hmj : m < j
          · rw [if_pos (decide_eq_true (by omega)), ox m hmj]
          · rw [if_neg (by simp; omega)]
            have md : opMod (.int ((m : Int) - (b : Int))) (.int ((j : Int) - (b : Int))) (s' ++ [.lst ((orb (stp y gs) x j).map nD)]) = .ok (.int (((m : Int) - (b : Int)) % ((j : Int) - (b : Int)))) (s' ++ [.lst ((orb (stp y gs) x j).map nD)]) := mod_ok _ (by omega)
            have e3 : (b : Int) + ((m : Int) - (b : Int)) % ((j : Int) - (b : Int)) = ((b + (m - b) % (j - b) : Nat) : Int) := by
              rw [← Int.ofNat_sub (by omega), ← Int.ofNat_sub (by omega)]
              rfl
            have lt : b + (m - b) % (j - b) < j := by
              have := Nat.mod_lt (m - b) (show 0 < j - b by omega)
              omega
            simp only [fl, opSub_int, md, R.bnd_ok, opAdd_int, e3, ox _ lt]
            rw [itr_mod hb (by omega) eb]
        have ga : (s' ++ [O.lst ((orb (stp y gs) x j).map nD)])[s.length]? = some (.lst ((pre.map (itr (stp y gs) m)).map nD)) := by rw [hs]; simp
        have ap := fAppend_obj ga (by simp; omega) (nD (itr (stp y gs) m x))
        have st : (s' ++ [O.lst ((orb (stp y gs) x j).map nD)]).set s.length (.lst ((pre.map (itr (stp y gs) m)).map nD ++ [nD (itr (stp y gs) m x)])) = s ++ .lst (((pre ++ [x]).map (itr (stp y gs) m)).map nD) :: (u ++ [.lst ((orb (stp y gs) x j).map nD)]) := by
          rw [hs]
          simp
        rw [st] at ap
        simp only [seqF_nx, mSeq_eq, mAsg_eq, ix, R.bnd_ok, gN_eq, List.set_cons_succ, List.set_cons_zero, mDrop_eq, mAppend_eq, mVar_eq, get_0, List.getElem?_cons_succ, vg_some, isLstO_obj ga, if_true]
        rw [show (D.int (b : Nat)) = .int (b : Int) from rfl, val]
        simp only [R.bnd_ok, ap, wp_ok, turnQ_nx]
        exact ⟨_, _, _, _, _, rfl, rfl⟩
      · rw [decide_eq_false hin, Bool.not_false, if_pos rfl]
        have ap := fAppend_obj gq (by rw [List.length_map, jl]; omega) (nD (itr (stp y gs) j x))
        have st : (s' ++ [O.lst ((orb (stp y gs) x j).map nD)]).set s'.length (.lst ((orb (stp y gs) x j).map nD ++ [nD (itr (stp y gs) j x)])) = s' ++ [.lst ((orb (stp y gs) x (j + 1)).map nD)] := by
          rw [orb_succ]
          simp
        rw [st] at ap
        have ix := fun s3 : S => mIndex_in (mo := mVar 0) (mi := mVar 6) (ρ := [some (.lst (y.reach.map nD)), some (logD gs), some (.int (m : Int)), some (.obj s.length), some (nD x), some (.obj s'.length), some (nD (itr (stp y gs) j x)), x7]) (reach_nodup hy) (s := s3) (d := .lst (y.reach.map nD)) rfl hz rfl rfl
        simp only [mSeq_eq, mDrop_eq, mAppend_eq, mVar_eq, get_0, List.getElem?_cons_succ, vg_some, R.bnd_ok, isLstO_obj gq, if_true, ap, seqF_nx, mAsg_eq, mBin_eq, ix, ix_stp (.inl rfl) mo hz, gN_eq, List.set_cons_succ, List.set_cons_zero, wp_ok, turnK_nx]
        refine ⟨j + 1, _, by rw [itr_succ], rfl, ?_, by omega⟩
        rw [orb_succ]
        exact List.nodup_append.2 ⟨nd, by simp, fun a ha b hb e => hin (by rw [List.mem_singleton.1 hb] at e; rw [← e]; exact ha)⟩
  · rintro ρ s' ⟨u, x4, x5, x6, x7, rfl, rfl⟩
    have as : asL (s ++ .lst ((y.reach.map (itr (stp y gs) m)).map nD) :: u) (.obj s.length) = some ((y.reach.map (itr (stp y gs) m)).map nD) := by simp [asL, asX]
    have ft : fTuple [.obj s.length] (s ++ .lst ((y.reach.map (itr (stp y gs) m)).map nD) :: u) = .ok (logD (itL y gs m)) (s ++ .lst ((y.reach.map (itr (stp y gs) m)).map nD) :: u) := by
      rw [show fTuple [.obj s.length] (s ++ .lst ((y.reach.map (itr (stp y gs) m)).map nD) :: u) = (match asL (s ++ .lst ((y.reach.map (itr (stp y gs) m)).map nD) :: u) (.obj s.length) with | some ds => R.ok (D.tup ds) (s ++ .lst ((y.reach.map (itr (stp y gs) m)).map nD) :: u) | none => .bad) from rfl, as]
      rfl
    simp only [seqF_nx, mRet_eq, mCall_eq, mCons_eq, mVar_eq, get_0, List.getElem?_cons_succ, vg_some, R.bnd_ok, mNil_eq, ft, wp_ok, endQ_ret]
    exact ⟨trivial, _, rfl⟩
end
end VL
namespace VL
open PySem PySem.Spec PyProof.Rows L2
noncomputable def l_reached : FM := mFn 1 (mRet (mCall fTupleF (mCons (mCall fSortedU (mCons (mUser m_paths_of (mCons (mVar 0) mNil)) mNil)) mNil)))
noncomputable def l_Effect_init : FM := mFn 4 (mSeq (mDrop (mUser m_need_system (mCons (mVar 1) mNil)))
(mSeq (mAsg (mUser l_reached (mCons (mVar 1) mNil)) (gN 3))
(mSeq (mIfS (mNotT (mB (mUser m_are_moves (mCons (mVar 3) (mCons (mVar 2) mNil)))))
mBad
mSkip)
(mSeq (mSetFld ["Effect"] "home" (mVar 0) (mVar 1))
(mSeq (mSetFld ["Effect"] "states" (mVar 0) (mVar 3))
(mSetFld ["Effect"] "goals" (mVar 0) (mVar 2)))))))
noncomputable def m_Effect_behind : FM := mFn 3 (mRet (mCall fTuple (mCons (mLc (mSrc (mVar 1)) (.one 2) mYes (mBin opIx (mFld ["Effect"] "goals" (mVar 0)) (mIndexF (mFld ["Effect"] "states" (mVar 0)) (mVar 2))) [2]) mNil)))
noncomputable def m_Effect_add : FM := mFn 2 (mSeq (mIfS (mNotT (mB (mCall (fIsiC "Effect") (mCons (mVar 1) (mCons (mC (.glo "Effect")) mNil)))))
mBad
mSkip)
(mSeq (mIfS (mB (mBin opNe (mFld ["Effect"] "home" (mVar 0)) (mFld ["Effect"] "home" (mVar 1))))
mBad
mSkip)
(mRet (mNew "Effect" l_Effect_init (mCons (mFld ["Effect"] "home" (mVar 0)) (mCons (mMeth [("Effect", m_Effect_behind)] "behind" (mVar 1) (mCons (mFld ["Effect"] "goals" (mVar 0)) mNil)) mNil))))))
noncomputable def m_Effect_joined : FM := mFn 5 (mSeq (mIfS (mOrT (mNotT (mB (mCall fIsi (mCons (mVar 0) (mCons (mC (.ty "tuple")) mNil))))) (mB (mBin opEqE (mVar 0) (mTup mNil))))
mBad
mSkip)
(mSeq (mIfS (mNotT (mB (mCall fAll (mCons (mLc (mSrc (mVar 0)) (.one 1) mYes (mCall (fIsiC "Effect") (mCons (mVar 1) (mCons (mC (.glo "Effect")) mNil))) [1]) mNil))))
mBad
mSkip)
(mSeq (mAsg (mVar 0) (gTS (gConsM (gN 2) (gConsM (gN 3) gNilM))))
(mSeq (mIfS (mNotT (mB (mCall fAll (mCons (mLc (mSrc (mVar 3)) (.one 1) mYes (mBin opEq (mFld ["Effect"] "home" (mVar 1)) (mFld ["Effect"] "home" (mVar 2))) [1]) mNil))))
mBad
mSkip)
(mSeq (mAsg (mVar 2) (gN 4))
(mSeq (mFor (mSrc (mVar 3)) (gN 1)
(mAsg (mBin (opAddI [("Effect", m_Effect_add)]) (mVar 4) (mVar 1)) (gN 4)))
(mRet (mVar 4))))))))
noncomputable def m_Effect_system : FM := mFn 1 (mRet (mFld ["Effect"] "home" (mVar 0)))
noncomputable def m_Effect_moves : FM := mFn 1 (mRet (mFld ["Effect"] "goals" (mVar 0)))
noncomputable def m_Effect_fixed : FM := mFn 3 (mRet (mCall fTuple (mCons (mLc (mZip (mCons (mFld ["Effect"] "states" (mVar 0)) (mCons (mFld ["Effect"] "goals" (mVar 0)) mNil))) (.many [1, 2]) (mB (mBin opEq (mVar 1) (mVar 2))) (mVar 1) [1, 2]) mNil)))
noncomputable def m_Effect_call : FM := mFn 2 (mSeq (mIfS (mOrT (mNotT (mB (mUser m_is_whole (mCons (mVar 1) mNil)))) (mB (mBin opNotIn (mVar 1) (mFld ["Effect"] "states" (mVar 0)))))
mBad
mSkip)
(mRet (mBin opIx (mFld ["Effect"] "goals" (mVar 0)) (mIndexF (mFld ["Effect"] "states" (mVar 0)) (mVar 1)))))
noncomputable def m_Effect_mul : FM := mFn 5 (mSeq (mIfS (mNotT (mB (mUser m_is_between (mCons (mVar 1) (mCons (mC (.int 0)) (mCons (mC (.int 1000000000000)) mNil))))))
mBad
mSkip)
(mSeq (mPar3 2 3 4 (mCons (mNew "Effect" l_Effect_init (mCons (mFld ["Effect"] "home" (mVar 0)) (mCons (mFld ["Effect"] "states" (mVar 0)) mNil))) (mCons (mVar 0) (mCons (mVar 1) mNil))))
(mSeq (mWhile (mB (mBin opGt (mVar 4) (mC (.int 0))))
(mSeq (mIfS (mB (mBin opEq (mBin opMod (mVar 4) (mC (.int 2))) (mC (.int 1))))
(mAsg (mBin (opAddI [("Effect", m_Effect_add)]) (mVar 2) (mVar 3)) (gN 2))
mSkip)
(mSeq (mAsg (mBin (opAddI [("Effect", m_Effect_add)]) (mVar 3) (mVar 3)) (gN 3))
(mAsg (mBin opDiv (mVar 4) (mC (.int 2))) (gN 4)))) 2000)
(mRet (mVar 2)))))
noncomputable def m_Effect_eq : FM := mFn 2 (mRet (mAndV (mCall (fIsiC "Effect") (mCons (mVar 1) (mCons (mC (.glo "Effect")) mNil))) (mAndV (mBin opEq (mFld ["Effect"] "home" (mVar 0)) (mFld ["Effect"] "home" (mVar 1))) (mBin opEq (mFld ["Effect"] "goals" (mVar 0)) (mFld ["Effect"] "goals" (mVar 1))))))
noncomputable def m_Effect_repr : FM := mFn 1 (mRet (mJs ((mC (.str "Effect(")) :: (mFmt (mCall fLen (mCons (mFld ["Effect"] "states" (mVar 0)) mNil))) :: (mC (.str " states, ")) :: (mFmt (mCall fLen (mCons (mProp [("Effect", m_Effect_fixed)] (mVar 0)) mNil))) :: (mC (.str " fixed)")) :: []) Str.empty))
noncomputable def m__law_seen : FM := mFn 1 (mRet (mLst (mCons (mProp [("Effect", m_Effect_system)] (mVar 0)) (mCons (mProp [("Effect", m_Effect_moves)] (mVar 0)) (mCons (mProp [("Effect", m_Effect_fixed)] (mVar 0)) (mCons (mCall (fReprI [("Effect", m_Effect_repr)]) (mCons (mVar 0) mNil)) mNil))))))
noncomputable def m__law_due : FM := mFn 6 (mSeq (mAsg (mCall fTuple (mCons (mLc (mZip (mCons (mUser m__law_reached (mCons (mVar 0) mNil)) (mCons (mVar 1) mNil))) (.many [4, 5]) (mB (mBin opEq (mVar 4) (mVar 5))) (mVar 4) [4, 5]) mNil)) (gN 2))
(mSeq (mAsg (mBin opAdd (mBin opAdd (mBin opAdd (mBin opAdd (mC (.str "Effect(")) (mCall fStrI (mCons (mCall fLen (mCons (mVar 1) mNil)) mNil))) (mC (.str " states, "))) (mCall fStrI (mCons (mCall fLen (mCons (mVar 2) mNil)) mNil))) (mC (.str " fixed)"))) (gN 3))
(mRet (mLst (mCons (mVar 0) (mCons (mVar 1) (mCons (mVar 2) (mCons (mVar 3) mNil))))))))
noncomputable def m__law_behind : FM := mFn 4 (mRet (mCall fTuple (mCons (mLc (mSrc (mVar 1)) (.one 3) mYes (mBin opIx (mVar 2) (mIndex (mVar 0) (mVar 3))) [3]) mNil)))
noncomputable def m__law_times : FM := mFn 8 (mSeq (mAsg (mLstO mNil) (gN 3))
(mSeq (mFor (mSrc (mVar 0)) (gN 4)
(mSeq (mPar 5 6 (mCons (mLstO mNil) (mCons (mVar 4) mNil)))
(mSeq (mWhile (mB (mBin opNotIn (mVar 6) (mVar 5)))
(mSeq (mDrop (mAppend (mVar 5) (mVar 6)))
(mAsg (mBin opIx (mVar 1) (mIndex (mVar 0) (mVar 6))) (gN 6))) 2000)
(mSeq (mAsg (mIndex (mVar 5) (mVar 6)) (gN 7))
(mDrop (mAppend (mVar 3) (mIf (mB (mBin opLt (mVar 2) (mCall fLen (mCons (mVar 5) mNil)))) (mBin opIx (mVar 5) (mVar 2)) (mBin opIx (mVar 5) (mBin opAdd (mVar 7) (mBin opMod (mBin opSub (mVar 2) (mVar 7)) (mBin opSub (mCall fLen (mCons (mVar 5) mNil)) (mVar 7))))))))))))
(mRet (mCall fTuple (mCons (mVar 3) mNil)))))
noncomputable def m_law : FM := mFn 21 (mSeq (mFor (mRng1 (mCons (mCall fMax2 (mCons (mC (.int 1)) (mCons (mCall fMin2 (mCons (mCall fLen (mCons (mVar 0) mNil)) (mCons (mC (.int 3)) mNil))) mNil))) mNil)) (gN 1)
(mSeq (mAsg (mUser m__law_pen (mCons (mUser m__law_cell_at (mCons (mVar 0) (mCons (mVar 1) mNil))) mNil)) (gN 2))
(mFor (mRng1 (mCons (mC (.int 4)) mNil)) (gN 3)
(mSeq (mAsg (mUser m__law_system (mCons (mVar 2) mNil)) (gN 4))
(mSeq (mAsg (mUser m__law_reached (mCons (mVar 4) mNil)) (gN 5))
(mSeq (mAsg (mLst (mCons (mUser m__law_moves (mCons (mVar 4) (mCons (mUser m__law_log (mCons (mVar 2) (mCons (mVar 4) (mCons (mC (.int 4)) mNil)))) mNil))) (mCons (mUser m__law_any_moves (mCons (mVar 2) (mCons (mVar 4) mNil))) (mCons (mUser m__law_any_moves (mCons (mVar 2) (mCons (mVar 4) mNil))) mNil)))) (gN 6))
(mSeq (mAsg (mLc (mSrc (mVar 6)) (.one 18) mYes (mNew "Effect" l_Effect_init (mCons (mVar 4) (mCons (mVar 18) mNil))) [18]) (gN 7))
(mSeq (mFor (mZip (mCons (mVar 7) (mCons (mVar 6) mNil))) (gT 2 (gConsM (gN 8) (gConsM (gN 9) gNilM)))
(mSeq (mIfS (mB (mBin opNe (mLc (mSrc (mVar 5)) (.one 20) mYes (mCallI [("Effect", m_Effect_call)] (mVar 8) (mCons (mVar 20) mNil)) [20]) (mCall fList (mCons (mVar 9) mNil))))
(mRet (mC (.bl false)))
mSkip)
(mSeq (mFor (mZip (mCons (mVar 7) (mCons (mVar 6) mNil))) (gT 2 (gConsM (gN 10) (gConsM (gN 11) gNilM)))
(mIfS (mNotT (mB (mUser m__law_same (mCons (mUser m__law_seen (mCons (mBin (opAddI [("Effect", m_Effect_add)]) (mVar 8) (mVar 10)) mNil)) (mCons (mUser m__law_due (mCons (mVar 4) (mCons (mUser m__law_behind (mCons (mVar 5) (mCons (mVar 9) (mCons (mVar 11) mNil)))) mNil))) mNil)))))
(mRet (mC (.bl false)))
mSkip))
(mFor (mSrc (mLst (mCons (mC (.int 0)) (mCons (mC (.int 1)) (mCons (mC (.int 2)) (mCons (mUser m__law_draw (mCons (mVar 2) (mCons (mC (.int 40)) mNil))) (mCons (mBin opSub (mBin opPow (mC (.int 10)) (mC (.int 12))) (mUser m__law_draw (mCons (mVar 2) (mCons (mC (.int 60)) mNil)))) mNil))))))) (gN 12)
(mIfS (mNotT (mB (mUser m__law_same (mCons (mUser m__law_seen (mCons (mBin (opMulI [("Effect", m_Effect_mul)]) (mVar 8) (mVar 12)) mNil)) (mCons (mUser m__law_due (mCons (mVar 4) (mCons (mUser m__law_times (mCons (mVar 5) (mCons (mVar 9) (mCons (mVar 12) mNil)))) mNil))) mNil)))))
(mRet (mC (.bl false)))
mSkip)))))
(mSeq (mAsg (mUser m__law_behind (mCons (mVar 5) (mCons (mUser m__law_behind (mCons (mVar 5) (mCons (mBin opIx (mVar 6) (mC (.int 2))) (mCons (mBin opIx (mVar 6) (mC (.int 0))) mNil)))) (mCons (mBin opIx (mVar 6) (mC (.int 1))) mNil)))) (gN 13))
(mSeq (mAsg (mUser m_Effect_joined (mCons (mTup (mCons (mBin opIx (mVar 7) (mC (.int 2))) (mCons (mBin opIx (mVar 7) (mC (.int 0))) (mCons (mBin opIx (mVar 7) (mC (.int 1))) mNil)))) mNil)) (gN 14))
(mSeq (mIfS (mOrT (mNotT (mB (mUser m__law_same (mCons (mUser m__law_seen (mCons (mVar 14) mNil)) (mCons (mUser m__law_due (mCons (mVar 4) (mCons (mVar 13) mNil))) mNil))))) (mB (mBin (opNeI [("Effect", m_Effect_eq)]) (mUser m_Effect_joined (mCons (mTup (mCons (mBin opIx (mVar 7) (mC (.int 1))) mNil)) mNil)) (mBin opIx (mVar 7) (mC (.int 1))))))
(mRet (mC (.bl false)))
mSkip)
(mSeq (mPar 15 16 (mCons (mLc (mRng1 (mCons (mBin opAdd (mC (.int 5)) (mUser m__law_draw (mCons (mVar 2) (mCons (mC (.int 5)) mNil)))) mNil)) (.one 19) mYes (mUser m__law_draw (mCons (mVar 2) (mCons (mC (.int 3)) mNil))) [19]) (mCons (mCall fTuple (mCons (mVar 5) mNil)) mNil)))
(mSeq (mFor (mSrc (mVar 15)) (gN 17)
(mAsg (mUser m__law_behind (mCons (mVar 5) (mCons (mVar 16) (mCons (mBin opIx (mVar 6) (mVar 17)) mNil)))) (gN 16)))
(mSeq (mIfS (mB (mBin opNe (mProp [("Effect", m_Effect_moves)] (mUser m_Effect_joined (mCons (mCall fTuple (mCons (mLc (mSrc (mVar 15)) (.one 17) mYes (mBin opIx (mVar 7) (mVar 17)) [17]) mNil)) mNil))) (mVar 16)))
(mRet (mC (.bl false)))
mSkip)
(mIfS (mNotT (mB (mUser m__law_same (mCons (mLc (mSrc (mVar 7)) (.one 8) mYes (mUser m__law_seen (mCons (mVar 8) mNil)) [8]) (mCons (mLc (mSrc (mVar 6)) (.one 18) mYes (mUser m__law_due (mCons (mVar 4) (mCons (mVar 18) mNil))) [18]) mNil)))))
(mRet (mC (.bl false)))
mSkip)))))))))))))))
(mRet (mC (.bl true))))
end VL
namespace W
open PySem PySem.Spec PyProof.Rows L2 VL
theorem sc_is_whole : FnScope ["thing"] ["thing"] (defScope (top 13)) := ⟨rfl, rfl, rfl, by decide +kernel, rfl, by decide +kernel, by decide +kernel⟩
theorem sc_is_between : FnScope ["thing", "low", "high"] ["thing", "low", "high"] (defScope (top 14)) := ⟨rfl, rfl, rfl, by decide +kernel, rfl, by decide +kernel, by decide +kernel⟩
theorem sc_are_states : FnScope ["thing", "long", "many", "one"] ["thing", "long", "many"] (defScope (top 15)) := ⟨rfl, rfl, rfl, by decide +kernel, rfl, by decide +kernel, by decide +kernel⟩
theorem sc_is_kind : FnScope ["thing"] ["thing"] (defScope (top 16)) := ⟨rfl, rfl, rfl, by decide +kernel, rfl, by decide +kernel, by decide +kernel⟩
theorem sc_is_system : FnScope ["thing", "many", "start", "operations", "kinds", "one"] ["thing"] (defScope (top 17)) := ⟨rfl, rfl, rfl, by decide +kernel, rfl, by decide +kernel, by decide +kernel⟩
theorem sc_need_system : FnScope ["thing"] ["thing"] (defScope (top 18)) := ⟨rfl, rfl, rfl, by decide +kernel, rfl, by decide +kernel, by decide +kernel⟩
theorem sc_paths_of : FnScope ["system", "found", "waiting", "at", "state", "number", "operation"] ["system"] (defScope (top 22)) := ⟨rfl, rfl, rfl, by decide +kernel, rfl, by decide +kernel, by decide +kernel⟩
theorem sc_reached : FnScope ["system"] ["system"] (defScope (top 23)) := ⟨rfl, rfl, rfl, by decide +kernel, rfl, by decide +kernel, by decide +kernel⟩
theorem sc_are_moves : FnScope ["states", "thing", "one"] ["states", "thing"] (defScope (top 26)) := ⟨rfl, rfl, rfl, by decide +kernel, rfl, by decide +kernel, by decide +kernel⟩
theorem sc_Effect_init : FnScope ["self", "system", "moves", "states"] ["self", "system", "moves"] (defScope (mst (top 27) 0)) := ⟨rfl, rfl, rfl, by decide +kernel, rfl, by decide +kernel, by decide +kernel⟩
theorem sc_is_log : FnScope ["system", "thing", "one"] ["system", "thing"] (defScope (top 19)) := ⟨rfl, rfl, rfl, by decide +kernel, rfl, by decide +kernel, by decide +kernel⟩
theorem sc_need_log : FnScope ["system", "thing"] ["system", "thing"] (defScope (top 20)) := ⟨rfl, rfl, rfl, by decide +kernel, rfl, by decide +kernel, by decide +kernel⟩
theorem sc_run_from : FnScope ["system", "state", "log", "entry"] ["system", "state", "log"] (defScope (top 21)) := ⟨rfl, rfl, rfl, by decide +kernel, rfl, by decide +kernel, by decide +kernel⟩
theorem sc_Effect_behind : FnScope ["self", "goals", "goal"] ["self", "goals"] (defScope (mst (top 27) 7)) := ⟨rfl, rfl, rfl, by decide +kernel, rfl, by decide +kernel, by decide +kernel⟩
theorem sc_Effect_add : FnScope ["self", "other"] ["self", "other"] (defScope (mst (top 27) 8)) := ⟨rfl, rfl, rfl, by decide +kernel, rfl, by decide +kernel, by decide +kernel⟩
theorem sc_Effect_joined : FnScope ["effects", "one", "first", "others", "found"] ["effects"] (defScope (mst (top 27) 2)) := ⟨rfl, rfl, rfl, by decide +kernel, rfl, by decide +kernel, by decide +kernel⟩
theorem sc_Effect_system : FnScope ["self"] ["self"] (defScope (mst (top 27) 3)) := ⟨rfl, rfl, rfl, by decide +kernel, rfl, by decide +kernel, by decide +kernel⟩
theorem sc_Effect_moves : FnScope ["self"] ["self"] (defScope (mst (top 27) 4)) := ⟨rfl, rfl, rfl, by decide +kernel, rfl, by decide +kernel, by decide +kernel⟩
theorem sc_Effect_fixed : FnScope ["self", "state", "goal"] ["self"] (defScope (mst (top 27) 5)) := ⟨rfl, rfl, rfl, by decide +kernel, rfl, by decide +kernel, by decide +kernel⟩
theorem sc_Effect_call : FnScope ["self", "state"] ["self", "state"] (defScope (mst (top 27) 6)) := ⟨rfl, rfl, rfl, by decide +kernel, rfl, by decide +kernel, by decide +kernel⟩
theorem sc_Effect_mul : FnScope ["self", "many", "whole", "power", "left"] ["self", "many"] (defScope (mst (top 27) 9)) := ⟨rfl, rfl, rfl, by decide +kernel, rfl, by decide +kernel, by decide +kernel⟩
theorem sc_Effect_eq : FnScope ["self", "other"] ["self", "other"] (defScope (mst (top 27) 10)) := ⟨rfl, rfl, rfl, by decide +kernel, rfl, by decide +kernel, by decide +kernel⟩
theorem sc_Effect_repr : FnScope ["self"] ["self"] (defScope (mst (top 27) 11)) := ⟨rfl, rfl, rfl, by decide +kernel, rfl, by decide +kernel, by decide +kernel⟩
theorem sc__law_run : FnScope ["_law_system_here", "_law_state", "_law_log_here", "_law_entry"] ["_law_system_here", "_law_state", "_law_log_here"] (defScope (top 29)) := ⟨rfl, rfl, rfl, by decide +kernel, rfl, by decide +kernel, by decide +kernel⟩
theorem sc__law_paths : FnScope ["_law_system_here", "_law_found", "_law_at", "_law_seen_here", "_law_number", "_law_operation", "_law_state"] ["_law_system_here"] (defScope (top 30)) := ⟨rfl, rfl, rfl, by decide +kernel, rfl, by decide +kernel, by decide +kernel⟩
theorem sc__law_reached : FnScope ["_law_system_here", "_law_state", "_law_log_here"] ["_law_system_here"] (defScope (top 31)) := ⟨rfl, rfl, rfl, by decide +kernel, rfl, by decide +kernel, by decide +kernel⟩
theorem sc__law_draw : FnScope ["_law_pen_here", "_law_many", "_law_digit", "_law_stir"] ["_law_pen_here", "_law_many"] (defScope (top 32)) := ⟨rfl, rfl, rfl, by decide +kernel, rfl, by decide +kernel, by decide +kernel⟩
theorem sc__law_pick : FnScope ["_law_pen_here", "_law_things"] ["_law_pen_here", "_law_things"] (defScope (top 33)) := ⟨rfl, rfl, rfl, by decide +kernel, rfl, by decide +kernel, by decide +kernel⟩
theorem sc__law_pen : FnScope ["_law_cell"] ["_law_cell"] (defScope (top 34)) := ⟨rfl, rfl, rfl, by decide +kernel, rfl, by decide +kernel, by decide +kernel⟩
theorem sc__law_cell_at : FnScope ["_law_script", "_law_k"] ["_law_script", "_law_k"] (defScope (top 35)) := ⟨rfl, rfl, rfl, by decide +kernel, rfl, by decide +kernel, by decide +kernel⟩
theorem sc__law_drawn : FnScope ["_law_pen_here", "_law_many", "_law_size", "_law_operations", "_law_kinds", "_law_lap", "_law_state"] ["_law_pen_here"] (defScope (top 36)) := ⟨rfl, rfl, rfl, by decide +kernel, rfl, by decide +kernel, by decide +kernel⟩
theorem sc__law_cells : FnScope ["_law_pen_here", "_law_high", "_law_low", "_law_operations", "_law_kinds", "_law_names", "_law_lap", "_law_cell", "_law_value", "_law_moves_here", "_law_state"] ["_law_pen_here"] (defScope (top 37)) := ⟨rfl, rfl, rfl, by decide +kernel, rfl, by decide +kernel, by decide +kernel⟩
theorem sc__law_marks : FnScope ["_law_pen_here", "_law_operations", "_law_kinds", "_law_lap", "_law_mark", "_law_puts", "_law_moves_here", "_law_state", "_law_own", "_law_other", "_law_both", "_law_bit"] ["_law_pen_here"] (defScope (top 38)) := ⟨rfl, rfl, rfl, by decide +kernel, rfl, by decide +kernel, by decide +kernel⟩
theorem sc__law_turns : FnScope ["_law_pen_here", "_law_many", "_law_operations", "_law_kinds", "_law_lap", "_law_way", "_law_value", "_law_moves_here", "_law_state"] ["_law_pen_here"] (defScope (top 39)) := ⟨rfl, rfl, rfl, by decide +kernel, rfl, by decide +kernel, by decide +kernel⟩
theorem sc__law_system : FnScope ["_law_pen_here", "_law_way", "_law_found", "_law_many", "_law_start", "_law_operations", "_law_kinds", "_law_at", "_law_state", "_law_own"] ["_law_pen_here"] (defScope (top 40)) := ⟨rfl, rfl, rfl, by decide +kernel, rfl, by decide +kernel, by decide +kernel⟩
theorem sc__law_log : FnScope ["_law_pen_here", "_law_system_here", "_law_cap", "_law_lap"] ["_law_pen_here", "_law_system_here", "_law_cap"] (defScope (top 41)) := ⟨rfl, rfl, rfl, by decide +kernel, rfl, by decide +kernel, by decide +kernel⟩
theorem sc__law_same : FnScope ["_law_found", "_law_due_here"] ["_law_found", "_law_due_here"] (defScope (top 42)) := ⟨rfl, rfl, rfl, by decide +kernel, rfl, by decide +kernel, by decide +kernel⟩
theorem sc__law_moves : FnScope ["_law_system_here", "_law_log_here", "_law_state"] ["_law_system_here", "_law_log_here"] (defScope (top 43)) := ⟨rfl, rfl, rfl, by decide +kernel, rfl, by decide +kernel, by decide +kernel⟩
theorem sc__law_seen : FnScope ["_law_effect"] ["_law_effect"] (defScope (top 44)) := ⟨rfl, rfl, rfl, by decide +kernel, rfl, by decide +kernel, by decide +kernel⟩
theorem sc__law_due : FnScope ["_law_system_here", "_law_moves_here", "_law_fixed", "_law_words", "_law_state", "_law_goal"] ["_law_system_here", "_law_moves_here"] (defScope (top 45)) := ⟨rfl, rfl, rfl, by decide +kernel, rfl, by decide +kernel, by decide +kernel⟩
theorem sc__law_any_moves : FnScope ["_law_pen_here", "_law_system_here", "_law_states", "_law_state"] ["_law_pen_here", "_law_system_here"] (defScope (top 46)) := ⟨rfl, rfl, rfl, by decide +kernel, rfl, by decide +kernel, by decide +kernel⟩
theorem sc__law_behind : FnScope ["_law_states", "_law_moves_here", "_law_more", "_law_goal"] ["_law_states", "_law_moves_here", "_law_more"] (defScope (top 47)) := ⟨rfl, rfl, rfl, by decide +kernel, rfl, by decide +kernel, by decide +kernel⟩
theorem sc__law_times : FnScope ["_law_states", "_law_moves_here", "_law_many", "_law_found", "_law_state", "_law_seen_here", "_law_here", "_law_begun"] ["_law_states", "_law_moves_here", "_law_many"] (defScope (top 48)) := ⟨rfl, rfl, rfl, by decide +kernel, rfl, by decide +kernel, by decide +kernel⟩
theorem sc_law : FnScope ["_law_script", "_law_k", "_law_pen_here", "_law_lap", "_law_made", "_law_states", "_law_rows", "_law_some", "_law_one", "_law_first", "_law_other", "_law_second", "_law_many", "_law_three", "_law_told", "_law_picks", "_law_whole", "_law_pick_here", "_law_row", "_law_turn", "_law_state"] ["_law_script"] (defScope (top 49)) := ⟨rfl, rfl, rfl, by decide +kernel, rfl, by decide +kernel, by decide +kernel⟩
structure Tx (K : PySem.W.Frag) (mg : Str → Option Value) : Prop where
  bl : Bl mg
  f_is_whole : ∃ f fd, FunD K "is_whole" "is_whole" (defArgs (top 13)) (defBody (top 13)) (defScope (top 13)) [] [] f fd ∧ mg "is_whole" = some (.ref f)
  f_is_between : ∃ f fd, FunD K "is_between" "is_between" (defArgs (top 14)) (defBody (top 14)) (defScope (top 14)) [] [] f fd ∧ mg "is_between" = some (.ref f)
  f_are_states : ∃ f fd, FunD K "are_states" "are_states" (defArgs (top 15)) (defBody (top 15)) (defScope (top 15)) [] [] f fd ∧ mg "are_states" = some (.ref f)
  f_is_kind : ∃ f fd, FunD K "is_kind" "is_kind" (defArgs (top 16)) (defBody (top 16)) (defScope (top 16)) [] [] f fd ∧ mg "is_kind" = some (.ref f)
  f_is_system : ∃ f fd, FunD K "is_system" "is_system" (defArgs (top 17)) (defBody (top 17)) (defScope (top 17)) [] [] f fd ∧ mg "is_system" = some (.ref f)
  f_need_system : ∃ f fd, FunD K "need_system" "need_system" (defArgs (top 18)) (defBody (top 18)) (defScope (top 18)) [] [] f fd ∧ mg "need_system" = some (.ref f)
  f_paths_of : ∃ f fd, FunD K "paths_of" "paths_of" (defArgs (top 22)) (defBody (top 22)) (defScope (top 22)) [] [] f fd ∧ mg "paths_of" = some (.ref f)
  f_reached : ∃ f fd, FunD K "reached" "reached" (defArgs (top 23)) (defBody (top 23)) (defScope (top 23)) [] [] f fd ∧ mg "reached" = some (.ref f)
  f_are_moves : ∃ f fd, FunD K "are_moves" "are_moves" (defArgs (top 26)) (defBody (top 26)) (defScope (top 26)) [] [] f fd ∧ mg "are_moves" = some (.ref f)
  g_Effect : mg "Effect" = some (.ref (He.ga K "Effect"))
  cl_Effect : Cls K (He.ga K "Effect")
  is_Effect : C8.InsC K (He.ga K "Effect")
  mul_Effect : MulOk K (He.ga K "Effect")
  ne_Effect : NeOk K (He.ga K "Effect")
  sf_Effect : PySem.W.selfFirst K (He.ga K "Effect") = true
  na_Effect_goals : NoAttr K (He.ga K "Effect") "goals"
  na_Effect_home : NoAttr K (He.ga K "Effect") "home"
  na_Effect_states : NoAttr K (He.ga K "Effect") "states"
  m_Effect_init : Mk K (He.ga K "Effect") (He.ma K (He.ga K "Effect") "__init__")
  f_Effect_init : ∃ fd, FunD K "__init__" "Effect.__init__" (defArgs (mst (top 27) 0)) (defBody (mst (top 27) 0)) (defScope (mst (top 27) 0)) [] [] (He.ma K (He.ga K "Effect") "__init__") fd
  f_is_log : ∃ f fd, FunD K "is_log" "is_log" (defArgs (top 19)) (defBody (top 19)) (defScope (top 19)) [] [] f fd ∧ mg "is_log" = some (.ref f)
  f_need_log : ∃ f fd, FunD K "need_log" "need_log" (defArgs (top 20)) (defBody (top 20)) (defScope (top 20)) [] [] f fd ∧ mg "need_log" = some (.ref f)
  f_run_from : ∃ f fd, FunD K "run_from" "run_from" (defArgs (top 21)) (defBody (top 21)) (defScope (top 21)) [] [] f fd ∧ mg "run_from" = some (.ref f)
  m_Effect_behind : Meth K (He.ga K "Effect") "behind" (He.ma K (He.ga K "Effect") "behind")
  f_Effect_behind : ∃ fd, FunD K "behind" "Effect.behind" (defArgs (mst (top 27) 7)) (defBody (mst (top 27) 7)) (defScope (mst (top 27) 7)) [] [] (He.ma K (He.ga K "Effect") "behind") fd
  m_Effect_add : Meth K (He.ga K "Effect") "__add__" (He.ma K (He.ga K "Effect") "__add__")
  f_Effect_add : ∃ fd, FunD K "__add__" "Effect.__add__" (defArgs (mst (top 27) 8)) (defBody (mst (top 27) 8)) (defScope (mst (top 27) 8)) [] [] (He.ma K (He.ga K "Effect") "__add__") fd
  m_Effect_joined : SMet K (He.ga K "Effect") "joined" (He.ma K (He.ga K "Effect") "joined") (He5.wf K (He.ga K "Effect") "staticmethod" "joined")
  cr_Effect_joined : ClX.CRead K (He.ga K "Effect") (.type "type")
  f_Effect_joined : ∃ fd, FunD K "joined" "Effect.joined" (defArgs (mst (top 27) 2)) (defBody (mst (top 27) 2)) (defScope (mst (top 27) 2)) [] [] (He5.wf K (He.ga K "Effect") "staticmethod" "joined") fd
  m_Effect_system : PropOf K (He.ga K "Effect") "system" (He.ma K (He.ga K "Effect") "system") (He5.wf K (He.ga K "Effect") "property" "system")
  f_Effect_system : ∃ fd, FunD K "system" "Effect.system" (defArgs (mst (top 27) 3)) (defBody (mst (top 27) 3)) (defScope (mst (top 27) 3)) [] [] (He5.wf K (He.ga K "Effect") "property" "system") fd
  m_Effect_moves : PropOf K (He.ga K "Effect") "moves" (He.ma K (He.ga K "Effect") "moves") (He5.wf K (He.ga K "Effect") "property" "moves")
  f_Effect_moves : ∃ fd, FunD K "moves" "Effect.moves" (defArgs (mst (top 27) 4)) (defBody (mst (top 27) 4)) (defScope (mst (top 27) 4)) [] [] (He5.wf K (He.ga K "Effect") "property" "moves") fd
  m_Effect_fixed : PropOf K (He.ga K "Effect") "fixed" (He.ma K (He.ga K "Effect") "fixed") (He5.wf K (He.ga K "Effect") "property" "fixed")
  f_Effect_fixed : ∃ fd, FunD K "fixed" "Effect.fixed" (defArgs (mst (top 27) 5)) (defBody (mst (top 27) 5)) (defScope (mst (top 27) 5)) [] [] (He5.wf K (He.ga K "Effect") "property" "fixed") fd
  m_Effect_call : Meth K (He.ga K "Effect") "__call__" (He.ma K (He.ga K "Effect") "__call__")
  f_Effect_call : ∃ fd, FunD K "__call__" "Effect.__call__" (defArgs (mst (top 27) 6)) (defBody (mst (top 27) 6)) (defScope (mst (top 27) 6)) [] [] (He.ma K (He.ga K "Effect") "__call__") fd
  m_Effect_mul : Meth K (He.ga K "Effect") "__mul__" (He.ma K (He.ga K "Effect") "__mul__")
  f_Effect_mul : ∃ fd, FunD K "__mul__" "Effect.__mul__" (defArgs (mst (top 27) 9)) (defBody (mst (top 27) 9)) (defScope (mst (top 27) 9)) [] [] (He.ma K (He.ga K "Effect") "__mul__") fd
  m_Effect_eq : Meth K (He.ga K "Effect") "__eq__" (He.ma K (He.ga K "Effect") "__eq__")
  f_Effect_eq : ∃ fd, FunD K "__eq__" "Effect.__eq__" (defArgs (mst (top 27) 10)) (defBody (mst (top 27) 10)) (defScope (mst (top 27) 10)) [] [] (He.ma K (He.ga K "Effect") "__eq__") fd
  m_Effect_repr : Meth K (He.ga K "Effect") "__repr__" (He.ma K (He.ga K "Effect") "__repr__")
  f_Effect_repr : ∃ fd, FunD K "__repr__" "Effect.__repr__" (defArgs (mst (top 27) 11)) (defBody (mst (top 27) 11)) (defScope (mst (top 27) 11)) [] [] (He.ma K (He.ga K "Effect") "__repr__") fd
  f__law_run : ∃ f fd, FunD K "_law_run" "_law_run" (defArgs (top 29)) (defBody (top 29)) (defScope (top 29)) [] [] f fd ∧ mg "_law_run" = some (.ref f)
  f__law_paths : ∃ f fd, FunD K "_law_paths" "_law_paths" (defArgs (top 30)) (defBody (top 30)) (defScope (top 30)) [] [] f fd ∧ mg "_law_paths" = some (.ref f)
  f__law_reached : ∃ f fd, FunD K "_law_reached" "_law_reached" (defArgs (top 31)) (defBody (top 31)) (defScope (top 31)) [] [] f fd ∧ mg "_law_reached" = some (.ref f)
  f__law_draw : ∃ f fd, FunD K "_law_draw" "_law_draw" (defArgs (top 32)) (defBody (top 32)) (defScope (top 32)) [] [] f fd ∧ mg "_law_draw" = some (.ref f)
  f__law_pick : ∃ f fd, FunD K "_law_pick" "_law_pick" (defArgs (top 33)) (defBody (top 33)) (defScope (top 33)) [] [] f fd ∧ mg "_law_pick" = some (.ref f)
  f__law_pen : ∃ f fd, FunD K "_law_pen" "_law_pen" (defArgs (top 34)) (defBody (top 34)) (defScope (top 34)) [] [] f fd ∧ mg "_law_pen" = some (.ref f)
  f__law_cell_at : ∃ f fd, FunD K "_law_cell_at" "_law_cell_at" (defArgs (top 35)) (defBody (top 35)) (defScope (top 35)) [] [] f fd ∧ mg "_law_cell_at" = some (.ref f)
  f__law_drawn : ∃ f fd, FunD K "_law_drawn" "_law_drawn" (defArgs (top 36)) (defBody (top 36)) (defScope (top 36)) [] [] f fd ∧ mg "_law_drawn" = some (.ref f)
  f__law_cells : ∃ f fd, FunD K "_law_cells" "_law_cells" (defArgs (top 37)) (defBody (top 37)) (defScope (top 37)) [] [] f fd ∧ mg "_law_cells" = some (.ref f)
  f__law_marks : ∃ f fd, FunD K "_law_marks" "_law_marks" (defArgs (top 38)) (defBody (top 38)) (defScope (top 38)) [] [] f fd ∧ mg "_law_marks" = some (.ref f)
  f__law_turns : ∃ f fd, FunD K "_law_turns" "_law_turns" (defArgs (top 39)) (defBody (top 39)) (defScope (top 39)) [] [] f fd ∧ mg "_law_turns" = some (.ref f)
  f__law_system : ∃ f fd, FunD K "_law_system" "_law_system" (defArgs (top 40)) (defBody (top 40)) (defScope (top 40)) [] [] f fd ∧ mg "_law_system" = some (.ref f)
  f__law_log : ∃ f fd, FunD K "_law_log" "_law_log" (defArgs (top 41)) (defBody (top 41)) (defScope (top 41)) [] [] f fd ∧ mg "_law_log" = some (.ref f)
  f__law_same : ∃ f fd, FunD K "_law_same" "_law_same" (defArgs (top 42)) (defBody (top 42)) (defScope (top 42)) [] [] f fd ∧ mg "_law_same" = some (.ref f)
  f__law_moves : ∃ f fd, FunD K "_law_moves" "_law_moves" (defArgs (top 43)) (defBody (top 43)) (defScope (top 43)) [] [] f fd ∧ mg "_law_moves" = some (.ref f)
  f__law_seen : ∃ f fd, FunD K "_law_seen" "_law_seen" (defArgs (top 44)) (defBody (top 44)) (defScope (top 44)) [] [] f fd ∧ mg "_law_seen" = some (.ref f)
  f__law_due : ∃ f fd, FunD K "_law_due" "_law_due" (defArgs (top 45)) (defBody (top 45)) (defScope (top 45)) [] [] f fd ∧ mg "_law_due" = some (.ref f)
  f__law_any_moves : ∃ f fd, FunD K "_law_any_moves" "_law_any_moves" (defArgs (top 46)) (defBody (top 46)) (defScope (top 46)) [] [] f fd ∧ mg "_law_any_moves" = some (.ref f)
  f__law_behind : ∃ f fd, FunD K "_law_behind" "_law_behind" (defArgs (top 47)) (defBody (top 47)) (defScope (top 47)) [] [] f fd ∧ mg "_law_behind" = some (.ref f)
  f__law_times : ∃ f fd, FunD K "_law_times" "_law_times" (defArgs (top 48)) (defBody (top 48)) (defScope (top 48)) [] [] f fd ∧ mg "_law_times" = some (.ref f)
  f_law : ∃ f fd, FunD K "law" "law" (defArgs (top 49)) (defBody (top 49)) (defScope (top 49)) [] [] f fd ∧ mg "law" = some (.ref f)
  g_MOST_STATES : ∃ t, mg "MOST_STATES" = some (.int 6 t)
  g_MOST_OPERATIONS : ∃ t, mg "MOST_OPERATIONS" = some (.int 6 t)
  g_MOST_KIND : ∃ t, mg "MOST_KIND" = some (.int 9 t)
  g_MOST_TIMES : ∃ t, mg "MOST_TIMES" = some (.int 1000000000000 t)
section
variable {P : Program} {w : World} {K : PySem.W.Frag} {mg : Str → Option Value} {base : Heap}
theorem k_is_whole (T : Tx K mg)  : Cl P w K mg base 1 "is_whole" 1 m_is_whole := by
  obtain ⟨f, fd, F, gf⟩ := T.f_is_whole
  have bl := T.bl
  refine clG F gf (F.bindsN (ps := ["thing"]) fun _ _ _ _ _ _ us hl => match us, hl with | [_], _ => rfl) (fnG F sc_is_whole fun cdv A outer st H E hr hp tk => ?_) rfl
  have sc := sc_is_whole
  exact (vss_one (vs_ret (ve_and (ve_callB call_isi v_isi (by rfl) bl.isinstance (by decide +kernel) (va_cons (ve_v 0) (va_cons (ve_ty (by rfl) bl.int (by decide +kernel)) va_nil))) (ve_one (ve_not (ve_callB call_isi v_isi (by rfl) bl.isinstance (by decide +kernel) (va_cons (ve_v 0) (va_cons (ve_ty (by rfl) bl.bool (by decide +kernel)) va_nil))))))))
theorem k_is_between (T : Tx K mg) (c_is_whole : Cl P w K mg base 1 "is_whole" 1 m_is_whole) : Cl P w K mg base 2 "is_between" 3 m_is_between := by
  obtain ⟨f, fd, F, gf⟩ := T.f_is_between
  have bl := T.bl
  refine clG F gf (F.bindsN (ps := ["thing", "low", "high"]) fun _ _ _ _ _ _ us hl => match us, hl with | [_, _, _], _ => rfl) (fnG F sc_is_between fun cdv A outer st H E hr hp tk => ?_) rfl
  have sc := sc_is_between
  exact (vss_one (vs_ret (ve_and (ve_user c_is_whole tk hr (by decide) (by rfl) (va_cons (ve_v 0) va_nil) (len_cons len_nilF)) (ve_one (ve_chain op_le op_le k_le k_le.v (ve_v 1) (ve_v 0) (ve_v 2))))))
theorem k_are_states (T : Tx K mg) (c_is_between : Cl P w K mg base 2 "is_between" 3 m_is_between) : Cl P w K mg base 3 "are_states" 3 m_are_states := by
  obtain ⟨f, fd, F, gf⟩ := T.f_are_states
  have bl := T.bl
  refine clG F gf (F.bindsN (ps := ["thing", "long", "many"]) fun _ _ _ _ _ _ us hl => match us, hl with | [_, _, _], _ => rfl) (fnG F sc_are_states fun cdv A outer st H E hr hp tk => ?_) rfl
  have sc := sc_are_states
  exact (vss_one (vs_ret (ve_and (ve_callB call_isi v_isi (by rfl) bl.isinstance (by decide +kernel) (va_cons (ve_v 0) (va_cons (ve_ty (by rfl) bl.tuple (by decide +kernel)) va_nil))) (ve_and (ve_cmp (op_eqA (hu64 hr)) k_eq.v (ve_callB c_len v_len (by rfl) bl.len (by decide +kernel) (va_cons (ve_v 0) va_nil)) (ve_v 1) (nomark _)) (ve_one (ve_callB (cr_all rfl) v_all (by rfl) bl.all (by decide +kernel) (va_cons (ve_lcF finL_ok sc.nd (vi_seq (ve_v 0)) (blkOk_by (own := [("one", 3)]) (by kernel_rfl)) (fun _ _ _ _ _ => (pg_name (i := 3) sc.nd rfl (by first | exact Or.inl rfl | exact Or.inr rfl))) (fun _ _ _ _ _ => vts_nil) (fun _ _ _ _ _ => (ve_user c_is_between takes_W0 hr (by decide) (by rfl) (va_cons (ve_v 3) (va_cons ve_int (va_cons (ve_op op_sub v_sub (ve_v 2) ve_int) va_nil))) (len_cons (len_cons (len_cons len_nilF)))))) va_nil)))))))
theorem k_is_kind (T : Tx K mg) (c_is_between : Cl P w K mg base 2 "is_between" 3 m_is_between) : Cl P w K mg base 3 "is_kind" 1 m_is_kind := by
  obtain ⟨f, fd, F, gf⟩ := T.f_is_kind
  have bl := T.bl
  obtain ⟨_, hg_MOST_KIND⟩ := T.g_MOST_KIND
  refine clG F gf (F.bindsN (ps := ["thing"]) fun _ _ _ _ _ _ us hl => match us, hl with | [_], _ => rfl) (fnG F sc_is_kind fun cdv A outer st H E hr hp tk => ?_) rfl
  have sc := sc_is_kind
  exact (vss_one (vs_ret (ve_or (ve_cmp op_isN k_isN.v (ve_v 0) ve_non (nomark _)) (ve_one (ve_user c_is_between tk hr (by decide) (by rfl) (va_cons (ve_v 0) (va_cons ve_int (va_cons (ve_gint (by rfl) hg_MOST_KIND) va_nil))) (len_cons (len_cons (len_cons len_nilF))))))))
theorem k_is_system (T : Tx K mg) (c_is_between : Cl P w K mg base 2 "is_between" 3 m_is_between) (c_are_states : Cl P w K mg base 3 "are_states" 3 m_are_states) (c_is_kind : Cl P w K mg base 3 "is_kind" 1 m_is_kind) : Cl P w K mg base 4 "is_system" 1 m_is_system := by
  obtain ⟨f, fd, F, gf⟩ := T.f_is_system
  have bl := T.bl
  obtain ⟨_, hg_MOST_STATES⟩ := T.g_MOST_STATES
  obtain ⟨_, hg_MOST_OPERATIONS⟩ := T.g_MOST_OPERATIONS
  refine clG F gf (F.bindsN (ps := ["thing"]) fun _ _ _ _ _ _ us hl => match us, hl with | [_], _ => rfl) (fnG F sc_is_system fun cdv A outer st H E hr hp tk => ?_) rfl
  have sc := sc_is_system
  exact (vss_cons (vs_if (vw_or (vt_not (vt_val (ve_callB call_isi v_isi (by rfl) bl.isinstance (by decide +kernel) (va_cons (ve_v 0) (va_cons (ve_ty (by rfl) bl.tuple (by decide +kernel)) va_nil))))) (vw_or (vt_cmp (op_neA (hu64 hr)) k_ne.v (ve_callB c_len v_len (by rfl) bl.len (by decide +kernel) (va_cons (ve_v 0) va_nil)) ve_int (nomark _)) (vw_or1 (vt_not (vt_val (ve_user c_is_between tk hr (by decide) (by rfl) (va_cons (ve_ix (ve_v 0) ve_int) (va_cons ve_int (va_cons (ve_gint (by rfl) hg_MOST_STATES) va_nil))) (len_cons (len_cons (len_cons len_nilF))))))))).pt
    (vss_one (vs_ret ve_bl))
    vss_nil)
    (vss_cons (vs_asg (ve_v 0) (vg_t 4 (vgs_cons (vg_n 1 sc.nd) (vgs_cons (vg_n 2 sc.nd) (vgs_cons (vg_n 3 sc.nd) (vgs_cons (vg_n 4 sc.nd) vgs_nil))))))
    (vss_cons (vs_if (vw_or (vt_not (vt_val (ve_user c_is_between tk hr (by decide) (by rfl) (va_cons (ve_v 2) (va_cons ve_int (va_cons (ve_op op_sub v_sub (ve_v 1) ve_int) va_nil))) (len_cons (len_cons (len_cons len_nilF)))))) (vw_or (vt_not (vt_val (ve_callB call_isi v_isi (by rfl) bl.isinstance (by decide +kernel) (va_cons (ve_v 3) (va_cons (ve_ty (by rfl) bl.tuple (by decide +kernel)) va_nil))))) (vw_or1 (vt_not (vt_val (ve_callB call_isi v_isi (by rfl) bl.isinstance (by decide +kernel) (va_cons (ve_v 4) (va_cons (ve_ty (by rfl) bl.tuple (by decide +kernel)) va_nil)))))))).pt
    (vss_one (vs_ret ve_bl))
    vss_nil)
    (vss_cons (vs_if (vw_or (vt_not (vt_chain op_le op_le k_le k_le.v ve_int (ve_callB c_len v_len (by rfl) bl.len (by decide +kernel) (va_cons (ve_v 3) va_nil)) (ve_gint (by rfl) hg_MOST_OPERATIONS))) (vw_or1 (vt_cmp (op_neA (hu64 hr)) k_ne.v (ve_callB c_len v_len (by rfl) bl.len (by decide +kernel) (va_cons (ve_v 4) va_nil)) (ve_callB c_len v_len (by rfl) bl.len (by decide +kernel) (va_cons (ve_v 3) va_nil)) (nomark _)))).pt
    (vss_one (vs_ret ve_bl))
    vss_nil)
    (vss_one (vs_ret (ve_and (ve_callB (cr_all rfl) v_all (by rfl) bl.all (by decide +kernel) (va_cons (ve_lcF finL_ok sc.nd (vi_seq (ve_v 3)) (blkOk_by (own := [("one", 5)]) (by kernel_rfl)) (fun _ _ _ _ _ => (pg_name (i := 5) sc.nd rfl (by first | exact Or.inl rfl | exact Or.inr rfl))) (fun _ _ _ _ _ => vts_nil) (fun _ _ _ _ _ => (ve_user c_are_states takes_W0 hr (by decide) (by rfl) (va_cons (ve_v 5) (va_cons (ve_v 1) (va_cons (ve_v 1) va_nil))) (len_cons (len_cons (len_cons len_nilF)))))) va_nil)) (ve_one (ve_callB (cr_all rfl) v_all (by rfl) bl.all (by decide +kernel) (va_cons (ve_lcF finL_ok sc.nd (vi_seq (ve_v 4)) (blkOk_by (own := [("one", 5)]) (by kernel_rfl)) (fun _ _ _ _ _ => (pg_name (i := 5) sc.nd rfl (by first | exact Or.inl rfl | exact Or.inr rfl))) (fun _ _ _ _ _ => vts_nil) (fun _ _ _ _ _ => (ve_user c_is_kind takes_W0 hr (by decide) (by rfl) (va_cons (ve_v 5) va_nil) (len_cons len_nilF)))) va_nil))))))))))
theorem k_need_system (T : Tx K mg) (c_is_system : Cl P w K mg base 4 "is_system" 1 m_is_system) : Cl P w K mg base 5 "need_system" 1 m_need_system := by
  obtain ⟨f, fd, F, gf⟩ := T.f_need_system
  have bl := T.bl
  refine clG F gf (F.bindsN (ps := ["thing"]) fun _ _ _ _ _ _ us hl => match us, hl with | [_], _ => rfl) (fnG F sc_need_system fun cdv A outer st H E hr hp tk => ?_) rfl
  have sc := sc_need_system
  exact (vss_one (vs_if (vt_not (vt_val (ve_user c_is_system tk hr (by decide) (by rfl) (va_cons (ve_v 0) va_nil) (len_cons len_nilF))))
    (vss_one vs_never)
    vss_nil))
theorem k_paths_of (T : Tx K mg)  : Cl P w K mg base 1 "paths_of" 1 m_paths_of := by
  obtain ⟨f, fd, F, gf⟩ := T.f_paths_of
  have bl := T.bl
  refine clG F gf (F.bindsN (ps := ["system"]) fun _ _ _ _ _ _ us hl => match us, hl with | [_], _ => rfl) (fnG F sc_paths_of fun cdv A outer st H E hr hp tk => ?_) rfl
  have sc := sc_paths_of
  exact (vss_cons (vs_asg (ve_disp1 (ve_ix (ve_v 0) ve_int) (ve_tup va_nil)) (vg_n 1 sc.nd))
    (vss_cons (vs_asg (ve_lstO (va_cons (ve_ix (ve_v 0) ve_int) va_nil)) (vg_n 2 sc.nd))
    (vss_cons (vs_asg ve_int (vg_n 3 sc.nd))
    (vss_cons (vs_while 2000 hp (vt_cmp op_lt k_lt.v (ve_v 3) (ve_callB c_len v_len (by rfl) bl.len (by decide +kernel) (va_cons (ve_v 2) va_nil)) (nomark _))
    (vss_cons (vs_asg (ve_ix (ve_v 2) (ve_v 3)) (vg_n 4 sc.nd))
    (vss_cons (vs_augAdd 3 sc.nd ve_int)
    (vss_one (vs_for hp (vi_enum (by rfl) bl.enumerate (va_cons (ve_ix (ve_v 0) ve_int) va_nil)) (vg_t 2 (vgs_cons (vg_n 5 sc.nd) (vgs_cons (vg_n 6 sc.nd) vgs_nil)))
    (vss_one (vs_if (vt_cmp (op_notInU (hu65 hr)) v_notInU (ve_ix (ve_v 6) (ve_v 4)) (ve_v 1) (by rfl))
    (vss_cons (vs_asg (ve_op op_addA v_add (ve_ixU (hu64 hr) (ve_v 1) (ve_v 4)) (ve_tup (va_cons (ve_v 5) va_nil))) (vg_ixU (hu64 hr) (ve_v 1) (ve_ix (ve_v 6) (ve_v 4))))
    (vss_one (vs_expr (ve_append (ve_v 2) (ve_ix (ve_v 6) (ve_v 4))))))
    vss_nil)))))))
    (vss_one (vs_ret (ve_v 1)))))))
theorem k_reached (T : Tx K mg) (c_paths_of : Cl P w K mg base 1 "paths_of" 1 m_paths_of) : Cl P w K mg base 2 "reached" 1 l_reached := by
  obtain ⟨f, fd, F, gf⟩ := T.f_reached
  have bl := T.bl
  refine clG F gf (F.bindsN (ps := ["system"]) fun _ _ _ _ _ _ us hl => match us, hl with | [_], _ => rfl) (fnG F sc_reached fun cdv A outer st H E hr hp tk => ?_) rfl
  have sc := sc_reached
  exact (vss_one (vs_ret (ve_callTy cr_tupF v_tupF (by rfl) bl.tuple (by decide +kernel) (va_cons (ve_callB (cr_sortedU rfl) v_sortedU (by rfl) bl.sorted (by decide +kernel) (va_cons (ve_user c_paths_of tk hr (by decide) (by rfl) (va_cons (ve_v 0) va_nil) (len_cons len_nilF)) va_nil)) va_nil))))
theorem k_are_moves (T : Tx K mg) (c_is_whole : Cl P w K mg base 1 "is_whole" 1 m_is_whole) : Cl P w K mg base 2 "are_moves" 2 m_are_moves := by
  obtain ⟨f, fd, F, gf⟩ := T.f_are_moves
  have bl := T.bl
  refine clG F gf (F.bindsN (ps := ["states", "thing"]) fun _ _ _ _ _ _ us hl => match us, hl with | [_, _], _ => rfl) (fnG F sc_are_moves fun cdv A outer st H E hr hp tk => ?_) rfl
  have sc := sc_are_moves
  exact (vss_cons (vs_if (vw_or (vt_not (vt_val (ve_callB call_isi v_isi (by rfl) bl.isinstance (by decide +kernel) (va_cons (ve_v 1) (va_cons (ve_ty (by rfl) bl.tuple (by decide +kernel)) va_nil))))) (vw_or1 (vt_cmp (op_neA (hu64 hr)) k_ne.v (ve_callB c_len v_len (by rfl) bl.len (by decide +kernel) (va_cons (ve_v 1) va_nil)) (ve_callB c_len v_len (by rfl) bl.len (by decide +kernel) (va_cons (ve_v 0) va_nil)) (nomark _)))).pt
    (vss_one (vs_ret ve_bl))
    vss_nil)
    (vss_one (vs_ret (ve_callB (cr_all rfl) v_all (by rfl) bl.all (by decide +kernel) (va_cons (ve_lcF finL_ok sc.nd (vi_seq (ve_v 1)) (blkOk_by (own := [("one", 2)]) (by kernel_rfl)) (fun _ _ _ _ _ => (pg_name (i := 2) sc.nd rfl (by first | exact Or.inl rfl | exact Or.inr rfl))) (fun _ _ _ _ _ => vts_nil) (fun _ _ _ _ _ => (ve_and (ve_user c_is_whole takes_W0 hr (by decide) (by rfl) (va_cons (ve_v 2) va_nil) (len_cons len_nilF)) (ve_one (ve_cmp (op_inA (hu65 hr)) v_in (ve_v 2) (ve_v 0) (by rfl)))))) va_nil)))))
theorem k_Effect_init (T : Tx K mg) (c_need_system : Cl P w K mg base 5 "need_system" 1 m_need_system) (c_reached : Cl P w K mg base 2 "reached" 1 l_reached) (c_are_moves : Cl P w K mg base 2 "are_moves" 2 m_are_moves) : ClN P w K mg base 6 "Effect" 2 l_Effect_init := by
  obtain ⟨fd, F⟩ := T.f_Effect_init
  have bl := T.bl
  have fo_goals := fldOk1 T.g_Effect T.cl_Effect T.na_Effect_goals
  have fo_home := fldOk1 T.g_Effect T.cl_Effect T.na_Effect_home
  have fo_states := fldOk1 T.g_Effect T.cl_Effect T.na_Effect_states
  refine clN_of T.g_Effect T.m_Effect_init (fnG F sc_Effect_init fun cdv A outer st H E hr hp tk => ?_) (F.bindsN (ps := ["self", "system", "moves"]) fun _ _ _ _ _ _ us hl => match us, hl with | [_, _, _], _ => rfl)
  have sc := sc_Effect_init
  exact (vss_cons (vs_expr (ve_user c_need_system tk hr (by decide) (by rfl) (va_cons (ve_v 1) va_nil) (len_cons len_nilF)))
    (vss_cons (vs_asg (ve_user c_reached tk hr (by decide) (by rfl) (va_cons (ve_v 1) va_nil) (len_cons len_nilF)) (vg_n 3 sc.nd))
    (vss_cons (vs_if (vt_not (vt_val (ve_user c_are_moves tk hr (by decide) (by rfl) (va_cons (ve_v 3) (va_cons (ve_v 2) va_nil)) (len_cons (len_cons len_nilF)))))
    (vss_one vs_never)
    vss_nil)
    (vss_cons (vs_fld fo_home (ve_v 0) (ve_v 1))
    (vss_cons (vs_fld fo_states (ve_v 0) (ve_v 3))
    (vss_one (vs_fld fo_goals (ve_v 0) (ve_v 2))))))))
theorem k_is_log (T : Tx K mg) (c_is_between : Cl P w K mg base 2 "is_between" 3 m_is_between) : Cl P w K mg base 3 "is_log" 2 m_is_log := by
  obtain ⟨f, fd, F, gf⟩ := T.f_is_log
  have bl := T.bl
  refine clG F gf (F.bindsN (ps := ["system", "thing"]) fun _ _ _ _ _ _ us hl => match us, hl with | [_, _], _ => rfl) (fnG F sc_is_log fun cdv A outer st H E hr hp tk => ?_) rfl
  have sc := sc_is_log
  exact (vss_one (vs_ret (ve_and (ve_callB call_isi v_isi (by rfl) bl.isinstance (by decide +kernel) (va_cons (ve_v 1) (va_cons (ve_ty (by rfl) bl.tuple (by decide +kernel)) va_nil))) (ve_one (ve_callB (cr_all rfl) v_all (by rfl) bl.all (by decide +kernel) (va_cons (ve_lcF finL_ok sc.nd (vi_seq (ve_v 1)) (blkOk_by (own := [("one", 2)]) (by kernel_rfl)) (fun _ _ _ _ _ => (pg_name (i := 2) sc.nd rfl (by first | exact Or.inl rfl | exact Or.inr rfl))) (fun _ _ _ _ _ => vts_nil) (fun _ _ _ _ _ => (ve_user c_is_between takes_W0 hr (by decide) (by rfl) (va_cons (ve_v 2) (va_cons ve_int (va_cons (ve_op op_sub v_sub (ve_callB c_len v_len (by rfl) bl.len (by decide +kernel) (va_cons (ve_ix (ve_v 0) ve_int) va_nil)) ve_int) va_nil))) (len_cons (len_cons (len_cons len_nilF)))))) va_nil))))))
theorem k_need_log (T : Tx K mg) (c_is_log : Cl P w K mg base 3 "is_log" 2 m_is_log) : Cl P w K mg base 4 "need_log" 2 m_need_log := by
  obtain ⟨f, fd, F, gf⟩ := T.f_need_log
  have bl := T.bl
  refine clG F gf (F.bindsN (ps := ["system", "thing"]) fun _ _ _ _ _ _ us hl => match us, hl with | [_, _], _ => rfl) (fnG F sc_need_log fun cdv A outer st H E hr hp tk => ?_) rfl
  have sc := sc_need_log
  exact (vss_one (vs_if (vt_not (vt_val (ve_user c_is_log tk hr (by decide) (by rfl) (va_cons (ve_v 0) (va_cons (ve_v 1) va_nil)) (len_cons (len_cons len_nilF)))))
    (vss_one vs_never)
    vss_nil))
theorem k_run_from (T : Tx K mg)  : Cl P w K mg base 1 "run_from" 3 m_run_from := by
  obtain ⟨f, fd, F, gf⟩ := T.f_run_from
  have bl := T.bl
  refine clG F gf (F.bindsN (ps := ["system", "state", "log"]) fun _ _ _ _ _ _ us hl => match us, hl with | [_, _, _], _ => rfl) (fnG F sc_run_from fun cdv A outer st H E hr hp tk => ?_) rfl
  have sc := sc_run_from
  exact (vss_cons (vs_for hp (vi_seq (ve_v 2)) (vg_n 3 sc.nd)
    (vss_one (vs_asg (ve_ix (ve_ix (ve_ix (ve_v 0) ve_int) (ve_v 3)) (ve_v 1)) (vg_n 1 sc.nd))))
    (vss_one (vs_ret (ve_v 1))))
theorem k_Effect_behind (T : Tx K mg)  : ClM P w K mg base 1 "Effect" "behind" 1 m_Effect_behind := by
  obtain ⟨fd, F⟩ := T.f_Effect_behind
  have bl := T.bl
  have fo_goals := fldOk1 T.g_Effect T.cl_Effect T.na_Effect_goals
  have fo_states := fldOk1 T.g_Effect T.cl_Effect T.na_Effect_states
  refine clM_of T.g_Effect T.cl_Effect T.m_Effect_behind (fnG F sc_Effect_behind fun cdv A outer st H E hr hp tk => ?_) (F.bindsN (ps := ["self", "goals"]) fun _ _ _ _ _ _ us hl => match us, hl with | [_, _], _ => rfl)
  have sc := sc_Effect_behind
  exact (vss_one (vs_ret (ve_callTy call_tuple_of v_tuple (by rfl) bl.tuple (by decide +kernel) (va_cons (ve_lcF finL_ok sc.nd (vi_seq (ve_v 1)) (blkOk_by (own := [("goal", 2)]) (by kernel_rfl)) (fun _ _ _ _ _ => (pg_name (i := 2) sc.nd rfl (by first | exact Or.inl rfl | exact Or.inr rfl))) (fun _ _ _ _ _ => vts_nil) (fun _ _ _ _ _ => (ve_ix (ve_fld fo_goals (ve_v 0)) (ve_indexF (ve_fld fo_states (ve_v 0)) (ve_v 2))))) va_nil))))
theorem k_Effect_add (T : Tx K mg) (c_Effect_init : ClN P w K mg base 6 "Effect" 2 l_Effect_init) (c_Effect_behind : ClM P w K mg base 1 "Effect" "behind" 1 m_Effect_behind) : ClM P w K mg base 8 "Effect" "__add__" 1 m_Effect_add := by
  obtain ⟨fd, F⟩ := T.f_Effect_add
  have bl := T.bl
  have fo_goals := fldOk1 T.g_Effect T.cl_Effect T.na_Effect_goals
  have fo_home := fldOk1 T.g_Effect T.cl_Effect T.na_Effect_home
  refine clM_of T.g_Effect T.cl_Effect T.m_Effect_add (fnG F sc_Effect_add fun cdv A outer st H E hr hp tk => ?_) (F.bindsN (ps := ["self", "other"]) fun _ _ _ _ _ _ us hl => match us, hl with | [_, _], _ => rfl)
  have sc := sc_Effect_add
  exact (vss_cons (vs_if (vt_not (vt_val (ve_callB (C8.call_isC T.is_Effect) (v_isiC T.g_Effect) (by rfl) bl.isinstance (by decide +kernel) (va_cons (ve_v 1) (va_cons (ve_glo (by rfl) T.g_Effect) va_nil)))))
    (vss_one vs_never)
    vss_nil)
    (vss_cons (vs_if (vt_cmp (op_neA (hu64 hr)) k_ne.v (ve_fld fo_home (ve_v 0)) (ve_fld (fldOk1 T.g_Effect T.cl_Effect T.na_Effect_home) (ve_v 1)) (nomark _))
    (vss_one vs_never)
    vss_nil)
    (vss_one (vs_ret (ve_new c_Effect_init tk hr (by decide) (by rfl) (va_cons (ve_fld fo_home (ve_v 0)) (va_cons (ve_meth (tq_cons c_Effect_behind tq_nil) tk hr (by decide) (ve_v 1) (va_cons (ve_fld fo_goals (ve_v 0)) va_nil) (len_cons len_nilF)) va_nil)) (len_cons (len_cons len_nilF)))))))
theorem k_Effect_joined (T : Tx K mg) (c_Effect_add : ClM P w K mg base 8 "Effect" "__add__" 1 m_Effect_add) : ClS P w K mg base 10 "Effect" "joined" 1 m_Effect_joined := by
  obtain ⟨fd, F⟩ := T.f_Effect_joined
  have bl := T.bl
  refine clS_of T.g_Effect T.cr_Effect_joined T.m_Effect_joined (fnG F sc_Effect_joined fun cdv A outer st H E hr hp tk => ?_) (F.bindsN (ps := ["effects"]) fun _ _ _ _ _ _ us hl => match us, hl with | [_], _ => rfl)
  have sc := sc_Effect_joined
  exact (vss_cons (vs_if (vw_or (vt_not (vt_val (ve_callB call_isi v_isi (by rfl) bl.isinstance (by decide +kernel) (va_cons (ve_v 0) (va_cons (ve_ty (by rfl) bl.tuple (by decide +kernel)) va_nil))))) (vw_or1 (vt_cmp (op_eqE (hu64 hr)) v_eqE (ve_v 0) (ve_tup va_nil) (nomark _)))).pt
    (vss_one vs_never)
    vss_nil)
    (vss_cons (vs_if (vt_not (vt_val (ve_callB (cr_all rfl) v_all (by rfl) bl.all (by decide +kernel) (va_cons (ve_lcF finL_ok sc.nd (vi_seq (ve_v 0)) (blkOk_by (own := [("one", 1)]) (by kernel_rfl)) (fun _ _ _ _ _ => (pg_name (i := 1) sc.nd rfl (by first | exact Or.inl rfl | exact Or.inr rfl))) (fun _ _ _ _ _ => vts_nil) (fun _ _ _ _ _ => (ve_callB (C8.call_isC T.is_Effect) (v_isiC T.g_Effect) (by rfl) bl.isinstance (by decide +kernel) (va_cons (ve_v 1) (va_cons (ve_glo (by rfl) T.g_Effect) va_nil))))) va_nil))))
    (vss_one vs_never)
    vss_nil)
    (vss_cons (vs_asg (ve_v 0) (vg_star (vgs_cons (vg_n 2 sc.nd) (vgs_cons (vg_n 3 sc.nd) vgs_nil))))
    (vss_cons (vs_if (vt_not (vt_val (ve_callB (cr_all rfl) v_all (by rfl) bl.all (by decide +kernel) (va_cons (ve_lcF finL_ok sc.nd (vi_seq (ve_v 3)) (blkOk_by (own := [("one", 1)]) (by kernel_rfl)) (fun _ _ _ _ _ => (pg_name (i := 1) sc.nd rfl (by first | exact Or.inl rfl | exact Or.inr rfl))) (fun _ _ _ _ _ => vts_nil) (fun _ _ _ _ _ => (ve_cmp (op_eqA (hu64 hr)) k_eq.v (ve_fld (fldOk1 T.g_Effect T.cl_Effect T.na_Effect_home) (ve_v 1)) (ve_fld (fldOk1 T.g_Effect T.cl_Effect T.na_Effect_home) (ve_v 2)) (nomark _)))) va_nil))))
    (vss_one vs_never)
    vss_nil)
    (vss_cons (vs_asg (ve_v 2) (vg_n 4 sc.nd))
    (vss_cons (vs_for hp (vi_seq (ve_v 3)) (vg_n 1 sc.nd)
    (vss_one (vs_asg (ve_op (op_addI hr (by decide)) (v_addI (tq_cons c_Effect_add tq_nil) (tp_cons T.g_Effect T.sf_Effect tp_nil)) (ve_v 4) (ve_v 1)) (vg_n 4 sc.nd))))
    (vss_one (vs_ret (ve_v 4)))))))))
theorem k_Effect_system (T : Tx K mg)  : ClP P w K mg base 1 "Effect" "system" m_Effect_system := by
  obtain ⟨fd, F⟩ := T.f_Effect_system
  have bl := T.bl
  have fo_home := fldOk1 T.g_Effect T.cl_Effect T.na_Effect_home
  refine clP_of T.g_Effect T.cl_Effect T.m_Effect_system (fnG F sc_Effect_system fun cdv A outer st H E hr hp tk => ?_) (F.bindsN (ps := ["self"]) fun _ _ _ _ _ _ us hl => match us, hl with | [_], _ => rfl)
  have sc := sc_Effect_system
  exact (vss_one (vs_ret (ve_fld fo_home (ve_v 0))))
theorem k_Effect_moves (T : Tx K mg)  : ClP P w K mg base 1 "Effect" "moves" m_Effect_moves := by
  obtain ⟨fd, F⟩ := T.f_Effect_moves
  have bl := T.bl
  have fo_goals := fldOk1 T.g_Effect T.cl_Effect T.na_Effect_goals
  refine clP_of T.g_Effect T.cl_Effect T.m_Effect_moves (fnG F sc_Effect_moves fun cdv A outer st H E hr hp tk => ?_) (F.bindsN (ps := ["self"]) fun _ _ _ _ _ _ us hl => match us, hl with | [_], _ => rfl)
  have sc := sc_Effect_moves
  exact (vss_one (vs_ret (ve_fld fo_goals (ve_v 0))))
theorem k_Effect_fixed (T : Tx K mg)  : ClP P w K mg base 1 "Effect" "fixed" m_Effect_fixed := by
  obtain ⟨fd, F⟩ := T.f_Effect_fixed
  have bl := T.bl
  have fo_goals := fldOk1 T.g_Effect T.cl_Effect T.na_Effect_goals
  have fo_states := fldOk1 T.g_Effect T.cl_Effect T.na_Effect_states
  refine clP_of T.g_Effect T.cl_Effect T.m_Effect_fixed (fnG F sc_Effect_fixed fun cdv A outer st H E hr hp tk => ?_) (F.bindsN (ps := ["self"]) fun _ _ _ _ _ _ us hl => match us, hl with | [_], _ => rfl)
  have sc := sc_Effect_fixed
  exact (vss_one (vs_ret (ve_callTy call_tuple_of v_tuple (by rfl) bl.tuple (by decide +kernel) (va_cons (ve_lcF finL_ok sc.nd (vi_zip (by rfl) bl.zip (va_cons (ve_fld fo_states (ve_v 0)) (va_cons (ve_fld fo_goals (ve_v 0)) va_nil))) (blkOk_by (own := [("state", 1), ("goal", 2)]) (by kernel_rfl)) (fun _ _ _ _ _ => (pg_tup rfl (pgs_cons (pg_name (i := 1) sc.nd rfl (by first | exact Or.inl rfl | exact Or.inr rfl)) (pgs_cons (pg_name (i := 2) sc.nd rfl (by first | exact Or.inl rfl | exact Or.inr rfl)) pgs_nil)))) (fun _ _ _ _ _ => (vts_one (vt_cmp (op_eqA (hu64 hr)) k_eq.v (ve_v 1) (ve_v 2) (nomark _)))) (fun _ _ _ _ _ => (ve_v 1))) va_nil))))
theorem k_Effect_call (T : Tx K mg) (c_is_whole : Cl P w K mg base 1 "is_whole" 1 m_is_whole) : ClI P w K mg base 2 "Effect" 1 m_Effect_call := by
  obtain ⟨fd, F⟩ := T.f_Effect_call
  have bl := T.bl
  have fo_goals := fldOk1 T.g_Effect T.cl_Effect T.na_Effect_goals
  have fo_states := fldOk1 T.g_Effect T.cl_Effect T.na_Effect_states
  refine clI_of T.g_Effect T.m_Effect_call F (fnG F sc_Effect_call fun cdv A outer st H E hr hp tk => ?_) (F.bindsN (ps := ["self", "state"]) fun _ _ _ _ _ _ us hl => match us, hl with | [_, _], _ => rfl)
  have sc := sc_Effect_call
  exact (vss_cons (vs_if (vw_or (vt_not (vt_val (ve_user c_is_whole tk hr (by decide) (by rfl) (va_cons (ve_v 1) va_nil) (len_cons len_nilF)))) (vw_or1 (vt_cmp (op_notInA (hu65 hr)) v_notIn (ve_v 1) (ve_fld fo_states (ve_v 0)) (by rfl)))).pt
    (vss_one vs_never)
    vss_nil)
    (vss_one (vs_ret (ve_ix (ve_fld fo_goals (ve_v 0)) (ve_indexF (ve_fld fo_states (ve_v 0)) (ve_v 1))))))
theorem k_Effect_mul (T : Tx K mg) (c_is_between : Cl P w K mg base 2 "is_between" 3 m_is_between) (c_Effect_init : ClN P w K mg base 6 "Effect" 2 l_Effect_init) (c_Effect_add : ClM P w K mg base 8 "Effect" "__add__" 1 m_Effect_add) : ClM P w K mg base 10 "Effect" "__mul__" 1 m_Effect_mul := by
  obtain ⟨fd, F⟩ := T.f_Effect_mul
  have bl := T.bl
  obtain ⟨_, hg_MOST_TIMES⟩ := T.g_MOST_TIMES
  have fo_home := fldOk1 T.g_Effect T.cl_Effect T.na_Effect_home
  have fo_states := fldOk1 T.g_Effect T.cl_Effect T.na_Effect_states
  refine clM_of T.g_Effect T.cl_Effect T.m_Effect_mul (fnG F sc_Effect_mul fun cdv A outer st H E hr hp tk => ?_) (F.bindsN (ps := ["self", "many"]) fun _ _ _ _ _ _ us hl => match us, hl with | [_, _], _ => rfl)
  have sc := sc_Effect_mul
  exact (vss_cons (vs_if (vt_not (vt_val (ve_user c_is_between tk hr (by decide) (by rfl) (va_cons (ve_v 1) (va_cons ve_int (va_cons (ve_gint (by rfl) hg_MOST_TIMES) va_nil))) (len_cons (len_cons (len_cons len_nilF))))))
    (vss_one vs_never)
    vss_nil)
    (vss_cons (vs_par3 sc.nd (va_cons (ve_new c_Effect_init tk hr (by decide) (by rfl) (va_cons (ve_fld fo_home (ve_v 0)) (va_cons (ve_fld fo_states (ve_v 0)) va_nil)) (len_cons (len_cons len_nilF))) (va_cons (ve_v 0) (va_cons (ve_v 1) va_nil))))
    (vss_cons (vs_while 2000 hp (vt_cmp op_gt k_gt.v (ve_v 4) ve_int (nomark _))
    (vss_cons (vs_if (vt_cmp (op_eqA (hu64 hr)) k_eq.v (ve_op op_mod v_mod (ve_v 4) ve_int) ve_int (nomark _))
    (vss_one (vs_asg (ve_op (op_addI hr (by decide)) (v_addI (tq_cons c_Effect_add tq_nil) (tp_cons T.g_Effect T.sf_Effect tp_nil)) (ve_v 2) (ve_v 3)) (vg_n 2 sc.nd)))
    vss_nil)
    (vss_cons (vs_asg (ve_op (op_addI hr (by decide)) (v_addI (tq_cons c_Effect_add tq_nil) (tp_cons T.g_Effect T.sf_Effect tp_nil)) (ve_v 3) (ve_v 3)) (vg_n 3 sc.nd))
    (vss_one (vs_asg (ve_op op_fdiv v_div (ve_v 4) ve_int) (vg_n 4 sc.nd))))))
    (vss_one (vs_ret (ve_v 2))))))
theorem k_Effect_eq (T : Tx K mg)  : ClM P w K mg base 1 "Effect" "__eq__" 1 m_Effect_eq := by
  obtain ⟨fd, F⟩ := T.f_Effect_eq
  have bl := T.bl
  have fo_goals := fldOk1 T.g_Effect T.cl_Effect T.na_Effect_goals
  have fo_home := fldOk1 T.g_Effect T.cl_Effect T.na_Effect_home
  refine clM_of T.g_Effect T.cl_Effect T.m_Effect_eq (fnG F sc_Effect_eq fun cdv A outer st H E hr hp tk => ?_) (F.bindsN (ps := ["self", "other"]) fun _ _ _ _ _ _ us hl => match us, hl with | [_, _], _ => rfl)
  have sc := sc_Effect_eq
  exact (vss_one (vs_ret (ve_and (ve_callB (C8.call_isC T.is_Effect) (v_isiC T.g_Effect) (by rfl) bl.isinstance (by decide +kernel) (va_cons (ve_v 1) (va_cons (ve_glo (by rfl) T.g_Effect) va_nil))) (ve_and (ve_cmp (op_eqA (hu64 hr)) k_eq.v (ve_fld fo_home (ve_v 0)) (ve_fld (fldOk1 T.g_Effect T.cl_Effect T.na_Effect_home) (ve_v 1)) (nomark _)) (ve_one (ve_cmp (op_eqA (hu64 hr)) k_eq.v (ve_fld fo_goals (ve_v 0)) (ve_fld (fldOk1 T.g_Effect T.cl_Effect T.na_Effect_goals) (ve_v 1)) (nomark _)))))))
theorem k_Effect_repr (T : Tx K mg) (c_Effect_fixed : ClP P w K mg base 1 "Effect" "fixed" m_Effect_fixed) : ClM P w K mg base 3 "Effect" "__repr__" 0 m_Effect_repr := by
  obtain ⟨fd, F⟩ := T.f_Effect_repr
  have bl := T.bl
  have fo_states := fldOk1 T.g_Effect T.cl_Effect T.na_Effect_states
  refine clM_of T.g_Effect T.cl_Effect T.m_Effect_repr (fnG F sc_Effect_repr fun cdv A outer st H E hr hp tk => ?_) (F.bindsN (ps := ["self"]) fun _ _ _ _ _ _ us hl => match us, hl with | [_], _ => rfl)
  have sc := sc_Effect_repr
  exact (vss_one (vs_ret (ve_joined (vj_cons ve_str (vj_cons (ve_fmt (ve_callB c_len v_len (by rfl) bl.len (by decide +kernel) (va_cons (ve_fld fo_states (ve_v 0)) va_nil))) (vj_cons ve_str (vj_cons (ve_fmt (ve_callB c_len v_len (by rfl) bl.len (by decide +kernel) (va_cons (ve_prop (tq_cons c_Effect_fixed tq_nil) hr (by decide) (ve_v 0)) va_nil))) (vj_cons ve_str vj_nil))))))))
theorem k__law_run (T : Tx K mg)  : Cl P w K mg base 1 "_law_run" 3 m__law_run := by
  obtain ⟨f, fd, F, gf⟩ := T.f__law_run
  have bl := T.bl
  refine clG F gf (F.bindsN (ps := ["_law_system_here", "_law_state", "_law_log_here"]) fun _ _ _ _ _ _ us hl => match us, hl with | [_, _, _], _ => rfl) (fnG F sc__law_run fun cdv A outer st H E hr hp tk => ?_) rfl
  have sc := sc__law_run
  exact (vss_cons (vs_for hp (vi_seq (ve_v 2)) (vg_n 3 sc.nd)
    (vss_one (vs_asg (ve_ix (ve_ix (ve_ix (ve_v 0) ve_int) (ve_v 3)) (ve_v 1)) (vg_n 1 sc.nd))))
    (vss_one (vs_ret (ve_v 1))))
theorem k__law_paths (T : Tx K mg)  : Cl P w K mg base 1 "_law_paths" 1 m__law_paths := by
  obtain ⟨f, fd, F, gf⟩ := T.f__law_paths
  have bl := T.bl
  refine clG F gf (F.bindsN (ps := ["_law_system_here"]) fun _ _ _ _ _ _ us hl => match us, hl with | [_], _ => rfl) (fnG F sc__law_paths fun cdv A outer st H E hr hp tk => ?_) rfl
  have sc := sc__law_paths
  exact (vss_cons (vs_par sc.nd (va_cons (ve_lstO (va_cons (ve_tup (va_cons (ve_ix (ve_v 0) ve_int) (va_cons (ve_tup va_nil) va_nil))) va_nil)) (va_cons ve_int va_nil)))
    (vss_cons (vs_asg (ve_lstO (va_cons (ve_ix (ve_v 0) ve_int) va_nil)) (vg_n 3 sc.nd))
    (vss_cons (vs_while 2000 hp (vt_cmp op_lt k_lt.v (ve_v 2) (ve_callB c_len v_len (by rfl) bl.len (by decide +kernel) (va_cons (ve_v 1) va_nil)) (nomark _))
    (vss_cons (vs_for hp (vi_enum (by rfl) bl.enumerate (va_cons (ve_ix (ve_v 0) ve_int) va_nil)) (vg_t 2 (vgs_cons (vg_n 4 sc.nd) (vgs_cons (vg_n 5 sc.nd) vgs_nil)))
    (vss_cons (vs_asg (ve_ix (ve_v 5) (ve_ix (ve_ix (ve_v 1) (ve_v 2)) ve_int)) (vg_n 6 sc.nd))
    (vss_one (vs_if (vt_cmp (op_notInA (hu65 hr)) v_notIn (ve_v 6) (ve_v 3) (by rfl))
    (vss_cons (vs_expr (ve_append (ve_v 3) (ve_v 6)))
    (vss_one (vs_expr (ve_append (ve_v 1) (ve_tup (va_cons (ve_v 6) (va_cons (ve_op op_addA v_add (ve_ix (ve_ix (ve_v 1) (ve_v 2)) ve_int) (ve_tup (va_cons (ve_v 4) va_nil))) va_nil)))))))
    vss_nil))))
    (vss_one (vs_asg (ve_op op_addA v_add (ve_v 2) ve_int) (vg_n 2 sc.nd)))))
    (vss_one (vs_ret (ve_v 1))))))
theorem k__law_reached (T : Tx K mg) (c__law_paths : Cl P w K mg base 1 "_law_paths" 1 m__law_paths) : Cl P w K mg base 2 "_law_reached" 1 m__law_reached := by
  obtain ⟨f, fd, F, gf⟩ := T.f__law_reached
  have bl := T.bl
  refine clG F gf (F.bindsN (ps := ["_law_system_here"]) fun _ _ _ _ _ _ us hl => match us, hl with | [_], _ => rfl) (fnG F sc__law_reached fun cdv A outer st H E hr hp tk => ?_) rfl
  have sc := sc__law_reached
  exact (vss_one (vs_ret (ve_callB cr_sortedI v_sorted (by rfl) bl.sorted (by decide +kernel) (va_cons (ve_lcF finL_ok sc.nd (vi_seq (ve_user c__law_paths tk hr (by decide) (by rfl) (va_cons (ve_v 0) va_nil) (len_cons len_nilF))) (blkOk_by (own := [("_law_state", 1), ("_law_log_here", 2)]) (by kernel_rfl)) (fun _ _ _ _ _ => (pg_tup rfl (pgs_cons (pg_name (i := 1) sc.nd rfl (by first | exact Or.inl rfl | exact Or.inr rfl)) (pgs_cons (pg_name (i := 2) sc.nd rfl (by first | exact Or.inl rfl | exact Or.inr rfl)) pgs_nil)))) (fun _ _ _ _ _ => vts_nil) (fun _ _ _ _ _ => (ve_v 1))) va_nil))))
theorem k__law_draw (T : Tx K mg)  : Cl P w K mg base 1 "_law_draw" 2 m__law_draw := by
  obtain ⟨f, fd, F, gf⟩ := T.f__law_draw
  have bl := T.bl
  refine clG F gf (F.bindsN (ps := ["_law_pen_here", "_law_many"]) fun _ _ _ _ _ _ us hl => match us, hl with | [_, _], _ => rfl) (fnG F sc__law_draw fun cdv A outer st H E hr hp tk => ?_) rfl
  have sc := sc__law_draw
  exact (vss_cons (vs_if (vt_cmp op_gt k_gt.v (ve_ix (ve_v 0) ve_int) ve_int (nomark _))
    (vss_cons (vs_asg (ve_op op_mod v_mod (ve_ix (ve_v 0) ve_int) (ve_v 1)) (vg_n 2 sc.nd))
    (vss_cons (vs_asg (ve_op op_fdiv v_div (ve_ix (ve_v 0) ve_int) (ve_v 1)) (vg_ix (ve_v 0) ve_int))
    (vss_one (vs_ret (ve_v 2)))))
    vss_nil)
    (vss_cons (vs_asg (ve_op op_addA v_add (ve_ix (ve_v 0) ve_int) ve_int) (vg_ix (ve_v 0) ve_int))
    (vss_cons (vs_asg (ve_op op_mod v_mod (ve_op op_mulA v_mul (ve_op op_addA v_add (ve_ix (ve_v 0) ve_int) (ve_op op_mulA v_mul ve_int (ve_ix (ve_v 0) ve_int))) (ve_op op_addA v_add ve_int (ve_op op_mulA v_mul ve_int (ve_ix (ve_v 0) ve_int)))) ve_int) (vg_n 3 sc.nd))
    (vss_cons (vs_asg (ve_op op_mod v_mod (ve_op op_addA v_add (ve_op op_addA v_add (ve_op op_mulA v_mul (ve_v 3) (ve_v 3)) (ve_op op_mulA v_mul ve_int (ve_ix (ve_v 0) ve_int))) ve_int) ve_int) (vg_n 3 sc.nd))
    (vss_one (vs_ret (ve_op op_mod v_mod (ve_op op_fdiv v_div (ve_op op_mod v_mod (ve_op op_mulA v_mul (ve_v 3) ve_int) ve_int) ve_int) (ve_v 1))))))))
theorem k__law_pick (T : Tx K mg) (c__law_draw : Cl P w K mg base 1 "_law_draw" 2 m__law_draw) : Cl P w K mg base 2 "_law_pick" 2 m__law_pick := by
  obtain ⟨f, fd, F, gf⟩ := T.f__law_pick
  have bl := T.bl
  refine clG F gf (F.bindsN (ps := ["_law_pen_here", "_law_things"]) fun _ _ _ _ _ _ us hl => match us, hl with | [_, _], _ => rfl) (fnG F sc__law_pick fun cdv A outer st H E hr hp tk => ?_) rfl
  have sc := sc__law_pick
  exact (vss_one (vs_ret (ve_ix (ve_v 1) (ve_user c__law_draw tk hr (by decide) (by rfl) (va_cons (ve_v 0) (va_cons (ve_callB c_len v_len (by rfl) bl.len (by decide +kernel) (va_cons (ve_v 1) va_nil)) va_nil)) (len_cons (len_cons len_nilF))))))
theorem k__law_pen (T : Tx K mg)  : Cl P w K mg base 1 "_law_pen" 1 m__law_pen := by
  obtain ⟨f, fd, F, gf⟩ := T.f__law_pen
  have bl := T.bl
  refine clG F gf (F.bindsN (ps := ["_law_cell"]) fun _ _ _ _ _ _ us hl => match us, hl with | [_], _ => rfl) (fnG F sc__law_pen fun cdv A outer st H E hr hp tk => ?_) rfl
  have sc := sc__law_pen
  exact (vss_one (vs_ret (ve_lstO (va_cons (ve_callB (call_max2 rfl) v_max2 (by rfl) bl.max (by decide +kernel) (va_cons ve_int (va_cons (ve_op op_sub v_sub (ve_v 0) (ve_op op_pow v_pow ve_int ve_int)) va_nil))) (va_cons (ve_op op_mod v_mod (ve_v 0) ve_int) (va_cons ve_int va_nil))))))
theorem k__law_cell_at (T : Tx K mg)  : Cl P w K mg base 1 "_law_cell_at" 2 m__law_cell_at := by
  obtain ⟨f, fd, F, gf⟩ := T.f__law_cell_at
  have bl := T.bl
  refine clG F gf (F.bindsN (ps := ["_law_script", "_law_k"]) fun _ _ _ _ _ _ us hl => match us, hl with | [_, _], _ => rfl) (fnG F sc__law_cell_at fun cdv A outer st H E hr hp tk => ?_) rfl
  have sc := sc__law_cell_at
  exact (vss_cons (vs_if (vt_cmp op_lt k_lt.v (ve_v 1) (ve_callB c_len v_len (by rfl) bl.len (by decide +kernel) (va_cons (ve_v 0) va_nil)) (nomark _))
    (vss_one (vs_ret (ve_ix (ve_v 0) (ve_v 1))))
    vss_nil)
    (vss_one (vs_ret ve_int)))
theorem k__law_drawn (T : Tx K mg) (c__law_draw : Cl P w K mg base 1 "_law_draw" 2 m__law_draw) (c__law_pick : Cl P w K mg base 2 "_law_pick" 2 m__law_pick) : Cl P w K mg base 3 "_law_drawn" 1 m__law_drawn := by
  obtain ⟨f, fd, F, gf⟩ := T.f__law_drawn
  have bl := T.bl
  refine clG F gf (F.bindsN (ps := ["_law_pen_here"]) fun _ _ _ _ _ _ us hl => match us, hl with | [_], _ => rfl) (fnG F sc__law_drawn fun cdv A outer st H E hr hp tk => ?_) rfl
  have sc := sc__law_drawn
  exact (vss_cons (vs_asg (ve_tup (va_cons (ve_op op_addA v_add ve_int (ve_user c__law_draw tk hr (by decide) (by rfl) (va_cons (ve_v 0) (va_cons ve_int va_nil)) (len_cons (len_cons len_nilF)))) (va_cons (ve_op op_addA v_add ve_int (ve_user c__law_draw tk hr (by decide) (by rfl) (va_cons (ve_v 0) (va_cons ve_int va_nil)) (len_cons (len_cons len_nilF)))) va_nil))) (vg_t 2 (vgs_cons (vg_n 1 sc.nd) (vgs_cons (vg_n 2 sc.nd) vgs_nil))))
    (vss_cons (vs_par sc.nd (va_cons (ve_lstO va_nil) (va_cons (ve_lstO va_nil) va_nil)))
    (vss_cons (vs_for hp (vi_rng1 (by rfl) bl.range (va_cons (ve_v 2) va_nil)) (vg_n 5 sc.nd)
    (vss_cons (vs_expr (ve_append (ve_v 3) (ve_callTy call_tuple_of v_tuple (by rfl) bl.tuple (by decide +kernel) (va_cons (ve_lcF finL_ok sc.nd (vi_rng1 (by rfl) bl.range (va_cons (ve_v 1) va_nil)) (blkOk_by (own := [("_law_state", 6)]) (by kernel_rfl)) (fun _ _ _ _ _ => (pg_name (i := 6) sc.nd rfl (by first | exact Or.inl rfl | exact Or.inr rfl))) (fun _ _ _ _ _ => vts_nil) (fun _ _ _ _ _ => (ve_user c__law_draw takes_W0 hr (by decide) (by rfl) (va_cons (ve_v 0) (va_cons (ve_v 1) va_nil)) (len_cons (len_cons len_nilF))))) va_nil))))
    (vss_one (vs_expr (ve_append (ve_v 4) (ve_user c__law_pick tk hr (by decide) (by rfl) (va_cons (ve_v 0) (va_cons (ve_lst (va_cons ve_non (va_cons ve_int (va_cons ve_int (va_cons ve_int (va_cons ve_int va_nil)))))) va_nil)) (len_cons (len_cons len_nilF))))))))
    (vss_one (vs_ret (ve_tup (va_cons (ve_v 1) (va_cons (ve_user c__law_draw tk hr (by decide) (by rfl) (va_cons (ve_v 0) (va_cons (ve_v 1) va_nil)) (len_cons (len_cons len_nilF))) (va_cons (ve_callTy call_tuple_of v_tuple (by rfl) bl.tuple (by decide +kernel) (va_cons (ve_v 3) va_nil)) (va_cons (ve_callTy call_tuple_of v_tuple (by rfl) bl.tuple (by decide +kernel) (va_cons (ve_v 4) va_nil)) va_nil))))))))))
theorem k__law_cells (T : Tx K mg) (c__law_pick : Cl P w K mg base 2 "_law_pick" 2 m__law_pick) (c__law_draw : Cl P w K mg base 1 "_law_draw" 2 m__law_draw) : Cl P w K mg base 3 "_law_cells" 1 m__law_cells := by
  obtain ⟨f, fd, F, gf⟩ := T.f__law_cells
  have bl := T.bl
  refine clG F gf (F.bindsN (ps := ["_law_pen_here"]) fun _ _ _ _ _ _ us hl => match us, hl with | [_], _ => rfl) (fnG F sc__law_cells fun cdv A outer st H E hr hp tk => ?_) rfl
  have sc := sc__law_cells
  exact (vss_cons (vs_asg (ve_user c__law_pick tk hr (by decide) (by rfl) (va_cons (ve_v 0) (va_cons (ve_lst (va_cons (ve_tup (va_cons ve_int (va_cons ve_int va_nil))) (va_cons (ve_tup (va_cons ve_int (va_cons ve_int va_nil))) (va_cons (ve_tup (va_cons ve_int (va_cons ve_int va_nil))) (va_cons (ve_tup (va_cons ve_int (va_cons ve_int va_nil))) (va_cons (ve_tup (va_cons ve_int (va_cons ve_int va_nil))) va_nil)))))) va_nil)) (len_cons (len_cons len_nilF))) (vg_t 2 (vgs_cons (vg_n 1 sc.nd) (vgs_cons (vg_n 2 sc.nd) vgs_nil))))
    (vss_cons (vs_par sc.nd (va_cons (ve_lstO va_nil) (va_cons (ve_lstO va_nil) va_nil)))
    (vss_cons (vs_asg (ve_user c__law_pick tk hr (by decide) (by rfl) (va_cons (ve_v 0) (va_cons (ve_lst (va_cons (ve_tup (va_cons ve_int (va_cons ve_int va_nil))) (va_cons (ve_tup (va_cons ve_int (va_cons ve_int va_nil))) (va_cons (ve_tup (va_cons ve_int (va_cons ve_non va_nil))) (va_cons (ve_tup (va_cons ve_int (va_cons ve_int va_nil))) va_nil))))) va_nil)) (len_cons (len_cons len_nilF))) (vg_n 5 sc.nd))
    (vss_cons (vs_for hp (vi_rng1 (by rfl) bl.range (va_cons (ve_op op_addA v_add ve_int (ve_user c__law_draw tk hr (by decide) (by rfl) (va_cons (ve_v 0) (va_cons ve_int va_nil)) (len_cons (len_cons len_nilF)))) va_nil)) (vg_n 6 sc.nd)
    (vss_cons (vs_asg (ve_user c__law_draw tk hr (by decide) (by rfl) (va_cons (ve_v 0) (va_cons ve_int va_nil)) (len_cons (len_cons len_nilF))) (vg_n 7 sc.nd))
    (vss_cons (vs_asg (ve_user c__law_draw tk hr (by decide) (by rfl) (va_cons (ve_v 0) (va_cons (ve_ix (ve_lst (va_cons (ve_v 1) (va_cons (ve_v 2) va_nil))) (ve_v 7)) va_nil)) (len_cons (len_cons len_nilF))) (vg_n 8 sc.nd))
    (vss_cons (vs_setLcF finL_ok sc.nd (vi_rng1 (by rfl) bl.range (va_cons (ve_op op_mulA v_mul (ve_v 1) (ve_v 2)) va_nil)) (blkOk_by (own := [("_law_state", 10)]) (by kernel_rfl)) (fun _ _ _ _ _ => (pg_name (i := 10) sc.nd rfl (by first | exact Or.inl rfl | exact Or.inr rfl))) (fun _ _ _ _ _ => vts_nil) (fun _ _ _ _ _ => (ve_if (vt_cmp (op_eqA (hu64 hr)) k_eq.v (ve_v 7) ve_int (nomark _)) (ve_op op_addA v_add (ve_op op_mulA v_mul (ve_v 8) (ve_v 2)) (ve_op op_mod v_mod (ve_v 10) (ve_v 2))) (ve_op op_addA v_add (ve_op op_mulA v_mul (ve_op op_fdiv v_div (ve_v 10) (ve_v 2)) (ve_v 2)) (ve_v 8)))) (sw_true rfl rfl rfl (by decide +kernel)))
    (vss_cons (vs_expr (ve_append (ve_v 3) (ve_callTy call_tuple_of v_tuple (by rfl) bl.tuple (by decide +kernel) (va_cons (ve_v 9) va_nil))))
    (vss_one (vs_expr (ve_append (ve_v 4) (ve_ix (ve_v 5) (ve_v 7))))))))))
    (vss_one (vs_ret (ve_tup (va_cons (ve_op op_mulA v_mul (ve_v 1) (ve_v 2)) (va_cons (ve_user c__law_draw tk hr (by decide) (by rfl) (va_cons (ve_v 0) (va_cons (ve_op op_mulA v_mul (ve_v 1) (ve_v 2)) va_nil)) (len_cons (len_cons len_nilF))) (va_cons (ve_callTy call_tuple_of v_tuple (by rfl) bl.tuple (by decide +kernel) (va_cons (ve_v 3) va_nil)) (va_cons (ve_callTy call_tuple_of v_tuple (by rfl) bl.tuple (by decide +kernel) (va_cons (ve_v 4) va_nil)) va_nil)))))))))))
theorem k__law_marks (T : Tx K mg) (c__law_draw : Cl P w K mg base 1 "_law_draw" 2 m__law_draw) (c__law_pick : Cl P w K mg base 2 "_law_pick" 2 m__law_pick) : Cl P w K mg base 3 "_law_marks" 1 m__law_marks := by
  obtain ⟨f, fd, F, gf⟩ := T.f__law_marks
  have bl := T.bl
  refine clG F gf (F.bindsN (ps := ["_law_pen_here"]) fun _ _ _ _ _ _ us hl => match us, hl with | [_], _ => rfl) (fnG F sc__law_marks fun cdv A outer st H E hr hp tk => ?_) rfl
  have sc := sc__law_marks
  exact (vss_cons (vs_par sc.nd (va_cons (ve_lstO va_nil) (va_cons (ve_lstO va_nil) va_nil)))
    (vss_cons (vs_for hp (vi_rng1 (by rfl) bl.range (va_cons (ve_op op_addA v_add ve_int (ve_user c__law_draw tk hr (by decide) (by rfl) (va_cons (ve_v 0) (va_cons ve_int va_nil)) (len_cons (len_cons len_nilF)))) va_nil)) (vg_n 3 sc.nd)
    (vss_cons (vs_asg (ve_tup (va_cons (ve_user c__law_pick tk hr (by decide) (by rfl) (va_cons (ve_v 0) (va_cons (ve_lst (va_cons ve_int (va_cons ve_int (va_cons ve_int va_nil)))) va_nil)) (len_cons (len_cons len_nilF))) (va_cons (ve_cmp op_gt k_gt.v (ve_user c__law_draw tk hr (by decide) (by rfl) (va_cons (ve_v 0) (va_cons ve_int va_nil)) (len_cons (len_cons len_nilF))) ve_int (nomark _)) va_nil))) (vg_t 2 (vgs_cons (vg_n 4 sc.nd) (vgs_cons (vg_n 5 sc.nd) vgs_nil))))
    (vss_cons (vs_asg (ve_lstO va_nil) (vg_n 6 sc.nd))
    (vss_cons (vs_for hp (vi_rng1 (by rfl) bl.range (va_cons ve_int va_nil)) (vg_n 7 sc.nd)
    (vss_cons (vs_asg (ve_lcF finL_ok sc.nd (vi_seq (ve_tup (va_cons ve_int (va_cons ve_int va_nil)))) (blkOk_by (own := [("_law_bit", 11)]) (by kernel_rfl)) (fun _ _ _ _ _ => (pg_name (i := 11) sc.nd rfl (by first | exact Or.inl rfl | exact Or.inr rfl))) (fun _ _ _ _ _ => (vts_one (vt_cmp (op_eqA (hu64 hr)) k_eq.v (ve_op op_mod v_mod (ve_op op_fdiv v_div (ve_v 7) (ve_v 11)) ve_int) ve_int (nomark _)))) (fun _ _ _ _ _ => (ve_v 11))) (vg_n 8 sc.nd))
    (vss_cons (vs_asg (ve_lcF finL_ok sc.nd (vi_seq (ve_tup (va_cons ve_int (va_cons ve_int va_nil)))) (blkOk_by (own := [("_law_bit", 11)]) (by kernel_rfl)) (fun _ _ _ _ _ => (pg_name (i := 11) sc.nd rfl (by first | exact Or.inl rfl | exact Or.inr rfl))) (fun _ _ _ _ _ => (vts_one (vt_cmp (op_eqA (hu64 hr)) k_eq.v (ve_op op_mod v_mod (ve_op op_fdiv v_div (ve_v 4) (ve_v 11)) ve_int) ve_int (nomark _)))) (fun _ _ _ _ _ => (ve_v 11))) (vg_n 9 sc.nd))
    (vss_cons (vs_setLcF finL_ok sc.nd (vi_seq (ve_tup (va_cons ve_int (va_cons ve_int va_nil)))) (blkOk_by (own := [("_law_bit", 11)]) (by kernel_rfl)) (fun _ _ _ _ _ => (pg_name (i := 11) sc.nd rfl (by first | exact Or.inl rfl | exact Or.inr rfl))) (fun _ _ _ _ _ => (vts_one (vt_cmp (op_inA (hu65 hr)) v_in (ve_v 11) (ve_op op_addA v_add (ve_v 8) (ve_v 9)) (by rfl)))) (fun _ _ _ _ _ => (ve_v 11)) (sw_true rfl rfl rfl (by decide +kernel)))
    (vss_one (vs_expr (ve_append (ve_v 6) (ve_if (vt_val (ve_v 5)) (ve_callB (cr_sum rfl) v_sum (by rfl) bl.sum (by decide +kernel) (va_cons (ve_v 10) va_nil)) (ve_callB (cr_sum rfl) v_sum (by rfl) bl.sum (by decide +kernel) (va_cons (ve_lcF finL_ok sc.nd (vi_seq (ve_v 8)) (blkOk_by (own := [("_law_bit", 11)]) (by kernel_rfl)) (fun _ _ _ _ _ => (pg_name (i := 11) sc.nd rfl (by first | exact Or.inl rfl | exact Or.inr rfl))) (fun _ _ _ _ _ => (vts_one (vt_cmp (op_notInA (hu65 hr)) v_notIn (ve_v 11) (ve_v 9) (by rfl)))) (fun _ _ _ _ _ => (ve_v 11))) va_nil))))))))))
    (vss_cons (vs_expr (ve_append (ve_v 1) (ve_callTy call_tuple_of v_tuple (by rfl) bl.tuple (by decide +kernel) (va_cons (ve_v 6) va_nil))))
    (vss_one (vs_expr (ve_append (ve_v 2) (ve_user c__law_pick tk hr (by decide) (by rfl) (va_cons (ve_v 0) (va_cons (ve_lst (va_cons ve_non (va_cons (ve_v 4) (va_cons ve_int va_nil)))) va_nil)) (len_cons (len_cons len_nilF)))))))))))
    (vss_one (vs_ret (ve_tup (va_cons ve_int (va_cons (ve_user c__law_draw tk hr (by decide) (by rfl) (va_cons (ve_v 0) (va_cons ve_int va_nil)) (len_cons (len_cons len_nilF))) (va_cons (ve_callTy call_tuple_of v_tuple (by rfl) bl.tuple (by decide +kernel) (va_cons (ve_v 1) va_nil)) (va_cons (ve_callTy call_tuple_of v_tuple (by rfl) bl.tuple (by decide +kernel) (va_cons (ve_v 2) va_nil)) va_nil)))))))))
theorem k__law_turns (T : Tx K mg) (c__law_draw : Cl P w K mg base 1 "_law_draw" 2 m__law_draw) (c__law_pick : Cl P w K mg base 2 "_law_pick" 2 m__law_pick) : Cl P w K mg base 3 "_law_turns" 1 m__law_turns := by
  obtain ⟨f, fd, F, gf⟩ := T.f__law_turns
  have bl := T.bl
  refine clG F gf (F.bindsN (ps := ["_law_pen_here"]) fun _ _ _ _ _ _ us hl => match us, hl with | [_], _ => rfl) (fnG F sc__law_turns fun cdv A outer st H E hr hp tk => ?_) rfl
  have sc := sc__law_turns
  exact (vss_cons (vs_asg (ve_tup (va_cons (ve_op op_addA v_add ve_int (ve_user c__law_draw tk hr (by decide) (by rfl) (va_cons (ve_v 0) (va_cons ve_int va_nil)) (len_cons (len_cons len_nilF)))) (va_cons (ve_lstO va_nil) (va_cons (ve_lstO va_nil) va_nil)))) (vg_t 3 (vgs_cons (vg_n 1 sc.nd) (vgs_cons (vg_n 2 sc.nd) (vgs_cons (vg_n 3 sc.nd) vgs_nil)))))
    (vss_cons (vs_for hp (vi_rng1 (by rfl) bl.range (va_cons (ve_op op_addA v_add ve_int (ve_user c__law_draw tk hr (by decide) (by rfl) (va_cons (ve_v 0) (va_cons ve_int va_nil)) (len_cons (len_cons len_nilF)))) va_nil)) (vg_n 4 sc.nd)
    (vss_cons (vs_asg (ve_tup (va_cons (ve_user c__law_draw tk hr (by decide) (by rfl) (va_cons (ve_v 0) (va_cons ve_int va_nil)) (len_cons (len_cons len_nilF))) (va_cons (ve_user c__law_draw tk hr (by decide) (by rfl) (va_cons (ve_v 0) (va_cons (ve_v 1) va_nil)) (len_cons (len_cons len_nilF))) va_nil))) (vg_t 2 (vgs_cons (vg_n 5 sc.nd) (vgs_cons (vg_n 6 sc.nd) vgs_nil))))
    (vss_cons (vs_setLcF finL_ok sc.nd (vi_rng1 (by rfl) bl.range (va_cons (ve_v 1) va_nil)) (blkOk_by (own := [("_law_state", 8)]) (by kernel_rfl)) (fun _ _ _ _ _ => (pg_name (i := 8) sc.nd rfl (by first | exact Or.inl rfl | exact Or.inr rfl))) (fun _ _ _ _ _ => vts_nil) (fun _ _ _ _ _ => (ve_op op_mod v_mod (ve_op op_addA v_add (ve_v 8) (ve_v 6)) (ve_v 1))) (sw_true rfl rfl rfl (by decide +kernel)))
    (vss_cons (vs_if (vt_cmp (op_eqA (hu64 hr)) k_eq.v (ve_v 5) ve_int (nomark _))
    (vss_one (vs_setLcF finL_ok sc.nd (vi_rng1 (by rfl) bl.range (va_cons (ve_v 1) va_nil)) (blkOk_by (own := [("_law_state", 8)]) (by kernel_rfl)) (fun _ _ _ _ _ => (pg_name (i := 8) sc.nd rfl (by first | exact Or.inl rfl | exact Or.inr rfl))) (fun _ _ _ _ _ => vts_nil) (fun _ _ _ _ _ => (ve_callB (call_max2 rfl) v_max2 (by rfl) bl.max (by decide +kernel) (va_cons (ve_v 8) (va_cons (ve_v 6) va_nil)))) (sw_true rfl rfl rfl (by decide +kernel))))
    vss_nil)
    (vss_cons (vs_if (vt_cmp (op_eqA (hu64 hr)) k_eq.v (ve_v 5) ve_int (nomark _))
    (vss_one (vs_setLcF finL_ok sc.nd (vi_rng1 (by rfl) bl.range (va_cons (ve_v 1) va_nil)) (blkOk_by (own := [("_law_state", 8)]) (by kernel_rfl)) (fun _ _ _ _ _ => (pg_name (i := 8) sc.nd rfl (by first | exact Or.inl rfl | exact Or.inr rfl))) (fun _ _ _ _ _ => vts_nil) (fun _ _ _ _ _ => (ve_v 6)) (sw_true rfl rfl rfl (by decide +kernel))))
    vss_nil)
    (vss_cons (vs_if (vt_cmp (op_eqA (hu64 hr)) k_eq.v (ve_v 5) ve_int (nomark _))
    (vss_one (vs_asg (ve_listRg (ve_v 1) (by rfl) bl.list (by rfl) bl.range) (vg_n 7 sc.nd)))
    vss_nil)
    (vss_cons (vs_expr (ve_append (ve_v 2) (ve_callTy call_tuple_of v_tuple (by rfl) bl.tuple (by decide +kernel) (va_cons (ve_v 7) va_nil))))
    (vss_one (vs_expr (ve_append (ve_v 3) (ve_user c__law_pick tk hr (by decide) (by rfl) (va_cons (ve_v 0) (va_cons (ve_lst (va_cons ve_non (va_cons (ve_v 5) (va_cons ve_int va_nil)))) va_nil)) (len_cons (len_cons len_nilF)))))))))))))
    (vss_one (vs_ret (ve_tup (va_cons (ve_v 1) (va_cons (ve_user c__law_draw tk hr (by decide) (by rfl) (va_cons (ve_v 0) (va_cons (ve_v 1) va_nil)) (len_cons (len_cons len_nilF))) (va_cons (ve_callTy call_tuple_of v_tuple (by rfl) bl.tuple (by decide +kernel) (va_cons (ve_v 2) va_nil)) (va_cons (ve_callTy call_tuple_of v_tuple (by rfl) bl.tuple (by decide +kernel) (va_cons (ve_v 3) va_nil)) va_nil)))))))))
theorem k__law_system (T : Tx K mg) (c__law_draw : Cl P w K mg base 1 "_law_draw" 2 m__law_draw) (c__law_drawn : Cl P w K mg base 3 "_law_drawn" 1 m__law_drawn) (c__law_cells : Cl P w K mg base 3 "_law_cells" 1 m__law_cells) (c__law_marks : Cl P w K mg base 3 "_law_marks" 1 m__law_marks) (c__law_turns : Cl P w K mg base 3 "_law_turns" 1 m__law_turns) : Cl P w K mg base 4 "_law_system" 1 m__law_system := by
  obtain ⟨f, fd, F, gf⟩ := T.f__law_system
  have bl := T.bl
  refine clG F gf (F.bindsN (ps := ["_law_pen_here"]) fun _ _ _ _ _ _ us hl => match us, hl with | [_], _ => rfl) (fnG F sc__law_system fun cdv A outer st H E hr hp tk => ?_) rfl
  have sc := sc__law_system
  exact (vss_cons (vs_asg (ve_user c__law_draw tk hr (by decide) (by rfl) (va_cons (ve_v 0) (va_cons ve_int va_nil)) (len_cons (len_cons len_nilF))) (vg_n 1 sc.nd))
    (vss_cons (vs_if (vt_cmp (op_eqA (hu64 hr)) k_eq.v (ve_v 1) ve_int (nomark _))
    (vss_one (vs_ret (ve_user c__law_drawn tk hr (by decide) (by rfl) (va_cons (ve_v 0) va_nil) (len_cons len_nilF))))
    vss_nil)
    (vss_cons (vs_asg (ve_if (vt_cmp op_lt k_lt.v (ve_v 1) ve_int (nomark _)) (ve_user c__law_cells tk hr (by decide) (by rfl) (va_cons (ve_v 0) va_nil) (len_cons len_nilF)) (ve_if (vt_cmp (op_eqA (hu64 hr)) k_eq.v (ve_v 1) ve_int (nomark _)) (ve_user c__law_marks tk hr (by decide) (by rfl) (va_cons (ve_v 0) va_nil) (len_cons len_nilF)) (ve_user c__law_turns tk hr (by decide) (by rfl) (va_cons (ve_v 0) va_nil) (len_cons len_nilF)))) (vg_n 2 sc.nd))
    (vss_cons (vs_if (vt_cmp op_gt k_gt.v (ve_user c__law_draw tk hr (by decide) (by rfl) (va_cons (ve_v 0) (va_cons ve_int va_nil)) (len_cons (len_cons len_nilF))) ve_int (nomark _))
    (vss_one (vs_ret (ve_v 2)))
    vss_nil)
    (vss_cons (vs_asg (ve_v 2) (vg_t 4 (vgs_cons (vg_n 3 sc.nd) (vgs_cons (vg_n 4 sc.nd) (vgs_cons (vg_n 5 sc.nd) (vgs_cons (vg_n 6 sc.nd) vgs_nil))))))
    (vss_cons (vs_par sc.nd (va_cons (ve_user c__law_draw tk hr (by decide) (by rfl) (va_cons (ve_v 0) (va_cons (ve_callB c_len v_len (by rfl) bl.len (by decide +kernel) (va_cons (ve_v 5) va_nil)) va_nil)) (len_cons (len_cons len_nilF))) (va_cons (ve_user c__law_draw tk hr (by decide) (by rfl) (va_cons (ve_v 0) (va_cons (ve_v 3) va_nil)) (len_cons (len_cons len_nilF))) va_nil)))
    (vss_cons (vs_asg (ve_op op_addA v_add (ve_op op_addA v_add (ve_sl (ve_ix (ve_v 5) (ve_v 7)) vo_no (vo_some (ve_v 8))) (ve_tup (va_cons (ve_user c__law_draw tk hr (by decide) (by rfl) (va_cons (ve_v 0) (va_cons (ve_v 3) va_nil)) (len_cons (len_cons len_nilF))) va_nil))) (ve_sl (ve_ix (ve_v 5) (ve_v 7)) (vo_some (ve_op op_addA v_add (ve_v 8) ve_int)) vo_no)) (vg_n 9 sc.nd))
    (vss_one (vs_ret (ve_tup (va_cons (ve_v 3) (va_cons (ve_v 4) (va_cons (ve_op op_addA v_add (ve_op op_addA v_add (ve_sl (ve_v 5) vo_no (vo_some (ve_v 7))) (ve_tup (va_cons (ve_v 9) va_nil))) (ve_sl (ve_v 5) (vo_some (ve_op op_addA v_add (ve_v 7) ve_int)) vo_no)) (va_cons (ve_v 6) va_nil))))))))))))))
theorem k__law_log (T : Tx K mg) (c__law_draw : Cl P w K mg base 1 "_law_draw" 2 m__law_draw) : Cl P w K mg base 2 "_law_log" 3 m__law_log := by
  obtain ⟨f, fd, F, gf⟩ := T.f__law_log
  have bl := T.bl
  refine clG F gf (F.bindsN (ps := ["_law_pen_here", "_law_system_here", "_law_cap"]) fun _ _ _ _ _ _ us hl => match us, hl with | [_, _, _], _ => rfl) (fnG F sc__law_log fun cdv A outer st H E hr hp tk => ?_) rfl
  have sc := sc__law_log
  exact (vss_one (vs_ret (ve_callTy call_tuple_of v_tuple (by rfl) bl.tuple (by decide +kernel) (va_cons (ve_lcF finL_ok sc.nd (vi_rng1 (by rfl) bl.range (va_cons (ve_user c__law_draw tk hr (by decide) (by rfl) (va_cons (ve_v 0) (va_cons (ve_op op_addA v_add (ve_v 2) ve_int) va_nil)) (len_cons (len_cons len_nilF))) va_nil)) (blkOk_by (own := [("_law_lap", 3)]) (by kernel_rfl)) (fun _ _ _ _ _ => (pg_name (i := 3) sc.nd rfl (by first | exact Or.inl rfl | exact Or.inr rfl))) (fun _ _ _ _ _ => vts_nil) (fun _ _ _ _ _ => (ve_user c__law_draw takes_W0 hr (by decide) (by rfl) (va_cons (ve_v 0) (va_cons (ve_callB c_len v_len (by rfl) bl.len (by decide +kernel) (va_cons (ve_ix (ve_v 1) ve_int) va_nil)) va_nil)) (len_cons (len_cons len_nilF))))) va_nil))))
theorem k__law_same (T : Tx K mg)  : Cl P w K mg base 1 "_law_same" 2 m__law_same := by
  obtain ⟨f, fd, F, gf⟩ := T.f__law_same
  have bl := T.bl
  refine clG F gf (F.bindsN (ps := ["_law_found", "_law_due_here"]) fun _ _ _ _ _ _ us hl => match us, hl with | [_, _], _ => rfl) (fnG F sc__law_same fun cdv A outer st H E hr hp tk => ?_) rfl
  have sc := sc__law_same
  exact (vss_one (vs_ret (ve_cmp (op_eqA (hu64 hr)) k_eq.v (ve_callB (c_repr hr.g (hu64 hr)) v_repr (by rfl) bl.repr (by decide +kernel) (va_cons (ve_v 0) va_nil)) (ve_callB (c_repr hr.g (hu64 hr)) v_repr (by rfl) bl.repr (by decide +kernel) (va_cons (ve_v 1) va_nil)) (nomark _))))
theorem k__law_moves (T : Tx K mg) (c__law_reached : Cl P w K mg base 2 "_law_reached" 1 m__law_reached) (c__law_run : Cl P w K mg base 1 "_law_run" 3 m__law_run) : Cl P w K mg base 3 "_law_moves" 2 m__law_moves := by
  obtain ⟨f, fd, F, gf⟩ := T.f__law_moves
  have bl := T.bl
  refine clG F gf (F.bindsN (ps := ["_law_system_here", "_law_log_here"]) fun _ _ _ _ _ _ us hl => match us, hl with | [_, _], _ => rfl) (fnG F sc__law_moves fun cdv A outer st H E hr hp tk => ?_) rfl
  have sc := sc__law_moves
  exact (vss_one (vs_ret (ve_callTy call_tuple_of v_tuple (by rfl) bl.tuple (by decide +kernel) (va_cons (ve_lcF finL_ok sc.nd (vi_seq (ve_user c__law_reached tk hr (by decide) (by rfl) (va_cons (ve_v 0) va_nil) (len_cons len_nilF))) (blkOk_by (own := [("_law_state", 2)]) (by kernel_rfl)) (fun _ _ _ _ _ => (pg_name (i := 2) sc.nd rfl (by first | exact Or.inl rfl | exact Or.inr rfl))) (fun _ _ _ _ _ => vts_nil) (fun _ _ _ _ _ => (ve_user c__law_run takes_W0 hr (by decide) (by rfl) (va_cons (ve_v 0) (va_cons (ve_v 2) (va_cons (ve_v 1) va_nil))) (len_cons (len_cons (len_cons len_nilF)))))) va_nil))))
theorem k__law_seen (T : Tx K mg) (c_Effect_system : ClP P w K mg base 1 "Effect" "system" m_Effect_system) (c_Effect_moves : ClP P w K mg base 1 "Effect" "moves" m_Effect_moves) (c_Effect_fixed : ClP P w K mg base 1 "Effect" "fixed" m_Effect_fixed) (c_Effect_repr : ClM P w K mg base 3 "Effect" "__repr__" 0 m_Effect_repr) : Cl P w K mg base 5 "_law_seen" 1 m__law_seen := by
  obtain ⟨f, fd, F, gf⟩ := T.f__law_seen
  have bl := T.bl
  refine clG F gf (F.bindsN (ps := ["_law_effect"]) fun _ _ _ _ _ _ us hl => match us, hl with | [_], _ => rfl) (fnG F sc__law_seen fun cdv A outer st H E hr hp tk => ?_) rfl
  have sc := sc__law_seen
  exact (vss_one (vs_ret (ve_lst (va_cons (ve_prop (tq_cons c_Effect_system tq_nil) hr (by decide) (ve_v 0)) (va_cons (ve_prop (tq_cons c_Effect_moves tq_nil) hr (by decide) (ve_v 0)) (va_cons (ve_prop (tq_cons c_Effect_fixed tq_nil) hr (by decide) (ve_v 0)) (va_cons (ve_callB (c_reprI hr (by decide)) (v_reprI (tq_cons c_Effect_repr tq_nil)) (by rfl) bl.repr (by decide +kernel) (va_cons (ve_v 0) va_nil)) va_nil)))))))
theorem k__law_due (T : Tx K mg) (c__law_reached : Cl P w K mg base 2 "_law_reached" 1 m__law_reached) : Cl P w K mg base 3 "_law_due" 2 m__law_due := by
  obtain ⟨f, fd, F, gf⟩ := T.f__law_due
  have bl := T.bl
  refine clG F gf (F.bindsN (ps := ["_law_system_here", "_law_moves_here"]) fun _ _ _ _ _ _ us hl => match us, hl with | [_, _], _ => rfl) (fnG F sc__law_due fun cdv A outer st H E hr hp tk => ?_) rfl
  have sc := sc__law_due
  exact (vss_cons (vs_asg (ve_callTy call_tuple_of v_tuple (by rfl) bl.tuple (by decide +kernel) (va_cons (ve_lcF finL_ok sc.nd (vi_zip (by rfl) bl.zip (va_cons (ve_user c__law_reached tk hr (by decide) (by rfl) (va_cons (ve_v 0) va_nil) (len_cons len_nilF)) (va_cons (ve_v 1) va_nil))) (blkOk_by (own := [("_law_state", 4), ("_law_goal", 5)]) (by kernel_rfl)) (fun _ _ _ _ _ => (pg_tup rfl (pgs_cons (pg_name (i := 4) sc.nd rfl (by first | exact Or.inl rfl | exact Or.inr rfl)) (pgs_cons (pg_name (i := 5) sc.nd rfl (by first | exact Or.inl rfl | exact Or.inr rfl)) pgs_nil)))) (fun _ _ _ _ _ => (vts_one (vt_cmp (op_eqA (hu64 hr)) k_eq.v (ve_v 4) (ve_v 5) (nomark _)))) (fun _ _ _ _ _ => (ve_v 4))) va_nil)) (vg_n 2 sc.nd))
    (vss_cons (vs_asg (ve_op op_addA v_add (ve_op op_addA v_add (ve_op op_addA v_add (ve_op op_addA v_add ve_str (ve_callTy call_str_int v_strI (by rfl) bl.str (by decide +kernel) (va_cons (ve_callB c_len v_len (by rfl) bl.len (by decide +kernel) (va_cons (ve_v 1) va_nil)) va_nil))) ve_str) (ve_callTy call_str_int v_strI (by rfl) bl.str (by decide +kernel) (va_cons (ve_callB c_len v_len (by rfl) bl.len (by decide +kernel) (va_cons (ve_v 2) va_nil)) va_nil))) ve_str) (vg_n 3 sc.nd))
    (vss_one (vs_ret (ve_lst (va_cons (ve_v 0) (va_cons (ve_v 1) (va_cons (ve_v 2) (va_cons (ve_v 3) va_nil)))))))))
theorem k__law_any_moves (T : Tx K mg) (c__law_reached : Cl P w K mg base 2 "_law_reached" 1 m__law_reached) (c__law_pick : Cl P w K mg base 2 "_law_pick" 2 m__law_pick) : Cl P w K mg base 3 "_law_any_moves" 2 m__law_any_moves := by
  obtain ⟨f, fd, F, gf⟩ := T.f__law_any_moves
  have bl := T.bl
  refine clG F gf (F.bindsN (ps := ["_law_pen_here", "_law_system_here"]) fun _ _ _ _ _ _ us hl => match us, hl with | [_, _], _ => rfl) (fnG F sc__law_any_moves fun cdv A outer st H E hr hp tk => ?_) rfl
  have sc := sc__law_any_moves
  exact (vss_cons (vs_asg (ve_user c__law_reached tk hr (by decide) (by rfl) (va_cons (ve_v 1) va_nil) (len_cons len_nilF)) (vg_n 2 sc.nd))
    (vss_one (vs_ret (ve_callTy call_tuple_of v_tuple (by rfl) bl.tuple (by decide +kernel) (va_cons (ve_lcF finL_ok sc.nd (vi_seq (ve_v 2)) (blkOk_by (own := [("_law_state", 3)]) (by kernel_rfl)) (fun _ _ _ _ _ => (pg_name (i := 3) sc.nd rfl (by first | exact Or.inl rfl | exact Or.inr rfl))) (fun _ _ _ _ _ => vts_nil) (fun _ _ _ _ _ => (ve_user c__law_pick takes_W0 hr (by decide) (by rfl) (va_cons (ve_v 0) (va_cons (ve_v 2) va_nil)) (len_cons (len_cons len_nilF))))) va_nil)))))
theorem k__law_behind (T : Tx K mg)  : Cl P w K mg base 1 "_law_behind" 3 m__law_behind := by
  obtain ⟨f, fd, F, gf⟩ := T.f__law_behind
  have bl := T.bl
  refine clG F gf (F.bindsN (ps := ["_law_states", "_law_moves_here", "_law_more"]) fun _ _ _ _ _ _ us hl => match us, hl with | [_, _, _], _ => rfl) (fnG F sc__law_behind fun cdv A outer st H E hr hp tk => ?_) rfl
  have sc := sc__law_behind
  exact (vss_one (vs_ret (ve_callTy call_tuple_of v_tuple (by rfl) bl.tuple (by decide +kernel) (va_cons (ve_lcF finL_ok sc.nd (vi_seq (ve_v 1)) (blkOk_by (own := [("_law_goal", 3)]) (by kernel_rfl)) (fun _ _ _ _ _ => (pg_name (i := 3) sc.nd rfl (by first | exact Or.inl rfl | exact Or.inr rfl))) (fun _ _ _ _ _ => vts_nil) (fun _ _ _ _ _ => (ve_ix (ve_v 2) (ve_index (ve_v 0) (ve_v 3))))) va_nil))))
theorem k__law_times (T : Tx K mg)  : Cl P w K mg base 1 "_law_times" 3 m__law_times := by
  obtain ⟨f, fd, F, gf⟩ := T.f__law_times
  have bl := T.bl
  refine clG F gf (F.bindsN (ps := ["_law_states", "_law_moves_here", "_law_many"]) fun _ _ _ _ _ _ us hl => match us, hl with | [_, _, _], _ => rfl) (fnG F sc__law_times fun cdv A outer st H E hr hp tk => ?_) rfl
  have sc := sc__law_times
  exact (vss_cons (vs_asg (ve_lstO va_nil) (vg_n 3 sc.nd))
    (vss_cons (vs_for hp (vi_seq (ve_v 0)) (vg_n 4 sc.nd)
    (vss_cons (vs_par sc.nd (va_cons (ve_lstO va_nil) (va_cons (ve_v 4) va_nil)))
    (vss_cons (vs_while 2000 hp (vt_cmp (op_notInA (hu65 hr)) v_notIn (ve_v 6) (ve_v 5) (by rfl))
    (vss_cons (vs_expr (ve_append (ve_v 5) (ve_v 6)))
    (vss_one (vs_asg (ve_ix (ve_v 1) (ve_index (ve_v 0) (ve_v 6))) (vg_n 6 sc.nd)))))
    (vss_cons (vs_asg (ve_index (ve_v 5) (ve_v 6)) (vg_n 7 sc.nd))
    (vss_one (vs_expr (ve_append (ve_v 3) (ve_if (vt_cmp op_lt k_lt.v (ve_v 2) (ve_callB c_len v_len (by rfl) bl.len (by decide +kernel) (va_cons (ve_v 5) va_nil)) (nomark _)) (ve_ix (ve_v 5) (ve_v 2)) (ve_ix (ve_v 5) (ve_op op_addA v_add (ve_v 7) (ve_op op_mod v_mod (ve_op op_sub v_sub (ve_v 2) (ve_v 7)) (ve_op op_sub v_sub (ve_callB c_len v_len (by rfl) bl.len (by decide +kernel) (va_cons (ve_v 5) va_nil)) (ve_v 7)))))))))))))
    (vss_one (vs_ret (ve_callTy call_tuple_of v_tuple (by rfl) bl.tuple (by decide +kernel) (va_cons (ve_v 3) va_nil))))))
theorem g_law (T : Tx K mg) (c__law_pen : Cl P w K mg base 1 "_law_pen" 1 m__law_pen) (c__law_cell_at : Cl P w K mg base 1 "_law_cell_at" 2 m__law_cell_at) (c__law_system : Cl P w K mg base 4 "_law_system" 1 m__law_system) (c__law_reached : Cl P w K mg base 2 "_law_reached" 1 m__law_reached) (c__law_moves : Cl P w K mg base 3 "_law_moves" 2 m__law_moves) (c__law_log : Cl P w K mg base 2 "_law_log" 3 m__law_log) (c__law_any_moves : Cl P w K mg base 3 "_law_any_moves" 2 m__law_any_moves) (c_Effect_init : ClN P w K mg base 6 "Effect" 2 l_Effect_init) (c_Effect_call : ClI P w K mg base 2 "Effect" 1 m_Effect_call) (c__law_same : Cl P w K mg base 1 "_law_same" 2 m__law_same) (c__law_seen : Cl P w K mg base 5 "_law_seen" 1 m__law_seen) (c_Effect_add : ClM P w K mg base 8 "Effect" "__add__" 1 m_Effect_add) (c__law_due : Cl P w K mg base 3 "_law_due" 2 m__law_due) (c__law_behind : Cl P w K mg base 1 "_law_behind" 3 m__law_behind) (c__law_draw : Cl P w K mg base 1 "_law_draw" 2 m__law_draw) (c_Effect_mul : ClM P w K mg base 10 "Effect" "__mul__" 1 m_Effect_mul) (c__law_times : Cl P w K mg base 1 "_law_times" 3 m__law_times) (c_Effect_joined : ClS P w K mg base 10 "Effect" "joined" 1 m_Effect_joined) (c_Effect_eq : ClM P w K mg base 1 "Effect" "__eq__" 1 m_Effect_eq) (c_Effect_moves : ClP P w K mg base 1 "Effect" "moves" m_Effect_moves) {f : Addr} {fd : FuncData} (F : FunD K "law" "law" (defArgs (top 49)) (defBody (top 49)) (defScope (top 49)) [] [] f fd) : FnG P w K mg base 12 f fd ["_law_script"] (spG ⟨K, mg⟩ 1 m_law) := by
  have bl := T.bl
  refine fnG F sc_law fun cdv A outer st H E hr hp tk => ?_
  have sc := sc_law
  exact (vss_cons (vs_for hp (vi_rng1 (by rfl) bl.range (va_cons (ve_callB (call_max2 rfl) v_max2 (by rfl) bl.max (by decide +kernel) (va_cons ve_int (va_cons (ve_callB (call_min2 rfl) v_min2 (by rfl) bl.min (by decide +kernel) (va_cons (ve_callB c_len v_len (by rfl) bl.len (by decide +kernel) (va_cons (ve_v 0) va_nil)) (va_cons ve_int va_nil))) va_nil))) va_nil)) (vg_n 1 sc.nd)
    (vss_cons (vs_asg (ve_user c__law_pen tk hr (by decide) (by rfl) (va_cons (ve_user c__law_cell_at tk hr (by decide) (by rfl) (va_cons (ve_v 0) (va_cons (ve_v 1) va_nil)) (len_cons (len_cons len_nilF))) va_nil) (len_cons len_nilF)) (vg_n 2 sc.nd))
    (vss_one (vs_for hp (vi_rng1 (by rfl) bl.range (va_cons ve_int va_nil)) (vg_n 3 sc.nd)
    (vss_cons (vs_asg (ve_user c__law_system tk hr (by decide) (by rfl) (va_cons (ve_v 2) va_nil) (len_cons len_nilF)) (vg_n 4 sc.nd))
    (vss_cons (vs_asg (ve_user c__law_reached tk hr (by decide) (by rfl) (va_cons (ve_v 4) va_nil) (len_cons len_nilF)) (vg_n 5 sc.nd))
    (vss_cons (vs_asg (ve_lst (va_cons (ve_user c__law_moves tk hr (by decide) (by rfl) (va_cons (ve_v 4) (va_cons (ve_user c__law_log tk hr (by decide) (by rfl) (va_cons (ve_v 2) (va_cons (ve_v 4) (va_cons ve_int va_nil))) (len_cons (len_cons (len_cons len_nilF)))) va_nil)) (len_cons (len_cons len_nilF))) (va_cons (ve_user c__law_any_moves tk hr (by decide) (by rfl) (va_cons (ve_v 2) (va_cons (ve_v 4) va_nil)) (len_cons (len_cons len_nilF))) (va_cons (ve_user c__law_any_moves tk hr (by decide) (by rfl) (va_cons (ve_v 2) (va_cons (ve_v 4) va_nil)) (len_cons (len_cons len_nilF))) va_nil)))) (vg_n 6 sc.nd))
    (vss_cons (vs_asg (ve_lcF finL_ok sc.nd (vi_seq (ve_v 6)) (blkOk_by (own := [("_law_row", 18)]) (by kernel_rfl)) (fun _ _ _ _ _ => (pg_name (i := 18) sc.nd rfl (by first | exact Or.inl rfl | exact Or.inr rfl))) (fun _ _ _ _ _ => vts_nil) (fun _ _ _ _ _ => (ve_new c_Effect_init takes_W0 hr (by decide) (by rfl) (va_cons (ve_v 4) (va_cons (ve_v 18) va_nil)) (len_cons (len_cons len_nilF))))) (vg_n 7 sc.nd))
    (vss_cons (vs_for hp (vi_zip (by rfl) bl.zip (va_cons (ve_v 7) (va_cons (ve_v 6) va_nil))) (vg_t 2 (vgs_cons (vg_n 8 sc.nd) (vgs_cons (vg_n 9 sc.nd) vgs_nil)))
    (vss_cons (vs_if (vt_cmp (op_neA (hu64 hr)) k_ne.v (ve_lcF finL_ok sc.nd (vi_seq (ve_v 5)) (blkOk_by (own := [("_law_state", 20)]) (by kernel_rfl)) (fun _ _ _ _ _ => (pg_name (i := 20) sc.nd rfl (by first | exact Or.inl rfl | exact Or.inr rfl))) (fun _ _ _ _ _ => vts_nil) (fun _ _ _ _ _ => (ve_callI (tab_cons c_Effect_call tab_nil) takes_W0 hr (by decide) (ve_v 8) (va_cons (ve_v 20) va_nil) (len_cons len_nilF)))) (ve_callTy call_list_of v_list (by rfl) bl.list (by decide +kernel) (va_cons (ve_v 9) va_nil)) (nomark _))
    (vss_one (vs_ret ve_bl))
    vss_nil)
    (vss_cons (vs_for hp (vi_zip (by rfl) bl.zip (va_cons (ve_v 7) (va_cons (ve_v 6) va_nil))) (vg_t 2 (vgs_cons (vg_n 10 sc.nd) (vgs_cons (vg_n 11 sc.nd) vgs_nil)))
    (vss_one (vs_if (vt_not (vt_val (ve_user c__law_same tk hr (by decide) (by rfl) (va_cons (ve_user c__law_seen tk hr (by decide) (by rfl) (va_cons (ve_op (op_addI hr (by decide)) (v_addI (tq_cons c_Effect_add tq_nil) (tp_cons T.g_Effect T.sf_Effect tp_nil)) (ve_v 8) (ve_v 10)) va_nil) (len_cons len_nilF)) (va_cons (ve_user c__law_due tk hr (by decide) (by rfl) (va_cons (ve_v 4) (va_cons (ve_user c__law_behind tk hr (by decide) (by rfl) (va_cons (ve_v 5) (va_cons (ve_v 9) (va_cons (ve_v 11) va_nil))) (len_cons (len_cons (len_cons len_nilF)))) va_nil)) (len_cons (len_cons len_nilF))) va_nil)) (len_cons (len_cons len_nilF)))))
    (vss_one (vs_ret ve_bl))
    vss_nil)))
    (vss_one (vs_for hp (vi_seq (ve_lst (va_cons ve_int (va_cons ve_int (va_cons ve_int (va_cons (ve_user c__law_draw tk hr (by decide) (by rfl) (va_cons (ve_v 2) (va_cons ve_int va_nil)) (len_cons (len_cons len_nilF))) (va_cons (ve_op op_sub v_sub (ve_op op_pow v_pow ve_int ve_int) (ve_user c__law_draw tk hr (by decide) (by rfl) (va_cons (ve_v 2) (va_cons ve_int va_nil)) (len_cons (len_cons len_nilF)))) va_nil))))))) (vg_n 12 sc.nd)
    (vss_one (vs_if (vt_not (vt_val (ve_user c__law_same tk hr (by decide) (by rfl) (va_cons (ve_user c__law_seen tk hr (by decide) (by rfl) (va_cons (ve_op (op_mulI hr (by decide)) (v_mulI (tq_cons c_Effect_mul tq_nil) (tp_cons T.g_Effect T.mul_Effect tp_nil)) (ve_v 8) (ve_v 12)) va_nil) (len_cons len_nilF)) (va_cons (ve_user c__law_due tk hr (by decide) (by rfl) (va_cons (ve_v 4) (va_cons (ve_user c__law_times tk hr (by decide) (by rfl) (va_cons (ve_v 5) (va_cons (ve_v 9) (va_cons (ve_v 12) va_nil))) (len_cons (len_cons (len_cons len_nilF)))) va_nil)) (len_cons (len_cons len_nilF))) va_nil)) (len_cons (len_cons len_nilF)))))
    (vss_one (vs_ret ve_bl))
    vss_nil)))))))
    (vss_cons (vs_asg (ve_user c__law_behind tk hr (by decide) (by rfl) (va_cons (ve_v 5) (va_cons (ve_user c__law_behind tk hr (by decide) (by rfl) (va_cons (ve_v 5) (va_cons (ve_ix (ve_v 6) ve_int) (va_cons (ve_ix (ve_v 6) ve_int) va_nil))) (len_cons (len_cons (len_cons len_nilF)))) (va_cons (ve_ix (ve_v 6) ve_int) va_nil))) (len_cons (len_cons (len_cons len_nilF)))) (vg_n 13 sc.nd))
    (vss_cons (vs_asg (ve_smeth c_Effect_joined tk hr (by decide) (ve_glo (by rfl) T.g_Effect) (va_cons (ve_tup (va_cons (ve_ix (ve_v 7) ve_int) (va_cons (ve_ix (ve_v 7) ve_int) (va_cons (ve_ix (ve_v 7) ve_int) va_nil)))) va_nil) (len_cons len_nilF)) (vg_n 14 sc.nd))
    (vss_cons (vs_if (vw_or (vt_not (vt_val (ve_user c__law_same tk hr (by decide) (by rfl) (va_cons (ve_user c__law_seen tk hr (by decide) (by rfl) (va_cons (ve_v 14) va_nil) (len_cons len_nilF)) (va_cons (ve_user c__law_due tk hr (by decide) (by rfl) (va_cons (ve_v 4) (va_cons (ve_v 13) va_nil)) (len_cons (len_cons len_nilF))) va_nil)) (len_cons (len_cons len_nilF))))) (vw_or1 (vt_cmp (op_neI hr (by decide)) (v_neI (tq_cons c_Effect_eq tq_nil) (tp_cons T.g_Effect T.ne_Effect tp_nil)) (ve_smeth c_Effect_joined tk hr (by decide) (ve_glo (by rfl) T.g_Effect) (va_cons (ve_tup (va_cons (ve_ix (ve_v 7) ve_int) va_nil)) va_nil) (len_cons len_nilF)) (ve_ix (ve_v 7) ve_int) (nomark _)))).pt
    (vss_one (vs_ret ve_bl))
    vss_nil)
    (vss_cons (vs_par sc.nd (va_cons (ve_lcF finL_ok sc.nd (vi_rng1 (by rfl) bl.range (va_cons (ve_op op_addA v_add ve_int (ve_user c__law_draw tk hr (by decide) (by rfl) (va_cons (ve_v 2) (va_cons ve_int va_nil)) (len_cons (len_cons len_nilF)))) va_nil)) (blkOk_by (own := [("_law_turn", 19)]) (by kernel_rfl)) (fun _ _ _ _ _ => (pg_name (i := 19) sc.nd rfl (by first | exact Or.inl rfl | exact Or.inr rfl))) (fun _ _ _ _ _ => vts_nil) (fun _ _ _ _ _ => (ve_user c__law_draw takes_W0 hr (by decide) (by rfl) (va_cons (ve_v 2) (va_cons ve_int va_nil)) (len_cons (len_cons len_nilF))))) (va_cons (ve_callTy call_tuple_of v_tuple (by rfl) bl.tuple (by decide +kernel) (va_cons (ve_v 5) va_nil)) va_nil)))
    (vss_cons (vs_for hp (vi_seq (ve_v 15)) (vg_n 17 sc.nd)
    (vss_one (vs_asg (ve_user c__law_behind tk hr (by decide) (by rfl) (va_cons (ve_v 5) (va_cons (ve_v 16) (va_cons (ve_ix (ve_v 6) (ve_v 17)) va_nil))) (len_cons (len_cons (len_cons len_nilF)))) (vg_n 16 sc.nd))))
    (vss_cons (vs_if (vt_cmp (op_neA (hu64 hr)) k_ne.v (ve_prop (tq_cons c_Effect_moves tq_nil) hr (by decide) (ve_smeth c_Effect_joined tk hr (by decide) (ve_glo (by rfl) T.g_Effect) (va_cons (ve_callTy call_tuple_of v_tuple (by rfl) bl.tuple (by decide +kernel) (va_cons (ve_lcF finL_ok sc.nd (vi_seq (ve_v 15)) (blkOk_by (own := [("_law_pick_here", 17)]) (by kernel_rfl)) (fun _ _ _ _ _ => (pg_name (i := 17) sc.nd rfl (by first | exact Or.inl rfl | exact Or.inr rfl))) (fun _ _ _ _ _ => vts_nil) (fun _ _ _ _ _ => (ve_ix (ve_v 7) (ve_v 17)))) va_nil)) va_nil) (len_cons len_nilF))) (ve_v 16) (nomark _))
    (vss_one (vs_ret ve_bl))
    vss_nil)
    (vss_one (vs_if (vt_not (vt_val (ve_user c__law_same tk hr (by decide) (by rfl) (va_cons (ve_lcF finL_ok sc.nd (vi_seq (ve_v 7)) (blkOk_by (own := [("_law_one", 8)]) (by kernel_rfl)) (fun _ _ _ _ _ => (pg_name (i := 8) sc.nd rfl (by first | exact Or.inl rfl | exact Or.inr rfl))) (fun _ _ _ _ _ => vts_nil) (fun _ _ _ _ _ => (ve_user c__law_seen takes_W0 hr (by decide) (by rfl) (va_cons (ve_v 8) va_nil) (len_cons len_nilF)))) (va_cons (ve_lcF finL_ok sc.nd (vi_seq (ve_v 6)) (blkOk_by (own := [("_law_row", 18)]) (by kernel_rfl)) (fun _ _ _ _ _ => (pg_name (i := 18) sc.nd rfl (by first | exact Or.inl rfl | exact Or.inr rfl))) (fun _ _ _ _ _ => vts_nil) (fun _ _ _ _ _ => (ve_user c__law_due takes_W0 hr (by decide) (by rfl) (va_cons (ve_v 4) (va_cons (ve_v 18) va_nil)) (len_cons (len_cons len_nilF))))) va_nil)) (len_cons (len_cons len_nilF)))))
    (vss_one (vs_ret ve_bl))
    vss_nil)))))))))))))))))
    (vss_one (vs_ret ve_bl)))
end
end W
namespace VL
open PySem PySem.Spec PyProof.Rows L2
theorem e35_0 : m__law_seen = eSeen := rfl
theorem e35_1 : m__law_due = eDue := rfl
theorem e35_2 : m__law_behind = lBeh := rfl
theorem e35_3 : m__law_times = lTim := rfl
theorem e35_4 : l_Effect_init = fInit := rfl
theorem e35_5 : m_Effect_add = fAdd := rfl
theorem e35_6 : m_Effect_mul = fMul := rfl
theorem e35_7 : m_Effect_call = fCal := rfl
theorem e35_8 : m_Effect_joined = fJoi := rfl
theorem e35_9 : m_Effect_eq = fEqI := rfl
theorem e35_10 : m_Effect_moves = eMov := rfl
theorem any_moves_ok {y : Sys} (hy : y.Ok) {p f : Nat} {s : S} (hp : Pen p (f + 10) s) : wp (m__law_any_moves [.obj p, y.D] s) fun d s' => ∃ gs, d = logD gs ∧ MovOk y gs ∧ Pen p f s' := by
  have hr := reach_l6 hy
  have hr1 : 1 ≤ y.reach.length := List.length_pos_of_mem (reach_start y)
  unfold m__law_any_moves
  rw [mFn_eq, wp_fin]
  have hi : initE 4 [.obj p, y.D] = [some (.obj p), some y.D, none, none] := rfl
  rw [hi]
  have hp := hp.app (gar m__law_reached [y.D] s)
  simp only [mSeq_eq, mAsg_eq, mUser_eq, mCons_eq, mVar_eq, get_0, List.getElem?_cons_succ, vg_some, R.bnd_ok, mNil_eq, law_reached_eq hy, retag_ok, gN_eq, List.set_cons_succ, List.set_cons_zero, seqF_nx, mRet_eq, mCall_eq, mLcF_eq, mSrc_eq, srcF_lst]
  generalize s ++ gar m__law_reached [y.D] s = s1 at hp
  rw [lcF_fix (by simp; omega) rfl]
  simp only [wp_bnd]
  refine (wp_llc (I := fun ds acc s' => ∃ l : List Nat, acc = l.map nD ∧ l.length + ds.length = y.reach.length ∧ (∀ x ∈ l, x ∈ y.reach) ∧ Pen p (f + ds.length) s') ?_ (y.reach.map nD) [] s1 ⟨[], rfl, by simp, by simp, hp.mono (by simp; omega)⟩).mono ?_
  · rintro d ds acc s' ⟨l, rfl, h2, h3, h4⟩
    refine ⟨_, rfl, ?_⟩
    simp only [wipeD_cons, wipeD_nil, List.set_cons_succ, List.set_cons_zero, mUser_eq, mCons_eq, mVar_eq, get_0, List.getElem?_cons_succ, vg_some, R.bnd_ok, mNil_eq, wp_retag]
    refine (wp_pick (f := f + ds.length) (h4.mono (by simp; omega)) (by simpa using hr1) (by simp; omega)).mono ?_
    rintro d s2 ⟨hd, hp2, _⟩
    obtain ⟨x, hx, rfl⟩ := List.mem_map.1 hd
    refine ⟨l ++ [x], by simp, by simp at h2 ⊢; omega, fun z hz => ?_, hp2⟩
    rcases List.mem_append.1 hz with hz | hz
    · exact h3 z hz
    · rw [List.mem_singleton.1 hz]; exact hx
  · rintro ys s2 ⟨l, rfl, h2, h3, h4⟩
    simp only [finL_eq, wp_ok, R.bnd_ok, mNil_eq]
    show wp (R.ok (logD l) s2) _
    exact ⟨l, rfl, ⟨by simpa using h2, h3⟩, by simpa using h4⟩
theorem same_py {k n : Nat} {d d' : D} (h : Fine k n d') (e : toPy d = toPy d') (hk : k ≤ 60) (hn : n ≤ 400000) (s) : m__law_same [d, d'] s = .ok (.bl true) s := by
  have r1 := (fine_py h e).repr hk hn
  have r2 := h.repr hk hn
  have e2 : shw d = shw d' := by simp [shw, e]
  unfold m__law_same
  rw [mFn_eq]
  simp [initE, r1, r2, e2]
theorem lst_eq (l : List Nat) (f : Bool → Bool) (s : S) : opEqF f (.lst (l.map nD)) (.lst (l.map nD)) s = .ok (.bl (f true)) s := by
  have p1 : toPyS s (.lst (l.map nD)) = some (.list (pyL l)) := by
    show toPy (.lst (l.map nD)) = _
    simp [toPy, toPys_log]
  rw [opEqF_py s p1 p1 (shaped_log l).2 (shaped_log l).2 rfl]
  show R.ok (D.bl (f (PyData.eqvAll (pyL l) (pyL l)))) s = _
  rw [eqv_log]
  simp
theorem Ef.frm {y : Sys} {s s' : S} {e : Nat × D × List Nat} {p f : Nat} (h : Ef y s e) (hp : Pen p f s) (hf : Frm p s s') : Ef y s' e := ⟨hf.get h.at_ (fun z => by
  obtain ⟨a, m, c, h1, _⟩ := hp
  have := h.at_
  unfold isE at this
  rw [z, h1] at this
  cases this), h.gd, h.mo⟩
def rD (e : Nat × D × List Nat) : D := .tup [eD e, logD e.2.2]
theorem zip_eD (es : List (Nat × D × List Nat)) : zipD (es.map eD) (es.map fun e => logD e.2.2) = es.map rD := by
  unfold zipD
  induction es with
  | nil => rfl
  | cons e es ih => simp [ih, rD]
/-- the effects of some rows -/
theorem rows_ok {y : Sys} (hy : y.Ok) {p f : Nat} {ρ : Ev} {i : Nat} {el : ME} (hel : ∀ (gs : List Nat) (s : S), MovOk y gs → ∃ t, el (ρ.set i (some (logD gs))) s = .ok (.obj s.length) (s ++ effF y (logD gs) :: t)) (rows : List (List Nat)) (hm : ∀ r ∈ rows, MovOk y r) {s : S} (hp : Pen p f s) :
    wp (llc (.one i) mYes el ρ (rows.map logD) [] s) fun ds s' => ∃ es : List (Nat × D × List Nat), ds = es.map eD ∧ es.map (fun e => e.2.2) = rows ∧ (∀ e ∈ es, Ef y s' e ∧ e.2.1 = logD e.2.2) ∧ Pen p f s' := by
  refine (wp_llc (I := fun ds acc s' => ∃ (es : List (Nat × D × List Nat)) (rest : List (List Nat)), acc = es.map eD ∧ ds = rest.map logD ∧ es.map (fun e => e.2.2) ++ rest = rows ∧ (∀ e ∈ es, Ef y s' e ∧ e.2.1 = logD e.2.2) ∧ Pen p f s') ?_ (rows.map logD) [] s ⟨[], rows, rfl, rfl, rfl, by simp, hp⟩).mono ?_
  · rintro d ds acc s' ⟨es, rest, rfl, hd, hr, he, hp'⟩
    cases rest with
    | nil => cases hd
    | cons gs rest =>
      rw [List.map_cons] at hd
      injection hd with h1 h2
      subst h1 h2
      have mo := hm gs (by rw [← hr]; simp)
      obtain ⟨t, ht⟩ := hel gs s' mo
      refine ⟨_, rfl, ?_⟩
      rw [ht, wp_ok]
      refine ⟨es ++ [(s'.length, logD gs, gs)], rest, by simp [eD], rfl, by rw [← hr]; simp, fun e h => ?_, hp'.app _⟩
      rcases List.mem_append.1 h with h | h
      · exact ⟨(he e h).1.app _, (he e h).2⟩
      · rw [List.mem_singleton.1 h]
        exact ⟨⟨isE_new y _ _ _, .inl rfl, mo⟩, rfl⟩
  · rintro ys s' ⟨es, rest, h1, h2, h3, h4, h5⟩
    have : rest = [] := by cases rest with
      | nil => rfl
      | cons a b => cases h2
    subst this
    exact ⟨es, h1, by simpa using h3, h4, h5⟩
/-- what is due for some rows -/
theorem dues_ok {y : Sys} (hy : y.Ok) {ρ : Ev} {i : Nat} {el : ME} (hel : ∀ (gs : List Nat) (s : S), MovOk y gs → ∃ t, el (ρ.set i (some (logD gs))) s = .ok (tellD y gs) (s ++ t)) : ∀ (rows : List (List Nat)) (acc : List D) (s : S), (∀ r ∈ rows, MovOk y r) →
    ∃ t, llc (.one i) mYes el ρ (rows.map logD) acc s = .ok (acc ++ rows.map (tellD y)) (s ++ t)
  | [], acc, s, _ => ⟨[], by simp [llc]⟩
  | r :: rows, acc, s, h => by
    obtain ⟨t, ht⟩ := hel r s (h r (List.mem_cons_self ..))
    obtain ⟨t2, ht2⟩ := dues_ok hy hel rows (acc ++ [tellD y r]) (s ++ t) fun x hx => h x (List.mem_cons_of_mem _ hx)
    refine ⟨t ++ t2, ?_⟩
    rw [List.map_cons]
    unfold llc
    have tg : tgM (.one i) (logD r) ρ = some (ρ.set i (some (logD r))) := rfl
    simp [tg, ht, ht2]
section
variable {y : Sys} {g g1 g2 : D} {gs l1 l2 : List Nat} {s : S} {a b : Nat} {ρ : Ev}
theorem call_list (hy : y.Ok) (ha : isE s a y g) (hg : GD g gs) (mo : MovOk y gs) (h5 : ρ[5]? = some (some (.lst (y.reach.map nD)))) (h8 : ρ[8]? = some (some (.obj a))) (h9 : ρ[9]? = some (some (logD gs))) (hl : 20 < ρ.length) :
    mBin opNe (mLc (mSrc (mVar 5)) (.one 20) mYes (mCallI [("Effect", fCal)] (mVar 8) (mCons (mVar 20) mNil)) [20]) (mCall fList (mCons (mVar 9) mNil)) ρ s = .ok (.bl false) s := by
  have hr := reach_l6 hy
  have c : mLc (mSrc (mVar 5)) (.one 20) mYes (mCallI [("Effect", fCal)] (mVar 8) (mCons (mVar 20) mNil)) [20] ρ s = .ok (.lst (gs.map nD)) s := by
    simp only [mLcF_eq, mSrc_eq, mVar_eq, h5, vg_some, R.bnd_ok, srcF_lst]
    rw [lcF_fix (by simp; omega) rfl, llc_map (f := nD) (g := fun x => nD (stp y gs x)) y.reach [] (fun x hx => ⟨_, rfl, by
      have r8 : (((ρ.set 20 none).set 20 (some (nD x))))[8]? = some (some (.obj a)) := by
        rw [List.getElem?_set_ne (by decide), List.getElem?_set_ne (by decide)]
        exact h8
      have r20 : (((ρ.set 20 none).set 20 (some (nD x))))[20]? = some (some (nD x)) := by
        rw [List.getElem?_set_self (by simpa using hl)]
      have := mCallI_at (c := "Effect") (m := fCal) (mf := mVar 8) (ms := mCons (mVar 20) mNil) (ρ := (ρ.set 20 none).set 20 (some (nD x))) (s := s) (n := a) (fs := effFs y g) (ds := [nD x]) (by simp only [mVar_eq, r8, vg_some]) (by simp only [mCons_eq, mVar_eq, r20, vg_some, R.bnd_ok, mNil_eq]) ha
      show mCallI [("Effect", fCal)] (mVar 8) (mCons (mVar 20) mNil) ((ρ.set 20 none).set 20 (some (nD x))) s = _
      rw [this, fCal_ok ha hg mo hx, retag_ok]⟩)]
    have : (y.reach.map fun x => nD (stp y gs x)) = gs.map nD := by
      have e := itL_one hy mo
      conv => rhs; rw [← e]
      simp [itL, itr, Function.comp_def]
    rw [List.nil_append, this, R.bnd_ok, finL_eq]
  have fl : fList [logD gs] s = .ok (.lst (gs.map nD)) s := rfl
  have ne : opNe (.lst (gs.map nD)) (.lst (gs.map nD)) s = .ok (.bl false) s := lst_eq gs (fun b => !b) s
  simp only [mBin_eq, c, R.bnd_ok, mCall_eq, mCons_eq, mVar_eq, h9, vg_some, mNil_eq, fl, ne]
theorem add_turn (hy : y.Ok) (ha : isE s a y (logD l1)) (m1 : MovOk y l1) (hb : isE s b y (logD l2)) (m2 : MovOk y l2) (h4 : ρ[4]? = some (some y.D)) (h5 : ρ[5]? = some (some (.lst (y.reach.map nD)))) (h8 : ρ[8]? = some (some (.obj a))) (h9 : ρ[9]? = some (some (logD l1)))
    (h10 : ρ[10]? = some (some (.obj b))) (h11 : ρ[11]? = some (some (logD l2))) :
    ∃ t, mUser m__law_same (mCons (mUser eSeen (mCons (mBin (opAddI [("Effect", fAdd)]) (mVar 8) (mVar 10)) mNil)) (mCons (mUser eDue (mCons (mVar 4) (mCons (mUser lBeh (mCons (mVar 5) (mCons (mVar 9) (mCons (mVar 11) mNil)))) mNil))) mNil)) ρ s = .ok (.bl true) (s ++ t) := by
  obtain ⟨t, ht⟩ := add_ok hy ha (.inl rfl) m1 hb (.inl rfl) m2
  have mb := m1.bhd m2
  have hn := isE_new y (logD (bhd y l2 l1)) s t
  refine ⟨effF y (logD (bhd y l2 l1)) :: t ++ gar m__law_reached [y.D] (s ++ effF y (logD (bhd y l2 l1)) :: t), ?_⟩
  have sm := fun s => same_py (fine_tell hy mb) (tell_py (.inl rfl)) (by decide) (by decide) s
  simp only [mUser_eq, mCons_eq, mBin_eq, mVar_eq, h8, h10, vg_some, R.bnd_ok, ht, mNil_eq, fSeen_ok hy (.inl rfl) hn, retag_ok, h4, h5, h9, h11, lBeh_ok hy (.inl rfl) m1 (.inl rfl) m2, eDue_ok hy mb, sm]
  simp
theorem mul_turn (hy : y.Ok) (ha : isE s a y (logD l1)) (m1 : MovOk y l1) {m : Nat} (hm : m ≤ 10 ^ 12) (h4 : ρ[4]? = some (some y.D)) (h5 : ρ[5]? = some (some (.lst (y.reach.map nD)))) (h8 : ρ[8]? = some (some (.obj a))) (h9 : ρ[9]? = some (some (logD l1)))
    (h12 : ρ[12]? = some (some (.int (m : Int)))) :
    wp (mUser m__law_same (mCons (mUser eSeen (mCons (mBin (opMulI [("Effect", fMul)]) (mVar 8) (mVar 12)) mNil)) (mCons (mUser eDue (mCons (mVar 4) (mCons (mUser lTim (mCons (mVar 5) (mCons (mVar 9) (mCons (mVar 12) mNil)))) mNil))) mNil)) ρ s) fun d s' => d = .bl true ∧ ∃ t, s' = s ++ t := by
  obtain ⟨d, s1, e1, r, t1, g', rfl, rfl, hn, hg⟩ := (mul_okI hy ha (.inl rfl) m1 hm).ok
  have mi := itL_mov m1 m
  obtain ⟨d, s2, e2, rfl, t2, rfl⟩ := (lTim_ok hy m1 m (s ++ t1)).ok
  have sm := fun s => same_py (fine_tell hy mi) (tell_py hg) (by decide) (by decide) s
  simp only [mUser_eq, mCons_eq, mBin_eq, mVar_eq, h8, h12, vg_some, R.bnd_ok, e1, mNil_eq, fSeen_ok hy hg hn, retag_ok, h4, h5, h9, e2, eDue_ok hy mi, sm, wp_ok]
  exact ⟨trivial, _, by rw [List.append_assoc, List.append_assoc]⟩
end
theorem law35 (ns : List Int) : ∃ s', m_law [.scr (ns.map D.int)] [] = .ok (.bl true) s' := by
  refine law_B (N := 16) (n := 4) (c := 3) (by omega) (by omega) ?_
  intro y k d3 p f rest s hy hr hp
  obtain ⟨x5, x6, x7, x8, x9, x10, x11, x12, x13, x14, x15, x16, x17, x18, x19, x20, rfl⟩ : ∃ x5 x6 x7 x8 x9 x10 x11 x12 x13 x14 x15 x16 x17 x18 x19 x20, rest = [x5, x6, x7, x8, x9, x10, x11, x12, x13, x14, x15, x16, x17, x18, x19, x20] := by
    match rest, hr with
    | [x5, x6, x7, x8, x9, x10, x11, x12, x13, x14, x15, x16, x17, x18, x19, x20], _ => exact ⟨_, _, _, _, _, _, _, _, _, _, _, _, _, _, _, _, rfl⟩
  rw [e35_0, e35_1, e35_2, e35_3, e35_4, e35_5, e35_6, e35_7, e35_8, e35_9, e35_10]
  have h6 := hy.o6
  have hr6 := reach_l6 hy
  have hp := hp.app (gar m__law_reached [y.D] s)
  simp only [mSeq_eq, mAsg_eq, mUser_eq, mCons_eq, mVar_eq, mC_eq, get_0, List.getElem?_cons_succ, vg_some, R.bnd_ok, mNil_eq, law_reached_eq hy, retag_ok, gN_eq, List.set_cons_succ, List.set_cons_zero, seqF_nx, mLst_eq, wp_bnd, wp_retag]
  generalize s ++ gar m__law_reached [y.D] s = s1 at hp
  refine (wp_log hy (c := 4) (f := f + 90000) (hp.mono (by omega)) rfl (by omega)).mono ?_
  rintro d s2 ⟨l, rfl, hl, hv, hp, _⟩
  have hp := hp.app (gar m__law_reached [y.D] s2)
  simp only [wp_ok, R.bnd_ok, mUser_eq, mCons_eq, mVar_eq, mC_eq, mNil_eq, get_0, List.getElem?_cons_succ, vg_some, wp_bnd, wp_retag, lmoves_ok hy hv, retag_ok]
  generalize s2 ++ gar m__law_reached [y.D] s2 = s3 at hp
  refine (any_moves_ok hy (f := f + 80000) (hp.mono (by omega))).mono ?_
  rintro d s4 ⟨r1, rfl, m1, hp⟩
  try simp only [wp_ok, R.bnd_ok, mUser_eq, mCons_eq, mVar_eq, mC_eq, mNil_eq, get_0, List.getElem?_cons_succ, vg_some, wp_bnd, wp_retag]
  refine (any_moves_ok hy (f := f + 70000) (hp.mono (by omega))).mono ?_
  rintro d s5 ⟨r2, rfl, m2, hp⟩
  have m0 := movL_ok hy hv
  generalize movL y l = r0 at m0
  simp only [wp_ok, R.bnd_ok, List.length_cons, List.length_nil, Nat.reduceAdd, LIM_eq, Nat.reduceLeDiff, if_true, List.set_cons_succ, List.set_cons_zero, seqF_nx, mSeq_eq, mAsg_eq, mLcF_eq, mSrc_eq, mVar_eq, get_0, List.getElem?_cons_succ, vg_some, srcF_lst, gN_eq]
  rw [lcF_fix (by simp) rfl]
  simp only [wipeD_cons, wipeD_nil, List.set_cons_succ, List.set_cons_zero, wp_bnd]
  refine (rows_ok hy (i := 18) (fun gs s mo => ?_) [r0, r1, r2] (fun r h => ?_) hp).mono ?_
  · simp only [List.set_cons_succ, List.set_cons_zero]
    exact fnew hy (.inl rfl) mo (by simp only [mCons_eq, mVar_eq, get_0, List.getElem?_cons_succ, vg_some, R.bnd_ok, mNil_eq])
  · simp only [List.mem_cons, List.not_mem_nil, or_false] at h
    rcases h with rfl | rfl | rfl
    · exact m0
    · exact m1
    · exact m2
  rintro ds s6 ⟨es, rfl, hes, hE, hp⟩
  have hrows : [logD r0, logD r1, logD r2] = es.map fun e => logD e.2.2 := by
    have := congrArg (List.map logD) hes
    simpa [Function.comp_def] using this.symm
  have hel : es.length = 3 := by simpa using congrArg List.length hes
  have hzip : ∀ (ρ : Ev) (s : S), ρ[7]? = some (some (.lst (es.map eD))) → ρ[6]? = some (some (.lst [logD r0, logD r1, logD r2])) → mZip (mCons (mVar 7) (mCons (mVar 6) mNil)) ρ s = .ok (.fix (es.map rD)) s := fun ρ s h7 h6 => by
    unfold mZip
    simp only [mCons_eq, mVar_eq, h7, h6, vg_some, R.bnd_ok, mNil_eq]
    rw [hrows, ← zip_eD]
    rfl
  have hMo : ∀ {s : S} {e : Nat × D × List Nat}, (Ef y s e ∧ e.2.1 = logD e.2.2) → isE s e.1 y (logD e.2.2) := fun {s e} h => by
    have := h.1.at_
    rw [h.2] at this
    exact this
  simp only [finL_eq, wp_ok, seqF_nx, mSeq_eq, mFor_eq]
  rw [hzip _ _ rfl rfl]
  simp only [R.bnd_ok, forF_fix, wp_bnd]
  refine wp_each (f := rD) (fun pre ρ s' => (∃ x8 x9 x10 x11 x12 x13 x14 x15 x16 x17 x18 x19 x20 : Option D, ρ = [some (.scr (ns.map D.int)), some k, some (.obj p), some d3, some y.D, some (.lst (y.reach.map nD)), some (.lst [logD r0, logD r1, logD r2]), some (.lst (es.map eD)), x8, x9, x10, x11, x12, x13, x14, x15, x16, x17, x18, x19, x20]) ∧ (∀ e ∈ es, Ef y s' e ∧ e.2.1 = logD e.2.2) ∧ Pen p (f + 60000 - 100 * pre.length) s') es _ _
    ⟨⟨_, _, _, _, _, _, _, _, _, _, _, _, _, rfl⟩, hE, hp.mono (by simp)⟩ ?_ ?_
  · rintro pre e rest ρ s' he ⟨⟨x8, x9, x10, x11, x12, x13, x14, x15, x16, x17, x18, x19, x20, rfl⟩, hE, hp⟩
    have hm : e ∈ es := by rw [he]; simp
    have hpl : pre.length ≤ 2 := by
      have := congrArg List.length he
      simp at this
      omega
    have mo := (hE e hm).1.mo
    have c1 := call_list hy (hMo (hE e hm)) (.inl rfl) mo (ρ := [some (.scr (ns.map D.int)), some k, some (.obj p), some d3, some y.D, some (.lst (y.reach.map nD)), some (.lst [logD r0, logD r1, logD r2]), some (.lst (es.map eD)), some (eD e), some (logD e.2.2), x10, x11, x12, x13, x14, x15, x16, x17, x18, x19, x20]) rfl rfl rfl (by simp)
    simp only [rD, gT_eq, gConsM_eq, gN_eq, gNilM_eq, List.length_cons, List.length_nil, Nat.reduceAdd, if_true, R.bnd_ok, wp_ok, List.set_cons_succ, List.set_cons_zero, mSeq_eq, mIfS_eq, mB_eq, c1, asB_ok, Bool.false_eq_true, if_false, mSkip_eq, seqF_nx, mFor_eq]
    rw [hzip _ _ rfl rfl]
    simp only [R.bnd_ok, forF_fix, wp_bnd]
    refine wp_each (f := rD) (fun pre2 ρ s' => (∃ x10 x11 x12 x13 x14 x15 x16 x17 x18 x19 x20 : Option D, ρ = [some (.scr (ns.map D.int)), some k, some (.obj p), some d3, some y.D, some (.lst (y.reach.map nD)), some (.lst [logD r0, logD r1, logD r2]), some (.lst (es.map eD)), some (eD e), some (logD e.2.2), x10, x11, x12, x13, x14, x15, x16, x17, x18, x19, x20]) ∧ (∀ e ∈ es, Ef y s' e ∧ e.2.1 = logD e.2.2) ∧ Pen p (f + 60000 - 100 * pre.length) s') es _ _
      ⟨⟨_, _, _, _, _, _, _, _, _, _, _, rfl⟩, hE, hp⟩ ?_ ?_
    · rintro pre2 e2 rest2 ρ s2 he2 ⟨⟨x10, x11, x12, x13, x14, x15, x16, x17, x18, x19, x20, rfl⟩, hE, hp⟩
      have hm2 : e2 ∈ es := by rw [he2]; simp
      obtain ⟨t, ht⟩ := add_turn hy (hMo (hE e hm)) mo (hMo (hE e2 hm2)) (hE e2 hm2).1.mo (ρ := [some (.scr (ns.map D.int)), some k, some (.obj p), some d3, some y.D, some (.lst (y.reach.map nD)), some (.lst [logD r0, logD r1, logD r2]), some (.lst (es.map eD)), some (eD e), some (logD e.2.2), some (eD e2), some (logD e2.2.2), x12, x13, x14, x15, x16, x17, x18, x19, x20]) rfl rfl rfl rfl rfl rfl
      simp only [rD, gT_eq, gConsM_eq, gN_eq, gNilM_eq, List.length_cons, List.length_nil, Nat.reduceAdd, if_true, R.bnd_ok, wp_ok, List.set_cons_succ, List.set_cons_zero, mIfS_eq, mNotT_eq, mB_eq, ht, asB_ok, Bool.not_true, Bool.false_eq_true, if_false, mSkip_eq, turnQ_nx]
      exact ⟨⟨_, _, _, _, _, _, _, _, _, _, _, rfl⟩, fun e h => ⟨(hE e h).1.app t, (hE e h).2⟩, hp.app t⟩
    · rintro ρ s2 ⟨⟨x10, x11, x12, x13, x14, x15, x16, x17, x18, x19, x20, rfl⟩, hE, hp⟩
      simp only [seqF_nx, mFor_eq, mSrc_eq, mLst_eq, mCons_eq, mC_eq, mUser_eq, mVar_eq, get_0, List.getElem?_cons_succ, vg_some, R.bnd_ok, mNil_eq, wp_bnd, wp_retag]
      refine (wp_draw (n := 40) (f := f + 59990 - 100 * pre.length) (hp.mono (by omega)) (by omega) (by omega)).mono ?_
      rintro d s3 ⟨k1, rfl, hk1, hp3, hf3⟩
      have pw : ∀ s : S, opPow (.int 10) (.int 12) s = .ok (.int 1000000000000) s := fun s => pow_ok s (i := 10) (j := 12) (by decide)
      simp only [wp_ok, R.bnd_ok, mBin_eq, mC_eq, pw, mUser_eq, mCons_eq, mVar_eq, mNil_eq, get_0, List.getElem?_cons_succ, vg_some, wp_bnd, wp_retag]
      refine (wp_draw (n := 60) (f := f + 59980 - 100 * pre.length) (hp3.mono (by omega)) (by omega) (by omega)).mono ?_
      rintro d s4 ⟨k2, rfl, hk2, hp4, hf4⟩
      have hE4 : ∀ e ∈ es, Ef y s4 e ∧ e.2.1 = logD e.2.2 := fun e h => ⟨((hE e h).1.frm hp hf3).frm hp3 hf4, (hE e h).2⟩
      have sb : ∀ s : S, opSub (.int 1000000000000) (nD k2) s = .ok (nD (1000000000000 - k2)) s := fun s => by
        have : (1000000000000 : Int) - (k2 : Int) = ((1000000000000 - k2 : Nat) : Int) := by omega
        unfold nD
        rw [opSub_int, this]
      have hl5 : [D.int 0, .int 1, .int 2, nD k1, nD (1000000000000 - k2)] = [0, 1, 2, k1, 1000000000000 - k2].map nD := rfl
      simp only [wp_ok, R.bnd_ok, sb, List.length_cons, List.length_nil, Nat.reduceAdd, LIM_eq, Nat.reduceLeDiff, if_true, srcF_lst, forF_fix]
      rw [hl5]
      refine wp_each (f := nD) (fun pre3 ρ s' => (∃ x10 x11 x12 x13 x14 x15 x16 x17 x18 x19 x20 : Option D, ρ = [some (.scr (ns.map D.int)), some k, some (.obj p), some d3, some y.D, some (.lst (y.reach.map nD)), some (.lst [logD r0, logD r1, logD r2]), some (.lst (es.map eD)), some (eD e), some (logD e.2.2), x10, x11, x12, x13, x14, x15, x16, x17, x18, x19, x20]) ∧ (∀ e ∈ es, Ef y s' e ∧ e.2.1 = logD e.2.2) ∧ Pen p (f + 59980 - 100 * pre.length) s') [0, 1, 2, k1, 1000000000000 - k2] _ _
        ⟨⟨_, _, _, _, _, _, _, _, _, _, _, rfl⟩, hE4, hp4⟩ ?_ ?_
      · rintro pre3 m rest3 ρ s2 he3 ⟨⟨x10, x11, x12, x13, x14, x15, x16, x17, x18, x19, x20, rfl⟩, hE, hp⟩
        have hmm : m ∈ [0, 1, 2, k1, 1000000000000 - k2] := by rw [he3]; simp
        have hm12 : m ≤ 10 ^ 12 := by
          simp only [List.mem_cons, List.not_mem_nil, or_false] at hmm
          omega
        obtain ⟨d, s5, e5, rfl, t, rfl⟩ := (mul_turn hy (hMo (hE e hm)) mo hm12 (ρ := [some (.scr (ns.map D.int)), some k, some (.obj p), some d3, some y.D, some (.lst (y.reach.map nD)), some (.lst [logD r0, logD r1, logD r2]), some (.lst (es.map eD)), some (eD e), some (logD e.2.2), x10, x11, some (.int (m : Int)), x13, x14, x15, x16, x17, x18, x19, x20]) rfl rfl rfl rfl rfl).ok
        simp only [gN_eq, wp_ok, List.set_cons_succ, List.set_cons_zero, mIfS_eq, mNotT_eq, mB_eq]
        rw [show nD m = .int (m : Int) from rfl, e5]
        simp only [asB_ok, R.bnd_ok, Bool.not_true, Bool.false_eq_true, if_false, mSkip_eq, wp_ok, turnQ_nx]
        exact ⟨⟨_, _, _, _, _, _, _, _, _, _, _, rfl⟩, fun e h => ⟨(hE e h).1.app t, (hE e h).2⟩, hp.app t⟩
      · rintro ρ s2 ⟨⟨x10, x11, x12, x13, x14, x15, x16, x17, x18, x19, x20, rfl⟩, hE, hp⟩
        simp only [turnQ_nx]
        exact ⟨⟨_, _, _, _, _, _, _, _, _, _, _, _, _, rfl⟩, hE, hp.mono (by simp; omega)⟩
  · rintro ρ s' ⟨⟨x8, x9, x10, x11, x12, x13, x14, x15, x16, x17, x18, x19, x20, rfl⟩, hE, hp⟩
    obtain ⟨e0, e1, e2, rfl⟩ : ∃ e0 e1 e2, es = [e0, e1, e2] := by
      match es, hel with
      | [a, b, c], _ => exact ⟨a, b, c, rfl⟩
    obtain ⟨q0, q1, q2⟩ : e0.2.2 = r0 ∧ e1.2.2 = r1 ∧ e2.2.2 = r2 := by simpa using hes
    subst q0 q1 q2
    have E0 := hE e0 (by simp)
    have E1 := hE e1 (by simp)
    have E2 := hE e2 (by simp)
    have b1 := lBeh_ok hy (g1 := logD e2.2.2) (.inl rfl) m2 (g2 := logD e0.2.2) (.inl rfl) m0 s'
    have m3 := m2.bhd m0
    have b2 := lBeh_ok hy (g1 := logD (bhd y e0.2.2 e2.2.2)) (.inl rfl) m3 (g2 := logD e1.2.2) (.inl rfl) m1 s'
    have m4 := m3.bhd m1
    have n0 : opIx (.lst [logD e0.2.2, logD e1.2.2, logD e2.2.2]) (.int 0) s' = .ok (logD e0.2.2) s' := by simp
    have n1 : ∀ s', opIx (.lst [logD e0.2.2, logD e1.2.2, logD e2.2.2]) (.int 1) s' = .ok (logD e1.2.2) s' := fun _ => rfl
    have n2 : opIx (.lst [logD e0.2.2, logD e1.2.2, logD e2.2.2]) (.int 2) s' = .ok (logD e2.2.2) s' := by simp
    have v0 : opIx (.lst ([e0, e1, e2].map eD)) (.int 0) s' = .ok (eD e0) s' := by simp
    have v1 : ∀ s', opIx (.lst ([e0, e1, e2].map eD)) (.int 1) s' = .ok (eD e1) s' := fun _ => rfl
    have v2 : opIx (.lst ([e0, e1, e2].map eD)) (.int 2) s' = .ok (eD e2) s' := by simp
    obtain ⟨d, s7, j7, r7, t7, g7, rfl, rfl, E7, _⟩ := (fJoi_ok hy e2 [e0, e1] (s := s') (fun e h => by
      simp only [List.mem_cons, List.not_mem_nil, or_false] at h
      rcases h with rfl | rfl | rfl
      · exact E2.1
      · exact E0.1
      · exact E1.1) (by simp)).ok
    have j7' : fJoi [.tup [eD e2, eD e0, eD e1]] s' = .ok (.obj r7) (s' ++ t7) := j7
    have E7 : Ef y (s' ++ t7) (r7, g7, bhd y e1.2.2 (bhd y e0.2.2 e2.2.2)) := E7
    have hE := fun e h => (⟨(hE e h).1.app t7, (hE e h).2⟩ : Ef y (s' ++ t7) e ∧ e.2.1 = logD e.2.2)
    have hp := hp.app t7
    have sm := fun s => same_py (fine_tell hy m4) (tell_py E7.gd) (by decide) (by decide) s
    generalize s' ++ t7 = s8 at j7' E7 hE hp
    simp only [seqF_nx, mSeq_eq, mAsg_eq, mUser_eq, mCons_eq, mVar_eq, get_0, List.getElem?_cons_succ, vg_some, R.bnd_ok, mBin_eq, mC_eq, n2, n0, mNil_eq, b1, retag_ok, n1, b2, gN_eq, List.set_cons_succ, List.set_cons_zero, mTup_eq, v2, v0, v1, List.length_cons, List.length_nil, Nat.reduceAdd, LIM_eq, Nat.reduceLeDiff, if_true, j7', mIfS_eq, mOrT_eq, mNotT_eq, mB_eq, fSeen_ok hy E7.gd E7.at_, eDue_ok hy m4, sm, asB_ok, Bool.not_true, Bool.false_eq_true, if_false]
    have hE := fun e h => (⟨(hE e h).1.app (gar m__law_reached [y.D] s8), (hE e h).2⟩ : Ef y (s8 ++ gar m__law_reached [y.D] s8) e ∧ e.2.1 = logD e.2.2)
    have hp := hp.app (gar m__law_reached [y.D] s8)
    generalize s8 ++ gar m__law_reached [y.D] s8 = s9 at hE hp
    obtain ⟨d, s7, j7, r7, t7, g7, rfl, rfl, E7, hr7⟩ := (fJoi_ok hy e1 [] (s := s9) (fun e h => by
      rw [List.mem_singleton.1 h]; exact (hE e1 (by simp)).1) (by simp)).ok
    have j8 : fJoi [.tup [eD e1]] s9 = .ok (.obj r7) (s9 ++ t7) := j7
    have hr7 := hr7 rfl
    subst hr7
    have hE := fun e h => (⟨(hE e h).1.app t7, (hE e h).2⟩ : Ef y (s9 ++ t7) e ∧ e.2.1 = logD e.2.2)
    have hp := hp.app t7
    generalize s9 ++ t7 = s10 at j8 hE hp
    have E1 := (hE e1 (by simp)).1
    have ne : opNeI [("Effect", fEqI)] (.obj e1.1) (eD e1) s10 = .ok (.bl false) s10 := by
      rw [show opNeI [("Effect", fEqI)] (.obj e1.1) (eD e1) s10 = _ from neI_okE hy E1.at_ E1.gd E1.at_ E1.gd]
      simp
    simp only [j8, R.bnd_ok, retag_ok, v1, ne, asB_ok, Bool.false_eq_true, if_false, mSkip_eq, seqF_nx, mSeq_eq, mPar_eq, mCons_eq, mLcF_eq, mRng1_bnd]
    simp only [mCons_eq, mBin_eq, mC_eq, mUser_eq, mVar_eq, get_0, List.getElem?_cons_succ, vg_some, R.bnd_ok, mNil_eq, wp_bnd, wp_retag]
    refine (wp_draw (n := 5) (f := f + 59000) (hp.mono (by simp)) (by omega) (by omega)).mono ?_
    rintro d s11 ⟨kk, rfl, hk, hp11, hf11⟩
    have ad : opAdd (.int 5) (nD kk) s11 = .ok (.int ((5 + kk : Nat) : Int)) s11 := by
      unfold nD
      rw [opAdd_int]
      congr 2
    simp only [wp_ok, R.bnd_ok, ad]
    rw [rng1F_ok _ ⟨by omega, by omega⟩]
    simp only [R.bnd_ok, Int.toNat_natCast, wp_ok]
    rw [lcF_fix (by rw [rngD_len]; omega) rfl]
    simp only [wipeD_cons, wipeD_nil, List.set_cons_succ, List.set_cons_zero, wp_bnd]
    refine (wp_rolls (m := 3) (f := f + 50000) (rngD 0 (5 + kk)) ?_ (by omega) (by omega) (hp11.mono (by rw [rngD_len]; omega))).mono ?_
    · intro d s Q h
      simpa using h
    rintro ys s12 ⟨l, rfl, hl, hx, hp12, hf12⟩
    have hE := fun e h => (⟨((hE e h).1.frm hp hf11).frm hp11 hf12, (hE e h).2⟩ : Ef y s12 e ∧ e.2.1 = logD e.2.2)
    have ft : ∀ s, fTuple [.lst (y.reach.map nD)] s = .ok (logD y.reach) s := fun _ => rfl
    simp only [finL_eq, wp_ok, R.bnd_ok, mCall_eq, mCons_eq, mVar_eq, get_0, List.getElem?_cons_succ, vg_some, mNil_eq, ft, List.set_cons_succ, List.set_cons_zero, seqF_nx, mSeq_eq, mFor_eq, mSrc_eq, srcF_lst, forF_fix, wp_bnd]
    let sel : Nat → Nat × D × List Nat := fun i => [e0, e1, e2].getD i e0
    have hsel : ∀ i, i < 3 → sel i ∈ [e0, e1, e2] := fun i hi => by
      have : i = 0 ∨ i = 1 ∨ i = 2 := by omega
      rcases this with rfl | rfl | rfl <;> simp [sel]
    have rix : ∀ i, i < 3 → ∀ s : S, opIx (.lst [logD e0.2.2, logD e1.2.2, logD e2.2.2]) (nD i) s = .ok (logD (sel i).2.2) s := fun i hi s => by
      have : i = 0 ∨ i = 1 ∨ i = 2 := by omega
      rcases this with rfl | rfl | rfl <;> rfl
    have vix : ∀ i, i < 3 → ∀ s : S, opIx (.lst ([e0, e1, e2].map eD)) (nD i) s = .ok (eD (sel i)) s := fun i hi s => by
      have : i = 0 ∨ i = 1 ∨ i = 2 := by omega
      rcases this with rfl | rfl | rfl <;> rfl
    have smo : ∀ i, i < 3 → MovOk y (sel i).2.2 := fun i hi => (hE _ (hsel i hi)).1.mo
    let wh : List Nat → List Nat := fun pre => pre.foldl (fun acc i => bhd y (sel i).2.2 acc) y.reach
    refine wp_each (f := nD) (fun pre ρ s' => (∃ x17 : Option D, ρ = [some (.scr (ns.map D.int)), some k, some (.obj p), some d3, some y.D, some (.lst (y.reach.map nD)), some (.lst [logD e0.2.2, logD e1.2.2, logD e2.2.2]), some (.lst ([e0, e1, e2].map eD)), x8, x9, x10, x11, x12, some (logD (bhd y e1.2.2 (bhd y e0.2.2 e2.2.2))), some (.obj r7), some (.lst (l.map nD)), some (logD (wh pre)), x17, x18, x19, x20]) ∧ s' = s12 ∧ MovOk y (wh pre)) l _ _ ⟨⟨_, rfl⟩, rfl, reach_mov y⟩ ?_ ?_
    · rintro pre i rest ρ s' he ⟨⟨x17, rfl⟩, rfl, hw⟩
      have hi : i < 3 := hx i (by rw [he]; simp)
      have hb := lBeh_ok hy (.inl rfl) hw (.inl rfl) (smo i hi) s'
      have fe : wh (pre ++ [i]) = bhd y (sel i).2.2 (wh pre) := by
        show (pre ++ [i]).foldl _ _ = _
        rw [List.foldl_append]
        rfl
      simp only [gN_eq, wp_ok, List.set_cons_succ, List.set_cons_zero, mAsg_eq, mUser_eq, mCons_eq, mBin_eq, mVar_eq, get_0, List.getElem?_cons_succ, vg_some, R.bnd_ok, rix i hi, mNil_eq, hb, retag_ok, turnQ_nx]
      rw [fe]
      exact ⟨⟨_, rfl⟩, trivial, hw.bhd (smo i hi)⟩
    · rintro ρ s' ⟨⟨x17, rfl⟩, rfl, hw⟩
      obtain ⟨i, is, rfl⟩ : ∃ i is, l = i :: is := by
        cases l with
        | nil => rw [rngD_len] at hl; simp at hl; omega
        | cons i is => exact ⟨i, is, rfl⟩
      have hlen : (i :: is).length ≤ 9 := by rw [hl, rngD_len]; omega
      have c1 : llc (.one 17) mYes (mBin opIx (mVar 7) (mVar 17)) [some (.scr (ns.map D.int)), some k, some (.obj p), some d3, some y.D, some (.lst (y.reach.map nD)), some (.lst [logD e0.2.2, logD e1.2.2, logD e2.2.2]), some (.lst ([e0, e1, e2].map eD)), x8, x9, x10, x11, x12, some (logD (bhd y e1.2.2 (bhd y e0.2.2 e2.2.2))), some (.obj r7), some (.lst ((i :: is).map nD)), some (logD (wh (i :: is))), none, x18, x19, x20] ((i :: is).map nD) [] s' = .ok ([] ++ (i :: is).map fun i => eD (sel i)) s' :=
        llc_map (f := nD) (g := fun i => eD (sel i)) (i :: is) [] fun z hz => ⟨_, rfl, by
          simp only [List.set_cons_succ, List.set_cons_zero, mBin_eq, mVar_eq, get_0, List.getElem?_cons_succ, vg_some, R.bnd_ok, vix z (hx z hz)]⟩
      obtain ⟨d, s14, j9, r9, t9, g9, rfl, rfl, E9, _⟩ := (fJoi_ok hy (sel i) (is.map sel) (s := s') (fun e h => by
        rcases List.mem_cons.1 h with rfl | h
        · exact (hE _ (hsel i (hx i (by simp)))).1
        · obtain ⟨z, hz, rfl⟩ := List.mem_map.1 h
          exact (hE _ (hsel z (hx z (by simp [hz])))).1) (by simp at hlen ⊢; omega)).ok
      have j9' : fJoi [.tup ((i :: is).map fun i => eD (sel i))] s' = .ok (.obj r9) (s' ++ t9) := by
        have ej : ((i :: is).map fun i => eD (sel i)) = (sel i :: is.map sel).map eD := by
          rw [List.map_cons, List.map_cons, List.map_map]
          rfl
        rw [ej]
        exact j9
      have ew : (is.map sel).foldl (fun acc e => bhd y e.2.2 acc) (sel i).2.2 = wh (i :: is) := by
        show _ = is.foldl (fun acc i => bhd y (sel i).2.2 acc) (bhd y (sel i).2.2 y.reach)
        have : bhd y (sel i).2.2 y.reach = (sel i).2.2 := itL_one hy (smo i (hx i (by simp)))
        rw [this, List.foldl_map]
      have E9 : Ef y (s' ++ t9) (r9, g9, wh (i :: is)) := by
        rw [← ew]
        exact E9
      have ft2 : ∀ (ds : List D) (s : S), fTuple [.lst ds] s = .ok (.tup ds) s := fun _ _ => rfl
      have ne : opNe g9 (logD (wh (i :: is))) (s' ++ t9) = .ok (.bl false) (s' ++ t9) := by
        rw [show opNe g9 (logD (wh (i :: is))) (s' ++ t9) = _ from GD.eq E9.gd (.inl rfl) (fun b => !b) _]
        simp
      have lc : lcF finL (.one 17) mYes (mBin opIx (mVar 7) (mVar 17)) [17] [some (.scr (ns.map D.int)), some k, some (.obj p), some d3, some y.D, some (.lst (y.reach.map nD)), some (.lst [logD e0.2.2, logD e1.2.2, logD e2.2.2]), some (.lst ([e0, e1, e2].map eD)), x8, x9, x10, x11, x12, some (logD (bhd y e1.2.2 (bhd y e0.2.2 e2.2.2))), some (.obj r7), some (.lst ((i :: is).map nD)), some (logD (wh (i :: is))), x17, x18, x19, x20] (.fix ((i :: is).map nD)) s' = .ok (.lst ((i :: is).map fun i => eD (sel i))) s' := by
        rw [lcF_fix (by simp at hlen ⊢; omega) rfl]
        simp only [wipeD_cons, wipeD_nil, List.set_cons_succ, List.set_cons_zero]
        rw [c1]
        rfl
      have pm : mProp [("Effect", eMov)] (mUser fJoi (mCons (mCall fTuple (mCons (mLc (mSrc (mVar 15)) (.one 17) mYes (mBin opIx (mVar 7) (mVar 17)) [17]) mNil)) mNil)) [some (.scr (ns.map D.int)), some k, some (.obj p), some d3, some y.D, some (.lst (y.reach.map nD)), some (.lst [logD e0.2.2, logD e1.2.2, logD e2.2.2]), some (.lst ([e0, e1, e2].map eD)), x8, x9, x10, x11, x12, some (logD (bhd y e1.2.2 (bhd y e0.2.2 e2.2.2))), some (.obj r7), some (.lst ((i :: is).map nD)), some (logD (wh (i :: is))), x17, x18, x19, x20] s' = .ok g9 (s' ++ t9) := by
        unfold mProp
        simp only [mUser_eq, mCons_eq, mCall_eq, mLcF_eq, mSrc_eq, mVar_eq, get_0, List.getElem?_cons_succ, vg_some, R.bnd_ok, srcF_lst, lc, mNil_eq, ft2, j9', retag_ok, E9.at_.ins, List.lookup_cons, beq_self_eq_true, fMov_ok E9.at_, noX_ok]
      have hp12 := hp12.app t9
      have hE := fun e h => (⟨(hE e h).1.app t9, (hE e h).2⟩ : Ef y (s' ++ t9) e ∧ e.2.1 = logD e.2.2)
      simp only [seqF_nx, mSeq_eq, mIfS_eq, mNotT_eq, mB_eq, mBin_eq, pm, R.bnd_ok, mVar_eq, get_0, List.getElem?_cons_succ, vg_some, ne, asB_ok, Bool.false_eq_true, if_false, mSkip_eq]
      generalize s' ++ t9 = s15 at hp12 hE
      have M0 := (hE e0 (by simp)).1.mo
      have M1 := (hE e1 (by simp)).1.mo
      have M2 := (hE e2 (by simp)).1.mo
      have hrow : ∀ r ∈ [e0.2.2, e1.2.2, e2.2.2], MovOk y r := fun r h => by
        simp only [List.mem_cons, List.not_mem_nil, or_false] at h
        rcases h with rfl | rfl | rfl
        · exact M0
        · exact M1
        · exact M2
      have d1 := fun (ρ : Ev) (h8 : 8 < ρ.length) => llc_map (t := .one 8) (el := mUser eSeen (mCons (mVar 8) mNil)) (ρw := ρ) (s := s15) (f := eD) (g := fun e : Nat × D × List Nat => tellD y e.2.2) [e0, e1, e2] [] fun z hz => ⟨_, rfl, by
        have e8 : (ρ.set 8 (some (eD z)))[8]? = some (some (eD z)) := List.getElem?_set_self h8
        have hs := fSeen_ok hy (.inl rfl) (hMo (hE z hz))
        simp only [mUser_eq, mCons_eq, mVar_eq, e8, vg_some, R.bnd_ok, mNil_eq]
        rw [show eSeen [eD z] s15 = _ from hs]
        rfl⟩
      have d2 := fun (ρ : Ev) (h4 : ρ[4]? = some (some y.D)) (h18 : 18 < ρ.length) => dues_ok hy (ρ := ρ) (i := 18) (el := mUser eDue (mCons (mVar 4) (mCons (mVar 18) mNil))) (fun gs s mo => ⟨gar m__law_reached [y.D] s, by
        have e4 : (ρ.set 18 (some (logD gs)))[4]? = some (some y.D) := by rw [List.getElem?_set_ne (by decide)]; exact h4
        have e18 : (ρ.set 18 (some (logD gs)))[18]? = some (some (logD gs)) := List.getElem?_set_self h18
        simp only [mUser_eq, mCons_eq, mVar_eq, e4, e18, vg_some, R.bnd_ok, mNil_eq, eDue_ok hy mo, retag_ok]⟩) [e0.2.2, e1.2.2, e2.2.2] [] s15 hrow
      simp only [mUser_eq, mCons_eq, mLcF_eq, mSrc_eq, mVar_eq, get_0, List.getElem?_cons_succ, vg_some, R.bnd_ok, srcF_lst]
      rw [lcF_fix (by simp) rfl]
      simp only [wipeD_cons, wipeD_nil, List.set_cons_succ, List.set_cons_zero]
      rw [d1 _ (by simp)]
      simp only [List.nil_append, R.bnd_ok, finL_eq, List.map_cons, List.map_nil]
      rw [lcF_fix (by simp) rfl]
      simp only [wipeD_cons, wipeD_nil, List.set_cons_succ, List.set_cons_zero]
      obtain ⟨t, ht⟩ := d2 [some (.scr (ns.map D.int)), some k, some (.obj p), some d3, some y.D, some (.lst (y.reach.map nD)), some (.lst [logD e0.2.2, logD e1.2.2, logD e2.2.2]), some (.lst ([e0, e1, e2].map eD)), x8, x9, x10, x11, x12, some (logD (bhd y e1.2.2 (bhd y e0.2.2 e2.2.2))), some (.obj r7), some (.lst ((i :: is).map nD)), some (logD (wh (i :: is))), x17, none, x19, x20] rfl (by simp)
      simp only [List.map_cons, List.map_nil, List.nil_append] at ht
      rw [ht]
      have ff : Fine 5 3003 (.lst [tellD y e0.2.2, tellD y e1.2.2, tellD y e2.2.2]) := (fine_lst (k := 4) (n := 1000) fun d hd => by
        simp only [List.mem_cons, List.not_mem_nil, or_false] at hd
        rcases hd with rfl | rfl | rfl
        · exact fine_tell hy M0
        · exact fine_tell hy M1
        · exact fine_tell hy M2).mono (by decide) (by simp)
      simp only [R.bnd_ok, finL_eq, mNil_eq, same_ok ff (by decide) (by decide), retag_ok, asB_ok, Bool.not_true, Bool.false_eq_true, if_false, mSkip_eq, wp_ok]
      exact ⟨_, _, _, .inl rfl, rfl, (hp12.app t).mono (by omega)⟩
end VL
namespace Hd
open PySem PySem.Spec PyProof.Rows L2 VL
open W (top)
section
variable {P : Program} {w : World} {K : PySem.W.Frag} {mg : Str → Option Value} {h base : Heap}
theorem tx (X : K.In h) (G : h.Ns mainGlobals mg) (c : SaysV fa fn K) : W.Tx K mg where
  bl := ⟨He.free_ok X G (c.fact 33 (f := (.fa (.free "all"))) rfl), He.free_ok X G (c.fact 34 (f := (.fa (.free "any"))) rfl), He.free_ok X G (c.fact 35 (f := (.fa (.free "dict"))) rfl), He.free_ok X G (c.fact 36 (f := (.fa (.free "enumerate"))) rfl), He.free_ok X G (c.fact 37 (f := (.fa (.free "int"))) rfl), He.free_ok X G (c.fact 38 (f := (.fa (.free "bool"))) rfl), He.free_ok X G (c.fact 39 (f := (.fa (.free "isinstance"))) rfl), He.free_ok X G (c.fact 40 (f := (.fa (.free "len"))) rfl), He.free_ok X G (c.fact 41 (f := (.fa (.free "list"))) rfl), He.free_ok X G (c.fact 42 (f := (.fa (.free "max"))) rfl), He.free_ok X G (c.fact 43 (f := (.fa (.free "min"))) rfl), He.free_ok X G (c.fact 44 (f := (.fa (.free "range"))) rfl), He.free_ok X G (c.fact 45 (f := (.fa (.free "repr"))) rfl), He.free_ok X G (c.fact 46 (f := (.fa (.free "set"))) rfl), He.free_ok X G (c.fact 47 (f := (.fa (.free "sorted"))) rfl), He.free_ok X G (c.fact 48 (f := (.fa (.free "str"))) rfl), He.free_ok X G (c.fact 49 (f := (.fa (.free "sum"))) rfl), He.free_ok X G (c.fact 50 (f := (.fa (.free "tuple"))) rfl), He.free_ok X G (c.fact 51 (f := (.fa (.free "zip"))) rfl), He.free_ok X G (c.fact 52 (f := (.fa (.free "ValueError"))) rfl)⟩
  f_is_whole := (c.def_ 0 (d := d13) rfl).elim fun fd F => ⟨_, fd, F, He.glo_ok X G (c.fact 0 (f := .fa (.glo "is_whole")) rfl)⟩
  f_is_between := (c.def_ 1 (d := d14) rfl).elim fun fd F => ⟨_, fd, F, He.glo_ok X G (c.fact 1 (f := .fa (.glo "is_between")) rfl)⟩
  f_are_states := (c.def_ 2 (d := d15) rfl).elim fun fd F => ⟨_, fd, F, He.glo_ok X G (c.fact 2 (f := .fa (.glo "are_states")) rfl)⟩
  f_is_kind := (c.def_ 3 (d := d16) rfl).elim fun fd F => ⟨_, fd, F, He.glo_ok X G (c.fact 3 (f := .fa (.glo "is_kind")) rfl)⟩
  f_is_system := (c.def_ 4 (d := d17) rfl).elim fun fd F => ⟨_, fd, F, He.glo_ok X G (c.fact 4 (f := .fa (.glo "is_system")) rfl)⟩
  f_need_system := (c.def_ 5 (d := d18) rfl).elim fun fd F => ⟨_, fd, F, He.glo_ok X G (c.fact 5 (f := .fa (.glo "need_system")) rfl)⟩
  f_paths_of := (c.def_ 9 (d := d22) rfl).elim fun fd F => ⟨_, fd, F, He.glo_ok X G (c.fact 9 (f := .fa (.glo "paths_of")) rfl)⟩
  f_reached := (c.def_ 10 (d := d23) rfl).elim fun fd F => ⟨_, fd, F, He.glo_ok X G (c.fact 10 (f := .fa (.glo "reached")) rfl)⟩
  f_are_moves := (c.def_ 11 (d := d26) rfl).elim fun fd F => ⟨_, fd, F, He.glo_ok X G (c.fact 11 (f := .fa (.glo "are_moves")) rfl)⟩
  g_Effect := He.glo_ok X G (c.fact 57 (f := .fa (.glo "Effect")) rfl)
  cl_Effect := He.cls_ok (c.fact 58 (f := .fa (.cls "Effect")) rfl)
  is_Effect := isiC_ok (He.cls_ok (c.fact 58 (f := .fa (.cls "Effect")) rfl)) (c.fact 59 (f := .gen (isiB "Effect")) rfl)
  mul_Effect := mulI_ok (c.fact 60 (f := .gen (mulB "Effect")) rfl)
  ne_Effect := neI_ok (c.fact 61 (f := .gen (neB "Effect")) rfl)
  sf_Effect := sfI_ok (c.fact 62 (f := .gen (sfB "Effect")) rfl)
  na_Effect_goals := He.noat_ok (c.fact 63 (f := .fa (.noat "Effect" "goals")) rfl)
  na_Effect_home := He.noat_ok (c.fact 64 (f := .fa (.noat "Effect" "home")) rfl)
  na_Effect_states := He.noat_ok (c.fact 65 (f := .fa (.noat "Effect" "states")) rfl)
  m_Effect_init := He.mkr_ok (c.fact 66 (f := .fa (.mkr "Effect")) rfl)
  f_Effect_init := c.def_ 33 (d := d_Effect_init) rfl
  f_is_log := (c.def_ 6 (d := d19) rfl).elim fun fd F => ⟨_, fd, F, He.glo_ok X G (c.fact 6 (f := .fa (.glo "is_log")) rfl)⟩
  f_need_log := (c.def_ 7 (d := d20) rfl).elim fun fd F => ⟨_, fd, F, He.glo_ok X G (c.fact 7 (f := .fa (.glo "need_log")) rfl)⟩
  f_run_from := (c.def_ 8 (d := d21) rfl).elim fun fd F => ⟨_, fd, F, He.glo_ok X G (c.fact 8 (f := .fa (.glo "run_from")) rfl)⟩
  m_Effect_behind := He.meth_ok (c.fact 67 (f := .fa (.meth "Effect" "behind")) rfl)
  f_Effect_behind := c.def_ 34 (d := d_Effect_behind) rfl
  m_Effect_add := He.meth_ok (c.fact 68 (f := .fa (.meth "Effect" "__add__")) rfl)
  f_Effect_add := c.def_ 35 (d := d_Effect_add) rfl
  m_Effect_joined := smet_ok (c.fact 69 (f := .gen (smetB "Effect" "joined")) rfl)
  cr_Effect_joined := cread_ok (c.fact 70 (f := .cread "Effect") rfl)
  f_Effect_joined := c.def_ 36 (d := d_Effect_joined) rfl
  m_Effect_system := prop_ok (c.fact 71 (f := .prop "Effect" "system") rfl)
  f_Effect_system := c.def_ 37 (d := d_Effect_system) rfl
  m_Effect_moves := prop_ok (c.fact 72 (f := .prop "Effect" "moves") rfl)
  f_Effect_moves := c.def_ 38 (d := d_Effect_moves) rfl
  m_Effect_fixed := prop_ok (c.fact 73 (f := .prop "Effect" "fixed") rfl)
  f_Effect_fixed := c.def_ 39 (d := d_Effect_fixed) rfl
  m_Effect_call := He.meth_ok (c.fact 74 (f := .fa (.meth "Effect" "__call__")) rfl)
  f_Effect_call := c.def_ 40 (d := d_Effect_call) rfl
  m_Effect_mul := He.meth_ok (c.fact 75 (f := .fa (.meth "Effect" "__mul__")) rfl)
  f_Effect_mul := c.def_ 41 (d := d_Effect_mul) rfl
  m_Effect_eq := He.meth_ok (c.fact 76 (f := .fa (.meth "Effect" "__eq__")) rfl)
  f_Effect_eq := c.def_ 42 (d := d_Effect_eq) rfl
  m_Effect_repr := He.meth_ok (c.fact 77 (f := .fa (.meth "Effect" "__repr__")) rfl)
  f_Effect_repr := c.def_ 43 (d := d_Effect_repr) rfl
  f__law_run := (c.def_ 12 (d := d29) rfl).elim fun fd F => ⟨_, fd, F, He.glo_ok X G (c.fact 12 (f := .fa (.glo "_law_run")) rfl)⟩
  f__law_paths := (c.def_ 13 (d := d30) rfl).elim fun fd F => ⟨_, fd, F, He.glo_ok X G (c.fact 13 (f := .fa (.glo "_law_paths")) rfl)⟩
  f__law_reached := (c.def_ 14 (d := d31) rfl).elim fun fd F => ⟨_, fd, F, He.glo_ok X G (c.fact 14 (f := .fa (.glo "_law_reached")) rfl)⟩
  f__law_draw := (c.def_ 15 (d := d32) rfl).elim fun fd F => ⟨_, fd, F, He.glo_ok X G (c.fact 15 (f := .fa (.glo "_law_draw")) rfl)⟩
  f__law_pick := (c.def_ 16 (d := d33) rfl).elim fun fd F => ⟨_, fd, F, He.glo_ok X G (c.fact 16 (f := .fa (.glo "_law_pick")) rfl)⟩
  f__law_pen := (c.def_ 17 (d := d34) rfl).elim fun fd F => ⟨_, fd, F, He.glo_ok X G (c.fact 17 (f := .fa (.glo "_law_pen")) rfl)⟩
  f__law_cell_at := (c.def_ 18 (d := d35) rfl).elim fun fd F => ⟨_, fd, F, He.glo_ok X G (c.fact 18 (f := .fa (.glo "_law_cell_at")) rfl)⟩
  f__law_drawn := (c.def_ 19 (d := d36) rfl).elim fun fd F => ⟨_, fd, F, He.glo_ok X G (c.fact 19 (f := .fa (.glo "_law_drawn")) rfl)⟩
  f__law_cells := (c.def_ 20 (d := d37) rfl).elim fun fd F => ⟨_, fd, F, He.glo_ok X G (c.fact 20 (f := .fa (.glo "_law_cells")) rfl)⟩
  f__law_marks := (c.def_ 21 (d := d38) rfl).elim fun fd F => ⟨_, fd, F, He.glo_ok X G (c.fact 21 (f := .fa (.glo "_law_marks")) rfl)⟩
  f__law_turns := (c.def_ 22 (d := d39) rfl).elim fun fd F => ⟨_, fd, F, He.glo_ok X G (c.fact 22 (f := .fa (.glo "_law_turns")) rfl)⟩
  f__law_system := (c.def_ 23 (d := d40) rfl).elim fun fd F => ⟨_, fd, F, He.glo_ok X G (c.fact 23 (f := .fa (.glo "_law_system")) rfl)⟩
  f__law_log := (c.def_ 24 (d := d41) rfl).elim fun fd F => ⟨_, fd, F, He.glo_ok X G (c.fact 24 (f := .fa (.glo "_law_log")) rfl)⟩
  f__law_same := (c.def_ 25 (d := d42) rfl).elim fun fd F => ⟨_, fd, F, He.glo_ok X G (c.fact 25 (f := .fa (.glo "_law_same")) rfl)⟩
  f__law_moves := (c.def_ 26 (d := d43) rfl).elim fun fd F => ⟨_, fd, F, He.glo_ok X G (c.fact 26 (f := .fa (.glo "_law_moves")) rfl)⟩
  f__law_seen := (c.def_ 27 (d := d44) rfl).elim fun fd F => ⟨_, fd, F, He.glo_ok X G (c.fact 27 (f := .fa (.glo "_law_seen")) rfl)⟩
  f__law_due := (c.def_ 28 (d := d45) rfl).elim fun fd F => ⟨_, fd, F, He.glo_ok X G (c.fact 28 (f := .fa (.glo "_law_due")) rfl)⟩
  f__law_any_moves := (c.def_ 29 (d := d46) rfl).elim fun fd F => ⟨_, fd, F, He.glo_ok X G (c.fact 29 (f := .fa (.glo "_law_any_moves")) rfl)⟩
  f__law_behind := (c.def_ 30 (d := d47) rfl).elim fun fd F => ⟨_, fd, F, He.glo_ok X G (c.fact 30 (f := .fa (.glo "_law_behind")) rfl)⟩
  f__law_times := (c.def_ 31 (d := d48) rfl).elim fun fd F => ⟨_, fd, F, He.glo_ok X G (c.fact 31 (f := .fa (.glo "_law_times")) rfl)⟩
  f_law := (c.def_ 32 (d := d49) rfl).elim fun fd F => ⟨_, fd, F, He.glo_ok X G (c.fact 32 (f := .fa (.glo "law")) rfl)⟩
  g_MOST_STATES := He.int_ok X G (c.fact 53 (f := .fa (.int "MOST_STATES" 6)) rfl)
  g_MOST_OPERATIONS := He.int_ok X G (c.fact 54 (f := .fa (.int "MOST_OPERATIONS" 6)) rfl)
  g_MOST_KIND := He.int_ok X G (c.fact 55 (f := .fa (.int "MOST_KIND" 9)) rfl)
  g_MOST_TIMES := He.int_ok X G (c.fact 56 (f := .fa (.int "MOST_TIMES" 1000000000000)) rfl)
theorem lawG (T : W.Tx K mg) {f : Addr} {fd : FuncData} (F : FunD K "law" "law" (defArgs (top 49)) (defBody (top 49)) (defScope (top 49)) [] [] f fd) : FnG P w K mg base 12 f fd ["_law_script"] (spG ⟨K, mg⟩ 1 m_law) := by
  have c_is_whole := W.k_is_whole (P := P) (w := w) (base := base) T
  have c_is_between := W.k_is_between (P := P) (w := w) (base := base) T c_is_whole
  have c_are_states := W.k_are_states (P := P) (w := w) (base := base) T c_is_between
  have c_is_kind := W.k_is_kind (P := P) (w := w) (base := base) T c_is_between
  have c_is_system := W.k_is_system (P := P) (w := w) (base := base) T c_is_between c_are_states c_is_kind
  have c_need_system := W.k_need_system (P := P) (w := w) (base := base) T c_is_system
  have c_paths_of := W.k_paths_of (P := P) (w := w) (base := base) T
  have c_reached := W.k_reached (P := P) (w := w) (base := base) T c_paths_of
  have c_are_moves := W.k_are_moves (P := P) (w := w) (base := base) T c_is_whole
  have c_Effect_init := W.k_Effect_init (P := P) (w := w) (base := base) T c_need_system c_reached c_are_moves
  have c_is_log := W.k_is_log (P := P) (w := w) (base := base) T c_is_between
  have c_need_log := W.k_need_log (P := P) (w := w) (base := base) T c_is_log
  have c_run_from := W.k_run_from (P := P) (w := w) (base := base) T
  have c_Effect_behind := W.k_Effect_behind (P := P) (w := w) (base := base) T
  have c_Effect_add := W.k_Effect_add (P := P) (w := w) (base := base) T c_Effect_init c_Effect_behind
  have c_Effect_joined := W.k_Effect_joined (P := P) (w := w) (base := base) T c_Effect_add
  have c_Effect_system := W.k_Effect_system (P := P) (w := w) (base := base) T
  have c_Effect_moves := W.k_Effect_moves (P := P) (w := w) (base := base) T
  have c_Effect_fixed := W.k_Effect_fixed (P := P) (w := w) (base := base) T
  have c_Effect_call := W.k_Effect_call (P := P) (w := w) (base := base) T c_is_whole
  have c_Effect_mul := W.k_Effect_mul (P := P) (w := w) (base := base) T c_is_between c_Effect_init c_Effect_add
  have c_Effect_eq := W.k_Effect_eq (P := P) (w := w) (base := base) T
  have c_Effect_repr := W.k_Effect_repr (P := P) (w := w) (base := base) T c_Effect_fixed
  have c__law_run := W.k__law_run (P := P) (w := w) (base := base) T
  have c__law_paths := W.k__law_paths (P := P) (w := w) (base := base) T
  have c__law_reached := W.k__law_reached (P := P) (w := w) (base := base) T c__law_paths
  have c__law_draw := W.k__law_draw (P := P) (w := w) (base := base) T
  have c__law_pick := W.k__law_pick (P := P) (w := w) (base := base) T c__law_draw
  have c__law_pen := W.k__law_pen (P := P) (w := w) (base := base) T
  have c__law_cell_at := W.k__law_cell_at (P := P) (w := w) (base := base) T
  have c__law_drawn := W.k__law_drawn (P := P) (w := w) (base := base) T c__law_draw c__law_pick
  have c__law_cells := W.k__law_cells (P := P) (w := w) (base := base) T c__law_pick c__law_draw
  have c__law_marks := W.k__law_marks (P := P) (w := w) (base := base) T c__law_draw c__law_pick
  have c__law_turns := W.k__law_turns (P := P) (w := w) (base := base) T c__law_draw c__law_pick
  have c__law_system := W.k__law_system (P := P) (w := w) (base := base) T c__law_draw c__law_drawn c__law_cells c__law_marks c__law_turns
  have c__law_log := W.k__law_log (P := P) (w := w) (base := base) T c__law_draw
  have c__law_same := W.k__law_same (P := P) (w := w) (base := base) T
  have c__law_moves := W.k__law_moves (P := P) (w := w) (base := base) T c__law_reached c__law_run
  have c__law_seen := W.k__law_seen (P := P) (w := w) (base := base) T c_Effect_system c_Effect_moves c_Effect_fixed c_Effect_repr
  have c__law_due := W.k__law_due (P := P) (w := w) (base := base) T c__law_reached
  have c__law_any_moves := W.k__law_any_moves (P := P) (w := w) (base := base) T c__law_reached c__law_pick
  have c__law_behind := W.k__law_behind (P := P) (w := w) (base := base) T
  have c__law_times := W.k__law_times (P := P) (w := w) (base := base) T
  exact W.g_law T c__law_pen c__law_cell_at c__law_system c__law_reached c__law_moves c__law_log c__law_any_moves c_Effect_init c_Effect_call c__law_same c__law_seen c_Effect_add c__law_due c__law_behind c__law_draw c_Effect_mul c__law_times c_Effect_joined c_Effect_eq c_Effect_moves F
end
end Hd
open PySem PySem.W PySem.Calls PyProof.Rows
theorem PySem.Challenge.cw_lastofkind_k35_effects_put_together_holds : PySem.Challenge.rw_lastofkind_k35_effects_put_together.Holds := by
  w_on; o_law
  refine HandSHeadRun.head_any (r := OpenLaw.row PySem.Challenge.rw_lastofkind_k35_effects_put_together) (q := view (OpenLaw.row PySem.Challenge.rw_lastofkind_k35_effects_put_together).prog [49]) (H := Hd.hk) (ob := Hd.ob) (M := 40000) (loose := Hd.loose) (d := HandSHeadRun.topDef (OpenLaw.row PySem.Challenge.rw_lastofkind_k35_effects_put_together).prog 49) (kwd := []) Hd.ob_eq
    (by kernel_rfl) (fun s => by kernel_rfl) Hd.run (by kernel_rfl) (by kernel_rfl) (by kernel_rfl) (by rfl) (by first | assumption | decide +kernel) (by decide +kernel) ⟨rfl, rfl, rfl, rfl, rfl, by decide +kernel⟩ ?hw ?hc
  case hw => w_witness2
  case hc =>
    refine VL.walk_ofG (l := PySem.Challenge.rw_lastofkind_k35_effects_put_together) (n := 63) (k := 12) (x := "_law_script") rfl (by decide) (by kernel_rfl) ⟨⟨rfl, by decide, by decide⟩, rfl⟩ ?F
    intro w mg fa h Y G hmg0
    obtain ⟨K, KX, c⟩ := Y
    have hmg : mg ("law" : PySem.Str) = some (.ref fa) := by
      have e : (HandSHeadRun.topDef (OpenLaw.row PySem.Challenge.rw_lastofkind_k35_effects_put_together).prog 49).name = ("law" : PySem.Str) := by kernel_rfl
      rw [← e]
      exact hmg0
    have T := Hd.tx KX G c
    obtain ⟨f, fd, F, gf⟩ := T.f_law
    have e := hmg.symm.trans gf
    cases e
    exact ⟨K, fd, VL.m_law, KX, fun s v => (L2.FunD.bindsA (ps := ["_law_script"]) F fun _ _ _ _ _ _ us hl => match us, hl with | [_], _ => rfl) s [v] rfl, fun ns hl => VL.law35 ns, fun base hb hn => Hd.lawG T F⟩
