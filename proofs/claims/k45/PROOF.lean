import PyProof.Rows.All
import Wide.All
import OpenK.AllK
import Wide.FinOn
import PyProof.Rows.EqDataRows
import PyProof.ReprRoads
import HandS.ForSpec
import HandS.ForMost
import HandS.Zip
import HandS.Wide
import HandS.TupAny
import HandS.TupMul
import HandS.TupLe
import HandS.Defaults
import HandS.ExcOwn
import HandS.SortRule
import HandS.SortInts
import HandS.IsInst
import HandS.Text
import HandS.Small
import HandS.WordsDict
import HandS.More
import HandS.RaiseMore
import PyProof.ReprLen
import PyProof.Rows.RegStrFacts
import HandS.Iter
import HandS.StrMore
import HandS.Dict
import KE.GoesEnum
import KE.GoesMore
import PyProof.EnumMake
import HandS.Property
import HandS.ClsMeth
import HandS.SlotsOwn
import KE.KOpsOwn
import KE.KCallOwn
import KE.KStateDown
import HandS.EndBits
import HandS.Words
import HandS.WordsExc
import HandS.Head0
import HandS.Head1
import HandS.Head2
import HandS.HeadEnd
import HandS.HeadHook1
import HandS.HeadHook2
import PySem.Challenge.RW_everyring_k45_rules_built
section
set_option Elab.async false
set_option linter.all false
set_option maxRecDepth 100000
set_option maxHeartbeats 4000000
namespace L3
open PySem PySem.Spec L2

/-! ### deep values, cells, worlds -/
/-- a value: tuples and lists by what they hold; ref: a cell of the store -/
inductive D where
  | non | bl (b : Bool) | int (i : Int) | str (x : Str) | ty (n : String) | gl (x : Str) | ref (l : Nat)
  | tup (xs : List D) | lst (xs : List D) | frz (xs : List D) | obj (c : Str) (fs : List (Str × D))
/-- a thing that changes -/
inductive Cell where
  | dead | lst (xs : List D) | dic (kvs : List (Key × D)) | ins (c : Str) (fs : List (Str × D))
abbrev Store := List Cell
abbrev DEnv := List (Option D)
/-- an exception of the program's own -/
structure Exc where
  cls : Str
  fs : List (Str × D)
inductive Res (α : Type) where
  | ok (a : α) (S : Store) | exc (x : Exc) (S : Store) | stuck
def Res.bind {α β : Type} (r : Res α) (k : α → Store → Res β) : Res β := match r with
  | .ok a S => k a S
  | .exc x S => .exc x S
  | .stuck => .stuck
@[simp] theorem bind_ok {α β : Type} (a : α) (S : Store) (k : α → Store → Res β) : (Res.ok a S).bind k = k a S := rfl
@[simp] theorem bind_exc {α β : Type} (x : Exc) (S : Store) (k : α → Store → Res β) : (Res.exc x S : Res α).bind k = .exc x S := rfl
@[simp] theorem bind_stuck {α β : Type} (k : α → Store → Res β) : (Res.stuck : Res α).bind k = .stuck := rfl
abbrev EM := DEnv → Store → Res D
abbrev TM := DEnv → Store → Res Bool
abbrev AM := DEnv → Store → Res (List D)
structure Wd where
  ι : List Addr
  S : Store
  H : Hp
  /-- lists that are being made (comprehensions) -/
  hd : List Addr
/-- neither a live cell nor a list in the making stands at a -/
def NL (w : Wd) (a : Addr) : Prop := a ∉ w.hd ∧ ∀ (l : Nat), w.ι[l]? = some a → w.S[l]? = some Cell.dead
section
variable (K : PySem.W.Frag) (mg : Str → Option Value)
mutual
inductive RepV (w : Wd) : D → V → Prop
  | non : RepV w .non .non
  | bl (b : Bool) : RepV w (.bl b) (.bl b)
  | int (i : Int) : RepV w (.int i) (.int i)
  | str (x : Str) : RepV w (.str x) (.str x)
  | ty (n : String) : RepV w (.ty n) (.ty n)
  | gl {x : Str} {a : Addr} (h : mg x = some (.ref a)) : RepV w (.gl x) (.ref a)
  | ref {l : Nat} {a : Addr} (h : w.ι[l]? = some a) : RepV w (.ref l) (.ref a)
  | tup {ds : List D} {a : Addr} {xs : List V} (h : SqT K w.H a xs) (z : xs.length ≤ sizeLine) (r : RepVs w ds xs) : RepV w (.tup ds) (.ref a)
  | lst {ds : List D} {a : Addr} {xs : List V} (h : w.H a = some (.lst xs)) (n : NL w a) (z : xs.length ≤ sizeLine) (r : RepVs w ds xs) : RepV w (.lst ds) (.ref a)
  | frz {ds : List D} {a : Addr} {o : Obj} {xs : List V} (h : w.H a = some (.frz o (.lst xs))) (n : NL w a) (z : xs.length ≤ sizeLine) (r : RepVs w ds xs) : RepV w (.frz ds) (.ref a)
  | obj {c : Str} {fs : List (Str × D)} {a C dx : Addr} {gs : List (Str × V)} (hc : mg c = some (.ref C)) (h : w.H a = some (.ins C dx gs)) (n : NL w a) (r : RepF w fs gs) : RepV w (.obj c fs) (.ref a)
inductive RepVs (w : Wd) : List D → List V → Prop
  | nil : RepVs w [] []
  | cons {d : D} {v : V} {ds : List D} {vs : List V} (r : RepV w d v) (t : RepVs w ds vs) : RepVs w (d :: ds) (v :: vs)
inductive RepF (w : Wd) : List (Str × D) → List (Str × V) → Prop
  | nil : RepF w [] []
  | cons {f : Str} {d : D} {v : V} {ds : List (Str × D)} {vs : List (Str × V)} (r : RepV w d v) (t : RepF w ds vs) : RepF w ((f, d) :: ds) ((f, v) :: vs)
end
inductive RepK (w : Wd) : List (Key × D) → List (Key × V) → Prop
  | nil : RepK w [] []
  | cons {k : Key} {d : D} {v : V} {ds : List (Key × D)} {vs : List (Key × V)} (r : RepV K mg w d v) (t : RepK w ds vs) : RepK w ((k, d) :: ds) ((k, v) :: vs)
/-- a cell at an address -/
def CRep (w : Wd) (a : Addr) : Cell → Prop
  | .dead => True
  | .lst ds => ∃ xs, w.H a = some (.lst xs) ∧ xs.length ≤ sizeLine ∧ RepVs K mg w ds xs
  | .dic kvs => ∃ us, w.H a = some (.dK us) ∧ RepK K mg w kvs us
  | .ins c fs => ∃ C dx gs, mg c = some (.ref C) ∧ w.H a = some (.ins C dx gs) ∧ RepF K mg w fs gs
structure HRep (w : Wd) : Prop where
  len : w.ι.length = w.S.length
  inj : ∀ (l l' : Nat) (a : Addr), w.ι[l]? = some a → w.ι[l']? = some a → l = l'
  occ : ∀ (l : Nat) (a : Addr), w.ι[l]? = some a → w.H a ≠ none
  cell : ∀ (l : Nat) (a : Addr) (c : Cell), w.ι[l]? = some a → w.S[l]? = some c → CRep K mg w a c
  hid : ∀ a ∈ w.hd, ∃ xs, w.H a = some (.lst xs)
  sep : ∀ (l : Nat) (a : Addr), w.ι[l]? = some a → a ∉ w.hd
def ERep (w : Wd) (ρ : DEnv) (σ : St) : Prop := ρ.length = σ.length ∧ ∀ (i : Nat) (d : D), ρ[i]? = some (some d) → ∃ v, σ[i]? = some (some v) ∧ RepV K mg w d v
end
mutual
/-- every cell that d names is one of P -/
def D.rf (P : Nat → Prop) : D → Prop
  | .ref l => P l
  | .tup xs => D.rfs P xs
  | .lst xs => D.rfs P xs
  | .frz xs => D.rfs P xs
  | .obj _ fs => D.rff P fs
  | _ => True
def D.rfs (P : Nat → Prop) : List D → Prop
  | [] => True
  | d :: ds => D.rf P d ∧ D.rfs P ds
def D.rff (P : Nat → Prop) : List (Str × D) → Prop
  | [] => True
  | (_, d) :: ds => D.rf P d ∧ D.rff P ds
end
def rfK (P : Nat → Prop) : List (Key × D) → Prop
  | [] => True
  | (_, d) :: ds => D.rf P d ∧ rfK P ds
def Cell.rf (P : Nat → Prop) : Cell → Prop
  | .dead => True
  | .lst xs => D.rfs P xs
  | .dic kvs => rfK P kvs
  | .ins _ fs => D.rff P fs
/-- what a value may lean on -/
def isDt : HO → Prop
  | .lst _ => True
  | .tup _ => True
  | .ins _ _ _ => True
  | .frz _ (.lst _) => True
  | .frz _ (.tup _) => True
  | _ => False
/-- values are carried over, those of cells P -/
structure Tr (P : Nat → Prop) (w w' : Wd) : Prop where
  same : ∀ b o, w.H b = some o → isDt o → NL w b → w'.H b = some o ∧ NL w' b
  at_ : ∀ (l : Nat) (a : Addr), P l → w.ι[l]? = some a → w'.ι[l]? = some a
/-- what stays, up to the lists in the making -/
structure KeepU (w w' : Wd) : Prop where
  same : ∀ b o, w.H b = some o → NL w b → w'.H b = some o
  ext : ∃ t, w'.ι = w.ι ++ t
  new : ∀ (l : Nat) (b : Addr), w.ι.length ≤ l → w'.ι[l]? = some b → w.H b = none
  dd : ∀ (l : Nat), w.S[l]? = some Cell.dead → w'.S[l]? = some Cell.dead
  nn : ∀ b, w'.H b = none → w.H b = none
  hdd : ∃ t, w'.hd = t ++ w.hd ∧ ∀ a ∈ t, w.H a = none
/-- what stays -/
structure Keep (w w' : Wd) : Prop extends KeepU w w' where
  hk : ∀ a ∈ w.hd, w'.H a = w.H a

section
variable {K : PySem.W.Frag} {mg : Str → Option Value} {w w' w1 w2 : Wd} {P : Nat → Prop}
theorem KeepU.at (k : KeepU w w') {l : Nat} {a : Addr} (h : w.ι[l]? = some a) : w'.ι[l]? = some a := by
  obtain ⟨t, e⟩ := k.ext
  rw [e, List.getElem?_append_left (List.getElem?_eq_some_iff.mp h).1]
  exact h
theorem KeepU.nl (k : KeepU w w') {b : Addr} {o : HO} (h : w.H b = some o) (n : NL w b) : NL w' b := by
  refine ⟨fun hb => ?_, fun l e => ?_⟩
  · obtain ⟨t, e, f⟩ := k.hdd
    rw [e] at hb
    rcases List.mem_append.mp hb with q | q
    · have := f b q
      rw [h] at this
      cases this
    · exact n.1 q
  · by_cases hl : l < w.ι.length
    · obtain ⟨t, e2⟩ := k.ext
      rw [e2, List.getElem?_append_left hl] at e
      exact k.dd l (n.2 l e)
    · have := k.new l b (Nat.le_of_not_lt hl) e
      rw [h] at this
      cases this
theorem KeepU.tr (k : KeepU w w') : Tr (fun _ => True) w w' := ⟨fun b o h _ n => ⟨k.same b o h n, k.nl h n⟩, fun l a _ h => k.at h⟩
theorem KeepU.refl (w : Wd) : KeepU w w := ⟨fun _ _ h _ => h, ⟨[], by simp⟩, fun l b h e => by
  have := (List.getElem?_eq_some_iff.mp e).1
  omega, fun _ h => h, fun _ h => h, ⟨[], rfl, fun _ h => nomatch h⟩⟩
theorem KeepU.trans (a : KeepU w w1) (b : KeepU w1 w2) : KeepU w w2 := by
  refine ⟨fun c o h n => b.same c o (a.same c o h n) (a.nl h n), ?_, fun l c hl e => ?_, fun l h => b.dd l (a.dd l h), fun c h => a.nn c (b.nn c h), ?_⟩
  · obtain ⟨t, e⟩ := a.ext
    obtain ⟨u, e2⟩ := b.ext
    exact ⟨t ++ u, by rw [e2, e, List.append_assoc]⟩
  · by_cases h1 : l < w1.ι.length
    · obtain ⟨u, e2⟩ := b.ext
      rw [e2, List.getElem?_append_left h1] at e
      exact a.new l c hl e
    · exact a.nn c (b.new l c (Nat.le_of_not_lt h1) e)
  · obtain ⟨t, e, f⟩ := a.hdd
    obtain ⟨u, e2, f2⟩ := b.hdd
    refine ⟨u ++ t, by rw [e2, e, List.append_assoc], fun c hc => ?_⟩
    rcases List.mem_append.mp hc with q | q
    · exact a.nn c (f2 c q)
    · exact f c q
theorem Keep.refl (w : Wd) : Keep w w := ⟨KeepU.refl w, fun _ _ => rfl⟩
theorem Keep.trans (a : Keep w w1) (b : Keep w1 w2) : Keep w w2 := ⟨a.toKeepU.trans b.toKeepU, fun c h => by
  obtain ⟨t, e, _⟩ := a.hdd
  exact (b.hk c (by rw [e]; exact List.mem_append_right _ h)).trans (a.hk c h)⟩
theorem SqT.nl (R : HRep K mg w) {a : Addr} {xs : List V} (h : Rd w.H a (.tup xs)) : NL w a := by
  refine ⟨fun hh => ?_, fun l e => ?_⟩
  · obtain ⟨ys, q⟩ := R.hid a hh
    rcases h with h | ⟨o, h⟩ <;> (rw [q] at h; cases h)
  have hl := (List.getElem?_eq_some_iff.mp e).1
  rw [R.len] at hl
  have hs : w.S[l]? = some w.S[l] := List.getElem?_eq_getElem hl
  have q := R.cell l a _ e hs
  cases hc : w.S[l] with
  | dead => rw [hs, hc]
  | lst ds =>
    rw [hc] at q
    obtain ⟨ys, h2, _⟩ := q
    rcases h with h | ⟨o, h⟩ <;> (rw [h2] at h; cases h)
  | dic kvs =>
    rw [hc] at q
    obtain ⟨ys, h2, _⟩ := q
    rcases h with h | ⟨o, h⟩ <;> (rw [h2] at h; cases h)
  | ins c fs =>
    rw [hc] at q
    obtain ⟨_, _, _, _, h2, _⟩ := q
    rcases h with h | ⟨o, h⟩ <;> (rw [h2] at h; cases h)
theorem SqT.tr (R : HRep K mg w) (k : Tr P w w') {a : Addr} {xs : List V} (h : SqT K w.H a xs) : SqT K w'.H a xs := by
  rcases h with h | h
  · have n := SqT.nl R h
    rcases h with h | ⟨o, h⟩
    · exact .inl (.inl (k.same _ _ h trivial n).1)
    · exact .inl (.inr ⟨o, (k.same _ _ h trivial n).1⟩)
  · exact .inr h
mutual
theorem RepV.tr (R : HRep K mg w) (k : Tr P w w') : ∀ {d : D} {v : V}, RepV K mg w d v → D.rf P d → RepV K mg w' d v
  | _, _, .non, _ => .non
  | _, _, .bl b, _ => .bl b
  | _, _, .int i, _ => .int i
  | _, _, .str x, _ => .str x
  | _, _, .ty n, _ => .ty n
  | _, _, .gl h, _ => .gl h
  | _, _, .ref h, p => .ref (k.at_ _ _ p h)
  | _, _, .tup h z r, p => .tup (SqT.tr R k h) z (RepVs.tr R k r p)
  | _, _, .lst h n z r, p => .lst (k.same _ _ h trivial n).1 (k.same _ _ h trivial n).2 z (RepVs.tr R k r p)
  | _, _, .frz h n z r, p => .frz (k.same _ _ h trivial n).1 (k.same _ _ h trivial n).2 z (RepVs.tr R k r p)
  | _, _, .obj hc h n r, p => .obj hc (k.same _ _ h trivial n).1 (k.same _ _ h trivial n).2 (RepF.tr R k r p)
theorem RepVs.tr (R : HRep K mg w) (k : Tr P w w') : ∀ {ds : List D} {vs : List V}, RepVs K mg w ds vs → D.rfs P ds → RepVs K mg w' ds vs
  | _, _, .nil, _ => .nil
  | _, _, .cons r t, p => .cons (RepV.tr R k r p.1) (RepVs.tr R k t p.2)
theorem RepF.tr (R : HRep K mg w) (k : Tr P w w') : ∀ {ds : List (Str × D)} {vs : List (Str × V)}, RepF K mg w ds vs → D.rff P ds → RepF K mg w' ds vs
  | _, _, .nil, _ => .nil
  | _, _, .cons r t, p => .cons (RepV.tr R k r p.1) (RepF.tr R k t p.2)
end
theorem RepK.tr (R : HRep K mg w) (k : Tr P w w') : ∀ {ds : List (Key × D)} {vs : List (Key × V)}, RepK K mg w ds vs → rfK P ds → RepK K mg w' ds vs
  | _, _, .nil, _ => .nil
  | _, _, .cons r t, p => .cons (RepV.tr R k r p.1) (RepK.tr R k t p.2)
mutual
/-- a value that stands names cells that there are -/
theorem RepV.lt : ∀ {d : D} {v : V}, RepV K mg w d v → D.rf (· < w.ι.length) d
  | _, _, .non => trivial
  | _, _, .bl b => trivial
  | _, _, .int i => trivial
  | _, _, .str x => trivial
  | _, _, .ty n => trivial
  | _, _, .gl h => trivial
  | _, _, .ref h => (List.getElem?_eq_some_iff.mp h).1
  | _, _, .tup _ _ r => RepVs.lt r
  | _, _, .lst _ _ _ r => RepVs.lt r
  | _, _, .frz _ _ _ r => RepVs.lt r
  | _, _, .obj _ _ _ r => RepF.lt r
theorem RepVs.lt : ∀ {ds : List D} {vs : List V}, RepVs K mg w ds vs → D.rfs (· < w.ι.length) ds
  | _, _, .nil => trivial
  | _, _, .cons r t => ⟨RepV.lt r, RepVs.lt t⟩
theorem RepF.lt : ∀ {ds : List (Str × D)} {vs : List (Str × V)}, RepF K mg w ds vs → D.rff (· < w.ι.length) ds
  | _, _, .nil => trivial
  | _, _, .cons r t => ⟨RepV.lt r, RepF.lt t⟩
end
theorem RepK.lt : ∀ {ds : List (Key × D)} {vs : List (Key × V)}, RepK K mg w ds vs → rfK (· < w.ι.length) ds
  | _, _, .nil => trivial
  | _, _, .cons r t => ⟨RepV.lt r, RepK.lt t⟩
mutual
theorem rf_mono {P Q : Nat → Prop} (h : ∀ l, P l → Q l) : ∀ d : D, D.rf P d → D.rf Q d
  | .non, _ => trivial
  | .bl _, _ => trivial
  | .int _, _ => trivial
  | .str _, _ => trivial
  | .ty _, _ => trivial
  | .gl _, _ => trivial
  | .ref l, p => h l p
  | .tup xs, p => rfs_mono h xs p
  | .lst xs, p => rfs_mono h xs p
  | .frz xs, p => rfs_mono h xs p
  | .obj _ fs, p => rff_mono h fs p
theorem rfs_mono {P Q : Nat → Prop} (h : ∀ l, P l → Q l) : ∀ ds : List D, D.rfs P ds → D.rfs Q ds
  | [], _ => trivial
  | d :: ds, p => ⟨rf_mono h d p.1, rfs_mono h ds p.2⟩
theorem rff_mono {P Q : Nat → Prop} (h : ∀ l, P l → Q l) : ∀ ds : List (Str × D), D.rff P ds → D.rff Q ds
  | [], _ => trivial
  | (_, d) :: ds, p => ⟨rf_mono h d p.1, rff_mono h ds p.2⟩
end
theorem rfK_mono {P Q : Nat → Prop} (h : ∀ l, P l → Q l) : ∀ ds : List (Key × D), rfK P ds → rfK Q ds
  | [], _ => trivial
  | (_, d) :: ds, p => ⟨rf_mono h d p.1, rfK_mono h ds p.2⟩
theorem RepV.keepU (R : HRep K mg w) (k : KeepU w w') {d : D} {v : V} (r : RepV K mg w d v) : RepV K mg w' d v := r.tr R k.tr (rf_mono (fun _ _ => trivial) d r.lt)
theorem RepVs.keepU (R : HRep K mg w) (k : KeepU w w') {ds : List D} {vs : List V} (r : RepVs K mg w ds vs) : RepVs K mg w' ds vs := r.tr R k.tr (rfs_mono (fun _ _ => trivial) ds r.lt)
theorem RepF.keepU (R : HRep K mg w) (k : KeepU w w') {ds : List (Str × D)} {vs : List (Str × V)} (r : RepF K mg w ds vs) : RepF K mg w' ds vs := r.tr R k.tr (rff_mono (fun _ _ => trivial) ds r.lt)
theorem RepK.keepU (R : HRep K mg w) (k : KeepU w w') {ds : List (Key × D)} {vs : List (Key × V)} (r : RepK K mg w ds vs) : RepK K mg w' ds vs := r.tr R k.tr (rfK_mono (fun _ _ => trivial) ds r.lt)
theorem RepV.keep (R : HRep K mg w) (k : Keep w w') {d : D} {v : V} (r : RepV K mg w d v) : RepV K mg w' d v := r.keepU R k.toKeepU
theorem RepVs.keep (R : HRep K mg w) (k : Keep w w') {ds : List D} {vs : List V} (r : RepVs K mg w ds vs) : RepVs K mg w' ds vs := r.keepU R k.toKeepU
theorem RepF.keep (R : HRep K mg w) (k : Keep w w') {ds : List (Str × D)} {vs : List (Str × V)} (r : RepF K mg w ds vs) : RepF K mg w' ds vs := r.keepU R k.toKeepU
theorem RepK.keep (R : HRep K mg w) (k : Keep w w') {ds : List (Key × D)} {vs : List (Key × V)} (r : RepK K mg w ds vs) : RepK K mg w' ds vs := r.keepU R k.toKeepU
theorem SqT.keepU (R : HRep K mg w) (k : KeepU w w') {a : Addr} {xs : List V} (h : SqT K w.H a xs) : SqT K w'.H a xs := SqT.tr R k.tr h
theorem SqT.keep (R : HRep K mg w) (k : Keep w w') {a : Addr} {xs : List V} (h : SqT K w.H a xs) : SqT K w'.H a xs := SqT.tr R k.tr h
theorem ERep.keep (R : HRep K mg w) (k : Keep w w') {ρ : DEnv} {σ : St} (e : ERep K mg w ρ σ) : ERep K mg w' ρ σ :=
  ⟨e.1, fun i d h => by
    obtain ⟨v, h1, h2⟩ := e.2 i d h
    exact ⟨v, h1, h2.keep R k⟩⟩
/-! ### lists of values -/
theorem RepVs.length : ∀ {ds : List D} {vs : List V}, RepVs K mg w ds vs → ds.length = vs.length
  | _, _, .nil => rfl
  | _, _, .cons _ t => congrArg (· + 1) (RepVs.length t)
theorem RepVs.append : ∀ {ds es : List D} {vs us : List V}, RepVs K mg w ds vs → RepVs K mg w es us → RepVs K mg w (ds ++ es) (vs ++ us)
  | _, _, _, _, .nil, h => h
  | _, _, _, _, .cons r t, h => .cons r (RepVs.append t h)
theorem RepVs.one {d : D} {v : V} (r : RepV K mg w d v) : RepVs K mg w [d] [v] := .cons r .nil
theorem RepVs.get : ∀ {ds : List D} {vs : List V} {i : Nat} {d : D}, RepVs K mg w ds vs → ds[i]? = some d → ∃ v, vs[i]? = some v ∧ RepV K mg w d v
  | _, _, _, _, .nil, h => by simp at h
  | _, _, 0, _, .cons r _, h => by
    simp at h
    subst h
    exact ⟨_, rfl, r⟩
  | _, _, i + 1, _, .cons _ t, h => by
    obtain ⟨v, h1, h2⟩ := RepVs.get (i := i) t (by simpa using h)
    exact ⟨v, by simpa using h1, h2⟩
theorem RepVs.getV : ∀ {ds : List D} {vs : List V} {i : Nat} {v : V}, RepVs K mg w ds vs → vs[i]? = some v → ∃ d, ds[i]? = some d ∧ RepV K mg w d v
  | _, _, _, _, .nil, h => by simp at h
  | _, _, 0, _, .cons r _, h => by
    simp at h
    subst h
    exact ⟨_, rfl, r⟩
  | _, _, i + 1, _, .cons _ t, h => by
    obtain ⟨v, h1, h2⟩ := RepVs.getV (i := i) t (by simpa using h)
    exact ⟨v, by simpa using h1, h2⟩
theorem RepVs.set {d : D} {v : V} (r : RepV K mg w d v) : ∀ {ds : List D} {vs : List V} (i : Nat), RepVs K mg w ds vs → RepVs K mg w (ds.set i d) (vs.set i v)
  | _, _, _, .nil => .nil
  | _, _, 0, .cons _ t => .cons r t
  | _, _, i + 1, .cons q t => .cons q (RepVs.set r i t)
theorem RepVs.take : ∀ {ds : List D} {vs : List V} (n : Nat), RepVs K mg w ds vs → RepVs K mg w (ds.take n) (vs.take n)
  | _, _, 0, _ => .nil
  | _, _, _ + 1, .nil => .nil
  | _, _, n + 1, .cons r t => .cons r (RepVs.take n t)
theorem RepVs.drop : ∀ {ds : List D} {vs : List V} (n : Nat), RepVs K mg w ds vs → RepVs K mg w (ds.drop n) (vs.drop n)
  | _, _, 0, r => r
  | _, _, _ + 1, .nil => .nil
  | _, _, n + 1, .cons _ t => RepVs.drop n t
theorem RepVs.rev : ∀ {ds : List D} {vs : List V}, RepVs K mg w ds vs → RepVs K mg w ds.reverse vs.reverse
  | _, _, .nil => .nil
  | _, _, .cons r t => by
    rw [List.reverse_cons, List.reverse_cons]
    exact (RepVs.rev t).append (.one r)
/-! ### steps -/
def Wd.put (w : Wd) (p : Addr) (o : HO) : Wd := ⟨w.ι, w.S, upd w.H p o, w.hd⟩
/-- a new thing, no cell -/
theorem keep_put (R : HRep K mg w) {p : Addr} {o : HO} (hp : w.H p = none) : Keep w (w.put p o) := by
  refine ⟨⟨fun b u h _ => ?_, ⟨[], by simp [Wd.put]⟩, fun l b h e => ?_, fun _ h => h, fun b h => ?_, ⟨[], rfl, fun _ h => nomatch h⟩⟩, fun a h => by
    obtain ⟨xs, q⟩ := R.hid a h
    exact upd_ne (ne_of_none q hp)⟩
  · show upd w.H p o b = some u
    rw [upd_ne (ne_of_none h hp)]
    exact h
  · have := (List.getElem?_eq_some_iff.mp e).1
    exact absurd (Nat.lt_of_lt_of_le this h) (Nat.lt_irrefl _)
  · by_cases e : b = p
    · rw [e]; exact hp
    · have h' : upd w.H p o b = none := h
      rw [upd_ne e] at h'
      exact h'
theorem nl_fresh (R : HRep K mg w) {p : Addr} (hp : w.H p = none) {w' : Wd} (e : w'.ι = w.ι) (e2 : w'.hd = w.hd) : NL w' p := by
  refine ⟨fun h => ?_, fun l h => ?_⟩
  · rw [e2] at h
    obtain ⟨xs, q⟩ := R.hid p h
    rw [hp] at q
    cases q
  · rw [e] at h
    exact absurd hp (R.occ l p h)
theorem CRep.keep (R : HRep K mg w) (k : Keep w w') {a : Addr} (hH : w'.H a = w.H a) : ∀ {c : Cell}, CRep K mg w a c → CRep K mg w' a c
  | .dead, _ => trivial
  | .lst _, ⟨xs, h, z, r⟩ => ⟨xs, hH.trans h, z, r.keep R k⟩
  | .dic _, ⟨xs, h, r⟩ => ⟨xs, hH.trans h, r.keep R k⟩
  | .ins _ _, ⟨C, dx, gs, hc, h, r⟩ => ⟨C, dx, gs, hc, hH.trans h, r.keep R k⟩
theorem hrep_put (R : HRep K mg w) {p : Addr} {o : HO} (hp : w.H p = none) : HRep K mg (w.put p o) := by
  have k : Keep w (w.put p o) := keep_put R hp
  refine ⟨R.len, R.inj, fun l a h => ?_, fun l a c h hc => ?_, fun a h => ?_, R.sep⟩
  · show upd w.H p o a ≠ none
    by_cases e : a = p
    · rw [e, upd_same]
      exact fun z => nomatch z
    · rw [upd_ne e]
      exact R.occ l a h
  · refine CRep.keep R k ?_ (R.cell l a c h hc)
    exact upd_ne fun e => R.occ l a h (e ▸ hp)
  · obtain ⟨xs, q⟩ := R.hid a h
    exact ⟨xs, (upd_ne (ne_of_none q hp)).trans q⟩
/-- a cell changes -/
def Wd.wr (w : Wd) (l : Nat) (a : Addr) (c : Cell) (o : HO) : Wd := ⟨w.ι, w.S.set l c, upd w.H a o, w.hd⟩
theorem keep_wr (R : HRep K mg w) {l : Nat} {a : Addr} {c c' : Cell} {o : HO} (h : w.ι[l]? = some a) (hs : w.S[l]? = some c) (hd : c ≠ .dead) : Keep w (w.wr l a c' o) := by
  refine ⟨⟨fun b u hb n => ?_, ⟨[], by simp [Wd.wr]⟩, fun l b h e => ?_, fun m hm => ?_, fun b hb => ?_, ⟨[], rfl, fun _ h => nomatch h⟩⟩, fun b hb => upd_ne fun e => R.sep l a h (by rw [← e]; exact hb)⟩
  · show upd w.H a o b = some u
    rw [upd_ne fun e => ?_]
    · exact hb
    · have := n.2 l (e ▸ h)
      rw [hs] at this
      exact hd (Option.some.inj this)
  · have := (List.getElem?_eq_some_iff.mp e).1
    exact absurd (Nat.lt_of_lt_of_le this h) (Nat.lt_irrefl _)
  · show (w.S.set l c')[m]? = some Cell.dead
    rw [List.getElem?_set_ne fun e => ?_]
    · exact hm
    · rw [← e, hs] at hm
      exact hd (Option.some.inj hm)
  · by_cases e : b = a
    · have h' : upd w.H a o b = none := hb
      rw [e, upd_same] at h'
      cases h'
    · have h' : upd w.H a o b = none := hb
      rw [upd_ne e] at h'
      exact h'
theorem hrep_wr (R : HRep K mg w) {l : Nat} {a : Addr} {c c' : Cell} {o : HO} (h : w.ι[l]? = some a) (hs : w.S[l]? = some c) (hd : c ≠ .dead) (hc : CRep K mg (w.wr l a c' o) a c') : HRep K mg (w.wr l a c' o) := by
  have k : Keep w (w.wr l a c' o) := keep_wr R h hs hd
  refine ⟨by show _ = (w.S.set l c').length; rw [List.length_set]; exact R.len, R.inj, fun m b hb => ?_, fun m b u hb hu => ?_, fun b hb => ?_, R.sep⟩
  · show upd w.H a o b ≠ none
    by_cases e : b = a
    · rw [e, upd_same]
      exact fun z => nomatch z
    · rw [upd_ne e]
      exact R.occ m b hb
  · have hu' : (w.S.set l c')[m]? = some u := hu
    by_cases e : m = l
    · subst e
      have hb' : w.ι[m]? = some b := hb
      rw [h] at hb'
      cases hb'
      rw [List.getElem?_set_self (List.getElem?_eq_some_iff.mp hs).1] at hu'
      cases hu'
      exact hc
    · rw [List.getElem?_set_ne (Ne.symm e)] at hu'
      refine CRep.keep R k ?_ (R.cell m b u hb hu')
      exact upd_ne fun q => e (R.inj m l b hb (q ▸ h))
  · obtain ⟨xs, q⟩ := R.hid b hb
    exact ⟨xs, (upd_ne fun e => R.sep l a h (by rw [← e]; exact hb)).trans q⟩
/-- a new cell -/
def Wd.mk1 (w : Wd) (p : Addr) (c : Cell) (o : HO) : Wd := ⟨w.ι ++ [p], w.S ++ [c], upd w.H p o, w.hd⟩
theorem keep_mk1 (R : HRep K mg w) {p : Addr} {c : Cell} {o : HO} (hp : w.H p = none) : Keep w (w.mk1 p c o) := by
  refine ⟨⟨fun b u h _ => ?_, ⟨[p], rfl⟩, fun l b h e => ?_, fun m hm => ?_, fun b h => ?_, ⟨[], rfl, fun _ h => nomatch h⟩⟩, fun a h => by
    obtain ⟨xs, q⟩ := R.hid a h
    exact upd_ne (ne_of_none q hp)⟩
  · show upd w.H p o b = some u
    rw [upd_ne (ne_of_none h hp)]
    exact h
  · have e' : (w.ι ++ [p])[l]? = some b := e
    rw [List.getElem?_append_right h] at e'
    have : l - w.ι.length = 0 := by
      have := (List.getElem?_eq_some_iff.mp e').1
      simpa using this
    rw [this] at e'
    cases e'
    exact hp
  · show (w.S ++ [c])[m]? = some Cell.dead
    rw [List.getElem?_append_left (List.getElem?_eq_some_iff.mp hm).1]
    exact hm
  · by_cases e : b = p
    · rw [e]; exact hp
    · have h' : upd w.H p o b = none := h
      rw [upd_ne e] at h'
      exact h'
theorem hrep_mk1 (R : HRep K mg w) {p : Addr} {c : Cell} {o : HO} (hp : w.H p = none) (hc : CRep K mg (w.mk1 p c o) p c) : HRep K mg (w.mk1 p c o) := by
  have k : Keep w (w.mk1 p c o) := keep_mk1 R hp
  have np : ∀ (l : Nat) (a : Addr), w.ι[l]? = some a → a ≠ p := fun l a h e => R.occ l a h (e ▸ hp)
  have spl : ∀ (l : Nat) (a : Addr), (w.ι ++ [p])[l]? = some a → w.ι[l]? = some a ∨ (l = w.ι.length ∧ a = p) := fun l a h => by
    by_cases hl : l < w.ι.length
    · rw [List.getElem?_append_left hl] at h
      exact .inl h
    · rw [List.getElem?_append_right (Nat.le_of_not_lt hl)] at h
      have h0 : l - w.ι.length = 0 := by
        have := (List.getElem?_eq_some_iff.mp h).1
        simpa using this
      rw [h0] at h
      cases h
      exact .inr ⟨by omega, rfl⟩
  refine ⟨by show (w.ι ++ [p]).length = (w.S ++ [c]).length; rw [List.length_append, List.length_append, R.len]; rfl, fun l l' a h h' => ?_, fun l a h => ?_, fun l a u h hu => ?_, fun a h => ?_, fun l a h => ?_⟩
  · rcases spl l a h with q | ⟨q, e⟩
    · rcases spl l' a h' with q' | ⟨q', e'⟩
      · exact R.inj l l' a q q'
      · exact absurd e' (np l a q)
    · rcases spl l' a h' with q' | ⟨q', e'⟩
      · exact absurd e (np l' a q')
      · omega
  · show upd w.H p o a ≠ none
    by_cases e : a = p
    · rw [e, upd_same]
      exact fun z => nomatch z
    · rw [upd_ne e]
      rcases spl l a h with q | ⟨_, q⟩
      · exact R.occ l a q
      · exact absurd q e
  · have hu' : (w.S ++ [c])[l]? = some u := hu
    rcases spl l a h with q | ⟨q, e⟩
    · have hl : l < w.S.length := by rw [← R.len]; exact (List.getElem?_eq_some_iff.mp q).1
      rw [List.getElem?_append_left hl] at hu'
      exact CRep.keep R k (upd_ne (np l a q)) (R.cell l a u q hu')
    · subst e
      rw [q, R.len, List.getElem?_append_right (Nat.le_refl _), Nat.sub_self] at hu'
      cases hu'
      exact hc
  · obtain ⟨xs, q⟩ := R.hid a h
    exact ⟨xs, (upd_ne (ne_of_none q hp)).trans q⟩
  · rcases spl l a h with q | ⟨_, e⟩
    · exact R.sep l a q
    · rw [e]
      intro z
      obtain ⟨xs, q⟩ := R.hid p z
      rw [hp] at q
      cases q
end
end L3
end

section
set_option Elab.async false
set_option linter.all false
set_option maxRecDepth 100000
set_option maxHeartbeats 4000000
namespace L3
open PySem PySem.Spec L2

/-! ### what is wanted behind a run -/
structure XRep (K : PySem.W.Frag) (mg : Str → Option Value) (w : Wd) (x : Exc) (c : Value) (dd : Option Addr) : Prop where
  cls : mg x.cls = some c
  fs : match dd with
    | none => x.fs = []
    | some d => ∃ gs, w.H d = some (.xd gs) ∧ RepF K mg w x.fs gs
section
variable (K : PySem.W.Frag) (mg : Str → Option Value)
def Post (W : WX) (σ : St) (w : Wd) {α : Type} (P : α → Wd → Prop) : Res α → Prop
  | .ok a S' => ∀ w', Keep w w' → HRep K mg w' → w'.S = S' → P a w'
  | .exc x S' => ∀ c dd w', Keep w w' → HRep K mg w' → w'.S = S' → XRep K mg w' x c dd → W c dd σ w'.H
  | .stuck => False
def PV (W : WX) (σ : St) (w : Wd) (Q : VK) (r : Res D) : Prop := Post K mg W σ w (fun d w' => ∀ v, RepV K mg w' d v → Q v w'.H) r
def PB (W : WX) (σ : St) (w : Wd) (Q : Bool → Hp → Prop) (r : Res Bool) : Prop := Post K mg W σ w (fun b w' => Q b w'.H) r
def PL (W : WX) (σ : St) (w : Wd) (Q : List V → Hp → Prop) (r : Res (List D)) : Prop := Post K mg W σ w (fun ds w' => ∀ vs, RepVs K mg w' ds vs → Q vs w'.H) r
def tM (W : WX) (m : EM) : TE := fun σ H Q => ∃ ρ w, w.H = H ∧ HRep K mg w ∧ ERep K mg w ρ σ ∧ PV K mg W σ w Q (m ρ w.S)
def tT (W : WX) (m : TM) : TT := fun σ H Q => ∃ ρ w, w.H = H ∧ HRep K mg w ∧ ERep K mg w ρ σ ∧ PB K mg W σ w Q (m ρ w.S)
def tL (W : WX) (m : AM) : TA := fun σ H Q => ∃ ρ w, w.H = H ∧ HRep K mg w ∧ ERep K mg w ρ σ ∧ PL K mg W σ w Q (m ρ w.S)
end
abbrev PD (X : Cx) (W : WX) (e : Expr) (m : EM) : Prop := PE X e (tM X.K X.mg W m)
abbrev PTD (X : Cx) (W : WX) (e : Expr) (m : TM) : Prop := PT X e (tT X.K X.mg W m)
abbrev PWD (X : Cx) (W : WX) (e : Expr) (m : TM) : Prop := PW X e (tT X.K X.mg W m)
abbrev PAD (X : Cx) (W : WX) (es : List Expr) (m : AM) : Prop := PA X es (tL X.K X.mg W m)
section
variable {K : PySem.W.Frag} {mg : Str → Option Value} {W : WX} {σ : St} {w w1 : Wd}
theorem Post.rebase {α : Type} {P : α → Wd → Prop} {r : Res α} (k : Keep w w1) (h : Post K mg W σ w P r) : Post K mg W σ w1 P r := by
  cases r with
  | ok a S' => exact fun w' k' R e => h w' (k.trans k') R e
  | exc x S' => exact fun c dd w' k' R e x => h c dd w' (k.trans k') R e x
  | stuck => exact h
theorem Post.mono {α : Type} {P P' : α → Wd → Prop} {r : Res α} (h : Post K mg W σ w P r) (hp : ∀ a w', Keep w w' → HRep K mg w' → P a w' → P' a w') : Post K mg W σ w P' r := by
  cases r with
  | ok a S' => exact fun w' k' R e => hp a w' k' R (h w' k' R e)
  | exc x S' => exact h
  | stuck => exact h
/-- one run, then what is wanted of the next -/
theorem Post.step {α β : Type} {P : β → Wd → Prop} {r : Res α} {k : α → Store → Res β} (h : Post K mg W σ w P (r.bind k)) : Post K mg W σ w (fun a w1 => Post K mg W σ w1 P (k a w1.S)) r := by
  cases r with
  | ok a S' => intro w' k' R e; subst e; exact Post.rebase k' h
  | exc x S' => exact h
  | stuck => exact h
theorem Post.now {α : Type} {P : α → Wd → Prop} {a : α} {S' : Store} (R : HRep K mg w) (h : Post K mg W σ w P (.ok a S')) (e : w.S = S') : P a w := h w (Keep.refl w) R e
theorem PV.now {Q : VK} {d : D} {v : V} (R : HRep K mg w) (r : RepV K mg w d v) (h : PV K mg W σ w Q (.ok d w.S)) : Q v w.H := Post.now R h rfl v r
theorem PV.stuck {Q : VK} {p : Prop} (h : PV K mg W σ w Q .stuck) : p := False.elim h
theorem PB.now {Q : Bool → Hp → Prop} {b : Bool} (R : HRep K mg w) (h : PB K mg W σ w Q (.ok b w.S)) : Q b w.H := Post.now R h rfl
theorem PB.stuck {Q : Bool → Hp → Prop} {p : Prop} (h : PB K mg W σ w Q .stuck) : p := False.elim h
/-- a run of an expression ahead of another one -/
theorem tM.of {β : Type} {ρ : DEnv} {m : EM} {k : D → Store → Res β} {P : β → Wd → Prop} {Q : VK} (R : HRep K mg w) (E : ERep K mg w ρ σ) (h : Post K mg W σ w P ((m ρ w.S).bind k))
    (hk : ∀ d w1 v, Keep w w1 → HRep K mg w1 → ERep K mg w1 ρ σ → RepV K mg w1 d v → Post K mg W σ w1 P (k d w1.S) → Q v w1.H) : tM K mg W m σ w.H Q :=
  ⟨ρ, w, rfl, R, E, Post.mono h.step fun d w1 k1 R1 h1 v r => hk d w1 v k1 R1 (E.keep R k1) r h1⟩
theorem tT.of {β : Type} {ρ : DEnv} {m : TM} {k : Bool → Store → Res β} {P : β → Wd → Prop} {Q : Bool → Hp → Prop} (R : HRep K mg w) (E : ERep K mg w ρ σ) (h : Post K mg W σ w P ((m ρ w.S).bind k))
    (hk : ∀ b w1, Keep w w1 → HRep K mg w1 → ERep K mg w1 ρ σ → Post K mg W σ w1 P (k b w1.S) → Q b w1.H) : tT K mg W m σ w.H Q :=
  ⟨ρ, w, rfl, R, E, Post.mono h.step fun b w1 k1 R1 h1 => hk b w1 k1 R1 (E.keep R k1) h1⟩
theorem tL.of {β : Type} {ρ : DEnv} {m : AM} {k : List D → Store → Res β} {P : β → Wd → Prop} {Q : List V → Hp → Prop} (R : HRep K mg w) (E : ERep K mg w ρ σ) (h : Post K mg W σ w P ((m ρ w.S).bind k))
    (hk : ∀ ds w1 vs, Keep w w1 → HRep K mg w1 → ERep K mg w1 ρ σ → RepVs K mg w1 ds vs → Post K mg W σ w1 P (k ds w1.S) → Q vs w1.H) : tL K mg W m σ w.H Q :=
  ⟨ρ, w, rfl, R, E, Post.mono h.step fun b w1 k1 R1 h1 vs r => hk b w1 vs k1 R1 (E.keep R k1) r h1⟩
end
section
variable {X : Cx} {W : WX}
theorem PE.conseq {e : Expr} {t t' : TE} (h : PE X e t) (hi : ∀ σ H Q, t' σ H Q → t σ H Q) : PE X e t' := ⟨fun pins s σ H Q I q => h.run pins s σ H Q I (hi σ H Q q)⟩
theorem PT.conseq {e : Expr} {t t' : TT} (h : PT X e t) (hi : ∀ σ H Q, t' σ H Q → t σ H Q) : PT X e t' := ⟨fun pins s σ H Q I q => h.run pins s σ H Q I (hi σ H Q q)⟩
theorem PW.conseq {e : Expr} {t t' : TT} (h : PW X e t) (hi : ∀ σ H Q, t' σ H Q → t σ H Q) : PW X e t' := ⟨fun wh pins s σ H Q I q => h.run wh pins s σ H Q I (hi σ H Q q)⟩
theorem PA.conseq {es : List Expr} {t t' : TA} (h : PA X es t) (hi : ∀ σ H Q, t' σ H Q → t σ H Q) : PA X es t' := ⟨fun pos pins s σ H Q I q => h.run pos pins s σ H Q I (hi σ H Q q)⟩
theorem PS.conseq {st : Stmt} {t t' : TS} (h : PS X st t) (hi : ∀ D σ H, t' D σ H → t D σ H) : PS X st t' := ⟨fun pins s σ H D I q => h.run pins s σ H D I (hi D σ H q)⟩
theorem PSs.conseq {st : List Stmt} {t t' : TS} (h : PSs X st t) (hi : ∀ D σ H, t' D σ H → t D σ H) : PSs X st t' := ⟨fun pins s σ H D I q => h.run pins s σ H D I (hi D σ H q)⟩

/-! ### names, constants -/
def eVar (i : Nat) : EM := fun ρ S => match ρ[i]? with
  | some (some d) => .ok d S
  | _ => .stuck
def eC (d : D) : EM := fun _ S => .ok d S
theorem pd_var {i : Nat} {e : Expr} (h : PE X e (tVar i)) : PD X W e (eVar i) := PE.conseq h fun σ H Q ⟨ρ, w, e, R, E, q⟩ => by
  subst e
  unfold eVar at q
  cases hi : ρ[i]? with
  | none => rw [hi] at q; exact q.stuck
  | some o =>
    cases o with
    | none => rw [hi] at q; exact q.stuck
    | some d =>
      rw [hi] at q
      obtain ⟨v, h1, h2⟩ := E.2 i d hi
      exact ⟨v, h1, PV.now R h2 q⟩
theorem pd_c {e : Expr} {v : V} {d : D} (h : PE X e (tC v)) (r : ∀ w, RepV X.K X.mg w d v) : PD X W e (eC d) := PE.conseq h fun σ H Q ⟨ρ, w, e, R, E, q⟩ => by
  subst e
  exact PV.now R (r w) q
theorem pd_int {i j pos} : PD X W (.Constant (.int i) j pos) (eC (.int i)) := pd_c pe_int fun _ => .int i
theorem pd_bl {b j pos} : PD X W (.Constant (.bool b) j pos) (eC (.bl b)) := pd_c pe_bl fun _ => .bl b
theorem pd_non {j pos} : PD X W (.Constant .none j pos) (eC .non) := pd_c pe_non fun _ => .non
theorem pd_str {x j pos} : PD X W (.Constant (.str x) j pos) (eC (.str x)) := pd_c pe_str fun _ => .str x
/-- a name of the module that holds an object (a class, a def) -/
theorem pd_gl {x : Str} {a : Addr} {pos : Pos} (hg : Gl X x) (hm : X.mg x = some (.ref a)) (hd : (x == ("__debug__" : Str)) = false := by decide) : PD X W (.Name x pos) (eC (.gl x)) := pd_c (pe_glob hg hm (v := .ref a) rfl hd) fun _ => .gl hm

/-! ### lists and tuples by value -/
def listOf (S : Store) : D → Option (List D)
  | .lst ds => some ds
  | .frz ds => some ds
  | .ref l => match S[l]? with
    | some (.lst ds) => some ds
    | _ => none
  | _ => none
def seqOf (S : Store) : D → Option (List D)
  | .tup ds => some ds
  | d => listOf S d
section
variable {K : PySem.W.Frag} {mg : Str → Option Value} {w : Wd}
theorem listOf_rd (R : HRep K mg w) {d : D} {x : V} {ds : List D} (r : RepV K mg w d x) (h : listOf w.S d = some ds) : ∃ a xs, x = .ref a ∧ Rd w.H a (.lst xs) ∧ xs.length ≤ sizeLine ∧ RepVs K mg w ds xs := by
  cases r with
  | lst hs n z r =>
    cases h
    exact ⟨_, _, rfl, .inl hs, z, r⟩
  | frz hs n z r =>
    cases h
    exact ⟨_, _, rfl, .inr ⟨_, hs⟩, z, r⟩
  | @ref l a hl =>
    dsimp only [listOf] at h
    cases e : w.S[l]? with
    | none => rw [e] at h; cases h
    | some c =>
      rw [e] at h
      cases c with
      | lst es =>
        cases h
        obtain ⟨xs, h1, z, h2⟩ := R.cell l a _ hl e
        exact ⟨a, xs, rfl, .inl h1, z, h2⟩
      | dead => cases h
      | dic _ => cases h
      | ins _ _ => cases h
  | _ => cases h
theorem listOf_rep (R : HRep K mg w) {d : D} {x : V} {ds : List D} (r : RepV K mg w d x) (h : listOf w.S d = some ds) : ∃ a xs, x = .ref a ∧ SqL K w.H a xs ∧ xs.length ≤ sizeLine ∧ RepVs K mg w ds xs := by
  obtain ⟨a, xs, e, q, z, r⟩ := listOf_rd R r h
  exact ⟨a, xs, e, .inl q, z, r⟩
theorem seqOf_rep (R : HRep K mg w) {d : D} {x : V} {ds : List D} (r : RepV K mg w d x) (h : seqOf w.S d = some ds) : ∃ a xs, x = .ref a ∧ (SqL K w.H a xs ∨ SqT K w.H a xs) ∧ xs.length ≤ sizeLine ∧ RepVs K mg w ds xs := by
  cases d with
  | tup es =>
    cases h
    cases r with
    | tup hs z r => exact ⟨_, _, rfl, .inr hs, z, r⟩
  | _ =>
    obtain ⟨a, xs, e, q, z, r⟩ := listOf_rep R r h
    exact ⟨a, xs, e, .inl q, z, r⟩
end
/-- a new list: live (a cell) or by value -/
def newL (live : Bool) (ds : List D) (S : Store) : Res D := if live then .ok (.ref S.length) (S ++ [.lst ds]) else .ok (.lst ds) S
section
variable {K : PySem.W.Frag} {mg : Str → Option Value} {w : Wd} {σ : St} {Q : VK}
theorem newL_post (R : HRep K mg w) {live : Bool} {ds : List D} {xs : List V} {p : Addr} (hz : xs.length ≤ sizeLine) (hp : w.H p = none) (r : RepVs K mg w ds xs) (h : PV K mg W σ w Q (newL live ds w.S)) : Q (.ref p) (upd w.H p (.lst xs)) := by
  cases live with
  | true =>
    have k : Keep w (w.mk1 p (.lst ds) (.lst xs)) := keep_mk1 R hp
    have R1 : HRep K mg (w.mk1 p (.lst ds) (.lst xs)) := hrep_mk1 R hp ⟨xs, upd_same, hz, r.keep R k⟩
    refine h _ k R1 rfl (.ref p) (.ref ?_)
    show (w.ι ++ [p])[w.S.length]? = some p
    rw [← R.len, List.getElem?_append_right (Nat.le_refl _), Nat.sub_self]
    rfl
  | false =>
    have k : Keep w (w.put p (.lst xs)) := keep_put R hp
    exact h _ k (hrep_put R hp) rfl (.ref p) (.lst upd_same (nl_fresh R hp rfl rfl) hz (r.keep R k))
theorem newT_post (R : HRep K mg w) {ds : List D} {xs : List V} {p : Addr} (hz : xs.length ≤ sizeLine) (hp : w.H p = none) (r : RepVs K mg w ds xs) (h : PV K mg W σ w Q (.ok (.tup ds) w.S)) : Q (.ref p) (upd w.H p (.tup xs)) :=
  have k : Keep w (w.put p (.tup xs)) := keep_put R hp
  h _ k (hrep_put R hp) rfl (.ref p) (.tup (SqT.of upd_same) hz (r.keep R k))
end

/-! ### argument lists, displays -/
def aNil : AM := fun _ S => .ok [] S
def aCons (m : EM) (ms : AM) : AM := fun ρ S => (m ρ S).bind fun d S1 => (ms ρ S1).bind fun ds S2 => .ok (d :: ds) S2
theorem pad_nil : PAD X W [] aNil := PA.conseq pa_nil fun σ H Q ⟨ρ, w, e, R, E, q⟩ => by
  subst e
  exact Post.now R q rfl [] .nil
theorem pad_cons {e : Expr} {es : List Expr} {m : EM} {ms : AM} (ha : PD X W e m) (hr : PAD X W es ms) (hs : starEach (e :: es) X.env = (false, eval e X.env) :: starEach es X.env := by rfl) : PAD X W (e :: es) (aCons m ms) :=
  PA.conseq (pa_cons ha hr hs) fun σ H Q ⟨ρ, w, e, R, E, q⟩ => by
    subst e
    refine tM.of R E q fun d w1 v k1 R1 E1 r1 h1 => ?_
    refine tL.of R1 E1 h1 fun ds w2 vs k2 R2 E2 r2 h2 => ?_
    exact Post.now R2 h2 rfl (v :: vs) (.cons (r1.keep R1 k2) r2)
def eTup (m : AM) : EM := fun ρ S => (m ρ S).bind fun ds S1 => if ds.length ≤ 1000 then .ok (.tup ds) S1 else .stuck
def eLst (live : Bool) (m : AM) : EM := fun ρ S => (m ρ S).bind fun ds S1 => if ds.length ≤ 1000 then newL live ds S1 else .stuck
theorem small_line {n : Nat} (h : n ≤ 1000) : n ≤ sizeLine := Nat.le_of_lt (small1000 h)
theorem pd_tup {es : List Expr} {m : AM} {x1 pos} (h : PAD X W es m) : PD X W (.Tuple es x1 pos) (eTup m) := PE.conseq (pe_tup h) fun σ H Q ⟨ρ, w, e, R, E, q⟩ => by
  subst e
  refine tL.of R E q fun ds w1 vs k1 R1 E1 r1 h1 => ?_
  by_cases hl : ds.length ≤ 1000
  · rw [if_pos hl] at h1
    have hz := (show vs.length ≤ sizeLine by rw [← r1.length]; exact small_line hl)
    exact ⟨hz, fun p hp => newT_post R1 hz hp r1 h1⟩
  · rw [if_neg hl] at h1
    exact h1.elim
theorem pd_lst {es : List Expr} {m : AM} {pos} (live : Bool) (h : PAD X W es m) : PD X W (.List es pos) (eLst live m) := PE.conseq (pe_lst h) fun σ H Q ⟨ρ, w, e, R, E, q⟩ => by
  subst e
  refine tL.of R E q fun ds w1 vs k1 R1 E1 r1 h1 => ?_
  by_cases hl : ds.length ≤ 1000
  · rw [if_pos hl] at h1
    have hz := (show vs.length ≤ sizeLine by rw [← r1.length]; exact small_line hl)
    exact ⟨hz, fun p hp => newL_post R1 hz hp r1 h1⟩
  · rw [if_neg hl] at h1
    exact h1.elim

/-! ### operators by values -/
/-- f of two values, as op says -/
def OpD (X : Cx) (W : WX) (f : Value → Value → Sem Value) (op : D → D → Store → Res D) : Prop :=
  ∀ (pins : List (Addr × Obj)) (s : Shared) (σ : St) (w : Wd) (d1 d2 : D) (x y : V) (v u : Value) (Q : VK), Inv X pins σ w.H s → HRep X.K X.mg w → RepV X.K X.mg w d1 x → RepV X.K X.mg w d2 y → RelV x v → RelV y u →
    PV X.K X.mg W σ w Q (op d1 d2 w.S) → wpAny (model X.prog X.w) X.A (f v u) (EP X pins σ Q) X.xe s
def UnD (X : Cx) (W : WX) (f : Value → Sem Value) (op : D → Store → Res D) : Prop :=
  ∀ (pins : List (Addr × Obj)) (s : Shared) (σ : St) (w : Wd) (d1 : D) (x : V) (v : Value) (Q : VK), Inv X pins σ w.H s → HRep X.K X.mg w → RepV X.K X.mg w d1 x → RelV x v →
    PV X.K X.mg W σ w Q (op d1 w.S) → wpAny (model X.prog X.w) X.A (f v) (EP X pins σ Q) X.xe s
theorem OpD.of {f : Value → Value → Sem Value} {r : R2} {op : D → D → Store → Res D} (h : OpR X f r)
    (hr : ∀ (σ : St) (w : Wd) (d1 d2 : D) (x y : V) (Q : VK), HRep X.K X.mg w → RepV X.K X.mg w d1 x → RepV X.K X.mg w d2 y → PV X.K X.mg W σ w Q (op d1 d2 w.S) → r x y w.H Q) : OpD X W f op :=
  fun pins s σ w d1 d2 x y v u Q I R r1 r2 rx ry q => h pins s σ w.H x y v u Q I rx ry (hr σ w d1 d2 x y Q R r1 r2 q)
def eBin (op : D → D → Store → Res D) (ma mb : EM) : EM := fun ρ S => (ma ρ S).bind fun a S1 => (mb ρ S1).bind fun b S2 => op a b S2
def eUn (op : D → Store → Res D) (ma : EM) : EM := fun ρ S => (ma ρ S).bind fun a S1 => op a S1
/-- a run, at the level of the machine -/
theorem PD.go {a : Expr} {m : EM} (ha : PD X W a m) {pins : List (Addr × Obj)} {s : Shared} {σ : St} {w : Wd} {ρ : DEnv} {β : Type} {k : D → Store → Res β} {P : β → Wd → Prop} {T : Value → Shared → Prop}
    (I : Inv X pins σ w.H s) (R : HRep X.K X.mg w) (E : ERep X.K X.mg w ρ σ) (h : Post X.K X.mg W σ w P ((m ρ w.S).bind k))
    (hk : ∀ d w1 v u s1, Keep w w1 → HRep X.K X.mg w1 → ERep X.K X.mg w1 ρ σ → RepV X.K X.mg w1 d v → RelV v u → Inv X pins σ w1.H s1 → Post X.K X.mg W σ w1 P (k d w1.S) → T u s1) :
    wpAny (model X.prog X.w) X.A (eval a X.env) T X.xe s := by
  refine thn (ha.run pins s σ w.H (fun v H1 => ∃ d w1, w1.H = H1 ∧ Keep w w1 ∧ HRep X.K X.mg w1 ∧ ERep X.K X.mg w1 ρ σ ∧ RepV X.K X.mg w1 d v ∧ Post X.K X.mg W σ w1 P (k d w1.S)) I
    (tM.of R E h fun d w1 v k1 R1 E1 r1 h1 => ⟨d, w1, rfl, k1, R1, E1, r1, h1⟩)) fun u s1 hq => ?_
  obtain ⟨v, H1, I1, rv, d, w1, e, k1, R1, E1, r1, h1⟩ := hq
  subst e
  exact hk d w1 v u s1 k1 R1 E1 r1 rv I1 h1
theorem pd_bin {o : Operator} {op : D → D → Store → Res D} {a b : Expr} {ma mb : EM} {pos : Pos} (ho : OpD X W (binaryOp o) op) (ha : PD X W a ma) (hb : PD X W b mb) : PD X W (.BinOp a o b pos) (eBin op ma mb) := by
  refine ⟨fun pins s σ H Q I h => ?_⟩
  obtain ⟨ρ, w, e, R, E, q⟩ := h
  subst e
  refine wpAny_BinOp (ha.go I R E q fun d1 w1 v u s1 k1 R1 E1 r1 rv I1 h1 => ?_)
  refine hb.go I1 R1 E1 h1 fun d2 w2 v2 u2 s2 k2 R2 E2 r2 rv2 I2 h2 => ?_
  exact ho pins s2 σ w2 d1 d2 v v2 u u2 Q I2 R2 (r1.keep R1 k2) r2 rv rv2 h2
theorem pd_un {o : UnaryOp} {op : D → Store → Res D} {a : Expr} {ma : EM} {pos : Pos} (ho : UnD X W (unaryOp o) op) (ha : PD X W a ma) (hw : ∀ (M : Model) (A : Around) (Q : Value → Shared → Prop) (E : Value → Shared → Prop) (s : Shared), wpAny M A (eval a X.env) (fun v s1 => wpAny M A (unaryOp o v) Q E s1) E s → wpAny M A (eval (.UnaryOp o a pos) X.env) Q E s := by intro _ _ _ _ _ h; exact PyProof.Rows.UnaryOp_ h) : PD X W (.UnaryOp o a pos) (eUn op ma) := by
  refine ⟨fun pins s σ H Q I h => ?_⟩
  obtain ⟨ρ, w, e, R, E, q⟩ := h
  subst e
  exact hw _ _ _ _ _ (ha.go I R E q fun d1 w1 v u s1 k1 R1 E1 r1 rv I1 h1 => ho pins s1 σ w1 d1 v u Q I1 R1 r1 rv h1)
def eCmp (op : D → D → Store → Res D) (ma mb : EM) : EM := eBin op ma mb
theorem pd_cmp {o : CmpOp} {op : D → D → Store → Res D} {a b : Expr} {ma mb : EM} {pos : Pos} (ho : OpD X W (compareOp o) op) (ha : PD X W a ma) (hb : PD X W b mb) (hm : behindInMarks o b = false) : PD X W (.Compare a [o] [b] pos) (eBin op ma mb) := by
  refine ⟨fun pins s σ H Q I h => ?_⟩
  obtain ⟨ρ, w, e, R, E, q⟩ := h
  subst e
  refine wpAny_Compare1 (ha.go I R E q fun d1 w1 v u s1 k1 R1 E1 r1 rv I1 h1 => ?_) hm
  refine hb.go I1 R1 E1 h1 fun d2 w2 v2 u2 s2 k2 R2 E2 r2 rv2 I2 h2 => ?_
  exact ho pins s2 σ w2 d1 d2 v v2 u u2 Q I2 R2 (r1.keep R1 k2) r2 rv rv2 h2
end
end L3
end

section
set_option Elab.async false
set_option linter.all false
set_option maxRecDepth 100000
set_option maxHeartbeats 4000000
namespace L3
open PySem PySem.Spec L2

/-! ### data that may be compared and shown -/
mutual
def toPy : D → Option PyData
  | .non => some .none
  | .bl b => some (.bool b)
  | .int i => some (.int i)
  | .str x => some (.str x)
  | .tup xs => (toPys xs).map .tuple
  | .lst xs => (toPys xs).map .list
  | _ => none
def toPys : List D → Option (List PyData)
  | [] => some []
  | x :: xs => match toPy x, toPys xs with
    | some p, some ps => some (p :: ps)
    | _, _ => none
end
def pyOf (S : Store) : D → Option PyData
  | .ref l => match S[l]? with
    | some (.lst ds) => (toPys ds).map .list
    | _ => none
  | d => toPy d
theorem toPys_cons {x : D} {xs : List D} {q : List PyData} (h : toPys (x :: xs) = some q) : ∃ p ps, toPy x = some p ∧ toPys xs = some ps ∧ q = p :: ps := by
  unfold toPys at h
  cases e1 : toPy x with
  | none => rw [e1] at h; cases h
  | some p =>
    cases e2 : toPys xs with
    | none => rw [e1, e2] at h; cases h
    | some ps =>
      rw [e1, e2] at h
      cases h
      exact ⟨p, ps, rfl, rfl, rfl⟩
mutual
theorem toPy_noDict : ∀ {d : D} {p : PyData}, toPy d = some p → p.hasDict = false
  | .non, _, h => by cases h; rfl
  | .bl _, _, h => by cases h; rfl
  | .int _, _, h => by cases h; rfl
  | .str _, _, h => by cases h; rfl
  | .ty _, _, h => by cases h
  | .gl _, _, h => by cases h
  | .ref _, _, h => by cases h
  | .obj _ _, _, h => by cases h
  | .frz _, _, h => by cases h
  | .tup xs, p, h => by
    obtain ⟨ps, h1, h2⟩ := Option.map_eq_some_iff.mp (show (toPys xs).map PyData.tuple = some p from h)
    subst h2
    exact toPys_noDict h1
  | .lst xs, p, h => by
    obtain ⟨ps, h1, h2⟩ := Option.map_eq_some_iff.mp (show (toPys xs).map PyData.list = some p from h)
    subst h2
    exact toPys_noDict h1
theorem toPys_noDict : ∀ {ds : List D} {ps : List PyData}, toPys ds = some ps → PyData.hasDictAll ps = false
  | [], _, h => by cases h; rfl
  | x :: xs, q, h => by
    obtain ⟨p, ps, h1, h2, e⟩ := toPys_cons h
    subst e
    show (p.hasDict || PyData.hasDictAll ps) = false
    rw [toPy_noDict h1, toPys_noDict h2]
    rfl
end
section
variable {X : Cx} {pins : List (Addr × Obj)} {σ : St} {w : Wd} {s : Shared}
theorem rd_obj (I : Inv X pins σ w.H s) {a : Addr} {xs : List V} (h : Rd w.H a (.lst xs)) : xs.length ≤ sizeLine ∧ ∃ (its : List Value) (n : Nat), Vals xs its ∧ s.heap.get? a = some { cls := .type "list", data := .seq its.toArray n } :=
  h.ok I.hok
mutual
theorem reads_of (I : Inv X pins σ w.H s) : ∀ {d : D} {x : V} {v : Value} {p : PyData}, RepV X.K X.mg w d x → RelV x v → toPy d = some p → ∃ as, Reads s.heap v p as
  | _, _, _, _, .non, r, h => by cases h; cases r; exact ⟨_, .none⟩
  | _, _, _, _, .bl b, r, h => by cases h; cases r; exact ⟨_, .bool b⟩
  | _, _, _, _, .int i, r, h => by cases h; obtain ⟨t, rfl⟩ := r; exact ⟨_, .int i t⟩
  | _, _, _, _, .str i, r, h => by cases h; obtain ⟨t, rfl⟩ := r; exact ⟨_, .str i t⟩
  | _, _, _, _, .ty _, _, h => by cases h
  | _, _, _, _, .gl _, _, h => by cases h
  | _, _, _, _, .ref _, _, h => by cases h
  | _, _, _, _, .obj _ _ _ _, _, h => by cases h
  | _, _, _, _, .frz _ _ _ _, _, h => by cases h
  | _, _, _, p, .tup (ds := ds) ht _ hr, r, h => by
    obtain ⟨ps, h1, h2⟩ := Option.map_eq_some_iff.mp (show (toPys ds).map PyData.tuple = some p from h)
    subst h2
    cases r
    obtain ⟨its, rv, ⟨o, ho, hc, n, hd⟩, _⟩ := I.tuple ht
    obtain ⟨as, ra⟩ := reads_all I hr rv h1
    exact ⟨as, .tuple ho hc hd (by simpa using ra)⟩
  | _, _, _, p, .lst (ds := ds) ht _ _ hr, r, h => by
    obtain ⟨ps, h1, h2⟩ := Option.map_eq_some_iff.mp (show (toPys ds).map PyData.list = some p from h)
    subst h2
    cases r
    obtain ⟨_, its, n, rv, ho⟩ := rd_obj I (.inl ht)
    obtain ⟨as, ra⟩ := reads_all I hr rv h1
    exact ⟨_, .list ho rfl rfl (by simpa using ra)⟩
theorem reads_all (I : Inv X pins σ w.H s) : ∀ {ds : List D} {xs : List V} {vs : List Value} {ps : List PyData}, RepVs X.K X.mg w ds xs → Vals xs vs → toPys ds = some ps → ∃ as, ReadsAll s.heap vs ps as
  | _, _, _, _, .nil, r, h => by cases h; cases r; exact ⟨_, .nil⟩
  | _, _, _, _, .cons r1 t1, r, h => by
    obtain ⟨p, ps, h1, h2, e⟩ := toPys_cons h
    subst e
    cases r with
    | cons rv tv =>
      obtain ⟨as, k1⟩ := reads_of I r1 rv h1
      obtain ⟨bs, k2⟩ := reads_all I t1 tv h2
      exact ⟨_, .cons k1 k2⟩
end
theorem pyOf_noDict {S : Store} {d : D} {p : PyData} (h : pyOf S d = some p) : p.hasDict = false := by
  cases d with
  | ref l =>
    dsimp only [pyOf] at h
    cases e : S[l]? with
    | none => rw [e] at h; cases h
    | some c =>
      rw [e] at h
      cases c with
      | lst ds =>
        obtain ⟨ps, h1, h2⟩ := Option.map_eq_some_iff.mp (show (toPys ds).map PyData.list = some p from h)
        subst h2
        exact toPys_noDict h1
      | dead => cases h
      | dic _ => cases h
      | ins _ _ => cases h
  | non => exact toPy_noDict (d := .non) h
  | bl b => exact toPy_noDict (d := .bl b) h
  | int b => exact toPy_noDict (d := .int b) h
  | str b => exact toPy_noDict (d := .str b) h
  | ty b => exact toPy_noDict (d := .ty b) h
  | gl b => exact toPy_noDict (d := .gl b) h
  | tup b => exact toPy_noDict (d := .tup b) h
  | lst b => exact toPy_noDict (d := .lst b) h
  | obj b c => exact toPy_noDict (d := .obj b c) h
  | frz b => exact toPy_noDict (d := .frz b) h
theorem reads_pyOf (I : Inv X pins σ w.H s) (R : HRep X.K X.mg w) {d : D} {x : V} {v : Value} {p : PyData} (r : RepV X.K X.mg w d x) (rx : RelV x v) (h : pyOf w.S d = some p) : ∃ as, Reads s.heap v p as := by
  cases d with
  | ref l =>
    dsimp only [pyOf] at h
    cases e : w.S[l]? with
    | none => rw [e] at h; cases h
    | some c =>
      rw [e] at h
      cases c with
      | lst ds =>
        obtain ⟨ps, h1, h2⟩ := Option.map_eq_some_iff.mp (show (toPys ds).map PyData.list = some p from h)
        subst h2
        cases r with
        | ref hl =>
          obtain ⟨xs, q1, _, q2⟩ := R.cell _ _ _ hl e
          cases rx
          obtain ⟨_, its, n, rv, ho⟩ := rd_obj I (.inl q1)
          obtain ⟨as, ra⟩ := reads_all I q2 rv h1
          exact ⟨_, .list ho rfl rfl (by simpa using ra)⟩
      | dead => cases h
      | dic _ => cases h
      | ins _ _ => cases h
  | non => exact reads_of I r rx (d := .non) h
  | bl b => exact reads_of I r rx (d := .bl b) h
  | int b => exact reads_of I r rx (d := .int b) h
  | str b => exact reads_of I r rx (d := .str b) h
  | ty b => exact reads_of I r rx (d := .ty b) h
  | gl b => exact reads_of I r rx (d := .gl b) h
  | tup b => exact reads_of I r rx (d := .tup b) h
  | lst b => exact reads_of I r rx (d := .lst b) h
  | obj b c => exact reads_of I r rx (d := .obj b c) h
  | frz b => exact reads_of I r rx (d := .frz b) h
end
/-! ### == -/
def isObjD : D → Bool
  | .obj _ _ => true
  | _ => false
abbrev Own2 := D → D → Store → Res D
def noOwn : Own2 := fun _ _ _ => .stuck
def eqD (a b : D) (S : Store) : Res D := match pyOf S a, pyOf S b with
  | some p, some q => if SeqAt.shaped p = true ∧ SeqAt.shaped q = true then .ok (.bl (PyData.eqv p q)) S else .stuck
  | _, _ => .stuck
def neD (a b : D) (S : Store) : Res D := match pyOf S a, pyOf S b with
  | some p, some q => if SeqAt.shaped p = true ∧ SeqAt.shaped q = true then .ok (.bl (!PyData.eqv p q)) S else .stuck
  | _, _ => .stuck
section
variable {X : Cx} {W : WX}
theorem eqD_cases {S : Store} {a b : D} {f : Bool → Bool} {g : D → D → Store → Res D} (hg : g a b S = match pyOf S a, pyOf S b with
  | some p, some q => if SeqAt.shaped p = true ∧ SeqAt.shaped q = true then .ok (.bl (f (PyData.eqv p q))) S else .stuck
  | _, _ => .stuck) : g a b S = .stuck ∨ ∃ p q, pyOf S a = some p ∧ pyOf S b = some q ∧ SeqAt.shaped p = true ∧ SeqAt.shaped q = true ∧ g a b S = .ok (.bl (f (PyData.eqv p q))) S := by
  rw [hg]
  cases e1 : pyOf S a with
  | none => exact .inl rfl
  | some p =>
    cases e2 : pyOf S b with
    | none => exact .inl rfl
    | some q =>
      by_cases h : SeqAt.shaped p = true ∧ SeqAt.shaped q = true
      · exact .inr ⟨p, q, rfl, rfl, h.1, h.2, if_pos h⟩
      · exact .inl (if_neg h)
theorem od_eq (hu : X.A.units + 64 < cLine) : OpD X W (compareOp .Eq) eqD := fun pins s σ w d1 d2 x y v u Q I R r1 r2 rx ry h => by
  rcases eqD_cases (f := id) (g := eqD) (S := w.S) (a := d1) (b := d2) rfl with e | ⟨p, q, e1, e2, s1, s2, e⟩
  · rw [e] at h; exact h.stuck
  · rw [e] at h
    obtain ⟨as, ra⟩ := reads_pyOf I R r1 rx e1
    obtain ⟨bs, rb⟩ := reads_pyOf I R r2 ry e2
    exact PyProof.Rows.eq_dataH ra rb s1 s2 hu ⟨.bl _, w.H, I, rfl, PV.now R (.bl _) h⟩
theorem od_ne (hu : X.A.units + 64 < cLine) : OpD X W (compareOp .NotEq) neD := fun pins s σ w d1 d2 x y v u Q I R r1 r2 rx ry h => by
  rcases eqD_cases (f := (!·)) (g := neD) (S := w.S) (a := d1) (b := d2) rfl with e | ⟨p, q, e1, e2, s1, s2, e⟩
  · rw [e] at h; exact h.stuck
  · rw [e] at h
    obtain ⟨as, ra⟩ := reads_pyOf I R r1 rx e1
    obtain ⟨bs, rb⟩ := reads_pyOf I R r2 ry e2
    exact PyProof.Rows.ne_dataH ra rb s1 s2 hu ⟨.bl _, w.H, I, rfl, PV.now R (.bl _) h⟩
/-! ### ints -/
def iI (g : Int → Int → D) (c : Int → Int → Bool := fun _ _ => true) : Own2 := fun a b S => match a, b with
  | .int i, .int j => if c i j = true then .ok (g i j) S else .stuck
  | _, _ => .stuck
theorem iI_cases {g : Int → Int → D} {c : Int → Int → Bool} {a b : D} {S : Store} : iI g c a b S = .stuck ∨ ∃ i j, a = .int i ∧ b = .int j ∧ c i j = true ∧ iI g c a b S = .ok (g i j) S := by
  unfold iI
  cases a with
  | int i =>
    cases b with
    | int j =>
      by_cases h : c i j = true
      · exact .inr ⟨i, j, rfl, rfl, h, if_pos h⟩
      · exact .inl (if_neg h)
    | _ => exact .inl rfl
  | _ => exact .inl rfl
theorem od_int {f : Value → Value → Sem Value} {C : Int → Int → Prop} {g : Int → Int → V} {g' : Int → Int → D} {c : Int → Int → Bool} (h : OpR X f (rI C g)) (hc : ∀ i j, c i j = true → C i j)
    (hg : ∀ i j w, RepV X.K X.mg w (g' i j) (g i j)) : OpD X W f (iI g' c) := OpD.of h fun σ w d1 d2 x y Q R r1 r2 q => by
  rcases iI_cases (g := g') (c := c) (a := d1) (b := d2) (S := w.S) with e | ⟨i, j, e1, e2, hcc, e⟩
  · rw [e] at q; exact q.stuck
  · rw [e] at q
    subst e1; subst e2
    cases r1; cases r2
    exact ⟨i, j, rfl, rfl, hc i j hcc, PV.now R (hg i j w) q⟩
theorem rI_of0 {f : Value → Value → Sem Value} {g : Int → Int → V} (h : OpR X f (rI0 g)) : OpR X f (rI (fun _ _ => True) g) := fun pins s σ H x y v u Q I rx ry q => by
  obtain ⟨i, j, e1, e2, _, q⟩ := q
  exact h pins s σ H x y v u Q I rx ry ⟨i, j, e1, e2, q⟩
theorem od_int0 {f : Value → Value → Sem Value} {g : Int → Int → V} {g' : Int → Int → D} (h : OpR X f (rI0 g)) (hg : ∀ i j w, RepV X.K X.mg w (g' i j) (g i j)) : OpD X W f (iI g') :=
  od_int (rI_of0 h) (fun _ _ _ => trivial) hg
def oSub : Own2 := iI fun i j => .int (i - j)
def oLt : Own2 := iI fun i j => .bl (decide (i < j))
def oLe : Own2 := iI fun i j => .bl (decide (i ≤ j))
def oGt : Own2 := iI fun i j => .bl (decide (j < i))
def oGe : Own2 := iI fun i j => .bl (decide (j ≤ i))
def oMod : Own2 := iI (fun i j => .int (i % j)) fun _ j => decide (0 < j)
def oFdiv : Own2 := iI (fun i j => .int (i / j)) fun _ j => decide (0 < j) && decide (j.natAbs.log2 < 9000)
def oPow : Own2 := iI (fun i j => .int (i ^ j.toNat)) fun i j => decide (0 ≤ j) && decide (j ≤ 1000000) && decide (i.natAbs < 2 ^ 64)
def oShr : Own2 := iI (fun i j => .int (i / 2 ^ j.toNat)) fun _ j => decide (0 ≤ j)
def oAnd : Own2 := iI fun i j => .int (Builtin.bitAnd i j)
theorem od_sub : OpD X W (binaryOp .Sub) oSub := od_int0 op_sub fun _ _ _ => .int _
theorem od_lt : OpD X W (compareOp .Lt) oLt := od_int0 op_lt fun _ _ _ => .bl _
theorem od_le : OpD X W (compareOp .LtE) oLe := od_int0 op_le fun _ _ _ => .bl _
theorem od_gt : OpD X W (compareOp .Gt) oGt := od_int0 op_gt fun _ _ _ => .bl _
theorem od_ge : OpD X W (compareOp .GtE) oGe := od_int0 op_ge fun _ _ _ => .bl _
theorem od_mod : OpD X W (binaryOp .Mod) oMod := od_int op_mod (fun _ _ h => of_decide_eq_true h) fun _ _ _ => .int _
theorem od_fdiv : OpD X W (binaryOp .FloorDiv) oFdiv := od_int op_fdivW (fun i j h => by
  rw [Bool.and_eq_true] at h
  exact ⟨of_decide_eq_true h.1, of_decide_eq_true h.2⟩) fun _ _ _ => .int _
theorem od_pow : OpD X W (binaryOp .Pow) oPow := od_int op_pow (fun i j h => by
  rw [Bool.and_eq_true, Bool.and_eq_true] at h
  exact ⟨of_decide_eq_true h.1.1, of_decide_eq_true h.1.2, of_decide_eq_true h.2⟩) fun _ _ _ => .int _
theorem od_shr : OpD X W (binaryOp .RShift) oShr := od_int op_shr (fun _ _ h => of_decide_eq_true h) fun _ _ _ => .int _
theorem od_and : OpD X W (binaryOp .BitAnd) oAnd := od_int0 op_and fun _ _ _ => .int _
/-! ### + -/
def oAdd (live : Bool) : Own2 := fun a b S => match a, b with
  | .int i, .int j => .ok (.int (i + j)) S
  | .str x, .str y => if x.length + y.length ≤ sizeLine then .ok (.str (x ++ y)) S else .stuck
  | .tup xs, .tup ys => if xs.length + ys.length ≤ sizeLine then .ok (.tup (xs ++ ys)) S else .stuck
  | a, b => match listOf S a, listOf S b with
    | some xs, some ys => if xs.length + ys.length ≤ sizeLine then newL live (xs ++ ys) S else .stuck
    | _, _ => .stuck
theorem op_catL : OpR X (binaryOp .Add) (fun x y H Q => ∃ l b xs zs, x = .ref l ∧ y = .ref b ∧ Rd H l (.lst xs) ∧ Rd H b (.lst zs) ∧ xs.length + zs.length ≤ sizeLine ∧ ∀ p, H p = none → Q (.ref p) (upd H p (.lst (xs ++ zs)))) := by
  intro pins s σ H x y v u Q I rx ry h
  obtain ⟨l, b, xs, zs, rfl, rfl, hH, hB, hz, q⟩ := h
  cases rx
  cases ry
  obtain ⟨z, its, n, r, e⟩ := hH.ok I.hok
  obtain ⟨z2, its2, n2, r2, e2⟩ := hB.ok I.hok
  have hl := r.length
  have hl2 := r2.length
  refine PySem.P.add_list e e2 ?_ (by rw [List.size_toArray, List.size_toArray]; omega)
  have ea : its.toArray ++ its2.toArray = (its ++ its2).toArray := by simp
  rw [ea]
  exact ⟨.ref _, _, I.lnew (t' := s.toks) (r.append r2) (by rw [List.length_append]; omega), rfl, q _ I.fresh⟩
theorem RepVs.nil_iff {w : Wd} {ds : List D} {xs : List V} (r : RepVs X.K X.mg w ds xs) : xs = [] ↔ ds = [] := by
  constructor
  · rintro rfl; cases r; rfl
  · rintro rfl; cases r; rfl
theorem od_add (live : Bool) : OpD X W (binaryOp .Add) (oAdd live) := fun pins s σ w d1 d2 x y v u Q I R r1 r2 rx ry h => by
  have lists : (match listOf w.S d1, listOf w.S d2 with
    | some xs, some ys => if xs.length + ys.length ≤ sizeLine then newL live (xs ++ ys) w.S else .stuck
    | _, _ => .stuck) = oAdd live d1 d2 w.S → wpAny (model X.prog X.w) X.A (binaryOp .Add v u) (EP X pins σ Q) X.xe s := by
    intro e
    rw [← e] at h
    cases e1 : listOf w.S d1 with
    | none => rw [e1] at h; exact h.stuck
    | some xs =>
      cases e2 : listOf w.S d2 with
      | none => rw [e1, e2] at h; exact h.stuck
      | some ys =>
        rw [e1, e2] at h
        obtain ⟨a, vs, rfl, ha, _, ra⟩ := listOf_rd R r1 e1
        obtain ⟨b, us, rfl, hb, _, rb⟩ := listOf_rd R r2 e2
        by_cases hz : xs.length + ys.length ≤ sizeLine
        · dsimp only at h
          rw [if_pos hz] at h
          exact op_catL pins s σ w.H _ _ v u Q I rx ry ⟨a, b, vs, us, rfl, rfl, ha, hb, by rw [← ra.length, ← rb.length]; exact hz, fun p hp => newL_post R (by rw [List.length_append, ← ra.length, ← rb.length]; exact hz) hp (ra.append rb) h⟩
        · dsimp only at h
          rw [if_neg hz] at h
          exact h.stuck
  cases d1 with
  | int i =>
    cases d2 with
    | int j =>
      cases r1; cases r2
      exact op_add pins s σ w.H _ _ v u Q I rx ry ⟨i, j, rfl, rfl, PV.now R (.int _) h⟩
    | _ => exact lists rfl
  | str a =>
    cases d2 with
    | str b =>
      cases r1; cases r2
      by_cases hz : a.length + b.length ≤ sizeLine
      · rw [show oAdd live (.str a) (.str b) w.S = .ok (.str (a ++ b)) w.S from if_pos hz] at h
        exact op_add_str pins s σ w.H _ _ v u Q I rx ry ⟨a, b, rfl, rfl, hz, PV.now R (.str _) h⟩
      · rw [show oAdd live (.str a) (.str b) w.S = .stuck from if_neg hz] at h
        exact h.stuck
    | _ => exact lists rfl
  | tup a =>
    cases d2 with
    | tup b =>
      by_cases hz : a.length + b.length ≤ sizeLine
      · rw [show oAdd live (.tup a) (.tup b) w.S = .ok (.tup (a ++ b)) w.S from if_pos hz] at h
        cases r1 with
        | tup h1 z1 q1 =>
          cases r2 with
          | tup h2 z2 q2 =>
            refine op_catA pins s σ w.H _ _ v u Q I rx ry ⟨_, _, _, _, rfl, rfl, h1, h2, by rw [← q1.length, ← q2.length]; exact hz, fun e => ?_, fun e e2 => ?_, fun _ _ p hp => newT_post R (by rw [List.length_append, ← q1.length, ← q2.length]; exact hz) hp (q1.append q2) h⟩
            · subst e
              cases q1
              exact PV.now R (.tup h2 z2 q2) h
            · subst e2
              cases q2
              rw [List.append_nil] at h
              exact PV.now R (.tup h1 z1 q1) h
      · rw [show oAdd live (.tup a) (.tup b) w.S = .stuck from if_neg hz] at h
        exact h.stuck
    | _ => exact lists rfl
  | _ => exact lists rfl
/-! ### * -/
/-- a list that may be repeated -/
def plainOf (S : Store) : D → Option (List D)
  | .frz _ => none
  | d => listOf S d
theorem plainOf_rep {w : Wd} (R : HRep X.K X.mg w) {d : D} {x : V} {ds : List D} (r : RepV X.K X.mg w d x) (h : plainOf w.S d = some ds) : ∃ a xs, x = .ref a ∧ w.H a = some (.lst xs) ∧ RepVs X.K X.mg w ds xs := by
  cases r with
  | frz hs n z r => cases h
  | lst hs n z r =>
    cases h
    exact ⟨_, _, rfl, hs, r⟩
  | @ref l a hl =>
    have h' : listOf w.S (.ref l) = some ds := h
    dsimp only [listOf] at h'
    cases e : w.S[l]? with
    | none => rw [e] at h'; cases h'
    | some c =>
      rw [e] at h'
      cases c with
      | lst es =>
        cases h'
        obtain ⟨xs, h1, _, h2⟩ := R.cell l a _ hl e
        exact ⟨a, xs, rfl, h1, h2⟩
      | dead => cases h'
      | dic _ => cases h'
      | ins _ _ => cases h'
  | _ => cases h
theorem RepVs.rep {w : Wd} {ds : List D} {xs : List V} (r : RepVs X.K X.mg w ds xs) : ∀ n, RepVs X.K X.mg w (List.replicate n ds).flatten (List.replicate n xs).flatten
  | 0 => .nil
  | n + 1 => by
    rw [List.replicate_succ, List.replicate_succ, List.flatten_cons, List.flatten_cons]
    exact r.append (RepVs.rep r n)
def oMul (live : Bool) : Own2 := fun a b S => match a, b with
  | .int i, .int j => if i.natAbs.log2 + j.natAbs.log2 < 1000000 then .ok (.int (i * j)) S else .stuck
  | .tup xs, .int k => if xs ≠ [] ∧ 2 ≤ k ∧ k ≤ 1000 ∧ xs.length ≤ 1000 then .ok (.tup (List.replicate k.toNat xs).flatten) S else .stuck
  | a, .int k => match plainOf S a with
    | some xs => if -(2 ^ 63) ≤ k ∧ k < 2 ^ 63 ∧ xs.length * k.toNat ≤ sizeLine then newL live (List.replicate k.toNat xs).flatten S else .stuck
    | none => .stuck
  | _, _ => .stuck
theorem od_mul (live : Bool) : OpD X W (binaryOp .Mult) (oMul live) := fun pins s σ w d1 d2 x y v u Q I R r1 r2 rx ry h => by
  cases d2 with
  | int k =>
    cases r2
    have lists : (match plainOf w.S d1 with
      | some xs => if -(2 ^ 63) ≤ k ∧ k < 2 ^ 63 ∧ xs.length * k.toNat ≤ sizeLine then newL live (List.replicate k.toNat xs).flatten w.S else .stuck
      | none => .stuck) = oMul live d1 (.int k) w.S → wpAny (model X.prog X.w) X.A (binaryOp .Mult v u) (EP X pins σ Q) X.xe s := by
      intro e
      rw [← e] at h
      cases e1 : plainOf w.S d1 with
      | none => rw [e1] at h; exact h.stuck
      | some xs =>
        rw [e1] at h
        obtain ⟨a, vs, rfl, ha, ra⟩ := plainOf_rep R r1 e1
        by_cases hz : -(2 ^ 63) ≤ k ∧ k < 2 ^ 63 ∧ xs.length * k.toNat ≤ sizeLine
        · dsimp only at h
          rw [if_pos hz] at h
          exact op_rep pins s σ w.H _ _ v u Q I rx ry ⟨a, k, vs, rfl, rfl, ha, hz.1, hz.2.1, by rw [← ra.length]; exact hz.2.2, fun p hp => newL_post R (by rw [PyProof.Rows.lm_len_rep_flat, Nat.mul_comm, ← ra.length]; exact hz.2.2) hp (ra.rep k.toNat) h⟩
        · dsimp only at h
          rw [if_neg hz] at h
          exact h.stuck
    cases d1 with
    | int i =>
      cases r1
      by_cases hz : i.natAbs.log2 + k.natAbs.log2 < 1000000
      · rw [show oMul live (.int i) (.int k) w.S = .ok (.int (i * k)) w.S from if_pos hz] at h
        exact op_mulW pins s σ w.H _ _ v u Q I rx ry ⟨i, k, rfl, rfl, hz, PV.now R (.int _) h⟩
      · rw [show oMul live (.int i) (.int k) w.S = .stuck from if_neg hz] at h
        exact h.stuck
    | tup xs =>
      by_cases hz : xs ≠ [] ∧ 2 ≤ k ∧ k ≤ 1000 ∧ xs.length ≤ 1000
      · rw [show oMul live (.tup xs) (.int k) w.S = .ok (.tup (List.replicate k.toNat xs).flatten) w.S from if_pos hz] at h
        cases r1 with
        | tup h1 z1 q1 =>
          exact op_repT pins s σ w.H _ _ v u Q I rx ry ⟨_, k, _, rfl, rfl, h1, fun e => hz.1 (q1.nil_iff.mp e), hz.2.1, hz.2.2.1, by rw [← q1.length]; exact hz.2.2.2, fun p hp => newT_post R (by
            rw [PyProof.Rows.lm_len_rep_flat, ← q1.length, sizeLine_eq]
            have : k.toNat * xs.length ≤ 1000 * 1000 := Nat.mul_le_mul (by omega) hz.2.2.2
            omega) hp (q1.rep k.toNat) h⟩
      · rw [show oMul live (.tup xs) (.int k) w.S = .stuck from if_neg hz] at h
        exact h.stuck
    | _ => exact lists rfl
  | _ => cases d1 <;> exact h.stuck
/-! ### signs -/
def oNeg : D → Store → Res D := fun a S => match a with
  | .int i => .ok (.int (-i)) S
  | _ => .stuck
theorem ud_neg : UnD X W (unaryOp .USub) oNeg := fun pins s σ w d x v Q I R r rx h => by
  cases d with
  | int i =>
    cases r
    exact un_neg pins s σ w.H _ v Q I rx ⟨i, rfl, PV.now R (.int _) h⟩
  | _ => exact h.stuck
/-! ### is None -/
def isNon : D → Bool
  | .non => true
  | _ => false
def oIsN : Own2 := fun a b S => match b with
  | .non => .ok (.bl (isNon a)) S
  | _ => .stuck
def oNotN : Own2 := fun a b S => match b with
  | .non => .ok (.bl (!(isNon a))) S
  | _ => .stuck
theorem non_iff {w : Wd} {d : D} {x : V} (r : RepV X.K X.mg w d x) : decide (x = .non) = isNon d := by
  cases r <;> rfl
theorem od_isN : OpD X W (compareOp .Is) oIsN := OpD.of op_isN fun σ w d1 d2 x y Q R r1 r2 q => by
  cases d2 with
  | non =>
    cases r2
    exact ⟨rfl, PV.now R (by rw [non_iff r1]; exact .bl _) q⟩
  | _ => exact q.stuck
theorem od_notN : OpD X W (compareOp .IsNot) oNotN := OpD.of op_notN fun σ w d1 d2 x y Q R r1 r2 q => by
  cases d2 with
  | non =>
    cases r2
    exact ⟨rfl, PV.now R (by rw [non_iff r1]; exact .bl _) q⟩
  | _ => exact q.stuck
/-! ### in -/
def flatD : D → Bool
  | .non => true
  | .bl _ => true
  | .int _ => true
  | .str _ => true
  | _ => false
def eqF : D → D → Bool
  | .non, .non => true
  | .bl a, .bl b => a == b
  | .bl a, .int b => (if a then 1 else 0) == b
  | .int a, .bl b => a == (if b then 1 else 0)
  | .int a, .int b => a == b
  | .str a, .str b => a == b
  | _, _ => false
theorem flat_rep {w : Wd} {d : D} {x : V} (r : RepV X.K X.mg w d x) (h : flatD d = true) : flatV x = true := by
  cases r <;> first | rfl | cases h
theorem eqF_rep {w : Wd} {d e : D} {x y : V} (r : RepV X.K X.mg w d x) (q : RepV X.K X.mg w e y) (h : flatD d = true) (h' : flatD e = true) : eqV x y = eqF d e := by
  cases r <;> first | (cases h; done) | (cases q <;> first | rfl | cases h')
theorem any_rep {w : Wd} {e : D} {y : V} (q : RepV X.K X.mg w e y) (h' : flatD e = true) : ∀ {ds : List D} {xs : List V}, RepVs X.K X.mg w ds xs → ds.all flatD = true → xs.all flatV = true ∧ inV y xs = ds.any fun d => eqF d e
  | _, _, .nil, _ => ⟨rfl, rfl⟩
  | _, _, .cons r t, h => by
    rw [List.all_cons, Bool.and_eq_true] at h
    obtain ⟨i1, i2⟩ := any_rep q h' t h.2
    refine ⟨by rw [List.all_cons, flat_rep r h.1, i1]; rfl, ?_⟩
    unfold inV at i2 ⊢
    rw [List.any_cons, List.any_cons, i2, eqF_rep r q h.1 h']
def oIn (neg : Bool) : Own2 := fun a b S => match seqOf S b with
  | some ds => if flatD a = true ∧ ds.all flatD = true then .ok (.bl (if neg then !(ds.any fun d => eqF d a) else ds.any fun d => eqF d a)) S else .stuck
  | none => .stuck
theorem rIn_of (neg : Bool) {σ : St} {w : Wd} {d1 d2 : D} {x y : V} {Q : VK} (R : HRep X.K X.mg w) (r1 : RepV X.K X.mg w d1 x) (r2 : RepV X.K X.mg w d2 y) (q : PV X.K X.mg W σ w Q (oIn neg d1 d2 w.S)) : rIn X.K neg x y w.H Q := by
  unfold oIn at q
  cases e : seqOf w.S d2 with
  | none => rw [e] at q; exact q.stuck
  | some ds =>
    rw [e] at q
    by_cases h : flatD d1 = true ∧ ds.all flatD = true
    · dsimp only at q
      rw [if_pos h] at q
      obtain ⟨a, xs, rfl, hs, _, rs⟩ := seqOf_rep R r2 e
      obtain ⟨i1, i2⟩ := any_rep r1 h.1 rs h.2
      refine ⟨a, xs, rfl, hs, flat_rep r1 h.1, i1, ?_⟩
      rw [i2]
      exact PV.now R (.bl _) q
    · dsimp only at q
      rw [if_neg h] at q
      exact q.stuck
theorem od_in : OpD X W (compareOp .In) (oIn false) := OpD.of op_in_seq fun σ w d1 d2 x y Q R r1 r2 q => rIn_of false R r1 r2 q
theorem od_notIn : OpD X W (compareOp .NotIn) (oIn true) := OpD.of op_notIn_seq fun σ w d1 d2 x y Q R r1 r2 q => rIn_of true R r1 r2 q
end
end L3
end

section
set_option Elab.async false
set_option linter.all false
set_option maxRecDepth 100000
set_option maxHeartbeats 4000000
namespace L3
open PySem PySem.Spec L2
section
variable {X : Cx} {W : WX} {a b c e : Expr} {ma mb mc : EM} {ta tb : TM} {pos : Pos}
/-! ### tests -/
def tVal (m : EM) : TM := fun ρ S => (m ρ S).bind fun d S1 => match d with
  | .bl k => .ok k S1
  | _ => .stuck
theorem td_val (h : PD X W e ma) (he : ∀ whole, isTrue e X.env whole = (do let v ← whole; standAt e.pos; holding [v] (truthy v)) := by intro _; rfl) : PTD X W e (tVal ma) :=
  PT.conseq (pt_val h he) fun σ H Q ⟨ρ, w, e, R, E, q⟩ => by
    subst e
    refine tM.of R E q fun d w1 v k1 R1 E1 r1 h1 => ?_
    cases d with
    | bl k =>
      cases r1
      exact ⟨k, rfl, PB.now R1 h1⟩
    | _ => exact h1.elim
theorem td_cmp {o : CmpOp} {op : Own2} (ho : OpD X W (compareOp o) op) (ha : PD X W a ma) (hb : PD X W b mb) (hm : behindInMarks o b = false) : PTD X W (.Compare a [o] [b] pos) (tVal (eBin op ma mb)) := by
  refine ⟨fun pins s σ H Q I h => ?_⟩
  obtain ⟨ρ, w, e, R, E, q⟩ := h
  subst e
  have q' : Post X.K X.mg W σ w (fun b w' => Q b w'.H) ((ma ρ w.S).bind fun d1 S1 => (mb ρ S1).bind fun d2 S2 => (op d1 d2 S2).bind fun d S3 => match d with
    | .bl k => Res.ok k S3
    | _ => .stuck) := by
    have z : tVal (eBin op ma mb) ρ w.S = (ma ρ w.S).bind fun d1 S1 => (mb ρ S1).bind fun d2 S2 => (op d1 d2 S2).bind fun d S3 => match d with
      | .bl k => Res.ok k S3
      | _ => .stuck := by
      unfold tVal eBin
      cases ma ρ w.S with
      | ok d1 S1 =>
        dsimp only [Res.bind]
        cases mb ρ S1 <;> rfl
      | exc _ _ => rfl
      | stuck => rfl
    rw [← z]
    exact q
  refine wpAny_isTrue_Compare1 (ha.go I R E q' fun d1 w1 v u s1 k1 R1 E1 r1 rv I1 h1 => hb.go I1 R1 E1 h1 fun d2 w2 v2 u2 s2 k2 R2 E2 r2 rv2 I2 h2 => ?_) hm
  refine thn (ho pins s2 σ w2 d1 d2 v v2 u u2 (fun z H3 => ∃ k, z = .bl k ∧ Q k H3) I2 R2 (r1.keep R1 k2) r2 rv rv2 (Post.mono h2.step fun d w3 k3 R3 h3 z rz => ?_)) fun c s3 h3 => ?_
  · cases d with
    | bl k =>
      cases rz
      exact ⟨k, rfl, PB.now R3 h3⟩
    | _ => exact h3.elim
  · obtain ⟨z, H3, I3, r3, k, e3, q3⟩ := h3
    subst e3
    cases r3
    exact wpAny_truthy_bool ⟨H3, I3, q3⟩
def tAndM (t u : TM) : TM := fun ρ S => (t ρ S).bind fun k S1 => if k = true then u ρ S1 else .ok false S1
def tOrM (t u : TM) : TM := fun ρ S => (t ρ S).bind fun k S1 => if k = true then .ok true S1 else u ρ S1
def tNotM (t : TM) : TM := fun ρ S => (t ρ S).bind fun k S1 => .ok (!k) S1
variable {rest : List Expr}
theorem wd_and1 (ha : PTD X W a ta) : PWD X W (.BoolOp .And [a] pos) ta := pw_and1 ha
theorem wd_or1 (ha : PTD X W a ta) : PWD X W (.BoolOp .Or [a] pos) ta := pw_or1 ha
theorem wd_and (ha : PTD X W a ta) (hb : PWD X W (.BoolOp .And (b :: rest) pos) tb) : PWD X W (.BoolOp .And (a :: b :: rest) pos) (tAndM ta tb) :=
  PW.conseq (pw_and ha hb) fun σ H Q ⟨ρ, w, e, R, E, q⟩ => by
    subst e
    refine tT.of R E q fun k w1 k1 R1 E1 h1 => ?_
    cases k with
    | true => exact ⟨ρ, w1, rfl, R1, E1, h1⟩
    | false => exact PB.now R1 h1
theorem wd_or (ha : PTD X W a ta) (hb : PWD X W (.BoolOp .Or (b :: rest) pos) tb) : PWD X W (.BoolOp .Or (a :: b :: rest) pos) (tOrM ta tb) :=
  PW.conseq (pw_or ha hb) fun σ H Q ⟨ρ, w, e, R, E, q⟩ => by
    subst e
    refine tT.of R E q fun k w1 k1 R1 E1 h1 => ?_
    cases k with
    | false => exact ⟨ρ, w1, rfl, R1, E1, h1⟩
    | true => exact PB.now R1 h1
theorem td_w {t : TM} (h : PWD X W e t) : PTD X W e t := h.pt
theorem td_not (ha : PTD X W a ta) : PTD X W (.UnaryOp .Not a pos) (tNotM ta) :=
  PT.conseq (pt_not ha) fun σ H Q ⟨ρ, w, e, R, E, q⟩ => by
    subst e
    exact tT.of R E q fun k w1 k1 R1 E1 h1 => PB.now R1 h1
/-! ### .. as values -/
def eAnd (m n : EM) : EM := fun ρ S => (m ρ S).bind fun d S1 => match d with
  | .bl true => n ρ S1
  | .bl false => .ok (.bl false) S1
  | _ => .stuck
def eOr (m n : EM) : EM := fun ρ S => (m ρ S).bind fun d S1 => match d with
  | .bl true => .ok (.bl true) S1
  | .bl false => n ρ S1
  | _ => .stuck
def eNot (m : EM) : EM := fun ρ S => (m ρ S).bind fun d S1 => match d with
  | .bl k => .ok (.bl (!k)) S1
  | _ => .stuck
theorem pd_one {op} (h : PD X W a ma) : PD X W (.BoolOp op [a] pos) ma := pe_one h
theorem pd_and (ha : PD X W a ma) (hb : PD X W (.BoolOp .And (b :: rest) pos) mb) : PD X W (.BoolOp .And (a :: b :: rest) pos) (eAnd ma mb) :=
  PE.conseq (pe_and ha hb) fun σ H Q ⟨ρ, w, e, R, E, q⟩ => by
    subst e
    refine tM.of R E q fun d w1 v k1 R1 E1 r1 h1 => ?_
    cases d with
    | bl k =>
      cases r1
      refine ⟨k, rfl, ?_⟩
      cases k with
      | true => exact ⟨ρ, w1, rfl, R1, E1, h1⟩
      | false => exact PV.now R1 (.bl false) h1
    | _ => exact h1.elim
theorem pd_or (ha : PD X W a ma) (hb : PD X W (.BoolOp .Or (b :: rest) pos) mb) : PD X W (.BoolOp .Or (a :: b :: rest) pos) (eOr ma mb) :=
  PE.conseq (pe_or ha hb) fun σ H Q ⟨ρ, w, e, R, E, q⟩ => by
    subst e
    refine tM.of R E q fun d w1 v k1 R1 E1 r1 h1 => ?_
    cases d with
    | bl k =>
      cases r1
      refine ⟨k, rfl, ?_⟩
      cases k with
      | false => exact ⟨ρ, w1, rfl, R1, E1, h1⟩
      | true => exact PV.now R1 (.bl true) h1
    | _ => exact h1.elim
theorem pd_not (ha : PD X W a ma) : PD X W (.UnaryOp .Not a pos) (eNot ma) :=
  PE.conseq (pe_not ha) fun σ H Q ⟨ρ, w, e, R, E, q⟩ => by
    subst e
    refine tM.of R E q fun d w1 v k1 R1 E1 r1 h1 => ?_
    cases d with
    | bl k =>
      cases r1
      exact ⟨k, rfl, PV.now R1 (.bl _) h1⟩
    | _ => exact h1.elim
def eIf (t : TM) (m n : EM) : EM := fun ρ S => (t ρ S).bind fun k S1 => if k = true then m ρ S1 else n ρ S1
theorem pd_if (hc : PTD X W c ta) (ha : PD X W a ma) (hb : PD X W b mb) : PD X W (.IfExp c a b pos) (eIf ta ma mb) :=
  PE.conseq (pe_ifExp hc ha hb) fun σ H Q ⟨ρ, w, e, R, E, q⟩ => by
    subst e
    refine tT.of R E q fun k w1 k1 R1 E1 h1 => ?_
    cases k with
    | true => exact ⟨ρ, w1, rfl, R1, E1, h1⟩
    | false => exact ⟨ρ, w1, rfl, R1, E1, h1⟩
/-! ### a chain of two comparisons of ints -/
def eChain (p p' : Int → Int → Bool) (ma mb mc : EM) : EM := fun ρ S => (ma ρ S).bind fun x S1 => (mb ρ S1).bind fun y S2 => match x, y with
  | .int i, .int j => if p i j = true then (mc ρ S2).bind fun z S3 => match z with
      | .int k => .ok (.bl (p' j k)) S3
      | _ => .stuck
    else .ok (.bl false) S2
  | _, _ => .stuck
theorem tChain_of {σ : St} {w : Wd} {ρ : DEnv} {p p' : Int → Int → Bool} {Q : VK} (R : HRep X.K X.mg w) (E : ERep X.K X.mg w ρ σ) (q : PV X.K X.mg W σ w Q (eChain p p' ma mb mc ρ w.S)) :
    tChain (rI0 fun i j => .bl (p i j)) (rI0 fun i j => .bl (p' i j)) (tM X.K X.mg W ma) (tM X.K X.mg W mb) (tM X.K X.mg W mc) σ w.H Q := by
  refine tM.of R E q fun d w1 v k1 R1 E1 r1 h1 => ?_
  refine tM.of R1 E1 h1 fun d2 w2 v2 k2 R2 E2 r2 h2 => ?_
  cases d with
  | int i =>
    cases d2 with
    | int j =>
      cases r1; cases r2
      refine ⟨i, j, rfl, rfl, p i j, rfl, ?_⟩
      cases hp : p i j with
      | true =>
        dsimp only at h2
        rw [if_pos hp] at h2
        rw [if_pos rfl]
        refine tM.of R2 E2 h2 fun d3 w3 v3 k3 R3 E3 r3 h3 => ?_
        cases d3 with
        | int k =>
          cases r3
          exact ⟨j, k, rfl, rfl, PV.now R3 (.bl _) h3⟩
        | _ => exact h3.elim
      | false =>
        dsimp only at h2
        rw [if_neg (by rw [hp]; exact Bool.false_ne_true)] at h2
        rw [if_neg Bool.false_ne_true]
        exact PV.now R2 (.bl false) h2
    | _ => exact h2.elim
  | _ => exact h2.elim
theorem pd_chain {op op' : CmpOp} {p p' : Int → Int → Bool} (ho : OpR X (compareOp op) (rI0 fun i j => .bl (p i j))) (ho' : OpR X (compareOp op') (rI0 fun i j => .bl (p' i j))) (ha : PD X W a ma) (hb : PD X W b mb) (hc : PD X W c mc)
    (hm : lastMarks [op, op'] [b, c] = false := by with_unfolding_all rfl) : PD X W (.Compare a [op, op'] [b, c] pos) (eChain p p' ma mb mc) :=
  PE.conseq (pe_chain ho ho' ha hb hc hm) fun σ H Q ⟨ρ, w, e, R, E, q⟩ => by
    subst e
    exact tChain_of R E q
theorem td_chain {op op' : CmpOp} {p p' : Int → Int → Bool} (ho : OpR X (compareOp op) (rI0 fun i j => .bl (p i j))) (ho' : OpR X (compareOp op') (rI0 fun i j => .bl (p' i j))) (ha : PD X W a ma) (hb : PD X W b mb) (hc : PD X W c mc)
    (hm : lastMarks [op, op'] [b, c] = false := by with_unfolding_all rfl) : PTD X W (.Compare a [op, op'] [b, c] pos) (tVal (eChain p p' ma mb mc)) :=
  PT.conseq (pt_chain ho ho' ha hb hc hm) fun σ H Q ⟨ρ, w, e, R, E, q⟩ => by
    subst e
    refine tChain_of R E (Post.mono q.step fun d w1 k1 R1 h1 v r => ?_)
    cases d with
    | bl k =>
      cases r
      exact ⟨k, rfl, PB.now R1 h1⟩
    | _ => exact h1.elim

/-! ### places of lists, tuples, texts -/
def oIx : Own2 := fun a b S => match a, b with
  | .str z, .int i => match atI z.cps.toList i with
    | some k => if z.length ≤ sizeLine then .ok (.str ⟨#[k]⟩) S else .stuck
    | none => .stuck
  | a, .int i => match seqOf S a with
    | some ds => match atI ds i with
      | some d => .ok d S
      | none => .stuck
    | none => .stuck
  | _, _ => .stuck
theorem atI_rep {w : Wd} {ds : List D} {xs : List V} {i : Int} {d : D} (r : RepVs X.K X.mg w ds xs) (h : atI ds i = some d) : ∃ v, atI xs i = some v ∧ RepV X.K X.mg w d v := by
  unfold atI at h ⊢
  rw [r.length] at h
  cases e : ixN xs.length i with
  | none => rw [e] at h; cases h
  | some j =>
    rw [e] at h
    exact r.get h
theorem pd_ix (ha : PD X W a ma) (hb : PD X W b mb) (hs : PlainIx b) : PD X W (.Subscript a b pos) (eBin oIx ma mb) :=
  PE.conseq (pe_ix ix_seq ha hb hs) fun σ H Q ⟨ρ, w, e, R, E, q⟩ => by
    subst e
    refine tM.of R E q fun d w1 v k1 R1 E1 r1 h1 => ?_
    refine tM.of R1 E1 h1 fun d2 w2 v2 k2 R2 E2 r2 h2 => ?_
    cases d2 with
    | int i =>
      cases r2
      have seqs : (match seqOf w2.S d with
        | some ds => match atI ds i with
          | some d => .ok d w2.S
          | none => .stuck
        | none => .stuck) = oIx d (.int i) w2.S → rIx X.K v (.int i) w2.H Q := by
        intro e
        rw [← e] at h2
        cases e1 : seqOf w2.S d with
        | none => rw [e1] at h2; exact h2.elim
        | some ds =>
          rw [e1] at h2
          obtain ⟨p, xs, rfl, hq, _, rs⟩ := seqOf_rep R2 (r1.keep R1 k2) e1
          cases e2 : atI ds i with
          | none => dsimp only at h2; rw [e2] at h2; exact h2.elim
          | some y =>
            dsimp only at h2
            rw [e2] at h2
            obtain ⟨z, hz, rz⟩ := atI_rep rs e2
            rcases hq with hq | hq
            · exact .inl ⟨p, xs, i, z, rfl, rfl, hq, hz, PV.now R2 rz h2⟩
            · exact .inr (.inl ⟨p, xs, i, z, rfl, rfl, hq, hz, PV.now R2 rz h2⟩)
      cases d with
      | str z =>
        cases r1
        cases e2 : atI z.cps.toList i with
        | none =>
          rw [show oIx (.str z) (.int i) w2.S = .stuck by dsimp only [oIx]; rw [e2]] at h2
          exact h2.elim
        | some k =>
          by_cases hl : z.length ≤ sizeLine
          · rw [show oIx (.str z) (.int i) w2.S = .ok (.str ⟨#[k]⟩) w2.S by dsimp only [oIx]; rw [e2]; exact if_pos hl] at h2
            exact .inr (.inr ⟨z, i, k, rfl, rfl, hl, e2, PV.now R2 (.str _) h2⟩)
          · rw [show oIx (.str z) (.int i) w2.S = .stuck by dsimp only [oIx]; rw [e2]; exact if_neg hl] at h2
            exact h2.elim
      | _ => exact seqs rfl
    | _ => cases d <;> exact h2.elim
end
end L3
end

section
set_option Elab.async false
set_option linter.all false
set_option maxRecDepth 100000
set_option maxHeartbeats 4000000
namespace L3
open PySem PySem.Spec L2

/-! ### statements -/
inductive SRes where
  | next (ρ : DEnv) (S : Store) | ret (d : D) (S : Store) | brk (ρ : DEnv) (S : Store) | cnt (ρ : DEnv) (S : Store) | exc (x : Exc) (ρ : DEnv) (S : Store) | stuck
abbrev SM := DEnv → Store → SRes
abbrev GM := D → DEnv → Store → SRes
section
variable (K : PySem.W.Frag) (mg : Str → Option Value)
def PostS (W : WX) (D' : Ends) (w : Wd) : SRes → Prop
  | .next ρ' S' => ∀ σ' w', Keep w w' → HRep K mg w' → w'.S = S' → ERep K mg w' ρ' σ' → D'.nx σ' w'.H
  | .ret d S' => ∀ v w', Keep w w' → HRep K mg w' → w'.S = S' → RepV K mg w' d v → D'.rt v w'.H
  | .brk ρ' S' => ∀ σ' w', Keep w w' → HRep K mg w' → w'.S = S' → ERep K mg w' ρ' σ' → D'.bk σ' w'.H
  | .cnt ρ' S' => ∀ σ' w', Keep w w' → HRep K mg w' → w'.S = S' → ERep K mg w' ρ' σ' → D'.ct σ' w'.H
  | .exc x ρ' S' => ∀ c dd σ' w', Keep w w' → HRep K mg w' → w'.S = S' → ERep K mg w' ρ' σ' → XRep K mg w' x c dd → W c dd σ' w'.H
  | .stuck => False
def tS (W : WX) (m : SM) : TS := fun D' σ H => ∃ ρ w, w.H = H ∧ HRep K mg w ∧ ERep K mg w ρ σ ∧ PostS K mg W D' w (m ρ w.S)
def tG (m : GM) : TG := fun v σ H Q => ∃ ρ w d, w.H = H ∧ HRep K mg w ∧ ERep K mg w ρ σ ∧ RepV K mg w d v ∧ match m d ρ w.S with
  | .next ρ' S' => ∀ σ' w', Keep w w' → HRep K mg w' → w'.S = S' → ERep K mg w' ρ' σ' → Q σ' w'.H
  | _ => False
end
abbrev PSD (X : Cx) (W : WX) (st : Stmt) (m : SM) : Prop := PS X st (tS X.K X.mg W m)
abbrev PSsD (X : Cx) (W : WX) (st : List Stmt) (m : SM) : Prop := PSs X st (tS X.K X.mg W m)
abbrev PGD (X : Cx) (tg : Expr) (m : GM) : Prop := PG X tg (tG X.K X.mg m)
section
variable {K : PySem.W.Frag} {mg : Str → Option Value} {W : WX} {D' D2 : Ends} {w w1 : Wd}
theorem PostS.rebase {r : SRes} (k : Keep w w1) (h : PostS K mg W D' w r) : PostS K mg W D' w1 r := by
  cases r with
  | next ρ' S' => exact fun σ' w' k' R e E => h σ' w' (k.trans k') R e E
  | ret d S' => exact fun v w' k' R e r => h v w' (k.trans k') R e r
  | brk ρ' S' => exact fun σ' w' k' R e E => h σ' w' (k.trans k') R e E
  | cnt ρ' S' => exact fun σ' w' k' R e E => h σ' w' (k.trans k') R e E
  | exc x ρ' S' => exact fun c dd σ' w' k' R e E x => h c dd σ' w' (k.trans k') R e E x
  | stuck => exact h
/-- an expression, then a statement's rest -/
def sBind {α : Type} (r : Res α) (ρ : DEnv) (k : α → Store → SRes) : SRes := match r with
  | .ok a S => k a S
  | .exc x S => .exc x ρ S
  | .stuck => .stuck
@[simp] theorem sBind_ok {α : Type} (a : α) (S : Store) (ρ : DEnv) (k : α → Store → SRes) : sBind (.ok a S) ρ k = k a S := rfl
@[simp] theorem sBind_exc {α : Type} (x : Exc) (S : Store) (ρ : DEnv) (k : α → Store → SRes) : sBind (.exc x S : Res α) ρ k = .exc x ρ S := rfl
@[simp] theorem sBind_stuck {α : Type} (ρ : DEnv) (k : α → Store → SRes) : sBind (.stuck : Res α) ρ k = .stuck := rfl
theorem PostS.step {α : Type} {r : Res α} {ρ : DEnv} {σ : St} {k : α → Store → SRes} (R : HRep K mg w) (E : ERep K mg w ρ σ) (h : PostS K mg W D' w (sBind r ρ k)) : Post K mg W σ w (fun a w1 => PostS K mg W D' w1 (k a w1.S)) r := by
  cases r with
  | ok a S' => intro w' k' R' e; subst e; exact PostS.rebase k' h
  | exc x S' => exact fun c dd w' k' R' e x => h c dd σ w' k' R' e (E.keep R k') x
  | stuck => exact h
theorem tM.ofS {ρ : DEnv} {σ : St} {m : EM} {k : D → Store → SRes} {Q : VK} (R : HRep K mg w) (E : ERep K mg w ρ σ) (h : PostS K mg W D' w (sBind (m ρ w.S) ρ k))
    (hk : ∀ d w1 v, Keep w w1 → HRep K mg w1 → ERep K mg w1 ρ σ → RepV K mg w1 d v → PostS K mg W D' w1 (k d w1.S) → Q v w1.H) : tM K mg W m σ w.H Q :=
  ⟨ρ, w, rfl, R, E, Post.mono (PostS.step R E h) fun d w1 k1 R1 h1 v r => hk d w1 v k1 R1 (E.keep R k1) r h1⟩
theorem tT.ofS {ρ : DEnv} {σ : St} {m : TM} {k : Bool → Store → SRes} {Q : Bool → Hp → Prop} (R : HRep K mg w) (E : ERep K mg w ρ σ) (h : PostS K mg W D' w (sBind (m ρ w.S) ρ k))
    (hk : ∀ b w1, Keep w w1 → HRep K mg w1 → ERep K mg w1 ρ σ → PostS K mg W D' w1 (k b w1.S) → Q b w1.H) : tT K mg W m σ w.H Q :=
  ⟨ρ, w, rfl, R, E, Post.mono (PostS.step R E h) fun b w1 k1 R1 h1 => hk b w1 k1 R1 (E.keep R k1) h1⟩
theorem tL.ofS {ρ : DEnv} {σ : St} {m : AM} {k : List D → Store → SRes} {Q : List V → Hp → Prop} (R : HRep K mg w) (E : ERep K mg w ρ σ) (h : PostS K mg W D' w (sBind (m ρ w.S) ρ k))
    (hk : ∀ ds w1 vs, Keep w w1 → HRep K mg w1 → ERep K mg w1 ρ σ → RepVs K mg w1 ds vs → PostS K mg W D' w1 (k ds w1.S) → Q vs w1.H) : tL K mg W m σ w.H Q :=
  ⟨ρ, w, rfl, R, E, Post.mono (PostS.step R E h) fun b w1 k1 R1 h1 vs r => hk b w1 vs k1 R1 (E.keep R k1) r h1⟩
end
section
variable {X : Cx} {W : WX} {st : Stmt} {sts : List Stmt} {e : Expr} {m m1 m2 : SM} {me : EM} {pos : Pos}
def sNext : SM := fun ρ S => .next ρ S
def sSeq (m1 m2 : SM) : SM := fun ρ S => match m1 ρ S with
  | .next ρ' S' => m2 ρ' S'
  | r => r
theorem ssd_nil : PSsD X W [] sNext := PSs.conseq pss_nil fun D' σ H ⟨ρ, w, e, R, E, q⟩ => by
  subst e
  exact q σ w (Keep.refl w) R rfl E
theorem ssd_cons (h1 : PSD X W st m1) (h2 : PSsD X W sts m2) : PSsD X W (st :: sts) (sSeq m1 m2) := PSs.conseq (pss_cons h1 h2) fun D' σ H ⟨ρ, w, e, R, E, q⟩ => by
  subst e
  refine ⟨ρ, w, rfl, R, E, ?_⟩
  have q' : PostS X.K X.mg W D' w (match m1 ρ w.S with
    | .next ρ' S' => m2 ρ' S'
    | r => r) := q
  cases hm : m1 ρ w.S with
  | next ρ' S' =>
    rw [hm] at q'
    intro σ' w' k R' e' E'
    subst e'
    exact ⟨ρ', w', rfl, R', E', PostS.rebase k q'⟩
  | ret d S' => rw [hm] at q'; exact q'
  | brk ρ' S' => rw [hm] at q'; exact q'
  | cnt ρ' S' => rw [hm] at q'; exact q'
  | exc x ρ' S' => rw [hm] at q'; exact q'
  | stuck => rw [hm] at q'; exact q'
theorem ssd_one (h1 : PSD X W st m1) : PSsD X W [st] m1 := pss_one h1
def sBreak : SM := fun ρ S => .brk ρ S
def sCont : SM := fun ρ S => .cnt ρ S
def sStuck : SM := fun _ _ => .stuck
theorem sd_pass : PSD X W (.Pass pos) sNext := PS.conseq ps_pass fun D' σ H ⟨ρ, w, e, R, E, q⟩ => by
  subst e
  exact q σ w (Keep.refl w) R rfl E
theorem sd_break : PSD X W (.Break pos) sBreak := PS.conseq ps_break fun D' σ H ⟨ρ, w, e, R, E, q⟩ => by
  subst e
  exact q σ w (Keep.refl w) R rfl E
theorem sd_cont : PSD X W (.Continue pos) sCont := PS.conseq ps_continue fun D' σ H ⟨ρ, w, e, R, E, q⟩ => by
  subst e
  exact q σ w (Keep.refl w) R rfl E
theorem sd_doc {x j pos pos'} : PSD X W (.Expr (.Constant (.str x) j pos) pos') sNext := PS.conseq ps_doc fun D' σ H ⟨ρ, w, e, R, E, q⟩ => by
  subst e
  exact q σ w (Keep.refl w) R rfl E
/-- never come to -/
theorem sd_stuck : PSD X W st sStuck := PS.conseq ps_never fun D' σ H ⟨ρ, w, e, R, E, q⟩ => q
theorem ssd_stuck : PSsD X W sts sStuck := PSs.conseq pss_never fun D' σ H ⟨ρ, w, e, R, E, q⟩ => q
def sExpr (me : EM) : SM := fun ρ S => sBind (me ρ S) ρ fun _ S1 => .next ρ S1
theorem sd_expr (he : PD X W e me) (hs : swapsWith e none pos.line X.env = pure false := by rfl) : PSD X W (.Expr e pos) (sExpr me) := PS.conseq (ps_expr he hs) fun D' σ H ⟨ρ, w, e, R, E, q⟩ => by
  subst e
  exact tM.ofS R E q fun d w1 v k1 R1 E1 r1 h1 => h1 σ w1 (Keep.refl w1) R1 rfl E1
def sRet (me : EM) : SM := fun ρ S => sBind (me ρ S) ρ fun d S1 => .ret d S1
theorem sd_ret (he : PD X W e me) : PSD X W (.Return (some e) pos) (sRet me) := PS.conseq (ps_ret he) fun D' σ H ⟨ρ, w, e, R, E, q⟩ => by
  subst e
  exact tM.ofS R E q fun d w1 v k1 R1 E1 r1 h1 => h1 v w1 (Keep.refl w1) R1 rfl r1
def sRetN : SM := fun _ S => .ret .non S
theorem sd_retN : PSD X W (.Return none pos) sRetN := PS.conseq ps_retN fun D' σ H ⟨ρ, w, e, R, E, q⟩ => by
  subst e
  exact q .non w (Keep.refl w) R rfl .non
def sIf (t : TM) (m1 m2 : SM) : SM := fun ρ S => sBind (t ρ S) ρ fun k S1 => if k = true then m1 ρ S1 else m2 ρ S1
theorem sd_if {c : Expr} {a b : List Stmt} {t : TM} (hc : PTD X W c t) (ha : PSsD X W a m1) (hb : PSsD X W b m2) : PSD X W (.If c a b pos) (sIf t m1 m2) := PS.conseq (ps_if hc ha hb) fun D' σ H ⟨ρ, w, e, R, E, q⟩ => by
  subst e
  refine tT.ofS R E q fun k w1 k1 R1 E1 h1 => ?_
  cases k with
  | true => exact ⟨ρ, w1, rfl, R1, E1, h1⟩
  | false => exact ⟨ρ, w1, rfl, R1, E1, h1⟩
/-! ### targets -/
def gN (i : Nat) : GM := fun d ρ S => .next (ρ.set i (some d)) S
theorem erep_set {K : PySem.W.Frag} {mg : Str → Option Value} {w : Wd} {ρ : DEnv} {σ : St} {d : D} {v : V} (E : ERep K mg w ρ σ) (r : RepV K mg w d v) (i : Nat) : ERep K mg w (ρ.set i (some d)) (σ.set i (some v)) := by
  refine ⟨by rw [List.length_set, List.length_set]; exact E.1, fun j d' h => ?_⟩
  by_cases e : j = i
  · subst e
    have hl : j < ρ.length := by
      have := (List.getElem?_eq_some_iff.mp h).1
      rwa [List.length_set] at this
    rw [List.getElem?_set_self hl] at h
    cases h
    exact ⟨v, List.getElem?_set_self (by rw [← E.1]; exact hl), r⟩
  · rw [List.getElem?_set_ne (Ne.symm e)] at h
    rw [List.getElem?_set_ne (Ne.symm e)]
    exact E.2 j d' h
theorem gd_name {i : Nat} {e : Expr} (h : PG X e (gName i)) : PGD X e (gN i) := ⟨fun pins s σ H v u Q I r q => by
  obtain ⟨ρ, w, d, e, R, E, rd, q⟩ := q
  subst e
  exact h.run pins s σ w.H v u Q I r (q _ w (Keep.refl w) R rfl (erep_set E rd i))⟩
/-- several targets, by values -/
def gsN (gs : List GM) : List D → DEnv → Store → SRes := match gs with
  | [] => fun ds ρ S => match ds with
    | [] => .next ρ S
    | _ => .stuck
  | g :: gs => fun ds ρ S => match ds with
    | [] => .stuck
    | d :: ds => match g d ρ S with
      | .next ρ' S' => gsN gs ds ρ' S'
      | _ => .stuck
def tGs (K : PySem.W.Frag) (mg : Str → Option Value) (gs : List GM) : TGs := fun vs σ H Q => ∃ ρ w ds, w.H = H ∧ HRep K mg w ∧ ERep K mg w ρ σ ∧ RepVs K mg w ds vs ∧ match gsN gs ds ρ w.S with
  | .next ρ' S' => ∀ σ' w', Keep w w' → HRep K mg w' → w'.S = S' → ERep K mg w' ρ' σ' → Q σ' w'.H
  | _ => False
abbrev PGsD (X : Cx) (es : List Expr) (gs : List GM) : Prop := PGs X es (tGs X.K X.mg gs)
theorem gsd_nil : PGsD X [] [] := ⟨fun pins s σ H vs us Q I r q => by
  obtain ⟨ρ, w, ds, e, R, E, rd, q⟩ := q
  subst e
  cases rd with
  | nil => exact pgs_nil.run pins s σ w.H [] us Q I r ⟨rfl, q _ w (Keep.refl w) R rfl E⟩
  | cons _ _ => exact q.elim⟩
theorem gsd_cons {e : Expr} {es : List Expr} {g : GM} {gs : List GM} (h1 : PGD X e g) (h2 : PGsD X es gs) (hs : (assignEach (e :: es) X.env).map (·.2) = assign e X.env :: (assignEach es X.env).map (·.2) := by rfl) : PGsD X (e :: es) (g :: gs) :=
  ⟨fun pins s σ H vs us Q I r q => by
    obtain ⟨ρ, w, ds, e, R, E, rd, q⟩ := q
    subst e
    cases rd with
    | nil => exact q.elim
    | @cons d v ds vs rd1 rds =>
      refine (pgs_cons h1 h2 hs).run pins s σ w.H _ us Q I r ⟨v, vs, rfl, ρ, w, d, rfl, R, E, rd1, ?_⟩
      have q' : (match (match g d ρ w.S with
        | .next ρ' S' => gsN gs ds ρ' S'
        | _ => SRes.stuck) with
        | .next ρ' S' => ∀ σ' w', Keep w w' → HRep X.K X.mg w' → w'.S = S' → ERep X.K X.mg w' ρ' σ' → Q σ' w'.H
        | _ => False) := q
      cases hg : g d ρ w.S with
      | next ρ' S' =>
        rw [hg] at q'
        intro σ' w' k R' e' E'
        subst e'
        refine ⟨ρ', w', ds, rfl, R', E', rds.keep R k, ?_⟩
        dsimp only at q'
        cases hn : gsN gs ds ρ' w'.S with
        | next ρ2 S2 =>
          rw [hn] at q'
          exact fun σ2 w2 k2 R2 e2 E2 => q' σ2 w2 (k.trans k2) R2 e2 E2
        | _ => rw [hn] at q'; exact q'.elim
      | _ => rw [hg] at q'; exact q'.elim⟩
def gT (gs : List GM) : GM := fun d ρ S => match d with
  | .tup ds => if ds.length = gs.length then gsN gs ds ρ S else .stuck
  | _ => .stuck
theorem gd_tup {es : List Expr} {k : Nat} {gs : List GM} (hc : X.calm = true) (h : PGsD X es gs) (hn : (assignEach es X.env).length = gs.length := by rfl) (hst : (assignEach es X.env).findIdx? (·.1) = none := by rfl) : PGD X (.Tuple es k pos) (gT gs) :=
  ⟨fun pins s σ H v u Q I r q => by
    obtain ⟨ρ, w, d, e, R, E, rd, q⟩ := q
    subst e
    cases rd with
    | @tup ds a xs ht _ rs =>
      have q' : (match (if ds.length = gs.length then gsN gs ds ρ w.S else SRes.stuck) with
        | .next ρ' S' => ∀ σ' w', Keep w w' → HRep X.K X.mg w' → w'.S = S' → ERep X.K X.mg w' ρ' σ' → Q σ' w'.H
        | _ => False) := q
      by_cases hl : ds.length = gs.length
      · rw [if_pos hl] at q'
        exact (pg_tup (n := gs.length) hc h hn hst).run pins s σ w.H _ u Q I r ⟨a, xs, rfl, ht, by rw [← rs.length]; exact hl, ρ, w, ds, rfl, R, E, rs, q'⟩
      · rw [if_neg hl] at q'
        exact q'.elim
    | _ => exact q.elim⟩
def sAsg (me : EM) (g : GM) : SM := fun ρ S => sBind (me ρ S) ρ fun d S1 => g d ρ S1
def GM.plain (g : GM) : Prop := ∀ d ρ S, (∃ ρ' S', g d ρ S = .next ρ' S') ∨ g d ρ S = .stuck
theorem gN_plain {i : Nat} : (gN i).plain := fun _ _ _ => .inl ⟨_, _, rfl⟩
theorem tG_of {K : PySem.W.Frag} {mg : Str → Option Value} {g : GM} (hp : g.plain) {D' : Ends} {ρ : DEnv} {σ : St} {w : Wd} {d : D} {v : V} (R : HRep K mg w) (E : ERep K mg w ρ σ) (r : RepV K mg w d v) (h : PostS K mg W D' w (g d ρ w.S)) : tG K mg g v σ w.H D'.nx := by
  refine ⟨ρ, w, d, rfl, R, E, r, ?_⟩
  rcases hp d ρ w.S with ⟨ρ', S', e⟩ | e
  · rw [e] at h ⊢
    exact h
  · rw [e] at h
    exact h.elim
theorem sd_asg {tg : Expr} {g : GM} (hp : g.plain) (he : PD X W e me) (hg : PGD X tg g) (hs : swapsWithSole [tg] e pos.line X.env = pure false := by rfl) (hw : swappedStores [tg] e X.env = pure none := by rfl)
    (h1 : (assignEach [tg] X.env).map (·.2) = [assign tg X.env] := by rfl) : PSD X W (.Assign [tg] e pos) (sAsg me g) := PS.conseq (ps_asg he hg hs hw h1) fun D' σ H ⟨ρ, w, e, R, E, q⟩ => by
  subst e
  exact tM.ofS R E q fun d w1 v k1 R1 E1 r1 h1 => tG_of hp R1 E1 r1 h1
def sSet (i : Nat) (me : EM) : SM := fun ρ S => sBind (me ρ S) ρ fun d S1 => .next (ρ.set i (some d)) S1
/-- name = e, by any rule that stores so -/
theorem sd_set {i : Nat} {m : SM} {t : TE} (he : PE X e t) (h : PS X st (tAsg t (gName i))) (ht : ∀ σ H Q, tM X.K X.mg W me σ H Q → t σ H Q) : PSD X W st (sSet i me) := PS.conseq h fun D' σ H ⟨ρ, w, e, R, E, q⟩ => by
  subst e
  exact ht _ _ _ (tM.ofS R E q fun d w1 v k1 R1 E1 r1 h1 => h1 _ w1 (Keep.refl w1) R1 rfl (erep_set E1 r1 i))
theorem sd_name {i : Nat} {x : Str} {pos' : Pos} (hN : X.N.Nodup) (hi : X.N[i]? = some x) (hx : Loc X.env.scope x) (he : PD X W e me) (hs : swapsWith e (some (.Name x pos')) pos.line X.env = pure false := by rfl) (hf : X.fn x = true ∨ X.env.scope.names.lookup x = some .local := by first | exact .inl rfl | exact .inr rfl | assumption) :
    PSD X W (.Assign [.Name x pos'] e pos) (sSet i me) := sd_set (m := sNext) he (ps_set hN hi hx he hs hf) fun _ _ _ h => h
/-- a, b = x, y -/
def sPar (i j : Nat) (ma mb : EM) : SM := fun ρ S => sBind (ma ρ S) ρ fun a S1 => sBind (mb ρ S1) ρ fun b S2 => .next ((ρ.set i (some a)).set j (some b)) S2
theorem sd_par {i j : Nat} {x y : Str} {a b : Expr} {ma mb : EM} {px py pt : Pos} {kt k2 pt2} (hc : X.calm = true) (hN : X.N.Nodup) (hi : X.N[i]? = some x) (hj : X.N[j]? = some y) (hij : i ≠ j)
    (hx : X.env.scope.names.lookup x = some .local) (hy : X.env.scope.names.lookup y = some .local) (ha : PD X W a ma) (hb : PD X W b mb)
    (hw : swappedStores [.Tuple [.Name x px, .Name y py] kt pt] (.Tuple [a, b] k2 pt2) X.env = pure (some [x, y]) := by rfl)
    (hs : swapsWithSole [.Tuple [.Name x px, .Name y py] kt pt] (.Tuple [a, b] k2 pt2) pos.line X.env = pure false := by rfl)
    (hs1 : starEach [a, b] X.env = (false, eval a X.env) :: starEach [b] X.env := by rfl) (hs2 : starEach [b] X.env = (false, eval b X.env) :: starEach [] X.env := by rfl) :
    PSD X W (.Assign [.Tuple [.Name x px, .Name y py] kt pt] (.Tuple [a, b] k2 pt2) pos) (sPar i j ma mb) := PS.conseq (ps_par hc hN hi hj hij hx hy (pa_cons ha (pa_cons hb pa_nil hs2) hs1) hw hs) fun D' σ H ⟨ρ, w, e, R, E, q⟩ => by
  subst e
  refine tM.ofS R E q fun d w1 v k1 R1 E1 r1 h1 => ?_
  refine tM.ofS R1 E1 h1 fun d2 w2 v2 k2 R2 E2 r2 h2 => ?_
  exact ⟨v, v2, rfl, h2 _ w2 (Keep.refl w2) R2 rfl (erep_set (erep_set E2 (r1.keep R1 k2) i) r2 j)⟩
/-! ### while -/
def FUEL : Nat := 2 ^ 64
def sLoop (t : TM) (b : SM) : Nat → SM
  | 0 => fun _ _ => .stuck
  | n + 1 => fun ρ S => match t ρ S with
    | .ok true S1 => match b ρ S1 with
      | .next ρ' S' => sLoop t b n ρ' S'
      | .cnt ρ' S' => sLoop t b n ρ' S'
      | .brk ρ' S' => .next ρ' S'
      | r => r
    | .ok false S1 => .next ρ S1
    | .exc x S1 => .exc x ρ S1
    | .stuck => .stuck
def sWhile (t : TM) (b : SM) : SM := sLoop t b FUEL
theorem sd_while {c : Expr} {body : List Stmt} {t : TM} {b : SM} (hp : PassesOwn (model X.prog X.w) X.A X.env X.xe) (hc : PTD X W c t) (hb : PSsD X W body b) : PSD X W (.While c body [] pos) (sWhile t b) :=
  PS.conseq (ps_while hp hc hb) fun D' σ H ⟨ρ, w, e, R, E, q⟩ => by
    subst e
    refine ⟨fun m σ H => ∃ ρ w, w.H = H ∧ HRep X.K X.mg w ∧ ERep X.K X.mg w ρ σ ∧ PostS X.K X.mg W D' w (sLoop t b m ρ w.S), ⟨FUEL, ρ, w, rfl, R, E, q⟩, fun m σ H hm => ?_⟩
    obtain ⟨ρ, w, e, R, E, q⟩ := hm
    subst e
    cases m with
    | zero => exact q.elim
    | succ n =>
      have q1 : PostS X.K X.mg W D' w (sBind (t ρ w.S) ρ fun k S1 => if k = true then (match b ρ S1 with
        | .next ρ' S' => sLoop t b n ρ' S'
        | .cnt ρ' S' => sLoop t b n ρ' S'
        | .brk ρ' S' => .next ρ' S'
        | r => r) else .next ρ S1) := by
        have z : sLoop t b (n + 1) ρ w.S = sBind (t ρ w.S) ρ fun k S1 => if k = true then (match b ρ S1 with
          | .next ρ' S' => sLoop t b n ρ' S'
          | .cnt ρ' S' => sLoop t b n ρ' S'
          | .brk ρ' S' => .next ρ' S'
          | r => r) else .next ρ S1 := by
          show (match t ρ w.S with
            | .ok true S1 => _
            | .ok false S1 => _
            | .exc x S1 => _
            | .stuck => _) = _
          cases t ρ w.S with
          | ok k S1 => cases k <;> rfl
          | exc x S1 => rfl
          | stuck => rfl
        rw [← z]
        exact q
      refine tT.ofS R E q1 fun k w1 k1 R1 E1 h1 => ?_
      cases k with
      | false => exact h1 σ w1 (Keep.refl w1) R1 rfl E1
      | true =>
        rw [if_pos rfl] at h1
        rw [if_pos rfl]
        refine ⟨fun σ' H' => ∃ ρ w, w.H = H' ∧ HRep X.K X.mg w ∧ ERep X.K X.mg w ρ σ' ∧ PostS X.K X.mg W D' w (sLoop t b n ρ w.S), fun σ' H' h => ⟨n, Nat.lt_succ_self n, h⟩, ρ, w1, rfl, R1, E1, ?_⟩
        cases hb' : b ρ w1.S with
        | next ρ' S' =>
          rw [hb'] at h1
          intro σ' w' k' R' e' E'
          subst e'
          exact ⟨ρ', w', rfl, R', E', PostS.rebase k' h1⟩
        | cnt ρ' S' =>
          rw [hb'] at h1
          intro σ' w' k' R' e' E'
          subst e'
          exact ⟨ρ', w', rfl, R', E', PostS.rebase k' h1⟩
        | brk ρ' S' => rw [hb'] at h1; exact h1
        | ret d S' => rw [hb'] at h1; exact h1
        | exc x ρ' S' => rw [hb'] at h1; exact h1
        | stuck => rw [hb'] at h1; exact h1
end
end L3
end

section
set_option Elab.async false
set_option linter.all false
set_option maxRecDepth 100000
set_option maxHeartbeats 4000000
namespace L3
open PySem PySem.Spec L2

/-! ### what is walked -/
/-- the items, and the cells that they lie in -/
abbrev IM := DEnv → Store → Res (List D × List Nat)
def SameAt (src : List Nat) (S S' : Store) : Prop := ∀ l ∈ src, S'[l]? = S[l]?
section
variable (K : PySem.W.Frag) (mg : Str → Option Value)
def Walks (J : It) (ds : List D) (src : List Nat) (w1 : Wd) : Prop := ∀ (i : Nat) (w' : Wd), KeepU w1 w' → HRep K mg w' → SameAt src w1.S w'.S →
  (∀ d, ds[i]? = some d → J.go i w'.H ∧ ∀ x H'', J.yld i w'.H x H'' → ∃ w'', w''.H = H'' ∧ w''.S = w'.S ∧ Keep w' w'' ∧ HRep K mg w'' ∧ RepV K mg w'' d x) ∧ (ds.length ≤ i → J.stop i w'.H)
def tI (W : WX) (m : IM) : TI := fun σ H R => ∃ ρ w, w.H = H ∧ HRep K mg w ∧ ERep K mg w ρ σ ∧ Post K mg W σ w (fun p w1 => p.1.length ≤ sizeLine → ∀ J, Walks K mg J p.1 p.2 w1 → R J w1.H) (m ρ w.S)
end
abbrev PID (X : Cx) (W : WX) (tg iter : Expr) (m : IM) : Prop := PI X tg iter (tI X.K X.mg W m)
theorem PI.conseq {X : Cx} {tg e : Expr} {t t' : TI} (h : PI X tg e t) (hi : ∀ σ H R, t' σ H R → t σ H R) : PI X tg e t' := ⟨fun pins s σ H R I q => h.run pins s σ H R I (hi σ H R q)⟩
theorem PI.or {X : Cx} {tg e : Expr} {t t' : TI} (h : PI X tg e t) (h' : PI X tg e t') : PI X tg e (fun σ H R => t σ H R ∨ t' σ H R) :=
  ⟨fun pins s σ H R I q => q.elim (fun q => h.run pins s σ H R I q) fun q => h'.run pins s σ H R I q⟩
theorem Walks.rebase {K : PySem.W.Frag} {mg : Str → Option Value} {J : It} {ds : List D} {src : List Nat} {w1 w2 : Wd} (h : Walks K mg J ds src w1) (k : Keep w1 w2) (e : SameAt src w1.S w2.S) : Walks K mg J ds src w2 :=
  fun i w' k' R' e' => h i w' (k.toKeepU.trans k') R' fun l hl => (e' l hl).trans (e l hl)
section
variable {X : Cx} {W : WX} {e e2 tg : Expr} {m m2 : EM} {ma : AM} {pos : Pos}
def chars (x : Str) : List D := x.cps.toList.map fun c => .str ⟨#[c]⟩
def srcOf : D → List Nat
  | .ref l => [l]
  | _ => []
def iSeq (m : EM) : IM := fun ρ S => (m ρ S).bind fun d S1 => match d with
  | .str x => if x.cps.size ≤ sizeLine then .ok (chars x, []) S1 else .stuck
  | d => match seqOf S1 d with
    | some ds => .ok (ds, srcOf d) S1
    | none => .stuck
theorem seq_same {w w' : Wd} {d : D} {x : V} {ds : List D} (h : seqOf w.S d = some ds) (e : SameAt (srcOf d) w.S w'.S) : seqOf w'.S d = some ds := by
  cases d with
  | ref l =>
    have q := e l (List.mem_singleton.mpr rfl)
    have h' : (match w.S[l]? with
      | some (.lst ds) => some ds
      | _ => none) = some ds := h
    show (match w'.S[l]? with
      | some (.lst ds) => some ds
      | _ => none) = some ds
    rw [q]
    exact h'
  | _ => exact h
/-- a list or tuple at a, whatever comes -/
theorem walks_seq {w : Wd} {d : D} {a : Addr} {ds : List D} (R : HRep X.K X.mg w) (r : RepV X.K X.mg w d (.ref a)) (h : seqOf w.S d = some ds) :
    ((∃ xs, SqL X.K w.H a xs) ∧ Walks X.K X.mg (Itl X.K a) ds (srcOf d) w) ∨ ((∃ xs, SqT X.K w.H a xs) ∧ Walks X.K X.mg (Itt X.K a) ds (srcOf d) w) := by
  cases d with
  | tup es =>
    cases h
    cases r with
    | tup hs _ rs =>
      refine .inr ⟨⟨_, hs⟩, fun i w' k R' _ => ⟨fun d hd => ?_, fun hl => ⟨_, SqT.keepU R k hs, by rw [← rs.length]; exact hl⟩⟩⟩
      obtain ⟨x, hx, rx⟩ := (rs.keepU R k).get hd
      refine ⟨⟨_, x, SqT.keepU R k hs, hx⟩, fun y H'' hy => ?_⟩
      obtain ⟨rfl, hy⟩ := hy
      have e := hy _ (SqT.keepU R k hs)
      rw [hx] at e
      cases e
      exact ⟨w', rfl, rfl, Keep.refl w', R', rx⟩
  | _ =>
    refine .inl ?_
    obtain ⟨a', xs, e, hq, _, rs⟩ := seqOf_rep R r h
    cases e
    have toL : ∀ w', KeepU w w' → HRep X.K X.mg w' → SameAt (srcOf _) w.S w'.S → ∃ xs, SqL X.K w'.H a xs ∧ RepVs X.K X.mg w' ds xs := fun w' k R' e => by
      obtain ⟨a2, ys, e2, hl, _, rl⟩ := listOf_rep R' (r.keepU R k) (show listOf w'.S _ = some ds from seq_same (x := V.non) h e)
      cases e2
      exact ⟨ys, hl, rl⟩
    obtain ⟨ys, hl, rl⟩ := toL w (KeepU.refl w) R fun l _ => rfl
    refine ⟨⟨ys, hl⟩, fun i w' k R' e => ?_⟩
    obtain ⟨zs, hz, rz⟩ := toL w' k R' e
    refine ⟨fun d hd => ?_, fun hl => ⟨_, hz, by rw [← rz.length]; exact hl⟩⟩
    obtain ⟨x, hx, rx⟩ := rz.get hd
    refine ⟨⟨_, x, hz, hx⟩, fun y H'' hy => ?_⟩
    obtain ⟨rfl, hy⟩ := hy
    have e := hy _ hz
    rw [hx] at e
    cases e
    exact ⟨w', rfl, rfl, Keep.refl w', R', rx⟩
theorem walks_str {w : Wd} {x : Str} : Walks X.K X.mg (Its x) (chars x) [] w := fun i w' k R' _ => by
  have hl : (chars x).length = x.cps.size := by
    unfold chars
    rw [List.length_map, Array.length_toList]
  refine ⟨fun d hd => ?_, fun h => by rw [hl] at h; exact h⟩
  have hi : i < x.cps.size := by
    rw [← hl]
    exact (List.getElem?_eq_some_iff.mp hd).1
  refine ⟨hi, fun y H'' hy => ?_⟩
  obtain ⟨rfl, c, hc, rfl⟩ := hy
  unfold chars at hd
  rw [List.getElem?_map, Array.getElem?_toList, hc] at hd
  cases hd
  exact ⟨w', rfl, rfl, Keep.refl w', R', .str _⟩
theorem pid_seq (he : PD X W e m) : PID X W tg e (iSeq m) := PI.conseq (PI.or (pi_list he) (PI.or (pi_tup he) (pi_str he))) fun σ H Rr ⟨ρ, w, ee, R, E, q⟩ => by
  subst ee
  have q0 : Post X.K X.mg W σ w (fun p w1 => p.1.length ≤ sizeLine → ∀ J, Walks X.K X.mg J p.1 p.2 w1 → Rr J w1.H) ((m ρ w.S).bind fun d S1 => match d with
    | .str x => if x.cps.size ≤ sizeLine then .ok (chars x, []) S1 else .stuck
    | d => match seqOf S1 d with
      | some ds => .ok (ds, srcOf d) S1
      | none => .stuck) := q
  -- by what comes of m
  cases hm : m ρ w.S with
  | stuck => rw [hm] at q0; exact q0.elim
  | exc x S' =>
    refine .inl ⟨ρ, w, rfl, R, E, ?_⟩
    rw [hm] at q0 ⊢
    exact q0
  | ok d S' =>
    have seqs : ∀ (hd : ∀ x, d ≠ .str x), _ := fun hd => by
      have q1 : Post X.K X.mg W σ w (fun p w1 => p.1.length ≤ sizeLine → ∀ J, Walks X.K X.mg J p.1 p.2 w1 → Rr J w1.H) (match seqOf S' d with
        | some ds => .ok (ds, srcOf d) S'
        | none => .stuck) := by
        rw [hm] at q0
        cases d <;> first | exact q0 | exact absurd rfl (hd _)
      exact q1
    cases d with
    | str x =>
      refine .inr (.inr ⟨ρ, w, rfl, R, E, ?_⟩)
      rw [hm] at q0 ⊢
      dsimp only [Res.bind] at q0
      by_cases hx : x.cps.size ≤ sizeLine
      · rw [if_pos hx] at q0
        intro w' k R' e' v r
        cases r
        refine ⟨x, rfl, q0 w' k R' e' ?_ _ walks_str⟩
        show (chars x).length ≤ sizeLine
        unfold chars
        rw [List.length_map, Array.length_toList]
        exact hx
      · rw [if_neg hx] at q0
        exact q0.elim
    | tup ds =>
      refine .inr (.inl ⟨ρ, w, rfl, R, E, ?_⟩)
      rw [hm] at q0 ⊢
      intro w' k R' e' v r
      cases r with
      | tup hs z rs =>
        have hz := (show ds.length ≤ sizeLine by rw [rs.length]; exact z)
        rcases walks_seq R' (.tup hs z rs) rfl with ⟨⟨xs, hx⟩, wk⟩ | ⟨hx, wk⟩
        · exact ⟨_, rfl, ⟨_, hs⟩, q0 w' k R' e' hz _ (by
            intro i w2 k2 R2 e2
            refine ⟨fun d hd => ?_, fun hl => ⟨_, SqT.keepU R' k2 hs, by rw [← rs.length]; exact hl⟩⟩
            obtain ⟨x, hx, rx⟩ := (rs.keepU R' k2).get hd
            refine ⟨⟨_, x, SqT.keepU R' k2 hs, hx⟩, fun y H'' hy => ?_⟩
            obtain ⟨rfl, hy⟩ := hy
            have e := hy _ (SqT.keepU R' k2 hs)
            rw [hx] at e
            cases e
            exact ⟨w2, rfl, rfl, Keep.refl w2, R2, rx⟩)⟩
        · exact ⟨_, rfl, hx, q0 w' k R' e' hz _ wk⟩
    | _ =>
      have q1 := seqs (fun x z => nomatch z)
      refine .inl ⟨ρ, w, rfl, R, E, ?_⟩
      rw [hm]
      intro w' k R' e' v r
      subst e'
      cases hs : seqOf w'.S _ with
      | none => rw [hs] at q1; exact q1.elim
      | some ds =>
        rw [hs] at q1
        obtain ⟨a, xs, rfl, hq, z, rs⟩ := seqOf_rep R' r hs
        have hz := (show ds.length ≤ sizeLine by rw [rs.length]; exact z)
        rcases walks_seq R' r hs with ⟨hx, wk⟩ | ⟨⟨xs2, hx⟩, wk⟩
        · exact ⟨_, rfl, hx, q1 w' k R' rfl hz _ wk⟩
        · obtain ⟨a2, ys, e2, hl, _, rl⟩ := listOf_rep R' r hs
          cases e2
          exact ⟨_, rfl, ⟨_, hl⟩, q1 w' k R' rfl hz _ (by
            intro i w2 k2 R2 e2
            obtain ⟨a3, zs, e3, hz, _, rz⟩ := listOf_rep R2 (r.keepU R' k2) (show listOf w2.S _ = some ds from seq_same (x := V.non) hs e2)
            cases e3
            refine ⟨fun d hd => ?_, fun hl => ⟨_, hz, by rw [← rz.length]; exact hl⟩⟩
            obtain ⟨x, hx, rx⟩ := rz.get hd
            refine ⟨⟨_, x, hz, hx⟩, fun y H'' hy => ?_⟩
            obtain ⟨rfl, hy⟩ := hy
            have e := hy _ hz
            rw [hx] at e
            cases e
            exact ⟨w2, rfl, rfl, Keep.refl w2, R2, rx⟩)⟩
end
end L3
end

section
set_option Elab.async false
set_option linter.all false
set_option maxRecDepth 100000
set_option maxHeartbeats 4000000
namespace L3
open PySem PySem.Spec L2
section
variable {X : Cx} {W : WX} {e e2 tg : Expr} {m m2 : EM} {ma : AM} {pos : Pos}
/-! ### ranges -/
def rangeL (lo : Int) (n : Nat) : List D := (List.range n).map fun (i : Nat) => .int (lo + (i : Int))
theorem rangeL_length (lo : Int) (n : Nat) : (rangeL lo n).length = n := by
  unfold rangeL
  rw [List.length_map, List.length_range]
theorem walks_range {w : Wd} {lo : Int} {n : Nat} : Walks X.K X.mg (Itr lo n) (rangeL lo n) [] w := fun i w' k R' _ => by
  have hl : (rangeL lo n).length = n := by
    unfold rangeL
    rw [List.length_map, List.length_range]
  refine ⟨fun d hd => ?_, fun h => by rw [hl] at h; exact h⟩
  have hi : i < n := by
    rw [← hl]
    exact (List.getElem?_eq_some_iff.mp hd).1
  refine ⟨hi, fun y H'' hy => ?_⟩
  obtain ⟨rfl, rfl⟩ := hy
  unfold rangeL at hd
  rw [List.getElem?_map, List.getElem?_range hi] at hd
  cases hd
  exact ⟨w', rfl, rfl, Keep.refl w', R', .int _⟩
def small62 (i : Int) : Bool := decide (-(2 ^ 62) ≤ i) && decide (i < 2 ^ 62)
theorem small62_of {i : Int} (h : small62 i = true) : -(2 ^ 62) ≤ i ∧ i < 2 ^ 62 := by
  unfold small62 at h
  rw [Bool.and_eq_true] at h
  exact ⟨of_decide_eq_true h.1, of_decide_eq_true h.2⟩
def iRange1 (ma : AM) : IM := fun ρ S => (ma ρ S).bind fun ds S1 => match ds with
  | [.int j] => if small62 j = true ∧ j.toNat ≤ sizeLine then .ok (rangeL 0 j.toNat, []) S1 else .stuck
  | _ => .stuck
def iRange2 (ma : AM) : IM := fun ρ S => (ma ρ S).bind fun ds S1 => match ds with
  | [.int i, .int j] => if small62 i = true ∧ small62 j = true ∧ (j - i).toNat ≤ sizeLine then .ok (rangeL i (j - i).toNat, []) S1 else .stuck
  | _ => .stuck
theorem pid_range1 {a : Expr} {p : Pos} (hg : Gl X "range") (hm : X.mg "range" = none) (ha : PAD X W [a] ma) (hs : starEach [a] X.env = [(false, eval a X.env)] := by rfl) : PID X W tg (.Call (.Name "range" p) [a] [] pos) (iRange1 ma) :=
  PI.conseq (pi_range1 hg hm ha hs) fun σ H Rr ⟨ρ, w, ee, R, E, q⟩ => by
    subst ee
    refine tL.of R E q fun ds w1 vs k1 R1 E1 r1 h1 => ?_
    match ds, r1, h1 with
    | [.int j], .cons (.int _) .nil, h1 =>
      by_cases hj : small62 j = true ∧ j.toNat ≤ sizeLine
      · dsimp only at h1
        rw [if_pos hj] at h1
        exact ⟨j, rfl, (small62_of hj.1).1, (small62_of hj.1).2, Post.now R1 h1 rfl (by rw [rangeL_length]; exact hj.2) _ walks_range⟩
      · dsimp only at h1
        rw [if_neg hj] at h1
        exact h1.elim
theorem pid_range2 {a b : Expr} {p : Pos} (hg : Gl X "range") (hm : X.mg "range" = none) (ha : PAD X W [a, b] ma) (hs : starEach [a, b] X.env = [(false, eval a X.env), (false, eval b X.env)] := by rfl) (hs2 : starEach [b] X.env = [(false, eval b X.env)] := by rfl) : PID X W tg (.Call (.Name "range" p) [a, b] [] pos) (iRange2 ma) :=
  PI.conseq (pi_range2 hg hm ha hs hs2) fun σ H Rr ⟨ρ, w, ee, R, E, q⟩ => by
    subst ee
    refine tL.of R E q fun ds w1 vs k1 R1 E1 r1 h1 => ?_
    match ds, r1, h1 with
    | [.int i, .int j], .cons (.int _) (.cons (.int _) .nil), h1 =>
      by_cases hj : small62 i = true ∧ small62 j = true ∧ (j - i).toNat ≤ sizeLine
      · dsimp only at h1
        rw [if_pos hj] at h1
        exact ⟨i, j, rfl, ⟨(small62_of hj.1).1, (small62_of hj.1).2, (small62_of hj.2.1).1, (small62_of hj.2.1).2⟩, Post.now R1 h1 rfl (by rw [rangeL_length]; exact hj.2.2) _ walks_range⟩
      · dsimp only at h1
        rw [if_neg hj] at h1
        exact h1.elim
/-! ### pairs -/
/-- a pair yielded as a new tuple -/
theorem new_pair {w' : Wd} (R' : HRep X.K X.mg w') {T : Addr} {xs : List V} {ds : List D} (nT : w'.H T = none) (r : RepVs X.K X.mg w' ds xs) (hz : xs.length ≤ sizeLine := by show 2 ≤ sizeLine; decide) :
    ∃ w'', w''.H = upd w'.H T (.tup xs) ∧ w''.S = w'.S ∧ Keep w' w'' ∧ HRep X.K X.mg w'' ∧ RepV X.K X.mg w'' (.tup ds) (.ref T) :=
  have k : Keep w' (w'.put T (.tup xs)) := keep_put R' nT
  ⟨w'.put T (.tup xs), rfl, rfl, k, hrep_put R' nT, .tup (SqT.of upd_same) hz (r.keep R' k)⟩
def zipL : List D → List D → List D
  | a :: as, b :: bs => .tup [a, b] :: zipL as bs
  | _, _ => []
theorem zipL_length : ∀ as bs : List D, (zipL as bs).length = min as.length bs.length
  | [], _ => by simp [zipL]
  | _ :: _, [] => by simp [zipL]
  | a :: as, b :: bs => by
    show (zipL as bs).length + 1 = min (as.length + 1) (bs.length + 1)
    rw [zipL_length as bs]
    omega
theorem zipL_get : ∀ {as bs : List D} {i : Nat} {d : D}, (zipL as bs)[i]? = some d → ∃ a b, d = .tup [a, b] ∧ as[i]? = some a ∧ bs[i]? = some b
  | [], _, _, _, h => by simp [zipL] at h
  | _ :: _, [], _, _, h => by simp [zipL] at h
  | a :: as, b :: bs, 0, d, h => by
    have e : D.tup [a, b] = d := Option.some.inj h
    exact ⟨a, b, e.symm, rfl, rfl⟩
  | a :: as, b :: bs, i + 1, d, h => zipL_get (as := as) (bs := bs) (i := i) h
/-- tuples: not lists -/
def tupOf : D → Option (List D)
  | .tup ds => some ds
  | _ => none
theorem list_at {w w' : Wd} {d : D} {a : Addr} {ds : List D} (R : HRep X.K X.mg w) (r : RepV X.K X.mg w d (.ref a)) (h : listOf w.S d = some ds) (k : KeepU w w') (R' : HRep X.K X.mg w') (e : SameAt (srcOf d) w.S w'.S) :
    ∃ xs, SqL X.K w'.H a xs ∧ RepVs X.K X.mg w' ds xs := by
  have h' : listOf w'.S d = some ds := by
    cases d with
    | ref l =>
      have q := e l (List.mem_singleton.mpr rfl)
      show (match w'.S[l]? with
        | some (.lst ds) => some ds
        | _ => none) = some ds
      rw [q]
      exact h
    | _ => exact h
  obtain ⟨a2, ys, e2, hl, _, rl⟩ := listOf_rep R' (r.keepU R k) h'
  cases e2
  exact ⟨ys, hl, rl⟩
theorem same_left {s1 s2 : List Nat} {S S' : Store} (h : SameAt (s1 ++ s2) S S') : SameAt s1 S S' := fun l hl => h l (List.mem_append_left _ hl)
theorem same_right {s1 s2 : List Nat} {S S' : Store} (h : SameAt (s1 ++ s2) S S') : SameAt s2 S S' := fun l hl => h l (List.mem_append_right _ hl)
def iZip (ma : AM) : IM := fun ρ S => (ma ρ S).bind fun ds S1 => match ds with
  | [a, b] => match tupOf a, tupOf b with
    | some xs, some ys => .ok (zipL xs ys, []) S1
    | _, _ => match listOf S1 a, listOf S1 b with
      | some xs, some ys => .ok (zipL xs ys, srcOf a ++ srcOf b) S1
      | _, _ => .stuck
  | _ => .stuck
theorem tupOf_rep {w : Wd} {d : D} {x : V} {ds : List D} (r : RepV X.K X.mg w d x) (h : tupOf d = some ds) : ∃ a xs, x = .ref a ∧ SqT X.K w.H a xs ∧ xs.length ≤ sizeLine ∧ RepVs X.K X.mg w ds xs := by
  cases r <;> first | (cases h; done) | (cases h; exact ⟨_, _, rfl, by assumption, by assumption, by assumption⟩)
theorem pid_zip {p tpos : Pos} {elts : List Expr} {kk : Nat} (hg : Gl X "zip") (hm : X.mg "zip" = none) (ha : PAD X W [e, e2] ma)
    (hs : starEach [e, e2] X.env = (false, eval e X.env) :: starEach [e2] X.env := by rfl) (hpl : (backTo pos (starEach [e2] X.env)).any (·.1) = false := by rfl) :
    PID X W (.Tuple elts kk tpos) (.Call (.Name "zip" p) [e, e2] [] pos) (iZip ma) :=
  PI.conseq (RZ.pi_zipA hg hm ha hs hpl) fun σ H Rr ⟨ρ, w, ee, R, E, q⟩ => by
    subst ee
    refine tL.of R E q fun ds w1 vs k1 R1 E1 r1 h1 => ?_
    match ds, vs, r1, h1 with
    | [a, b], [x, y], .cons ra (.cons rb .nil), h1 =>
      dsimp only at h1
      have lists : ∀ (z : Post X.K X.mg W σ w1 (fun p w1 => p.1.length ≤ sizeLine → ∀ J, Walks X.K X.mg J p.1 p.2 w1 → Rr J w1.H) (match listOf w1.S a, listOf w1.S b with
          | some xs, some ys => Res.ok (zipL xs ys, srcOf a ++ srcOf b) w1.S
          | _, _ => .stuck)), ∃ a b xs ys, [x, y] = [.ref a, .ref b] ∧ ((SqL X.K w1.H a xs ∧ SqL X.K w1.H b ys ∧ Rr (Itz X.K a b) w1.H) ∨ (SqT X.K w1.H a xs ∧ SqT X.K w1.H b ys ∧ Rr (RZ.ItzT X.K a b) w1.H)) := fun z => by
        cases e1 : listOf w1.S a with
        | none => rw [e1] at z; exact z.elim
        | some xs =>
          cases e2 : listOf w1.S b with
          | none => rw [e1, e2] at z; exact z.elim
          | some ys =>
            rw [e1, e2] at z
            obtain ⟨p1, vs1, rfl, hq1, z1, rs1⟩ := listOf_rep R1 ra e1
            obtain ⟨p2, vs2, rfl, hq2, _, rs2⟩ := listOf_rep R1 rb e2
            refine ⟨p1, p2, vs1, vs2, rfl, .inl ⟨hq1, hq2, Post.now R1 z rfl (by rw [zipL_length, rs1.length]; omega) _ fun i w' k' R' e' => ?_⟩⟩
            obtain ⟨us1, u1, ru1⟩ := list_at R1 ra e1 k' R' (same_left e')
            obtain ⟨us2, u2, ru2⟩ := list_at R1 rb e2 k' R' (same_right e')
            refine ⟨fun d hd => ?_, fun hl => ⟨us1, us2, u1, u2, ?_⟩⟩
            · obtain ⟨da, db, rfl, g1, g2⟩ := zipL_get hd
              obtain ⟨v1, i1, s1⟩ := ru1.get g1
              obtain ⟨v2, i2, s2⟩ := ru2.get g2
              refine ⟨⟨us1, us2, v1, v2, u1, u2, i1, i2⟩, fun v H'' hy => ?_⟩
              obtain ⟨T, z1, z2, rfl, nT, rfl, f1, f2⟩ := hy
              have ez1 := f1 _ u1
              rw [i1] at ez1
              cases ez1
              have ez2 := f2 _ u2
              rw [i2] at ez2
              cases ez2
              exact new_pair R' nT (.cons s1 (.cons s2 .nil))
            · rw [zipL_length] at hl
              rw [← ru1.length, ← ru2.length]
              omega
      cases e1 : tupOf a with
      | none => rw [e1] at h1; exact lists h1
      | some xs =>
        cases e2 : tupOf b with
        | none => rw [e1, e2] at h1; exact lists h1
        | some ys =>
          rw [e1, e2] at h1
          obtain ⟨p1, vs1, rfl, hq1, z1, rs1⟩ := tupOf_rep ra e1
          obtain ⟨p2, vs2, rfl, hq2, _, rs2⟩ := tupOf_rep rb e2
          refine ⟨p1, p2, vs1, vs2, rfl, .inr ⟨hq1, hq2, Post.now R1 h1 rfl (by rw [zipL_length, rs1.length]; omega) _ fun i w' k' R' e' => ?_⟩⟩
          have u1 := SqT.keepU R1 k' hq1
          have u2 := SqT.keepU R1 k' hq2
          refine ⟨fun d hd => ?_, fun hl => ⟨_, _, u1, u2, ?_⟩⟩
          · obtain ⟨da, db, rfl, g1, g2⟩ := zipL_get hd
            obtain ⟨v1, i1, s1⟩ := (rs1.keepU R1 k').get g1
            obtain ⟨v2, i2, s2⟩ := (rs2.keepU R1 k').get g2
            refine ⟨⟨_, _, v1, v2, u1, u2, i1, i2⟩, fun v H'' hy => ?_⟩
            obtain ⟨T, z1, z2, rfl, nT, rfl, f1, f2⟩ := hy
            have ez1 := f1 _ u1
            rw [i1] at ez1
            cases ez1
            have ez2 := f2 _ u2
            rw [i2] at ez2
            cases ez2
            exact new_pair R' nT (.cons s1 (.cons s2 .nil))
          · rw [zipL_length] at hl
            rw [← rs1.length, ← rs2.length]
            omega
def enumL (k : Nat) : List D → List D
  | [] => []
  | d :: ds => .tup [.int (k : Int), d] :: enumL (k + 1) ds
theorem enumL_length : ∀ (ds : List D) (k : Nat), (enumL k ds).length = ds.length
  | [], _ => rfl
  | _ :: ds, k => congrArg (· + 1) (enumL_length ds (k + 1))
theorem enumL_get : ∀ {ds : List D} {k i : Nat} {d : D}, (enumL k ds)[i]? = some d → ∃ a, d = .tup [.int ((k + i : Nat) : Int), a] ∧ ds[i]? = some a
  | [], _, _, _, h => by simp [enumL] at h
  | a :: ds, k, 0, d, h => by
    have e : D.tup [.int (k : Int), a] = d := Option.some.inj h
    exact ⟨a, e.symm, rfl⟩
  | a :: ds, k, i + 1, d, h => by
    obtain ⟨b, e, g⟩ := enumL_get (ds := ds) (k := k + 1) (i := i) h
    exact ⟨b, by rw [e, show k + 1 + i = k + (i + 1) by omega], g⟩
end
/-! ### for -/
section
open Classical
noncomputable def sFor1 (g : GM) (b : SM) (src : List Nat) (S0 : Store) : List D → SM
  | [] => fun ρ S => if SameAt src S0 S then .next ρ S else .stuck
  | d :: ds => fun ρ S => if SameAt src S0 S then (match g d ρ S with
      | .next ρ1 S1 => match b ρ1 S1 with
        | .next ρ' S' => sFor1 g b src S0 ds ρ' S'
        | .cnt ρ' S' => sFor1 g b src S0 ds ρ' S'
        | .brk ρ' S' => .next ρ' S'
        | r => r
      | _ => .stuck) else .stuck
noncomputable def sFor (mi : IM) (g : GM) (b : SM) : SM := fun ρ S => sBind (mi ρ S) ρ fun p S1 => sFor1 g b p.2 S1 p.1 ρ S1
end
section
variable {X : Cx} {W : WX} {iter tg : Expr} {mi : IM} {g : GM} {b : SM} {body : List Stmt} {pos : Pos}
theorem for_rest {D' : Ends} {σ : St} {w1 : Wd} {ρ : DEnv} {ds : List D} {src : List Nat} {J : It} (R1 : HRep X.K X.mg w1) (E1 : ERep X.K X.mg w1 ρ σ) (h1 : PostS X.K X.mg W D' w1 (sFor1 g b src w1.S ds ρ w1.S)) (wk : Walks X.K X.mg J ds src w1) :
    ∃ Wf : Nat → Nat → St → Hp → Prop, (∃ m, Wf 0 m σ w1.H) ∧ ∀ i m σ H, Wf i m σ H → (J.stop i H ∧ D'.nx σ H) ∨ (J.go i H ∧ ∃ N : St → Hp → Prop, (∀ σ' H', N σ' H' → ∃ m', m' < m ∧ Wf (i + 1) m' σ' H') ∧
      ∀ v H', J.yld i H v H' → tG X.K X.mg g v σ H' fun σ2 H2 => tS X.K X.mg W b { D' with nx := N, ct := N, bk := D'.nx } σ2 H2) := by
    refine ⟨fun i n σ H => ∃ ρ w, w.H = H ∧ HRep X.K X.mg w ∧ ERep X.K X.mg w ρ σ ∧ Keep w1 w ∧ n = ds.length - i ∧ i ≤ ds.length ∧ PostS X.K X.mg W D' w (sFor1 g b src w1.S (ds.drop i) ρ w.S),
      ⟨ds.length, ρ, w1, rfl, R1, E1, Keep.refl w1, rfl, Nat.zero_le _, h1⟩, fun i n σ H hw => ?_⟩
    obtain ⟨ρ, w, ee, R, E, k, hn, hi', q⟩ := hw
    subst ee
    by_cases hlt : i < ds.length
    · rw [List.drop_eq_getElem_cons hlt] at q
      unfold sFor1 at q
      by_cases hsm : SameAt src w1.S w.S
      · rw [if_pos hsm] at q
        obtain ⟨go, yl⟩ := (wk i w k.toKeepU R hsm).1 _ (List.getElem?_eq_getElem hlt)
        refine .inr ⟨go, fun σ' H' => ∃ ρ w, w.H = H' ∧ HRep X.K X.mg w ∧ ERep X.K X.mg w ρ σ' ∧ Keep w1 w ∧ PostS X.K X.mg W D' w (sFor1 g b src w1.S (ds.drop (i + 1)) ρ w.S), fun σ' H' hN => ?_, fun x H' hy => ?_⟩
        · obtain ⟨ρ', w', e', R', E', k', q'⟩ := hN
          exact ⟨ds.length - (i + 1), by omega, ρ', w', e', R', E', k', rfl, hlt, q'⟩
        · obtain ⟨w2, e2, eS, k2, R2, rx⟩ := yl x H' hy
          subst e2
          refine ⟨ρ, w2, ds[i], rfl, R2, E.keep R k2, rx, ?_⟩
          rw [eS]
          cases hgd : g ds[i] ρ w.S with
          | next ρ1 S1 =>
            rw [hgd] at q
            intro σ' w' k' R' e' E'
            subst e'
            refine ⟨ρ1, w', rfl, R', E', ?_⟩
            have kk := k.trans (k2.trans k')
            dsimp only at q
            have q2 := PostS.rebase (k2.trans k') q
            cases hb' : b ρ1 w'.S with
            | next ρ' S' =>
              rw [hb'] at q2
              intro σ2 w3 k3 R3 e3 E3
              subst e3
              exact ⟨ρ', w3, rfl, R3, E3, kk.trans k3, PostS.rebase k3 q2⟩
            | cnt ρ' S' =>
              rw [hb'] at q2
              intro σ2 w3 k3 R3 e3 E3
              subst e3
              exact ⟨ρ', w3, rfl, R3, E3, kk.trans k3, PostS.rebase k3 q2⟩
            | brk ρ' S' => rw [hb'] at q2; exact q2
            | ret d S' => rw [hb'] at q2; exact q2
            | exc x ρ' S' => rw [hb'] at q2; exact q2
            | stuck => rw [hb'] at q2; exact q2
          | _ => rw [hgd] at q; exact q.elim
      · rw [if_neg hsm] at q
        exact q.elim
    · have e0 : ds.drop i = [] := List.drop_eq_nil_of_le (Nat.le_of_not_lt hlt)
      rw [e0] at q
      unfold sFor1 at q
      by_cases hsm : SameAt src w1.S w.S
      · rw [if_pos hsm] at q
        exact .inl ⟨(wk i w k.toKeepU R hsm).2 (Nat.le_of_not_lt hlt), q σ w (Keep.refl w) R rfl E⟩
      · rw [if_neg hsm] at q
        exact q.elim
theorem sd_for (hp : PassesOwn (model X.prog X.w) X.A X.env X.xe) (hc : X.calm = true) (hi : PID X W tg iter mi) (hg : PGD X tg g) (hb : PSsD X W body b)
    (hs : ∀ x, foldedSetIterable iter X.env x = pure x := by intro _; rfl) : PSD X W (.For tg iter body [] pos) (sFor mi g b) :=
  PS.conseq (ps_for hp hc hi hg hb hs) fun D' σ H ⟨ρ, w, ee, R, E, q⟩ => by
    subst ee
    refine ⟨ρ, w, rfl, R, E, Post.mono (PostS.step R E q) fun p w1 k1 R1 h1 _ J wk => ?_⟩
    exact for_rest R1 (E.keep R k1) h1 wk
end
end L3
end

section
set_option Elab.async false
set_option linter.all false
set_option maxRecDepth 100000
set_option maxHeartbeats 4000000
namespace L3
open PySem PySem.Spec L2

/-! ### a comprehension's target -/
inductive Tgt where
  | nm (i : Nat) | tp (ts : List Tgt)
mutual
def tgOf (K : PySem.W.Frag) : Tgt → TG
  | .nm i => gName i
  | .tp ts => gTup K ts.length (tgsOf K ts)
def tgsOf (K : PySem.W.Frag) : List Tgt → TGs
  | [] => gNil
  | t :: ts => gCons (tgOf K t) (tgsOf K ts)
end
mutual
def putT : Tgt → D → DEnv → Option DEnv
  | .nm i, d, ρ => some (ρ.set i (some d))
  | .tp ts, d, ρ => match d with
    | .tup ds => if ds.length = ts.length then putTs ts ds ρ else none
    | _ => none
def putTs : List Tgt → List D → DEnv → Option DEnv
  | [], ds, ρ => match ds with
    | [] => some ρ
    | _ => none
  | t :: ts, ds, ρ => match ds with
    | [] => none
    | d :: ds => match putT t d ρ with
      | some ρ' => putTs ts ds ρ'
      | none => none
end
mutual
def Tgt.slots : Tgt → List Nat
  | .nm i => [i]
  | .tp ts => slotsL ts
def slotsL : List Tgt → List Nat
  | [] => []
  | t :: ts => t.slots ++ slotsL ts
end
def wipeD (ρ : DEnv) : List Nat → DEnv
  | [] => ρ
  | v :: vs => (wipeD ρ vs).set v none
theorem wipe_set {σ : St} {i : Nat} {x : Option V} : ∀ {vs : List Nat}, i ∈ vs → wipe (σ.set i x) vs = wipe σ vs
  | [], h => nomatch h
  | v :: vs, h => by
    show (wipe (σ.set i x) vs).set v none = (wipe σ vs).set v none
    by_cases hm : i ∈ vs
    · rw [wipe_set hm]
    · have e : i = v := (List.mem_cons.mp h).resolve_right hm
      subst e
      have out : ∀ (us : List Nat), i ∉ us → wipe (σ.set i x) us = (wipe σ us).set i x := by
        intro us
        induction us with
        | nil => intro _; rfl
        | cons u us ih =>
          intro hu
          show (wipe (σ.set i x) us).set u none = ((wipe σ us).set u none).set i x
          rw [ih fun z => hu (List.mem_cons_of_mem _ z)]
          exact List.set_comm _ _ fun z => hu (by rw [z]; exact List.mem_cons_self)
      rw [out vs hm, List.set_set]
section
variable {K : PySem.W.Frag} {mg : Str → Option Value} {w : Wd}
theorem erep_wipe {ρ : DEnv} {σ : St} (E : ERep K mg w ρ σ) : ∀ vs : List Nat, ERep K mg w (wipeD ρ vs) (wipe σ vs)
  | [] => E
  | v :: vs => by
    have ih := erep_wipe E vs
    refine ⟨by show ((wipeD ρ vs).set v none).length = ((wipe σ vs).set v none).length; rw [List.length_set, List.length_set]; exact ih.1, fun i d h => ?_⟩
    have h' : ((wipeD ρ vs).set v none)[i]? = some (some d) := h
    by_cases e : i = v
    · subst e
      rw [List.getElem?_set] at h'
      rw [if_pos rfl] at h'
      split at h' <;> cases h'
    · rw [List.getElem?_set_ne (Ne.symm e)] at h'
      obtain ⟨x, h1, h2⟩ := ih.2 i d h'
      exact ⟨x, (List.getElem?_set_ne (Ne.symm e)).trans h1, h2⟩
mutual
theorem tgOf_ok : ∀ (t : Tgt) {d : D} {v : V} {ρ ρ' : DEnv} {σ : St} {Q : St → Hp → Prop}, RepV K mg w d v → ERep K mg w ρ σ → putT t d ρ = some ρ' →
    (∀ σ', ERep K mg w ρ' σ' → (∀ vs, (∀ i ∈ t.slots, i ∈ vs) → wipe σ' vs = wipe σ vs) → Q σ' w.H) → tgOf K t v σ w.H Q
  | .nm i, d, v, ρ, ρ', σ, Q, r, E, hp, hq => by
    have e : ρ.set i (some d) = ρ' := Option.some.inj hp
    subst e
    exact hq _ (erep_set E r i) fun vs h => wipe_set (h i (List.mem_singleton.mpr rfl))
  | .tp ts, d, v, ρ, ρ', σ, Q, r, E, hp, hq => by
    cases r with
    | @tup ds a xs hs _ rs =>
      have hp' : (if ds.length = ts.length then putTs ts ds ρ else none) = some ρ' := hp
      by_cases hl : ds.length = ts.length
      · rw [if_pos hl] at hp'
        exact ⟨a, xs, rfl, hs, by rw [← rs.length]; exact hl, tgsOf_ok ts rs E hp' hq⟩
      · rw [if_neg hl] at hp'
        cases hp'
    | _ => cases hp
theorem tgsOf_ok : ∀ (ts : List Tgt) {ds : List D} {xs : List V} {ρ ρ' : DEnv} {σ : St} {Q : St → Hp → Prop}, RepVs K mg w ds xs → ERep K mg w ρ σ → putTs ts ds ρ = some ρ' →
    (∀ σ', ERep K mg w ρ' σ' → (∀ vs, (∀ i ∈ slotsL ts, i ∈ vs) → wipe σ' vs = wipe σ vs) → Q σ' w.H) → tgsOf K ts xs σ w.H Q
  | [], ds, xs, ρ, ρ', σ, Q, r, E, hp, hq => by
    cases r with
    | nil =>
      have e : ρ = ρ' := Option.some.inj hp
      subst e
      exact ⟨rfl, hq σ E fun _ _ => rfl⟩
    | cons _ _ => cases hp
  | t :: ts, ds, xs, ρ, ρ', σ, Q, r, E, hp, hq => by
    cases r with
    | nil => cases hp
    | @cons d v ds vs r1 rs =>
      have hp' : (match putT t d ρ with
        | some ρ' => putTs ts ds ρ'
        | none => none) = some ρ' := hp
      cases h1 : putT t d ρ with
      | none => rw [h1] at hp'; cases hp'
      | some ρ1 =>
        rw [h1] at hp'
        exact ⟨v, vs, rfl, tgOf_ok t r1 E h1 fun σ1 E1 hw1 => tgsOf_ok ts rs E1 hp' fun σ2 E2 hw2 => hq σ2 E2 fun us hu =>
          (hw2 us fun i hi => hu i (List.mem_append_right _ hi)).trans (hw1 us fun i hi => hu i (List.mem_append_left _ hi))⟩
end
end
theorem tgt_nm {X : Cx} {i : Nat} {e : Expr} (h : PG X e (gName i)) : PG X e (tgOf X.K (.nm i)) := h
theorem tgts_nil {X : Cx} : PGs X [] (tgsOf X.K []) := pgs_nil
theorem tgts_cons {X : Cx} {e : Expr} {es : List Expr} {t : Tgt} {ts : List Tgt} (h1 : PG X e (tgOf X.K t)) (h2 : PGs X es (tgsOf X.K ts)) (hs : (assignEach (e :: es) X.env).map (·.2) = assign e X.env :: (assignEach es X.env).map (·.2) := by rfl) : PGs X (e :: es) (tgsOf X.K (t :: ts)) :=
  pgs_cons h1 h2 hs
theorem tgt_tp {X : Cx} {es : List Expr} {k : Nat} {pos : Pos} {ts : List Tgt} (hc : X.calm = true) (h : PGs X es (tgsOf X.K ts)) (hn : (assignEach es X.env).length = ts.length := by rfl) (hst : (assignEach es X.env).findIdx? (·.1) = none := by rfl) : PG X (.Tuple es k pos) (tgOf X.K (.tp ts)) :=
  pg_tup hc h hn hst

/-! ### the loop -/
abbrev W0 : WX := fun _ _ _ _ => False
section
open Classical
noncomputable def cLoop (tg : Tgt) (t : TM) (me : EM) (vs : List Nat) (src : List Nat) (S0 : Store) (ρ : DEnv) : List D → List D → Store → Res (List D)
  | [], acc, S => if SameAt src S0 S then .ok acc S else .stuck
  | d :: ds, acc, S => if SameAt src S0 S then (match putT tg d (wipeD ρ vs) with
      | none => .stuck
      | some ρ1 => match t ρ1 S with
        | .ok true S1 => match me ρ1 S1 with
          | .ok y S2 => cLoop tg t me vs src S0 ρ ds (acc ++ [y]) S2
          | _ => .stuck
        | .ok false S1 => cLoop tg t me vs src S0 ρ ds acc S1
        | _ => .stuck) else .stuck
noncomputable def eComp (live : Bool) (mi : IM) (tg : Tgt) (t : TM) (me : EM) (vs : List Nat) : EM := fun ρ S => (mi ρ S).bind fun p S1 => (cLoop tg t me vs p.2 S1 ρ p.1 [] S1).bind fun ys S2 => newL live ys S2
end
theorem cLoop_noexc {tg : Tgt} {t : TM} {me : EM} {vs src : List Nat} {S0 : Store} {ρ : DEnv} : ∀ (ds acc : List D) (S : Store) (x : Exc) (S' : Store), cLoop tg t me vs src S0 ρ ds acc S ≠ .exc x S'
  | [], acc, S, x, S' => by
    unfold cLoop
    split <;> exact fun h => nomatch h
  | d :: ds, acc, S, x, S' => by
    unfold cLoop
    split
    · split
      · exact fun h => nomatch h
      · split
        · split
          · exact cLoop_noexc ds _ _ x S'
          · exact fun h => nomatch h
        · exact cLoop_noexc ds _ _ x S'
        · exact fun h => nomatch h
    · exact fun h => nomatch h
section
variable {K : PySem.W.Frag} {mg : Str → Option Value} {w w1 w' : Wd}
/-- with a new hidden list -/
def Wd.hide (w : Wd) (p : Addr) : Wd := ⟨w.ι, w.S, upd w.H p (.lst []), p :: w.hd⟩
theorem keep_hide (R : HRep K mg w) {p : Addr} (hp : w.H p = none) : Keep w (w.hide p) := by
  have k := keep_put R (o := .lst []) hp
  exact ⟨⟨k.same, k.ext, k.new, k.dd, k.nn, ⟨[p], rfl, fun a h => by rw [List.mem_singleton.mp h]; exact hp⟩⟩, k.hk⟩
theorem hrep_hide (R : HRep K mg w) {p : Addr} (hp : w.H p = none) : HRep K mg (w.hide p) := by
  have k : Keep w (w.hide p) := keep_hide R hp
  have R1 := hrep_put R (o := .lst []) hp
  refine ⟨R.len, R.inj, R1.occ, fun l a c h hc => CRep.keep R k (upd_ne fun e => R.occ l a h (by rw [e]; exact hp)) (R.cell l a c h hc), fun a h => ?_, fun l a h z => ?_⟩
  · rcases List.mem_cons.mp h with e | h
    · rw [e]
      exact ⟨[], upd_same⟩
    · obtain ⟨xs, q⟩ := R.hid a h
      exact ⟨xs, (upd_ne (ne_of_none q hp)).trans q⟩
  · rcases List.mem_cons.mp z with e | z
    · exact R.occ l a h (by rw [e]; exact hp)
    · exact R.sep l a h z
/-- the hidden list changes -/
def Wd.grow (w : Wd) (p : Addr) (xs : List V) : Wd := ⟨w.ι, w.S, upd w.H p (.lst xs), w.hd⟩
theorem tr_grow {p : Addr} {xs : List V} (hp : p ∈ w.hd) : Tr (fun _ => True) w (w.grow p xs) :=
  ⟨fun b o h _ n => ⟨(upd_ne fun e => n.1 (by rw [e]; exact hp)).trans h, n⟩, fun _ _ _ h => h⟩
theorem CRep.tr {a : Addr} (R : HRep K mg w) (k : Tr (fun _ => True) w w') (hH : w'.H a = w.H a) : ∀ {c : Cell}, CRep K mg w a c → CRep K mg w' a c
  | .dead, _ => trivial
  | .lst ds, ⟨xs, h, z, r⟩ => ⟨xs, hH.trans h, z, r.tr R k (rfs_mono (fun _ _ => trivial) ds r.lt)⟩
  | .dic ds, ⟨xs, h, r⟩ => ⟨xs, hH.trans h, r.tr R k (rfK_mono (fun _ _ => trivial) ds r.lt)⟩
  | .ins _ fs, ⟨C, dx, gs, hc, h, r⟩ => ⟨C, dx, gs, hc, hH.trans h, r.tr R k (rff_mono (fun _ _ => trivial) fs r.lt)⟩
theorem hrep_grow (R : HRep K mg w) {p : Addr} {xs : List V} (hp : p ∈ w.hd) : HRep K mg (w.grow p xs) := by
  have np : ∀ (l : Nat) (a : Addr), w.ι[l]? = some a → a ≠ p := fun l a h e => R.sep l a h (by rw [e]; exact hp)
  refine ⟨R.len, R.inj, fun l a h => ?_, fun l a c h hc => CRep.tr R (tr_grow hp) (upd_ne (np l a h)) (R.cell l a c h hc), fun a h => ?_, R.sep⟩
  · show upd w.H p (.lst xs) a ≠ none
    rw [upd_ne (np l a h)]
    exact R.occ l a h
  · by_cases e : a = p
    · rw [e]
      exact ⟨xs, upd_same⟩
    · obtain ⟨ys, q⟩ := R.hid a h
      exact ⟨ys, (upd_ne e).trans q⟩
theorem keepU_grow (R : HRep K mg w) {p : Addr} {xs : List V} (hp : p ∈ w.hd) : KeepU w (w.grow p xs) :=
  ⟨fun b o h n => (upd_ne fun e => n.1 (by rw [e]; exact hp)).trans h, ⟨[], by simp [Wd.grow]⟩, fun l b h e => by
    have := (List.getElem?_eq_some_iff.mp e).1
    exact absurd (Nat.lt_of_lt_of_le this h) (Nat.lt_irrefl _), fun _ h => h, fun b h => by
    by_cases e : b = p
    · have h' : upd w.H p (.lst xs) b = none := h
      rw [e, upd_same] at h'
      cases h'
    · have h' : upd w.H p (.lst xs) b = none := h
      rw [upd_ne e] at h'
      exact h', ⟨[], rfl, fun _ h => nomatch h⟩⟩
/-- from the world ahead -/
theorem keep_grow (k : Keep w1 w) {p : Addr} {xs : List V} (h1 : w1.H p = none) (hn : p ∉ w1.hd) : Keep w1 (w.grow p xs) :=
  ⟨⟨fun b o h n => (upd_ne (ne_of_none h h1)).trans (k.same b o h n), k.ext, k.new, k.dd, fun b h => by
    by_cases e : b = p
    · rw [e]; exact h1
    · have h' : upd w.H p (.lst xs) b = none := h
      rw [upd_ne e] at h'
      exact k.nn b h', k.hdd⟩, fun a h => (upd_ne fun e => hn (by rw [← e]; exact h)).trans (k.hk a h)⟩
/-- it is shown -/
def Wd.bare (w : Wd) (p : Addr) : Wd := ⟨w.ι, w.S, w.H, w.hd.filter fun a => decide (a ≠ p)⟩
theorem tr_bare {p : Addr} : Tr (fun _ => True) w (w.bare p) :=
  ⟨fun b o h _ n => ⟨h, fun z => n.1 (List.mem_filter.mp z).1, n.2⟩, fun _ _ _ h => h⟩
theorem hrep_bare (R : HRep K mg w) {p : Addr} : HRep K mg (w.bare p) :=
  ⟨R.len, R.inj, R.occ, fun l a c h hc => CRep.tr R tr_bare rfl (R.cell l a c h hc), fun a h => R.hid a (List.mem_filter.mp h).1, fun l a h z => R.sep l a h (List.mem_filter.mp z).1⟩
theorem keep_bare (k : Keep w1 w) {p : Addr} (h1 : w1.H p = none) (hn : p ∉ w1.hd) : Keep w1 (w.bare p) := by
  refine ⟨⟨k.same, k.ext, k.new, k.dd, k.nn, ?_⟩, k.hk⟩
  obtain ⟨t, e, f⟩ := k.hdd
  refine ⟨t.filter fun a => decide (a ≠ p), ?_, fun a h => f a (List.mem_filter.mp h).1⟩
  show w.hd.filter _ = _
  rw [e, List.filter_append]
  congr 1
  exact List.filter_eq_self.mpr fun a ha => decide_eq_true fun z => hn (by rw [← z]; exact ha)
theorem hid_not (R : HRep K mg w1) {p : Addr} (h1 : w1.H p = none) : p ∉ w1.hd := fun z => by
  obtain ⟨xs, q⟩ := R.hid p z
  rw [h1] at q
  cases q
/-- the finished list -/
theorem show_post {W : WX} {σ : St} {Q : VK} (R1 : HRep K mg w1) (k : Keep w1 w) (R : HRep K mg w) {p : Addr} {xs : List V} {ds : List D} {live : Bool} (h1 : w1.H p = none) (hp : p ∈ w.hd) (hH : w.H p = some (.lst xs)) (hz : xs.length ≤ sizeLine) (r : RepVs K mg w ds xs)
    (h : PV K mg W σ w1 Q (newL live ds w.S)) : Q (.ref p) w.H := by
  have hn := hid_not R1 h1
  have kb : Keep w1 (w.bare p) := keep_bare k h1 hn
  have Rb : HRep K mg (w.bare p) := hrep_bare R
  have rb : RepVs K mg (w.bare p) ds xs := r.tr R tr_bare (rfs_mono (fun _ _ => trivial) ds r.lt)
  have npb : p ∉ (w.bare p).hd := fun z => by
    have := (List.mem_filter.mp z).2
    exact absurd rfl (of_decide_eq_true this)
  have ni : ∀ l : Nat, w.ι[l]? ≠ some p := fun l e => R.sep l p e hp
  cases live with
  | false => exact h (w.bare p) kb Rb rfl (.ref p) (.lst hH ⟨npb, fun l e => absurd e (ni l)⟩ hz rb)
  | true =>
    -- one more cell at p
    let wl : Wd := ⟨w.ι ++ [p], w.S ++ [.lst ds], w.H, (w.bare p).hd⟩
    have spl : ∀ (l : Nat) (a : Addr), (w.ι ++ [p])[l]? = some a → w.ι[l]? = some a ∨ (l = w.ι.length ∧ a = p) := fun l a h => by
      by_cases hl : l < w.ι.length
      · rw [List.getElem?_append_left hl] at h
        exact .inl h
      · rw [List.getElem?_append_right (Nat.le_of_not_lt hl)] at h
        have h0 : l - w.ι.length = 0 := by
          have := (List.getElem?_eq_some_iff.mp h).1
          simpa using this
        rw [h0] at h
        cases h
        exact .inr ⟨by omega, rfl⟩
    have trl : Tr (fun _ => True) w wl := ⟨fun b o hb _ n => ⟨hb, fun z => n.1 (List.mem_filter.mp z).1, fun l e => by
      rcases spl l b e with q | ⟨_, q⟩
      · show (w.S ++ [Cell.lst ds])[l]? = some Cell.dead
        have := n.2 l q
        rw [List.getElem?_append_left (List.getElem?_eq_some_iff.mp this).1]
        exact this
      · exact absurd hp (by rw [← q]; exact n.1)⟩, fun l a _ e => by
      show (w.ι ++ [p])[l]? = some a
      rw [List.getElem?_append_left (List.getElem?_eq_some_iff.mp e).1]
      exact e⟩
    have Rl : HRep K mg wl := by
      refine ⟨by show (w.ι ++ [p]).length = (w.S ++ [Cell.lst ds]).length; rw [List.length_append, List.length_append, R.len]; rfl, fun l l' a e e' => ?_, fun l a e => ?_, fun l a c e hc => ?_, Rb.hid, fun l a e z => ?_⟩
      · rcases spl l a e with q | ⟨q, z⟩
        · rcases spl l' a e' with q' | ⟨q', z'⟩
          · exact R.inj l l' a q q'
          · exact absurd (z' ▸ q) (ni l)
        · rcases spl l' a e' with q' | ⟨q', z'⟩
          · exact absurd (z ▸ q') (ni l')
          · omega
      · rcases spl l a e with q | ⟨_, q⟩
        · exact R.occ l a q
        · show w.H a ≠ none
          rw [q, hH]
          exact fun z => nomatch z
      · have hc' : (w.S ++ [Cell.lst ds])[l]? = some c := hc
        rcases spl l a e with q | ⟨q, z⟩
        · have hl : l < w.S.length := by rw [← R.len]; exact (List.getElem?_eq_some_iff.mp q).1
          rw [List.getElem?_append_left hl] at hc'
          exact CRep.tr R trl rfl (R.cell l a c q hc')
        · subst z
          rw [q, R.len, List.getElem?_append_right (Nat.le_refl _), Nat.sub_self] at hc'
          cases hc'
          exact ⟨xs, hH, hz, r.tr R trl (rfs_mono (fun _ _ => trivial) ds r.lt)⟩
      · rcases spl l a e with q | ⟨_, q⟩
        · exact R.sep l a q (List.mem_filter.mp z).1
        · subst q
          exact npb z
    have kl : Keep w1 wl := ⟨⟨k.same, by
        obtain ⟨t, e⟩ := k.ext
        exact ⟨t ++ [p], by show w.ι ++ [p] = _; rw [e, List.append_assoc]⟩, fun l b hl e => by
        rcases spl l b e with q | ⟨_, q⟩
        · exact k.new l b hl q
        · rw [q]; exact h1, fun l e => by
        have := k.dd l e
        show (w.S ++ [Cell.lst ds])[l]? = some Cell.dead
        rw [List.getElem?_append_left (List.getElem?_eq_some_iff.mp this).1]
        exact this, k.nn, kb.hdd⟩, k.hk⟩
    refine h wl kl Rl rfl (.ref p) (.ref ?_)
    show (w.ι ++ [p])[w.S.length]? = some p
    rw [← R.len, List.getElem?_append_right (Nat.le_refl _), Nat.sub_self]
    rfl
end
section
variable {X : Cx} {W : WX} {elt tg iter : Expr} {ifs : List Expr} {scope : Scope} {own : List (Str × Nat)} {pos : Pos} {mi : IM} {t : TM} {me : EM} {tt : Tgt}
def tYesM : TM := fun _ S => .ok true S
abbrev PTsD (X : Cx) (W : WX) (ifs : List Expr) (m : TM) : Prop := PTs X ifs (tT X.K X.mg W m)
theorem ptd_nil : PTsD X W [] tYesM := ⟨fun pins s σ H Q I h => by
  obtain ⟨ρ, w, e, R, E, q⟩ := h
  subst e
  exact pts_nil.run pins s σ w.H Q I (PB.now R q)⟩
theorem ptd_one {c : Expr} {m : TM} (h : PTD X W c m) : PTsD X W [c] m := pts_one h
theorem lc_rest {σ : St} {w1 : Wd} {ρ : DEnv} {ds : List D} {src : List Nat} {J : It} {Q : VK} {live : Bool} {K : PySem.W.Frag} {mg : Str → Option Value} (hsl : ∀ i ∈ tt.slots, i ∈ own.map (·.2)) (R1 : HRep K mg w1) (E1 : ERep K mg w1 ρ σ) (hz : ds.length ≤ sizeLine)
    (q1 : PV K mg W σ w1 Q ((cLoop tt t me (own.map (·.2)) src w1.S ρ ds [] w1.S).bind fun ys S2 => newL live ys S2)) (wk : Walks K mg J ds src w1) {Dd : Addr} (hD : w1.H Dd = none) :
    ∃ Wf : Nat → Nat → Hp → Prop, (∃ m, Wf 0 m (upd w1.H Dd (.lst []))) ∧ ∀ i m H, Wf i m H → (J.stop i H ∧ Q (.ref Dd) H) ∨ (J.go i H ∧ ∃ Nx : Hp → Prop,
      (∀ H', Nx H' → ∃ m', m' < m ∧ Wf (i + 1) m' H') ∧ ∀ x H', J.yld i H x H' → tgOf K tt x (wipe σ (own.map (·.2))) H' fun σ2 H2 => wipe σ2 (own.map (·.2)) = wipe σ (own.map (·.2)) ∧
        tT K mg W0 t σ2 H2 fun b H3 => if b = true then (tM K mg W0 me σ2 H3 fun y H4 => ∃ acc, H4 Dd = some (.lst acc) ∧ acc.length < sizeLine ∧ Nx (upd H4 Dd (.lst (acc ++ [y])))) else Nx H3) := by
    have hn := hid_not R1 hD
    -- the run's end
    cases hr : cLoop tt t me (own.map (·.2)) src w1.S ρ ds [] w1.S with
    | stuck => rw [hr] at q1; exact q1.elim
    | exc x S' => exact absurd hr (cLoop_noexc _ _ _ _ _)
    | ok ysF SF =>
      rw [hr] at q1
      have kh : Keep w1 (w1.hide Dd) := keep_hide R1 hD
      have Rh : HRep K mg (w1.hide Dd) := hrep_hide R1 hD
      refine ⟨fun i n H => ∃ acc w xs, w.H = H ∧ HRep K mg w ∧ Keep w1 w ∧ Dd ∈ w.hd ∧ w.H Dd = some (.lst xs) ∧ RepVs K mg w acc xs ∧ acc.length ≤ i ∧ n = ds.length - i ∧ i ≤ ds.length ∧ cLoop tt t me (own.map (·.2)) src w1.S ρ (ds.drop i) acc w.S = .ok ysF SF,
        ⟨ds.length, [], w1.hide Dd, [], rfl, Rh, kh, List.mem_cons_self, upd_same, .nil, Nat.le_refl _, rfl, Nat.zero_le _, hr⟩, fun i n H hw => ?_⟩
      obtain ⟨acc, w, xs, ee, R, k, hmem, hHD, racc, hacc, hn', hi', hc⟩ := hw
      subst ee
      by_cases hlt : i < ds.length
      · rw [List.drop_eq_getElem_cons hlt] at hc
        unfold cLoop at hc
        by_cases hsm : SameAt src w1.S w.S
        · rw [if_pos hsm] at hc
          obtain ⟨go, yl⟩ := (wk i w k.toKeepU R hsm).1 _ (List.getElem?_eq_getElem hlt)
          refine .inr ⟨go, fun H' => ∃ acc w xs, w.H = H' ∧ HRep K mg w ∧ Keep w1 w ∧ Dd ∈ w.hd ∧ w.H Dd = some (.lst xs) ∧ RepVs K mg w acc xs ∧ acc.length ≤ i + 1 ∧ cLoop tt t me (own.map (·.2)) src w1.S ρ (ds.drop (i + 1)) acc w.S = .ok ysF SF, fun H' hN => ?_, fun x H' hy => ?_⟩
          · obtain ⟨acc', w', xs', e', R', k', m', hh', r', l', c'⟩ := hN
            exact ⟨ds.length - (i + 1), by omega, acc', w', xs', e', R', k', m', hh', r', l', rfl, hlt, c'⟩
          · obtain ⟨w2, e2, eS, k2, R2, rx⟩ := yl x H' hy
            subst e2
            cases hput : putT tt ds[i] (wipeD ρ (own.map (·.2))) with
            | none => rw [hput] at hc; cases hc
            | some ρ1 =>
              rw [hput] at hc
              dsimp only at hc
              have kk2 := k.trans k2
              have E2 : ERep K mg w2 (wipeD ρ (own.map (·.2))) (wipe σ (own.map (·.2))) := (erep_wipe E1 _).keep R1 kk2
              refine tgOf_ok tt rx E2 hput fun σ2 E3 hwp => ⟨(hwp _ hsl).trans ?_, ?_⟩
              · -- wiped twice is wiped once
                have ww : ∀ (us vs : List Nat), (∀ i ∈ us, i ∈ vs) → wipe (wipe σ us) vs = wipe σ vs := by
                  intro us
                  induction us with
                  | nil => intro vs _; rfl
                  | cons u us ih =>
                    intro vs hv
                    show wipe ((wipe σ us).set u none) vs = _
                    rw [wipe_set (hv u List.mem_cons_self)]
                    exact ih vs fun i hi => hv i (List.mem_cons_of_mem _ hi)
                exact ww _ _ fun _ h => h
              · rw [← eS] at hc
                refine ⟨ρ1, w2, rfl, R2, E3, ?_⟩
                have hm2 : Dd ∈ w2.hd := by
                  obtain ⟨t, e, _⟩ := k2.hdd
                  rw [e]
                  exact List.mem_append_right _ hmem
                have hH2 : w2.H Dd = some (.lst xs) := (k2.hk Dd hmem).trans hHD
                have racc2 := racc.keep R k2
                cases ht : t ρ1 w2.S with
                | stuck => rw [ht] at hc; cases hc
                | exc _ _ => rw [ht] at hc; cases hc
                | ok b S3 =>
                  rw [ht] at hc
                  intro w3 k3 R3 e3
                  subst e3
                  have E4 := E3.keep R2 k3
                  have hm3 : Dd ∈ w3.hd := by
                    obtain ⟨t, e, _⟩ := k3.hdd
                    rw [e]
                    exact List.mem_append_right _ hm2
                  have hH3 : w3.H Dd = some (.lst xs) := (k3.hk Dd hm2).trans hH2
                  have racc3 := racc2.keep R2 k3
                  have kk3 := kk2.trans k3
                  cases b with
                  | false =>
                    rw [if_neg Bool.false_ne_true]
                    exact ⟨acc, w3, xs, rfl, R3, kk3, hm3, hH3, racc3, Nat.le_succ_of_le hacc, hc⟩
                  | true =>
                    rw [if_pos rfl]
                    dsimp only at hc
                    refine ⟨ρ1, w3, rfl, R3, E4, ?_⟩
                    cases hme : me ρ1 w3.S with
                    | stuck => rw [hme] at hc; cases hc
                    | exc _ _ => rw [hme] at hc; cases hc
                    | ok y S4 =>
                      rw [hme] at hc
                      intro w4 k4 R4 e4 v rv
                      subst e4
                      have hm4 : Dd ∈ w4.hd := by
                        obtain ⟨t, e, _⟩ := k4.hdd
                        rw [e]
                        exact List.mem_append_right _ hm3
                      have hH4 : w4.H Dd = some (.lst xs) := (k4.hk Dd hm3).trans hH3
                      have racc4 := racc3.keep R3 k4
                      have kk4 := kk3.trans k4
                      refine ⟨xs, hH4, ?_, acc ++ [y], w4.grow Dd (xs ++ [v]), xs ++ [v], rfl, hrep_grow R4 hm4, keep_grow kk4 hD hn, hm4, upd_same, ?_, ?_, hc⟩
                      · rw [← racc4.length]
                        omega
                      · have r5 := racc4.append (.one rv)
                        exact r5.tr R4 (tr_grow hm4) (rfs_mono (fun _ _ => trivial) _ r5.lt)
                      · rw [List.length_append]
                        show acc.length + 1 ≤ i + 1
                        omega
        · rw [if_neg hsm] at hc
          cases hc
      · have e0 : ds.drop i = [] := List.drop_eq_nil_of_le (Nat.le_of_not_lt hlt)
        rw [e0] at hc
        unfold cLoop at hc
        by_cases hsm : SameAt src w1.S w.S
        · rw [if_pos hsm] at hc
          cases hc
          exact .inl ⟨(wk i w k.toKeepU R hsm).2 (Nat.le_of_not_lt hlt), show_post R1 k R hD hmem hHD (by rw [← racc.length]; omega) racc q1⟩
        · rw [if_neg hsm] at hc
          cases hc
theorem tLc_of {σ : St} {H : Hp} {Q : VK} {live : Bool} {K : PySem.W.Frag} {mg : Str → Option Value} (hsl : ∀ i ∈ tt.slots, i ∈ own.map (·.2))
    (h : tM K mg W (eComp live mi tt t me (own.map (·.2))) σ H Q) : tLc (tI K mg W mi) (tgOf K tt) (tT K mg W0 t) (tM K mg W0 me) (own.map (·.2)) σ H Q := by
  obtain ⟨ρ, w, ee, R, E, q⟩ := h
  subst ee
  have q' : PV K mg W σ w Q ((mi ρ w.S).bind fun p S1 => (cLoop tt t me (own.map (·.2)) p.2 S1 ρ p.1 [] S1).bind fun ys S2 => newL live ys S2) := q
  refine ⟨ρ, w, rfl, R, E, ?_⟩
  cases hmi : mi ρ w.S with
  | stuck => rw [hmi] at q'; exact q'.elim
  | exc x S' => rw [hmi] at q'; exact q'
  | ok p S1 =>
    rw [hmi] at q'
    obtain ⟨ds, src⟩ := p
    intro w1 k1 R1 e1 hz J wk Dd hD
    subst e1
    have q1 := Post.rebase k1 q'
    dsimp only [Res.bind] at q1
    have E1 := E.keep R k1
    exact lc_rest hsl R1 E1 hz q1 wk hD
end
end L3
end

section
set_option Elab.async false
set_option linter.all false
set_option maxRecDepth 100000
set_option maxHeartbeats 4000000
namespace L3
open PySem PySem.Spec L2
section
variable {X : Cx} {W : WX} {elt tg iter : Expr} {ifs : List Expr} {scope : Scope} {own : List (Str × Nat)} {pos : Pos} {mi : IM} {t : TM} {me : EM} {tt : Tgt}
theorem pd_comp (live : Bool) (hc : X.calm = true) (hN : X.N.Nodup) (hi : PID X W tg iter mi) (ok : BlkOk X.N X.env.scope scope own)
    (hg : ∀ (s : Shared) (H : Hp) (C : Addr) (cl : List (Str × Addr)) (fp : List Addr), PG (X.blk s H scope (compEnvC scope cl C X.env) fp) tg (tgOf X.K tt))
    (ht : ∀ (s : Shared) (H : Hp) (C : Addr) (cl : List (Str × Addr)) (fp : List Addr), PTsD (X.blk s H scope (compEnvC scope cl C X.env) fp) W0 ifs t)
    (he : ∀ (s : Shared) (H : Hp) (C : Addr) (cl : List (Str × Addr)) (fp : List Addr), PD (X.blk s H scope (compEnvC scope cl C X.env) fp) W0 elt me)
    (hsl : ∀ i ∈ tt.slots, i ∈ own.map (·.2) := by decide) (hs : ∀ x, foldedSetIterable iter X.env x = pure x := by intro _; rfl) :
    PD X W (.ListComp elt [⟨tg, iter, ifs, 0⟩] scope pos) (eComp live mi tt t me (own.map (·.2))) :=
  PE.conseq (pe_lc hc hN hi ok hg ht he hs) fun σ H Q h => tLc_of hsl h
/-- name = [..] on one line -/
theorem sd_setComp (live : Bool) {i : Nat} {y : Str} {py spos : Pos} (hc : X.calm = true) (hN : X.N.Nodup) (hy : X.N[i]? = some y) (hyl : X.env.scope.names.lookup y = some .local)
    (hsw : swapsWith (.ListComp elt [⟨tg, iter, ifs, 0⟩] scope pos) (some (.Name y py)) spos.line X.env = pure true) (hi : PID X W tg iter mi) (ok : BlkOk X.N X.env.scope scope own)
    (hg : ∀ (s : Shared) (H : Hp) (C : Addr) (cl : List (Str × Addr)) (fp : List Addr), PG (X.blk s H scope (compEnvC scope cl C X.env) fp) tg (tgOf X.K tt))
    (ht : ∀ (s : Shared) (H : Hp) (C : Addr) (cl : List (Str × Addr)) (fp : List Addr), PTsD (X.blk s H scope (compEnvC scope cl C X.env) fp) W0 ifs t)
    (he : ∀ (s : Shared) (H : Hp) (C : Addr) (cl : List (Str × Addr)) (fp : List Addr), PD (X.blk s H scope (compEnvC scope cl C X.env) fp) W0 elt me)
    (hsl : ∀ i ∈ tt.slots, i ∈ own.map (·.2) := by decide) (hs : ∀ x, foldedSetIterable iter X.env x = pure x := by intro _; rfl) :
    PSD X W (.Assign [.Name y py] (.ListComp elt [⟨tg, iter, ifs, 0⟩] scope pos) spos) (sSet i (eComp live mi tt t me (own.map (·.2)))) :=
  PS.conseq (ps_setLc hc hN hy hyl hsw hi ok hg ht he hs) fun D' σ H ⟨ρ, w, ee, R, E, q⟩ => by
    subst ee
    exact tLc_of hsl (tM.ofS R E q fun d w1 v k1 R1 E1 r1 h1 => h1 _ w1 (Keep.refl w1) R1 rfl (erep_set E1 r1 i))
end
/-! ### two clauses -/
section
open Classical
/-- the inner loop, its list's length looked at -/
noncomputable def cLoopB (tg : Tgt) (t : TM) (me : EM) (vs : List Nat) (src : List Nat) (S0 : Store) (ρ : DEnv) : List D → List D → Store → Res (List D)
  | [], acc, S => if SameAt src S0 S then .ok acc S else .stuck
  | d :: ds, acc, S => if SameAt src S0 S then (match putT tg d (wipeD ρ vs) with
      | none => .stuck
      | some ρ1 => match t ρ1 S with
        | .ok true S1 => match me ρ1 S1 with
          | .ok y S2 => if acc.length < sizeLine then cLoopB tg t me vs src S0 ρ ds (acc ++ [y]) S2 else .stuck
          | _ => .stuck
        | .ok false S1 => cLoopB tg t me vs src S0 ρ ds acc S1
        | _ => .stuck) else .stuck
noncomputable def cLoop2 (tg : Tgt) (t : TM) (mi1 : IM) (tg1 : Tgt) (t1 : TM) (me : EM) (vs vs1 : List Nat) (src : List Nat) (S0 : Store) (ρ : DEnv) : List D → List D → Store → Res (List D)
  | [], acc, S => if SameAt src S0 S then .ok acc S else .stuck
  | d :: ds, acc, S => if SameAt src S0 S then (match putT tg d (wipeD ρ vs) with
      | none => .stuck
      | some ρ1 => match t ρ1 S with
        | .ok true S1 => match mi1 ρ1 S1 with
          | .ok p S2 => match cLoopB tg1 t1 me vs1 p.2 S2 ρ1 p.1 acc S2 with
            | .ok acc' S3 => cLoop2 tg t mi1 tg1 t1 me vs vs1 src S0 ρ ds acc' S3
            | _ => .stuck
          | _ => .stuck
        | .ok false S1 => cLoop2 tg t mi1 tg1 t1 me vs vs1 src S0 ρ ds acc S1
        | _ => .stuck) else .stuck
noncomputable def eComp2 (live : Bool) (mi : IM) (tg : Tgt) (t : TM) (mi1 : IM) (tg1 : Tgt) (t1 : TM) (me : EM) (vs vs1 : List Nat) : EM := fun ρ S =>
  (mi ρ S).bind fun p S1 => (cLoop2 tg t mi1 tg1 t1 me vs vs1 p.2 S1 ρ p.1 [] S1).bind fun ys S2 => newL live ys S2
end
theorem cLoopB_noexc {tg : Tgt} {t : TM} {me : EM} {vs src : List Nat} {S0 : Store} {ρ : DEnv} : ∀ (ds acc : List D) (S : Store) (x : Exc) (S' : Store), cLoopB tg t me vs src S0 ρ ds acc S ≠ .exc x S'
  | [], acc, S, x, S' => by
    unfold cLoopB
    split <;> exact fun h => nomatch h
  | d :: ds, acc, S, x, S' => by
    unfold cLoopB
    split
    · split
      · exact fun h => nomatch h
      · split
        · split
          · split
            · exact cLoopB_noexc ds _ _ x S'
            · exact fun h => nomatch h
          · exact fun h => nomatch h
        · exact cLoopB_noexc ds _ _ x S'
        · exact fun h => nomatch h
    · exact fun h => nomatch h
theorem cLoop2_noexc {tg tg1 : Tgt} {t t1 : TM} {mi1 : IM} {me : EM} {vs vs1 src : List Nat} {S0 : Store} {ρ : DEnv} : ∀ (ds acc : List D) (S : Store) (x : Exc) (S' : Store), cLoop2 tg t mi1 tg1 t1 me vs vs1 src S0 ρ ds acc S ≠ .exc x S'
  | [], acc, S, x, S' => by
    unfold cLoop2
    split <;> exact fun h => nomatch h
  | d :: ds, acc, S, x, S' => by
    unfold cLoop2
    split
    · split
      · exact fun h => nomatch h
      · split
        · split
          · split
            · exact cLoop2_noexc ds _ _ x S'
            · exact fun h => nomatch h
          · exact fun h => nomatch h
        · exact cLoop2_noexc ds _ _ x S'
        · exact fun h => nomatch h
    · exact fun h => nomatch h
theorem wipe_wipe {σ : St} : ∀ (us vs : List Nat), (∀ i ∈ us, i ∈ vs) → wipe (wipe σ us) vs = wipe σ vs
  | [], vs, _ => rfl
  | u :: us, vs, hv => by
    show wipe ((wipe σ us).set u none) vs = _
    rw [wipe_set (hv u List.mem_cons_self)]
    exact wipe_wipe us vs fun i hi => hv i (List.mem_cons_of_mem _ hi)
theorem cLoopB_len {tg : Tgt} {t : TM} {me : EM} {vs src : List Nat} {S0 : Store} {ρ : DEnv} : ∀ (ds acc : List D) (S : Store) (ys : List D) (S' : Store), acc.length ≤ sizeLine → cLoopB tg t me vs src S0 ρ ds acc S = .ok ys S' → ys.length ≤ sizeLine
  | [], acc, S, ys, S', hl, h => by
    unfold cLoopB at h
    split at h
    · cases h; exact hl
    · cases h
  | d :: ds, acc, S, ys, S', hl, h => by
    unfold cLoopB at h
    split at h
    · split at h
      · cases h
      · split at h
        · split at h
          · split at h
            · rename_i hlt
              exact cLoopB_len ds _ _ ys S' (by rw [List.length_append]; exact hlt) h
            · cases h
          · cases h
        · exact cLoopB_len ds _ _ ys S' hl h
        · cases h
    · cases h
section
variable {K : PySem.W.Frag} {mg : Str → Option Value}
/-- what stands within the loops: the list in the making at p -/
structure Mk1 (K : PySem.W.Frag) (mg : Str → Option Value) (w1 : Wd) (p : Addr) (acc : List D) (w : Wd) (xs : List V) : Prop where
  R : HRep K mg w
  k : Keep w1 w
  mem : p ∈ w.hd
  at_ : w.H p = some (.lst xs)
  rep : RepVs K mg w acc xs
  len : acc.length ≤ sizeLine
theorem Mk1.keep {w1 w w' : Wd} {p : Addr} {acc : List D} {xs : List V} (m : Mk1 K mg w1 p acc w xs) (k : Keep w w') (R : HRep K mg w') : Mk1 K mg w1 p acc w' xs :=
  ⟨R, m.k.trans k, by
    obtain ⟨t, e, _⟩ := k.hdd
    rw [e]
    exact List.mem_append_right _ m.mem, (k.hk p m.mem).trans m.at_, m.rep.keep m.R k, m.len⟩
theorem Mk1.grow {w1 w : Wd} {p : Addr} {acc : List D} {xs : List V} {y : D} {v : V} (R1 : HRep K mg w1) (m : Mk1 K mg w1 p acc w xs) (h1 : w1.H p = none) (r : RepV K mg w y v) (hl : acc.length < sizeLine) : Mk1 K mg w1 p (acc ++ [y]) (w.grow p (xs ++ [v])) (xs ++ [v]) := by
  have r5 := m.rep.append (.one r)
  exact ⟨hrep_grow m.R m.mem, keep_grow m.k h1 (hid_not R1 h1), m.mem, upd_same, r5.tr m.R (tr_grow m.mem) (rfs_mono (fun _ _ => trivial) _ r5.lt), by
    rw [List.length_append]
    exact hl⟩
variable {W : WX} {mi mi1 : IM} {tt tt1 : Tgt} {t t1 : TM} {me : EM} {own : List (Str × Nat)} {vs1 : List Nat}
theorem tLc2_of {σ : St} {H : Hp} {Q : VK} {live : Bool} (hsl : ∀ i ∈ tt.slots, i ∈ own.map (·.2)) (hsl1 : ∀ i ∈ tt1.slots, i ∈ vs1) (h : tM K mg W (eComp2 live mi tt t mi1 tt1 t1 me (own.map (·.2)) vs1) σ H Q) :
    tLc2 (tI K mg W mi) (tgOf K tt) (tT K mg W0 t) (tI K mg W0 mi1) (tgOf K tt1) (tT K mg W0 t1) (tM K mg W0 me) (own.map (·.2)) vs1 σ H Q := by
  obtain ⟨ρ, w, ee, R, E, q⟩ := h
  subst ee
  have q' : PV K mg W σ w Q ((mi ρ w.S).bind fun p S1 => (cLoop2 tt t mi1 tt1 t1 me (own.map (·.2)) vs1 p.2 S1 ρ p.1 [] S1).bind fun ys S2 => newL live ys S2) := q
  refine ⟨ρ, w, rfl, R, E, ?_⟩
  cases hmi : mi ρ w.S with
  | stuck => rw [hmi] at q'; exact q'.elim
  | exc x S' => rw [hmi] at q'; exact q'
  | ok p S1 =>
    rw [hmi] at q'
    obtain ⟨ds, src⟩ := p
    intro w1 k1 R1 e1 hz J wk Dd hD
    subst e1
    have q1 := Post.rebase k1 q'
    dsimp only [Res.bind] at q1
    have E1 := E.keep R k1
    cases hr : cLoop2 tt t mi1 tt1 t1 me (own.map (·.2)) vs1 src w1.S ρ ds [] w1.S with
    | stuck => rw [hr] at q1; exact q1.elim
    | exc x S' => exact absurd hr (cLoop2_noexc _ _ _ _ _)
    | ok ysF SF =>
      rw [hr] at q1
      dsimp only at q1
      refine ⟨fun i n H => ∃ acc w xs, w.H = H ∧ Mk1 K mg w1 Dd acc w xs ∧ n = ds.length - i ∧ i ≤ ds.length ∧ cLoop2 tt t mi1 tt1 t1 me (own.map (·.2)) vs1 src w1.S ρ (ds.drop i) acc w.S = .ok ysF SF,
        ⟨ds.length, [], w1.hide Dd, [], rfl, ⟨hrep_hide R1 hD, keep_hide R1 hD, List.mem_cons_self, upd_same, .nil, Nat.zero_le _⟩, rfl, Nat.zero_le _, hr⟩, fun i n H hw => ?_⟩
      obtain ⟨acc, w, xs, ee, M, hn', hi', hc⟩ := hw
      subst ee
      by_cases hlt : i < ds.length
      · rw [List.drop_eq_getElem_cons hlt] at hc
        unfold cLoop2 at hc
        by_cases hsm : SameAt src w1.S w.S
        · rw [if_pos hsm] at hc
          obtain ⟨go, yl⟩ := (wk i w M.k.toKeepU M.R hsm).1 _ (List.getElem?_eq_getElem hlt)
          refine .inr ⟨go, fun H' => ∃ acc w xs, w.H = H' ∧ Mk1 K mg w1 Dd acc w xs ∧ cLoop2 tt t mi1 tt1 t1 me (own.map (·.2)) vs1 src w1.S ρ (ds.drop (i + 1)) acc w.S = .ok ysF SF, fun H' hN => ?_, fun x H' hy => ?_⟩
          · obtain ⟨acc', w', xs', e', M', c'⟩ := hN
            exact ⟨ds.length - (i + 1), by omega, acc', w', xs', e', M', rfl, hlt, c'⟩
          · obtain ⟨w2, e2, eS, k2, R2, rx⟩ := yl x H' hy
            subst e2
            cases hput : putT tt ds[i] (wipeD ρ (own.map (·.2))) with
            | none => rw [hput] at hc; cases hc
            | some ρ1 =>
              rw [hput] at hc
              dsimp only at hc
              have M2 := M.keep k2 R2
              have E2 : ERep K mg w2 (wipeD ρ (own.map (·.2))) (wipe σ (own.map (·.2))) := (erep_wipe E1 _).keep R1 M2.k
              refine tgOf_ok tt rx E2 hput fun σ2 E3 hwp => ⟨(hwp _ hsl).trans (wipe_wipe _ _ fun _ h => h), ?_⟩
              rw [← eS] at hc
              refine ⟨ρ1, w2, rfl, R2, E3, ?_⟩
              cases ht : t ρ1 w2.S with
              | stuck => rw [ht] at hc; cases hc
              | exc _ _ => rw [ht] at hc; cases hc
              | ok b S3 =>
                rw [ht] at hc
                intro w3 k3 R3 e3
                subst e3
                have E4 := E3.keep R2 k3
                have M3 := M2.keep k3 R3
                cases b with
                | false =>
                  rw [if_neg Bool.false_ne_true]
                  exact ⟨acc, w3, xs, rfl, M3, hc⟩
                | true =>
                  rw [if_pos rfl]
                  dsimp only at hc
                  refine ⟨ρ1, w3, rfl, R3, E4, ?_⟩
                  cases hmi1 : mi1 ρ1 w3.S with
                  | stuck => rw [hmi1] at hc; cases hc
                  | exc _ _ => rw [hmi1] at hc; cases hc
                  | ok p S4 =>
                    rw [hmi1] at hc
                    dsimp only at hc
                    obtain ⟨ds1, src1⟩ := p
                    intro w4 k4 R4 e4 hz1 J1 wk1
                    subst e4
                    have M4 := M3.keep k4 R4
                    have E5 := E4.keep R3 k4
                    cases hin : cLoopB tt1 t1 me vs1 src1 w4.S ρ1 ds1 acc w4.S with
                    | stuck => rw [hin] at hc; cases hc
                    | exc _ _ => rw [hin] at hc; cases hc
                    | ok accF S5 =>
                      rw [hin] at hc
                      dsimp only at hc
                      refine ⟨fun j n H => ∃ ac w xs, w.H = H ∧ Mk1 K mg w1 Dd ac w xs ∧ KeepU w4 w ∧ n = ds1.length - j ∧ j ≤ ds1.length ∧ cLoopB tt1 t1 me vs1 src1 w4.S ρ1 (ds1.drop j) ac w.S = .ok accF S5,
                        ⟨ds1.length, acc, w4, xs, rfl, M4, KeepU.refl w4, rfl, Nat.zero_le _, hin⟩, fun j n H hw => ?_⟩
                      obtain ⟨ac, v, ys, ev, N, ku, hn1, hj, hcc⟩ := hw
                      subst ev
                      by_cases hlt1 : j < ds1.length
                      · rw [List.drop_eq_getElem_cons hlt1] at hcc
                        unfold cLoopB at hcc
                        by_cases hsm1 : SameAt src1 w4.S v.S
                        · rw [if_pos hsm1] at hcc
                          obtain ⟨go1, yl1⟩ := (wk1 j v ku N.R hsm1).1 _ (List.getElem?_eq_getElem hlt1)
                          refine .inr ⟨go1, fun H' => ∃ ac w xs, w.H = H' ∧ Mk1 K mg w1 Dd ac w xs ∧ KeepU w4 w ∧ cLoopB tt1 t1 me vs1 src1 w4.S ρ1 (ds1.drop (j + 1)) ac w.S = .ok accF S5, fun H' hN => ?_, fun x1 H' hy1 => ?_⟩
                          · obtain ⟨ac', w', xs', e', M', k', c'⟩ := hN
                            exact ⟨ds1.length - (j + 1), by omega, ac', w', xs', e', M', k', rfl, hlt1, c'⟩
                          · obtain ⟨v2, ev2, evS, kv2, Rv2, rx1⟩ := yl1 x1 H' hy1
                            subst ev2
                            cases hput1 : putT tt1 ds1[j] (wipeD ρ1 vs1) with
                            | none => rw [hput1] at hcc; cases hcc
                            | some ρ2 =>
                              rw [hput1] at hcc
                              dsimp only at hcc
                              have N2 := N.keep kv2 Rv2
                              have ku2 := ku.trans kv2.toKeepU
                              have F2 : ERep K mg v2 (wipeD ρ1 vs1) (wipe σ2 vs1) := by
                                have f := erep_wipe E5 vs1
                                exact ⟨f.1, fun i d h => by
                                  obtain ⟨z, h1, h2⟩ := f.2 i d h
                                  exact ⟨z, h1, h2.keepU R4 ku2⟩⟩
                              refine tgOf_ok tt1 rx1 F2 hput1 fun σ3 F3 hwp1 => ⟨(hwp1 _ hsl1).trans (wipe_wipe _ _ fun _ h => h), ?_⟩
                              rw [← evS] at hcc
                              refine ⟨ρ2, v2, rfl, Rv2, F3, ?_⟩
                              cases ht1 : t1 ρ2 v2.S with
                              | stuck => rw [ht1] at hcc; cases hcc
                              | exc _ _ => rw [ht1] at hcc; cases hcc
                              | ok b1 S6 =>
                                rw [ht1] at hcc
                                intro v3 kv3 Rv3 ev3
                                subst ev3
                                have F4 := F3.keep Rv2 kv3
                                have N3 := N2.keep kv3 Rv3
                                have ku3 := ku2.trans kv3.toKeepU
                                cases b1 with
                                | false =>
                                  rw [if_neg Bool.false_ne_true]
                                  exact ⟨ac, v3, ys, rfl, N3, ku3, hcc⟩
                                | true =>
                                  rw [if_pos rfl]
                                  dsimp only at hcc
                                  refine ⟨ρ2, v3, rfl, Rv3, F4, ?_⟩
                                  cases hme : me ρ2 v3.S with
                                  | stuck => rw [hme] at hcc; cases hcc
                                  | exc _ _ => rw [hme] at hcc; cases hcc
                                  | ok y S7 =>
                                    rw [hme] at hcc
                                    dsimp only at hcc
                                    intro v4 kv4 Rv4 ev4 z rz
                                    subst ev4
                                    have N4 := N3.keep kv4 Rv4
                                    have ku4 := ku3.trans kv4.toKeepU
                                    by_cases hlen : ac.length < sizeLine
                                    · rw [if_pos hlen] at hcc
                                      exact ⟨ys, N4.at_, by rw [← N4.rep.length]; exact hlen, ac ++ [y], v4.grow Dd (ys ++ [z]), ys ++ [z], rfl, N4.grow R1 hD rz hlen, ku4.trans (keepU_grow Rv4 N4.mem), hcc⟩
                                    · rw [if_neg hlen] at hcc
                                      cases hcc
                        · rw [if_neg hsm1] at hcc
                          cases hcc
                      · have e0 : ds1.drop j = [] := List.drop_eq_nil_of_le (Nat.le_of_not_lt hlt1)
                        rw [e0] at hcc
                        unfold cLoopB at hcc
                        by_cases hsm1 : SameAt src1 w4.S v.S
                        · rw [if_pos hsm1] at hcc
                          cases hcc
                          exact .inl ⟨(wk1 j v ku N.R hsm1).2 (Nat.le_of_not_lt hlt1), _, v, ys, rfl, N, hc⟩
                        · rw [if_neg hsm1] at hcc
                          cases hcc
        · rw [if_neg hsm] at hc
          cases hc
      · have e0 : ds.drop i = [] := List.drop_eq_nil_of_le (Nat.le_of_not_lt hlt)
        rw [e0] at hc
        unfold cLoop2 at hc
        by_cases hsm : SameAt src w1.S w.S
        · rw [if_pos hsm] at hc
          cases hc
          exact .inl ⟨(wk i w M.k.toKeepU M.R hsm).2 (Nat.le_of_not_lt hlt), show_post R1 M.k M.R hD M.mem M.at_ (by rw [← M.rep.length]; exact M.len) M.rep q1⟩
        · rw [if_neg hsm] at hc
          cases hc
end
section
variable {X : Cx} {W : WX} {elt tg iter tg1 iter1 : Expr} {ifs ifs1 : List Expr} {scope : Scope} {own : List (Str × Nat)} {vs1 : List Nat} {pos : Pos} {mi mi1 : IM} {t t1 : TM} {me : EM} {tt tt1 : Tgt}
theorem pd_comp2 (live : Bool) (hc : X.calm = true) (hN : X.N.Nodup) (hi : PID X W tg iter mi) (ok : BlkOk X.N X.env.scope scope own)
    (hg : ∀ (s : Shared) (H : Hp) (C : Addr) (cl : List (Str × Addr)) (fp : List Addr), PG (X.blk s H scope (compEnvC scope cl C X.env) fp) tg (tgOf X.K tt))
    (ht : ∀ (s : Shared) (H : Hp) (C : Addr) (cl : List (Str × Addr)) (fp : List Addr), PTsD (X.blk s H scope (compEnvC scope cl C X.env) fp) W0 ifs t)
    (hi1 : ∀ (s : Shared) (H : Hp) (C : Addr) (cl : List (Str × Addr)) (fp : List Addr), PID (X.blk s H scope (compEnvC scope cl C X.env) fp) W0 tg1 iter1 mi1)
    (hg1 : ∀ (s : Shared) (H : Hp) (C : Addr) (cl : List (Str × Addr)) (fp : List Addr), PG (X.blk s H scope (compEnvC scope cl C X.env) fp) tg1 (tgOf X.K tt1))
    (ht1 : ∀ (s : Shared) (H : Hp) (C : Addr) (cl : List (Str × Addr)) (fp : List Addr), PTsD (X.blk s H scope (compEnvC scope cl C X.env) fp) W0 ifs1 t1)
    (he : ∀ (s : Shared) (H : Hp) (C : Addr) (cl : List (Str × Addr)) (fp : List Addr), PD (X.blk s H scope (compEnvC scope cl C X.env) fp) W0 elt me)
    (hv : ∀ i ∈ vs1, i ∈ own.map (·.2) := by decide) (hsl : ∀ i ∈ tt.slots, i ∈ own.map (·.2) := by decide) (hsl1 : ∀ i ∈ tt1.slots, i ∈ vs1 := by decide)
    (hs : ∀ x, foldedSetIterable iter X.env x = pure x := by intro _; rfl) (hs1 : ∀ env x, foldedSetIterable iter1 env x = pure x := by intro _ _; rfl) :
    PD X W (.ListComp elt [⟨tg, iter, ifs, 0⟩, ⟨tg1, iter1, ifs1, 0⟩] scope pos) (eComp2 live mi tt t mi1 tt1 t1 me (own.map (·.2)) vs1) :=
  PE.conseq (pe_lc2 hc hN hi ok hv hg ht hi1 hg1 ht1 he hs hs1) fun σ H Q h => tLc2_of hsl hsl1 h
end
end L3
end

section
set_option Elab.async false
set_option linter.all false
set_option maxRecDepth 100000
set_option maxHeartbeats 4000000
namespace L3
open PySem PySem.Spec L2

/-! ### a def's end: its own cells are let go -/
def freeze (n : Nat) (S' : Store) (d : D) : D := match d with
  | .ref l => if n ≤ l then (match S'[l]? with
    | some (.lst ds) => .lst ds
    | some (.ins c fs) => .obj c fs
    | _ => .ref l) else .ref l
  | d => d
/-- the cells below n are as they were, or name cells below n alone -/
def Cut (S S' : Store) : Prop := ∀ (l : Nat) (c : Cell), l < S.length → S'[l]? = some c → S[l]? = some c ∨ c.rf (· < S.length)
section
open Classical
noncomputable def fin (live : Bool) (S : Store) (d : D) (S' : Store) : Res D := if live = true then .ok d S' else
  if Cut S S' ∧ (freeze S.length S' d).rf (· < S.length) then .ok (freeze S.length S' d) (S'.take S.length) else .stuck
noncomputable def finX (S : Store) (x : Exc) (S' : Store) : Res D := if Cut S S' ∧ D.rff (· < S.length) x.fs then .exc x (S'.take S.length) else .stuck
noncomputable def mFn (np nl : Nat) (live : Bool) (b : SM) : List D → Store → Res D := fun ds S => if ds.length = np then (match b (ds.map some ++ List.replicate nl none) S with
  | .next _ S' => fin live S .non S'
  | .ret d S' => fin live S d S'
  | .exc x _ S' => finX S x S'
  | _ => .stuck) else .stuck
end
section
variable {K : PySem.W.Frag} {mg : Str → Option Value} {w w' : Wd}
def Wd.cut (w w' : Wd) : Wd := ⟨w.ι, w'.S.take w.S.length, w'.H, w'.hd⟩
theorem cut_at (k : Keep w w') {l : Nat} {a : Addr} (h : w'.ι[l]? = some a) (hl : l < w.ι.length) : w.ι[l]? = some a := by
  obtain ⟨t, e⟩ := k.ext
  rw [e, List.getElem?_append_left hl] at h
  exact h
theorem keep_cut (R : HRep K mg w) (k : Keep w w') : Keep w (w.cut w') := by
  refine ⟨⟨k.same, ⟨[], by simp [Wd.cut]⟩, fun l b h e => ?_, fun l h => ?_, k.nn, k.hdd⟩, k.hk⟩
  · have := (List.getElem?_eq_some_iff.mp e).1
    exact absurd (Nat.lt_of_lt_of_le this h) (Nat.lt_irrefl _)
  · show (w'.S.take w.S.length)[l]? = some Cell.dead
    rw [List.getElem?_take_of_lt (List.getElem?_eq_some_iff.mp h).1]
    exact k.dd l h
theorem tr_cut (R : HRep K mg w) (k : Keep w w') : Tr (· < w.S.length) w' (w.cut w') := by
  refine ⟨fun b o h _ n => ⟨h, n.1, fun l e => ?_⟩, fun l a hl h => cut_at k h (by rw [R.len]; exact hl)⟩
  have hl := (List.getElem?_eq_some_iff.mp e).1
  show (w'.S.take w.S.length)[l]? = some Cell.dead
  rw [List.getElem?_take_of_lt (by rw [← R.len]; exact hl)]
  exact n.2 l (k.at e)
theorem hrep_cut (R : HRep K mg w) (k : Keep w w') (R' : HRep K mg w') (hc : Cut w.S w'.S) : HRep K mg (w.cut w') := by
  have hlen : w.S.length ≤ w'.S.length := by
    obtain ⟨t, e⟩ := k.ext
    rw [← R.len, ← R'.len, e, List.length_append]
    omega
  refine ⟨?_, R.inj, fun l a h => R'.occ l a (k.at h), fun l a c h hs => ?_, R'.hid, fun l a h => R'.sep l a (k.at h)⟩
  · show w.ι.length = (w'.S.take w.S.length).length
    rw [List.length_take, R.len]
    omega
  · have hl : l < w.S.length := by rw [← R.len]; exact (List.getElem?_eq_some_iff.mp h).1
    have hs' : (w'.S.take w.S.length)[l]? = some c := hs
    rw [List.getElem?_take_of_lt hl] at hs'
    have q := R'.cell l a c (k.at h) hs'
    have rf : c.rf (· < w.S.length) := by
      rcases hc l c hl hs' with e | e
      · have q0 := R.cell l a c h e
        rw [← R.len]
        cases c with
        | dead => trivial
        | lst ds => obtain ⟨xs, _, _, r⟩ := q0; exact r.lt
        | dic ds => obtain ⟨xs, _, r⟩ := q0; exact r.lt
        | ins c fs => obtain ⟨_, _, xs, _, _, r⟩ := q0; exact r.lt
      · exact e
    cases c with
    | dead => trivial
    | lst ds => obtain ⟨xs, e, z, r⟩ := q; exact ⟨xs, e, z, r.tr R' (tr_cut R k) rf⟩
    | dic ds => obtain ⟨xs, e, r⟩ := q; exact ⟨xs, e, r.tr R' (tr_cut R k) rf⟩
    | ins c fs => obtain ⟨C, dx, gs, hm, e, r⟩ := q; exact ⟨C, dx, gs, hm, e, r.tr R' (tr_cut R k) rf⟩
theorem freeze_rep (R : HRep K mg w) (k : Keep w w') (R' : HRep K mg w') {d : D} {v : V} (r : RepV K mg w' d v) (hd : (freeze w.S.length w'.S d).rf (· < w.S.length)) : RepV K mg (w.cut w') (freeze w.S.length w'.S d) v := by
  by_cases hr : ∃ l, d = .ref l
  · obtain ⟨l, rfl⟩ := hr
    by_cases hl : w.S.length ≤ l
    · have e0 : freeze w.S.length w'.S (.ref l) = (match w'.S[l]? with
        | some (.lst ds) => .lst ds
        | some (.ins c fs) => .obj c fs
        | _ => .ref l) := if_pos hl
      rw [e0] at hd ⊢
      cases r with
      | @ref _ a h =>
        have nl : NL (w.cut w') a := ⟨R'.sep l a h, fun l' e => by
          have : l' = l := R'.inj l' l a (k.at e) h
          have h2 := (List.getElem?_eq_some_iff.mp e).1
          have h3 : l' < w.ι.length := h2
          rw [R.len] at h3
          omega⟩
        cases hs : w'.S[l]? with
        | none =>
          rw [hs] at hd
          have hd' : l < w.S.length := hd
          omega
        | some c =>
          have q := R'.cell l a c h hs
          rw [hs] at hd
          cases c with
          | lst ds =>
            obtain ⟨xs, e, z, r⟩ := q
            exact .lst e nl z (r.tr R' (tr_cut R k) hd)
          | ins c fs =>
            obtain ⟨C, dx, gs, hm, e, r⟩ := q
            exact .obj hm e nl (r.tr R' (tr_cut R k) hd)
          | dead =>
            have hd' : l < w.S.length := hd
            omega
          | dic _ =>
            have hd' : l < w.S.length := hd
            omega
    · have e0 : freeze w.S.length w'.S (.ref l) = .ref l := if_neg hl
      rw [e0] at hd ⊢
      exact r.tr R' (tr_cut R k) hd
  · have e0 : freeze w.S.length w'.S d = d := by
      cases d <;> first | rfl | exact absurd ⟨_, rfl⟩ hr
    rw [e0] at hd ⊢
    exact r.tr R' (tr_cut R k) hd
/-- a def hands back d: what its caller gets -/
theorem fin_post {W : WX} {σ : St} {Q : VK} {live : Bool} {d : D} {v : V} (R : HRep K mg w) (k : Keep w w') (R' : HRep K mg w') (r : RepV K mg w' d v) (h : PV K mg W σ w Q (fin live w.S d w'.S)) : Q v w'.H := by
  unfold fin at h
  cases live with
  | true =>
    rw [if_pos rfl] at h
    exact h w' k R' rfl v r
  | false =>
    rw [if_neg Bool.false_ne_true] at h
    by_cases hc : Cut w.S w'.S ∧ (freeze w.S.length w'.S d).rf (· < w.S.length)
    · rw [if_pos hc] at h
      exact h (w.cut w') (keep_cut R k) (hrep_cut R k R' hc.1) rfl v (freeze_rep R k R' r hc.2)
    · rw [if_neg hc] at h
      exact h.elim
theorem finX_post {W : WX} {σ : St} {Q : VK} {x : Exc} {c : Value} {dd : Option Addr} (R : HRep K mg w) (k : Keep w w') (R' : HRep K mg w') (r : XRep K mg w' x c dd) (h : PV K mg W σ w Q (finX w.S x w'.S)) : W c dd σ w'.H := by
  unfold finX at h
  by_cases hc : Cut w.S w'.S ∧ D.rff (· < w.S.length) x.fs
  · rw [if_pos hc] at h
    refine h c dd (w.cut w') (keep_cut R k) (hrep_cut R k R' hc.1) rfl ⟨r.cls, ?_⟩
    have q := r.fs
    cases dd with
    | none => exact q
    | some a =>
      obtain ⟨gs, e, rr⟩ := q
      exact ⟨gs, e, rr.tr R' (tr_cut R k) hc.2⟩
  · rw [if_neg hc] at h
    exact h.elim
end

/-! ### what a def does -/
structure FnG (P : Program) (w : World) (K : PySem.W.Frag) (mg : Str → Option Value) (base : Heap) (k : Nat) (f : Addr) (fd : FuncData) (ps : List Str) (m : List D → Store → Res D) : Prop where
  len : ∀ ds S, m ds S ≠ .stuck → ds.length = ps.length
  run : ∀ (A : Around) (outer : List Env) (s : Shared) (wd : Wd) (args : Args) (us : List Value) (vs : List V) (ds : List D) (Q : VK) (E : XK), Room k A → A.guards = some [] → Env0 P w K mg base A outer s wd.H → BindsTo s fd args (ps.zip us) → Vals vs us →
    HRep K mg wd → RepVs K mg wd ds vs → PV K mg (fun c d _ H => E c d H) [] wd Q (m ds wd.S) → codeAny (model P w) A (.call (.ref f) args) (CR (L2.CX P w) outer P w wd.H s Q E) s
theorem FnG.mono {P : Program} {w : World} {K : PySem.W.Frag} {mg : Str → Option Value} {base : Heap} {j k : Nat} {f : Addr} {fd : FuncData} {ps : List Str} {m : List D → Store → Res D} (F : FnG P w K mg base j f fd ps m) (h : j ≤ k) : FnG P w K mg base k f fd ps m :=
  ⟨F.len, fun A outer s wd args us vs ds Q E hr => F.run A outer s wd args us vs ds Q E (hr.mono h)⟩
theorem deeper_guards {A : Around} {env : Env} (h : A.guards = some []) : (A.deeper env).guards = some [] := h
theorem erep_start {K : PySem.W.Frag} {mg : Str → Option Value} {wd : Wd} {ds : List D} {vs : List V} {N : List Str} {nl : Nat} (r : RepVs K mg wd ds vs) (h : N.length - vs.length = nl) : ERep K mg wd (ds.map some ++ List.replicate nl none) (L2.start N vs) := by
  unfold L2.start
  rw [h]
  refine ⟨by simp [r.length], fun i d hd => ?_⟩
  by_cases hi : i < ds.length
  · rw [List.getElem?_append_left (by rw [List.length_map]; exact hi), List.getElem?_map] at hd
    rw [List.getElem?_append_left (by rw [List.length_map, ← r.length]; exact hi), List.getElem?_map]
    cases hx : ds[i]? with
    | none => rw [hx] at hd; cases hd
    | some x =>
      rw [hx] at hd
      cases hd
      obtain ⟨v, h1, h2⟩ := r.get hx
      exact ⟨v, by rw [h1]; rfl, h2⟩
  · rw [List.getElem?_append_right (by rw [List.length_map]; omega), List.getElem?_replicate] at hd
    split at hd <;> cases hd
/-- the wish of a def's body -/
abbrev WB (E : XK) : WX := fun c d _ H => E c d H
theorem fnG_of {P : Program} {w : World} {K : PySem.W.Frag} {mg : Str → Option Value} {base : Heap} {k : Nat} {x qual : Str} {params : Arguments} {body : List Stmt} {scope : Scope} {dvs : List V} {kws : List (Str × V)} {f : Addr} {fd : FuncData} {N ps : List Str} {b : SM} (live : Bool)
    (F : FunD K x qual params body scope dvs kws f fd) (S : FnScope N ps scope)
    (hbody : ∀ (cdv : Value) (A : Around) (outer : List Env) (s : Shared) (H : Hp) (E : XK), Room k (A.deeper (PyProof.Rows.envOfC qual scope s.heap.objs.size f cdv)) → (A.deeper (PyProof.Rows.envOfC qual scope s.heap.objs.size f cdv)).guards = some [] →
      PSsD (cxOf (L2.CX P w) P w K mg base N qual scope f cdv A outer s H E) (WB E) body b) : FnG P w K mg base (k + 1) f fd ps (mFn ps.length (N.length - ps.length) live b) := by
  obtain ⟨oc, od, dV, kV, doc, pm, an, cdv, ct, osl, rfl, lk, hcd, _, _⟩ := F.ex
  have len : ∀ (ds : List D) (S0 : Store), mFn ps.length (N.length - ps.length) live b ds S0 ≠ .stuck → ds.length = ps.length := fun ds S0 h => by
    by_cases e : ds.length = ps.length
    · exact e
    · exact absurd (if_neg e) h
  refine ⟨len, fun A outer s wd args us vs ds Q E hr hgd e0 hb r R rds hm => ?_⟩
  have hl : ds.length = ps.length := len ds wd.S fun z => by
    rw [z] at hm
    exact hm.elim
  have hlv : vs.length = ps.length := by rw [← rds.length]; exact hl
  have KX : K.In s.heap := e0.mod.kin.keeps fun b o e => (e0.bs b o e).1
  have lim : s.heap.NoLimit := e0.mod.nolimit.keeps fun b o e => (e0.bs b o e).1
  have hkind : ∀ y ∈ ps.zip us, scope.names.lookup y.1 = some .local ∨ (scope.names.lookup y.1 = some .cell ∧ ((cellsFrom (s.heap.objs.size + 1) scope.names []).lookup y.1).isSome = true) := fun y hy => by
    rcases S.par y.1 (List.of_mem_zip hy).1 with q | q
    · exact .inl q
    · exact .inr ⟨q, PySem.W.cellsFrom_some _ _ _ (.inl q)⟩
  refine codeAny_call_function hr.depth (KX _ _ lk) rfl S.co S.gen rfl (PySem.W.codeRec_of KX hcd) (hb _ _ _ _ ?_)
  refine wpAny_newFunctionEnv_cells S.kind hkind fun env he s1 xx => ?_
  subst he
  refine ⟨lim.keeps xx.toInCall.keep, codeAny_func ?_⟩
  have ht := hbody cdv A outer s wd.H E (hr.deeper _) (deeper_guards hgd)
  have I : Inv (cxOf (L2.CX P w) P w K mg base N qual scope f cdv A outer s wd.H E) [] (L2.start N vs) wd.H s1 := inv_start S hr.hd e0 hlv r xx
  have hm' : PV K mg (WB E) [] wd Q (match b (ds.map some ++ List.replicate (N.length - ps.length) none) wd.S with
    | .next _ S' => fin live wd.S .non S'
    | .ret d S' => fin live wd.S d S'
    | .exc x _ S' => finX wd.S x S'
    | _ => .stuck) := by
    have e : mFn ps.length (N.length - ps.length) live b ds wd.S = _ := if_pos hl
    rw [e] at hm
    exact hm
  have hq : tS K mg (WB E) b { nx := fun _ H' => Q .non H', rt := Q } (L2.start N vs) wd.H := by
    refine ⟨_, wd, rfl, R, erep_start (N := N) (nl := N.length - ps.length) rds (by rw [hlv]), ?_⟩
    cases hbd : b (ds.map some ++ List.replicate (N.length - ps.length) none) wd.S with
    | next ρ S' =>
      rw [hbd] at hm'
      intro σ' w' k' R' e' E'
      subst e'
      exact fin_post R k' R' .non hm'
    | ret d S' =>
      rw [hbd] at hm'
      intro v w' k' R' e' r'
      subst e'
      exact fin_post R k' R' r' hm'
    | exc x ρ S' =>
      rw [hbd] at hm'
      intro c dd σ' w' k' R' e' E' x'
      subst e'
      exact finX_post R k' R' x' hm'
    | brk _ _ => rw [hbd] at hm'; exact hm'.elim
    | cnt _ _ => rw [hbd] at hm'; exact hm'.elim
    | stuck => rw [hbd] at hm'; exact hm'.elim
  refine wpAny_mono (ht.run [] s1 (L2.start N vs) wd.H _ I hq) (fun fl s' hs => ?_) fun e s' hs => hs
  have fin' : ∀ {σ' : St} {H' : Hp} {v : V} {u : Value}, Inv (cxOf (L2.CX P w) P w K mg base N qual scope f cdv A outer s wd.H E) [] σ' H' s' → RelV v u → Q v H' → CE outer P w wd.H s Q u s' :=
    fun {σ' H' v u} J rv q => ⟨v, H', J.os, J.bare, J.base, J.hok, rv, q⟩
  cases fl with
  | ret u =>
    obtain ⟨v, σ', H', J, rv, q⟩ := hs
    exact fin' J rv q
  | next =>
    obtain ⟨σ', H', J, q⟩ := hs
    exact fin' (v := V.non) (u := Value.none) J rfl q
  | brk =>
    obtain ⟨_, _, _, q⟩ := hs
    exact False.elim q
  | cont =>
    obtain ⟨_, _, _, q⟩ := hs
    exact False.elim q
/-! ### calls -/
theorem tk0 {X : Cx} : Takes X W0 := fun u s' h => by
  obtain ⟨_, _, _, _, _, _, _, _, _, _, _, _, _, _, _, _, h⟩ := h
  exact h.elim
section
variable {X : Cx} {W : WX} {k : Nat} {f : Addr} {fd : FuncData} {ps : List Str} {m : List D → Store → Res D} {x : Str} {p pos : Pos} {e : Expr} {es : List Expr} {ma : AM} {dvs : List V} {dv : List Value} {dd : List D}
theorem runG {pins : List (Addr × Obj)} {σ : St} {wd : Wd} {s : Shared} {Q : VK} {us : List Value} {kw : List (Str × Value)} {ws : List Value} {vs : List V} {ds : List D} (F : FnG X.prog X.w X.K X.mg X.base k f fd ps m) (hr : Room k X.A) (hgd : X.A.guards = some []) (tk : Takes X W)
    (hb : BindsTo s fd ⟨us, kw⟩ (ps.zip ws)) (I : Inv X pins σ wd.H s) (R : HRep X.K X.mg wd) (r : Vals vs ws) (rd : RepVs X.K X.mg wd ds vs) (h : PV X.K X.mg W σ wd Q (m ds wd.S)) : wpAny (model X.prog X.w) X.A (call (.ref f) us kw) (EP X pins σ Q) X.xe s := by
  refine wpAny_call (codeAny_mono (F.run X.A X.stack s wd ⟨us, kw⟩ ws vs ds Q (WE W σ) hr hgd I.env0 hb r R rd ?_) fun r s' hq => ?_)
  · cases hm : m ds wd.S with
    | ok d S' => rw [hm] at h; exact h
    | exc x S' => rw [hm] at h; exact h
    | stuck => rw [hm] at h; exact h
  · cases r with
    | error e => exact passAt tk σ pins wd.H s e s' I hq
    | ok fl =>
      cases fl with
      | ret u => exact I.after hq
      | next => exact False.elim hq
      | brk => exact False.elim hq
      | cont => exact False.elim hq
theorem FnG.len' (F : FnG X.prog X.w X.K X.mg X.base k f fd ps m) {σ : St} {wd : Wd} {Q : VK} {ds : List D} (h : PV X.K X.mg W σ wd Q (m ds wd.S)) : ds.length = ps.length := F.len ds wd.S fun z => by
  rw [z] at h
  exact h.elim
def eCall (m : List D → Store → Res D) (dd : List D) (ma : AM) : EM := fun ρ S => (ma ρ S).bind fun ds S1 => m (ds ++ dd) S1
theorem PAD.go {pins : List (Addr × Obj)} {s : Shared} {σ : St} {w : Wd} {ρ : DEnv} {β : Type} {kk : List D → Store → Res β} {P : β → Wd → Prop} {T : List Value → Shared → Prop} (ha : PAD X W es ma)
    (I : Inv X pins σ w.H s) (R : HRep X.K X.mg w) (E : ERep X.K X.mg w ρ σ) (h : Post X.K X.mg W σ w P ((ma ρ w.S).bind kk))
    (hk : ∀ ds w1 vs us s1, Keep w w1 → HRep X.K X.mg w1 → ERep X.K X.mg w1 ρ σ → RepVs X.K X.mg w1 ds vs → Vals vs us → Inv X pins σ w1.H s1 → Post X.K X.mg W σ w1 P (kk ds w1.S) → T us s1) :
    wpAny (model X.prog X.w) X.A (spliced (backTo pos (starEach es X.env))) T X.xe s := by
  refine thn (ha.run pos pins s σ w.H (fun vs H1 => ∃ ds w1, w1.H = H1 ∧ Keep w w1 ∧ HRep X.K X.mg w1 ∧ ERep X.K X.mg w1 ρ σ ∧ RepVs X.K X.mg w1 ds vs ∧ Post X.K X.mg W σ w1 P (kk ds w1.S)) I
    (tL.of R E h fun ds w1 vs k1 R1 E1 r1 h1 => ⟨ds, w1, rfl, k1, R1, E1, r1, h1⟩)) fun us s1 hq => ?_
  obtain ⟨vs, H1, I1, rv, ds, w1, e, k1, R1, E1, r1, h1⟩ := hq
  subst e
  exact hk ds w1 vs us s1 k1 R1 E1 r1 rv I1 h1
theorem pd_call (F : FnG X.prog X.w X.K X.mg X.base k f fd ps m) (hr : Room k X.A) (hgd : X.A.guards = some []) (tk : Takes X W) (hg : Gl X x) (hm : X.mg x = some (.ref f)) (hk : PySem.W.keepIn X.K (.ref f) = true) (hb : Binds X.K fd ps dv) (hd : Vals dvs dv) (hdd : ∀ w, RepVs X.K X.mg w dd dvs)
    (ha : PAD X W (e :: es) ma) (hdb : (x == ("__debug__" : Str)) = false := by decide) (he : starEach (e :: es) X.env = (false, eval e X.env) :: starEach es X.env := by rfl) (hpl : (backTo pos (starEach es X.env)).any (·.1) = false := by rfl) :
    PD X W (.Call (.Name x p) (e :: es) [] pos) (eCall m dd ma) := by
  refine ⟨fun pins s σ H Q I h => ?_⟩
  obtain ⟨ρ, w, ee, R, E, q⟩ := h
  subst ee
  refine wpAny_Call_Name_kw (ld_glob I hg hm ?_ hdb)
  refine PySem.W.callWith_K (h₀ := X.base) I.ok.mod.kin hk (ha.go (pos := pos) I R E q fun ds w1 vs us s1 k1 R1 E1 r1 rv I1 h1 => ⟨I1.kIn, ?_⟩) he hpl
  have rr := r1.append (hdd w1)
  have rv2 : Vals (vs ++ dvs) (us ++ dv) := rv.append hd
  have hl : (us ++ dv).length = ps.length := by rw [← rv2.length, ← rr.length]; exact F.len' h1
  exact runG F hr hgd tk (hb s1 us I1.kIn hl) I1 R1 rv2 rr h1
theorem pd_call0 (F : FnG X.prog X.w X.K X.mg X.base k f fd ps m) (hr : Room k X.A) (hgd : X.A.guards = some []) (tk : Takes X W) (hg : Gl X x) (hm : X.mg x = some (.ref f)) (hk : PySem.W.keepIn X.K (.ref f) = true) (hb : Binds X.K fd ps dv) (hd : Vals dvs dv) (hdd : ∀ w, RepVs X.K X.mg w dd dvs)
    (hdb : (x == ("__debug__" : Str)) = false := by decide) : PD X W (.Call (.Name x p) [] [] pos) (eCall m dd aNil) := by
  refine ⟨fun pins s σ H Q I h => ?_⟩
  obtain ⟨ρ, w, ee, R, E, q⟩ := h
  subst ee
  refine wpAny_Call_Name_kw (ld_glob I hg hm ?_ hdb)
  have q' : PV X.K X.mg W σ w Q (m ([] ++ dd) w.S) := q
  rw [List.nil_append] at q'
  have hl : ([] ++ dv).length = ps.length := by rw [List.nil_append, ← hd.length, ← (hdd w).length]; exact F.len' q'
  exact PySem.W.callWith_K0 I.kIn hk (runG (us := []) (kw := []) F hr hgd tk (hb s [] I.kIn hl) I R hd (hdd w) q')
end
end L3
end

section
set_option Elab.async false
set_option linter.all false
set_option maxRecDepth 100000
set_option maxHeartbeats 4000000
namespace L3
open PySem PySem.Spec L2

/-! ### calls of what is built in -/
abbrev FM := List D → Store → Res D
def CallD (X : Cx) (W : WX) (f : Value) (m : FM) : Prop :=
  ∀ (pins : List (Addr × Obj)) (s : Shared) (σ : St) (w : Wd) (ds : List D) (xs : List V) (us : List Value) (Q : VK), Inv X pins σ w.H s → HRep X.K X.mg w → RepVs X.K X.mg w ds xs → Vals xs us →
    PV X.K X.mg W σ w Q (m ds w.S) → wpAny (model X.prog X.w) X.A (call f us) (EP X pins σ Q) X.xe s
section
variable {X : Cx} {W : WX} {f : Value} {r : List V → Hp → VK → Prop} {m m2 : FM}
theorem CallD.of (h : CallR X f r) (hr : ∀ (σ : St) (w : Wd) (ds : List D) (xs : List V) (Q : VK), HRep X.K X.mg w → RepVs X.K X.mg w ds xs → PV X.K X.mg W σ w Q (m ds w.S) → r xs w.H Q) : CallD X W f m :=
  fun pins s σ w ds xs us Q I R rd rv q => h pins s σ w.H xs us Q I rv (hr σ w ds xs Q R rd q)
def eApp (m : FM) (ma : AM) : EM := fun ρ S => (ma ρ S).bind m
variable {x : Str} {p pos : Pos} {e : Expr} {es : List Expr} {ma : AM} {id T : String}
theorem pd_callB (hc : CallD X W (.builtin id) m) (hg : Gl X x) (hm : X.mg x = none) (hv : bootBuiltins x = some (.builtin id)) (ha : PAD X W (e :: es) ma) (hn : x ≠ "__name__" := by decide) (hdb : (x == ("__debug__" : Str)) = false := by decide)
    (he : starEach (e :: es) X.env = (false, eval e X.env) :: starEach es X.env := by rfl) (hpl : (backTo pos (starEach es X.env)).any (·.1) = false := by rfl) : PD X W (.Call (.Name x p) (e :: es) [] pos) (eApp m ma) := by
  refine ⟨fun pins s σ H Q I h => ?_⟩
  obtain ⟨ρ, w, ee, R, E, q⟩ := h
  subst ee
  refine wpAny_Call_Name_kw (ld_blt I hg hm hv ?_ hn hdb)
  refine PyProof.Rows.callWith_builtin1 (ha.go I R E q fun ds w1 vs us s1 k1 R1 E1 r1 rv I1 h1 => ?_) he hpl
  exact hc pins s1 σ w1 ds vs us Q I1 R1 r1 rv h1
theorem pd_callTy (hc : CallD X W (.type T) m) (hg : Gl X x) (hm : X.mg x = none) (hv : bootBuiltins x = some (.type T)) (ha : PAD X W (e :: es) ma) (hn : x ≠ "__name__" := by decide) (hdb : (x == ("__debug__" : Str)) = false := by decide)
    (he : starEach (e :: es) X.env = (false, eval e X.env) :: starEach es X.env := by rfl) (hpl : (backTo pos (starEach es X.env)).any (·.1) = false := by rfl) : PD X W (.Call (.Name x p) (e :: es) [] pos) (eApp m ma) := by
  refine ⟨fun pins s σ H Q I h => ?_⟩
  obtain ⟨ρ, w, ee, R, E, q⟩ := h
  subst ee
  refine wpAny_Call_Name_kw (ld_blt I hg hm hv ?_ hn hdb)
  refine PyProof.Rows.callWith_type1 (ha.go I R E q fun ds w1 vs us s1 k1 R1 E1 r1 rv I1 h1 => ?_) he hpl
  exact hc pins s1 σ w1 ds vs us Q I1 R1 r1 rv h1
/-! ### one argument -/
def f1 (g : D → Store → Res D) : FM := fun ds S => match ds with
  | [d] => g d S
  | _ => .stuck
theorem CallD.one {g : D → Store → Res D} (h : CallR X f r) (hr : ∀ (σ : St) (w : Wd) (d : D) (x : V) (Q : VK), HRep X.K X.mg w → RepV X.K X.mg w d x → PV X.K X.mg W σ w Q (g d w.S) → r [x] w.H Q) : CallD X W f (f1 g) :=
  CallD.of h fun σ w ds xs Q R rd q => by
    match ds, rd, q with
    | [d], .cons r .nil, q => exact hr σ w d _ Q R r q
    | [], _, q => exact q.elim
    | _ :: _ :: _, _, q => exact q.elim
/-- len -/
def lenOf (S : Store) : D → Option Nat
  | .str z => if z.length ≤ sizeLine then some z.length else none
  | .ref l => match S[l]? with
    | some (.lst ds) => some ds.length
    | some (.dic kvs) => some kvs.length
    | _ => none
  | d => (seqOf S d).map (·.length)
def bLen : D → Store → Res D := fun d S => match lenOf S d with
  | some n => .ok (.int n) S
  | none => .stuck
theorem cd_len : CallD X W (.builtin "len") (f1 bLen) := CallD.one (CallR.or call_len_seq (CallR.or call_len_str call_lenD)) fun σ w d x Q R r q => by
  have seqs : ∀ ds, seqOf w.S d = some ds → PV X.K X.mg W σ w Q (.ok (.int ds.length) w.S) → ∃ p ys, [x] = [.ref p] ∧ (SqL X.K w.H p ys ∨ SqT X.K w.H p ys) ∧ Q (.int ys.length) w.H := fun ds e q => by
    obtain ⟨a, xs, rfl, hs, _, rs⟩ := seqOf_rep R r e
    exact ⟨a, xs, rfl, hs, by rw [← rs.length]; exact PV.now R (.int _) q⟩
  unfold bLen at q
  cases d with
  | str z =>
    dsimp only [lenOf] at q
    by_cases h : z.length ≤ sizeLine
    · rw [if_pos h] at q
      cases r
      exact .inr (.inl ⟨z, rfl, h, PV.now R (.int _) q⟩)
    · rw [if_neg h] at q
      exact q.elim
  | ref l =>
    dsimp only [lenOf] at q
    cases e : w.S[l]? with
    | none => rw [e] at q; exact q.elim
    | some c =>
      rw [e] at q
      cases c with
      | lst ds => exact .inl (seqs ds (by show (match w.S[l]? with | some (.lst ds) => some ds | _ => none) = _; rw [e]) q)
      | dic kvs =>
        cases r with
        | ref hl =>
          obtain ⟨us, h1, h2⟩ := R.cell _ _ _ hl e
          refine .inr (.inr ⟨_, us, rfl, h1, ?_⟩)
          have hlen : kvs.length = us.length := by
            clear q e h1 seqs
            induction h2 with
            | nil => rfl
            | cons _ _ ih => exact congrArg (· + 1) ih
          rw [← hlen]
          exact PV.now R (.int _) q
      | _ => exact q.elim
  | tup ds => exact .inl (seqs ds rfl q)
  | lst ds => exact .inl (seqs ds rfl q)
  | frz ds => exact .inl (seqs ds rfl q)
  | _ => exact q.elim
/-- int -/
def bInt : D → Store → Res D := fun d S => match d with
  | .int i => .ok (.int i) S
  | .bl k => .ok (.int (if k then 1 else 0)) S
  | .str a => match PySem.intText? a with
    | some n => if a.length ≤ 640 then .ok (.int n) S else .stuck
    | none => .stuck
  | _ => .stuck
theorem cd_int : CallD X W (.type "int") (f1 bInt) := CallD.one (CallR.or call_int1 call_int_str) fun σ w d x Q R r q => by
  unfold bInt at q
  cases d with
  | int i => cases r; exact .inl (.inl ⟨i, rfl, PV.now R (.int _) q⟩)
  | bl k => cases r; exact .inl (.inr ⟨k, rfl, PV.now R (.int _) q⟩)
  | str a =>
    cases r
    dsimp only at q
    cases e : PySem.intText? a with
    | none => rw [e] at q; exact q.elim
    | some n =>
      rw [e] at q
      dsimp only at q
      by_cases h : a.length ≤ 640
      · rw [if_pos h] at q
        exact .inr ⟨a, n, rfl, e, h, PV.now R (.int _) q⟩
      · rw [if_neg h] at q
        exact q.elim
  | _ => exact q.elim
/-- bool -/
def bBool : D → Store → Res D := fun d S => match d with
  | .int i => .ok (.bl (i != 0)) S
  | .bl k => .ok (.bl k) S
  | d => match listOf S d with
    | some ds => .ok (.bl (!ds.isEmpty)) S
    | none => .stuck
theorem cd_bool : CallD X W (.type "bool") (f1 bBool) := CallD.one (CallR.or call_bool1 call_boolL) fun σ w d x Q R r q => by
  have lists : ∀ (h : (match listOf w.S d with
    | some ds => .ok (.bl (!ds.isEmpty)) w.S
    | none => .stuck) = bBool d w.S), ∃ (a : Addr) (zs : List V), [x] = [.ref a] ∧ SqL X.K w.H a zs ∧ Q (.bl (!zs.isEmpty)) w.H := fun h => by
    rw [← h] at q
    cases e : listOf w.S d with
    | none => rw [e] at q; exact q.elim
    | some ds =>
      rw [e] at q
      obtain ⟨a, xs, rfl, hs, _, rs⟩ := listOf_rep R r e
      refine ⟨a, xs, rfl, hs, ?_⟩
      have : xs.isEmpty = ds.isEmpty := by cases rs <;> rfl
      rw [this]
      exact PV.now R (.bl _) q
  cases d with
  | int i => cases r; exact .inl (.inl ⟨i, rfl, PV.now R (.bl _) q⟩)
  | bl k => cases r; exact .inl (.inr ⟨k, rfl, PV.now R (.bl _) q⟩)
  | _ => exact .inr (lists rfl)
/-- tuple -/
def bTuple : D → Store → Res D := fun d S => match seqOf S d with
  | some ds => .ok (.tup ds) S
  | none => .stuck
theorem cd_tuple : CallD X W (.type "tuple") (f1 bTuple) := CallD.one call_tuple_of fun σ w d x Q R r q => by
  unfold bTuple at q
  cases e : seqOf w.S d with
  | none => rw [e] at q; exact q.elim
  | some ds =>
    rw [e] at q
    obtain ⟨a, xs, rfl, hs, hz, rs⟩ := seqOf_rep R r e
    refine ⟨a, xs, rfl, ?_⟩
    rcases hs with hs | hs
    · exact .inl ⟨hs, fun l hl => newT_post R hz hl rs q⟩
    · exact .inr ⟨hs, PV.now R (.tup hs hz rs) q⟩
/-- list -/
def bList (live : Bool) : D → Store → Res D := fun d S => match seqOf S d with
  | some ds => newL live ds S
  | none => .stuck
theorem cd_list (live : Bool) : CallD X W (.type "list") (f1 (bList live)) := CallD.one call_list_of fun σ w d x Q R r q => by
  unfold bList at q
  cases e : seqOf w.S d with
  | none => rw [e] at q; exact q.elim
  | some ds =>
    rw [e] at q
    obtain ⟨a, xs, rfl, hs, hz, rs⟩ := seqOf_rep R r e
    exact ⟨a, xs, rfl, hs, fun l hl => newL_post R hz hl rs q⟩
/-! ### lists of ints, of bools -/
def intsOf : List D → Option (List Int)
  | [] => some []
  | .int i :: ds => (intsOf ds).map (i :: ·)
  | _ :: _ => none
def blsOf : List D → Option (List Bool)
  | [] => some []
  | .bl i :: ds => (blsOf ds).map (i :: ·)
  | _ :: _ => none
theorem intsOf_map (ns : List Int) : intsOf (ns.map D.int) = some ns := by
  induction ns with
  | nil => rfl
  | cons n ns ih => show (intsOf (ns.map D.int)).map (n :: ·) = _; rw [ih]; rfl
theorem blsOf_map (ns : List Bool) : blsOf (ns.map D.bl) = some ns := by
  induction ns with
  | nil => rfl
  | cons n ns ih => show (blsOf (ns.map D.bl)).map (n :: ·) = _; rw [ih]; rfl
theorem intsOf_eq : ∀ {ds : List D} {ns : List Int}, intsOf ds = some ns → ds = ns.map D.int
  | [], _, h => by cases h; rfl
  | .int i :: ds, ns, h => by
    obtain ⟨ms, h1, h2⟩ := Option.map_eq_some_iff.mp (show (intsOf ds).map (i :: ·) = some ns from h)
    subst h2
    rw [intsOf_eq h1]
    rfl
  | .non :: _, _, h => by cases h
  | .bl _ :: _, _, h => by cases h
  | .str _ :: _, _, h => by cases h
  | .ty _ :: _, _, h => by cases h
  | .gl _ :: _, _, h => by cases h
  | .ref _ :: _, _, h => by cases h
  | .tup _ :: _, _, h => by cases h
  | .lst _ :: _, _, h => by cases h
  | .frz _ :: _, _, h => by cases h
  | .obj _ _ :: _, _, h => by cases h
theorem blsOf_eq : ∀ {ds : List D} {ns : List Bool}, blsOf ds = some ns → ds = ns.map D.bl
  | [], _, h => by cases h; rfl
  | .bl i :: ds, ns, h => by
    obtain ⟨ms, h1, h2⟩ := Option.map_eq_some_iff.mp (show (blsOf ds).map (i :: ·) = some ns from h)
    subst h2
    rw [blsOf_eq h1]
    rfl
  | .non :: _, _, h => by cases h
  | .int _ :: _, _, h => by cases h
  | .str _ :: _, _, h => by cases h
  | .ty _ :: _, _, h => by cases h
  | .gl _ :: _, _, h => by cases h
  | .ref _ :: _, _, h => by cases h
  | .tup _ :: _, _, h => by cases h
  | .lst _ :: _, _, h => by cases h
  | .frz _ :: _, _, h => by cases h
  | .obj _ _ :: _, _, h => by cases h
theorem rep_ints {w : Wd} : ∀ {ns : List Int} {xs : List V}, RepVs X.K X.mg w (ns.map D.int) xs → xs = ns.map V.int
  | [], _, r => by cases r; rfl
  | n :: ns, _, r => by
    rw [List.map_cons] at r
    cases r with
    | cons r t => cases r; rw [rep_ints t]; rfl
theorem rep_bls {w : Wd} : ∀ {ns : List Bool} {xs : List V}, RepVs X.K X.mg w (ns.map D.bl) xs → xs = ns.map V.bl
  | [], _, r => by cases r; rfl
  | n :: ns, _, r => by
    rw [List.map_cons] at r
    cases r with
    | cons r t => cases r; rw [rep_bls t]; rfl
theorem ints_rep {w : Wd} : ∀ (ns : List Int), RepVs X.K X.mg w (ns.map D.int) (ns.map V.int)
  | [] => .nil
  | n :: ns => .cons (.int n) (ints_rep ns)
def overInts (g : List Int → Option D) : D → Store → Res D := fun d S => match (listOf S d).bind intsOf with
  | some ns => match g ns with
    | some r => .ok r S
    | none => .stuck
  | none => .stuck
def overBls (g : List Bool → D) : D → Store → Res D := fun d S => match (listOf S d).bind blsOf with
  | some ns => .ok (g ns) S
  | none => .stuck
theorem overInts_rep {g : List Int → Option D} {σ : St} {w : Wd} {d : D} {x : V} {Q : VK} (R : HRep X.K X.mg w) (r : RepV X.K X.mg w d x) (q : PV X.K X.mg W σ w Q (overInts g d w.S)) :
    ∃ a ns y, x = .ref a ∧ SqL X.K w.H a (ns.map V.int) ∧ g ns = some y ∧ PV X.K X.mg W σ w Q (.ok y w.S) := by
  unfold overInts at q
  cases e : (listOf w.S d).bind intsOf with
  | none => rw [e] at q; exact q.elim
  | some ns =>
    rw [e] at q
    dsimp only at q
    obtain ⟨ds, e1, e2⟩ := Option.bind_eq_some_iff.mp e
    have e3 := intsOf_eq e2
    subst e3
    obtain ⟨a, xs, rfl, hs, _, rs⟩ := listOf_rep R r e1
    have e4 := rep_ints rs
    subst e4
    cases eg : g ns with
    | none => rw [eg] at q; exact q.elim
    | some y =>
      rw [eg] at q
      exact ⟨a, ns, y, rfl, hs, eg, q⟩
theorem overBls_rep {g : List Bool → D} {σ : St} {w : Wd} {d : D} {x : V} {Q : VK} (R : HRep X.K X.mg w) (r : RepV X.K X.mg w d x) (q : PV X.K X.mg W σ w Q (overBls g d w.S)) :
    ∃ a ns, x = .ref a ∧ SqL X.K w.H a (ns.map V.bl) ∧ PV X.K X.mg W σ w Q (.ok (g ns) w.S) := by
  unfold overBls at q
  cases e : (listOf w.S d).bind blsOf with
  | none => rw [e] at q; exact q.elim
  | some ns =>
    rw [e] at q
    dsimp only at q
    obtain ⟨ds, e1, e2⟩ := Option.bind_eq_some_iff.mp e
    have e3 := blsOf_eq e2
    subst e3
    obtain ⟨a, xs, rfl, hs, _, rs⟩ := listOf_rep R r e1
    have e4 := rep_bls rs
    subst e4
    exact ⟨a, ns, rfl, hs, q⟩
def bSum : D → Store → Res D := overInts fun ns => some (.int ns.sum)
theorem cd_sum (hc : X.calm = true) : CallD X W (.builtin "sum") (f1 bSum) := CallD.one (cr_sum hc) fun σ w d x Q R r q => by
  obtain ⟨a, ns, y, rfl, hs, e, q⟩ := overInts_rep R r q
  cases e
  exact ⟨a, ns, rfl, hs, PV.now R (.int _) q⟩
def maxL : List Int → Option Int
  | [] => none
  | n :: ns => some (ns.foldl max n)
def minL : List Int → Option Int
  | [] => none
  | n :: ns => some (ns.foldl min n)
theorem foldl_max : ∀ (ns : List Int) (n : Int), (ns.foldl max n = n ∨ ns.foldl max n ∈ ns) ∧ n ≤ ns.foldl max n ∧ ∀ m ∈ ns, m ≤ ns.foldl max n
  | [], n => ⟨.inl rfl, Int.le_refl _, fun _ h => nomatch h⟩
  | k :: ns, n => by
    obtain ⟨h1, h2, h3⟩ := foldl_max ns (max n k)
    rw [List.foldl_cons]
    refine ⟨?_, by omega, fun m hm => ?_⟩
    · rcases h1 with h1 | h1
      · rw [h1]
        by_cases q : n ≤ k
        · exact .inr (by rw [Int.max_eq_right q]; exact List.mem_cons_self)
        · exact .inl (Int.max_eq_left (by omega))
      · exact .inr (List.mem_cons_of_mem _ h1)
    · rcases List.mem_cons.mp hm with e | e
      · subst e; omega
      · exact h3 m e
theorem foldl_min : ∀ (ns : List Int) (n : Int), (ns.foldl min n = n ∨ ns.foldl min n ∈ ns) ∧ ns.foldl min n ≤ n ∧ ∀ m ∈ ns, ns.foldl min n ≤ m
  | [], n => ⟨.inl rfl, Int.le_refl _, fun _ h => nomatch h⟩
  | k :: ns, n => by
    obtain ⟨h1, h2, h3⟩ := foldl_min ns (min n k)
    rw [List.foldl_cons]
    refine ⟨?_, by omega, fun m hm => ?_⟩
    · rcases h1 with h1 | h1
      · rw [h1]
        by_cases q : n ≤ k
        · exact .inl (Int.min_eq_left q)
        · exact .inr (by rw [Int.min_eq_right (by omega)]; exact List.mem_cons_self)
      · exact .inr (List.mem_cons_of_mem _ h1)
    · rcases List.mem_cons.mp hm with e | e
      · subst e; omega
      · exact h3 m e
theorem maxL_uniq {ns : List Int} {n m : Int} (h : maxL ns = some n) (hm : m ∈ ns) (hs : ∀ y, y ∈ ns → y ≤ m) : m = n := by
  cases ns with
  | nil => cases h
  | cons k ns =>
    cases h
    obtain ⟨h1, h2, h3⟩ := foldl_max ns k
    have a : m ≤ ns.foldl max k := by
      rcases List.mem_cons.mp hm with e | e
      · subst e; exact h2
      · exact h3 m e
    have b : ns.foldl max k ≤ m := by
      rcases h1 with e | e
      · rw [e]; exact hs k List.mem_cons_self
      · exact hs _ (List.mem_cons_of_mem _ e)
    omega
theorem minL_uniq {ns : List Int} {n m : Int} (h : minL ns = some n) (hm : m ∈ ns) (hs : ∀ y, y ∈ ns → m ≤ y) : m = n := by
  cases ns with
  | nil => cases h
  | cons k ns =>
    cases h
    obtain ⟨h1, h2, h3⟩ := foldl_min ns k
    have a : ns.foldl min k ≤ m := by
      rcases List.mem_cons.mp hm with e | e
      · subst e; exact h2
      · exact h3 m e
    have b : m ≤ ns.foldl min k := by
      rcases h1 with e | e
      · rw [e]; exact hs k List.mem_cons_self
      · exact hs _ (List.mem_cons_of_mem _ e)
    omega
def bMax : D → Store → Res D := overInts fun ns => (maxL ns).map D.int
def bMin : D → Store → Res D := overInts fun ns => (minL ns).map D.int
theorem cd_max (hc : X.calm = true) : CallD X W (.builtin "max") (f1 bMax) := CallD.one (cr_max hc) fun σ w d x Q R r q => by
  obtain ⟨a, ns, y, rfl, hs, e, q⟩ := overInts_rep R r q
  obtain ⟨n, e1, e2⟩ := Option.map_eq_some_iff.mp e
  subst e2
  refine ⟨a, ns, rfl, hs, ?_, fun m h1 h2 => ?_⟩
  · cases ns with
    | nil => cases e1
    | cons _ _ => exact Nat.succ_pos _
  · rw [maxL_uniq e1 h1 h2]
    exact PV.now R (.int _) q
theorem cd_min (hc : X.calm = true) : CallD X W (.builtin "min") (f1 bMin) := CallD.one (cr_min hc) fun σ w d x Q R r q => by
  obtain ⟨a, ns, y, rfl, hs, e, q⟩ := overInts_rep R r q
  obtain ⟨n, e1, e2⟩ := Option.map_eq_some_iff.mp e
  subst e2
  refine ⟨a, ns, rfl, hs, ?_, fun m h1 h2 => ?_⟩
  · cases ns with
    | nil => cases e1
    | cons _ _ => exact Nat.succ_pos _
  · rw [minL_uniq e1 h1 h2]
    exact PV.now R (.int _) q
def bAny : D → Store → Res D := overBls fun ns => .bl (ns.any _root_.id)
def bAll : D → Store → Res D := overBls fun ns => .bl (ns.all _root_.id)
theorem cd_any (hc : X.calm = true) : CallD X W (.builtin "any") (f1 bAny) := CallD.one (cr_any hc) fun σ w d x Q R r q => by
  obtain ⟨a, ns, rfl, hs, q⟩ := overBls_rep R r q
  exact ⟨a, ns, rfl, hs, PV.now R (.bl _) q⟩
theorem cd_all (hc : X.calm = true) : CallD X W (.builtin "all") (f1 bAll) := CallD.one (cr_all hc) fun σ w d x Q R r q => by
  obtain ⟨a, ns, rfl, hs, q⟩ := overBls_rep R r q
  exact ⟨a, ns, rfl, hs, PV.now R (.bl _) q⟩
end
end L3
end

section
set_option Elab.async false
set_option linter.all false
set_option maxRecDepth 100000
set_option maxHeartbeats 4000000
namespace L3
open PySem PySem.Spec L2

/-! ### sorted -/
section
variable {X : Cx} {W : WX}
/-- pairs, wherever they lie -/
theorem cr_pairsT : CallR X (.builtin "sorted") (fun vs H Q => ∃ (a : Addr) (xs : List V) (k : V → Int × Int), vs = [V.ref a] ∧ SqL X.K H a xs ∧ (∀ x ∈ xs, ∃ t, x = V.ref t ∧ SqT X.K H t [.int (k x).1, .int (k x).2]) ∧
    ∀ ys p, SrtO.Srtd (ltP k) ys → ys.Perm xs → H p = none → Q (.ref p) (upd H p (.lst ys))) := by
  intro pins s σ H zs ws Q I r h
  obtain ⟨a, xs, k, rfl, hs, hx, fin⟩ := h
  obtain ⟨its, rv, hl, hz⟩ := I.list hs
  obtain ⟨u, rfl, ru⟩ := vals1 r
  obtain rfl : u = Value.ref a := ru
  have hb := refs_back rv fun x m => (hx x m).elim fun t q => ⟨t, q.1⟩
  refine SrtO.sorted_pairsO (k := fun z => k (backV z)) hl.isList (by rw [← rv.length]; exact hz) (fun v hv => ?_) fun h' d out g1 g2 kp hd hn => ?_
  · obtain ⟨t, et⟩ := hb.2 v hv
    subst et
    have hm : V.ref t ∈ xs := by
      rw [hb.1]
      exact List.mem_map_of_mem (f := backV) hv
    obtain ⟨t', et', ht⟩ := hx _ hm
    cases et'
    obtain ⟨its2, rv2, tup, _⟩ := I.tuple ht
    obtain ⟨o, ho, hc, n, hdat⟩ := tup
    obtain ⟨u1, u2, e2, ⟨t1, q1⟩, ⟨t2, q2⟩⟩ := vals2 rv2
    subst e2 q1 q2
    exact ⟨t, o, t1, t2, n, rfl, ho, hc, hdat⟩
  · obtain ⟨n, hn⟩ := hn
    have gp := g2.perm
    have rf : ∀ z ∈ out, ∃ b, z = Value.ref b := fun z hz => hb.2 z (gp.mem_iff.mp hz)
    have pm : (out.map backV).Perm xs := by
      rw [hb.1]
      exact gp.map backV
    exact ⟨.ref d, upd H d (.lst (out.map backV)), I.laid (t' := s.toks) kp hd ⟨by rw [pm.length_eq]; exact hz, out, n, vals_back rf, hn⟩, rfl, fin _ d (SrtO.srtd_map g1) pm (I.hok.fresh hd)⟩
/-- a dict of ints -/
theorem cr_keysI (hcalm : X.calm = true) : CallR X (.builtin "sorted") (fun vs H Q => ∃ (a : Addr) (kvs : List (Key × V)) (ks : List Int), vs = [.ref a] ∧ H a = some (.dK kvs) ∧ kvs.map (·.1) = ks.map Sum.inl ∧
    ∀ (ns : List Int) (p : Addr), ns.Perm ks → ns.Pairwise (· ≤ ·) → H p = none → Q (.ref p) (upd H p (.lst (ns.map V.int)))) := by
  intro pins s σ H zs ws Q I r h
  obtain ⟨a, kvs, ks, ez, ha, hks, fin⟩ := h
  subst ez
  obtain ⟨u, eu, rx⟩ := vals1 r
  subst eu
  cases rx
  obtain ⟨z, lo, vs, rel, dd⟩ := dk_rd I.hok (.inl ha)
  obtain ⟨ep, hat⟩ := dd.dictAt
  have kk : vs.map (·.1) = ks.map Sum.inl := rel.keys.symm.trans hks
  have lks : vs.length = ks.length := by simpa using congrArg List.length kk
  have lvs : vs.length ≤ sizeLine := rel.length ▸ z
  refine Calls.call_function_entry PyProof.Rows.kind_sorted PyProof.Rows.plain_sorted PyProof.Rows.entry_sorted (PyProof.Rows.args_sorted1 _) ?_
  unfold Builtin.«sorted»
  refine wpAny_bind (m := checkCount "sorted" 1 1 _) (wpAny_pure (wpAny_bind ?_))
  refine PySem.W.kdu_collect (A := X.A.in1) (PySem.W.kdl_dict (ep := ep) (kvs := vs) (knd := mixKind X.prog X.w) lo) (I.ok.hd hcalm) hat lvs fun h' tk acc hk hacc => ?_
  have la : acc.toList.length = ks.length := by
    rw [Array.length_toList, hacc.1]
    exact lks
  have lz : acc.toList.length ≤ sizeLine := by
    rw [la, ← lks]
    exact lvs
  have hia : PyProof.Rows.IntsAre acc.toList ks := ints_each la fun j v e => by
    obtain ⟨k, x, e1, e2⟩ := hacc.2 j v (Array.getElem?_toList ▸ e)
    have e3 : (ks.map (Sum.inl (β := Str)))[j]? = some k := by
      rw [← kk, List.getElem?_map, e1]
      rfl
    rw [List.getElem?_map] at e3
    obtain ⟨y, e4, e5⟩ := Option.map_eq_some_iff.mp e3
    subst e5
    rcases keyIs_shape (show keyIs (Sum.inl y) v = true from e2) with ⟨i, t, q1, q2⟩ | ⟨_, _, q1, _⟩
    · cases q1
      exact ⟨y, t, e4, q2⟩
    · cases q1
  have J : Inv X pins σ H { s with heap := h', toks := tk } := I.kept hk
  have ho : (h'.push (PyProof.Rows.seqObj "list" acc.toList.toArray 0)).get? h'.objs.size = some (PyProof.Rows.seqObj "list" acc.toList.toArray 0) := Heap.get?_push_size _ rfl
  refine wpAny_bind (wpAny_newList ?_ lz)
  show wpAny _ _ _ _ _ { s with heap := h'.push (PyProof.Rows.seqObj "list" acc.toList.toArray 0), toks := tk }
  refine wpAny_bind (wpAny_holding ?_)
  refine wpAny_call_entry PyProof.Rows.slot_list_sort ⟨_, ho, rfl⟩ PyProof.Rows.entry_list_sort ?_ (PyProof.Rows.args_list_sort _)
  refine SrtO.list_sort_ord SrtO.swo_int ho lz (fun h2 => SrtO.ints_sortable hia h2) fun out g1 g2 => ⟨_, rfl, ?_⟩
  obtain ⟨k1, k2, k3⟩ := SrtO.ints_out hia g1 g2
  obtain ⟨e', he'⟩ := PyProof.Rows.sortedHeap_at (out := out.toArray) ho
  have lo2 : ((out.map SrtO.iv).map V.int).length ≤ sizeLine := by
    rw [List.length_map, k2.length_eq, ← la]
    exact lz
  refine wpAny_pure ⟨_, rfl, .ref h'.objs.size, upd H h'.objs.size (.lst ((out.map SrtO.iv).map V.int)), ?_, rfl, fin _ _ k2 k3 (J.hok.fresh (Nat.le_refl _))⟩
  refine J.laid (t' := tk) (fun b u e => ?_) (Nat.le_refl _) (show ObjOk X.prog X.w _ _ _ (.lst _) from ⟨lo2, out, e', vals_of_ints k1, he'⟩)
  have hlt := Heap.lt_size e
  have hlt2 : b < (h'.push (PyProof.Rows.seqObj "list" acc.toList.toArray 0)).objs.size := by
    rw [PyProof.Rows.size_push']
    exact Nat.lt_succ_of_lt hlt
  rw [PyProof.Rows.sortedHeap_old (Nat.ne_of_lt hlt) hlt2]
  exact Heap.get?_push_of_some _ e
/-! ### in plain Lean -/
def leI (a b : Int) : Bool := decide (a ≤ b)
def sortI (ns : List Int) : List Int := ns.mergeSort leI
def leP (p q : Int × Int) : Bool := !SrtO.lexB q p
def sortP (ps : List (Int × Int)) : List (Int × Int) := ps.mergeSort leP
theorem leP_iff {p q : Int × Int} : leP p q = true ↔ p.1 < q.1 ∨ (p.1 = q.1 ∧ p.2 ≤ q.2) := by
  unfold leP
  rw [Bool.not_eq_true', SrtO.lexB_no]
  omega
theorem sortI_perm (ns : List Int) : (sortI ns).Perm ns := List.mergeSort_perm ns leI
theorem sortI_le (ns : List Int) : (sortI ns).Pairwise (· ≤ ·) := by
  refine (List.pairwise_mergeSort (le := leI) (fun a b c h1 h2 => ?_) (fun a b => ?_) ns).imp fun h => of_decide_eq_true h
  · have h1 := of_decide_eq_true h1
    have h2 := of_decide_eq_true h2
    exact decide_eq_true (Int.le_trans h1 h2)
  · unfold leI
    rw [Bool.or_eq_true, decide_eq_true_eq, decide_eq_true_eq]
    exact Int.le_total a b
theorem sortI_uniq {ns ms : List Int} (h1 : ms.Perm ns) (h2 : ms.Pairwise (· ≤ ·)) : ms = sortI ns :=
  List.Perm.eq_of_pairwise (fun _ _ _ _ => Int.le_antisymm) h2 (sortI_le ns) (h1.trans (sortI_perm ns).symm)
theorem sortI_length (ns : List Int) : (sortI ns).length = ns.length := (sortI_perm ns).length_eq
theorem sortP_perm (ps : List (Int × Int)) : (sortP ps).Perm ps := List.mergeSort_perm ps leP
theorem sortP_le (ps : List (Int × Int)) : (sortP ps).Pairwise (fun p q => leP p q = true) := by
  refine List.pairwise_mergeSort (le := leP) (fun a b c h1 h2 => ?_) (fun a b => ?_) ps
  · rw [leP_iff] at *
    omega
  · rw [Bool.or_eq_true, leP_iff, leP_iff]
    omega
theorem leP_anti {p q : Int × Int} (h1 : leP p q = true) (h2 : leP q p = true) : p = q := by
  rw [leP_iff] at *
  exact Prod.ext (by omega) (by omega)
theorem sortP_uniq {ps qs : List (Int × Int)} (h1 : qs.Perm ps) (h2 : qs.Pairwise (fun p q => leP p q = true)) : qs = sortP ps :=
  List.Perm.eq_of_pairwise (fun _ _ _ _ => leP_anti) h2 (sortP_le ps) (h1.trans (sortP_perm ps).symm)
theorem sortP_length (ps : List (Int × Int)) : (sortP ps).length = ps.length := (sortP_perm ps).length_eq
/-! ### as a call -/
abbrev pairD (p : Int × Int) : D := .tup [.int p.1, .int p.2]
def pairOf : D → Option (Int × Int)
  | .tup [.int i, .int j] => some (i, j)
  | _ => none
def pairsOf : List D → Option (List (Int × Int))
  | [] => some []
  | d :: ds => match pairOf d, pairsOf ds with
    | some p, some ps => some (p :: ps)
    | _, _ => none
theorem pairOf_eq {d : D} {p : Int × Int} (h : pairOf d = some p) : d = pairD p := by
  unfold pairOf at h
  split at h
  · cases h; rfl
  · cases h
theorem pairsOf_eq : ∀ {ds : List D} {ps : List (Int × Int)}, pairsOf ds = some ps → ds = ps.map pairD
  | [], _, h => by cases h; rfl
  | d :: ds, qs, h => by
    unfold pairsOf at h
    cases e1 : pairOf d with
    | none => rw [e1] at h; cases h
    | some p =>
      cases e2 : pairsOf ds with
      | none => rw [e1, e2] at h; cases h
      | some ps =>
        rw [e1, e2] at h
        cases h
        rw [pairOf_eq e1, pairsOf_eq e2]
        rfl
@[simp] theorem pairsOf_map (ps : List (Int × Int)) : pairsOf (ps.map pairD) = some ps := by
  induction ps with
  | nil => rfl
  | cons p ps ih => show (match pairOf (pairD p), pairsOf (ps.map pairD) with | some p, some ps => some (p :: ps) | _, _ => none) = _; rw [ih]; rfl
def keysI : List (Key × D) → Option (List Int)
  | [] => some []
  | (.inl i, _) :: kvs => (keysI kvs).map (i :: ·)
  | (.inr _, _) :: _ => none
theorem keysI_eq : ∀ {kvs : List (Key × D)} {ks : List Int}, keysI kvs = some ks → kvs.map (·.1) = ks.map Sum.inl
  | [], _, h => by cases h; rfl
  | (.inl i, _) :: kvs, ks, h => by
    obtain ⟨ms, h1, h2⟩ := Option.map_eq_some_iff.mp (show (keysI kvs).map (i :: ·) = some ks from h)
    subst h2
    show Sum.inl i :: kvs.map (·.1) = _
    rw [keysI_eq h1]
    rfl
  | (.inr _, _) :: _, _, h => by cases h
theorem repK_keys {w : Wd} {kvs : List (Key × D)} {us : List (Key × V)} (r : RepK X.K X.mg w kvs us) : kvs.map (·.1) = us.map (·.1) := by
  induction r with
  | nil => rfl
  | cons _ _ ih => exact congrArg (_ :: ·) ih
def dicOf (S : Store) : D → Option (List (Key × D))
  | .ref l => match S[l]? with
    | some (.dic kvs) => some kvs
    | _ => none
  | _ => none
theorem dicOf_rep {w : Wd} (R : HRep X.K X.mg w) {d : D} {x : V} {kvs : List (Key × D)} (r : RepV X.K X.mg w d x) (h : dicOf w.S d = some kvs) :
    ∃ l a us, d = .ref l ∧ w.ι[l]? = some a ∧ w.S[l]? = some (.dic kvs) ∧ x = .ref a ∧ w.H a = some (.dK us) ∧ RepK X.K X.mg w kvs us := by
  cases r with
  | @ref l a hl =>
    dsimp only [dicOf] at h
    cases e : w.S[l]? with
    | none => rw [e] at h; cases h
    | some c =>
      rw [e] at h
      cases c with
      | dic es =>
        cases h
        obtain ⟨us, h1, h2⟩ := R.cell l a _ hl e
        exact ⟨l, a, us, rfl, hl, e, rfl, h1, h2⟩
      | dead => cases h
      | lst _ => cases h
      | ins _ _ => cases h
  | _ => cases h
def bSorted (live : Bool) : D → Store → Res D := fun d S => match (dicOf S d).bind keysI with
  | some ns => newL live ((sortI ns).map D.int) S
  | none => match (listOf S d).bind intsOf with
    | some ns => newL live ((sortI ns).map D.int) S
    | none => match (listOf S d).bind pairsOf with
      | some ps => newL live ((sortP ps).map pairD) S
      | none => .stuck
theorem rep_pair {w : Wd} {p : Int × Int} {x : V} (r : RepV X.K X.mg w (pairD p) x) : ∃ t, x = .ref t ∧ SqT X.K w.H t [.int p.1, .int p.2] := by
  cases r with
  | tup h z rs =>
    cases rs with
    | cons r1 t1 =>
      cases t1 with
      | cons r2 t2 =>
        cases r1; cases r2; cases t2
        exact ⟨_, rfl, h⟩
theorem rep_pairs {w : Wd} : ∀ {ps : List (Int × Int)} {xs : List V}, RepVs X.K X.mg w (ps.map pairD) xs → ∀ x ∈ xs, ∃ p ∈ ps, RepV X.K X.mg w (pairD p) x
  | [], _, r, x, hx => by cases r; exact absurd hx (by simp)
  | p :: ps, _, r, x, hx => by
    rw [List.map_cons] at r
    cases r with
    | cons r t =>
      rcases List.mem_cons.mp hx with e | e
      · subst e
        exact ⟨p, List.mem_cons_self, r⟩
      · obtain ⟨q, hq, rq⟩ := rep_pairs t x e
        exact ⟨q, List.mem_cons_of_mem _ hq, rq⟩
open Classical in
/-- what pair stands at x -/
noncomputable def pk (K : PySem.W.Frag) (mg : Str → Option Value) (w : Wd) (x : V) : Int × Int := if h : ∃ p, RepV K mg w (pairD p) x then h.choose else (0, 0)
theorem pair_uniq {pins : List (Addr × Obj)} {σ : St} {w : Wd} {s : Shared} (I : Inv X pins σ w.H s) {x : V} {p q : Int × Int} (r : RepV X.K X.mg w (pairD p) x) (r' : RepV X.K X.mg w (pairD q) x) : p = q := by
  obtain ⟨t, e, h⟩ := rep_pair r
  obtain ⟨t', e', h'⟩ := rep_pair r'
  subst e
  cases e'
  obtain ⟨its, rv, tup, _⟩ := I.tuple h
  obtain ⟨its', rv', tup', _⟩ := I.tuple h'
  obtain ⟨o, ho, _, n, hd⟩ := tup
  obtain ⟨o', ho', _, n', hd'⟩ := tup'
  rw [ho] at ho'
  cases ho'
  rw [hd] at hd'
  have ei : its = its' := by simpa using (Data.seq.inj hd').1
  subst ei
  obtain ⟨u1, u2, e2, ⟨t1, q1⟩, ⟨t2, q2⟩⟩ := vals2 rv
  obtain ⟨v1, v2, e3, ⟨t3, q3⟩, ⟨t4, q4⟩⟩ := vals2 rv'
  subst e2
  cases e3
  rw [q1] at q3
  rw [q2] at q4
  exact Prod.ext (Value.int.inj q3).1 (Value.int.inj q4).1
theorem pk_spec {w : Wd} {p : Int × Int} {x : V} (r : RepV X.K X.mg w (pairD p) x) : RepV X.K X.mg w (pairD (pk X.K X.mg w x)) x := by
  have h : ∃ p, RepV X.K X.mg w (pairD p) x := ⟨p, r⟩
  unfold pk
  rw [dif_pos h]
  exact h.choose_spec
theorem pk_eq {pins : List (Addr × Obj)} {σ : St} {w : Wd} {s : Shared} (I : Inv X pins σ w.H s) {p : Int × Int} {x : V} (r : RepV X.K X.mg w (pairD p) x) : pk X.K X.mg w x = p := pair_uniq I (pk_spec r) r
theorem pk_map {pins : List (Addr × Obj)} {σ : St} {w : Wd} {s : Shared} (I : Inv X pins σ w.H s) : ∀ {ps : List (Int × Int)} {xs : List V}, RepVs X.K X.mg w (ps.map pairD) xs → xs.map (pk X.K X.mg w) = ps
  | [], _, r => by cases r; rfl
  | p :: ps, _, r => by
    rw [List.map_cons] at r
    cases r with
    | cons r t => rw [List.map_cons, pk_eq I r, pk_map I t]
theorem pk_rep {w : Wd} : ∀ (ys : List V), (∀ y ∈ ys, ∃ p, RepV X.K X.mg w (pairD p) y) → RepVs X.K X.mg w ((ys.map (pk X.K X.mg w)).map pairD) ys
  | [], _ => .nil
  | y :: ys, h => by
    obtain ⟨p, r⟩ := h y List.mem_cons_self
    exact .cons (pk_spec r) (pk_rep ys fun z hz => h z (List.mem_cons_of_mem _ hz))
theorem cd_sorted (hc : X.calm = true) (live : Bool) : CallD X W (.builtin "sorted") (f1 (bSorted live)) := fun pins s σ w ds xs us Q I R rd rv q => by
  match ds, rd, q with
  | [], _, q => exact q.elim
  | _ :: _ :: _, _, q => exact q.elim
  | [d], .cons (v := x) r .nil, q =>
    have q0 : PV X.K X.mg W σ w Q (bSorted live d w.S) := q
    unfold bSorted at q0
    cases e1 : (dicOf w.S d).bind keysI with
    | some ns =>
      rw [e1] at q0
      obtain ⟨kvs, d1, d2⟩ := Option.bind_eq_some_iff.mp e1
      obtain ⟨l, a, vs, rfl, hl, hs, rfl, hH, rk⟩ := dicOf_rep R r d1
      have hk : vs.map (·.1) = ns.map Sum.inl := (repK_keys rk).symm.trans (keysI_eq d2)
      have hz : ns.length ≤ sizeLine := by
        have z := (dk_rd I.hok (.inl hH)).1
        have := congrArg List.length hk
        rw [List.length_map, List.length_map] at this
        omega
      refine cr_keysI hc pins s σ w.H _ us Q I rv ⟨a, vs, ns, rfl, hH, hk, fun ms p h1 h2 hp => ?_⟩
      rw [sortI_uniq h1 h2]
      exact newL_post R (by rw [List.length_map, sortI_length]; exact hz) hp (ints_rep _) q0
    | none =>
      rw [e1] at q0
      dsimp only at q0
      cases e2 : (listOf w.S d).bind intsOf with
      | some ns =>
        rw [e2] at q0
        obtain ⟨es, d1, d2⟩ := Option.bind_eq_some_iff.mp e2
        have e3 := intsOf_eq d2
        subst e3
        obtain ⟨a, ys, rfl, hs, hz, rs⟩ := listOf_rep R r d1
        have e4 := rep_ints rs
        subst e4
        refine cr_sortedI pins s σ w.H _ us Q I rv ⟨a, ns, rfl, hs, fun ms p h1 h2 hp => ?_⟩
        rw [sortI_uniq h1 h2]
        rw [List.length_map] at hz
        exact newL_post R (by rw [List.length_map, sortI_length]; exact hz) hp (ints_rep _) q0
      | none =>
        rw [e2] at q0
        dsimp only at q0
        cases e3 : (listOf w.S d).bind pairsOf with
        | none => rw [e3] at q0; exact q0.elim
        | some ps =>
          rw [e3] at q0
          obtain ⟨es, d1, d2⟩ := Option.bind_eq_some_iff.mp e3
          have e5 := pairsOf_eq d2
          subst e5
          obtain ⟨a, ys, rfl, hs, hz, rs⟩ := listOf_rep R r d1
          have hm := rep_pairs rs
          refine cr_pairsT pins s σ w.H _ us Q I rv ⟨a, ys, pk X.K X.mg w, rfl, hs, fun y hy => ?_, fun zs p h1 h2 hp => ?_⟩
          · obtain ⟨p, _, rp⟩ := hm y hy
            exact rep_pair (pk_spec rp)
          · have ez : zs.map (pk X.K X.mg w) = sortP ps := by
              refine sortP_uniq ?_ ?_
              · have := h2.map (pk X.K X.mg w)
                rw [pk_map I rs] at this
                exact this
              · refine List.pairwise_map.mpr (h1.imp fun {x y} h => ?_)
                show (!SrtO.lexB (pk X.K X.mg w y) (pk X.K X.mg w x)) = true
                rw [show SrtO.lexB (pk X.K X.mg w y) (pk X.K X.mg w x) = false from h]
                rfl
            have rz := pk_rep (X := X) (w := w) zs fun z hz => by
              obtain ⟨p, _, rp⟩ := hm z (h2.mem_iff.mp hz)
              exact ⟨p, rp⟩
            rw [ez] at rz
            exact newL_post R (by rw [h2.length_eq]; exact hz) hp rz q0
end
end L3
end

section
set_option Elab.async false
set_option linter.all false
set_option maxRecDepth 100000
set_option maxHeartbeats 4000000
namespace L3
open PySem PySem.Spec L2

/-! ### repr -/
mutual
/-- texts of real code points -/
def pOk : PyData → Bool
  | .none => true
  | .bool _ => true
  | .int i => decide (i.natAbs.log2 < 1920)
  | .str x => x.cps.toList.all fun c => decide (c < 16 ^ 8)
  | .list xs => pOks xs
  | .tuple xs => pOks xs
  | .dict _ => false
def pOks : List PyData → Bool
  | [] => true
  | x :: xs => pOk x && pOks xs
end
mutual
def pSize : PyData → Nat
  | .none => 1
  | .bool _ => 1
  | .int _ => 1
  | .str x => x.length + 1
  | .list xs => pSizes xs + 1
  | .tuple xs => pSizes xs + 1
  | .dict _ => 1
def pSizes : List PyData → Nat
  | [] => 0
  | x :: xs => pSize x + pSizes xs
end
mutual
theorem pOk_show : ∀ p : PyData, pOk p = true → p.showable = true ∧ p.shown.length + 2 ≤ 1930 * pSize p
  | .none, _ => ⟨rfl, by show (("None" : String) : Str).length + 2 ≤ _; decide⟩
  | .bool b, _ => ⟨rfl, by cases b <;> decide⟩
  | .int i, h => ⟨h, by
    have z : (PyData.shown (.int i)).length ≤ 1921 := PyProof.Rows.int_text_len_1921 (of_decide_eq_true h)
    show _ ≤ 1930 * 1
    omega⟩
  | .str x, h => ⟨rfl, by
    have hx : ∀ c ∈ x.cps.toList, c < 16 ^ 8 := fun c hc => of_decide_eq_true (List.all_eq_true.mp (show (x.cps.toList.all fun c => decide (c < 16 ^ 8)) = true from h) c hc)
    have z := StrLaws.reprText_len x hx
    show (reprText x).length + 2 ≤ 1930 * (x.length + 1)
    omega⟩
  | .list xs, h => by
    have q := pOks_show xs h
    have z := listText_len_le (PyData.shownAll xs)
    refine ⟨q.1, ?_⟩
    show (listText (PyData.shownAll xs)).length + 2 ≤ 1930 * (pSizes xs + 1)
    have := q.2
    omega
  | .tuple xs, h => by
    have q := pOks_show xs h
    have z := tupleText_len_le (PyData.shownAll xs)
    refine ⟨q.1, ?_⟩
    show (tupleText (PyData.shownAll xs)).length + 2 ≤ 1930 * (pSizes xs + 1)
    have := q.2
    omega
  | .dict _, h => nomatch (show false = true from h)
theorem pOks_show : ∀ ps : List PyData, pOks ps = true → PyData.showableAll ps = true ∧ ((PyData.shownAll ps).map (·.length)).sum + 2 * (PyData.shownAll ps).length ≤ 1930 * pSizes ps
  | [], _ => ⟨rfl, Nat.le_refl _⟩
  | x :: xs, h => by
    have h' : (pOk x && pOks xs) = true := h
    rw [Bool.and_eq_true] at h'
    have a := pOk_show x h'.1
    have b := pOks_show xs h'.2
    refine ⟨by show (x.showable && PyData.showableAll xs) = true; rw [a.1, b.1]; rfl, ?_⟩
    show ((x.shown :: PyData.shownAll xs).map (·.length)).sum + 2 * ((PyData.shownAll xs).length + 1) ≤ 1930 * (pSize x + pSizes xs)
    rw [List.map_cons, List.sum_cons]
    have := a.2
    have := b.2
    omega
end
def reprOk (p : PyData) : Bool := pOk p && decide (p.depth ≤ 60) && decide (pSize p ≤ 8000)
theorem reprOk_fits {p : PyData} (h : reprOk p = true) : p.showable = true ∧ p.depth ≤ 60 ∧ p.shown.length ≤ sizeLine := by
  unfold reprOk at h
  rw [Bool.and_eq_true, Bool.and_eq_true] at h
  obtain ⟨⟨h1, h2⟩, h3⟩ := h
  have q := pOk_show p h1
  refine ⟨q.1, of_decide_eq_true h2, ?_⟩
  have z := q.2
  have h3 := of_decide_eq_true h3
  rw [sizeLine_eq]
  omega
def bRepr : D → Store → Res D := fun d S => match pyOf S d with
  | some p => if reprOk p = true then .ok (.str p.shown) S else .stuck
  | none => .stuck
section
variable {X : Cx} {W : WX}
theorem cd_repr (hg : X.A.guards = some []) (hu : X.A.units + 64 < cLine) : CallD X W (.builtin "repr") (f1 bRepr) := fun pins s σ w ds xs us Q I R rd rv q => by
  match ds, rd, q with
  | [], _, q => exact q.elim
  | _ :: _ :: _, _, q => exact q.elim
  | [d], .cons (v := x) r .nil, q =>
    have q0 : PV X.K X.mg W σ w Q (bRepr d w.S) := q
    unfold bRepr at q0
    cases e : pyOf w.S d with
    | none => rw [e] at q0; exact q0.elim
    | some p =>
      rw [e] at q0
      dsimp only at q0
      by_cases hp : reprOk p = true
      · rw [if_pos hp] at q0
        obtain ⟨h1, h2, h3⟩ := reprOk_fits hp
        obtain ⟨u, rfl, ru⟩ := vals1 rv
        obtain ⟨as, ra⟩ := reads_pyOf I R r ru e
        have hd := pyOf_noDict e
        have fin : ∀ h' t tk, (∀ b o, s.heap.get? b = some o → h'.get? b = some o) → EP X pins σ Q (.str p.shown t) { s with heap := h', toks := tk } := fun h' t tk hk => ⟨.str p.shown, w.H, I.kept hk, ⟨t, rfl⟩, PV.now R (.str _) q0⟩
        have big : ∀ a, u = .ref a → wpAny (model X.prog X.w) X.A (call (.builtin "repr") [u]) (EP X pins σ Q) X.xe s := fun a ea => by
          subst ea
          exact repr_of_reads' ra h1 (PyData.noDict_hsm hd) hg (by omega) (fun _ _ z => z) (fun h' t tk hk => fin h' t tk hk) h3
        cases d with
        | int i =>
          cases r
          obtain ⟨t, rfl⟩ := ru
          cases e
          exact PySem.P.repr_of_int (of_decide_eq_true (p := i.natAbs.log2 < 1920) h1) ⟨.str _, w.H, I.tok _, ⟨_, rfl⟩, PV.now R (.str _) q0⟩
        | tup ds => cases r; exact big _ ru
        | lst ds => cases r; exact big _ ru
        | frz ds => cases r; exact big _ ru
        | ref l => cases r; exact big _ ru
        | str z =>
          cases r
          obtain ⟨t, rfl⟩ := ru
          cases e
          exact PySem.P.repr_of_str ⟨.str _, w.H, I.tok _, ⟨_, rfl⟩, PV.now R (.str _) q0⟩ h3
        | non =>
          cases r; cases ru; cases e
          exact PySem.P.repr_of_none ⟨.str _, w.H, I.tok _, ⟨_, rfl⟩, PV.now R (.str _) q0⟩
        | bl b =>
          cases r; cases ru; cases e
          exact PySem.P.repr_of_bool ⟨.str _, w.H, I.tok _, ⟨_, rfl⟩, PV.now R (.str _) q0⟩
        | ty _ => cases e
        | gl _ => cases e
        | obj _ _ => cases e
      · rw [if_neg hp] at q0
        exact q0.elim
/-! ### isinstance -/
def tyD (S : Store) : D → Option String
  | .non => some "NoneType"
  | .bl _ => some "bool"
  | .int _ => some "int"
  | .str _ => some "str"
  | .tup _ => some "tuple"
  | .lst _ => some "list"
  | .frz _ => some "list"
  | .ref l => match S[l]? with
    | some (.lst _) => some "list"
    | some (.dic _) => some "dict"
    | _ => none
  | _ => none
theorem tyD_rep {w : Wd} (R : HRep X.K X.mg w) {d : D} {x : V} {n : String} (r : RepV X.K X.mg w d x) (h : tyD w.S d = some n) : TyX X.K w.H x (.type n) := by
  cases r with
  | non => cases h; exact .base .non
  | bl b => cases h; exact .base (.bl b)
  | int b => cases h; exact .base (.int b)
  | str b => cases h; exact .base (.str b)
  | ty b => cases h
  | gl b => cases h
  | obj _ _ _ _ => cases h
  | tup hs z rs =>
    cases h
    rcases hs with (hs | ⟨o, hs⟩) | ⟨o, its, n, h1, h2, _⟩
    · exact .base (.tup hs)
    · exact .fTuple hs
    · exact .kTuple h1 h2
  | lst hs _ _ _ => cases h; exact .base (.lst hs)
  | frz hs _ _ _ => cases h; exact .base (.frz hs)
  | @ref l a hl =>
    dsimp only [tyD] at h
    cases e : w.S[l]? with
    | none => rw [e] at h; cases h
    | some c =>
      rw [e] at h
      have q := R.cell l a c hl e
      cases c with
      | lst ds =>
        cases h
        obtain ⟨xs, q, _⟩ := q
        exact .base (.lst q)
      | dic ds =>
        cases h
        obtain ⟨xs, q, _⟩ := q
        exact .base (.dK q)
      | dead => cases h
      | ins _ _ => cases h
def tyTab : List (String × String × Bool) :=
  [("NoneType", "int", false), ("bool", "int", true), ("int", "int", true), ("str", "int", false), ("tuple", "int", false), ("list", "int", false), ("dict", "int", false),
   ("NoneType", "bool", false), ("bool", "bool", true), ("int", "bool", false), ("str", "bool", false), ("tuple", "bool", false), ("list", "bool", false), ("dict", "bool", false),
   ("NoneType", "tuple", false), ("bool", "tuple", false), ("int", "tuple", false), ("str", "tuple", false), ("tuple", "tuple", true), ("list", "tuple", false), ("dict", "tuple", false),
   ("NoneType", "str", false), ("bool", "str", false), ("int", "str", false), ("str", "str", true), ("tuple", "str", false), ("list", "str", false), ("dict", "str", false),
   ("NoneType", "list", false), ("bool", "list", false), ("int", "list", false), ("str", "list", false), ("tuple", "list", false), ("list", "list", true), ("dict", "list", false)]
def isTy (n T : String) : Option Bool := (tyTab.find? fun p => p.1 == n && p.2.1 == T).map (·.2.2)
theorem tyTab_ok : (tyTab.all fun p => kitB p.1 p.2.1 == some p.2.2) = true := by decide +kernel
theorem isTy_ok {K : PySem.W.Frag} {n T : String} {b : Bool} (h : isTy n T = some b) : PySem.W.kitOne K (.type n) (.type T) = some b := by
  unfold isTy at h
  obtain ⟨p, h1, h2⟩ := Option.map_eq_some_iff.mp h
  have m := List.mem_of_find?_eq_some h1
  have c := List.find?_some h1
  rw [Bool.and_eq_true] at c
  have e1 := eq_of_beq c.1
  have e2 := eq_of_beq c.2
  have q := List.all_eq_true.mp tyTab_ok p m
  rw [e1, e2, h2] at q
  exact kit_ty (eq_of_beq q)
/-- what an own class has to say -/
abbrev Isi := Str → D → Store → Option Bool
def IsiOk (X : Cx) (own : Isi) : Prop := ∀ (w : Wd) (c : Str) (a : Addr) (d : D) (x : V) (b : Bool), HRep X.K X.mg w → X.mg c = some (.ref a) → RepV X.K X.mg w d x → own c d w.S = some b → ∃ t, TyX X.K w.H x t ∧ PySem.W.kitOne X.K t (.ref a) = some b
def IsiTy (X : Cx) (own : String → D → Option Bool) : Prop := ∀ (w : Wd) (T : String) (d : D) (x : V) (b : Bool), HRep X.K X.mg w → RepV X.K X.mg w d x → own T d = some b → ∃ t, TyX X.K w.H x t ∧ PySem.W.kitOne X.K t (.type T) = some b
def bIsi (own : Isi) (ownT : String → D → Option Bool) : FM := fun ds S => match ds with
  | [d, .ty T] => match tyD S d with
    | some n => match isTy n T with
      | some b => .ok (.bl b) S
      | none => .stuck
    | none => match ownT T d with
      | some b => .ok (.bl b) S
      | none => .stuck
  | [d, .gl c] => match own c d S with
    | some b => .ok (.bl b) S
    | none => .stuck
  | _ => .stuck
theorem cd_isi {own : Isi} {ownT : String → D → Option Bool} (h : IsiOk X own) (hT : IsiTy X ownT) : CallD X W (.builtin "isinstance") (bIsi own ownT) := CallD.of call_isi fun σ w ds xs Q R rd q => by
  match ds, rd, q with
  | [d, .ty T], .cons (v := x) r (.cons (.ty _) .nil), q =>
    have q0 : PV X.K X.mg W σ w Q (match tyD w.S d with
      | some n => match isTy n T with
        | some b => .ok (.bl b) w.S
        | none => .stuck
      | none => match ownT T d with
        | some b => .ok (.bl b) w.S
        | none => .stuck) := q
    cases e1 : tyD w.S d with
    | none =>
      rw [e1] at q0
      dsimp only at q0
      cases e2 : ownT T d with
      | none => rw [e2] at q0; exact q0.elim
      | some b =>
        rw [e2] at q0
        obtain ⟨t, h1, h2⟩ := hT w T d x b R r e2
        exact ⟨x, .ty T, t, .type T, b, rfl, .ty T, h1, h2, PV.now R (.bl _) q0⟩
    | some n =>
      rw [e1] at q0
      dsimp only at q0
      cases e2 : isTy n T with
      | none => rw [e2] at q0; exact q0.elim
      | some b =>
        rw [e2] at q0
        exact ⟨x, .ty T, .type n, .type T, b, rfl, .ty T, tyD_rep R r e1, isTy_ok e2, PV.now R (.bl _) q0⟩
  | [d, .gl c], .cons (v := x) r (.cons (.gl (a := a) hc) .nil), q =>
    have q0 : PV X.K X.mg W σ w Q (match own c d w.S with
      | some b => .ok (.bl b) w.S
      | none => .stuck) := q
    cases e2 : own c d w.S with
    | none => rw [e2] at q0; exact q0.elim
    | some b =>
      rw [e2] at q0
      obtain ⟨t, h1, h2⟩ := h w c a d x b R hc r e2
      exact ⟨x, .ref a, t, .ref a, b, rfl, .own a, h1, h2, PV.now R (.bl _) q0⟩
/-- names of types that are built in -/
theorem pd_ty {x : Str} {T : String} {pos : Pos} (hg : Gl X x) (hm : X.mg x = none) (hv : bootBuiltins x = some (.type T)) (hn : x ≠ "__name__" := by decide) (hdb : (x == ("__debug__" : Str)) = false := by decide) : PD X W (.Name x pos) (eC (.ty T)) := pd_c (pe_bltn (v := .ty T) hg hm hv rfl hn hdb) fun _ => .ty T
end
end L3
end

section
set_option Elab.async false
set_option linter.all false
set_option maxRecDepth 100000
set_option maxHeartbeats 4000000
namespace L3
open PySem PySem.Spec L2

/-! ### walking a dict: it is locked meanwhile -/
def keyD : Key → D
  | .inl i => .int i
  | .inr x => .str x
def itemsD (kvs : List (Key × D)) : List D := kvs.map fun kv => .tup [keyD kv.1, kv.2]
def keysD (kvs : List (Key × D)) : List D := kvs.map fun kv => keyD kv.1
section
variable {K : PySem.W.Frag} {mg : Str → Option Value} {w w' : Wd} {l : Nat} {a : Addr} {kvs : List (Key × D)} {us : List (Key × V)} {od : Obj}
theorem key_rep (k : Key) : RepV K mg w (keyD k) (kV k) := by
  cases k with
  | inl i => exact .int i
  | inr x => exact .str x
theorem RepK.length (r : RepK K mg w kvs us) : kvs.length = us.length := by
  induction r with
  | nil => rfl
  | cons _ _ ih => exact congrArg (· + 1) ih
theorem RepK.get (r : RepK K mg w kvs us) : ∀ {i : Nat} {kv : Key × D}, kvs[i]? = some kv → ∃ v, us[i]? = some (kv.1, v) ∧ RepV K mg w kv.2 v := by
  induction r with
  | nil => intro i kv h; simp at h
  | cons r _ ih =>
    intro i kv h
    cases i with
    | zero => cases h; exact ⟨_, rfl, r⟩
    | succ i => exact ih h
theorem lock_nl (R : HRep K mg w) (hl : w.ι[l]? = some a) (hs : l < w.S.length) {o : HO} : NL (w.wr l a .dead o) a :=
  ⟨R.sep l a hl, fun l' e => by
    have : l' = l := R.inj l' l a e hl
    subst this
    exact List.getElem?_set_self hs⟩
theorem unlock (R : HRep K mg w) (hl : w.ι[l]? = some a) (hs : w.S[l]? = some (.dic kvs)) (hH : w.H a = some (.dK us)) (rk : RepK K mg w kvs us) (k : Keep (w.wr l a .dead (.frz od (.dK us))) w') (R' : HRep K mg w') :
    w'.H a = some (.frz od (.dK us)) ∧ Keep w (w'.wr l a (.dic kvs) (.dK us)) ∧ HRep K mg (w'.wr l a (.dic kvs) (.dK us)) ∧ Tr (fun _ => True) w' (w'.wr l a (.dic kvs) (.dK us)) := by
  have hlt := (List.getElem?_eq_some_iff.mp hs).1
  have nl := lock_nl R hl hlt (o := .frz od (.dK us))
  have hf : w'.H a = some (.frz od (.dK us)) := k.same a _ upd_same nl
  have hl' : w'.ι[l]? = some a := k.at hl
  have dead : w'.S[l]? = some .dead := k.dd l (List.getElem?_set_self hlt)
  have neA : ∀ b, NL w b → b ≠ a := fun b n e => by
    have := n.2 l (e ▸ hl)
    rw [hs] at this
    cases this
  have k0 : Keep w w' := (keep_wr R hl hs (fun z => nomatch z)).trans k
  have trr : Tr (fun _ => True) w' (w'.wr l a (.dic kvs) (.dK us)) := ⟨fun b o hb dt n => by
    have hb' : b ≠ a := fun e => by
      rw [e, hf] at hb
      cases hb
      exact dt
    exact ⟨(upd_ne hb').trans hb, n.1, fun l' e => by
      have e' : w'.ι[l']? = some b := e
      show (w'.S.set l (.dic kvs))[l']? = some Cell.dead
      rw [List.getElem?_set_ne fun z => ?_]
      · exact n.2 l' e'
      · subst z
        rw [hl'] at e'
        exact hb' (Option.some.inj e').symm⟩, fun _ _ _ h => h⟩
  have kk : Keep w (w'.wr l a (.dic kvs) (.dK us)) := by
    refine ⟨⟨fun b o hb n => (upd_ne (neA b n)).trans (k0.same b o hb n), k0.ext, k0.new, fun m hm => ?_, fun b hb => ?_, k0.hdd⟩, fun b hb => ?_⟩
    · show (w'.S.set l (.dic kvs))[m]? = some Cell.dead
      rw [List.getElem?_set_ne fun z => ?_]
      · exact k0.dd m hm
      · subst z
        rw [hs] at hm
        cases hm
    · by_cases e : b = a
      · have h' : upd w'.H a (.dK us) b = none := hb
        rw [e, upd_same] at h'
        cases h'
      · have h' : upd w'.H a (.dK us) b = none := hb
        rw [upd_ne e] at h'
        exact k0.nn b h'
    · exact (upd_ne fun e => R.sep l a hl (by rw [← e]; exact hb)).trans (k0.hk b hb)
  have hlt' := (List.getElem?_eq_some_iff.mp dead).1
  refine ⟨hf, kk, ⟨?_, R'.inj, fun m b hb => ?_, fun m b c hb hc => ?_, fun b hb => ?_, R'.sep⟩, trr⟩
  · show w'.ι.length = (w'.S.set l (.dic kvs)).length
    rw [List.length_set]
    exact R'.len
  · show upd w'.H a (.dK us) b ≠ none
    by_cases e : b = a
    · rw [e, upd_same]
      exact fun z => nomatch z
    · rw [upd_ne e]
      exact R'.occ m b hb
  · have hc' : (w'.S.set l (.dic kvs))[m]? = some c := hc
    by_cases e : m = l
    · subst e
      rw [List.getElem?_set_self hlt'] at hc'
      cases hc'
      have hb' : w'.ι[m]? = some b := hb
      rw [hl'] at hb'
      cases hb'
      exact ⟨us, upd_same, rk.keep R kk⟩
    · rw [List.getElem?_set_ne (Ne.symm e)] at hc'
      exact CRep.tr R' trr (upd_ne fun (z : b = a) => e (R'.inj m l b hb (by rw [z]; exact hl'))) (R'.cell m b c hb hc')
  · obtain ⟨xs, q⟩ := R'.hid b hb
    exact ⟨xs, (upd_ne fun e => R'.sep l a hl' (by rw [← e]; exact hb)).trans q⟩
theorem RepV.trT (R : HRep K mg w) (k : Tr (fun _ => True) w w') {d : D} {v : V} (r : RepV K mg w d v) : RepV K mg w' d v := r.tr R k (rf_mono (fun _ _ => trivial) d r.lt)
theorem ERep.trT (R : HRep K mg w) (k : Tr (fun _ => True) w w') {ρ : DEnv} {σ : St} (E : ERep K mg w ρ σ) : ERep K mg w' ρ σ :=
  ⟨E.1, fun i d h => by
    obtain ⟨v, h1, h2⟩ := E.2 i d h
    exact ⟨v, h1, h2.trT R k⟩⟩
end
/-- the dict is shown again -/
def unlk (l : Nat) (kvs : List (Key × D)) : SRes → SRes
  | .next ρ S => .next ρ (S.set l (.dic kvs))
  | .ret d S => .ret d (S.set l (.dic kvs))
  | .brk ρ S => .brk ρ (S.set l (.dic kvs))
  | .cnt ρ S => .cnt ρ (S.set l (.dic kvs))
  | _ => .stuck
def unlkE {α : Type} (l : Nat) (kvs : List (Key × D)) : Res α → Res α
  | .ok d S => .ok d (S.set l (.dic kvs))
  | _ => .stuck
/-- the dict in slot i, and its place -/
def dicAt (i : Nat) (ρ : DEnv) (S : Store) : Option (Nat × List (Key × D)) := match ρ[i]? with
  | some (some (.ref l)) => match S[l]? with
    | some (.dic kvs) => some (l, kvs)
    | _ => none
  | _ => none
theorem dicAt_eq {i : Nat} {ρ : DEnv} {S : Store} {l : Nat} {kvs : List (Key × D)} (h : dicAt i ρ S = some (l, kvs)) : ρ[i]? = some (some (.ref l)) ∧ S[l]? = some (.dic kvs) := by
  unfold dicAt at h
  split at h
  · split at h
    · cases h
      exact ⟨by assumption, by assumption⟩
    · cases h
  · cases h
def sLock (i : Nat) (m : List (Key × D) → SM) : SM := fun ρ S => match dicAt i ρ S with
  | some (l, kvs) => unlk l kvs (m kvs ρ (S.set l .dead))
  | none => .stuck
def eLock (i : Nat) (m : List (Key × D) → EM) : EM := fun ρ S => match dicAt i ρ S with
  | some (l, kvs) => unlkE l kvs (m kvs ρ (S.set l .dead))
  | none => .stuck
/-- a dict that is locked, in slot i -/
structure Lkd (K : PySem.W.Frag) (mg : Str → Option Value) (w : Wd) (σ : St) (i : Nat) (a : Addr) (od : Obj) (us : List (Key × V)) (kvs : List (Key × D)) : Prop where
  at_ : w.H a = some (.frz od (.dK us))
  nl : NL w a
  rep : RepK K mg w kvs us
  slot : σ[i]? = some (some (.ref a))
  len : kvs.length ≤ sizeLine
section
variable {X : Cx} {W : WX}
theorem dic_len {pins : List (Addr × Obj)} {σ : St} {H : Hp} {s : Shared} {a : Addr} {us : List (Key × V)} (I : Inv X pins σ H s) (h : H a = some (.dK us)) : us.length ≤ sizeLine := (dk_rd I.hok (.inl h)).1
theorem PS.conseqI {st : Stmt} {t t' : TS} (h : PS X st t) (hi : ∀ pins s D σ H, Inv X pins σ H s → t' D σ H → t D σ H) : PS X st t' := ⟨fun pins s σ H D I q => h.run pins s σ H D I (hi pins s D σ H I q)⟩
theorem PE.conseqI {e : Expr} {t t' : TE} (h : PE X e t) (hi : ∀ pins s σ H Q, Inv X pins σ H s → t' σ H Q → t σ H Q) : PE X e t' := ⟨fun pins s σ H Q I q => h.run pins s σ H Q I (hi pins s σ H Q I q)⟩
theorem sd_lock {st : Stmt} {t : TS} {i : Nat} {m : List (Key × D) → SM} (h : PS X st t)
    (ht : ∀ (σ : St) (w : Wd) (ρ : DEnv) (D' : Ends) (a : Addr) (od : Obj) (us : List (Key × V)) (kvs : List (Key × D)), Lkd X.K X.mg w σ i a od us kvs → HRep X.K X.mg w → ERep X.K X.mg w ρ σ → PostS X.K X.mg W D' w (m kvs ρ w.S) → t D' σ w.H) :
    PSD X W st (sLock i m) := PS.conseqI (ps_lock h) fun pins s D' σ H I ⟨ρ, w, ee, R, E, q⟩ => by
  subst ee
  unfold sLock at q
  cases hd : dicAt i ρ w.S with
  | none => rw [hd] at q; exact q.elim
  | some p =>
    obtain ⟨l, kvs⟩ := p
    rw [hd] at q
    dsimp only at q
    obtain ⟨h1, hs⟩ := dicAt_eq hd
    obtain ⟨v, hv, rv⟩ := E.2 i _ h1
    cases rv with
    | @ref _ a hl =>
      obtain ⟨us, hH, rk⟩ := R.cell l a _ hl hs
      refine ⟨a, .dK us, hH, trivial, fun od => ?_⟩
      have kw : Keep w (w.wr l a .dead (.frz od (.dK us))) := keep_wr R hl hs fun z => nomatch z
      have Rw : HRep X.K X.mg (w.wr l a .dead (.frz od (.dK us))) := hrep_wr R hl hs (fun z => nomatch z) trivial
      refine ht σ (w.wr l a .dead (.frz od (.dK us))) ρ _ a od us kvs ⟨upd_same, lock_nl R hl (List.getElem?_eq_some_iff.mp hs).1, rk.keep R kw, hv, by rw [rk.length]; exact dic_len I hH⟩ Rw (E.keep R kw) ?_
      show PostS X.K X.mg W _ _ (m kvs ρ (w.S.set l .dead))
      cases hm : m kvs ρ (w.S.set l .dead) with
      | next ρ' S' =>
        rw [hm] at q
        intro σ' w' k' R' e' E'
        subst e'
        obtain ⟨hf, kk, RR, tr⟩ := unlock R hl hs hH rk k' R'
        exact ⟨hf, q σ' _ kk RR rfl (E'.trT R' tr)⟩
      | ret d S' =>
        rw [hm] at q
        intro v w' k' R' e' r'
        subst e'
        obtain ⟨hf, kk, RR, tr⟩ := unlock R hl hs hH rk k' R'
        exact ⟨hf, q v _ kk RR rfl (r'.trT R' tr)⟩
      | brk ρ' S' =>
        rw [hm] at q
        intro σ' w' k' R' e' E'
        subst e'
        obtain ⟨hf, kk, RR, tr⟩ := unlock R hl hs hH rk k' R'
        exact ⟨hf, q σ' _ kk RR rfl (E'.trT R' tr)⟩
      | cnt ρ' S' =>
        rw [hm] at q
        intro σ' w' k' R' e' E'
        subst e'
        obtain ⟨hf, kk, RR, tr⟩ := unlock R hl hs hH rk k' R'
        exact ⟨hf, q σ' _ kk RR rfl (E'.trT R' tr)⟩
      | exc x ρ' S' => rw [hm] at q; exact q.elim
      | stuck => rw [hm] at q; exact q.elim
theorem pd_lock {e : Expr} {t : TE} {i : Nat} {m : List (Key × D) → EM} (h : PE X e t)
    (ht : ∀ (σ : St) (w : Wd) (ρ : DEnv) (Q : VK) (a : Addr) (od : Obj) (us : List (Key × V)) (kvs : List (Key × D)), Lkd X.K X.mg w σ i a od us kvs → HRep X.K X.mg w → ERep X.K X.mg w ρ σ → PV X.K X.mg W σ w Q (m kvs ρ w.S) → t σ w.H Q) :
    PD X W e (eLock i m) := PE.conseqI (pe_lock h) fun pins s σ H Q I ⟨ρ, w, ee, R, E, q⟩ => by
  subst ee
  unfold eLock at q
  cases hd : dicAt i ρ w.S with
  | none => rw [hd] at q; exact q.elim
  | some p =>
    obtain ⟨l, kvs⟩ := p
    rw [hd] at q
    dsimp only at q
    obtain ⟨h1, hs⟩ := dicAt_eq hd
    obtain ⟨v, hv, rv⟩ := E.2 i _ h1
    cases rv with
    | @ref _ a hl =>
      obtain ⟨us, hH, rk⟩ := R.cell l a _ hl hs
      refine ⟨a, .dK us, hH, trivial, fun od => ?_⟩
      have kw : Keep w (w.wr l a .dead (.frz od (.dK us))) := keep_wr R hl hs fun z => nomatch z
      have Rw : HRep X.K X.mg (w.wr l a .dead (.frz od (.dK us))) := hrep_wr R hl hs (fun z => nomatch z) trivial
      refine ht σ (w.wr l a .dead (.frz od (.dK us))) ρ _ a od us kvs ⟨upd_same, lock_nl R hl (List.getElem?_eq_some_iff.mp hs).1, rk.keep R kw, hv, by rw [rk.length]; exact dic_len I hH⟩ Rw (E.keep R kw) ?_
      show PV X.K X.mg W σ _ _ (m kvs ρ (w.S.set l .dead))
      cases hm : m kvs ρ (w.S.set l .dead) with
      | ok d S' =>
        rw [hm] at q
        intro w' k' R' e' v r'
        subst e'
        obtain ⟨hf, kk, RR, tr⟩ := unlock R hl hs hH rk k' R'
        exact ⟨hf, q _ kk RR rfl v (r'.trT R' tr)⟩
      | exc x S' => rw [hm] at q; exact q.elim
      | stuck => rw [hm] at q; exact q.elim
/-! ### its items, its keys -/
theorem walks_items {w : Wd} {σ : St} {i : Nat} {a : Addr} {od : Obj} {us : List (Key × V)} {kvs : List (Key × D)} (R : HRep X.K X.mg w) (L : Lkd X.K X.mg w σ i a od us kvs) : Walks X.K X.mg (Iti a od us) (itemsD kvs) [] w := fun j w' k' R' _ => by
  have hH := k'.same a _ L.at_ L.nl
  refine ⟨fun d hd => ?_, fun h => ⟨hH, ?_⟩⟩
  · unfold itemsD at hd
    rw [List.getElem?_map] at hd
    obtain ⟨kv, h1, h2⟩ := Option.map_eq_some_iff.mp hd
    subst h2
    obtain ⟨v, g1, g2⟩ := L.rep.get h1
    refine ⟨⟨hH, (List.getElem?_eq_some_iff.mp g1).1⟩, fun x H'' hy => ?_⟩
    obtain ⟨T, k, u, e1, e2, nT, e3⟩ := hy
    rw [g1] at e1
    cases e1
    subst e2 e3
    exact new_pair R' nT (.cons (key_rep kv.1) (.cons (g2.keepU R k') .nil))
  · unfold itemsD at h
    rw [List.length_map, L.rep.length] at h
    exact h
theorem walks_keys {w : Wd} {σ : St} {i : Nat} {a : Addr} {od : Obj} {us : List (Key × V)} {kvs : List (Key × D)} (R : HRep X.K X.mg w) (L : Lkd X.K X.mg w σ i a od us kvs) : Walks X.K X.mg (Itk a od us) (keysD kvs) [] w := fun j w' k' R' _ => by
  have hH := k'.same a _ L.at_ L.nl
  refine ⟨fun d hd => ?_, fun h => ⟨hH, ?_⟩⟩
  · unfold keysD at hd
    rw [List.getElem?_map] at hd
    obtain ⟨kv, h1, h2⟩ := Option.map_eq_some_iff.mp hd
    subst h2
    obtain ⟨v, g1, g2⟩ := L.rep.get h1
    refine ⟨⟨hH, (List.getElem?_eq_some_iff.mp g1).1⟩, fun x H'' hy => ?_⟩
    obtain ⟨e1, k, u, e2, e3⟩ := hy
    rw [g1] at e2
    cases e2
    subst e1 e3
    exact ⟨w', rfl, rfl, Keep.refl w', R', key_rep kv.1⟩
  · unfold keysD at h
    rw [List.length_map, L.rep.length] at h
    exact h
noncomputable def sForItems (i : Nat) (g : GM) (b : SM) : SM := sLock i fun kvs ρ S => sFor1 g b [] S (itemsD kvs) ρ S
noncomputable def sForKeys (i : Nat) (g : GM) (b : SM) : SM := sLock i fun kvs ρ S => sFor1 g b [] S (keysD kvs) ρ S
variable {iter tg e elt : Expr} {ifs : List Expr} {g : GM} {b : SM} {body : List Stmt} {pos apos cpos tpos : Pos} {i kk : Nat} {elts : List Expr} {scope : Scope} {own : List (Str × Nat)} {t : TM} {me : EM} {tt : Tgt}
theorem sd_forItems (hp : PassesOwn (model X.prog X.w) X.A X.env X.xe) (hc : X.calm = true) (he : PE X e (tVar i)) (hg : PGD X (.Tuple elts kk tpos) g) (hb : PSsD X W body b)
    (hbase : attributeBase e "items" X.env (eval e X.env) = eval e X.env := by rfl) (hline : (apos.endLine == cpos.line) = true := by rfl)
    (hs : ∀ x, foldedSetIterable (.Call (.Attribute e "items" apos) [] [] cpos) X.env x = pure x := by intro _; rfl) :
    PSD X W (.For (.Tuple elts kk tpos) (.Call (.Attribute e "items" apos) [] [] cpos) body [] pos) (sForItems i g b) :=
  sd_lock (ps_for hp hc (pi_items he hbase hline) hg hb hs) fun σ w ρ D' a od us kvs L R E q => by
    exact ⟨.ref a, L.slot, a, od, us, rfl, L.at_, for_rest R E q (walks_items R L)⟩
theorem sd_forKeys (hp : PassesOwn (model X.prog X.w) X.A X.env X.xe) (hc : X.calm = true) (he : PE X e (tVar i)) (hg : PGD X tg g) (hb : PSsD X W body b)
    (hs : ∀ x, foldedSetIterable e X.env x = pure x := by intro _; rfl) : PSD X W (.For tg e body [] pos) (sForKeys i g b) :=
  sd_lock (ps_for hp hc (pi_keys he) hg hb hs) fun σ w ρ D' a od us kvs L R E q => by
    exact ⟨.ref a, L.slot, a, od, rfl, .inl ⟨us, L.at_, for_rest R E q (walks_keys R L)⟩⟩
noncomputable def eCompItems (live : Bool) (i : Nat) (tt : Tgt) (t : TM) (me : EM) (vs : List Nat) : EM := eLock i fun kvs ρ S => (cLoop tt t me vs [] S ρ (itemsD kvs) [] S).bind fun ys S2 => newL live ys S2
noncomputable def eCompKeys (live : Bool) (i : Nat) (tt : Tgt) (t : TM) (me : EM) (vs : List Nat) : EM := eLock i fun kvs ρ S => (cLoop tt t me vs [] S ρ (keysD kvs) [] S).bind fun ys S2 => newL live ys S2
theorem pd_compItems (live : Bool) (hc : X.calm = true) (hN : X.N.Nodup) (hv : PE X e (tVar i)) (ok : BlkOk X.N X.env.scope scope own)
    (hg : ∀ (s : Shared) (H : Hp) (C : Addr) (cl : List (Str × Addr)) (fp : List Addr), PG (X.blk s H scope (compEnvC scope cl C X.env) fp) (.Tuple elts kk tpos) (tgOf X.K tt))
    (ht : ∀ (s : Shared) (H : Hp) (C : Addr) (cl : List (Str × Addr)) (fp : List Addr), PTsD (X.blk s H scope (compEnvC scope cl C X.env) fp) W0 ifs t)
    (he : ∀ (s : Shared) (H : Hp) (C : Addr) (cl : List (Str × Addr)) (fp : List Addr), PD (X.blk s H scope (compEnvC scope cl C X.env) fp) W0 elt me)
    (hsl : ∀ i ∈ tt.slots, i ∈ own.map (·.2) := by decide) (hs : ∀ x, foldedSetIterable (.Call (.Attribute e "items" apos) [] [] cpos) X.env x = pure x := by intro _; rfl)
    (hbase : attributeBase e "items" X.env (eval e X.env) = eval e X.env := by rfl) (hline : (apos.endLine == cpos.line) = true := by rfl) :
    PD X W (.ListComp elt [⟨.Tuple elts kk tpos, .Call (.Attribute e "items" apos) [] [] cpos, ifs, 0⟩] scope pos) (eCompItems live i tt t me (own.map (·.2))) :=
  pd_lock (pe_lc hc hN (pi_items hv hbase hline) ok hg ht he hs) fun σ w ρ Q a od us kvs L R E q => by
    refine ⟨.ref a, L.slot, a, od, us, rfl, L.at_, fun Dd hD => ?_⟩
    exact lc_rest (live := live) hsl R E (by unfold itemsD; rw [List.length_map]; exact L.len) q (walks_items R L) hD
theorem pd_compKeys (live : Bool) (hc : X.calm = true) (hN : X.N.Nodup) (hv : PE X e (tVar i)) (ok : BlkOk X.N X.env.scope scope own)
    (hg : ∀ (s : Shared) (H : Hp) (C : Addr) (cl : List (Str × Addr)) (fp : List Addr), PG (X.blk s H scope (compEnvC scope cl C X.env) fp) tg (tgOf X.K tt))
    (ht : ∀ (s : Shared) (H : Hp) (C : Addr) (cl : List (Str × Addr)) (fp : List Addr), PTsD (X.blk s H scope (compEnvC scope cl C X.env) fp) W0 ifs t)
    (he : ∀ (s : Shared) (H : Hp) (C : Addr) (cl : List (Str × Addr)) (fp : List Addr), PD (X.blk s H scope (compEnvC scope cl C X.env) fp) W0 elt me)
    (hsl : ∀ i ∈ tt.slots, i ∈ own.map (·.2) := by decide) (hs : ∀ x, foldedSetIterable e X.env x = pure x := by intro _; rfl) :
    PD X W (.ListComp elt [⟨tg, e, ifs, 0⟩] scope pos) (eCompKeys live i tt t me (own.map (·.2))) :=
  pd_lock (pe_lc hc hN (pi_keys hv) ok hg ht he hs) fun σ w ρ Q a od us kvs L R E q => by
    refine ⟨.ref a, L.slot, a, od, rfl, .inl ⟨us, L.at_, fun Dd hD => ?_⟩⟩
    exact lc_rest (live := live) hsl R E (by unfold keysD; rw [List.length_map]; exact L.len) q (walks_keys R L) hD
end
end L3
end

section
set_option Elab.async false
set_option linter.all false
set_option maxRecDepth 100000
set_option maxHeartbeats 4000000
namespace L3
open PySem PySem.Spec L2

/-! ### the first that is not stuck -/
def resAlt {α : Type} (a b : Res α) : Res α := match a with
  | .stuck => b
  | r => r
def sresAlt (a b : SRes) : SRes := match a with
  | .stuck => b
  | r => r
def eAlt (m1 m2 : EM) : EM := fun ρ S => resAlt (m1 ρ S) (m2 ρ S)
def tAlt (m1 m2 : TM) : TM := fun ρ S => resAlt (m1 ρ S) (m2 ρ S)
def sAlt (m1 m2 : SM) : SM := fun ρ S => sresAlt (m1 ρ S) (m2 ρ S)
def fAlt (m1 m2 : FM) : FM := fun ds S => resAlt (m1 ds S) (m2 ds S)
def oAlt (m1 m2 : Own2) : Own2 := fun a b S => resAlt (m1 a b S) (m2 a b S)
@[simp] theorem resAlt_ok {α : Type} (a : α) (S : Store) (b : Res α) : resAlt (.ok a S) b = .ok a S := rfl
@[simp] theorem resAlt_exc {α : Type} (x : Exc) (S : Store) (b : Res α) : resAlt (.exc x S) b = .exc x S := rfl
@[simp] theorem resAlt_stuck {α : Type} (b : Res α) : resAlt .stuck b = b := rfl
theorem resAlt_cases {α : Type} (a b : Res α) : resAlt a b = a ∨ resAlt a b = b := by
  cases a with
  | stuck => exact .inr rfl
  | _ => exact .inl rfl
theorem sresAlt_cases (a b : SRes) : sresAlt a b = a ∨ sresAlt a b = b := by
  cases a with
  | stuck => exact .inr rfl
  | _ => exact .inl rfl
section
variable {X : Cx} {W : WX} {e : Expr} {m1 m2 : EM} {t1 t2 : TM} {s1 s2 : SM} {st : Stmt} {f : Value} {f1' f2' : FM} {g : Value → Value → Sem Value} {o1 o2 : Own2}
theorem pd_alt (h1 : PD X W e m1) (h2 : PD X W e m2) : PD X W e (eAlt m1 m2) := ⟨fun pins s σ H Q I ⟨ρ, w, ee, R, E, q⟩ => by
  rcases resAlt_cases (m1 ρ w.S) (m2 ρ w.S) with e | e
  · exact h1.run pins s σ H Q I ⟨ρ, w, ee, R, E, by rw [← e]; exact q⟩
  · exact h2.run pins s σ H Q I ⟨ρ, w, ee, R, E, by rw [← e]; exact q⟩⟩
theorem td_alt (h1 : PTD X W e t1) (h2 : PTD X W e t2) : PTD X W e (tAlt t1 t2) := ⟨fun pins s σ H Q I ⟨ρ, w, ee, R, E, q⟩ => by
  rcases resAlt_cases (t1 ρ w.S) (t2 ρ w.S) with e | e
  · exact h1.run pins s σ H Q I ⟨ρ, w, ee, R, E, by rw [← e]; exact q⟩
  · exact h2.run pins s σ H Q I ⟨ρ, w, ee, R, E, by rw [← e]; exact q⟩⟩
theorem sd_alt (h1 : PSD X W st s1) (h2 : PSD X W st s2) : PSD X W st (sAlt s1 s2) := ⟨fun pins s σ H D' I ⟨ρ, w, ee, R, E, q⟩ => by
  rcases sresAlt_cases (s1 ρ w.S) (s2 ρ w.S) with e | e
  · exact h1.run pins s σ H D' I ⟨ρ, w, ee, R, E, by rw [← e]; exact q⟩
  · exact h2.run pins s σ H D' I ⟨ρ, w, ee, R, E, by rw [← e]; exact q⟩⟩
theorem CallD.alt (h1 : CallD X W f f1') (h2 : CallD X W f f2') : CallD X W f (fAlt f1' f2') := fun pins s σ w ds xs us Q I R rd rv q => by
  rcases resAlt_cases (f1' ds w.S) (f2' ds w.S) with e | e
  · exact h1 pins s σ w ds xs us Q I R rd rv (by rw [← e]; exact q)
  · exact h2 pins s σ w ds xs us Q I R rd rv (by rw [← e]; exact q)
theorem OpD.alt (h1 : OpD X W g o1) (h2 : OpD X W g o2) : OpD X W g (oAlt o1 o2) := fun pins s σ w d1 d2 x y v u Q I R r1 r2 rx ry q => by
  rcases resAlt_cases (o1 d1 d2 w.S) (o2 d1 d2 w.S) with e | e
  · exact h1 pins s σ w d1 d2 x y v u Q I R r1 r2 rx ry (by rw [← e]; exact q)
  · exact h2 pins s σ w d1 d2 x y v u Q I R r1 r2 rx ry (by rw [← e]; exact q)
end
/-! ### slices -/
abbrev OM := DEnv → Store → Res (Option Int)
def oNone : OM := fun _ S => .ok none S
def oSome (m : EM) : OM := fun ρ S => (m ρ S).bind fun d S1 => match d with
  | .int i => .ok (some i) S1
  | _ => .stuck
def cutD (ds : List D) (lo hi : Option Int) : List D := (ds.drop (HT.sIx ds.length 0 lo)).take (HT.sIx ds.length ds.length hi - HT.sIx ds.length 0 lo)
def slD (live : Bool) (d : D) (lo hi : Option Int) (S : Store) : Res D := match d with
  | .str z => if z.length ≤ sizeLine then .ok (.str (cutS z lo hi)) S else .stuck
  | .tup ds => .ok (.tup (cutD ds lo hi)) S
  | d => match listOf S d with
    | some ds => newL live (cutD ds lo hi) S
    | none => .stuck
def eSl (live : Bool) (ma : EM) (ml mu : OM) : EM := fun ρ S => (ma ρ S).bind fun d S1 => (ml ρ S1).bind fun l S2 => (mu ρ S2).bind fun u S3 => slD live d l u S3
section
variable {K : PySem.W.Frag} {mg : Str → Option Value} {w : Wd}
theorem RepVs.cut {ds : List D} {xs : List V} (r : RepVs K mg w ds xs) (lo hi : Option Int) : RepVs K mg w (cutD ds lo hi) (cutV xs lo hi) := by
  unfold cutD cutV
  rw [r.length]
  exact (r.drop _).take _
end
section
variable {X : Cx} {W : WX} {e : Expr} {ma : EM} {lo hi : Option Expr} {ml mu : OM} {pos p2 : Pos}
def tO (W : WX) (K : PySem.W.Frag) (mg : Str → Option Value) (m : OM) : TO := fun σ H Q => ∃ ρ w, w.H = H ∧ HRep K mg w ∧ ERep K mg w ρ σ ∧ Post K mg W σ w (fun o w' => Q o w'.H) (m ρ w.S)
abbrev POD (X : Cx) (W : WX) (e : Option Expr) (m : OM) : Prop := PO X e (tO W X.K X.mg m)
theorem pod_none : POD X W none oNone := ⟨fun pins s σ H Q I ⟨ρ, w, ee, R, E, q⟩ => by
  subst ee
  exact po_none.run pins s σ w.H Q I (Post.now R q rfl)⟩
theorem pod_some (h : PD X W e ma) : POD X W (some e) (oSome ma) := ⟨fun pins s σ H Q I ⟨ρ, w, ee, R, E, q⟩ => by
  subst ee
  refine (po_some h).run pins s σ w.H Q I (tM.of R E q fun d w1 v k1 R1 E1 r1 h1 => ?_)
  cases d with
  | int i => cases r1; exact ⟨i, rfl, Post.now R1 h1 rfl⟩
  | _ => exact h1.elim⟩
theorem tO.of {β : Type} {K : PySem.W.Frag} {mg : Str → Option Value} {w : Wd} {σ : St} {ρ : DEnv} {m : OM} {k : Option Int → Store → Res β} {P : β → Wd → Prop} {Q : Option Int → Hp → Prop} (R : HRep K mg w) (E : ERep K mg w ρ σ) (h : Post K mg W σ w P ((m ρ w.S).bind k))
    (hk : ∀ o w1, Keep w w1 → HRep K mg w1 → ERep K mg w1 ρ σ → Post K mg W σ w1 P (k o w1.S) → Q o w1.H) : tO W K mg m σ w.H Q :=
  ⟨ρ, w, rfl, R, E, Post.mono h.step fun b w1 k1 R1 h1 => hk b w1 k1 R1 (E.keep R k1) h1⟩
theorem pd_slice (live : Bool) (he : PD X W e ma) (hl : POD X W lo ml) (hu : POD X W hi mu) : PD X W (.Subscript e (.Slice lo hi none p2) pos) (eSl live ma ml mu) :=
  PE.conseq (pe_slice (SlR.or sl_list (SlR.or sl_tupA sl_str)) he hl hu) fun σ H Q ⟨ρ, w, ee, R, E, q⟩ => by
    subst ee
    refine tM.of R E q fun d w1 v k1 R1 E1 r1 h1 => ?_
    refine tO.of R1 E1 h1 fun l w2 k2 R2 E2 h2 => ?_
    refine tO.of R2 E2 h2 fun u w3 k3 R3 E3 h3 => ?_
    have r3 := r1.keep R1 (k2.trans k3)
    have lists : ∀ (z : PV X.K X.mg W σ w3 Q (match listOf w3.S d with
      | some ds => newL live (cutD ds l u) w3.S
      | none => .stuck)), rSlL X.K v l u w3.H Q := fun z => by
      cases e1 : listOf w3.S d with
      | none => rw [e1] at z; exact z.elim
      | some ds =>
        rw [e1] at z
        obtain ⟨a, xs, rfl, hs, hz, rs⟩ := listOf_rep R3 r3 e1
        exact ⟨a, xs, rfl, hs, fun p hp => newL_post R3 (Nat.le_trans (cutV_length xs l u) hz) hp (rs.cut l u) z⟩
    cases d with
    | str z =>
      cases r1
      have h3' : PV X.K X.mg W σ w3 Q (if z.length ≤ sizeLine then .ok (.str (cutS z l u)) w3.S else .stuck) := h3
      by_cases hz : z.length ≤ sizeLine
      · rw [if_pos hz] at h3'
        exact .inr (.inr ⟨z, rfl, hz, PV.now R3 (.str _) h3'⟩)
      · rw [if_neg hz] at h3'
        exact h3'.elim
    | tup ds =>
      cases r3 with
      | @tup _ a xs hs hz rs =>
        refine .inr (.inl ⟨a, xs, rfl, hs, fun hw => ?_, fun hw p hp => newT_post R3 (Nat.le_trans (cutV_length xs l u) hz) hp (rs.cut l u) h3⟩)
        have hc : cutD ds l u = ds := by
          unfold cutD
          rw [rs.length, hw.1, hw.2, List.drop_zero, Nat.sub_zero, ← rs.length, List.take_length]
        have h3' : PV X.K X.mg W σ w3 Q (.ok (.tup (cutD ds l u)) w3.S) := h3
        rw [hc] at h3'
        exact PV.now R3 (.tup hs hz rs) h3'
    | _ => exact .inl (lists h3)
end
/-! ### methods of what is built in -/
abbrev MM := D → List D → Store → Res D
def MetD (X : Cx) (W : WX) (id : String) (m : MM) : Prop :=
  ∀ (pins : List (Addr × Obj)) (s : Shared) (σ : St) (w : Wd) (d : D) (ds : List D) (x : V) (xs : List V) (v : Value) (us : List Value) (Q : VK), Inv X pins σ w.H s → HRep X.K X.mg w → RepV X.K X.mg w d x → RepVs X.K X.mg w ds xs → RelV x v → Vals xs us →
    PV X.K X.mg W σ w Q (m d ds w.S) → wpAny (model X.prog X.w) X.A (call (.builtin id) (v :: us)) (EP X pins σ Q) X.xe s
def recv (T : String) (S : Store) (d : D) : Bool := match d with
  | .str _ => T == "str"
  | d => (T == "list" && (listOf S d).isSome) || (T == "dict" && (dicOf S d).isSome)
def eMet (T : String) (m : MM) (mo : EM) (ma : AM) : EM := fun ρ S => (mo ρ S).bind fun d S1 => if recv T S1 d = true then (ma ρ S1).bind fun ds S2 => m d ds S2 else .stuck
section
variable {X : Cx} {W : WX} {o e : Expr} {es : List Expr} {mo : EM} {ma : AM} {name : Str} {apos cpos : Pos} {T id : String} {m : MM}
theorem MetD.of {r : V → List V → Hp → VK → Prop} (h : MtR X id r) (hr : ∀ (σ : St) (w : Wd) (d : D) (ds : List D) (x : V) (xs : List V) (Q : VK), HRep X.K X.mg w → RepV X.K X.mg w d x → RepVs X.K X.mg w ds xs → PV X.K X.mg W σ w Q (m d ds w.S) → r x xs w.H Q) : MetD X W id m :=
  fun pins s σ w d ds x xs v us Q I R r1 rs rx rv q => h pins s σ w.H x xs v us Q I rx rv (hr σ w d ds x xs Q R r1 rs q)
theorem recv_ty {w : Wd} {d : D} {x : V} (R : HRep X.K X.mg w) (r : RepV X.K X.mg w d x) (h : recv T w.S d = true) : tyV X.K T x w.H := by
  have refs : ((T == "list" && (listOf w.S d).isSome) || (T == "dict" && (dicOf w.S d).isSome)) = true → tyV X.K T x w.H := fun h => by
    rw [Bool.or_eq_true, Bool.and_eq_true, Bool.and_eq_true] at h
    rcases h with ⟨h1, h2⟩ | ⟨h1, h2⟩
    · obtain ⟨ds, e⟩ := Option.isSome_iff_exists.mp h2
      obtain ⟨a, xs, rfl, hs, _, _⟩ := listOf_rep R r e
      exact .inl ⟨eq_of_beq h1, xs, hs⟩
    · obtain ⟨ds, e⟩ := Option.isSome_iff_exists.mp h2
      obtain ⟨l, a, us, rfl, _, _, rfl, hs, _⟩ := dicOf_rep R r e
      exact .inr (.inr (.inl ⟨eq_of_beq h1, .inl ⟨us, hs⟩⟩))
  cases d with
  | str z =>
    cases r
    exact eq_of_beq h
  | _ => exact refs h
theorem pd_met0 (pa : PlainAttrs T) (slot : Slot T name id) (hty : typeOf (.builtin id) = pure (.type "method_descriptor")) (hm : MetD X W id m) (ho : PD X W o mo)
    (hbase : attributeBase o name X.env (eval o X.env) = eval o X.env := by rfl) (hline : (apos.endLine == cpos.line) = true := by rfl) : PD X W (.Call (.Attribute o name apos) [] [] cpos) (eMet T m mo aNil) := by
  refine ⟨fun pins s σ H Q I h => ?_⟩
  obtain ⟨ρ, w, ee, R, E, q⟩ := h
  subst ee
  refine wpAny_Call_method0_late hbase hline (ho.go I R E q fun d w1 x v s1 k1 R1 E1 r1 rv I1 h1 => ?_)
  by_cases hc : recv T w1.S d = true
  · rw [if_pos hc] at h1
    obtain ⟨g1, g2⟩ := tyV_is I1 rv (recv_ty R1 r1 hc)
    exact ⟨T, id, pa, slot, hty, g1, g2, Calls.callWith_builtin rfl (PySem.evalArgs_none (hm pins s1 σ w1 d [] x [] v [] Q I1 R1 r1 .nil rv .nil h1))⟩
  · rw [if_neg hc] at h1
    exact h1.elim
theorem pd_met (pa : PlainAttrs T) (slot : Slot T name id) (hty : typeOf (.builtin id) = pure (.type "method_descriptor")) (hm : MetD X W id m) (ho : PD X W o mo) (ha : PAD X W (e :: es) ma)
    (hbase : attributeBase o name X.env (eval o X.env) = eval o X.env := by rfl)
    (hfew : ((backTo cpos (starEach (e :: es) X.env)).all (fun x => !x.1) && (backToKw cpos (keywordEach [] X.env)).all (fun x => x.1.isSome) && decide ((e :: es).length + ([] : List Keyword).length + (if ([] : List Keyword).isEmpty then 0 else 1) < 30)) = true := by rfl)
    (hline : (apos.endLine == cpos.line) = true := by rfl) (hs : starEach (e :: es) X.env = (false, eval e X.env) :: starEach es X.env := by rfl) (hplain : (backTo cpos (starEach es X.env)).any (·.1) = false := by rfl) :
    PD X W (.Call (.Attribute o name apos) (e :: es) [] cpos) (eMet T m mo ma) := by
  refine ⟨fun pins s σ H Q I h => ?_⟩
  obtain ⟨ρ, w, ee, R, E, q⟩ := h
  subst ee
  refine wpAny_Call_method_late hbase hfew hline rfl (ho.go I R E q fun d w1 x v s1 k1 R1 E1 r1 rv I1 h1 => ?_)
  by_cases hc : recv T w1.S d = true
  · rw [if_pos hc] at h1
    obtain ⟨g1, g2⟩ := tyV_is I1 rv (recv_ty R1 r1 hc)
    refine ⟨T, id, pa, slot, hty, g1, g2, ?_⟩
    have hA := ha.go (pos := cpos) (T := fun us s2 => wpAny (model X.prog X.w) X.A (call (.builtin id) (v :: us)) (EP X pins σ Q) X.xe s2) I1 R1 E1 h1 fun ds w2 xs us s2 k2 R2 E2 rs rvs I2 h2 => hm pins s2 σ w2 d ds x xs v us Q I2 R2 (r1.keep R1 k2) rs rv rvs h2
    rw [hs] at hA ⊢
    refine Calls.callWith_builtin (by show (false || (backTo cpos (starEach es X.env)).any (·.1)) = false; rw [hplain]; rfl) (Calls.evalArgs_plain hA)
  · rw [if_neg hc] at h1
    exact h1.elim
/-! ### lists that change -/
def cellL (S : Store) : D → Option (Nat × List D)
  | .ref l => match S[l]? with
    | some (.lst ds) => some (l, ds)
    | _ => none
  | _ => none
theorem cellL_rep {w : Wd} {d : D} {x : V} {l : Nat} {ds : List D} (R : HRep X.K X.mg w) (r : RepV X.K X.mg w d x) (h : cellL w.S d = some (l, ds)) : ∃ a xs, d = .ref l ∧ x = .ref a ∧ w.ι[l]? = some a ∧ w.S[l]? = some (.lst ds) ∧ w.H a = some (.lst xs) ∧ xs.length ≤ sizeLine ∧ RepVs X.K X.mg w ds xs := by
  cases r with
  | @ref l' a hl =>
    dsimp only [cellL] at h
    cases e : w.S[l']? with
    | none => rw [e] at h; cases h
    | some c =>
      rw [e] at h
      cases c with
      | lst es =>
        cases h
        obtain ⟨xs, h1, z, h2⟩ := R.cell _ a _ hl e
        exact ⟨a, xs, rfl, rfl, hl, e, h1, z, h2⟩
      | dead => cases h
      | dic _ => cases h
      | ins _ _ => cases h
  | _ => cases h
theorem wrL_post {P : Wd → Prop} {w : Wd} {l : Nat} {a : Addr} {ds es : List D} {xs ys : List V} (R : HRep X.K X.mg w) (hl : w.ι[l]? = some a) (hs : w.S[l]? = some (.lst ds)) (hz : ys.length ≤ sizeLine) (r : RepVs X.K X.mg w es ys)
    (h : ∀ w', Keep w w' → HRep X.K X.mg w' → w'.S = w.S.set l (.lst es) → w'.H = upd w.H a (.lst ys) → P w') : P (w.wr l a (.lst es) (.lst ys)) := by
  have k : Keep w (w.wr l a (.lst es) (.lst ys)) := keep_wr R hl hs fun z => nomatch z
  exact h _ k (hrep_wr R hl hs (fun z => nomatch z) ⟨ys, upd_same, hz, r.keep R k⟩) rfl rfl
def mAppend : MM := fun d ds S => match cellL S d, ds with
  | some (l, xs), [y] => if xs.length < sizeLine then .ok .non (S.set l (.lst (xs ++ [y]))) else .stuck
  | _, _ => .stuck
theorem md_append : MetD X W "list.append" mAppend := MetD.of (r := rAppend) mt_append fun σ w d ds x xs Q R r rs q => by
  unfold mAppend at q
  cases e : cellL w.S d with
  | none => rw [e] at q; exact q.elim
  | some p =>
    obtain ⟨l, es⟩ := p
    rw [e] at q
    match ds, rs, q with
    | [y], .cons (v := v) ry .nil, q =>
      dsimp only at q
      by_cases hz : es.length < sizeLine
      · rw [if_pos hz] at q
        obtain ⟨a, ys, rfl, rfl, hl, hs, hH, z, rr⟩ := cellL_rep R r e
        refine ⟨a, ys, v, rfl, rfl, hH, by rw [← rr.length]; exact hz, ?_⟩
        have k : Keep w (w.wr l a (.lst (es ++ [y])) (.lst (ys ++ [v]))) := keep_wr R hl hs fun z => nomatch z
        exact q _ k (hrep_wr R hl hs (fun z => nomatch z) ⟨_, upd_same, by rw [List.length_append, ← rr.length]; exact hz, (rr.append (.one ry)).keep R k⟩) rfl .non .non
      · rw [if_neg hz] at q
        exact q.elim
theorem RepVs.dropLast {K : PySem.W.Frag} {mg : Str → Option Value} {w : Wd} {ds : List D} {xs : List V} (r : RepVs K mg w ds xs) : RepVs K mg w ds.dropLast xs.dropLast := by
  rw [List.dropLast_eq_take, List.dropLast_eq_take, r.length]
  exact r.take _
theorem RepVs.eraseIdx {K : PySem.W.Frag} {mg : Str → Option Value} {w : Wd} : ∀ {ds : List D} {xs : List V} (i : Nat), RepVs K mg w ds xs → RepVs K mg w (ds.eraseIdx i) (xs.eraseIdx i)
  | _, _, _, .nil => .nil
  | _, _, 0, .cons _ t => t
  | _, _, i + 1, .cons r t => .cons r (RepVs.eraseIdx i t)
def mPop : MM := fun d ds S => match cellL S d, ds with
  | some (l, xs), [] => match xs[xs.length - 1]? with
    | some y => .ok y (S.set l (.lst xs.dropLast))
    | none => .stuck
  | some (l, xs), [.int i] => if -(2 ^ 63) ≤ i ∧ i < 2 ^ 63 then (match seqIndex? i xs.length with
    | some k => match xs[k]? with
      | some y => .ok y (S.set l (.lst (xs.eraseIdx k)))
      | none => .stuck
    | none => .stuck) else .stuck
  | _, _ => .stuck
theorem md_pop : MetD X W "list.pop" mPop := MetD.of (r := fun x xs H Q => rPop x xs H Q ∨ rPopAt x xs H Q) (MtR.or mt_pop mt_popAt) fun σ w d ds x xs Q R r rs q => by
  unfold mPop at q
  cases e : cellL w.S d with
  | none => rw [e] at q; exact q.elim
  | some p =>
    obtain ⟨l, es⟩ := p
    rw [e] at q
    obtain ⟨a, ys, rfl, rfl, hl, hs, hH, z, rr⟩ := cellL_rep R r e
    match ds, rs, q with
    | [], .nil, q =>
      dsimp only at q
      cases h1 : es[es.length - 1]? with
      | none => rw [h1] at q; exact q.elim
      | some y =>
        rw [h1] at q
        obtain ⟨v, g1, g2⟩ := rr.get h1
        rw [rr.length] at g1
        refine .inl ⟨a, ys, v, rfl, rfl, hH, g1, ?_⟩
        have k : Keep w (w.wr l a (.lst es.dropLast) (.lst ys.dropLast)) := keep_wr R hl hs fun z => nomatch z
        exact q _ k (hrep_wr R hl hs (fun z => nomatch z) ⟨_, upd_same, by rw [List.length_dropLast]; omega, rr.dropLast.keep R k⟩) rfl v (g2.keep R k)
    | [.int i], .cons (.int _) .nil, q =>
      dsimp only at q
      by_cases hb : -(2 ^ 63) ≤ i ∧ i < 2 ^ 63
      · rw [if_pos hb] at q
        cases h1 : seqIndex? i es.length with
        | none => rw [h1] at q; exact q.elim
        | some k0 =>
          rw [h1] at q
          dsimp only at q
          cases h2 : es[k0]? with
          | none => rw [h2] at q; exact q.elim
          | some y =>
            rw [h2] at q
            obtain ⟨v, g1, g2⟩ := rr.get h2
            refine .inr ⟨a, ys, i, k0, v, rfl, rfl, hH, hb.1, hb.2, by rw [← rr.length]; exact h1, g1, ?_⟩
            have k : Keep w (w.wr l a (.lst (es.eraseIdx k0)) (.lst (ys.eraseIdx k0))) := keep_wr R hl hs fun z => nomatch z
            refine q _ k (hrep_wr R hl hs (fun z => nomatch z) ⟨_, upd_same, ?_, (rr.eraseIdx k0).keep R k⟩) rfl v (g2.keep R k)
            have := List.length_eraseIdx_le ys k0
            omega
      · rw [if_neg hb] at q
        exact q.elim
end
end L3
end

section
set_option Elab.async false
set_option linter.all false
set_option maxRecDepth 100000
set_option maxHeartbeats 4000000
namespace L3
open PySem PySem.Spec L2

/-! ### dicts that change -/
def keyOf : D → Option Key
  | .int i => some (.inl i)
  | .str x => some (.inr x)
  | _ => none
def valD (kvs : List (Key × D)) (k : Key) : Option D := (kvs.find? fun kv => decide (kv.1 = k)).map (·.2)
def putD (kvs : List (Key × D)) (k : Key) (d : D) : List (Key × D) := if (kvs.any fun kv => decide (kv.1 = k)) = true then kvs.map (fun kv => if kv.1 = k then (kv.1, d) else kv) else kvs ++ [(k, d)]
def dropD (kvs : List (Key × D)) (k : Key) : List (Key × D) := kvs.filter fun kv => decide (kv.1 ≠ k)
section
variable {K : PySem.W.Frag} {mg : Str → Option Value} {w : Wd} {kvs : List (Key × D)} {us : List (Key × V)} {k : Key}
theorem keyOf_rep {d : D} {x : V} (r : RepV K mg w d x) (h : keyOf d = some k) : x = kV k := by
  cases r with
  | int i => cases h; rfl
  | str x => cases h; rfl
  | _ => cases h
theorem RepK.any (r : RepK K mg w kvs us) (k : Key) : (kvs.any fun kv => decide (kv.1 = k)) = us.any fun kv => decide (kv.1 = k) := by
  induction r with
  | nil => rfl
  | cons _ _ ih => rw [List.any_cons, List.any_cons, ih]
theorem RepK.val (r : RepK K mg w kvs us) (k : Key) : (valD kvs k = none ∧ valV us k = none) ∨ ∃ d v, valD kvs k = some d ∧ valV us k = some v ∧ RepV K mg w d v := by
  induction r with
  | nil => exact .inl ⟨rfl, rfl⟩
  | @cons k' d v ds vs r t ih =>
    by_cases e : k' = k
    · refine .inr ⟨d, v, ?_, valV_pos e, r⟩
      simp [valD, List.find?_cons, e]
    · have e1 : valD ((k', d) :: ds) k = valD ds k := by simp [valD, List.find?_cons, e]
      have e2 : valV ((k', v) :: vs) k = valV vs k := valV_neg e
      rw [e1, e2]
      exact ih
theorem RepK.app {ls : List (Key × D)} {ws : List (Key × V)} (r : RepK K mg w kvs us) (q : RepK K mg w ls ws) : RepK K mg w (kvs ++ ls) (us ++ ws) := by
  induction r with
  | nil => exact q
  | cons r _ ih => exact .cons r ih
theorem RepK.put {d : D} {v : V} (r : RepK K mg w kvs us) (rv : RepV K mg w d v) : RepK K mg w (putD kvs k d) (putK us k v) := by
  unfold putD putK
  rw [r.any]
  by_cases h : (us.any fun kv => decide (kv.1 = k)) = true
  · rw [if_pos h, if_pos h]
    clear h
    induction r with
    | nil => exact .nil
    | @cons k' d' v' ds vs r t ih =>
      rw [List.map_cons, List.map_cons]
      by_cases e : k' = k
      · rw [if_pos e, if_pos e]
        exact .cons rv ih
      · rw [if_neg e, if_neg e]
        exact .cons r ih
  · rw [if_neg h, if_neg h]
    exact r.app (.cons rv .nil)
theorem RepK.drop (r : RepK K mg w kvs us) : RepK K mg w (dropD kvs k) (dropK us k) := by
  unfold dropD dropK
  induction r with
  | nil => exact .nil
  | @cons k' d' v' ds vs r t ih =>
    rw [List.filter_cons, List.filter_cons]
    by_cases e : k' = k
    · rw [if_neg (by simp [e]), if_neg (by simp [e])]
      exact ih
    · rw [if_pos (by simp [e]), if_pos (by simp [e])]
      exact .cons r ih
end
section
variable {X : Cx} {W : WX} {pos : Pos}
def eDic0 : EM := fun _ S => .ok (.ref S.length) (S ++ [.dic []])
theorem pd_dic0 : PD X W (.Dict [] [] pos) eDic0 := PE.conseq pe_dnewK fun σ H Q ⟨ρ, w, ee, R, E, q⟩ => by
  subst ee
  intro p hp
  have k : Keep w (w.mk1 p (.dic []) (.dK [])) := keep_mk1 R hp
  refine q _ k (hrep_mk1 R hp ⟨[], upd_same, .nil⟩) rfl (.ref p) (.ref ?_)
  show (w.ι ++ [p])[w.S.length]? = some p
  rw [← R.len, List.getElem?_append_right (Nat.le_refl _), Nat.sub_self]
  rfl
def cellD (S : Store) : D → Option (Nat × List (Key × D))
  | .ref l => match S[l]? with
    | some (.dic ds) => some (l, ds)
    | _ => none
  | _ => none
theorem cellD_rep {w : Wd} {d : D} {x : V} {l : Nat} {ds : List (Key × D)} (R : HRep X.K X.mg w) (r : RepV X.K X.mg w d x) (h : cellD w.S d = some (l, ds)) : ∃ a us, d = .ref l ∧ x = .ref a ∧ w.ι[l]? = some a ∧ w.S[l]? = some (.dic ds) ∧ w.H a = some (.dK us) ∧ RepK X.K X.mg w ds us := by
  cases r with
  | @ref l' a hl =>
    dsimp only [cellD] at h
    cases e : w.S[l']? with
    | none => rw [e] at h; cases h
    | some c =>
      rw [e] at h
      cases c with
      | dic es =>
        cases h
        obtain ⟨us, h1, h2⟩ := R.cell _ a _ hl e
        exact ⟨a, us, rfl, rfl, hl, e, h1, h2⟩
      | dead => cases h
      | lst _ => cases h
      | ins _ _ => cases h
  | _ => cases h
/-- d.get -/
def mGet : MM := fun d ds S => match cellD S d, ds with
  | some (_, kvs), [y] => match keyOf y with
    | some k => .ok ((valD kvs k).getD .non) S
    | none => .stuck
  | some (_, kvs), [y, z] => match keyOf y with
    | some k => .ok ((valD kvs k).getD z) S
    | none => .stuck
  | _, _ => .stuck
theorem md_get (hu : X.A.units + 1 < cLine) : MetD X W "dict.get" mGet := fun pins s σ w d ds x xs v us Q I R r rs rx rv q => by
  unfold mGet at q
  cases e : cellD w.S d with
  | none => rw [e] at q; exact q.elim
  | some p =>
    obtain ⟨l, kvs⟩ := p
    rw [e] at q
    obtain ⟨a, ks, rfl, rfl, hl, hs, hH, rk⟩ := cellD_rep R r e
    cases rx
    match ds, xs, us, rs, rv, q with
    | [y], [u1], [w1], .cons ry .nil, .cons q1 .nil, q =>
      dsimp only at q
      cases ek : keyOf y with
      | none => rw [ek] at q; exact q.elim
      | some k =>
        rw [ek] at q
        dsimp only at q
        have ey := keyOf_rep ry ek
        subst ey
        refine d_get1 hu I (DGet.k (k := k) hH) q1 fun w' s' I' rw' => ⟨_, w.H, I', rw', ?_⟩
        rcases rk.val k with ⟨h1, h2⟩ | ⟨d, v, h1, h2, h3⟩
        · rw [h1] at q
          rw [h2]
          exact PV.now R .non q
        · rw [h1] at q
          rw [h2]
          exact PV.now R h3 q
    | [y, z], [u1, u2], [w1, w2], .cons ry (.cons rz .nil), .cons q1 (.cons q2 .nil), q =>
      dsimp only at q
      cases ek : keyOf y with
      | none => rw [ek] at q; exact q.elim
      | some k =>
        rw [ek] at q
        dsimp only at q
        have ey := keyOf_rep ry ek
        subst ey
        refine d_get2 hu I (DGet.k (k := k) hH) q1 q2 fun w' s' I' rw' => ⟨_, w.H, I', rw', ?_⟩
        rcases rk.val k with ⟨h1, h2⟩ | ⟨d, v, h1, h2, h3⟩
        · rw [h1] at q
          rw [h2]
          exact PV.now R rz q
        · rw [h1] at q
          rw [h2]
          exact PV.now R h3 q
/-- d[k] -/
def oDGet : Own2 := fun a b S => match cellD S a, keyOf b with
  | some (_, kvs), some k => match valD kvs k with
    | some d => .ok d S
    | none => .stuck
  | _, _ => .stuck
theorem pd_dget {a b : Expr} {ma mb : EM} (hu : X.A.units + 1 < cLine) (ha : PD X W a ma) (hb : PD X W b mb) (hs : NoSl b) : PD X W (.Subscript a b pos) (eBin oDGet ma mb) :=
  PE.conseq (pe_dget hu ha hb hs) fun σ H Q ⟨ρ, w, ee, R, E, q⟩ => by
    subst ee
    refine tM.of R E q fun d w1 v k1 R1 E1 r1 h1 => ?_
    refine tM.of R1 E1 h1 fun d2 w2 v2 k2 R2 E2 r2 h2 => ?_
    unfold oDGet at h2
    cases e : cellD w2.S d with
    | none => rw [e] at h2; exact h2.elim
    | some p =>
      obtain ⟨l, kvs⟩ := p
      cases ek : keyOf d2 with
      | none => rw [e, ek] at h2; exact h2.elim
      | some k =>
        rw [e, ek] at h2
        dsimp only at h2
        obtain ⟨a, ks, rfl, rfl, hl, hs, hH, rk⟩ := cellD_rep R2 (r1.keep R1 k2) e
        have ey := keyOf_rep r2 ek
        subst ey
        rcases rk.val k with ⟨g1, g2⟩ | ⟨d, v, g1, g2, g3⟩
        · rw [g1] at h2
          exact h2.elim
        · rw [g1] at h2
          exact ⟨a, v, rfl, by rw [← g2]; exact DGet.k hH, PV.now R2 g3 h2⟩
/-- k in d -/
def oInD (neg : Bool) : Own2 := fun a b S => match cellD S b, keyOf a with
  | some (_, kvs), some k => .ok (.bl (if neg then !(valD kvs k).isSome else (valD kvs k).isSome)) S
  | _, _ => .stuck
theorem od_inD (hu : X.A.units + 1 < cLine) : OpD X W (compareOp .In) (oInD false) := fun pins s σ w d1 d2 x y v u Q I R r1 r2 rx ry q => by
  unfold oInD at q
  cases e : cellD w.S d2 with
  | none => rw [e] at q; exact q.elim
  | some p =>
    obtain ⟨l, kvs⟩ := p
    cases ek : keyOf d1 with
    | none => rw [e, ek] at q; exact q.elim
    | some k =>
      rw [e, ek] at q
      obtain ⟨a, ks, rfl, rfl, hl, hs, hH, rk⟩ := cellD_rep R r2 e
      have ey := keyOf_rep r1 ek
      subst ey
      cases ry
      refine d_in hu I (DGet.k (k := k) hH) rx fun s' I' => ⟨.bl _, w.H, I', rfl, ?_⟩
      have ee : (valV ks k).isSome = (valD kvs k).isSome := by
        rcases rk.val k with ⟨h1, h2⟩ | ⟨d, v, h1, h2, h3⟩ <;> rw [h1, h2] <;> rfl
      rw [ee]
      exact PV.now R (.bl _) q
theorem od_notInD (hu : X.A.units + 1 < cLine) : OpD X W (compareOp .NotIn) (oInD true) := fun pins s σ w d1 d2 x y v u Q I R r1 r2 rx ry q => by
  unfold oInD at q
  cases e : cellD w.S d2 with
  | none => rw [e] at q; exact q.elim
  | some p =>
    obtain ⟨l, kvs⟩ := p
    cases ek : keyOf d1 with
    | none => rw [e, ek] at q; exact q.elim
    | some k =>
      rw [e, ek] at q
      obtain ⟨a, ks, rfl, rfl, hl, hs, hH, rk⟩ := cellD_rep R r2 e
      have ey := keyOf_rep r1 ek
      subst ey
      cases ry
      refine d_notIn hu I (DGet.k (k := k) hH) rx fun s' I' => ⟨.bl _, w.H, I', rfl, ?_⟩
      have ee : (valV ks k).isSome = (valD kvs k).isSome := by
        rcases rk.val k with ⟨h1, h2⟩ | ⟨d, v, h1, h2, h3⟩ <;> rw [h1, h2] <;> rfl
      rw [ee]
      exact PV.now R (.bl _) q
/-! ### o[i] = v -/
def gIx (mo mi : EM) : GM := fun d ρ S => match mo ρ S with
  | .ok o S1 => match mi ρ S1 with
    | .ok i S2 => match cellL S2 o with
      | some (l, ds) => match i with
        | .int k => match ixN ds.length k with
          | some j => .next ρ (S2.set l (.lst (ds.set j d)))
          | none => .stuck
        | _ => .stuck
      | none => match cellD S2 o, keyOf i with
        | some (l, kvs), some k => if kvs.length < sizeLine then .next ρ (S2.set l (.dic (putD kvs k d))) else .stuck
        | _, _ => .stuck
    | _ => .stuck
  | _ => .stuck
theorem gIx_plain {mo mi : EM} : (gIx mo mi).plain := fun d ρ S => by
  unfold gIx
  split
  · split
    · split
      · split
        · split
          · exact .inl ⟨_, _, rfl⟩
          · exact .inr rfl
        · exact .inr rfl
      · split
        · split
          · exact .inl ⟨_, _, rfl⟩
          · exact .inr rfl
        · exact .inr rfl
    · exact .inr rfl
  · exact .inr rfl
theorem PSet.or {t t' : TSet} (h : PSet X t) (h' : PSet X t') : PSet X (fun o i v H Q => t o i v H Q ∨ t' o i v H Q) := fun pins s σ H o i v ov iv u Q I ro ri rv q => by
  rcases q with q | q
  · exact h pins s σ H o i v ov iv u Q I ro ri rv q
  · exact h' pins s σ H o i v ov iv u Q I ro ri rv q
theorem gd_ix {o i : Expr} {mo mi : EM} (hu : X.A.units + 1 < cLine) (ho : PD X W0 o mo) (hi : PD X W0 i mi)
    (ha : ∀ v, assign (.Subscript o i pos) X.env v = (do let x ← holding [v] (eval o X.env); let y ← holding [v, x] (eval i X.env); standAt pos; holding [v, x, y] (setItem x y v); release [v, x, y] []) := by intro _; rfl) : PGD X (.Subscript o i pos) (gIx mo mi) :=
  ⟨fun pins s σ H v u Q I r q => by
    obtain ⟨ρ, w, d, ee, R, E, rd, q⟩ := q
    subst ee
    refine (pg_sub ho hi (PSet.or set_list (set_dict hu)) ha).run pins s σ w.H v u Q I r ?_
    unfold gIx at q
    cases h1 : mo ρ w.S with
    | stuck => rw [h1] at q; exact q.elim
    | exc x S' => rw [h1] at q; exact q.elim
    | ok a S1 =>
      rw [h1] at q
      dsimp only at q
      refine ⟨ρ, w, rfl, R, E, ?_⟩
      rw [h1]
      intro w1 k1 R1 e1 x rx
      subst e1
      have E1 := E.keep R k1
      refine ⟨ρ, w1, rfl, R1, E1, ?_⟩
      cases h2 : mi ρ w1.S with
      | stuck => rw [h2] at q; exact q.elim
      | exc x S' => rw [h2] at q; exact q.elim
      | ok b S2 =>
        rw [h2] at q
        dsimp only at q
        intro w2 k2 R2 e2 y ry
        subst e2
        have E2 := E1.keep R1 k2
        have kk := k1.trans k2
        have rd2 := rd.keep R kk
        have rx2 := rx.keep R1 k2
        cases h3 : cellL w2.S a with
        | some p =>
          obtain ⟨l, ds⟩ := p
          rw [h3] at q
          dsimp only at q
          obtain ⟨p, xs, rfl, rfl, hl, hs, hH, z, rr⟩ := cellL_rep R2 rx2 h3
          cases b with
          | int k =>
            dsimp only at q
            cases ry
            cases hj : ixN ds.length k with
            | none => rw [hj] at q; exact q.elim
            | some j =>
              rw [hj] at q
              refine .inl ⟨p, xs, k, j, rfl, rfl, hH, by rw [← rr.length]; exact hj, ?_⟩
              have kw : Keep w2 (w2.wr l p (.lst (ds.set j d)) (.lst (xs.set j v))) := keep_wr R2 hl hs fun z => nomatch z
              exact q σ _ (kk.trans kw) (hrep_wr R2 hl hs (fun z => nomatch z) ⟨_, upd_same, by rw [List.length_set]; exact z, (rr.set rd2 j).keep R2 kw⟩) rfl (E2.keep R2 kw)
          | _ => exact q.elim
        | none =>
          rw [h3] at q
          dsimp only at q
          cases h4 : cellD w2.S a with
          | none => rw [h4] at q; exact q.elim
          | some p =>
            obtain ⟨l, kvs⟩ := p
            cases ek : keyOf b with
            | none => rw [h4, ek] at q; exact q.elim
            | some k =>
              rw [h4, ek] at q
              dsimp only at q
              by_cases hz : kvs.length < sizeLine
              · rw [if_pos hz] at q
                obtain ⟨p, us, rfl, rfl, hl, hs, hH, rk⟩ := cellD_rep R2 rx2 h4
                have ey := keyOf_rep ry ek
                subst ey
                refine .inr ⟨p, _, rfl, DPut.k hH (by rw [← rk.length]; exact hz), ?_⟩
                have kw : Keep w2 (w2.wr l p (.dic (putD kvs k d)) (.dK (putK us k v))) := keep_wr R2 hl hs fun z => nomatch z
                exact q σ _ (kk.trans kw) (hrep_wr R2 hl hs (fun z => nomatch z) ⟨_, upd_same, (rk.put rd2).keep R2 kw⟩) rfl (E2.keep R2 kw)
              · rw [if_neg hz] at q
                exact q.elim⟩
end
end L3
end

section
set_option Elab.async false
set_option linter.all false
set_option maxRecDepth 100000
set_option maxHeartbeats 4000000
namespace PySem
open Sem (wp)
open AutoSeq1 (wpAny_loadPart')
/-- enumerate(v), v whatever has an iterator -/
theorem l3_enum_new {v : Value} {o : Obj} {H : Heap → Prop} (B : Begins v o H) :
    Meets (Builtin.«enumerate.__new__» ⟨[.type "enumerate", v], []⟩) (fun _ R s => H s.heap ∧ R (.ok (.ret (.ref (s.heap.push o).objs.size))) { s with heap := (s.heap.push o).push { cls := .type "enumerate", data := .fields #[.none, .bool false, .ref s.heap.objs.size, rawInt 0, .none, .none] } }) :=
  .of_wp fun prog w A R s q => by
    obtain ⟨hp, gn, dr, tk, os⟩ := s
    obtain ⟨qh, q⟩ := q
    have hsub := sub_enumerate
    have it : ∀ {A' : Around} {E Q : Value → Shared → Prop}, Q (.ref hp.objs.size) ⟨hp.push o, gn, dr, tk, os⟩ → wpAny (model prog w) A' (pyIter v) Q E ⟨hp, gn, dr, tk, os⟩ := fun z => B.iter prog w _ _ ⟨hp, gn, dr, tk, os⟩ _ qh z
    wp_walk using it
    refine wpAny_stack_any fun fs => wpAny_pure ?_
    split
    · rename_i c _ _ _ _ _
      cases (c == Value.type "enumerate") <;> (wp_walk using it; exact ⟨_, rfl, q⟩)
    · wp_walk using it
      exact ⟨_, rfl, q⟩
section
variable {prog : Program} {w : World} {A : Around} {E : Value → Shared → Prop} {s : Shared}
theorem l3_enum_call {v : Value} {o : Obj} {H : Heap → Prop} {Q : Value → Shared → Prop} (B : Begins v o H) (qh : H s.heap)
    (q : ∀ h', IsEnum h' (s.heap.objs.size + 1) s.heap.objs.size 0 .none → h'.get? s.heap.objs.size = some o → (∀ b o, s.heap.get? b = some o → h'.get? b = some o) → Q (.ref (s.heap.objs.size + 1)) { s with heap := h' }) :
    wpAny (model prog w) A (call (.type "enumerate") [v]) Q E s := by
  refine callType_new F.called_enumerate (by decide) (F.typeCall_enumerate_1 _) (F.newCall_enumerate_1 _) (fun x => F.args_object_init_2 x _) F.entry_enumerate_new (l3_enum_new B) ⟨qh, ?_⟩
  have sz : (s.heap.push o).objs.size = s.heap.objs.size + 1 := Heap.size_push ..
  show _ ∧ _
  rw [sz]
  have en : ((s.heap.push o).push { cls := .type "enumerate", data := .fields #[.none, .bool false, .ref s.heap.objs.size, rawInt 0, .none, .none] }).get? (s.heap.objs.size + 1) = some { cls := .type "enumerate", data := .fields #[.none, .bool false, .ref s.heap.objs.size, rawInt 0, .none, .none] } := by
    have := Heap.get?_push_size (s.heap.push o) (o := { cls := .type "enumerate", data := .fields #[.none, .bool false, .ref s.heap.objs.size, rawInt 0, .none, .none] }) rfl
    rwa [sz] at this
  exact ⟨⟨_, en, rfl⟩, q _ en (Heap.get?_push_of_some _ (Heap.get?_push_size _ B.free)) fun b o x => Heap.get?_push_of_some _ (Heap.get?_push_of_some _ x)⟩
end
end PySem
namespace L3
open PySem PySem.Spec L2
/-- a tuple's items, each with its number -/
def IteT (K : PySem.W.Frag) (a : Addr) : It :=
  ⟨fun i H => ∃ (xs : List V) (x : V), SqT K H a xs ∧ xs[i]? = some x, fun i H v H' => ∃ T x, v = .ref T ∧ H T = none ∧ H' = upd H T (.tup [.int (i : Nat), x]) ∧ ∀ xs, SqT K H a xs → xs[i]? = some x, fun i H => ∃ xs : List V, SqT K H a xs ∧ xs.length ≤ i⟩
theorem turn_enumT {P : Program} {w : World} {K : PySem.W.Frag} {elts : List Expr} {kk : Nat} {tpos : Pos} (a e it : Addr) :
    Turn P w K (.Tuple elts kk tpos) (IteT K a) [e, it] e (fun i h => (∃ old, IsEnum h e it ((i : Nat) : Int) old) ∧ h.IsTupleIter it a i ∧ e ≠ it ∧ a ≠ it ∧ a ≠ e) where
  mem := List.mem_cons_self
  obj := fun i h st b hb => by
    obtain ⟨⟨old, he⟩, ⟨o, ho, hc, hd⟩, _⟩ := st
    rcases List.mem_cons.mp hb with z | z
    · subst z
      exact ⟨_, he, fun v q => nomatch q⟩
    · have z := List.mem_singleton.mp z
      subst z
      exact ⟨o, ho, fun v q => by rw [hd] at q; cases q⟩
  keep := fun i h h' st k => ⟨st.1.elim fun old he => ⟨old, k e (by simp) _ he⟩, st.2.1.at fun o q => k it (by simp) o q, st.2.2⟩
  item := by
    intro X hP hw hK hc i pins s σ H E I hf st hg
    subst hP hw hK
    obtain ⟨⟨old, he⟩, hit, hne, hai, hae⟩ := st
    obtain ⟨xs, x, hq, hx⟩ := hg
    obtain ⟨its, rv, p, hz⟩ := I.tuple hq
    obtain ⟨u, hu, ru⟩ := rv.get hx
    have le := Heap.lt_size he
    have li : it < s.heap.objs.size := hit.elim fun _ q => Heap.lt_size q.1
    have hlt : i < its.toArray.size := by
      have := (List.getElem?_eq_some_iff.mp hu).1
      simpa using this
    refine wpAny_pyNext_enum_itemC (Draws.tuple (A := X.A.in1) (I.ok.hd hc) it a hai its.toArray) he ⟨hit, p⟩ hlt hne (by simp [hne, Ne.symm hae]) fun y h' tk hy ho hs' hT hsz hk => ?_
    have ey : y = u := by
      have : its.toArray[i]? = some u := by simpa using hu
      rw [hy] at this
      exact Option.some.inj this
    subst ey
    refine ⟨_, rfl, wpAny_letOwnedTupleGo_enum (s := { s with heap := h', toks := tk + 1 }) ho fun h2 he2 sb => ?_⟩
    have hT2 := (sb.2 _ (Nat.ne_of_gt le)).trans hT
    have fr : H s.heap.objs.size = none := I.hok.fresh (Nat.le_refl _)
    have J : Inv X pins σ (upd H s.heap.objs.size (.tup [.int (i : Nat), x])) { s with heap := h2, toks := tk + 1 } := by
      refine I.turnedNew (ch := [e, it]) (fun b o hb q => ?_) hf (Nat.le_refl _) ⟨by show 2 ≤ sizeLine; decide, [.int i tk, y], .cons ⟨_, rfl⟩ (.cons ru .nil), ⟨_, hT2, rfl, _, rfl⟩⟩
      exact (sb.2 b fun z => hb (by simp [z])).trans (hk b o (fun z => hb (by simp [z])) (fun z => hb (by simp [z])) q)
    refine ⟨.ref s.heap.objs.size, _, J, rfl, ⟨_, x, rfl, fr, rfl, fun ys hy' => by rw [I.tuple_inj hy' hq]; exact hx⟩, ⟨⟨y, ?_⟩, hs'.1.at fun o q => (sb.2 it (Ne.symm hne)).trans q, hne, hai, hae⟩, fun b hb => ?_⟩
    · rw [show ((i + 1 : Nat) : Int) = (i : Int) + 1 by omega]
      exact he2
    · have lb : b < s.heap.objs.size := by
        rcases List.mem_cons.mp hb with z | z
        · rw [z]; exact le
        · rw [List.mem_singleton.mp z]; exact li
      exact (upd_ne (Nat.ne_of_lt lb)).trans (hf b hb).1
  done := by
    intro X hP hw hK hc i pins s σ H E I hf st hg
    subst hP hw hK
    obtain ⟨⟨old, he⟩, hit, hne, hai, hae⟩ := st
    obtain ⟨xs, hq, hx⟩ := hg
    obtain ⟨its, rv, p, hz⟩ := I.tuple hq
    have hl := rv.length
    have at_end : its.toArray[i]? = none := by simp; omega
    have DD : Draws X.prog X.w X.A.in1 it [it, a] i (fun _ _ => True) (fun j h => j = i ∧ h.IsTupleIter it a i ∧ h.IsTuple a its.toArray) :=
      { live := fun _ _ st => st.2.1.elim fun o z => ⟨o, z.1⟩
        frame := fun _ _ _ st k => ⟨st.1, st.2.1.at fun o z => k it (by simp) o z, st.2.2.at fun o z => k a (by simp) o z⟩
        item := fun j _ _ _ lt st _ => absurd st.1 (Nat.ne_of_lt lt)
        done := fun _ _ _ st hE => wpAny_nextOf_tuple_end (I.ok.hd hc) st.2.1 st.2.2 at_end hE }
    obtain ⟨f0, f1, f2, f3, f4, f5⟩ := hf it (by simp)
    exact wpAny_pyNext_enum_endD DD he ⟨rfl, hit, p⟩ fun h' hk => ⟨rfl, I.turned (t' := s.toks) (fun b o hb q => hk b o hb q) f0 f1 f3 f4 f5⟩
  self := fun A i s Q E st q => st.1.elim fun _ he => wpAny_pyIter_enum he q
section
variable {X : Cx} {W : WX} {e : Expr} {ma : AM} {p pos tpos : Pos} {elts : List Expr} {kk : Nat}
def iEnumT (K : PySem.W.Frag) (ta : TA) : TI := fun σ H R => ta σ H fun vs H1 => ∃ a xs, vs = [.ref a] ∧ SqT K H1 a xs ∧ R (IteT K a) H1
theorem pi_enumT {ta : TA} (hg : Gl X "enumerate") (hm : X.mg "enumerate" = none) (ha : PA X [e] ta) (hs : starEach [e] X.env = [(false, eval e X.env)] := by rfl) :
    PI X (.Tuple elts kk tpos) (.Call (.Name "enumerate" p) [e] [] pos) (iEnumT X.K ta) := ⟨fun pins s σ H R I h => by
  refine PyProof.Rows.Call_ (ld_blt I hg hm PyProof.Rows.boot_enumerate (PyProof.Rows.callWith_type1 (thn (ha.run pos pins s σ H _ I h) fun us s1 hq => ?_) hs rfl))
  obtain ⟨vs, H1, J, rv, a, xs, ez, hx, q⟩ := hq
  subst ez
  obtain ⟨u, eu, ru⟩ := vals1 rv
  subst eu
  cases ru
  obtain ⟨its, rx, tp, hz⟩ := J.tuple hx
  have la : a < s1.heap.objs.size := tp.elim fun o z => Heap.lt_size z.1
  refine l3_enum_call (begins_tuple a its.toArray) tp fun h' en io kp => wpAny_pyIter_enum en ?_
  refine ⟨s1.heap.objs.size + 1, [s1.heap.objs.size + 1, s1.heap.objs.size], _, _, H1, rfl, J.kept (t' := s1.toks) kp, turn_enumT a (s1.heap.objs.size + 1) s1.heap.objs.size,
    ⟨⟨.none, en⟩, ⟨_, io, rfl, rfl⟩, Nat.succ_ne_self _, Nat.ne_of_lt la, Nat.ne_of_lt (Nat.lt_succ_of_lt la)⟩, fun b hb => ?_, q⟩
  have le : s1.heap.objs.size ≤ b := by
    rcases List.mem_cons.mp hb with z | z
    · rw [z]; exact Nat.le_succ _
    · exact Nat.le_of_eq (List.mem_singleton.mp z).symm
  exact J.fpOk le (J.hok.fresh le)⟩
def iEnum1 (ma : AM) : IM := fun ρ S => (ma ρ S).bind fun ds S1 => match ds with
  | [d] => match tupOf d with
    | some xs => .ok (enumL 0 xs, []) S1
    | none => match listOf S1 d with
      | some xs => .ok (enumL 0 xs, srcOf d) S1
      | none => .stuck
  | _ => .stuck
theorem pid_enum (hg : Gl X "enumerate") (hm : X.mg "enumerate" = none) (ha : PAD X W [e] ma) (hs : starEach [e] X.env = [(false, eval e X.env)] := by rfl) :
    PID X W (.Tuple elts kk tpos) (.Call (.Name "enumerate" p) [e] [] pos) (iEnum1 ma) :=
  PI.conseq (PI.or (pi_enum hg hm ha hs) (pi_enumT hg hm ha hs)) fun σ H Rr ⟨ρ, w, ee, R, E, q⟩ => by
    subst ee
    have q0 : Post X.K X.mg W σ w (fun p w1 => p.1.length ≤ sizeLine → ∀ J, Walks X.K X.mg J p.1 p.2 w1 → Rr J w1.H) ((ma ρ w.S).bind fun ds S1 => match ds with
      | [d] => match tupOf d with
        | some xs => .ok (enumL 0 xs, []) S1
        | none => match listOf S1 d with
          | some xs => .ok (enumL 0 xs, srcOf d) S1
          | none => .stuck
      | _ => .stuck) := q
    cases hm : ma ρ w.S with
    | stuck => rw [hm] at q0; exact q0.elim
    | exc x S' =>
      refine .inl ⟨ρ, w, rfl, R, E, ?_⟩
      rw [hm] at q0 ⊢
      exact q0
    | ok ds S' =>
      rw [hm] at q0
      match ds, hm, q0 with
      | [], _, q0 => exact q0.elim
      | _ :: _ :: _, _, q0 => exact q0.elim
      | [d], hm, q0 =>
        dsimp only [Res.bind] at q0
        cases e1 : tupOf d with
        | some xs =>
          rw [e1] at q0
          refine .inr ⟨ρ, w, rfl, R, E, ?_⟩
          rw [hm]
          intro w' k' R' e' vs rs
          cases rs with
          | cons r t =>
            cases t
            obtain ⟨a, us, rfl, hq, z, ru⟩ := tupOf_rep r e1
            refine ⟨a, us, rfl, hq, q0 w' k' R' e' (by rw [enumL_length, ru.length]; exact z) _ fun i w2 k2 R2 _ => ?_⟩
            have hq2 := SqT.keepU R' k2 hq
            have ru2 := ru.keepU R' k2
            refine ⟨fun y hy => ?_, fun hl => ⟨us, hq2, by rw [enumL_length, ru.length] at hl; exact hl⟩⟩
            obtain ⟨b, rfl, hb⟩ := enumL_get hy
            obtain ⟨v, i1, s1⟩ := ru2.get hb
            refine ⟨⟨us, v, hq2, i1⟩, fun v' H'' hz => ?_⟩
            obtain ⟨T, z1, rfl, nT, rfl, f1⟩ := hz
            have ez := f1 _ hq2
            rw [i1] at ez
            cases ez
            rw [Nat.zero_add]
            exact new_pair R2 nT (.cons (.int _) (.cons s1 .nil))
        | none =>
          rw [e1] at q0
          dsimp only at q0
          refine .inl ⟨ρ, w, rfl, R, E, ?_⟩
          rw [hm]
          intro w' k' R' e' vs rs
          subst e'
          cases rs with
          | cons r t =>
            cases t
            cases e2 : listOf w'.S d with
            | none => rw [e2] at q0; exact q0.elim
            | some xs =>
              rw [e2] at q0
              obtain ⟨a, us, rfl, hq, z, ru⟩ := listOf_rep R' r e2
              refine ⟨a, us, rfl, hq, q0 w' k' R' rfl (by rw [enumL_length, ru.length]; exact z) _ fun i w2 k2 R2 e3 => ?_⟩
              obtain ⟨us2, hq2, ru2⟩ := list_at R' r e2 k2 R2 e3
              refine ⟨fun y hy => ?_, fun hl => ⟨us2, hq2, by rw [enumL_length, ru2.length] at hl; exact hl⟩⟩
              obtain ⟨b, rfl, hb⟩ := enumL_get hy
              obtain ⟨v, i1, s1⟩ := ru2.get hb
              refine ⟨⟨us2, v, hq2, i1⟩, fun v' H'' hz => ?_⟩
              obtain ⟨T, z1, rfl, nT, rfl, f1⟩ := hz
              have ez := f1 _ hq2
              rw [i1] at ez
              cases ez
              rw [Nat.zero_add]
              exact new_pair R2 nT (.cons (.int _) (.cons s1 .nil))
end
end L3
end

section
set_option Elab.async false
set_option linter.all false
set_option maxRecDepth 100000
set_option maxHeartbeats 4000000
namespace L3
open PySem PySem.Spec L2

/-! ### instances -/
def insOf (S : Store) : D → Option (Str × List (Str × D))
  | .obj c fs => some (c, fs)
  | .ref l => match S[l]? with
    | some (.ins c fs) => some (c, fs)
    | _ => none
  | _ => none
def putFD (f : Str) (d : D) : List (Str × D) → List (Str × D)
  | [] => [(f, d)]
  | (g, x) :: r => if g = f then (g, d) :: r else (g, x) :: putFD f d r
section
variable {K : PySem.W.Frag} {mg : Str → Option Value} {w : Wd} {fs : List (Str × D)} {gs : List (Str × V)} {f : Str}
theorem insOf_rep (R : HRep K mg w) {d : D} {x : V} {c : Str} (r : RepV K mg w d x) (h : insOf w.S d = some (c, fs)) : ∃ a C dx gs, x = .ref a ∧ mg c = some (.ref C) ∧ w.H a = some (.ins C dx gs) ∧ RepF K mg w fs gs := by
  cases r with
  | obj hc hs n r => cases h; exact ⟨_, _, _, _, rfl, hc, hs, r⟩
  | @ref l a hl =>
    dsimp only [insOf] at h
    cases e : w.S[l]? with
    | none => rw [e] at h; cases h
    | some c =>
      rw [e] at h
      cases c with
      | ins c fs =>
        cases h
        obtain ⟨C, dx, gs, h1, h2, h3⟩ := R.cell l a _ hl e
        exact ⟨a, C, dx, gs, rfl, h1, h2, h3⟩
      | dead => cases h
      | lst _ => cases h
      | dic _ => cases h
  | _ => cases h
theorem RepF.look : ∀ {fs : List (Str × D)} {gs : List (Str × V)}, RepF K mg w fs gs → (fs.lookup f = none ∧ gs.lookup f = none) ∨ ∃ d v, fs.lookup f = some d ∧ gs.lookup f = some v ∧ RepV K mg w d v
  | _, _, .nil => .inl ⟨rfl, rfl⟩
  | _, _, .cons (f := g) (d := d) (v := v) r t => by
    rw [List.lookup_cons, List.lookup_cons]
    cases e : f == g with
    | true => exact .inr ⟨d, v, rfl, rfl, r⟩
    | false => exact RepF.look t
theorem RepF.put {d : D} {v : V} (rv : RepV K mg w d v) : ∀ {fs : List (Str × D)} {gs : List (Str × V)}, RepF K mg w fs gs → RepF K mg w (putFD f d fs) (putF f v gs)
  | _, _, .nil => .cons rv .nil
  | _, _, .cons (f := g) r t => by
    unfold putFD putF
    by_cases e : g = f
    · rw [if_pos e, if_pos e]
      exact .cons rv t
    · rw [if_neg e, if_neg e]
      exact .cons r (RepF.put rv t)
theorem RepF.length : ∀ {fs : List (Str × D)} {gs : List (Str × V)}, RepF K mg w fs gs → fs.length = gs.length
  | _, _, .nil => rfl
  | _, _, .cons _ t => congrArg (· + 1) (RepF.length t)
end
/-! ### fields -/
/-- the classes cs have no attribute f of their own -/
def Plain (X : Cx) (cs : List Str) (f : Str) : Prop := ∀ c ∈ cs, ∃ C, X.mg c = some (.ref C) ∧ Cls X.K C ∧ NoAttr X.K C f
theorem Plain.at {X : Cx} {cs : List Str} {f c : Str} {C : Addr} (h : Plain X cs f) (hc : c ∈ cs) (hm : X.mg c = some (.ref C)) : Cls X.K C ∧ NoAttr X.K C f := by
  obtain ⟨C', h1, h2, h3⟩ := h c hc
  rw [hm] at h1
  cases h1
  exact ⟨h2, h3⟩
def eFld (cs : List Str) (f : Str) (mo : EM) : EM := fun ρ S => (mo ρ S).bind fun d S1 => match insOf S1 d with
  | some (c, fs) => if c ∈ cs then (match fs.lookup f with
    | some d => .ok d S1
    | none => .stuck) else .stuck
  | none => .stuck
section
variable {X : Cx} {W : WX} {e o : Expr} {pos pos' : Pos} {cs : List Str} {f : Str} {mo mv : EM}
theorem pd_fld (hc : Plain X cs f) (he : PD X W e mo) (hb : attributeBase e f X.env (eval e X.env) = eval e X.env := by rfl) : PD X W (.Attribute e f pos) (eFld cs f mo) :=
  PE.conseq (pe_fld he hb) fun σ H Q ⟨ρ, w, ee, R, E, q⟩ => by
    subst ee
    refine tM.of R E q fun d w1 v k1 R1 E1 r1 h1 => ?_
    cases e1 : insOf w1.S d with
    | none => rw [e1] at h1; exact h1.elim
    | some p =>
      obtain ⟨c, fs⟩ := p
      rw [e1] at h1
      dsimp only at h1
      by_cases hm : c ∈ cs
      · rw [if_pos hm] at h1
        obtain ⟨a, C, dx, gs, rfl, g1, g2, g3⟩ := insOf_rep R1 r1 e1
        have q := hc.at hm g1
        rcases g3.look (f := f) with ⟨l1, l2⟩ | ⟨d', v', l1, l2, rv⟩
        · rw [l1] at h1; exact h1.elim
        · rw [l1] at h1
          exact ⟨a, C, dx, gs, v', rfl, g2, q.1, q.2, l2, PV.now R1 rv h1⟩
      · rw [if_neg hm] at h1
        exact h1.elim
def cellI (S : Store) : D → Option (Nat × Str × List (Str × D))
  | .ref l => match S[l]? with
    | some (.ins c fs) => some (l, c, fs)
    | _ => none
  | _ => none
theorem cellI_rep {w : Wd} {d : D} {x : V} {l : Nat} {c : Str} {fs : List (Str × D)} (R : HRep X.K X.mg w) (r : RepV X.K X.mg w d x) (h : cellI w.S d = some (l, c, fs)) :
    ∃ a C dx gs, d = .ref l ∧ x = .ref a ∧ w.ι[l]? = some a ∧ w.S[l]? = some (.ins c fs) ∧ X.mg c = some (.ref C) ∧ w.H a = some (.ins C dx gs) ∧ RepF X.K X.mg w fs gs := by
  cases r with
  | @ref l' a hl =>
    dsimp only [cellI] at h
    cases e : w.S[l']? with
    | none => rw [e] at h; cases h
    | some c =>
      rw [e] at h
      cases c with
      | ins c fs =>
        cases h
        obtain ⟨C, dx, gs, h1, h2, h3⟩ := R.cell _ a _ hl e
        exact ⟨a, C, dx, gs, rfl, rfl, hl, e, h1, h2, h3⟩
      | dead => cases h
      | dic _ => cases h
      | lst _ => cases h
  | _ => cases h
/-- o.f = e -/
def sFldD (cs : List Str) (f : Str) (mo mv : EM) : SM := fun ρ S => sBind (mv ρ S) ρ fun d S1 => sBind (mo ρ S1) ρ fun o S2 => match cellI S2 o with
  | some (l, c, fs) => if c ∈ cs ∧ fs.length < 1000 then .next ρ (S2.set l (.ins c (putFD f d fs))) else .stuck
  | none => .stuck
theorem sd_fld {value : Expr} (hc : Plain X cs f) (ho : PD X W o mo) (hv : PD X W value mv) (hs : swapsWith value (some (.Attribute o f pos')) pos.line X.env = pure false := by rfl) :
    PSD X W (.Assign [.Attribute o f pos'] value pos) (sFldD cs f mo mv) := PS.conseq (ps_fld ho hv hs) fun D' σ H ⟨ρ, w, ee, R, E, q⟩ => by
  subst ee
  refine tM.ofS R E q fun d w1 v k1 R1 E1 r1 h1 => ?_
  refine tM.ofS R1 E1 h1 fun d2 w2 v2 k2 R2 E2 r2 h2 => ?_
  cases e1 : cellI w2.S d2 with
  | none => rw [e1] at h2; exact h2.elim
  | some p =>
    obtain ⟨l, c, fs⟩ := p
    rw [e1] at h2
    dsimp only at h2
    by_cases hm : c ∈ cs ∧ fs.length < 1000
    · rw [if_pos hm] at h2
      obtain ⟨a, C, dx, gs, rfl, rfl, hl, hS, g1, g2, g3⟩ := cellI_rep R2 r2 e1
      have q := hc.at hm.1 g1
      refine ⟨a, C, dx, gs, rfl, g2, q.1, q.2, by rw [← g3.length]; exact hm.2, ?_⟩
      have kw : Keep w2 (w2.wr l a (.ins c (putFD f d fs)) (.ins C dx (putF f v gs))) := keep_wr R2 hl hS fun z => nomatch z
      exact h2 σ _ kw (hrep_wr R2 hl hS (fun z => nomatch z) ⟨C, dx, _, g1, upd_same, (g3.put (r1.keep R1 k2)).keep R2 kw⟩) rfl (E2.keep R2 kw)
    · rw [if_neg hm] at h2
      exact h2.elim
end
/-! ### defs below the running one -/
section
variable {X : Cx} {W : WX} {k : Nat} {f : Addr} {fd : FuncData} {ps : List Str} {m : FM}
theorem runA {A : Around} {pins : List (Addr × Obj)} {σ : St} {wd : Wd} {s : Shared} {Q : VK} {us : List Value} {kw : List (Str × Value)} {ws : List Value} {vs : List V} {ds : List D} (F : FnG X.prog X.w X.K X.mg X.base k f fd ps m) (hr : Room k A) (hgd : A.guards = some []) (e0 : Env0 X.prog X.w X.K X.mg X.base A X.stack s wd.H) (tk : Takes X W)
    (hb : BindsTo s fd ⟨us, kw⟩ (ps.zip ws)) (I : Inv X pins σ wd.H s) (R : HRep X.K X.mg wd) (r : Vals vs ws) (rd : RepVs X.K X.mg wd ds vs) (h : PV X.K X.mg W σ wd Q (m ds wd.S)) : codeAny (model X.prog X.w) A (.call (.ref f) ⟨us, kw⟩) (fun r s' => match r with | .ok (.ret v) => EP X pins σ Q v s' | .ok _ => False | .error e => X.xe e s') s := by
  refine codeAny_mono (F.run A X.stack s wd ⟨us, kw⟩ ws vs ds Q (WE W σ) hr hgd e0 hb r R rd ?_) fun r s' hq => ?_
  · cases hm : m ds wd.S with
    | ok d S' => rw [hm] at h; exact h
    | exc x S' => rw [hm] at h; exact h
    | stuck => rw [hm] at h; exact h
  · cases r with
    | error e => exact passAt tk σ pins wd.H s e s' I hq
    | ok fl =>
      cases fl with
      | ret u => exact I.after hq
      | next => exact False.elim hq
      | brk => exact False.elim hq
      | cont => exact False.elim hq
/-- f as it is called by the running def, or right below it: with the values of its parameters -/
def Lvl (X : Cx) (A : Around) : Prop := A = X.A ∨ A = X.A.in1 ∨ A = X.A.in1.in1
structure FnD (X : Cx) (W : WX) (f : Addr) (m : FM) : Prop where
  call : ∀ (A : Around) (pins : List (Addr × Obj)) (s : Shared) (σ : St) (w : Wd) (ds : List D) (xs : List V) (us : List Value) (Q : VK), Lvl X A → Inv X pins σ w.H s → HRep X.K X.mg w → RepVs X.K X.mg w ds xs → Vals xs us →
    PV X.K X.mg W σ w Q (m ds w.S) → codeAny (model X.prog X.w) A (.call (.ref f) ⟨us, []⟩) (fun r s' => match r with | .ok (.ret v) => EP X pins σ Q v s' | .ok _ => False | .error e => X.xe e s') s
theorem FnD.at {A : Around} (F : FnD X W f m) (hA : Lvl X A) {pins : List (Addr × Obj)} {s : Shared} {σ : St} {w : Wd} {ds : List D} {xs : List V} {us : List Value} {Q : VK} (I : Inv X pins σ w.H s) (R : HRep X.K X.mg w) (rd : RepVs X.K X.mg w ds xs) (rv : Vals xs us)
    (q : PV X.K X.mg W σ w Q (m ds w.S)) : wpAny (model X.prog X.w) A (PySem.call (.ref f) us) (EP X pins σ Q) X.xe s :=
  wpAny_call (codeAny_mono (F.call A pins s σ w ds xs us Q hA I R rd rv q) fun r s' hq => hq)
theorem FnD.cd (F : FnD X W f m) : CallD X W (.ref f) m := fun pins s σ w ds xs us Q I R rd rv q => F.at (.inl rfl) I R rd rv q
theorem in1_guards {A : Around} (h : A.guards = some []) : A.in1.guards = some [] := h
theorem fnD_of {dvs : List V} {dv : List Value} {dd : List D} (F : FnG X.prog X.w X.K X.mg X.base k f fd ps m) (hr : Room (k + 2) X.A) (hgd : X.A.guards = some []) (tk : Takes X W) (hb : Binds X.K fd ps dv) (hd : Vals dvs dv) (hdd : ∀ w, RepVs X.K X.mg w dd dvs) :
    FnD X W f (fun ds S => m (ds ++ dd) S) := ⟨fun A pins s σ w ds xs us Q hA I R rd rv q => by
  have rr := rd.append (hdd w)
  have rv2 : Vals (xs ++ dvs) (us ++ dv) := rv.append hd
  have hl : (us ++ dv).length = ps.length := by rw [← rv2.length, ← rr.length]; exact F.len' q
  rcases hA with rfl | rfl | rfl
  · exact runA F (hr.mono (by omega)) hgd I.env0 tk (hb s us I.kIn hl) I R rv2 rr q
  · exact runA F ((show Room (k + 1 + 1) X.A from hr).in1.mono (by omega)) (in1_guards hgd) I.env0.in1 tk (hb s us I.kIn hl) I R rv2 rr q
  · exact runA F ((show Room (k + 1 + 1) X.A from hr).in1.in1) (in1_guards (in1_guards hgd)) I.env0.in1.in1 tk (hb s us I.kIn hl) I R rv2 rr q⟩
theorem fnD_all (F : FnG X.prog X.w X.K X.mg X.base k f fd ps m) (hr : Room (k + 2) X.A) (hgd : X.A.guards = some []) (tk : Takes X W) (hb : Binds X.K fd ps []) : FnD X W f m := by
  have z := fnD_of (dvs := []) (dd := []) F hr hgd tk hb .nil fun _ => .nil
  have e : (fun ds S => m (ds ++ []) S) = m := by
    funext ds S
    rw [List.append_nil]
  rw [e] at z
  exact z
variable {x : Str} {p pos : Pos} {e : Expr} {es : List Expr} {ma : AM}
/-- f(e, ..): a def or a class of the module -/
theorem pd_callN (F : CallD X W (.ref f) m) (hg : Gl X x) (hm : X.mg x = some (.ref f)) (hk : PySem.W.keepIn X.K (.ref f) = true) (ha : PAD X W (e :: es) ma)
    (hdb : (x == ("__debug__" : Str)) = false := by decide) (he : starEach (e :: es) X.env = (false, eval e X.env) :: starEach es X.env := by rfl) (hpl : (backTo pos (starEach es X.env)).any (·.1) = false := by rfl) :
    PD X W (.Call (.Name x p) (e :: es) [] pos) (eApp m ma) := by
  refine ⟨fun pins s σ H Q I h => ?_⟩
  obtain ⟨ρ, w, ee, R, E, q⟩ := h
  subst ee
  refine wpAny_Call_Name_kw (ld_glob I hg hm ?_ hdb)
  exact PySem.W.callWith_K (h₀ := X.base) I.ok.mod.kin hk (ha.go (pos := pos) I R E q fun ds w1 vs us s1 k1 R1 E1 r1 rv I1 h1 => ⟨I1.kIn, F pins s1 σ w1 ds vs us Q I1 R1 r1 rv h1⟩) he hpl
theorem pd_callN0 (F : CallD X W (.ref f) m) (hg : Gl X x) (hm : X.mg x = some (.ref f)) (hk : PySem.W.keepIn X.K (.ref f) = true) (hdb : (x == ("__debug__" : Str)) = false := by decide) : PD X W (.Call (.Name x p) [] [] pos) (eApp m aNil) := by
  refine ⟨fun pins s σ H Q I h => ?_⟩
  obtain ⟨ρ, w, ee, R, E, q⟩ := h
  subst ee
  refine wpAny_Call_Name_kw (ld_glob I hg hm ?_ hdb)
  exact PySem.W.callWith_K0 I.kIn hk (F pins s σ w [] [] [] Q I R .nil .nil q)
end
end L3
end

section
set_option Elab.async false
set_option linter.all false
set_option maxRecDepth 100000
set_option maxHeartbeats 4000000
namespace L3
open PySem PySem.Spec L2

/-! ### made -/
noncomputable def mMake (live : Bool) (c : Str) (mi : FM) : FM := fun ds S => match mi (.ref S.length :: ds) (S ++ [.ins c []]) with
  | .ok .non S2 => fin live S (.ref S.length) S2
  | .exc x S2 => finX S x S2
  | _ => .stuck
theorem make_guards {A : Around} {C : Addr} {us : List Value} {kw : List (Str × Value)} (h : A.guards = some []) : (A.under (.builtin "type.__call__" ⟨.ref C :: us, kw⟩)).guards = some [] := by
  first | exact h | simp [Around.under, Code.isGuard, guardIds, h]
section
variable {X : Cx} {W : WX} {k : Nat} {C f : Addr} {fd : FuncData} {ps : List Str} {mi : FM} {c : Str}
theorem runMake (live : Bool) {pins : List (Addr × Obj)} {s : Shared} {σ : St} {w : Wd} {ds : List D} {xs : List V} {us ws : List Value} {kw : List (Str × Value)} {Q : VK} (M : Mk X.K C f) (hm : X.mg c = some (.ref C)) (F : FnG X.prog X.w X.K X.mg X.base k f fd ps mi) (hr : Room (k + 1) X.A) (hgd : X.A.guards = some []) (tk : Takes X W)
    (hb : ∀ s' : Shared, X.K.In s'.heap → BindsTo s' fd ⟨.ref (s.heap.objs.size + 1) :: us, kw⟩ (ps.zip (.ref (s.heap.objs.size + 1) :: ws))) (I : Inv X pins σ w.H s) (R : HRep X.K X.mg w) (rd : RepVs X.K X.mg w ds xs) (rv : Vals xs ws) (q : PV X.K X.mg W σ w Q (mMake live c mi ds w.S)) :
    wpAny (model X.prog X.w) X.A (call (.ref C) us kw) (EP X pins σ Q) X.xe s := by
  have ndx : w.H s.heap.objs.size = none := I.hok.fresh (Nat.le_refl _)
  have nx : w.H (s.heap.objs.size + 1) = none := I.hok.fresh (Nat.le_succ _)
  have ne : s.heap.objs.size ≠ s.heap.objs.size + 1 := Nat.ne_of_lt (Nat.lt_succ_self _)
  have I2 := Inv.made (C := C) I
  have k1 : Keep w (w.put s.heap.objs.size (.own (s.heap.objs.size + 1))) := keep_put R ndx
  have R1 : HRep X.K X.mg (w.put s.heap.objs.size (.own (s.heap.objs.size + 1))) := hrep_put R ndx
  have nx1 : (w.put s.heap.objs.size (.own (s.heap.objs.size + 1))).H (s.heap.objs.size + 1) = none := (upd_ne (Ne.symm ne)).trans nx
  have k2 := keep_mk1 (K := X.K) (mg := X.mg) R1 (c := .ins c []) (o := .ins C s.heap.objs.size []) nx1
  have R2 := hrep_mk1 (K := X.K) (mg := X.mg) R1 (c := .ins c []) (o := .ins C s.heap.objs.size []) nx1 ⟨C, s.heap.objs.size, [], hm, upd_same, .nil⟩
  have kk := k1.trans k2
  have self : RepV X.K X.mg ((w.put s.heap.objs.size (.own (s.heap.objs.size + 1))).mk1 (s.heap.objs.size + 1) (.ins c []) (.ins C s.heap.objs.size [])) (.ref w.S.length) (.ref (s.heap.objs.size + 1)) := .ref (by
    show (w.ι ++ [s.heap.objs.size + 1])[w.S.length]? = some (s.heap.objs.size + 1)
    rw [← R.len, List.getElem?_append_right (Nat.le_refl _), Nat.sub_self]
    rfl)
  have q0 : PV X.K X.mg W σ w Q (match mi (.ref w.S.length :: ds) (w.S ++ [.ins c []]) with
    | .ok .non S2 => fin live w.S (.ref w.S.length) S2
    | .exc x S2 => finX w.S x S2
    | _ => .stuck) := q
  refine wpAny_call (make_map (f := f) I.kIn M.makes M.init (beq_iff_eq.mp M.fn) (codeAny_mono (F.run _ X.stack _ ((w.put s.heap.objs.size (.own (s.heap.objs.size + 1))).mk1 (s.heap.objs.size + 1) (.ins c []) (.ins C s.heap.objs.size [])) ⟨.ref (s.heap.objs.size + 1) :: us, kw⟩ (.ref (s.heap.objs.size + 1) :: ws) (.ref (s.heap.objs.size + 1) :: xs) (.ref w.S.length :: ds)
    (fun v H2 => v = .non ∧ Q (.ref (s.heap.objs.size + 1)) H2) (WE W σ) (hr.make C us kw) (make_guards hgd) (I2.env0.make C us kw) (hb _ I2.kIn) (.cons rfl rv) R2 (.cons self (rd.keep R kk)) ?_) fun r s' hq => ?_))
  · show PV X.K X.mg (fun c d _ H => WE W σ c d H) [] _ _ (mi (.ref w.S.length :: ds) (w.S ++ [.ins c []]))
    cases hmi : mi (.ref w.S.length :: ds) (w.S ++ [.ins c []]) with
    | ok d S2 =>
      rw [hmi] at q0
      cases d with
      | non =>
        intro w' k' R' e' v r
        cases r
        subst e'
        exact ⟨rfl, fin_post R (kk.trans k') R' (self.keep R2 k') q0⟩
      | _ => exact q0.elim
    | exc x S2 =>
      rw [hmi] at q0
      intro c' dd w' k' R' e' xr
      subst e'
      exact finX_post R (kk.trans k') R' xr q0
    | stuck => rw [hmi] at q0; exact q0.elim
  · cases r with
    | error e => exact passAt tk σ pins _ _ e s' I2 hq
    | ok fl =>
      cases fl with
      | ret u =>
        obtain ⟨v, H', I3, rv', ev, q3⟩ := I2.after hq
        subst ev
        exact ⟨rv', ⟨.ref (s.heap.objs.size + 1), H', I3, rfl, q3⟩⟩
      | next => exact False.elim hq
      | brk => exact False.elim hq
      | cont => exact False.elim hq
theorem cd_make (live : Bool) (M : Mk X.K C f) (hm : X.mg c = some (.ref C)) (F : FnG X.prog X.w X.K X.mg X.base k f fd ps mi) (hr : Room (k + 1) X.A) (hgd : X.A.guards = some []) (tk : Takes X W) (hb : Binds X.K fd ps []) : CallD X W (.ref C) (mMake live c mi) := fun pins s σ w ds xs us Q I R rd rv q => by
  refine runMake live (ws := us) M hm F hr hgd tk (fun s' hk => ?_) I R rd rv q
  have hl : us.length + 1 = ps.length := by
    rw [← rv.length, ← rd.length]
    have : mi (.ref w.S.length :: ds) (w.S ++ [.ins c []]) ≠ .stuck := fun z => by
      unfold mMake at q
      rw [z] at q
      exact q.elim
    exact F.len _ _ this
  have := hb s' (.ref (s.heap.objs.size + 1) :: us) hk (by rw [List.append_nil]; exact hl)
  rw [List.append_nil] at this
  exact this
end
end L3
end

section
set_option Elab.async false
set_option linter.all false
set_option maxRecDepth 100000
set_option maxHeartbeats 4000000
namespace L3
open PySem PySem.Spec L2

/-! ### keywords -/
def pick {α : Type} (ix : List Nat) (l : List α) : List α := ix.filterMap fun i => l[i]?
abbrev PKD (X : Cx) (W : WX) (kws : List Keyword) (m : AM) : Prop := PK X kws (tL X.K X.mg W m)
/-- a call with keywords: the values from the left, then those of the keywords -/
def CallKD (X : Cx) (W : WX) (f : Value) (nu : Nat) (ks : List Str) (m : FM) : Prop :=
  ∀ (pins : List (Addr × Obj)) (s : Shared) (σ : St) (w : Wd) (ds es : List D) (xs zs : List V) (us ws : List Value) (Q : VK), ds.length = nu → es.length = ks.length → Inv X pins σ w.H s → HRep X.K X.mg w → RepVs X.K X.mg w ds xs → RepVs X.K X.mg w es zs → Vals xs us → Vals zs ws →
    PV X.K X.mg W σ w Q (m (ds ++ es) w.S) → wpAny (model X.prog X.w) X.A (call f us (ks.zip ws)) (EP X pins σ Q) X.xe s
/-- how a def takes them -/
def KwTo (K : PySem.W.Frag) (fd : FuncData) (ps : List Str) (nu : Nat) (ks : List Str) (ix : List Nat) (dv : List Value) : Prop :=
  ∀ (s : Shared) (us ws : List Value), us.length = nu → ws.length = ks.length → K.In s.heap → BindsTo s fd ⟨us, ks.zip ws⟩ (ps.zip (pick ix (us ++ ws) ++ dv))
section
variable {X : Cx} {W : WX}
theorem pick_rep {w : Wd} {ds : List D} {xs : List V} (r : RepVs X.K X.mg w ds xs) : ∀ ix : List Nat, RepVs X.K X.mg w (pick ix ds) (pick ix xs)
  | [] => .nil
  | i :: ix => by
    unfold pick
    rw [List.filterMap_cons, List.filterMap_cons]
    cases h : ds[i]? with
    | none =>
      have : xs[i]? = none := by
        rw [List.getElem?_eq_none_iff] at h ⊢
        rw [← r.length]
        exact h
      rw [this]
      exact pick_rep r ix
    | some d =>
      obtain ⟨v, h1, h2⟩ := r.get h
      rw [h1]
      exact .cons h2 (pick_rep r ix)
theorem pick_vals {xs : List V} {us : List Value} (r : Vals xs us) : ∀ ix : List Nat, Vals (pick ix xs) (pick ix us)
  | [] => .nil
  | i :: ix => by
    unfold pick
    rw [List.filterMap_cons, List.filterMap_cons]
    cases h : xs[i]? with
    | none =>
      have : us[i]? = none := by
        rw [List.getElem?_eq_none_iff] at h ⊢
        rw [← r.length]
        exact h
      rw [this]
      exact pick_vals r ix
    | some d =>
      obtain ⟨v, h1, h2⟩ := r.get h
      rw [h1]
      exact .cons h2 (pick_vals r ix)
theorem pkd_nil : PKD X W [] aNil := ⟨fun pos pins s σ H Q I ⟨ρ, w, ee, R, E, q⟩ => by
  subst ee
  exact pk_nil.run pos pins s σ w.H Q I (Post.now R q rfl [] .nil)⟩
theorem pkd_cons {nm : Option Str} {e : Expr} {kpos : Pos} {kws : List Keyword} {m : EM} {ms : AM} (ha : PD X W e m) (hr : PKD X W kws ms) : PKD X W (⟨nm, e, kpos⟩ :: kws) (aCons m ms) := ⟨fun pos pins s σ H Q I ⟨ρ, w, ee, R, E, q⟩ => by
  subst ee
  refine (pk_cons ha hr).run pos pins s σ w.H Q I ?_
  refine tM.of R E q fun d w1 v k1 R1 E1 r1 h1 => ?_
  refine tL.of R1 E1 h1 fun ds w2 vs k2 R2 E2 r2 h2 => ?_
  exact Post.now R2 h2 rfl (v :: vs) (.cons (r1.keep R1 k2) r2)⟩
theorem PKD.go {kws : List Keyword} {ma : AM} {pos : Pos} {pins : List (Addr × Obj)} {s : Shared} {σ : St} {w : Wd} {ρ : DEnv} {β : Type} {kk : List D → Store → Res β} {P : β → Wd → Prop} {T : List Value → Shared → Prop} (ha : PKD X W kws ma)
    (I : Inv X pins σ w.H s) (R : HRep X.K X.mg w) (E : ERep X.K X.mg w ρ σ) (h : Post X.K X.mg W σ w P ((ma ρ w.S).bind kk))
    (hk : ∀ ds w1 vs us s1, Keep w w1 → HRep X.K X.mg w1 → ERep X.K X.mg w1 ρ σ → RepVs X.K X.mg w1 ds vs → Vals vs us → Inv X pins σ w1.H s1 → Post X.K X.mg W σ w1 P (kk ds w1.S) → T us s1) :
    wpAny (model X.prog X.w) X.A (evalAll ((backToKw pos (keywordEach kws X.env)).map (·.2))) T X.xe s := by
  refine thn (ha.run pos pins s σ w.H (fun vs H1 => ∃ ds w1, w1.H = H1 ∧ Keep w w1 ∧ HRep X.K X.mg w1 ∧ ERep X.K X.mg w1 ρ σ ∧ RepVs X.K X.mg w1 ds vs ∧ Post X.K X.mg W σ w1 P (kk ds w1.S)) I
    (tL.of R E h fun ds w1 vs k1 R1 E1 r1 h1 => ⟨ds, w1, rfl, k1, R1, E1, r1, h1⟩)) fun us s1 hq => ?_
  obtain ⟨vs, H1, I1, rv, ds, w1, e, k1, R1, E1, r1, h1⟩ := hq
  subst e
  exact hk ds w1 vs us s1 k1 R1 E1 r1 rv I1 h1
variable {k : Nat} {f : Addr} {fd : FuncData} {ps ks : List Str} {m : FM} {nu : Nat} {ix : List Nat}
theorem ckd_fn {dvs : List V} {dv : List Value} {dd : List D} (F : FnG X.prog X.w X.K X.mg X.base k f fd ps m) (hr : Room k X.A) (hgd : X.A.guards = some []) (tk : Takes X W) (hb : KwTo X.K fd ps nu ks ix dv) (hd : Vals dvs dv) (hdd : ∀ w, RepVs X.K X.mg w dd dvs) :
    CallKD X W (.ref f) nu ks (fun ds S => m (pick ix ds ++ dd) S) := fun pins s σ w ds es xs zs us ws Q hl1 hl2 I R rd re rv rz q => by
  refine wpAny_call (codeAny_mono (runA F hr hgd I.env0 tk (hb s us ws ?_ ?_ I.kIn) I R ((pick_vals (rv.append rz) ix).append hd) ((pick_rep (rd.append re) ix).append (hdd w)) q) fun r s' hq => hq)
  · rw [← rv.length, ← rd.length]; exact hl1
  · rw [← rz.length, ← re.length]; exact hl2
theorem ckd_make (live : Bool) {C : Addr} {c : Str} {mi : FM} {dvs : List V} {dv : List Value} {dd : List D} (M : Mk X.K C f) (hm : X.mg c = some (.ref C)) (F : FnG X.prog X.w X.K X.mg X.base k f fd ps mi) (hr : Room (k + 1) X.A) (hgd : X.A.guards = some []) (tk : Takes X W)
    (hb : KwTo X.K fd ps (nu + 1) ks (0 :: ix.map (· + 1)) dv) (hd : Vals dvs dv) (hdd : ∀ w, RepVs X.K X.mg w dd dvs) : CallKD X W (.ref C) nu ks (fun ds S => mMake live c mi (pick ix ds ++ dd) S) := fun pins s σ w ds es xs zs us ws Q hl1 hl2 I R rd re rv rz q => by
  have sh : ∀ {α : Type} (y : α) (l : List α), pick (0 :: ix.map (· + 1)) (y :: l) = y :: pick ix l := fun y l => by
    unfold pick
    rw [List.filterMap_cons, List.filterMap_map]
    rfl
  have lu : us.length = nu := by rw [← rv.length, ← rd.length]; exact hl1
  have lw : ws.length = ks.length := by rw [← rz.length, ← re.length]; exact hl2
  refine runMake live (ws := pick ix (us ++ ws) ++ dv) M hm F hr hgd tk (fun s' hk => ?_) I R ((pick_rep (rd.append re) ix).append (hdd w)) ((pick_vals (rv.append rz) ix).append hd) q
  have := hb s' (.ref (s.heap.objs.size + 1) :: us) ws (by rw [List.length_cons, lu]) lw hk
  rw [List.cons_append, sh] at this
  exact this
variable {x : Str} {p pos : Pos} {e : Expr} {es : List Expr} {ma mk : AM} {kws : List Keyword}
def eAppK (m : FM) (nu nk : Nat) (ma mk : AM) : EM := fun ρ S => (ma ρ S).bind fun ds S1 => (mk ρ S1).bind fun es S2 => if ds.length = nu ∧ es.length = nk then m (ds ++ es) S2 else .stuck
theorem pd_callNK (F : CallKD X W (.ref f) nu ks m) (hg : Gl X x) (hm : X.mg x = some (.ref f)) (hk : PySem.W.keepIn X.K (.ref f) = true) (ha : PAD X W (e :: es) ma) (hkw : PKD X W kws mk)
    (hall : (backToKw pos (keywordEach kws X.env)).all (·.1.isSome) = true := by rfl) (hks : (backToKw pos (keywordEach kws X.env)).filterMap (·.1) = ks := by rfl)
    (hdb : (x == ("__debug__" : Str)) = false := by decide) (he : starEach (e :: es) X.env = (false, eval e X.env) :: starEach es X.env := by rfl)
    (hpl : ((backTo pos (starEach (e :: es) X.env)).any (·.1) || (backToKw pos (keywordEach kws X.env)).any (·.1.isNone)) = false := by rfl) : PD X W (.Call (.Name x p) (e :: es) kws pos) (eAppK m nu ks.length ma mk) := by
  refine ⟨fun pins s σ H Q I h => ?_⟩
  obtain ⟨ρ, w, ee, R, E, q⟩ := h
  subst ee
  refine wpAny_Call_Name_kw (ld_glob I hg hm ?_ hdb)
  refine PySem.W.callWith_KW (h₀ := X.base) I.ok.mod.kin hk hall (ha.go (pos := pos) I R E q fun ds w1 vs us s1 k1 R1 E1 r1 rv I1 h1 => ?_) hpl he
  refine hkw.go (pos := pos) I1 R1 E1 h1 fun es w2 zs ws s2 k2 R2 E2 r2 rz I2 h2 => ⟨I2.kIn, ?_⟩
  by_cases hl : ds.length = nu ∧ es.length = ks.length
  · rw [if_pos hl] at h2
    rw [hks]
    exact F pins s2 σ w2 ds es vs zs us ws Q hl.1 hl.2 I2 R2 (r1.keep R1 k2) r2 rv rz h2
  · rw [if_neg hl] at h2
    exact h2.elim
theorem pd_callNK0 (F : CallKD X W (.ref f) 0 ks m) (hg : Gl X x) (hm : X.mg x = some (.ref f)) (hk : PySem.W.keepIn X.K (.ref f) = true) (hkw : PKD X W kws mk)
    (hall : (backToKw pos (keywordEach kws X.env)).all (·.1.isSome) = true := by rfl) (hks : (backToKw pos (keywordEach kws X.env)).filterMap (·.1) = ks := by rfl)
    (hdb : (x == ("__debug__" : Str)) = false := by decide) (hpl : ((backTo pos (starEach [] X.env)).any (·.1) || (backToKw pos (keywordEach kws X.env)).any (·.1.isNone)) = false := by rfl) : PD X W (.Call (.Name x p) [] kws pos) (eAppK m 0 ks.length aNil mk) := by
  refine ⟨fun pins s σ H Q I h => ?_⟩
  obtain ⟨ρ, w, ee, R, E, q⟩ := h
  subst ee
  refine wpAny_Call_Name_kw (ld_glob I hg hm ?_ hdb)
  have q' : PV X.K X.mg W σ w Q ((mk ρ w.S).bind fun es S2 => if ([] : List D).length = 0 ∧ es.length = ks.length then m ([] ++ es) S2 else .stuck) := q
  refine PySem.W.callWith_KW0 (h₀ := X.base) I.ok.mod.kin hk hall (hkw.go (pos := pos) I R E q' fun es w2 zs ws s2 k2 R2 E2 r2 rz I2 h2 => ⟨I2.kIn, ?_⟩) hpl
  by_cases hl : ([] : List D).length = 0 ∧ es.length = ks.length
  · rw [if_pos hl] at h2
    rw [hks]
    exact F pins s2 σ w2 [] es [] zs [] ws Q rfl hl.2 I2 R2 .nil r2 .nil rz h2
  · rw [if_neg hl] at h2
    exact h2.elim
end
/-! ### methods -/
def eMth (c : Str) (name : Str) (m : FM) (mo : EM) (ma : AM) : EM := fun ρ S => (mo ρ S).bind fun d S1 => match insOf S1 d with
  | some (c', fs) => if c' = c ∧ fs.lookup name = none then (ma ρ S1).bind fun ds S2 => m (d :: ds) S2 else .stuck
  | none => .stuck
def eMthK (c : Str) (name : Str) (m : FM) (nk : Nat) (mo : EM) (ma mk : AM) (nu : Nat) : EM := fun ρ S => (mo ρ S).bind fun d S1 => match insOf S1 d with
  | some (c', fs) => if c' = c ∧ fs.lookup name = none then (ma ρ S1).bind fun ds S2 => (mk ρ S2).bind fun es S3 => if ds.length = nu ∧ es.length = nk then m (d :: (ds ++ es)) S3 else .stuck else .stuck
  | none => .stuck
section
variable {X : Cx} {W : WX} {C g : Addr} {c name : Str} {m : FM} {o e : Expr} {es : List Expr} {mo : EM} {ma mk : AM} {apos pos : Pos} {pl : Sem Bool} {kws : List Keyword} {ks : List Str} {nu : Nat}
/-- an instance's method -/
structure MthD (X : Cx) (c : Str) (C : Addr) (name : Str) (g : Addr) : Prop where
  mg : X.mg c = some (.ref C)
  cls : Cls X.K C
  met : Meth X.K C name g
theorem mth_go {pins : List (Addr × Obj)} {s : Shared} {σ : St} {w : Wd} {ρ : DEnv} {Q : VK} {r : D → Store → Res D} {args : List (Bool × Sem Value)} {kwargs : List (Option Str × Sem Value)} (M : MthD X c C name g) (ho : PD X W o mo) (I : Inv X pins σ w.H s) (R : HRep X.K X.mg w) (E : ERep X.K X.mg w ρ σ)
    (q : PV X.K X.mg W σ w Q ((mo ρ w.S).bind fun d S1 => match insOf S1 d with
      | some (c', fs) => if c' = c ∧ fs.lookup name = none then r d S1 else .stuck
      | none => .stuck))
    (hk : ∀ d w1 a s1, Keep w w1 → HRep X.K X.mg w1 → ERep X.K X.mg w1 ρ σ → RepV X.K X.mg w1 d (.ref a) → Inv X pins σ w1.H s1 → PV X.K X.mg W σ w1 Q (r d w1.S) → wpAny (model X.prog X.w) X.A (callWith pos (.ref g) [.ref a] args kwargs) (EP X pins σ Q) X.xe s1) :
    wpAny (model X.prog X.w) X.A (eval o X.env) (fun ov s1 => wpAny (model X.prog X.w) X.A (getMethod ov name pl) (fun r s2 => wpAny (model X.prog X.w) X.A (callWith pos r.1 r.2 args kwargs) (EP X pins σ Q) X.xe s2) X.xe s1) X.xe s := by
  refine ho.go I R E q fun d w1 v u s1 k1 R1 E1 r1 rv I1 h1 => ?_
  cases e1 : insOf w1.S d with
  | none => rw [e1] at h1; exact h1.elim
  | some p =>
    obtain ⟨c', fs⟩ := p
    rw [e1] at h1
    dsimp only at h1
    by_cases hc : c' = c ∧ fs.lookup name = none
    · rw [if_pos hc] at h1
      obtain ⟨rfl, hl⟩ := hc
      obtain ⟨a, C', dx, gs, rfl, g1, g2, g3⟩ := insOf_rep R1 r1 e1
      have eC := M.mg.symm.trans g1
      cases eC
      cases rv
      have l2 : gs.lookup name = none := by
        rcases g3.look (f := name) with ⟨_, h2⟩ | ⟨d', v', h1', _, _⟩
        · exact h2
        · rw [hl] at h1'; cases h1'
      exact getmeth_ok I1 g2 M.cls M.met l2 (hk d w1 a s1 k1 R1 E1 r1 I1 h1)
    · rw [if_neg hc] at h1
      exact h1.elim
theorem pd_mth (M : MthD X c C name g) (F : CallD X W (.ref g) m) (ho : PD X W o mo) (ha : PAD X W (e :: es) ma)
    (hst : starEach (e :: es) X.env = (false, eval e X.env) :: starEach es X.env := by rfl) (hpl : (backTo pos (starEach es X.env)).any (·.1) = false := by rfl)
    (ht : eval (.Call (.Attribute o name apos) (e :: es) [] pos) X.env = (do let x ← eval o X.env; standAt apos.atName; let (f, first) ← holding [x] (getMethod x name pl); callWith pos f first (backTo pos (starEach (e :: es) X.env)) (backToKw pos (keywordEach [] X.env))) := by rfl) :
    PD X W (.Call (.Attribute o name apos) (e :: es) [] pos) (eMth c name m mo ma) := ⟨fun pins s σ H Q I ⟨ρ, w, ee, R, E, q⟩ => by
  subst ee
  refine PySem.W.methodCall_KW (pl := pl) (mth_go (r := fun d S1 => (ma ρ S1).bind fun ds S2 => m (d :: ds) S2) M ho I R E q fun d w1 a s1 k1 R1 E1 r1 I1 h1 => ?_) ht
  refine PySem.W.callWith_K (first := [.ref a]) (h₀ := X.base) I.ok.mod.kin M.met.kp (ha.go (pos := pos) I1 R1 E1 h1 fun ds w2 vs us s2 k2 R2 E2 r2 rv I2 h2 => ⟨I2.kIn, ?_⟩) hst hpl
  exact F pins s2 σ w2 (d :: ds) (.ref a :: vs) (.ref a :: us) Q I2 R2 (.cons (r1.keep R1 k2) r2) (.cons rfl rv) h2⟩
theorem pd_mth0 (M : MthD X c C name g) (F : CallD X W (.ref g) m) (ho : PD X W o mo)
    (ht : eval (.Call (.Attribute o name apos) [] [] pos) X.env = (do let x ← eval o X.env; standAt apos.atName; let (f, first) ← holding [x] (getMethod x name pl); callWith pos f first (backTo pos (starEach [] X.env)) (backToKw pos (keywordEach [] X.env))) := by rfl) :
    PD X W (.Call (.Attribute o name apos) [] [] pos) (eMth c name m mo aNil) := ⟨fun pins s σ H Q I ⟨ρ, w, ee, R, E, q⟩ => by
  subst ee
  refine PySem.W.methodCall_KW (pl := pl) (mth_go (r := fun d S1 => (aNil ρ S1).bind fun ds S2 => m (d :: ds) S2) M ho I R E q fun d w1 a s1 k1 R1 E1 r1 I1 h1 => ?_) ht
  exact PySem.W.callWith_K0 (first := [.ref a]) I1.kIn M.met.kp (F pins s1 σ w1 [d] [.ref a] [.ref a] Q I1 R1 (.cons r1 .nil) (.cons rfl .nil) h1)⟩
theorem pd_mthK (M : MthD X c C name g) (F : CallKD X W (.ref g) (nu + 1) ks m) (ho : PD X W o mo) (ha : PAD X W (e :: es) ma) (hkw : PKD X W kws mk)
    (hall : (backToKw pos (keywordEach kws X.env)).all (·.1.isSome) = true := by rfl) (hks : (backToKw pos (keywordEach kws X.env)).filterMap (·.1) = ks := by rfl)
    (he : starEach (e :: es) X.env = (false, eval e X.env) :: starEach es X.env := by rfl) (hpl : ((backTo pos (starEach (e :: es) X.env)).any (·.1) || (backToKw pos (keywordEach kws X.env)).any (·.1.isNone)) = false := by rfl)
    (ht : eval (.Call (.Attribute o name apos) (e :: es) kws pos) X.env = (do let x ← eval o X.env; standAt apos.atName; let (f, first) ← holding [x] (getMethod x name pl); callWith pos f first (backTo pos (starEach (e :: es) X.env)) (backToKw pos (keywordEach kws X.env))) := by rfl) :
    PD X W (.Call (.Attribute o name apos) (e :: es) kws pos) (eMthK c name m ks.length mo ma mk nu) := ⟨fun pins s σ H Q I ⟨ρ, w, ee, R, E, q⟩ => by
  subst ee
  refine PySem.W.methodCall_KW (pl := pl) (mth_go (r := fun d S1 => (ma ρ S1).bind fun ds S2 => (mk ρ S2).bind fun es S3 => if ds.length = nu ∧ es.length = ks.length then m (d :: (ds ++ es)) S3 else .stuck) M ho I R E q fun d w1 a s1 k1 R1 E1 r1 I1 h1 => ?_) ht
  refine PySem.W.callWith_KW (first := [.ref a]) (h₀ := X.base) I.ok.mod.kin M.met.kp hall (ha.go (pos := pos) I1 R1 E1 h1 fun ds w2 vs us s2 k2 R2 E2 r2 rv I2 h2 => ?_) hpl he
  refine hkw.go (pos := pos) I2 R2 E2 h2 fun es w3 zs ws s3 k3 R3 E3 r3 rz I3 h3 => ⟨I3.kIn, ?_⟩
  by_cases hl : ds.length = nu ∧ es.length = ks.length
  · rw [if_pos hl] at h3
    rw [hks]
    exact F pins s3 σ w3 (d :: ds) es (.ref a :: vs) zs (.ref a :: us) ws Q (by rw [List.length_cons, hl.1]) hl.2 I3 R3 (.cons (r1.keep R1 (k2.trans k3)) (r2.keep R2 k3)) r3 (.cons rfl rv) rz h3
  · rw [if_neg hl] at h3
    exact h3.elim⟩
theorem pd_mthK0 (M : MthD X c C name g) (F : CallKD X W (.ref g) 1 ks m) (ho : PD X W o mo) (hkw : PKD X W kws mk)
    (hall : (backToKw pos (keywordEach kws X.env)).all (·.1.isSome) = true := by rfl) (hks : (backToKw pos (keywordEach kws X.env)).filterMap (·.1) = ks := by rfl)
    (hpl : ((backTo pos (starEach [] X.env)).any (·.1) || (backToKw pos (keywordEach kws X.env)).any (·.1.isNone)) = false := by rfl)
    (ht : eval (.Call (.Attribute o name apos) [] kws pos) X.env = (do let x ← eval o X.env; standAt apos.atName; let (f, first) ← holding [x] (getMethod x name pl); callWith pos f first (backTo pos (starEach [] X.env)) (backToKw pos (keywordEach kws X.env))) := by rfl) :
    PD X W (.Call (.Attribute o name apos) [] kws pos) (eMthK c name m ks.length mo aNil mk 0) := ⟨fun pins s σ H Q I ⟨ρ, w, ee, R, E, q⟩ => by
  subst ee
  refine PySem.W.methodCall_KW (pl := pl) (mth_go (r := fun d S1 => (aNil ρ S1).bind fun ds S2 => (mk ρ S2).bind fun es S3 => if ds.length = 0 ∧ es.length = ks.length then m (d :: (ds ++ es)) S3 else .stuck) M ho I R E q fun d w1 a s1 k1 R1 E1 r1 I1 h1 => ?_) ht
  refine PySem.W.callWith_KW0 (first := [.ref a]) (h₀ := X.base) I.ok.mod.kin M.met.kp hall (hkw.go (pos := pos) I1 R1 E1 h1 fun es w3 zs ws s3 k3 R3 E3 r3 rz I3 h3 => ⟨I3.kIn, ?_⟩) hpl
  by_cases hl : ([] : List D).length = 0 ∧ es.length = ks.length
  · rw [if_pos hl] at h3
    rw [hks]
    exact F pins s3 σ w3 [d] es [.ref a] zs [.ref a] ws Q rfl hl.2 I3 R3 (.cons (r1.keep R1 k3) .nil) r3 (.cons rfl .nil) rz h3
  · rw [if_neg hl] at h3
    exact h3.elim⟩
end
end L3
end

section
set_option Elab.async false
set_option linter.all false
set_option maxRecDepth 100000
set_option maxHeartbeats 4000000
namespace PySem.W
open PySem PySem.Calls PyProof.Rows Builtin
section
variable {prog : Program} {w : World} {A : Around} {E : Value → Shared → Prop} {s : Shared} {K : Frag} {x C f : Addr} {ox : Obj} {od : Option Obj}
/-- bool(x), by an own __bool__ -/
theorem l3_bool_own {Q : Value → Shared → Prop} {h₀ : Heap} {L : Addr} {m : Str → Option Value} (F : Fr h₀ L s.heap m) (X₀ : K.In h₀) (I : InstAt s.heap x ox C od) (hs : findIn K (.ref C) "__bool__" = some (some (.ref f))) (hf : isFn K (.ref f) = true)
    (h : wpAny (model prog w) A.in1.in1 (call (.ref f) [.ref x]) (BoolBack fun b => Q (.bool b)) E s) : wpAny (model prog w) A (call (.type "bool") [.ref x]) Q E s := by
  refine callType_codes (T := "bool") (Bi := Builtin.«object.__init__») (Q₁ := fun r s₁ => ∃ b, r = Value.bool b ∧ Q r s₁) PySem.F.called_bool (PySem.F.typeCall_bool_1 _) PySem.F.entry_object_init ?_ ?_
  · refine codeAny_of_tree ?_
    show wpAny _ A.in1.in1 (do checkBuiltinCall "bool.__new__" ⟨[.type "bool", .ref x], []⟩; again (.builtin "bool.__new__" ⟨[.type "bool", .ref x], []⟩)) _ _ s
    refine wpAny_bind (wpAny_of_eq (PySem.F.newCall_bool_1 _) (wpAny_pure ⟨plainId_quiet (by decide +kernel) _, codeAny_builtin PySem.F.entry_bool_new ?_⟩))
    rw [Around.under_plainId (by decide +kernel) _]
    unfold Builtin.«bool.__new__»
    refine wpAny_bind (wpAny_of_eq (a := true) (by first | rfl | kernel_rfl) ?_)
    refine PySem.W.KFB.if_not rfl ?_
    refine wpAny_bind (wpAny_of_eq (a := true) PySem.F.conv_sub_bool ?_)
    refine PySem.W.KFB.if_not rfl ?_
    refine wpAny_bind (m := someArgs _ _ _ _) (wpAny_pure ?_)
    refine wpAny_bind (truthy_K F X₀ I hs hf (wpAny_mono h (fun r s₁ hr => ?_) fun _ _ y => y))
    cases r <;> first | exact hr.elim | skip
    first
      | exact wpAny_pure ⟨_, rfl, hr⟩
      | exact wpAny_pure ⟨_, rfl, rfl, hr⟩
      | exact wpAny_pure ⟨_, rfl, ⟨_, rfl, hr⟩⟩
      | exact wpAny_pure (wpAny_pure ⟨_, rfl, ⟨_, rfl, hr⟩⟩)
      | skip
  · rintro obj s₁ ⟨b, rfl, hq⟩
    exact ⟨typeIs_bool _ _, PySem.F.args_object_init_2 _ _, object_init_meets PySem.F.called_bool.init.lookup PySem.F.called_bool.made (by decide) prog w A.in1 _ s₁ ⟨typeIs_bool _ _, rfl, hq⟩⟩
end
end PySem.W
namespace L3
open PySem PySem.Spec L2

/-! ### what a class defines for what is built in -/
structure OwnD (X : Cx) (c : Str) (C : Addr) (name : Str) (g : Addr) : Prop where
  mg : X.mg c = some (.ref C)
  at_ : PySem.W.findIn X.K (.ref C) name = some (some (.ref g))
  fn : PySem.W.isFn X.K (.ref g) = true
  fi : PySem.W.fnIn X.K g = true
section
variable {X : Cx} {W : WX} {C g : Addr} {c name : Str} {m : FM}
theorem ins_inst {pins : List (Addr × Obj)} {σ : St} {w : Wd} {s : Shared} {d : D} {x : V} {fs : List (Str × D)} (M : X.mg c = some (.ref C)) (I : Inv X pins σ w.H s) (R : HRep X.K X.mg w) (r : RepV X.K X.mg w d x) (h : insOf w.S d = some (c, fs)) :
    ∃ a dx od, x = .ref a ∧ PySem.W.InstAt s.heap a (PySem.W.instObj C dx) C (some od) := by
  obtain ⟨a, C', dx, gs, rfl, g1, g2, g3⟩ := insOf_rep R r h
  have e := M.symm.trans g1
  cases e
  obtain ⟨mA, O, _⟩ := ins_get I.hok g2
  obtain ⟨od, J, _⟩ := O.look
  exact ⟨a, dx, od, rfl, J⟩
/-- of class c -/
def isC (c : Str) (S : Store) (d : D) : Bool := match insOf S d with
  | some (c', _) => c' == c
  | none => false
theorem isC_inst {pins : List (Addr × Obj)} {σ : St} {w : Wd} {s : Shared} {d : D} {x : V} (M : X.mg c = some (.ref C)) (I : Inv X pins σ w.H s) (R : HRep X.K X.mg w) (r : RepV X.K X.mg w d x) (h : isC c w.S d = true) :
    ∃ a dx od, x = .ref a ∧ PySem.W.InstAt s.heap a (PySem.W.instObj C dx) C (some od) := by
  unfold isC at h
  cases e : insOf w.S d with
  | none => rw [e] at h; cases h
  | some p =>
    obtain ⟨c', fs⟩ := p
    rw [e] at h
    have := eq_of_beq h
    subst this
    exact ins_inst M I R r e
def onC (c : Str) (d : D) (S : Store) (r : Res D) : Res D := if isC c S d = true then r else .stuck
/-- only such values -/
def only (p : D → Bool) (r : Res D) : Res D := r.bind fun d S => if p d = true then .ok d S else .stuck
def isLenD : D → Bool
  | .int n => decide (0 ≤ n) && decide (n < 2 ^ 63)
  | _ => false
def isBlD : D → Bool
  | .bl _ => true
  | _ => false
def bLenO (c : Str) (m : FM) : D → Store → Res D := fun d S => onC c d S (only isLenD (m [d] S))
theorem cd_lenO (M : OwnD X c C "__len__" g) (F : FnD X W g m) : CallD X W (.builtin "len") (f1 (bLenO c m)) := fun pins s σ w ds xs us Q I R rd rv q => by
  match ds, rd, q with
  | [], _, q => exact q.elim
  | _ :: _ :: _, _, q => exact q.elim
  | [d], .cons (v := x) r .nil, q =>
    have q0 : PV X.K X.mg W σ w Q (onC c d w.S (only isLenD (m [d] w.S))) := q
    unfold onC at q0
    by_cases hc : isC c w.S d = true
    · rw [if_pos hc] at q0
      obtain ⟨a, dx, od, rfl, J⟩ := isC_inst M.mg I R r hc
      obtain ⟨u, rfl, ru⟩ := vals1 rv
      cases ru
      obtain ⟨m0, Fr⟩ := I.fr
      refine PySem.W.len_K Fr I.ok.mod.kin J M.at_ M.fn ?_
      refine wpAny_mono (F.at (.inr (.inl rfl)) (Q := fun v H => ∃ n : Int, v = .int n ∧ (0 ≤ n ∧ n < 2 ^ 63) ∧ Q v H) I R (.cons r .nil) (.cons rfl .nil) (Post.mono q0.step fun d' w1 k1 R1 h1 v rv' => ?_)) (fun v s' hv => ?_) fun _ _ e => e
      · cases d' with
        | int n =>
          cases rv'
          by_cases hn : isLenD (.int n) = true
          · rw [if_pos hn] at h1
            have hn' : (decide (0 ≤ n) && decide (n < 2 ^ 63)) = true := hn
            rw [Bool.and_eq_true] at hn'
            exact ⟨n, rfl, ⟨of_decide_eq_true hn'.1, of_decide_eq_true hn'.2⟩, PV.now R1 (.int n) h1⟩
          · rw [if_neg hn] at h1
            exact h1.elim
        | _ => exact h1.elim
      · obtain ⟨v', H', I', rv', n, e, hn, hq⟩ := hv
        subst e
        obtain ⟨t, e⟩ := rv'
        subst e
        exact ⟨hn, .int n, H', I'.tok _, ⟨_, rfl⟩, hq⟩
    · rw [if_neg hc] at q0
      exact q0.elim
def bBoolO (c : Str) (m : FM) : D → Store → Res D := fun d S => onC c d S (only isBlD (m [d] S))
theorem cd_boolO (M : OwnD X c C "__bool__" g) (F : FnD X W g m) : CallD X W (.type "bool") (f1 (bBoolO c m)) := fun pins s σ w ds xs us Q I R rd rv q => by
  match ds, rd, q with
  | [], _, q => exact q.elim
  | _ :: _ :: _, _, q => exact q.elim
  | [d], .cons (v := x) r .nil, q =>
    have q0 : PV X.K X.mg W σ w Q (onC c d w.S (only isBlD (m [d] w.S))) := q
    unfold onC at q0
    by_cases hc : isC c w.S d = true
    · rw [if_pos hc] at q0
      obtain ⟨a, dx, od, rfl, J⟩ := isC_inst M.mg I R r hc
      obtain ⟨u, rfl, ru⟩ := vals1 rv
      cases ru
      obtain ⟨m0, Fr⟩ := I.fr
      refine PySem.W.l3_bool_own Fr I.ok.mod.kin J M.at_ M.fn ?_
      refine wpAny_mono (F.at (.inr (.inr rfl)) (Q := fun v H => ∃ n : Bool, v = .bl n ∧ Q v H) I R (.cons r .nil) (.cons rfl .nil) (Post.mono q0.step fun d' w1 k1 R1 h1 v rv' => ?_)) (fun v s' hv => ?_) fun _ _ e => e
      · cases d' with
        | bl n =>
          cases rv'
          exact ⟨n, rfl, PV.now R1 (.bl n) h1⟩
        | _ => exact h1.elim
      · obtain ⟨v', H', I', rv', n, e, hq⟩ := hv
        subst e
        cases rv'
        exact ⟨.bl n, H', I', rfl, hq⟩
    · rw [if_neg hc] at q0
      exact q0.elim
/-- o[i] by __getitem__ -/
def oIxO (c : Str) (m : FM) : Own2 := fun a b S => onC c a S (m [a, b] S)
theorem pd_ixO {a b : Expr} {ma mb : EM} {pos : Pos} (M : OwnD X c C "__getitem__" g) (F : FnD X W g m) (ha : PD X W a ma) (hb : PD X W b mb)
    (hsl : ∀ (x : Addr) (i : Value), subscripted b true (.ref x) i = runValue (.builtin "lifetime.subscript" ⟨[.ref x, i], []⟩) := by intro _ _; with_unfolding_all rfl) : PD X W (.Subscript a b pos) (eBin (oIxO c m) ma mb) := by
  refine ⟨fun pins s σ H Q I h => ?_⟩
  obtain ⟨ρ, w, e, R, E, q⟩ := h
  subst e
  refine PyProof.Rows.Subscript_ (ha.go I R E q fun d1 w1 v u s1 k1 R1 E1 r1 rv I1 h1 => hb.go I1 R1 E1 h1 fun d2 w2 v2 u2 s2 k2 R2 E2 r2 rv2 I2 h2 => ?_)
  have h3 : PV X.K X.mg W σ w2 Q (onC c d1 w2.S (m [d1, d2] w2.S)) := h2
  unfold onC at h3
  have r1' := r1.keep R1 k2
  by_cases hc : isC c w2.S d1 = true
  · rw [if_pos hc] at h3
    obtain ⟨a', dx, od, rfl, J⟩ := isC_inst M.mg I2 R2 r1' hc
    cases rv
    obtain ⟨m0, Fr⟩ := I2.fr
    exact PySem.W.sub_K Fr I2.ok.mod.kin J M.at_ M.fi M.fn (F.at (.inr (.inl rfl)) I2 R2 (.cons r1' (.cons r2 .nil)) (.cons rfl (.cons rv2 .nil)) h3) (hsl a' u2)
  · rw [if_neg hc] at h3
    exact h3.elim
/-- what came is no NotImplemented -/
theorem ep_cmp {pins : List (Addr × Obj)} {σ : St} {Q : VK} {v : Value} {s' : Shared} (h : EP X pins σ Q v s') : PySem.W.CmpBack (EP X pins σ Q) v s' := by
  obtain ⟨z, H', I', r, q⟩ := h
  exact SlX.cmpback r ⟨z, H', I', r, q⟩
/-- a op b, both of class c -/
def oSame (c : Str) (m : FM) : Own2 := fun a b S => if isC c S a = true ∧ isC c S b = true then m [a, b] S else .stuck
theorem od_same {op : Operator} (M : OwnD X c C (PySem.dunder op.info.2) g) (hc : PySem.W.selfFirst X.K C = true) (F : FnD X W g m) : OpD X W (binaryOp op) (oSame c m) := fun pins s σ w d1 d2 x y v u Q I R r1 r2 rx ry q => by
  unfold oSame at q
  by_cases h : isC c w.S d1 = true ∧ isC c w.S d2 = true
  · rw [if_pos h] at q
    obtain ⟨a, dx, od, rfl, J⟩ := isC_inst M.mg I R r1 h.1
    obtain ⟨b, dx2, od2, rfl, J2⟩ := isC_inst M.mg I R r2 h.2
    cases rx; cases ry
    obtain ⟨m0, Fr⟩ := I.fr
    exact PySem.W.binop_K Fr I.ok.mod.kin J J2.type hc M.at_ M.fn (wpAny_mono (F.at (.inl rfl) I R (.cons r1 (.cons r2 .nil)) (.cons rfl (.cons rfl .nil)) q) (fun v s' hv => ep_cmp hv) fun _ _ e => e)
  · rw [if_neg h] at q
    exact q.elim
/-- a op i, a of class c, i an int -/
def oInt (c : Str) (m : FM) : Own2 := fun a b S => match b with
  | .int _ => onC c a S (m [a, b] S)
  | _ => .stuck
structure IntSide (X : Cx) (C : Addr) (op : Operator) : Prop where
  sf : PySem.W.selfFirst X.K C = true
  rc : ∃ rc, PySem.W.findIn X.K (.ref C) (dunderR op.info.2) = some rc ∧ (rc = none ∨ ∃ g : Addr, rc = some (.ref g))
  fo : ∃ fo, PySem.W.findIn X.K (.type "int") (PySem.dunder op.info.2) = some fo
  ro : ∃ ro, PySem.W.findIn X.K (.type "int") (dunderR op.info.2) = some ro
  sub : PySem.W.subIn X.K (.type "int") (.ref C) = some false
theorem od_ownInt {op : Operator} (M : OwnD X c C (PySem.dunder op.info.2) g) (S : IntSide X C op) (F : FnD X W g m) : OpD X W (binaryOp op) (oInt c m) := fun pins s σ w d1 d2 x y v u Q I R r1 r2 rx ry q => by
  unfold oInt at q
  cases d2 with
  | int i =>
    have q0 : PV X.K X.mg W σ w Q (onC c d1 w.S (m [d1, .int i] w.S)) := q
    unfold onC at q0
    by_cases h : isC c w.S d1 = true
    · rw [if_pos h] at q0
      obtain ⟨a, dx, od, rfl, J⟩ := isC_inst M.mg I R r1 h
      cases rx; cases r2
      obtain ⟨t, rfl⟩ := ry
      obtain ⟨m0, Fr⟩ := I.fr
      obtain ⟨rc, hr, hp⟩ := S.rc
      obtain ⟨fo, h1⟩ := S.fo
      obtain ⟨ro, h2⟩ := S.ro
      exact PySem.W.ksp_binT Fr I.ok.mod.kin J (T := "int") rfl S.sf M.at_ M.fn hr hp h1 h2 S.sub (wpAny_mono (F.at (.inl rfl) I R (.cons r1 (.cons (.int i) .nil)) (.cons rfl (.cons ⟨t, rfl⟩ .nil)) q0) (fun v s' hv => ep_cmp hv) fun _ _ e => e)
    · rw [if_neg h] at q0
      exact q0.elim
  | _ => exact q.elim
/-- - a, ~ a -/
def uOwn (c : Str) (m : FM) : D → Store → Res D := fun a S => onC c a S (m [a] S)
theorem ud_ownNeg (M : OwnD X c C "__neg__" g) (F : FnD X W g m) : UnD X W (unaryOp .USub) (uOwn c m) := fun pins s σ w d x v Q I R r rx q => by
  unfold uOwn onC at q
  by_cases h : isC c w.S d = true
  · rw [if_pos h] at q
    obtain ⟨a, dx, od, rfl, J⟩ := isC_inst M.mg I R r h
    cases rx
    obtain ⟨m0, Fr⟩ := I.fr
    exact PySem.W.ksp_neg Fr I.ok.mod.kin J M.at_ M.fn (F.at (.inl rfl) I R (.cons r .nil) (.cons rfl .nil) q)
  · rw [if_neg h] at q
    exact q.elim
theorem ud_ownInv (M : OwnD X c C "__invert__" g) (F : FnD X W g m) : UnD X W (unaryOp .Invert) (uOwn c m) := fun pins s σ w d x v Q I R r rx q => by
  unfold uOwn onC at q
  by_cases h : isC c w.S d = true
  · rw [if_pos h] at q
    obtain ⟨a, dx, od, rfl, J⟩ := isC_inst M.mg I R r h
    cases rx
    obtain ⟨m0, Fr⟩ := I.fr
    exact PySem.W.ksp_inv Fr I.ok.mod.kin J M.at_ M.fn (F.at (.inl rfl) I R (.cons r .nil) (.cons rfl .nil) q)
  · rw [if_neg h] at q
    exact q.elim
/-- x in a, a of class c: its __contains__ gives a truth -/
def oInO (neg : Bool) (c : Str) (m : FM) : Own2 := fun x a S => onC c a S ((only isBlD (m [a, x] S)).bind fun d S1 => match d with
  | .bl b => .ok (.bl (if neg then !b else b)) S1
  | _ => .stuck)
theorem in_own (neg : Bool) {pins : List (Addr × Obj)} {s : Shared} {σ : St} {w : Wd} {d1 d2 : D} {x : V} {a : Addr} {v : Value} {Q : VK} (F : FnD X W g m) (I : Inv X pins σ w.H s) (R : HRep X.K X.mg w) (r1 : RepV X.K X.mg w d1 x) (r2 : RepV X.K X.mg w d2 (.ref a)) (rx : RelV x v)
    (q : PV X.K X.mg W σ w Q ((only isBlD (m [d2, d1] w.S)).bind fun d S1 => match d with
      | .bl b => .ok (.bl (if neg then !b else b)) S1
      | _ => .stuck)) : wpAny (model X.prog X.w) X.A (call (.ref g) [.ref a, v]) (fun r s' => wpAny (model X.prog X.w) X.A (truthy r) (fun b => EP X pins σ Q (.bool (if neg then !b else b))) X.xe s') X.xe s := by
  have q2 : PV X.K X.mg W σ w Q ((m [d2, d1] w.S).bind fun d S => (if isBlD d = true then Res.ok d S else .stuck).bind fun d S1 => match d with
      | .bl b => .ok (.bl (if neg then !b else b)) S1
      | _ => .stuck) := by
    have e : ((only isBlD (m [d2, d1] w.S)).bind fun d S1 => match d with
      | D.bl b => Res.ok (D.bl (if neg then !b else b)) S1
      | _ => Res.stuck) = ((m [d2, d1] w.S).bind fun d S => (if isBlD d = true then Res.ok d S else .stuck).bind fun d S1 => match d with
      | D.bl b => Res.ok (D.bl (if neg then !b else b)) S1
      | _ => Res.stuck) := by
      unfold only
      cases m [d2, d1] w.S <;> rfl
    rw [← e]
    exact q
  refine wpAny_mono (F.at (.inl rfl) (Q := fun z H => ∃ b : Bool, z = .bl b ∧ Q (.bl (if neg then !b else b)) H) I R (.cons r2 (.cons r1 .nil)) (.cons rfl (.cons rx .nil)) (Post.mono q2.step fun d' w1 k1 R1 h1 z rz => ?_)) (fun z s' hz => ?_) fun _ _ e => e
  · cases d' with
    | bl b =>
      cases rz
      exact ⟨b, rfl, PV.now R1 (.bl _) h1⟩
    | _ => exact h1.elim
  · obtain ⟨z', H', I', rz, b, e, hq⟩ := hz
    subst e
    cases rz
    exact wpAny_truthy_bool ⟨.bl _, H', I', rfl, hq⟩
theorem od_inO (M : OwnD X c C "__contains__" g) (F : FnD X W g m) : OpD X W (compareOp .In) (oInO false c m) := fun pins s σ w d1 d2 x y v u Q I R r1 r2 rx ry q => by
  unfold oInO onC at q
  by_cases h : isC c w.S d2 = true
  · rw [if_pos h] at q
    obtain ⟨a, dx, od, rfl, J⟩ := isC_inst M.mg I R r2 h
    cases ry
    obtain ⟨m0, Fr⟩ := I.fr
    exact PySem.W.in_K Fr I.ok.mod.kin J M.at_ M.fn (in_own false F I R r1 r2 rx q)
  · rw [if_neg h] at q
    exact q.elim
theorem od_notInO (M : OwnD X c C "__contains__" g) (F : FnD X W g m) : OpD X W (compareOp .NotIn) (oInO true c m) := fun pins s σ w d1 d2 x y v u Q I R r1 r2 rx ry q => by
  unfold oInO onC at q
  by_cases h : isC c w.S d2 = true
  · rw [if_pos h] at q
    obtain ⟨a, dx, od, rfl, J⟩ := isC_inst M.mg I R r2 h
    cases ry
    obtain ⟨m0, Fr⟩ := I.fr
    exact PySem.W.notIn_K Fr I.ok.mod.kin J M.at_ M.fn (in_own true F I R r1 r2 rx q)
  · rw [if_neg h] at q
    exact q.elim
/-! ### properties -/
/-- no exceptions -/
def noX (m : FM) : FM := fun ds S => match m ds S with
  | .ok d S' => .ok d S'
  | _ => .stuck
def eProp (c : Str) (m : FM) (mo : EM) : EM := fun ρ S => (mo ρ S).bind fun d S1 => onC c d S1 (m [d] S1)
structure PrpD (X : Cx) (c : Str) (C : Addr) (f : Str) (p g : Addr) : Prop where
  mg : X.mg c = some (.ref C)
  cls : Cls X.K C
  prp : PropOf X.K C f p g
theorem pd_prop {k : Nat} {p : Addr} {f : Str} {fd : FuncData} {ps : List Str} {e : Expr} {pos : Pos} {mo : EM} (M : PrpD X c C f p g) (F : FnG X.prog X.w X.K X.mg X.base k g fd ps m) (hr : Room (k + 1) X.A) (hgd : X.A.guards = some []) (hb : Binds X.K fd ps []) (he : PD X W e mo)
    (hab : attributeBase e f X.env (eval e X.env) = eval e X.env := by rfl) : PD X W (.Attribute e f pos) (eProp c (noX m) mo) := by
  refine ⟨fun pins s σ H Q I h => ?_⟩
  obtain ⟨ρ, w, ee, R, E, q⟩ := h
  subst ee
  refine attr_of hab (he.go I R E q fun d w1 x u s1 k1 R1 E1 r1 rv I1 h1 => ?_)
  unfold onC at h1
  by_cases hc : isC c w1.S d = true
  · rw [if_pos hc] at h1
    replace h1 : PV X.K X.mg W σ w1 Q (match m [d] w1.S with
      | .ok d S' => .ok d S'
      | _ => .stuck) := h1
    obtain ⟨a, dx, od, rfl, J⟩ := isC_inst M.mg I1 R1 r1 hc
    cases rv
    obtain ⟨rest, hrec⟩ := M.prp.rec_
    have I2 := I1.tok (s1.toks + 1)
    have hl : ps.length = 1 := by
      have : m [d] w1.S ≠ .stuck := fun z => by
        rw [z] at h1
        exact h1.elim
      exact (F.len _ _ this).symm
    have hcl : (PySem.W.clsIn X.K C).isSome = true := by
      obtain ⟨cd, hc', _⟩ := PySem.W.any_some M.cls.hd
      rw [hc']
      rfl
    have gg := PySem.W.plainGet_of (M.cls.get f)
    have bt := hb { s1 with toks := s1.toks + 1 } [.ref a] I2.kIn (by rw [hl]; rfl)
    refine PySem.W.get_bind I1.kIn J gg.1 (PySem.W.findObj_data hcl M.prp.at_ M.prp.get M.prp.tak) gg.2 (wpAny_call (PySem.W.prop_get (s := { s1 with toks := s1.toks + 1 }) I1.kIn hrec ?_))
    refine codeAny_mono (F.run X.A.in1 X.stack { s1 with toks := s1.toks + 1 } w1 ⟨[.ref a], []⟩ [.ref a] [.ref a] [d] Q (WE W0 σ) hr.in1 (in1_guards hgd) I2.env0.in1 bt (.cons rfl .nil) R1 (.cons r1 .nil) ?_) fun r s' hq => ?_
    · cases hm : m [d] w1.S with
      | ok d' S' => rw [hm] at h1; exact h1
      | exc x S' => rw [hm] at h1; exact h1.elim
      | stuck => rw [hm] at h1; exact h1.elim
    · cases r with
      | error er => exact False.elim (passAt (X := X.nox) tk0 σ pins w1.H { s1 with toks := s1.toks + 1 } er s' (I2.wish _) hq)
      | ok fl =>
        cases fl with
        | ret u =>
          obtain ⟨v, H', I3, rv, q3⟩ := I2.after hq
          show wpAny _ _ (handedOut u) _ _ _
          rw [PySem.W.handedOut_of (handed_of rv)]
          exact wpAny_pure ⟨v, H', I3, rv, q3⟩
        | next => exact False.elim hq
        | brk => exact False.elim hq
        | cont => exact False.elim hq
  · rw [if_neg hc] at h1
    exact h1.elim
end
end L3
end

section
set_option Elab.async false
set_option linter.all false
set_option maxRecDepth 100000
set_option maxHeartbeats 4000000
namespace L3
open PySem PySem.Spec L2

/-! ### classmethods, called on their class -/
structure CmD (X : Cx) (c : Str) (C : Addr) (name : Str) (g : Addr) : Prop where
  mg : X.mg c = some (.ref C)
  ok : ∃ mc p, ClX.CRead X.K C mc ∧ ClX.CMet X.K C mc name p g
def eCm (c : Str) (m : FM) (mo : EM) (ma : AM) : EM := fun ρ S => (mo ρ S).bind fun d S1 => match d with
  | .gl c' => if c' = c then (ma ρ S1).bind fun ds S2 => m (d :: ds) S2 else .stuck
  | _ => .stuck
def eCmK (c : Str) (m : FM) (nu nk : Nat) (mo : EM) (ma mk : AM) : EM := fun ρ S => (mo ρ S).bind fun d S1 => match d with
  | .gl c' => if c' = c then (ma ρ S1).bind fun ds S2 => (mk ρ S2).bind fun es S3 => if ds.length = nu ∧ es.length = nk then m (d :: (ds ++ es)) S3 else .stuck else .stuck
  | _ => .stuck
section
variable {X : Cx} {W : WX} {C g : Addr} {c name : Str} {m : FM} {o e : Expr} {es : List Expr} {mo : EM} {ma mk : AM} {apos pos : Pos} {pl : Sem Bool} {kws : List Keyword} {ks : List Str} {nu : Nat}
theorem pd_cm (M : CmD X c C name g) (F : FnD X W g m) (ho : PD X W o mo) (ha : PAD X W (e :: es) ma)
    (hst : starEach (e :: es) X.env = (false, eval e X.env) :: starEach es X.env := by rfl) (hpl : (backTo pos (starEach es X.env)).any (·.1) = false := by rfl)
    (ht : eval (.Call (.Attribute o name apos) (e :: es) [] pos) X.env = (do let x ← eval o X.env; standAt apos.atName; let (f, first) ← holding [x] (getMethod x name pl); callWith pos f first (backTo pos (starEach (e :: es) X.env)) (backToKw pos (keywordEach [] X.env))) := by rfl) :
    PD X W (.Call (.Attribute o name apos) (e :: es) [] pos) (eCm c m mo ma) := ⟨fun pins s σ H Q I ⟨ρ, w, ee, R, E, q⟩ => by
  subst ee
  obtain ⟨mc, p, hr, hm⟩ := M.ok
  refine PySem.W.methodCall_KW (pl := pl) (ho.go I R E q fun d w1 v u s1 k1 R1 E1 r1 rv I1 h1 => ?_) ht
  cases d with
  | gl c' =>
    dsimp only at h1
    by_cases hc : c' = c
    · subst hc
      rw [if_pos rfl] at h1
      cases r1 with
      | gl hg =>
        have e := M.mg.symm.trans hg
        cases e
        cases rv
        refine ClX.getmethcm_ok I1 hr hm fun s2 I2 => ?_
        refine ClX.callwith_cm I2 (ClX.base_none I1 (Nat.le_refl _)) hm.fi (ha.go (pos := pos) I2 R1 E1 h1 fun ds w2 vs us s3 k2 R2 E2 r2 rv I3 h2 => ⟨⟨ClX.pin_at I3, I3.kIn⟩, ?_⟩) hst hpl
        have z := F.call X.A _ s3 σ w2 (.gl c' :: ds) (.ref C :: vs) (.ref C :: us) Q (.inl rfl) I3 R2 (.cons (.gl hg) r2) (.cons rfl rv) h2
        exact thn (wpAny_call (PySem.W.method_call (ClX.pin_at I3) z)) fun _ _ y => ClX.unpinE y
    · rw [if_neg hc] at h1
      exact h1.elim
  | _ => exact h1.elim⟩
/-- f called with keywords -/
structure FnKD (X : Cx) (W : WX) (f : Addr) (nu : Nat) (ks : List Str) (m : FM) : Prop where
  call : ∀ (pins : List (Addr × Obj)) (s : Shared) (σ : St) (w : Wd) (ds es : List D) (xs zs : List V) (us ws : List Value) (Q : VK), ds.length = nu → es.length = ks.length → Inv X pins σ w.H s → HRep X.K X.mg w → RepVs X.K X.mg w ds xs → RepVs X.K X.mg w es zs → Vals xs us → Vals zs ws →
    PV X.K X.mg W σ w Q (m (ds ++ es) w.S) → codeAny (model X.prog X.w) X.A (.call (.ref f) ⟨us, ks.zip ws⟩) (fun r s' => match r with | .ok (.ret v) => EP X pins σ Q v s' | .ok _ => False | .error e => X.xe e s') s
theorem fnKD_of {k : Nat} {f : Addr} {fd : FuncData} {ps : List Str} {ix : List Nat} {dvs : List V} {dv : List Value} {dd : List D} (F : FnG X.prog X.w X.K X.mg X.base k f fd ps m) (hr : Room k X.A) (hgd : X.A.guards = some []) (tk : Takes X W) (hb : KwTo X.K fd ps nu ks ix dv) (hd : Vals dvs dv) (hdd : ∀ w, RepVs X.K X.mg w dd dvs) :
    FnKD X W f nu ks (fun ds S => m (pick ix ds ++ dd) S) := ⟨fun pins s σ w ds es xs zs us ws Q hl1 hl2 I R rd re rv rz q => by
  refine runA F hr hgd I.env0 tk (hb s us ws ?_ ?_ I.kIn) I R ((pick_vals (rv.append rz) ix).append hd) ((pick_rep (rd.append re) ix).append (hdd w)) q
  · rw [← rv.length, ← rd.length]; exact hl1
  · rw [← rz.length, ← re.length]; exact hl2⟩
theorem FnKD.cd {f : Addr} (F : FnKD X W f nu ks m) : CallKD X W (.ref f) nu ks m := fun pins s σ w ds es xs zs us ws Q hl1 hl2 I R rd re rv rz q =>
  wpAny_call (codeAny_mono (F.call pins s σ w ds es xs zs us ws Q hl1 hl2 I R rd re rv rz q) fun r s' hq => hq)
theorem pd_cmK0 (M : CmD X c C name g) (F : FnKD X W g 1 ks m) (ho : PD X W o mo) (hkw : PKD X W kws mk)
    (hall : (backToKw pos (keywordEach kws X.env)).all (·.1.isSome) = true := by rfl) (hks : (backToKw pos (keywordEach kws X.env)).filterMap (·.1) = ks := by rfl)
    (hpl : ((backTo pos (starEach [] X.env)).any (·.1) || (backToKw pos (keywordEach kws X.env)).any (·.1.isNone)) = false := by rfl)
    (ht : eval (.Call (.Attribute o name apos) [] kws pos) X.env = (do let x ← eval o X.env; standAt apos.atName; let (f, first) ← holding [x] (getMethod x name pl); callWith pos f first (backTo pos (starEach [] X.env)) (backToKw pos (keywordEach kws X.env))) := by rfl) :
    PD X W (.Call (.Attribute o name apos) [] kws pos) (eCmK c m 0 ks.length mo aNil mk) := ⟨fun pins s σ H Q I ⟨ρ, w, ee, R, E, q⟩ => by
  subst ee
  obtain ⟨mc, p, hr, hm⟩ := M.ok
  refine PySem.W.methodCall_KW (pl := pl) (ho.go I R E q fun d w1 v u s1 k1 R1 E1 r1 rv I1 h1 => ?_) ht
  cases d with
  | gl c' =>
    dsimp only at h1
    by_cases hc : c' = c
    · subst hc
      rw [if_pos rfl] at h1
      replace h1 : PV X.K X.mg W σ w1 Q ((mk ρ w1.S).bind fun es S3 => if ([] : List D).length = 0 ∧ es.length = ks.length then m (.gl c' :: ([] ++ es)) S3 else .stuck) := h1
      cases r1 with
      | gl hg =>
        have e := M.mg.symm.trans hg
        cases e
        cases rv
        refine ClX.getmethcm_ok I1 hr hm fun s2 I2 => ?_
        refine PySem.W.callWith_of (P := PySem.W.MethP X.K s1.heap.objs.size g (.ref C)) hpl (PySem.W.keeps_M hm.fi) (PyProof.Rows.evalArgs_kw2_nil hall ?_)
        refine hkw.go (pos := pos) I2 R1 E1 h1 fun es w3 zs ws s3 k3 R3 E3 r3 rz I3 h3 => ⟨⟨ClX.pin_at I3, I3.kIn⟩, ?_⟩
        by_cases hl : ([] : List D).length = 0 ∧ es.length = ks.length
        · rw [if_pos hl] at h3
          rw [hks]
          have z := F.call _ s3 σ w3 [.gl c'] es [.ref C] zs [.ref C] ws Q rfl hl.2 I3 R3 (.cons (.gl hg) .nil) r3 (.cons rfl .nil) rz h3
          exact thn (wpAny_call (PySem.W.method_call (ClX.pin_at I3) z)) fun _ _ y => ClX.unpinE y
        · rw [if_neg hl] at h3
          exact h3.elim
    · rw [if_neg hc] at h1
      exact h1.elim
  | _ => exact h1.elim⟩
end
end L3
end

section
set_option Elab.async false
set_option linter.all false
set_option maxRecDepth 100000
set_option maxHeartbeats 4000000
namespace L3
open PySem PySem.Spec L2
open He (ga ma eqO eqO_ok ba FnW AlD growD frG frG_in Dv dflB dflB_ok kwdB kwdB_ok Fa)

/-! ### places by names -/
inductive Loc where
  | glo (x : Str) | met (c m : Str) | prp (c f : Str) | cmt (c m : Str)
/-- the def in a property's or classmethod's record -/
def recA (K : PySem.W.Frag) (p : Addr) (T : String) : Addr := match PySem.W.recIn K p T with
  | some (.ref g :: _) => g
  | _ => 0
def Loc.at (K : PySem.W.Frag) : Loc → Addr
  | .glo x => ga K x
  | .met c m => ma K (ga K c) m
  | .prp c f => recA K (ma K (ga K c) f) "property"
  | .cmt c m => recA K (ma K (ga K c) m) "classmethod"
structure DefL where
  loc : Loc
  name : Str
  qual : Str
  params : Arguments
  body : List Stmt
  scope : Scope
  dfl : List Dv := []
def funcOf (K : PySem.W.Frag) (a : Addr) : Option FuncData := match K.lookup a with
  | some o => match o.data with
    | .func fd => some fd
    | _ => none
  | none => none
def seenL (K : PySem.W.Frag) (a : Addr) : FnW := (funcOf K a).map fun fd => (fd.name, fd.qualname, fd.params, fd.body, fd.scope, fd.globals, fd.closure, fd.builtins)
def DefL.val (d : DefL) : FnW := some (d.name, d.qual, d.params, .stmts d.body, d.scope, mainGlobals, [], builtinsNs)
def DefL.dvs (K : PySem.W.Frag) (d : DefL) : List V := d.dfl.map (Dv.v K)
def DefL.ok (K : PySem.W.Frag) (d : DefL) : Bool := PySem.W.keepIn K (.ref (d.loc.at K)) && (match funcOf K (d.loc.at K) with
  | some fd => PySem.W.codeIn K fd.code d.qual && dflB K fd.defaults (d.dvs K)
  | none => false)
theorem DefL.funD {K : PySem.W.Frag} {d : DefL} (e : seenL K (d.loc.at K) = d.val) (c : d.ok K = true) : ∃ fd, FunD K d.name d.qual d.params d.body d.scope (d.dvs K) [] (d.loc.at K) fd := by
  obtain ⟨kp, c2⟩ := ba c
  unfold seenL at e
  cases q : funcOf K (d.loc.at K) with
  | none => rw [q] at e; cases e
  | some fd =>
    rw [q] at e c2
    obtain ⟨k1, k2⟩ := ba (show (PySem.W.codeIn K fd.code d.qual && dflB K fd.defaults (d.dvs K)) = true from c2)
    have lk : ∃ oc od osl, K.lookup (d.loc.at K) = some ⟨oc, od, .func fd, osl⟩ := by
      unfold funcOf at q
      split at q
      · rename_i o ho
        obtain ⟨oc, od, dt, osl⟩ := o
        split at q
        · rename_i fd' hd
          cases q
          have hd' : dt = .func fd := hd
          subst hd'
          exact ⟨oc, od, osl, ho⟩
        · cases q
      · cases q
    obtain ⟨oc, od, osl, lk⟩ := lk
    obtain ⟨n1, n2, n3, n4, n5, n6, n7, n8, n9, n10, n11, n12, n13, n14, n15⟩ := fd
    have e2 : (some (n1, n2, n3, n4, n5, n6, n7, n15) : FnW) = some (d.name, d.qual, d.params, .stmts d.body, d.scope, mainGlobals, [], builtinsNs) := e
    simp only [Option.some.injEq, Prod.mk.injEq] at e2
    obtain ⟨h1, h2, h3, h4, h5, h6, h7, h8⟩ := e2
    subst h1 h2 h3 h4 h5 h6 h7 h8
    exact ⟨_, ⟨oc, od, n8, n9, n10, n11, n12, n13, n14, osl, rfl, lk, k1, dflB_ok k2, .inl rfl⟩, kp⟩
/-! ### values of the module -/
mutual
def repB (K : PySem.W.Frag) : D → Value → Bool
  | .non, .none => true
  | .bl b, .bool c => b == c
  | .int i, .int j _ => decide (i = j)
  | .str x, .str y _ => decide (x = y)
  | .tup ds, .ref a => match K.lookup a with
    | some ⟨.type c, _, .seq its _, _⟩ => decide (c = "tuple") && (decide (its.size ≤ sizeLine) && repsB K ds its.toList)
    | _ => false
  | _, _ => false
def repsB (K : PySem.W.Frag) : List D → List Value → Bool
  | [], [] => true
  | d :: ds, u :: us => repB K d u && repsB K ds us
  | _, _ => false
end
mutual
theorem repB_ok {K : PySem.W.Frag} {mg : Str → Option Value} : ∀ {d : D} {u : Value}, repB K d u = true → ∃ v, RelV v u ∧ ∀ w, RepV K mg w d v := fun {d u} h => by
  cases d with
  | non =>
    cases u with
    | none => exact ⟨.non, rfl, fun _ => .non⟩
    | _ => unfold repB at h; cases h
  | bl b =>
    cases u with
    | bool c =>
      unfold repB at h
      have := eq_of_beq h
      subst this
      exact ⟨.bl b, rfl, fun _ => .bl b⟩
    | _ => unfold repB at h; cases h
  | int b =>
    cases u with
    | int c t =>
      unfold repB at h
      have := of_decide_eq_true h
      subst this
      exact ⟨.int b, ⟨t, rfl⟩, fun _ => .int b⟩
    | _ => unfold repB at h; cases h
  | str b =>
    cases u with
    | str c t =>
      unfold repB at h
      have := of_decide_eq_true h
      subst this
      exact ⟨.str b, ⟨t, rfl⟩, fun _ => .str b⟩
    | _ => unfold repB at h; cases h
  | tup ds =>
    cases u with
    | ref a =>
      unfold repB at h
      split at h
      · rename_i c od its n sl ho
        obtain ⟨h1, h2⟩ := ba h
        obtain ⟨h2, h3⟩ := ba h2
        have h1 := of_decide_eq_true h1
        have h2 := of_decide_eq_true h2
        subst h1
        obtain ⟨xs, r1, r2⟩ := repsB_ok (mg := mg) h3
        exact ⟨.ref a, rfl, fun w => .tup (.inr ⟨_, its, n, ho, rfl, rfl, h2, r1⟩) (by rw [r1.length, Array.length_toList]; exact h2) (r2 w)⟩
      · cases h
    | _ => unfold repB at h; cases h
  | _ => cases u <;> (unfold repB at h; cases h)
theorem repsB_ok {K : PySem.W.Frag} {mg : Str → Option Value} : ∀ {ds : List D} {us : List Value}, repsB K ds us = true → ∃ xs, Vals xs us ∧ ∀ w, RepVs K mg w ds xs
  | [], [], _ => ⟨[], .nil, fun _ => .nil⟩
  | [], _ :: _, h => by unfold repsB at h; cases h
  | _ :: _, [], h => by unfold repsB at h; cases h
  | d :: ds, u :: us, h => by
    unfold repsB at h
    obtain ⟨h1, h2⟩ := ba h
    obtain ⟨v, r1, r2⟩ := repB_ok (mg := mg) h1
    obtain ⟨xs, q1, q2⟩ := repsB_ok (mg := mg) h2
    exact ⟨v :: xs, .cons r1 q1, fun w => .cons (r2 w) (q2 w)⟩
end
/-! ### facts of the classes -/
inductive Fx where
  | own (c n : Str)
  | prp (c f : Str)
  | cm (c m : Str)
  | sf (c : Str)
  | isd (c : Str)
  | isC (c c2 : Str) (b : Bool)
  | isT (c : Str) (T : String) (b : Bool)
  | tIs (T : String) (c : Str) (b : Bool)
  | iS (c : Str) (op : Operator)
  | rep (x : Str) (d : D)
def kitIs (K : PySem.W.Frag) (t u : Value) (b : Bool) : Bool := decide (PySem.W.kitOne K t u = some b)
def rcB (o : Option (Option Value)) : Bool := match o with
  | some none => true
  | some (some (.ref _)) => true
  | _ => false
def Fx.ok (K : PySem.W.Frag) : Fx → Bool
  | .own c n => eqO (PySem.W.findIn K (.ref (ga K c)) n) (some (some (.ref (ma K (ga K c) n)))) && (PySem.W.isFn K (.ref (ma K (ga K c) n)) && PySem.W.fnIn K (ma K (ga K c) n))
  | .prp c f => eqO (PySem.W.findIn K (.ref (ga K c)) f) (some (some (.ref (ma K (ga K c) f)))) && (eqO (PySem.W.specialIn K (.ref (ma K (ga K c) f)) "__get__") (some (some (.builtin "property.__get__"))) &&
    (decide (PySem.W.takesIn K (.ref (ma K (ga K c) f)) = some true) && decide (((PySem.W.recIn K (ma K (ga K c) f) "property").bind List.head?) = some (.ref (recA K (ma K (ga K c) f) "property")))))
  | .cm c m => PySem.W.readsIn K (ga K c) (.type "type") && (eqO (PySem.W.specialIn K (.ref (ga K c)) "__getattribute__") (some (some (.builtin "type.__getattribute__"))) &&
    ((match PySem.W.findCls K (.ref (ga K c)) (.type "type") m with
      | some (.get (.builtin b) (.ref p) .none (.ref C)) => decide (b = "classmethod.__get__") && (decide (p = ma K (ga K c) m) && decide (C = ga K c))
      | _ => false) && (decide (((PySem.W.recIn K (ma K (ga K c) m) "classmethod").bind List.head?) = some (.ref (recA K (ma K (ga K c) m) "classmethod"))) && PySem.W.fnIn K (recA K (ma K (ga K c) m) "classmethod"))))
  | .sf c => PySem.W.selfFirst K (ga K c)
  | .isd c => eqO (PySem.W.findIn K (.ref (ga K c)) "__class__") (some (some (.builtin "object.__class__"))) && (eqO (PySem.W.specialIn K (.builtin "object.__class__") "__get__") (some (some (.builtin "getset_descriptor.__get__"))) &&
    (decide (PySem.W.takesIn K (.builtin "object.__class__") = some true) && decide (PySem.W.mroIn K (ga K c) (.type "object") = some true)))
  | .isC c c2 b => kitIs K (.ref (ga K c)) (.ref (ga K c2)) b
  | .isT c T b => kitIs K (.ref (ga K c)) (.type T) b
  | .tIs T c b => kitIs K (.type T) (.ref (ga K c)) b
  | .iS c op => PySem.W.selfFirst K (ga K c) && (rcB (PySem.W.findIn K (.ref (ga K c)) (dunderR op.info.2)) && ((PySem.W.findIn K (.type "int") (PySem.dunder op.info.2)).isSome && ((PySem.W.findIn K (.type "int") (dunderR op.info.2)).isSome && decide (PySem.W.subIn K (.type "int") (.ref (ga K c)) = some false))))
  | .rep x d => match PySem.W.nsIn K mainGlobals x with
    | some (some u) => repB K d u
    | _ => false
/-- no list is part of the text -/
def noLists (K : PySem.W.Frag) : Bool := K.all fun p => match p.2.cls with
  | .type c => !(c == "list")
  | _ => true
/-! ### the Hook -/
def asL (g : Addr → Option Obj) : Nat → List Addr
  | 0 => [mainGlobals, cStatics]
  | n + 1 => growD g (asL g n)
def obsL (fa : List Fa) (fx : List Fx) (fn : List DefL) (K : PySem.W.Frag) : AlD := ((fa.all fun f => f.ok K) && ((fx.all fun f => f.ok K) && ((fn.all fun d => d.ok K) && noLists K)), fn.map fun d => seenL K (d.loc.at K))
def SaysL (fa : List Fa) (fx : List Fx) (fn : List DefL) (K : PySem.W.Frag) : Prop := obsL fa fx fn K = (true, fn.map DefL.val)
def obsLG (n : Nat) (fa : List Fa) (fx : List Fx) (fn : List DefL) (g : Addr → Option Obj) : AlD := obsL fa fx fn (frG g (asL g n))
def hookL (n : Nat) (fa : List Fa) (fx : List Fx) (fn : List DefL) : PySem.W.Hook where
  α := AlD
  obs := fun s => obsLG n fa fx fn s.heap.get?
  val := fun _ => (true, fn.map DefL.val)
  says := fun _ h => ∃ K : PySem.W.Frag, K.In h ∧ SaysL fa fx fn K
  of := fun _ _ e => ⟨_, frG_in, e⟩
  keeps := fun _ _ _ ⟨K, hK, c⟩ k => ⟨K, PySem.W.Frag.In.keeps hK k, c⟩
theorem obsLG_eq {n : Nat} {fa : List Fa} {fx : List Fx} {fn : List DefL} {g : Addr → Option Obj} {s : Shared} (h : ∀ a, g a = s.heap.get? a) : obsLG n fa fx fn g = (hookL n fa fx fn).obs s := by
  rw [show g = s.heap.get? from funext h]
  rfl
section
variable {fa : List Fa} {fx : List Fx} {fn : List DefL} {K : PySem.W.Frag}
theorem SaysL.parts (c : SaysL fa fx fn K) : (fa.all fun f => f.ok K) = true ∧ (fx.all fun f => f.ok K) = true ∧ (fn.all fun d => d.ok K) = true ∧ noLists K = true ∧ fn.map (fun d => seenL K (d.loc.at K)) = fn.map DefL.val := by
  have c1 : ((fa.all fun f => f.ok K) && ((fx.all fun f => f.ok K) && ((fn.all fun d => d.ok K) && noLists K))) = true := congrArg (fun z : AlD => z.1) c
  obtain ⟨h1, h2⟩ := ba c1
  obtain ⟨h2, h3⟩ := ba h2
  obtain ⟨h3, h4⟩ := ba h3
  exact ⟨h1, h2, h3, h4, congrArg (fun z : AlD => z.2) c⟩
theorem SaysL.fa_ (c : SaysL fa fx fn K) (i : Nat) {f : Fa} (h : fa[i]? = some f := by rfl) : f.ok K = true := List.all_eq_true.mp c.parts.1 f (List.mem_of_getElem? h)
theorem SaysL.fx_ (c : SaysL fa fx fn K) (i : Nat) {f : Fx} (h : fx[i]? = some f := by rfl) : f.ok K = true := List.all_eq_true.mp c.parts.2.1 f (List.mem_of_getElem? h)
theorem SaysL.fn_ (c : SaysL fa fx fn K) (i : Nat) {d : DefL} (h : fn[i]? = some d := by rfl) : ∃ fd, FunD K d.name d.qual d.params d.body d.scope (d.dvs K) [] (d.loc.at K) fd := by
  have p := c.parts
  have e2 : (fn.map fun d => seenL K (d.loc.at K))[i]? = (fn.map DefL.val)[i]? := by rw [p.2.2.2.2]
  rw [List.getElem?_map, List.getElem?_map, h] at e2
  exact DefL.funD (Option.some.inj e2) (List.all_eq_true.mp p.2.2.1 d (List.mem_of_getElem? h))
theorem SaysL.lists (c : SaysL fa fx fn K) {a : Addr} {o : Obj} (h : K.lookup a = some o) : o.cls ≠ .type "list" := fun e => by
  have hm : (a, o) ∈ K := by
    have : ∀ (l : List (Addr × Obj)), l.lookup a = some o → (a, o) ∈ l := by
      intro l
      induction l with
      | nil => intro h; cases h
      | cons p r ih =>
        intro h
        obtain ⟨b, ob⟩ := p
        rw [List.lookup_cons] at h
        cases q : a == b with
        | true =>
          rw [q] at h
          cases h
          rw [eq_of_beq q]
          exact List.mem_cons_self
        | false =>
          rw [q] at h
          exact List.mem_cons_of_mem _ (ih h)
    exact this K h
  have := List.all_eq_true.mp c.parts.2.2.2.1 _ hm
  rw [e] at this
  exact absurd this (by decide)
end
/-! ### .. as they are used -/
section
variable {X : Cx} {h : Heap}
theorem own_ok {c n : Str} (hc : (Fx.own c n).ok X.K = true) (hg : X.mg c = some (.ref (ga X.K c))) : OwnD X c (ga X.K c) n (ma X.K (ga X.K c) n) := by
  obtain ⟨h1, h2⟩ := ba hc
  obtain ⟨h2, h3⟩ := ba h2
  exact ⟨hg, eqO_ok h1, h2, h3⟩
theorem cls_okL {K : PySem.W.Frag} {c : Str} (hc : (Fa.cls c).ok K = true) : Cls K (ga K c) := He.cls_ok hc
theorem prp_ok {c f : Str} (hc : (Fx.prp c f).ok X.K = true) (hg : X.mg c = some (.ref (ga X.K c))) (hcl : (Fa.cls c).ok X.K = true) : PrpD X c (ga X.K c) f (ma X.K (ga X.K c) f) (recA X.K (ma X.K (ga X.K c) f) "property") := by
  obtain ⟨h1, h2⟩ := ba hc
  obtain ⟨h2, h3⟩ := ba h2
  obtain ⟨h3, h4⟩ := ba h3
  have h4 := of_decide_eq_true h4
  refine ⟨hg, He.cls_ok hcl, eqO_ok h1, eqO_ok h2, of_decide_eq_true h3, ?_⟩
  cases e : PySem.W.recIn X.K (ma X.K (ga X.K c) f) "property" with
  | none => rw [e] at h4; cases h4
  | some l =>
    rw [e] at h4
    cases l with
    | nil => cases h4
    | cons a r =>
      have : a = _ := Option.some.inj h4
      exact ⟨r, by rw [← this]⟩
theorem cm_ok {c m : Str} (hc : (Fx.cm c m).ok X.K = true) (hg : X.mg c = some (.ref (ga X.K c))) : CmD X c (ga X.K c) m (recA X.K (ma X.K (ga X.K c) m) "classmethod") := by
  obtain ⟨h1, h2⟩ := ba hc
  obtain ⟨h2, h3⟩ := ba h2
  obtain ⟨h3, h4⟩ := ba h3
  obtain ⟨h4, h5⟩ := ba h4
  have h4 := of_decide_eq_true h4
  refine ⟨hg, .type "type", ma X.K (ga X.K c) m, ⟨h1, eqO_ok h2⟩, ?_, ?_, h5⟩
  · split at h3
    · rename_i b p C e
      obtain ⟨q1, q2⟩ := ba h3
      obtain ⟨q2, q3⟩ := ba q2
      rw [of_decide_eq_true q1, of_decide_eq_true q2, of_decide_eq_true q3] at e
      exact e
    · cases h3
  · cases e : PySem.W.recIn X.K (ma X.K (ga X.K c) m) "classmethod" with
    | none => rw [e] at h4; cases h4
    | some l =>
      rw [e] at h4
      cases l with
      | nil => cases h4
      | cons a r =>
        have : a = _ := Option.some.inj h4
        exact ⟨r, by rw [← this]⟩
theorem side_ok {c : Str} {op : Operator} (hc : (Fx.iS c op).ok X.K = true) : IntSide X (ga X.K c) op := by
  obtain ⟨h1, h2⟩ := ba hc
  obtain ⟨h2, h3⟩ := ba h2
  obtain ⟨h3, h4⟩ := ba h3
  obtain ⟨h4, h5⟩ := ba h4
  refine ⟨h1, ?_, Option.isSome_iff_exists.mp h3, Option.isSome_iff_exists.mp h4, of_decide_eq_true h5⟩
  unfold rcB at h2
  split at h2
  · rename_i e
    exact ⟨none, e, .inl rfl⟩
  · rename_i g e
    exact ⟨some (.ref g), e, .inr ⟨g, rfl⟩⟩
  · cases h2
/-- an instance's type -/
theorem ty_ok {w : Wd} {c : Str} {d : D} {x : V} {fs : List (Str × D)} (hc : (Fx.isd c).ok X.K = true) (hcl : (Fa.cls c).ok X.K = true) (hg : X.mg c = some (.ref (ga X.K c))) (R : HRep X.K X.mg w) (r : RepV X.K X.mg w d x) (hi : insOf w.S d = some (c, fs)) : TyX X.K w.H x (.ref (ga X.K c)) := by
  obtain ⟨h1, h2⟩ := ba hc
  obtain ⟨h2, h3⟩ := ba h2
  obtain ⟨h3, h4⟩ := ba h3
  obtain ⟨a, C, dx, gs, rfl, g1, g2, g3⟩ := insOf_rep R r hi
  have e := hg.symm.trans g1
  cases e
  exact .base (.ins g2 (He.cls_ok hcl) (eqO_ok h1) (eqO_ok h2) (of_decide_eq_true h3) (of_decide_eq_true h4))
/-- isinstance by the classes of a text: for a value's class the answers for classes, for types; for a type's value the answers for classes -/
structure IsTab where
  cc : List (Str × Str × Bool)
  ct : List (Str × String × Bool)
  tc : List (String × Str × Bool)
def IsTab.own (T : IsTab) : Isi := fun C d S => match tyD S d with
  | some n => (T.tc.find? fun p => p.1 == n && p.2.1 == C).map (·.2.2)
  | none => match insOf S d with
    | some (c, _) => (T.cc.find? fun p => p.1 == c && p.2.1 == C).map (·.2.2)
    | none => none
def IsTab.fxs (T : IsTab) : List Fx := (T.cc.map fun p => .isC p.1 p.2.1 p.2.2) ++ (T.tc.map fun p => .tIs p.1 p.2.1 p.2.2)
theorem find_fx {α β : Type} [BEq α] [LawfulBEq α] [BEq β] [LawfulBEq β] {l : List (α × β × Bool)} {a : α} {b : β} {r : Bool} (h : (l.find? fun p => p.1 == a && p.2.1 == b).map (·.2.2) = some r) : (a, b, r) ∈ l := by
  obtain ⟨p, h1, h2⟩ := Option.map_eq_some_iff.mp h
  have m := List.mem_of_find?_eq_some h1
  have c := List.find?_some h1
  rw [Bool.and_eq_true] at c
  have e1 := eq_of_beq c.1
  have e2 := eq_of_beq c.2
  obtain ⟨x, y, z⟩ := p
  cases e1; cases e2; cases h2
  exact m
theorem isTab_ok {T : IsTab} (hf : ∀ f ∈ T.fxs, f.ok X.K = true) (hd : ∀ p ∈ T.cc, (Fx.isd p.1).ok X.K = true ∧ (Fa.cls p.1).ok X.K = true ∧ X.mg p.1 = some (.ref (ga X.K p.1)))
    (hg : ∀ p ∈ T.cc, X.mg p.2.1 = some (.ref (ga X.K p.2.1))) (hg2 : ∀ p ∈ T.tc, X.mg p.2.1 = some (.ref (ga X.K p.2.1))) : IsiOk X T.own := fun w C a d x b R hC r h => by
  unfold IsTab.own at h
  cases e1 : tyD w.S d with
  | some n =>
    rw [e1] at h
    have m := find_fx h
    have q := hf (.tIs n C b) (List.mem_append_right _ (List.mem_map_of_mem (f := fun p : String × Str × Bool => Fx.tIs p.1 p.2.1 p.2.2) m))
    have g := hg2 _ m
    rw [hC] at g
    have g' : a = ga X.K C := Value.ref.inj (Option.some.inj g)
    refine ⟨.type n, tyD_rep R r e1, ?_⟩
    rw [g']
    exact of_decide_eq_true q
  | none =>
    rw [e1] at h
    dsimp only at h
    cases e2 : insOf w.S d with
    | none => rw [e2] at h; cases h
    | some p =>
      obtain ⟨c, fs⟩ := p
      rw [e2] at h
      have m := find_fx h
      have q := hf (.isC c C b) (List.mem_append_left _ (List.mem_map_of_mem (f := fun p : Str × Str × Bool => Fx.isC p.1 p.2.1 p.2.2) m))
      have g := hg _ m
      rw [hC] at g
      have g' : a = ga X.K C := Value.ref.inj (Option.some.inj g)
      obtain ⟨d1, d2, d3⟩ := hd _ m
      refine ⟨.ref (ga X.K c), ty_ok d1 d2 d3 R r e2, ?_⟩
      rw [g']
      exact of_decide_eq_true q
theorem noIsT : IsiTy X (fun _ _ => none) := fun _ _ _ _ _ _ _ h => nomatch h
/-- a name of the module that holds a value -/
theorem pd_glv {W : WX} {x : Str} {d : D} {pos : Pos} (hg : Gl X x) (hr : ∃ u v, X.mg x = some u ∧ RelV v u ∧ ∀ w, RepV X.K X.mg w d v) (hd : (x == ("__debug__" : Str)) = false := by decide) : PD X W (.Name x pos) (eC d) := by
  obtain ⟨u, v, h1, h2, h3⟩ := hr
  exact pd_c (pe_glob hg h1 h2 hd) h3
theorem rep_ok {K : PySem.W.Frag} {mg : Str → Option Value} {x : Str} {d : D} (KX : K.In h) (G : h.Ns mainGlobals mg) (hc : (Fx.rep x d).ok K = true) : ∃ u v, mg x = some u ∧ RelV v u ∧ ∀ w, RepV K mg w d v := by
  have c2 : (match PySem.W.nsIn K mainGlobals x with
    | some (some u) => repB K d u
    | _ => false) = true := hc
  split at c2
  · rename_i u e
    obtain ⟨v, r1, r2⟩ := repB_ok (mg := mg) c2
    exact ⟨u, v, PySem.W.mg_of KX G e, r1, r2⟩
  · cases c2
end
end L3
end

section
set_option Elab.async false
set_option linter.all false
set_option maxRecDepth 100000
set_option maxHeartbeats 4000000
namespace L3
open PySem PySem.Spec L2

/-! ### the law's call -/
/-- the script alone -/
def scriptH (a : Addr) (vs : List Value) (ns : List Int) : Hp := fun b => if b = a then some (.frz { cls := .type "list", data := .seq vs.toArray } (.lst (ns.map V.int))) else none
theorem script_rep {K : PySem.W.Frag} {mg : Str → Option Value} {a : Addr} {vs : List Value} {ns : List Int} (hl : ns.length ≤ sizeLine) :
    HRep K mg ⟨[], [], scriptH a vs ns, []⟩ ∧ RepV K mg ⟨[], [], scriptH a vs ns, []⟩ (.frz (ns.map D.int)) (.ref a) := by
  refine ⟨⟨rfl, fun l _ _ h => by simp at h, fun l _ h => by simp at h, fun l _ _ h => by simp at h, fun _ h => by simp at h, fun l _ h => by simp at h⟩, .frz (if_pos rfl) ⟨by simp, fun l h => by simp at h⟩ (by rw [List.length_map]; exact hl) ?_⟩
  induction ns with
  | nil => exact .nil
  | cons n ns ih =>
    rw [List.map_cons, List.map_cons]
    have := ih (by rw [List.length_cons] at hl; omega)
    refine .cons (.int n) ?_
    clear ih this
    generalize scriptH a vs (n :: ns) = H
    induction ns with
    | nil => exact .nil
    | cons m ms ih => exact .cons (.int m) (ih (by simp only [List.length_cons] at hl ⊢; omega))
theorem law_callG {P : Program} {w : World} {K : PySem.W.Frag} {mg mb : Str → Option Value} {k : Nat} {fa a : Addr} {fd : FuncData} {x : Str} {m : FM} {s : Shared} {vs : List Value} {ns : List Int} (KX : K.In s.heap) (hns : s.heap.Ns mainGlobals mg) (hb : s.heap.Ns builtinsNs mb)
    (hbb : ∀ x : Str, x ≠ "__name__" → mb x = bootBuiltins x) (hlim : s.heap.NoLimit) (hg : s.gens = #[]) (ha : s.heap.get? a = some { cls := .type "list", data := .seq vs.toArray }) (hi : PyProof.Rows.IntsAre vs ns) (hl : ns.length ≤ sizeLine) (hr : Room k callerA) (hK : K.lookup a = none)
    (F : ∀ base : Heap, K.In base → base.Ns mainGlobals mg → FnG P w K mg base k fa fd [x] m) (hbind : ∀ (s : Shared) (u : Value), BindsTo s fd ⟨[u], []⟩ [(x, u)]) (hm : m [.frz (ns.map D.int)] [] = .ok (.bl true) []) :
    codeAny (model P w) callerA (.call (.ref fa) ⟨[.ref a], []⟩) (fun r s' => r = .ok (.ret (.bool true)) ∧ PySem.OldK s.heap s'.heap ∧ s'.os = s.os ∧ PyProof.Rows.AllBare s'.gens) s := by
  have rv := vals_ints hi
  have at_a : ∀ {b u}, scriptH a vs ns b = some u → b = a ∧ u = .frz { cls := .type "list", data := .seq vs.toArray } (.lst (ns.map V.int)) := fun {b u} z => by
    unfold scriptH at z
    by_cases e : b = a
    · rw [if_pos e] at z
      exact ⟨e, (Option.some.inj z).symm⟩
    · rw [if_neg e] at z
      cases z
  have none_of_ne : ∀ {b}, b ≠ a → scriptH a vs ns b = none := fun e => if_neg e
  have hok : HOk P w (scriptH a vs ns) s.heap := fun b u z => by
    obtain ⟨e, e2⟩ := at_a z
    subst e e2
    exact ⟨ha, by rw [List.length_map]; exact hl, vs, _, rv, ha⟩
  have keepsB : ∀ {b o}, s.heap.get? b = some o → b ≠ a → (hidT s.heap (scriptH a vs ns)).get? b = some o := fun e ne => hidT_get e (none_of_ne ne)
  have nsB : ∀ {b : Addr} {m : Str → Option Value}, s.heap.Ns b m → (hidT s.heap (scriptH a vs ns)).Ns b m := fun {b m} ⟨o, es, ep, e, d, r⟩ => ⟨o, es, ep, keepsB e (fun z => by
    subst z
    rw [ha] at e
    cases e
    cases d), d, r⟩
  have KB : K.In (hidT s.heap (scriptH a vs ns)) := fun b o e => keepsB (KX b o e) fun z => by
    rw [z, hK] at e
    cases e
  have lims : (hidT s.heap (scriptH a vs ns)).NoLimit := hlim.elim fun mc q => ⟨mc, nsB q.1, q.2⟩
  have e0 : Env0 P w K mg (hidT s.heap (scriptH a vs ns)) callerA [] s (scriptH a vs ns) :=
    ⟨rfl, ⟨KB, nsB hns, ⟨mb, nsB hb, hbb⟩, lims⟩, fun b o e => of_hidT e, Nat.le_of_eq (hidT_size _ _), trivial, fun b z => absurd (show b ∈ ([] : List Addr) from z) (by simp), hok, .of_eq hg⟩
  obtain ⟨R, r⟩ := script_rep (K := K) (mg := mg) (a := a) (vs := vs) hl
  refine codeAny_mono ((F _ KB (nsB hns)).run callerA [] s ⟨[], [], scriptH a vs ns, []⟩ ⟨[.ref a], []⟩ [.ref a] [.ref a] [.frz (ns.map D.int)] (fun v _ => v = .bl true) (fun _ _ _ => False) hr rfl e0 (hbind s (.ref a)) (.cons rfl .nil) R (.cons r .nil) ?_) fun q s' hq => ?_
  · show PV K mg _ [] _ _ (m [.frz (ns.map D.int)] [])
    rw [hm]
    intro w' k' R' e' v rv'
    cases rv'
    rfl
  · cases q with
    | error e =>
      obtain ⟨_, _, _, _, _, _, _, _, _, _, _, _, _, _, _, _, z⟩ := hq
    | ok fl =>
      cases fl with
      | ret u =>
        obtain ⟨v, H', os, bare, un, hok', r', q⟩ := hq
        have q' : v = .bl true := q
        subst q'
        cases r'
        refine ⟨rfl, PySem.OldK.of_keep fun b o e => ?_, os, bare⟩
        by_cases eb : b = a
        · subst eb
          have z2 := un.frzs b _ _ (show scriptH b vs ns b = some _ from if_pos rfl)
          obtain ⟨e2, _⟩ := hok' b _ z2
          rw [ha] at e
          cases e
          exact e2
        · exact un.keep b o e (none_of_ne eb) (fun z => absurd (show b ∈ ([] : List Addr) from z) (by simp)) (by simp)
      | next => exact False.elim hq
      | brk => exact False.elim hq
      | cont => exact False.elim hq
/-- the law's end -/
theorem walkG {l : PySem.W.OpenLaw} {n k : Nat} {q : Program} {loose : List Str} {XP : (Str → Option Value) → Heap → Prop} {YP : World → Heap → Prop} {d : DefRec} {x : Str} (hn : l.most = some n) (hn2 : n ≤ sizeLine) (hdf : d.params.defaults = []) (hr : Room k callerA)
    (F : ∀ (w : World) (mg : Str → Option Value) (fa : Addr) (h : Heap), YP w h → h.Ns mainGlobals mg → mg d.name = some (.ref fa) →
      ∃ (K : PySem.W.Frag) (fd : FuncData) (m : FM), K.In h ∧ (∀ a o, K.lookup a = some o → o.cls ≠ .type "list") ∧ (∀ (s : Shared) (u : Value), BindsTo s fd ⟨[u], []⟩ [(x, u)]) ∧
        (∀ ns : List Int, ns.length ≤ n → (∀ z ∈ ns, Builtin.Int.intBits z ≤ 1048576) → m [.frz (ns.map D.int)] [] = .ok (.bl true) []) ∧ ∀ base : Heap, K.In base → base.Ns mainGlobals mg → FnG l.prog w K mg base k fa fd [x] m) :
    PySem.W.WalkO q loose XP YP l.row.toRowW d [] (fun f vs => PySem.call f vs) := by
  refine Att.attach_callB hn hdf fun w s₀ s₁ mg mb fa o pm cd doc a vs ns G Y ho hd hcd hmg hobj hints hlen hbits hg => ?_
  obtain ⟨K, fd, m, KX, hL, hb, hm, hF⟩ := F w mg fa _ Y G.T.g hmg
  refine law_callG KX G.T.g G.T.b G.T.builtins G.T.nolimit hg hobj hints (Nat.le_trans hlen hn2) hr ?_ hF hb (hm ns hlen hbits)
  cases e : K.lookup a with
  | none => rfl
  | some ob =>
    have e2 := KX a ob e
    rw [hobj] at e2
    cases e2
    exact absurd rfl (hL a _ e)
end L3
end

section
set_option Elab.async false
set_option linter.all false
set_option maxRecDepth 100000
set_option maxHeartbeats 4000000
namespace L3
open PySem PySem.Spec L2
section
variable {X : Cx} {W : WX} {elt tg iter : Expr} {ifs : List Expr} {scope : Scope} {own : List (Str × Nat)} {pos : Pos} {mi : IM} {t : TM} {me : EM} {tt : Tgt} {vs : List Nat}
theorem pd_compV (own : List (Str × Nat)) (live : Bool) (hc : X.calm = true) (hN : X.N.Nodup) (ok : BlkOk X.N X.env.scope scope own) (hi : PID X W tg iter mi)
    (hg : ∀ (s : Shared) (H : Hp) (C : Addr) (cl : List (Str × Addr)) (fp : List Addr), PG (X.blk s H scope (compEnvC scope cl C X.env) fp) tg (tgOf X.K tt))
    (ht : ∀ (s : Shared) (H : Hp) (C : Addr) (cl : List (Str × Addr)) (fp : List Addr), PTsD (X.blk s H scope (compEnvC scope cl C X.env) fp) W0 ifs t)
    (he : ∀ (s : Shared) (H : Hp) (C : Addr) (cl : List (Str × Addr)) (fp : List Addr), PD (X.blk s H scope (compEnvC scope cl C X.env) fp) W0 elt me)
    (hv : own.map (·.2) = vs := by rfl) (hsl : ∀ i ∈ tt.slots, i ∈ vs := by decide) (hs : ∀ x, foldedSetIterable iter X.env x = pure x := by intro _; rfl) :
    PD X W (.ListComp elt [⟨tg, iter, ifs, 0⟩] scope pos) (eComp live mi tt t me vs) := by
  subst hv
  exact pd_comp live hc hN hi ok hg ht he hsl hs
theorem sd_setCompV (own : List (Str × Nat)) (live : Bool) {i : Nat} {y : Str} {py spos : Pos} (hc : X.calm = true) (hN : X.N.Nodup) (hy : X.N[i]? = some y) (hyl : X.env.scope.names.lookup y = some .local)
    (hsw : swapsWith (.ListComp elt [⟨tg, iter, ifs, 0⟩] scope pos) (some (.Name y py)) spos.line X.env = pure true) (ok : BlkOk X.N X.env.scope scope own) (hi : PID X W tg iter mi)
    (hg : ∀ (s : Shared) (H : Hp) (C : Addr) (cl : List (Str × Addr)) (fp : List Addr), PG (X.blk s H scope (compEnvC scope cl C X.env) fp) tg (tgOf X.K tt))
    (ht : ∀ (s : Shared) (H : Hp) (C : Addr) (cl : List (Str × Addr)) (fp : List Addr), PTsD (X.blk s H scope (compEnvC scope cl C X.env) fp) W0 ifs t)
    (he : ∀ (s : Shared) (H : Hp) (C : Addr) (cl : List (Str × Addr)) (fp : List Addr), PD (X.blk s H scope (compEnvC scope cl C X.env) fp) W0 elt me)
    (hv : own.map (·.2) = vs := by rfl) (hsl : ∀ i ∈ tt.slots, i ∈ vs := by decide) (hs : ∀ x, foldedSetIterable iter X.env x = pure x := by intro _; rfl) :
    PSD X W (.Assign [.Name y py] (.ListComp elt [⟨tg, iter, ifs, 0⟩] scope pos) spos) (sSet i (eComp live mi tt t me vs)) := by
  subst hv
  exact sd_setComp live hc hN hy hyl hsw hi ok hg ht he hsl hs
variable {e : Expr} {i kk : Nat} {elts : List Expr} {apos cpos tpos : Pos}
theorem pd_compItemsV (own : List (Str × Nat)) (live : Bool) (hc : X.calm = true) (hN : X.N.Nodup) (ok : BlkOk X.N X.env.scope scope own) (hv : PE X e (tVar i))
    (hg : ∀ (s : Shared) (H : Hp) (C : Addr) (cl : List (Str × Addr)) (fp : List Addr), PG (X.blk s H scope (compEnvC scope cl C X.env) fp) (.Tuple elts kk tpos) (tgOf X.K tt))
    (ht : ∀ (s : Shared) (H : Hp) (C : Addr) (cl : List (Str × Addr)) (fp : List Addr), PTsD (X.blk s H scope (compEnvC scope cl C X.env) fp) W0 ifs t)
    (he : ∀ (s : Shared) (H : Hp) (C : Addr) (cl : List (Str × Addr)) (fp : List Addr), PD (X.blk s H scope (compEnvC scope cl C X.env) fp) W0 elt me)
    (hvs : own.map (·.2) = vs := by rfl) (hsl : ∀ i ∈ tt.slots, i ∈ vs := by decide) (hs : ∀ x, foldedSetIterable (.Call (.Attribute e "items" apos) [] [] cpos) X.env x = pure x := by intro _; rfl)
    (hbase : attributeBase e "items" X.env (eval e X.env) = eval e X.env := by rfl) (hline : (apos.endLine == cpos.line) = true := by rfl) :
    PD X W (.ListComp elt [⟨.Tuple elts kk tpos, .Call (.Attribute e "items" apos) [] [] cpos, ifs, 0⟩] scope pos) (eCompItems live i tt t me vs) := by
  subst hvs
  exact pd_compItems live hc hN hv ok hg ht he hsl hs hbase hline
theorem pd_compKeysV (own : List (Str × Nat)) (live : Bool) (hc : X.calm = true) (hN : X.N.Nodup) (ok : BlkOk X.N X.env.scope scope own) (hv : PE X e (tVar i))
    (hg : ∀ (s : Shared) (H : Hp) (C : Addr) (cl : List (Str × Addr)) (fp : List Addr), PG (X.blk s H scope (compEnvC scope cl C X.env) fp) tg (tgOf X.K tt))
    (ht : ∀ (s : Shared) (H : Hp) (C : Addr) (cl : List (Str × Addr)) (fp : List Addr), PTsD (X.blk s H scope (compEnvC scope cl C X.env) fp) W0 ifs t)
    (he : ∀ (s : Shared) (H : Hp) (C : Addr) (cl : List (Str × Addr)) (fp : List Addr), PD (X.blk s H scope (compEnvC scope cl C X.env) fp) W0 elt me)
    (hvs : own.map (·.2) = vs := by rfl) (hsl : ∀ i ∈ tt.slots, i ∈ vs := by decide) (hs : ∀ x, foldedSetIterable e X.env x = pure x := by intro _; rfl) :
    PD X W (.ListComp elt [⟨tg, e, ifs, 0⟩] scope pos) (eCompKeys live i tt t me vs) := by
  subst hvs
  exact pd_compKeys live hc hN hv ok hg ht he hsl hs
end
/-- a name in its slot -/
theorem pdv {X : Cx} {W : WX} (i : Nat) {x : Str} {pos : Pos} (hN : X.N[i]? = some x := by rfl) (hv : Vis X.env.scope x := by first | exact Or.inl rfl | exact Or.inr (Or.inl rfl) | exact Or.inr (Or.inr rfl)) (hd : (x == ("__debug__" : Str)) = false := by decide) (hcd : (x == ("__classdict__" : Str)) = false := by decide) : PD X W (.Name x pos) (eVar i) := pd_var (pe_var hN hv hd hcd)
end L3
namespace L3
open PySem PySem.Spec L2
section
variable {X : Cx} {W : WX} {elt tg iter tg1 iter1 : Expr} {ifs ifs1 : List Expr} {scope : Scope} {pos : Pos} {mi mi1 : IM} {t t1 : TM} {me : EM} {tt tt1 : Tgt} {vs : List Nat}
theorem pd_comp2V (own : List (Str × Nat)) (vs1 : List Nat) (live : Bool) (hc : X.calm = true) (hN : X.N.Nodup) (ok : BlkOk X.N X.env.scope scope own) (hi : PID X W tg iter mi)
    (hg : ∀ (s : Shared) (H : Hp) (C : Addr) (cl : List (Str × Addr)) (fp : List Addr), PG (X.blk s H scope (compEnvC scope cl C X.env) fp) tg (tgOf X.K tt))
    (ht : ∀ (s : Shared) (H : Hp) (C : Addr) (cl : List (Str × Addr)) (fp : List Addr), PTsD (X.blk s H scope (compEnvC scope cl C X.env) fp) W0 ifs t)
    (hi1 : ∀ (s : Shared) (H : Hp) (C : Addr) (cl : List (Str × Addr)) (fp : List Addr), PID (X.blk s H scope (compEnvC scope cl C X.env) fp) W0 tg1 iter1 mi1)
    (hg1 : ∀ (s : Shared) (H : Hp) (C : Addr) (cl : List (Str × Addr)) (fp : List Addr), PG (X.blk s H scope (compEnvC scope cl C X.env) fp) tg1 (tgOf X.K tt1))
    (ht1 : ∀ (s : Shared) (H : Hp) (C : Addr) (cl : List (Str × Addr)) (fp : List Addr), PTsD (X.blk s H scope (compEnvC scope cl C X.env) fp) W0 ifs1 t1)
    (he : ∀ (s : Shared) (H : Hp) (C : Addr) (cl : List (Str × Addr)) (fp : List Addr), PD (X.blk s H scope (compEnvC scope cl C X.env) fp) W0 elt me)
    (hvs : own.map (·.2) = vs := by rfl) (hv : ∀ i ∈ vs1, i ∈ vs := by decide) (hsl : ∀ i ∈ tt.slots, i ∈ vs := by decide) (hsl1 : ∀ i ∈ tt1.slots, i ∈ vs1 := by decide)
    (hs : ∀ x, foldedSetIterable iter X.env x = pure x := by intro _; rfl) (hs1 : ∀ env x, foldedSetIterable iter1 env x = pure x := by intro _ _; rfl) :
    PD X W (.ListComp elt [⟨tg, iter, ifs, 0⟩, ⟨tg1, iter1, ifs1, 0⟩] scope pos) (eComp2 live mi tt t mi1 tt1 t1 me vs vs1) := by
  subst hvs
  exact pd_comp2 live hc hN hi ok hg ht hi1 hg1 ht1 he hv hsl hsl1 hs hs1
end
end L3
end

section
set_option Elab.async false
set_option linter.all false
set_option maxRecDepth 100000
set_option maxHeartbeats 4000000
namespace L3
open PySem PySem.Spec L2
def uAlt (m1 m2 : D → Store → Res D) : D → Store → Res D := fun d S => resAlt (m1 d S) (m2 d S)
theorem UnD.alt {X : Cx} {W : WX} {g : Value → Sem Value} {o1 o2 : D → Store → Res D} (h1 : UnD X W g o1) (h2 : UnD X W g o2) : UnD X W g (uAlt o1 o2) := fun pins s σ w d1 x v Q I R r1 rx q => by
  rcases resAlt_cases (o1 d1 w.S) (o2 d1 w.S) with e | e
  · exact h1 pins s σ w d1 x v Q I R r1 rx (by rw [← e]; exact q)
  · exact h2 pins s σ w d1 x v Q I R r1 rx (by rw [← e]; exact q)
theorem gsN_plain : ∀ {gs : List GM}, (∀ g ∈ gs, g.plain) → ∀ ds ρ S, (∃ ρ' S', gsN gs ds ρ S = .next ρ' S') ∨ gsN gs ds ρ S = .stuck
  | [], _, [], ρ, S => .inl ⟨ρ, S, rfl⟩
  | [], _, _ :: _, ρ, S => .inr rfl
  | g :: gs, h, [], ρ, S => .inr rfl
  | g :: gs, h, d :: ds, ρ, S => by
    show (∃ ρ' S', (match g d ρ S with
      | .next ρ' S' => gsN gs ds ρ' S'
      | _ => .stuck) = SRes.next ρ' S') ∨ (match g d ρ S with
      | .next ρ' S' => gsN gs ds ρ' S'
      | _ => .stuck) = SRes.stuck
    rcases h g List.mem_cons_self d ρ S with ⟨ρ', S', e⟩ | e
    · rw [e]
      exact gsN_plain (fun g' hg => h g' (List.mem_cons_of_mem _ hg)) ds ρ' S'
    · rw [e]
      exact .inr rfl
theorem gT_plain {gs : List GM} (h : ∀ g ∈ gs, g.plain) : (gT gs).plain := fun d ρ S => by
  unfold gT
  split
  · split
    · exact gsN_plain h _ ρ S
    · exact .inr rfl
  · exact .inr rfl
theorem gsp_nil : ∀ g ∈ ([] : List GM), g.plain := fun _ h => nomatch h
theorem gsp_cons {g : GM} {gs : List GM} (h1 : g.plain) (h2 : ∀ g ∈ gs, g.plain) : ∀ g' ∈ g :: gs, g'.plain := fun g' h => by
  rcases List.mem_cons.mp h with e | e
  · rw [e]; exact h1
  · exact h2 g' e
/-- a local name that holds a class: made -/
def eCallC (c : Str) (m : FM) (mo : EM) (ma : AM) : EM := fun ρ S => (mo ρ S).bind fun d S1 => match d with
  | .gl c' => if c' = c then (ma ρ S1).bind m else .stuck
  | _ => .stuck
section
variable {X : Cx} {W : WX} {C : Addr} {c x : Str} {m : FM} {e : Expr} {es : List Expr} {mo : EM} {ma : AM} {p pos : Pos}
theorem pd_callC (F : CallD X W (.ref C) m) (hm : X.mg c = some (.ref C)) (hk : PySem.W.keepIn X.K (.ref C) = true) (hf : PD X W (.Name x p) mo) (ha : PAD X W (e :: es) ma)
    (he : starEach (e :: es) X.env = (false, eval e X.env) :: starEach es X.env := by rfl) (hpl : (backTo pos (starEach es X.env)).any (·.1) = false := by rfl) : PD X W (.Call (.Name x p) (e :: es) [] pos) (eCallC c m mo ma) := ⟨fun pins s σ H Q I ⟨ρ, w, ee, R, E, q⟩ => by
  subst ee
  refine wpAny_Call_Name_kw (hf.go I R E q fun d w1 v u s1 k1 R1 E1 r1 rv I1 h1 => ?_)
  cases d with
  | gl c' =>
    dsimp only at h1
    by_cases hc : c' = c
    · subst hc
      rw [if_pos rfl] at h1
      cases r1 with
      | gl hg =>
        have e := hm.symm.trans hg
        cases e
        cases rv
        exact PySem.W.callWith_K (h₀ := X.base) I.ok.mod.kin hk (ha.go (pos := pos) I1 R1 E1 h1 fun ds w2 vs us s2 k2 R2 E2 r2 rv I2 h2 => ⟨I2.kIn, F pins s2 σ w2 ds vs us Q I2 R2 r2 rv h2⟩) he hpl
    · rw [if_neg hc] at h1
      exact h1.elim
  | _ => exact h1.elim⟩
end
/-! ### == of texts too -/
def eqS : Own2 := fun a b S => match a, b with
  | .str x, .str y => .ok (.bl (x == y)) S
  | _, _ => .stuck
def neS : Own2 := fun a b S => match a, b with
  | .str x, .str y => .ok (.bl (x != y)) S
  | _, _ => .stuck
def eqE : Own2 := oAlt eqS eqD
def neE : Own2 := oAlt neS neD
section
variable {X : Cx} {W : WX}
theorem od_eqS : OpD X W (compareOp .Eq) eqS := fun pins s σ w d1 d2 x y v u Q I R r1 r2 rx ry q => by
  cases d1 with
  | str a =>
    cases d2 with
    | str b =>
      cases r1; cases r2
      obtain ⟨t, rfl⟩ := rx
      obtain ⟨t', rfl⟩ := ry
      exact PyProof.Rows.eq_str ⟨.bl _, w.H, I, rfl, PV.now R (.bl _) q⟩
    | _ => exact q.elim
  | _ => exact q.elim
theorem od_neS : OpD X W (compareOp .NotEq) neS := fun pins s σ w d1 d2 x y v u Q I R r1 r2 rx ry q => by
  cases d1 with
  | str a =>
    cases d2 with
    | str b =>
      cases r1; cases r2
      obtain ⟨t, rfl⟩ := rx
      obtain ⟨t', rfl⟩ := ry
      exact PyProof.Rows.ne_str ⟨.bl _, w.H, I, rfl, PV.now R (.bl _) q⟩
    | _ => exact q.elim
  | _ => exact q.elim
theorem od_eqE (hu : X.A.units + 64 < cLine) : OpD X W (compareOp .Eq) eqE := OpD.alt od_eqS (od_eq hu)
theorem od_neE (hu : X.A.units + 64 < cLine) : OpD X W (compareOp .NotEq) neE := OpD.alt od_neS (od_ne hu)
end
end L3
end

section
set_option Elab.async false
set_option linter.all false
set_option maxRecDepth 100000
set_option maxHeartbeats 4000000
/-! L4A: what the terms of L3 give, as rules of simp -/
namespace L3
open PySem PySem.Spec L2
variable {ρ : DEnv} {S S' : Store} {d e : D} {i : Nat}
section
@[simp] theorem s_eC : eC d ρ S = .ok d S := rfl
@[simp] theorem s_eVar : eVar i ρ S = (match ρ[i]? with
  | some (some d) => .ok d S
  | _ => .stuck) := rfl
@[simp] theorem s_aNil : aNil ρ S = .ok [] S := rfl
@[simp] theorem s_aCons {m : EM} {ms : AM} : aCons m ms ρ S = (m ρ S).bind fun d S1 => (ms ρ S1).bind fun ds S2 => .ok (d :: ds) S2 := rfl
@[simp] theorem s_eTup {m : AM} : eTup m ρ S = (m ρ S).bind fun ds S1 => if ds.length ≤ 1000 then .ok (.tup ds) S1 else .stuck := rfl
@[simp] theorem s_eLst {live : Bool} {m : AM} : eLst live m ρ S = (m ρ S).bind fun ds S1 => if ds.length ≤ 1000 then newL live ds S1 else .stuck := rfl
@[simp] theorem s_newF {ds : List D} : newL false ds S = .ok (.lst ds) S := rfl
@[simp] theorem s_newT {ds : List D} : newL true ds S = .ok (.ref S.length) (S ++ [.lst ds]) := rfl
@[simp] theorem s_eBin {op : Own2} {ma mb : EM} : eBin op ma mb ρ S = (ma ρ S).bind fun a S1 => (mb ρ S1).bind fun b S2 => op a b S2 := rfl
@[simp] theorem s_eUn {op : D → Store → Res D} {ma : EM} : eUn op ma ρ S = (ma ρ S).bind fun a S1 => op a S1 := rfl
@[simp] theorem s_eApp {m : FM} {ma : AM} : eApp m ma ρ S = (ma ρ S).bind m := rfl
@[simp] theorem s_f1 {g : D → Store → Res D} : f1 g [d] S = g d S := rfl
@[simp] theorem s_tVal {m : EM} : tVal m ρ S = (m ρ S).bind fun d S1 => (match d with
  | .bl k => .ok k S1
  | _ => .stuck) := rfl
@[simp] theorem s_tAnd {t u : TM} : tAndM t u ρ S = (t ρ S).bind fun k S1 => if k = true then u ρ S1 else .ok false S1 := rfl
@[simp] theorem s_tOr {t u : TM} : tOrM t u ρ S = (t ρ S).bind fun k S1 => if k = true then .ok true S1 else u ρ S1 := rfl
@[simp] theorem s_tNot {t : TM} : tNotM t ρ S = (t ρ S).bind fun k S1 => .ok (!k) S1 := rfl
@[simp] theorem s_eAnd {m n : EM} : eAnd m n ρ S = (m ρ S).bind fun d S1 => (match d with
  | .bl true => n ρ S1
  | .bl false => .ok (.bl false) S1
  | _ => .stuck) := rfl
@[simp] theorem s_eOr {m n : EM} : eOr m n ρ S = (m ρ S).bind fun d S1 => (match d with
  | .bl true => .ok (.bl true) S1
  | .bl false => n ρ S1
  | _ => .stuck) := rfl
@[simp] theorem s_eNot {m : EM} : eNot m ρ S = (m ρ S).bind fun d S1 => (match d with
  | .bl k => .ok (.bl (!k)) S1
  | _ => .stuck) := rfl
@[simp] theorem s_eIf {t : TM} {m n : EM} : eIf t m n ρ S = (t ρ S).bind fun k S1 => if k = true then m ρ S1 else n ρ S1 := rfl
@[simp] theorem s_tYes : tYesM ρ S = .ok true S := rfl
/-! ### statements -/
@[simp] theorem s_sNext : sNext ρ S = .next ρ S := rfl
@[simp] theorem s_sSeq {a b : SM} : sSeq a b ρ S = (match a ρ S with
  | .next ρ' S' => b ρ' S'
  | r => r) := rfl
@[simp] theorem s_sBreak : sBreak ρ S = .brk ρ S := rfl
@[simp] theorem s_sCont : sCont ρ S = .cnt ρ S := rfl
@[simp] theorem s_sStuck : sStuck ρ S = .stuck := rfl
@[simp] theorem s_sExpr {m : EM} : sExpr m ρ S = sBind (m ρ S) ρ fun _ S1 => .next ρ S1 := rfl
@[simp] theorem s_sRet {m : EM} : sRet m ρ S = sBind (m ρ S) ρ fun d S1 => .ret d S1 := rfl
@[simp] theorem s_sRetN : sRetN ρ S = .ret .non S := rfl
@[simp] theorem s_sIf {t : TM} {a b : SM} : sIf t a b ρ S = sBind (t ρ S) ρ fun k S1 => if k = true then a ρ S1 else b ρ S1 := rfl
@[simp] theorem s_sSet {m : EM} : sSet i m ρ S = sBind (m ρ S) ρ fun d S1 => .next (ρ.set i (some d)) S1 := rfl
@[simp] theorem s_sPar {j : Nat} {ma mb : EM} : sPar i j ma mb ρ S = sBind (ma ρ S) ρ fun a S1 => sBind (mb ρ S1) ρ fun b S2 => .next ((ρ.set i (some a)).set j (some b)) S2 := rfl
@[simp] theorem s_sAsg {m : EM} {g : GM} : sAsg m g ρ S = sBind (m ρ S) ρ fun d S1 => g d ρ S1 := rfl
@[simp] theorem s_gN : gN i d ρ S = .next (ρ.set i (some d)) S := rfl
@[simp] theorem s_gT {gs : List GM} {ds : List D} : gT gs (.tup ds) ρ S = if ds.length = gs.length then gsN gs ds ρ S else .stuck := rfl
@[simp] theorem s_gs0 : gsN [] [] ρ S = .next ρ S := rfl
@[simp] theorem s_gs1 {g : GM} {gs : List GM} {ds : List D} : gsN (g :: gs) (d :: ds) ρ S = (match g d ρ S with
  | .next ρ' S' => gsN gs ds ρ' S'
  | _ => .stuck) := rfl
/-! ### operators -/
variable {a b j k : Int} {p q : Bool} {x y : Str}
@[simp] theorem s_sub : oSub (.int a) (.int b) S = .ok (.int (a - b)) S := rfl
@[simp] theorem s_lt : oLt (.int a) (.int b) S = .ok (.bl (decide (a < b))) S := rfl
@[simp] theorem s_le : oLe (.int a) (.int b) S = .ok (.bl (decide (a ≤ b))) S := rfl
@[simp] theorem s_gt : oGt (.int a) (.int b) S = .ok (.bl (decide (b < a))) S := rfl
@[simp] theorem s_ge : oGe (.int a) (.int b) S = .ok (.bl (decide (b ≤ a))) S := rfl
@[simp] theorem s_neg : oNeg (.int a) S = .ok (.int (-a)) S := rfl
theorem s_mod (h : 0 < b) : oMod (.int a) (.int b) S = .ok (.int (a % b)) S := if_pos (decide_eq_true h)
theorem s_fdiv (h : 0 < b) (h2 : b.natAbs.log2 < 9000) : oFdiv (.int a) (.int b) S = .ok (.int (a / b)) S := by
  simp only [oFdiv, iI, h, h2, decide_true, Bool.and_self, if_true]
theorem s_pow (h : 0 ≤ b) (h2 : b ≤ 1000000) (h3 : a.natAbs < 2 ^ 64) : oPow (.int a) (.int b) S = .ok (.int (a ^ b.toNat)) S := by
  simp only [oPow, iI, h, h2, h3, decide_true, Bool.and_self, if_true]
@[simp] theorem s_addI {live : Bool} : oAdd live (.int a) (.int b) S = .ok (.int (a + b)) S := rfl
theorem s_addT {live : Bool} {xs ys : List D} (h : xs.length + ys.length ≤ sizeLine) : oAdd live (.tup xs) (.tup ys) S = .ok (.tup (xs ++ ys)) S := if_pos h
theorem s_addL {xs ys : List D} (h : xs.length + ys.length ≤ sizeLine) : oAdd false (.lst xs) (.lst ys) S = .ok (.lst (xs ++ ys)) S := if_pos h
theorem s_mulI {live : Bool} (h : a.natAbs.log2 + b.natAbs.log2 < 1000000) : oMul live (.int a) (.int b) S = .ok (.int (a * b)) S := if_pos h
/-! ### == -/
theorem eqD_of {p q : PyData} (h1 : pyOf S d = some p) (h2 : pyOf S e = some q) (h3 : SeqAt.shaped p = true) (h4 : SeqAt.shaped q = true) : eqD d e S = .ok (.bl (PyData.eqv p q)) S := by
  unfold eqD
  rw [h1, h2]
  exact if_pos ⟨h3, h4⟩
theorem neD_of {p q : PyData} (h1 : pyOf S d = some p) (h2 : pyOf S e = some q) (h3 : SeqAt.shaped p = true) (h4 : SeqAt.shaped q = true) : neD d e S = .ok (.bl (!PyData.eqv p q)) S := by
  unfold neD
  rw [h1, h2]
  exact if_pos ⟨h3, h4⟩
@[simp] theorem eqD_ii : eqD (.int a) (.int b) S = .ok (.bl (decide (a = b))) S := by
  rw [eqD_of (p := .int a) (q := .int b) rfl rfl rfl rfl]
  show Res.ok (D.bl (a == b)) S = _
  rw [Bool.beq_eq_decide_eq]
@[simp] theorem neD_ii : neD (.int a) (.int b) S = .ok (.bl (!decide (a = b))) S := by
  rw [neD_of (p := .int a) (q := .int b) rfl rfl rfl rfl]
  show Res.ok (D.bl (!(a == b))) S = _
  rw [Bool.beq_eq_decide_eq]
abbrev pairPy (p : Int × Int) : PyData := .tuple [.int p.1, .int p.2]
theorem toPys_pairs : ∀ ps : List (Int × Int), toPys (ps.map pairD) = some (ps.map pairPy)
  | [] => rfl
  | p :: ps => by
    show (match toPy (pairD p), toPys (ps.map pairD) with
      | some p, some ps => some (p :: ps)
      | _, _ => none) = _
    rw [toPys_pairs ps]
    rfl
theorem pyOf_pairs (ps : List (Int × Int)) : pyOf S (.tup (ps.map pairD)) = some (.tuple (ps.map pairPy)) := by
  show (toPys (ps.map pairD)).map PyData.tuple = _
  rw [toPys_pairs]
  rfl
theorem canLay_pairs : ∀ ps : List (Int × Int), PyData.canLayAll0 (ps.map pairPy) = true
  | [] => rfl
  | p :: ps => by
    show (PyData.canLay0 (pairPy p) && PyData.canLayAll0 (ps.map pairPy)) = true
    rw [canLay_pairs ps]
    rfl
theorem depth_pairs : ∀ ps : List (Int × Int), PyData.depthAll (ps.map pairPy) ≤ 1
  | [] => Nat.zero_le _
  | p :: ps => by
    show max (PyData.depth (pairPy p)) (PyData.depthAll (ps.map pairPy)) ≤ 1
    have := depth_pairs ps
    have h : PyData.depth (pairPy p) = 1 := rfl
    omega
theorem shaped_pairs (ps : List (Int × Int)) : SeqAt.shaped (.tuple (ps.map pairPy)) = true := by
  unfold SeqAt.shaped
  rw [Bool.and_eq_true]
  refine ⟨canLay_pairs ps, decide_eq_true ?_⟩
  show PyData.depthAll (ps.map pairPy) + 1 ≤ 64
  have := depth_pairs ps
  omega
theorem eqv_pairs : ∀ ps qs : List (Int × Int), PyData.eqvAll (ps.map pairPy) (qs.map pairPy) = decide (ps = qs)
  | [], [] => rfl
  | [], _ :: _ => by simp [PyData.eqvAll]
  | _ :: _, [] => by simp [PyData.eqvAll]
  | p :: ps, q :: qs => by
    show (PyData.eqv (pairPy p) (pairPy q) && PyData.eqvAll (ps.map pairPy) (qs.map pairPy)) = _
    rw [eqv_pairs ps qs]
    show (((p.1 == q.1) && ((p.2 == q.2) && true)) && decide (ps = qs)) = _
    obtain ⟨a, b⟩ := p
    obtain ⟨c, d⟩ := q
    simp only [Bool.and_true, List.cons.injEq, Prod.mk.injEq, Bool.beq_eq_decide_eq, Bool.decide_and]
@[simp] theorem eqD_pairs (ps qs : List (Int × Int)) : eqD (.tup (ps.map pairD)) (.tup (qs.map pairD)) S = .ok (.bl (decide (ps = qs))) S := by
  rw [eqD_of (pyOf_pairs ps) (pyOf_pairs qs) (shaped_pairs ps) (shaped_pairs qs)]
  show Res.ok (D.bl (PyData.eqvAll _ _)) S = _
  rw [eqv_pairs]
@[simp] theorem neD_pairs (ps qs : List (Int × Int)) : neD (.tup (ps.map pairD)) (.tup (qs.map pairD)) S = .ok (.bl (!decide (ps = qs))) S := by
  rw [neD_of (pyOf_pairs ps) (pyOf_pairs qs) (shaped_pairs ps) (shaped_pairs qs)]
  show Res.ok (D.bl (!PyData.eqvAll _ _)) S = _
  rw [eqv_pairs]
theorem eqD_pairs0 (ps : List (Int × Int)) : eqD (.tup (ps.map pairD)) (.tup []) S = .ok (.bl (decide (ps = []))) S := eqD_pairs ps []
theorem neD_pairs0 (ps : List (Int × Int)) : neD (.tup (ps.map pairD)) (.tup []) S = .ok (.bl (!decide (ps = []))) S := neD_pairs ps []
@[simp] theorem eqE_ss : eqE (.str x) (.str y) S = .ok (.bl (x == y)) S := rfl
@[simp] theorem neE_ss : neE (.str x) (.str y) S = .ok (.bl (x != y)) S := rfl
@[simp] theorem eqE_i {b : D} : eqE (.int a) b S = eqD (.int a) b S := rfl
@[simp] theorem neE_i {b : D} : neE (.int a) b S = neD (.int a) b S := rfl
@[simp] theorem eqE_t {xs : List D} {b : D} : eqE (.tup xs) b S = eqD (.tup xs) b S := rfl
@[simp] theorem neE_t {xs : List D} {b : D} : neE (.tup xs) b S = neD (.tup xs) b S := rfl
@[simp] theorem eqE_l {xs : List D} {b : D} : eqE (.lst xs) b S = eqD (.lst xs) b S := rfl
@[simp] theorem neE_l {xs : List D} {b : D} : neE (.lst xs) b S = neD (.lst xs) b S := rfl
@[simp] theorem eqE_b {b : D} : eqE (.bl p) b S = eqD (.bl p) b S := rfl
@[simp] theorem neE_b {b : D} : neE (.bl p) b S = neD (.bl p) b S := rfl
@[simp] theorem eqE_n {b : D} : eqE .non b S = eqD .non b S := rfl
@[simp] theorem neE_n {b : D} : neE .non b S = neD .non b S := rfl
/-! ### defs -/
theorem s_finT : fin true S d S' = .ok d S' := if_pos rfl
end
end L3
end

section
set_option Elab.async false
set_option linter.all false
set_option maxRecDepth 100000
set_option maxHeartbeats 4000000
/-! L4B: loops, comprehensions, what is built in -/
namespace L3
open PySem PySem.Spec L2
variable {ρ : DEnv} {S S0 S' : Store} {d e : D} {i : Nat}
@[simp] theorem sameAt_nil : SameAt [] S S' = True := eq_true fun _ h => nomatch h
theorem sameAt_refl (src : List Nat) : SameAt src S S := fun _ _ => rfl
section
variable {g : GM} {b : SM} {ds : List D} {src : List Nat}
@[simp] theorem for_nil : sFor1 g b [] S0 [] ρ S = .next ρ S := if_pos (by rw [sameAt_nil]; trivial)
theorem for_cons : sFor1 g b [] S0 (d :: ds) ρ S = (match g d ρ S with
  | .next ρ1 S1 => match b ρ1 S1 with
    | .next ρ' S' => sFor1 g b [] S0 ds ρ' S'
    | .cnt ρ' S' => sFor1 g b [] S0 ds ρ' S'
    | .brk ρ' S' => .next ρ' S'
    | r => r
  | _ => .stuck) := if_pos (by rw [sameAt_nil]; trivial)
@[simp] theorem s_sFor {mi : IM} : sFor mi g b ρ S = sBind (mi ρ S) ρ fun p S1 => sFor1 g b p.2 S1 p.1 ρ S1 := rfl
/-- a loop with an invariant -/
theorem for_inv (I : Nat → DEnv → Store → Prop) : ∀ (ds : List D) (n : Nat) (ρ : DEnv) (S : Store), I n ρ S →
    (∀ i d ρ S, ds[i]? = some d → I (n + i) ρ S → ∃ ρ1 S1 ρ' S', g d ρ S = .next ρ1 S1 ∧ (b ρ1 S1 = .next ρ' S' ∨ b ρ1 S1 = .cnt ρ' S') ∧ I (n + i + 1) ρ' S') →
    ∃ ρ' S', sFor1 g b [] S0 ds ρ S = .next ρ' S' ∧ I (n + ds.length) ρ' S'
  | [], n, ρ, S, h0, _ => ⟨ρ, S, for_nil, h0⟩
  | d :: ds, n, ρ, S, h0, h => by
    obtain ⟨ρ1, S1, ρ', S', e1, e2, h2⟩ := h 0 d ρ S rfl h0
    obtain ⟨ρ2, S2, e3, h3⟩ := for_inv I ds (n + 1) ρ' S' h2 fun i d' ρ S hi hI => by
      have := h (i + 1) d' ρ S hi (by rw [show n + (i + 1) = n + 1 + i by omega]; exact hI)
      rw [show n + (i + 1) + 1 = n + 1 + i + 1 by omega] at this
      exact this
    refine ⟨ρ2, S2, ?_, by rw [List.length_cons, show n + (ds.length + 1) = n + 1 + ds.length by omega]; exact h3⟩
    rw [for_cons, e1]
    rcases e2 with e2 | e2 <;> (dsimp only; rw [e2]; exact e3)
end
section
variable {tg : Tgt} {t : TM} {me : EM} {vs : List Nat} {src : List Nat} {acc : List D}
@[simp] theorem comp_nil : cLoop tg t me vs [] S0 ρ [] acc S = .ok acc S := if_pos (by rw [sameAt_nil]; trivial)
theorem comp_cons {ds : List D} : cLoop tg t me vs [] S0 ρ (d :: ds) acc S = (match putT tg d (wipeD ρ vs) with
  | none => .stuck
  | some ρ1 => match t ρ1 S with
    | .ok true S1 => match me ρ1 S1 with
      | .ok y S2 => cLoop tg t me vs [] S0 ρ ds (acc ++ [y]) S2
      | _ => .stuck
    | .ok false S1 => cLoop tg t me vs [] S0 ρ ds acc S1
    | _ => .stuck) := if_pos (by rw [sameAt_nil]; trivial)
@[simp] theorem s_eComp {live : Bool} {mi : IM} : eComp live mi tg t me vs ρ S = (mi ρ S).bind fun p S1 => (cLoop tg t me vs p.2 S1 ρ p.1 [] S1).bind fun ys S2 => newL live ys S2 := rfl
/-- without effects, over a list that is told -/
theorem comp_on {α : Type} (F : α → D) (p : α → Bool) (G : α → D) (hs : SameAt src S0 S) : ∀ (xs : List α) (acc : List D), (∀ x ∈ xs, ∃ ρ1, putT tg (F x) (wipeD ρ vs) = some ρ1 ∧ t ρ1 S = .ok (p x) S ∧ (p x = true → me ρ1 S = .ok (G x) S)) →
    cLoop tg t me vs src S0 ρ (xs.map F) acc S = .ok (acc ++ (xs.filter p).map G) S
  | [], acc, _ => by
    unfold cLoop
    rw [List.map_nil]
    dsimp only
    rw [if_pos hs]
    simp
  | x :: xs, acc, h => by
    obtain ⟨ρ1, h1, h2, h3⟩ := h x List.mem_cons_self
    rw [List.map_cons]
    unfold cLoop
    rw [if_pos hs, h1]
    dsimp only
    rw [h2]
    cases e : p x with
    | true =>
      dsimp only
      rw [h3 e]
      dsimp only
      rw [comp_on F p G hs xs _ fun y hy => h y (List.mem_cons_of_mem _ hy), List.filter_cons_of_pos e, List.map_cons, List.append_assoc]
      rfl
    | false =>
      dsimp only
      rw [comp_on F p G hs xs _ fun y hy => h y (List.mem_cons_of_mem _ hy), List.filter_cons_of_neg (by rw [e]; exact Bool.false_ne_true)]
/-- with effects: an invariant -/
theorem comp_inv (I : Nat → List D → Store → Prop) : ∀ (ds : List D) (n : Nat) (acc : List D) (S : Store), I n acc S →
    (∀ i d acc S, ds[i]? = some d → I (n + i) acc S → ∃ ρ1 k S1, putT tg d (wipeD ρ vs) = some ρ1 ∧ t ρ1 S = .ok k S1 ∧ (k = false → I (n + i + 1) acc S1) ∧ (k = true → ∃ y S2, me ρ1 S1 = .ok y S2 ∧ I (n + i + 1) (acc ++ [y]) S2)) →
    ∃ ys S', cLoop tg t me vs [] S0 ρ ds acc S = .ok ys S' ∧ I (n + ds.length) ys S'
  | [], n, acc, S, h0, _ => ⟨acc, S, comp_nil, h0⟩
  | d :: ds, n, acc, S, h0, h => by
    obtain ⟨ρ1, k, S1, e1, e2, h1, h2⟩ := h 0 d acc S rfl h0
    have next : ∀ i d' acc S, ds[i]? = some d' → I (n + 1 + i) acc S → ∃ ρ1 k S1, putT tg d' (wipeD ρ vs) = some ρ1 ∧ t ρ1 S = .ok k S1 ∧ (k = false → I (n + 1 + i + 1) acc S1) ∧ (k = true → ∃ y S2, me ρ1 S1 = .ok y S2 ∧ I (n + 1 + i + 1) (acc ++ [y]) S2) := fun i d' acc S hi hI => by
      have := h (i + 1) d' acc S hi (by rw [show n + (i + 1) = n + 1 + i by omega]; exact hI)
      rw [show n + (i + 1) + 1 = n + 1 + i + 1 by omega] at this
      exact this
    rw [comp_cons, e1]
    dsimp only
    rw [e2]
    cases k with
    | false =>
      obtain ⟨ys, S', e3, h3⟩ := comp_inv I ds (n + 1) acc S1 (h1 rfl) next
      exact ⟨ys, S', e3, by rw [List.length_cons, show n + (ds.length + 1) = n + 1 + ds.length by omega]; exact h3⟩
    | true =>
      obtain ⟨y, S2, e3, h3⟩ := h2 rfl
      obtain ⟨ys, S', e4, h4⟩ := comp_inv I ds (n + 1) (acc ++ [y]) S2 h3 next
      refine ⟨ys, S', ?_, by rw [List.length_cons, show n + (ds.length + 1) = n + 1 + ds.length by omega]; exact h4⟩
      dsimp only
      rw [e3]
      exact e4
@[simp] theorem put_nm {i : Nat} : putT (.nm i) d ρ = some (ρ.set i (some d)) := rfl
@[simp] theorem put_tp {ts : List Tgt} {ds : List D} : putT (.tp ts) (.tup ds) ρ = if ds.length = ts.length then putTs ts ds ρ else none := rfl
@[simp] theorem puts_nil : putTs [] [] ρ = some ρ := rfl
@[simp] theorem puts_cons {t : Tgt} {ts : List Tgt} {ds : List D} : putTs (t :: ts) (d :: ds) ρ = (match putT t d ρ with
  | some ρ' => putTs ts ds ρ'
  | none => none) := rfl
@[simp] theorem wipe_nil : wipeD ρ [] = ρ := rfl
@[simp] theorem wipe_cons {v : Nat} {vs : List Nat} : wipeD ρ (v :: vs) = (wipeD ρ vs).set v none := rfl
end
/-! ### what is walked -/
@[simp] theorem s_iSeqT {m : EM} {ds : List D} (h : m ρ S = .ok (.tup ds) S') : iSeq m ρ S = .ok (ds, []) S' := by
  unfold iSeq
  rw [h]
  rfl
@[simp] theorem s_iSeqL {m : EM} {ds : List D} (h : m ρ S = .ok (.lst ds) S') : iSeq m ρ S = .ok (ds, []) S' := by
  unfold iSeq
  rw [h]
  rfl
theorem s_iRange1 {ma : AM} {j : Int} (h : ma ρ S = .ok [.int j] S') (h1 : 0 ≤ j) (h2 : j ≤ 1000000) : iRange1 ma ρ S = .ok (rangeL 0 j.toNat, []) S' := by
  unfold iRange1
  rw [h]
  refine if_pos ⟨?_, ?_⟩
  · unfold small62
    rw [decide_eq_true (show -(2 ^ 62 : Int) ≤ j by omega), decide_eq_true (show j < 2 ^ 62 by omega)]
    rfl
  · rw [sizeLine_eq]
    omega
theorem rangeL_map (lo : Int) (n : Nat) : rangeL lo n = (List.range n).map fun (i : Nat) => D.int (lo + (i : Int)) := rfl
/-! ### built-ins -/
@[simp] theorem s_len_t {ds : List D} : bLen (.tup ds) S = .ok (.int ds.length) S := rfl
@[simp] theorem s_len_l {ds : List D} : bLen (.lst ds) S = .ok (.int ds.length) S := rfl
@[simp] theorem s_len_f {ds : List D} : bLen (.frz ds) S = .ok (.int ds.length) S := rfl
@[simp] theorem s_int_i {a : Int} : bInt (.int a) S = .ok (.int a) S := rfl
@[simp] theorem s_tuple_l {ds : List D} : bTuple (.lst ds) S = .ok (.tup ds) S := rfl
@[simp] theorem s_tuple_t {ds : List D} : bTuple (.tup ds) S = .ok (.tup ds) S := rfl
@[simp] theorem s_list_t {live : Bool} {ds : List D} : bList live (.tup ds) S = newL live ds S := rfl
@[simp] theorem s_list_l {live : Bool} {ds : List D} : bList live (.lst ds) S = newL live ds S := rfl
theorem bIsi_ty {own : Isi} {ownT : String → D → Option Bool} {n T : String} {r : Bool} (h1 : tyD S d = some n) (h2 : isTy n T = some r) : bIsi own ownT [d, .ty T] S = .ok (.bl r) S := by
  show (match tyD S d with
    | some n => match isTy n T with
      | some b => Res.ok (D.bl b) S
      | none => .stuck
    | none => match ownT T d with
      | some b => .ok (D.bl b) S
      | none => .stuck) = _
  rw [h1]
  dsimp only
  rw [h2]
@[simp] theorem isi_ii {own : Isi} {ownT : String → D → Option Bool} {a : Int} : bIsi own ownT [.int a, .ty "int"] S = .ok (.bl true) S := bIsi_ty rfl (by decide +kernel)
@[simp] theorem isi_ib {own : Isi} {ownT : String → D → Option Bool} {a : Int} : bIsi own ownT [.int a, .ty "bool"] S = .ok (.bl false) S := bIsi_ty rfl (by decide +kernel)
@[simp] theorem isi_it {own : Isi} {ownT : String → D → Option Bool} {a : Int} : bIsi own ownT [.int a, .ty "tuple"] S = .ok (.bl false) S := bIsi_ty rfl (by decide +kernel)
@[simp] theorem isi_tt {own : Isi} {ownT : String → D → Option Bool} {ds : List D} : bIsi own ownT [.tup ds, .ty "tuple"] S = .ok (.bl true) S := bIsi_ty rfl (by decide +kernel)
@[simp] theorem isi_ti {own : Isi} {ownT : String → D → Option Bool} {ds : List D} : bIsi own ownT [.tup ds, .ty "int"] S = .ok (.bl false) S := bIsi_ty rfl (by decide +kernel)
theorem isi_gl {own : Isi} {ownT : String → D → Option Bool} {c : Str} {r : Bool} (h : own c d S = some r) : bIsi own ownT [d, .gl c] S = .ok (.bl r) S := by
  show (match own c d S with
    | some b => Res.ok (D.bl b) S
    | none => .stuck) = _
  rw [h]
theorem s_all {bs : List Bool} : bAll (.lst (bs.map D.bl)) S = .ok (.bl (bs.all _root_.id)) S := by
  unfold bAll overBls
  show (match (some (bs.map D.bl)).bind blsOf with
    | some ns => Res.ok (D.bl (ns.all _root_.id)) S
    | none => .stuck) = _
  rw [Option.bind_some, blsOf_map]
theorem s_sum {ns : List Int} : bSum (.lst (ns.map D.int)) S = .ok (.int ns.sum) S := by
  unfold bSum overInts
  show (match (some (ns.map D.int)).bind intsOf with
    | some ns => (match some (D.int ns.sum) with
      | some r => Res.ok r S
      | none => .stuck)
    | none => .stuck) = _
  rw [Option.bind_some, intsOf_map]
/-! ### places -/
theorem atI_nat {α : Type} {xs : List α} {a : Int} {x : α} (h0 : 0 ≤ a) (h : xs[a.toNat]? = some x) : atI xs a = some x := by
  have hl := (List.getElem?_eq_some_iff.mp h).1
  unfold atI ixN
  rw [if_pos h0, if_pos (by omega)]
  exact h
theorem atI_last {α : Type} {xs : List α} {x : α} : atI (xs ++ [x]) (-1) = some x := by
  unfold atI ixN
  rw [if_neg (by decide), if_pos (by rw [List.length_append]; simp; omega)]
  show (xs ++ [x])[(-1 + ((xs ++ [x]).length : Int)).toNat]? = some x
  have e : (-1 + ((xs ++ [x]).length : Int)).toNat = xs.length := by
    rw [List.length_append]
    simp
    omega
  rw [e, List.getElem?_append_right (Nat.le_refl _), Nat.sub_self]
  rfl
theorem ix_t {ds : List D} {a : Int} (h : atI ds a = some d) : oIx (.tup ds) (.int a) S = .ok d S := by
  show (match seqOf S (.tup ds) with
    | some ds => match atI ds a with
      | some d => Res.ok d S
      | none => .stuck
    | none => .stuck) = _
  show (match atI ds a with
      | some d => Res.ok d S
      | none => .stuck) = _
  rw [h]
theorem ix_l {ds : List D} {a : Int} (h : atI ds a = some d) : oIx (.lst ds) (.int a) S = .ok d S := by
  show (match atI ds a with
      | some d => Res.ok d S
      | none => .stuck) = _
  rw [h]
theorem ix_r {l : Nat} {ds : List D} {a : Int} (hS : S[l]? = some (.lst ds)) (h : atI ds a = some d) : oIx (.ref l) (.int a) S = .ok d S := by
  show (match (match S[l]? with
      | some (.lst ds) => some ds
      | _ => none) with
    | some ds => match atI ds a with
      | some d => Res.ok d S
      | none => .stuck
    | none => .stuck) = _
  rw [hS]
  dsimp only
  rw [h]
/-! ### a list's place written -/
theorem gix_l {mo mi : EM} {l j : Nat} {ds : List D} {a : Int} {S1 S2 : Store} (h1 : mo ρ S = .ok (.ref l) S1) (h2 : mi ρ S1 = .ok (.int a) S2) (hS : S2[l]? = some (.lst ds)) (hj : ixN ds.length a = some j) : gIx mo mi d ρ S = .next ρ (S2.set l (.lst (ds.set j d))) := by
  unfold gIx
  rw [h1]
  dsimp only
  rw [h2]
  dsimp only
  unfold cellL
  dsimp only
  rw [hS]
  dsimp only
  rw [hj]
end L3
end

section
set_option Elab.async false
set_option linter.all false
set_option maxRecDepth 100000
set_option maxHeartbeats 4000000
namespace E
open PySem PySem.Spec L2 L3
abbrev noTy : String → D → Option Bool := fun _ _ => none
noncomputable def b__law_bag (tab : IsTab) : SM :=
  (sSeq (sSet 1 (eC (.int 0))) (sSeq (sIf (tVal (eBin oGe (eVar 0) (eBin oPow (eC (.int 10)) (eC (.int 18))))) (sSet 1 (eBin oSub (eVar 0) (eBin oPow (eC (.int 10)) (eC (.int 18))))) sNext) (sRet (eLst true (aCons (eVar 1) (aCons (eBin oMod (eApp (f1 bInt) (aCons (eVar 0) aNil)) (eC (.int 1000000000000000003))) (aCons (eC (.int 0)) aNil)))))))
noncomputable def m__law_bag (tab : IsTab) : FM := mFn 1 1 true (b__law_bag tab)
noncomputable def b__law_draw (tab : IsTab) : SM :=
  (sSeq (sIf (tVal (eBin oGt (eBin oIx (eVar 0) (eC (.int 0))) (eC (.int 0)))) (sSeq (sSet 2 (eBin oMod (eApp (f1 bInt) (aCons (eBin oIx (eVar 0) (eC (.int 0))) aNil)) (eVar 1))) (sSeq (sAsg (eBin oFdiv (eBin oIx (eVar 0) (eC (.int 0))) (eVar 1)) (gIx (eVar 0) (eC (.int 0)))) (sRet (eVar 2)))) sNext) (sSeq (sAsg (eBin (oAdd false) (eBin oIx (eVar 0) (eC (.int 2))) (eC (.int 1))) (gIx (eVar 0) (eC (.int 2)))) (sSeq (sSet 3 (eBin oIx (eVar 0) (eC (.int 2)))) (sSeq (sSet 4 (eBin (oAdd false) (eBin (oMul false) (eBin (oAdd false) (eBin oIx (eVar 0) (eC (.int 1))) (eC (.int 7))) (eBin (oAdd false) (eBin (oAdd false) (eBin (oMul false) (eBin (oMul false) (eC (.int 31)) (eVar 3)) (eVar 3)) (eBin (oMul false) (eC (.int 104729)) (eVar 3))) (eC (.int 13)))) (eBin (oMul false) (eC (.int 17)) (eVar 3)))) (sSeq (sSet 4 (eBin oFdiv (eBin oMod (eApp (f1 bInt) (aCons (eBin (oAdd false) (eBin (oMul false) (eVar 4) (eVar 4)) (eBin (oMul false) (eC (.int 999983)) (eVar 4))) aNil)) (eC (.int 1000000000000000009))) (eC (.int 1009)))) (sRet (eBin oMod (eBin oFdiv (eBin oMod (eApp (f1 bInt) (aCons (eBin (oAdd false) (eBin (oAdd false) (eBin (oMul false) (eVar 4) (eVar 4)) (eBin (oMul false) (eC (.int 65537)) (eVar 4))) (eVar 3)) aNil)) (eC (.int 2147483629))) (eC (.int 16))) (eVar 1))))))))
noncomputable def m__law_draw (tab : IsTab) : FM := mFn 2 3 true (b__law_draw tab)
noncomputable def b__law_base (tab : IsTab) : SM :=
  (sRet (eBin oIx (eLst false (aCons (eC (.int 2)) (aCons (eC (.int 3)) (aCons (eC (.int 5)) aNil)))) (eApp (m__law_draw tab) (aCons (eVar 0) (aCons (eC (.int 3)) aNil)))))
noncomputable def m__law_base (tab : IsTab) : FM := mFn 1 0 true (b__law_base tab)
noncomputable def b__law_pairs (tab : IsTab) : SM :=
  (sSeq (sSet 3 (eBin oIx (eLst false (aCons (eC (.int 2)) (aCons (eC (.int 3)) (aCons (eC (.int 5)) aNil)))) (eApp (m__law_draw tab) (aCons (eVar 0) (aCons (eC (.int 3)) aNil))))) (sSeq (sSet 4 (eComp false (iRange1 (aCons (eBin (oAdd false) (eBin (oMul false) (eC (.int 2)) (eVar 2)) (eC (.int 1))) aNil)) (.nm 5) (tVal (eBin eqE (eApp (m__law_draw tab) (aCons (eVar 0) (aCons (eVar 3) aNil))) (eC (.int 0)))) (eTup (aCons (eBin oSub (eVar 5) (eVar 2)) (aCons (eBin (oAdd false) (eC (.int 1)) (eApp (m__law_draw tab) (aCons (eVar 0) (aCons (eBin oSub (eVar 1) (eC (.int 1))) aNil)))) aNil))) [5])) (sRet (eApp (f1 bTuple) (aCons (eVar 4) aNil)))))
noncomputable def m__law_pairs (tab : IsTab) : FM := mFn 3 3 true (b__law_pairs tab)
noncomputable def b__law_summed (tab : IsTab) : SM :=
  (sSeq (sSet 2 eDic0) (sSeq (sFor (iSeq (eVar 1)) (gT [(gN 3), (gN 4)]) (sAsg (eBin oMod (eApp (f1 bInt) (aCons (eBin (oAdd false) (eMet "dict" mGet (eVar 2) (aCons (eVar 3) (aCons (eC (.int 0)) aNil))) (eVar 4)) aNil)) (eVar 0)) (gIx (eVar 2) (eVar 3)))) (sRet (eApp (f1 bTuple) (aCons (eComp false (iSeq (eApp (f1 (bSorted false)) (aCons (eVar 2) aNil))) (.nm 3) (tVal (eBin neE (eBin oDGet (eVar 2) (eVar 3)) (eC (.int 0)))) (eTup (aCons (eVar 3) (aCons (eBin oDGet (eVar 2) (eVar 3)) aNil))) [3]) aNil)))))
noncomputable def m__law_summed (tab : IsTab) : FM := mFn 2 3 false (b__law_summed tab)
noncomputable def b__law_spread (tab : IsTab) : SM :=
  (sSeq (sPar 2 3 (eApp (m__law_pairs tab) (aCons (eVar 0) (aCons (eVar 1) (aCons (eC (.int 4)) aNil)))) (eApp (m__law_draw tab) (aCons (eVar 0) (aCons (eC (.int 4)) aNil)))) (sSeq (sIf (tVal (eBin eqE (eVar 3) (eC (.int 0)))) (sRet (eVar 2)) sNext) (sSeq (sSet 4 (eIf (tVal (eBin oGt (eVar 3) (eC (.int 1)))) (eApp (f1 (bList false)) (aCons (eVar 2) aNil)) (eLst false aNil))) (sSeq (sFor (iRange1 (aCons (eBin oIx (eLst false (aCons (eC (.int 1)) (aCons (eC (.int 1)) (aCons (eC (.int 1)) (aCons (eC (.int 3)) aNil))))) (eVar 3)) aNil)) (gN 5) (sSeq (sSet 6 (eLst false (aCons (eBin oSub (eApp (m__law_draw tab) (aCons (eVar 0) (aCons (eC (.int 199)) aNil))) (eC (.int 99))) (aCons (eBin oSub (eBin oPow (eC (.int 10)) (eC (.int 9))) (eApp (m__law_draw tab) (aCons (eVar 0) (aCons (eBin (oMul false) (eC (.int 2)) (eBin oPow (eC (.int 10)) (eC (.int 9)))) aNil)))) (aCons (eBin oSub (eBin oPow (eC (.int 10)) (eC (.int 25))) (eApp (m__law_draw tab) (aCons (eVar 0) (aCons (eBin (oMul false) (eC (.int 2)) (eBin oPow (eC (.int 10)) (eC (.int 25)))) aNil)))) aNil))))) (sSeq (sSet 7 (eBin oIx (eVar 6) (eApp (m__law_draw tab) (aCons (eVar 0) (aCons (eC (.int 3)) aNil))))) (sSet 4 (eBin (oAdd false) (eVar 4) (eComp false (iSeq (eApp (m__law_pairs tab) (aCons (eVar 0) (aCons (eVar 1) (aCons (eC (.int 4)) aNil))))) (.tp [(.nm 8), (.nm 9)]) tYesM (eTup (aCons (eBin (oAdd false) (eVar 8) (eVar 7)) (aCons (eVar 9) aNil))) [8, 9])))))) (sRet (eApp (m__law_summed tab) (aCons (eVar 1) (aCons (eVar 4) aNil))))))))
noncomputable def m__law_spread (tab : IsTab) : FM := mFn 2 8 true (b__law_spread tab)
noncomputable def b_is_number (tab : IsTab) : SM :=
  (sRet (eAnd (eApp (bIsi tab.own noTy) (aCons (eVar 0) (aCons (eC (.ty "int")) aNil))) (eNot (eApp (bIsi tab.own noTy) (aCons (eVar 0) (aCons (eC (.ty "bool")) aNil))))))
noncomputable def m_is_number (tab : IsTab) : FM := mFn 1 0 true (b_is_number tab)
noncomputable def b_is_prime (tab : IsTab) : SM :=
  (sRet (eAnd (eApp (m_is_number tab) (aCons (eVar 0) aNil)) (eBin (oIn false) (eVar 0) (eC (.tup [.int 2, .int 3, .int 5])))))
noncomputable def m_is_prime (tab : IsTab) : FM := mFn 1 0 true (b_is_prime tab)
noncomputable def b_need_prime (tab : IsTab) : SM :=
  (sIf (tNotM (tVal (eApp (m_is_prime tab) (aCons (eVar 0) aNil)))) sStuck sNext)
noncomputable def m_need_prime (tab : IsTab) : FM := mFn 1 0 true (b_need_prime tab)
noncomputable def b_is_whole (tab : IsTab) : SM :=
  (sRet (eAnd (eApp (m_is_number tab) (aCons (eVar 0) aNil)) (eChain (fun i j => decide (i ≤ j)) (fun i j => decide (i ≤ j)) (eVar 1) (eVar 0) (eVar 2))))
noncomputable def m_is_whole (tab : IsTab) : FM := mFn 3 0 true (b_is_whole tab)
noncomputable def b_is_pair (tab : IsTab) : SM :=
  (sRet (eAnd (eApp (bIsi tab.own noTy) (aCons (eVar 1) (aCons (eC (.ty "tuple")) aNil))) (eAnd (eBin eqE (eApp (f1 bLen) (aCons (eVar 1) aNil)) (eC (.int 2))) (eAnd (eApp (m_is_number tab) (aCons (eBin oIx (eVar 1) (eC (.int 0))) aNil)) (eApp (m_is_whole tab) (aCons (eBin oIx (eVar 1) (eC (.int 1))) (aCons (eC (.int 1)) (aCons (eBin oSub (eVar 0) (eC (.int 1))) aNil))))))))
noncomputable def m_is_pair (tab : IsTab) : FM := mFn 2 0 true (b_is_pair tab)
noncomputable def b_fits_rule (tab : IsTab) : SM :=
  (sSeq (sIf (tOrM (tNotM (tVal (eApp (bIsi tab.own noTy) (aCons (eVar 1) (aCons (eC (.ty "tuple")) aNil))))) (tNotM (tVal (eApp (f1 bAll) (aCons (eComp false (iSeq (eVar 1)) (.nm 2) tYesM (eApp (m_is_pair tab) (aCons (eVar 0) (aCons (eVar 2) aNil))) [2]) aNil))))) (sRet (eC (.bl false))) sNext) (sRet (eApp (f1 bAll) (aCons (eComp false (iZip (aCons (eVar 1) (aCons (eSl false (eVar 1) (oSome (eC (.int 1))) oNone) aNil))) (.tp [(.nm 3), (.nm 4)]) tYesM (eBin oLt (eBin oIx (eVar 3) (eC (.int 0))) (eBin oIx (eVar 4) (eC (.int 0)))) [3, 4]) aNil))))
noncomputable def m_fits_rule (tab : IsTab) : FM := mFn 2 3 true (b_fits_rule tab)
noncomputable def b_need_rule (tab : IsTab) : SM :=
  (sIf (tNotM (tVal (eApp (m_fits_rule tab) (aCons (eVar 0) (aCons (eVar 1) aNil))))) sStuck sNext)
noncomputable def m_need_rule (tab : IsTab) : FM := mFn 2 0 true (b_need_rule tab)
noncomputable def b_RuleX_initX (tab : IsTab) : SM :=
  (sSeq (sExpr (eApp (m_need_prime tab) (aCons (eVar 1) aNil))) (sSeq (sExpr (eApp (m_need_rule tab) (aCons (eVar 1) (aCons (eVar 2) aNil)))) (sSeq (sFldD ["Rule"] "base" (eVar 0) (eVar 1)) (sFldD ["Rule"] "pairs" (eVar 0) (eVar 2)))))
noncomputable def m_RuleX_initX (tab : IsTab) : FM := mFn 3 0 true (b_RuleX_initX tab)
noncomputable def b_Rule_rule (tab : IsTab) : SM :=
  (sRet (eFld ["Rule"] "pairs" (eVar 0)))
noncomputable def m_Rule_rule (tab : IsTab) : FM := mFn 1 0 true (b_Rule_rule tab)
noncomputable def b_Rule_prime (tab : IsTab) : SM :=
  (sRet (eFld ["Rule"] "base" (eVar 0)))
noncomputable def m_Rule_prime (tab : IsTab) : FM := mFn 1 0 true (b_Rule_prime tab)
noncomputable def b_RuleX_boolX (tab : IsTab) : SM :=
  (sRet (eBin oGt (eApp (f1 bLen) (aCons (eFld ["Rule"] "pairs" (eVar 0)) aNil)) (eC (.int 0))))
noncomputable def m_RuleX_boolX (tab : IsTab) : FM := mFn 1 0 true (b_RuleX_boolX tab)
noncomputable def b_RuleX_lenX (tab : IsTab) : SM :=
  (sRet (eApp (f1 bLen) (aCons (eFld ["Rule"] "pairs" (eVar 0)) aNil)))
noncomputable def m_RuleX_lenX (tab : IsTab) : FM := mFn 1 0 true (b_RuleX_lenX tab)
noncomputable def b_need_step (tab : IsTab) : SM :=
  (sIf (tNotM (tVal (eApp (m_is_number tab) (aCons (eVar 0) aNil)))) sStuck sNext)
noncomputable def m_need_step (tab : IsTab) : FM := mFn 1 0 true (b_need_step tab)
noncomputable def b_RuleX_getitemX (tab : IsTab) : SM :=
  (sSeq (sExpr (eApp (m_need_step tab) (aCons (eVar 1) aNil))) (sRet (eApp (f1 bSum) (aCons (eComp false (iSeq (eFld ["Rule"] "pairs" (eVar 0))) (.tp [(.nm 2), (.nm 3)]) (tVal (eBin eqE (eVar 2) (eVar 1))) (eVar 3) [2, 3]) aNil))))
noncomputable def m_RuleX_getitemX (tab : IsTab) : FM := mFn 2 2 true (b_RuleX_getitemX tab)
noncomputable def b__law_is_one (tab : IsTab) : SM :=
  (sSeq (sIf (tOrM (tNotM (tVal (eApp (bIsi tab.own noTy) (aCons (eVar 0) (aCons (eC (.gl "Rule")) aNil))))) (tVal (eBin neE (eApp (f1 bRepr) (aCons (eLst false (aCons (eProp "Rule" (noX (m_Rule_prime tab)) (eVar 0)) (aCons (eProp "Rule" (noX (m_Rule_rule tab)) (eVar 0)) aNil))) aNil)) (eApp (f1 bRepr) (aCons (eLst false (aCons (eVar 1) (aCons (eVar 2) aNil))) aNil))))) (sRet (eC (.bl false))) sNext) (sSeq (sIf (tVal (eBin neE (eApp (f1 bRepr) (aCons (eLst false (aCons (eApp (f1 (bLenO "Rule" (m_RuleX_lenX tab))) (aCons (eVar 0) aNil)) (aCons (eApp (f1 (bBoolO "Rule" (m_RuleX_boolX tab))) (aCons (eVar 0) aNil)) aNil))) aNil)) (eApp (f1 bRepr) (aCons (eLst false (aCons (eApp (f1 bLen) (aCons (eVar 2) aNil)) (aCons (eBin neE (eVar 2) (eTup aNil)) aNil))) aNil)))) (sRet (eC (.bl false))) sNext) (sSeq (sSet 3 (eBin (oAdd false) (eComp false (iSeq (eVar 2)) (.tp [(.nm 6), (.nm 7)]) tYesM (eVar 6) [6, 7]) (eLst false (aCons (eC (.int 0)) (aCons (eC (.int 5)) (aCons (eUn oNeg (eC (.int 5))) (aCons (eBin oSub (eBin oPow (eC (.int 10)) (eC (.int 30))) (eC (.int 1))) (aCons (eUn oNeg (eBin oPow (eC (.int 10)) (eC (.int 30)))) aNil)))))))) (sSeq (sFor (iSeq (eBin (oAdd false) (eBin (oAdd false) (eVar 3) (eComp false (iSeq (eVar 3)) (.nm 4) tYesM (eBin (oAdd false) (eVar 4) (eC (.int 1))) [4])) (eComp false (iSeq (eSl false (eVar 3) oNone (oSome (eApp (f1 bLen) (aCons (eVar 2) aNil))))) (.nm 4) tYesM (eBin oSub (eVar 4) (eC (.int 1))) [4]))) (gN 4) (sSeq (sSet 5 (eBin oIx (eBin (oAdd false) (eComp false (iSeq (eVar 2)) (.tp [(.nm 6), (.nm 7)]) (tVal (eBin eqE (eVar 6) (eVar 4))) (eVar 7) [6, 7]) (eLst false (aCons (eC (.int 0)) aNil))) (eC (.int 0)))) (sIf (tVal (eBin neE (eApp (f1 bRepr) (aCons (eBin (oIxO "Rule" (m_RuleX_getitemX tab)) (eVar 0) (eVar 4)) aNil)) (eApp (f1 bRepr) (aCons (eVar 5) aNil)))) (sRet (eC (.bl false))) sNext))) (sRet (eC (.bl true)))))))
noncomputable def m__law_is_one (tab : IsTab) : FM := mFn 3 5 true (b__law_is_one tab)
noncomputable def b_fits_polynomial (tab : IsTab) : SM :=
  (sSeq (sIf (tOrM (tNotM (tVal (eApp (bIsi tab.own noTy) (aCons (eVar 1) (aCons (eC (.ty "tuple")) aNil))))) (tVal (eBin eqE (eApp (f1 bLen) (aCons (eVar 1) aNil)) (eC (.int 0))))) (sRet (eC (.bl false))) sNext) (sSeq (sIf (tNotM (tVal (eApp (f1 bAll) (aCons (eComp false (iSeq (eVar 1)) (.nm 2) tYesM (eApp (m_is_whole tab) (aCons (eVar 2) (aCons (eC (.int 0)) (aCons (eBin oSub (eVar 0) (eC (.int 1))) aNil)))) [2]) aNil)))) (sRet (eC (.bl false))) sNext) (sRet (eAnd (eBin neE (eBin oIx (eVar 1) (eC (.int 0))) (eC (.int 0))) (eBin eqE (eBin oIx (eVar 1) (eUn oNeg (eC (.int 1)))) (eC (.int 1)))))))
noncomputable def m_fits_polynomial (tab : IsTab) : FM := mFn 2 1 true (b_fits_polynomial tab)
noncomputable def b_need_polynomial (tab : IsTab) : SM :=
  (sIf (tNotM (tVal (eApp (m_fits_polynomial tab) (aCons (eVar 0) (aCons (eVar 1) aNil))))) sStuck sNext)
noncomputable def m_need_polynomial (tab : IsTab) : FM := mFn 2 0 true (b_need_polynomial tab)
noncomputable def b_rule_of (tab : IsTab) : SM :=
  (sRet (eApp (f1 bTuple) (aCons (eComp false (iEnum1 (aCons (eVar 0) aNil)) (.tp [(.nm 1), (.nm 2)]) (tVal (eBin neE (eVar 2) (eC (.int 0)))) (eTup (aCons (eVar 1) (aCons (eVar 2) aNil))) [1, 2]) aNil)))
noncomputable def m_rule_of (tab : IsTab) : FM := mFn 1 2 true (b_rule_of tab)
noncomputable def b_Rule_of_polynomial (tab : IsTab) : SM :=
  (sSeq (sExpr (eApp (m_need_prime tab) (aCons (eVar 1) aNil))) (sSeq (sExpr (eApp (m_need_polynomial tab) (aCons (eVar 1) (aCons (eVar 2) aNil)))) (sRet (eCallC "Rule" (mMake false "Rule" (m_RuleX_initX tab)) (eVar 0) (aCons (eVar 1) (aCons (eApp (m_rule_of tab) (aCons (eVar 2) aNil)) aNil))))))
noncomputable def m_Rule_of_polynomial (tab : IsTab) : FM := mFn 3 0 true (b_Rule_of_polynomial tab)
noncomputable def b_pairs_moved (tab : IsTab) : SM :=
  (sRet (eApp (f1 bTuple) (aCons (eComp false (iSeq (eVar 0)) (.tp [(.nm 2), (.nm 3)]) tYesM (eTup (aCons (eBin (oAdd false) (eVar 2) (eVar 1)) (aCons (eVar 3) aNil))) [2, 3]) aNil)))
noncomputable def m_pairs_moved (tab : IsTab) : FM := mFn 2 2 true (b_pairs_moved tab)
noncomputable def b_RuleX_lshiftX (tab : IsTab) : SM :=
  (sSeq (sExpr (eApp (m_need_step tab) (aCons (eVar 1) aNil))) (sRet (eApp (mMake false "Rule" (m_RuleX_initX tab)) (aCons (eFld ["Rule"] "base" (eVar 0)) (aCons (eApp (m_pairs_moved tab) (aCons (eFld ["Rule"] "pairs" (eVar 0)) (aCons (eVar 1) aNil))) aNil)))))
noncomputable def m_RuleX_lshiftX (tab : IsTab) : FM := mFn 2 0 true (b_RuleX_lshiftX tab)
end E
end

section
set_option Elab.async false
set_option linter.all false
set_option maxRecDepth 100000
set_option maxHeartbeats 4000000
namespace E
open PySem PySem.Spec L2 L3
/-! ### sizes -/
def Sz (n : Nat) (a : Int) : Prop := a.natAbs < 2 ^ n
theorem Sz.mono {n m : Nat} {a : Int} (h : Sz n a) (hn : n ≤ m) : Sz m a := Nat.lt_of_lt_of_le h (Nat.pow_le_pow_right (by decide) hn)
theorem Sz.mul {n m : Nat} {a b : Int} (h : Sz n a) (h' : Sz m b) : Sz (n + m) (a * b) := by
  unfold Sz at *
  rw [Int.natAbs_mul, Nat.pow_add]
  exact Nat.mul_lt_mul'' h h'
theorem Sz.add {n : Nat} {a b : Int} (h : Sz n a) (h' : Sz n b) : Sz (n + 1) (a + b) := by
  unfold Sz at *
  rw [Nat.pow_succ]
  omega
theorem Sz.log {n : Nat} {a : Int} (h : Sz n a) (hn : 0 < n) : a.natAbs.log2 < n := by
  by_cases e : a.natAbs = 0
  · rw [e]
    exact hn
  · exact (Nat.log2_lt e).mpr h
theorem s_mulZ {live : Bool} {S : Store} {n m : Nat} {a b : Int} (h : Sz n a) (h' : Sz m b) (hn : 0 < n) (hm : 0 < m) (hl : n + m ≤ 1000000) : oMul live (.int a) (.int b) S = .ok (.int (a * b)) S :=
  s_mulI (by have := h.log hn; have := h'.log hm; omega)
theorem Sz.of {n : Nat} {a : Int} (N : Int) (h0 : -N < a) (h1 : a < N) (hN : N ≤ 2 ^ n) : Sz n a := by
  unfold Sz
  have e : ((2 ^ n : Nat) : Int) = (2 : Int) ^ n := by
    rw [Int.natCast_pow]
    rfl
  omega
variable {tab : IsTab}
theorem p_bag (c : Int) (S : Store) : m__law_bag tab [.int c] S = .ok (.ref S.length) (S ++ [.lst [.int (if 1000000000000000000 ≤ c then c - 1000000000000000000 else 0), .int (c % 1000000000000000003), .int 0]]) := by
  unfold m__law_bag mFn b__law_bag
  have hp : oPow (.int 10) (.int 18) S = .ok (.int 1000000000000000000) S := s_pow (by decide) (by decide) (by decide)
  have hm : ∀ S, oMod (.int c) (.int 1000000000000000003) S = .ok (.int (c % 1000000000000000003)) S := fun S => s_mod (by decide)
  by_cases h : (1000000000000000000 : Int) ≤ c
  · simp [hp, hm, h, s_finT]
  · simp [hp, hm, h, s_finT]
/-- a bag at l: what is left of the cell, what is mixed, at most n draws -/
def Bag (S : Store) (l : Nat) (n : Nat) : Prop := ∃ r m t : Int, S[l]? = some (.lst [.int r, .int m, .int t]) ∧ 0 ≤ r ∧ 0 ≤ m ∧ m < 1000000000000000003 ∧ 0 ≤ t ∧ t ≤ n
theorem Bag.mono {S : Store} {l n n' : Nat} (h : Bag S l n) (hn : n ≤ n') : Bag S l n' := by
  obtain ⟨r, m, t, h1, h2, h3, h4, h5, h6⟩ := h
  exact ⟨r, m, t, h1, h2, h3, h4, h5, by omega⟩
/-- the stores differ at l alone -/
def Only1 (l : Nat) (S S' : Store) : Prop := ∃ c, S' = S.set l c
theorem Only1.trans {l : Nat} {S S' S2 : Store} (h : Only1 l S S') (h' : Only1 l S' S2) : Only1 l S S2 := by
  obtain ⟨c, rfl⟩ := h
  obtain ⟨c', rfl⟩ := h'
  exact ⟨c', by rw [List.set_set]⟩
theorem Only1.refl {l : Nat} {S : Store} (h : l < S.length) : Only1 l S S := ⟨S[l], (List.set_getElem_self h).symm⟩
theorem Bag.lt {S : Store} {l n : Nat} (h : Bag S l n) : l < S.length := by
  obtain ⟨r, m, t, h1, _⟩ := h
  exact (List.getElem?_eq_some_iff.mp h1).1
theorem Only1.len {l : Nat} {S S' : Store} (h : Only1 l S S') : S'.length = S.length := by
  obtain ⟨c, rfl⟩ := h
  exact List.length_set
theorem bag_new (c : Int) (S : Store) : Bag (S ++ [.lst [.int (if 1000000000000000000 ≤ c then c - 1000000000000000000 else 0), .int (c % 1000000000000000003), .int 0]]) S.length 0 := by
  refine ⟨_, _, 0, by rw [List.getElem?_append_right (Nat.le_refl _), Nat.sub_self]; rfl, ?_, Int.emod_nonneg _ (by decide), Int.emod_lt_of_pos _ (by decide), Int.le_refl _, Int.le_refl _⟩
  split
  · omega
  · decide
theorem p_draw {l n : Nat} {k : Int} {S : Store} (hB : Bag S l n) (hn : n ≤ 1000000) (h0 : 0 < k) (h1 : k.natAbs.log2 < 9000) : ∃ v S', m__law_draw tab [.ref l, .int k] S = .ok (.int v) S' ∧ 0 ≤ v ∧ v < k ∧ Bag S' l (n + 1) ∧ Only1 l S S' := by
  obtain ⟨r, m, t, hS, hr, hm0, hm, ht, htn⟩ := hB
  have hl := (List.getElem?_eq_some_iff.mp hS).1
  have i0 : ∀ {S' : Store} {a b c : Int}, S'[l]? = some (Cell.lst [.int a, .int b, .int c]) → oIx (.ref l) (.int 0) S' = .ok (.int a) S' := fun h => ix_r h rfl
  have i1 : ∀ {S' : Store} {a b c : Int}, S'[l]? = some (Cell.lst [.int a, .int b, .int c]) → oIx (.ref l) (.int 1) S' = .ok (.int b) S' := fun h => ix_r h rfl
  have i2 : ∀ {S' : Store} {a b c : Int}, S'[l]? = some (Cell.lst [.int a, .int b, .int c]) → oIx (.ref l) (.int 2) S' = .ok (.int c) S' := fun h => ix_r h rfl
  have mo : ∀ a S', oMod (.int a) (.int k) S' = .ok (.int (a % k)) S' := fun a S' => s_mod h0
  have fd : ∀ a S', oFdiv (.int a) (.int k) S' = .ok (.int (a / k)) S' := fun a S' => s_fdiv h0 h1
  unfold m__law_draw mFn b__law_draw
  by_cases hp : 0 < r
  · refine ⟨r % k, S.set l (.lst [.int (r / k), .int m, .int t]), ?_, Int.emod_nonneg _ (by omega), Int.emod_lt_of_pos _ h0, ?_, _, rfl⟩
    · have g : ∀ {ρ : DEnv} {S' : Store}, S'[l]? = some (Cell.lst [.int r, .int m, .int t]) → ρ[0]? = some (some (D.ref l)) → gIx (eVar 0) (eC (.int 0)) (.int (r / k)) ρ S' = .next ρ (S'.set l (.lst [.int (r / k), .int m, .int t])) := fun {ρ S'} h h2 =>
        gix_l (mo := eVar 0) (mi := eC (.int 0)) (S1 := S') (S2 := S') (a := 0) (by rw [s_eVar, h2]) rfl h rfl
      simp [i0 hS, mo, fd, hp, g hS, s_finT]
    · exact ⟨r / k, m, t, List.getElem?_set_self hl, Int.ediv_nonneg hr (by omega), hm0, hm, ht, by omega⟩
  · have hS1 : (S.set l (.lst [.int r, .int m, .int (t + 1)]))[l]? = some (Cell.lst [.int r, .int m, .int (t + 1)]) := List.getElem?_set_self hl
    have g : ∀ {ρ : DEnv}, ρ[0]? = some (some (D.ref l)) → gIx (eVar 0) (eC (.int 2)) (.int (t + 1)) ρ S = .next ρ (S.set l (.lst [.int r, .int m, .int (t + 1)])) := fun {ρ} h2 =>
      gix_l (mo := eVar 0) (mi := eC (.int 2)) (S1 := S) (S2 := S) (a := 2) (by rw [s_eVar, h2]) rfl hS rfl
    have z1 : Sz 21 (t + 1) := .of 1000003 (by omega) (by omega) (by decide)
    have z2 : Sz 61 (m + 7) := .of 1000000000000000010 (by omega) (by omega) (by decide)
    have c1 : Sz 5 31 := .of 32 (by decide) (by decide) (by decide)
    have c2 : Sz 17 104729 := .of 131072 (by decide) (by decide) (by decide)
    have c3 : Sz 5 17 := .of 32 (by decide) (by decide) (by decide)
    have c4 : Sz 20 999983 := .of 1048576 (by decide) (by decide) (by decide)
    have c5 : Sz 17 65537 := .of 131072 (by decide) (by decide) (by decide)
    have c6 : Sz 47 13 := .of 32 (by decide) (by decide) (by decide)
    have z3 := c1.mul z1
    have z4 := z3.mul z1
    have z5 := c2.mul z1
    have z6 := z4.add (z5.mono (by decide : 38 ≤ 47))
    have z7 := (z6.add (c6.mono (by decide : 47 ≤ 48)))
    have z8 := z2.mul z7
    have z9 := c3.mul z1
    have z10 := z8.add (z9.mono (by decide : 26 ≤ 110))
    generalize hx : (m + 7) * (31 * (t + 1) * (t + 1) + 104729 * (t + 1) + 13) + 17 * (t + 1) = x at z10
    have w1 := z10.mul z10
    have w2 := c4.mul z10
    have m1 : ∀ a S', oMod (.int a) (.int 1000000000000000009) S' = .ok (.int (a % 1000000000000000009)) S' := fun a S' => s_mod (by decide)
    have f1 : ∀ a S', oFdiv (.int a) (.int 1009) S' = .ok (.int (a / 1009)) S' := fun a S' => s_fdiv (by decide) (by decide)
    have m2 : ∀ a S', oMod (.int a) (.int 2147483629) S' = .ok (.int (a % 2147483629)) S' := fun a S' => s_mod (by decide)
    have f2 : ∀ a S', oFdiv (.int a) (.int 16) S' = .ok (.int (a / 16)) S' := fun a S' => s_fdiv (by decide) (by decide)
    generalize hy : (x * x + 999983 * x) % 1000000000000000009 / 1009 = y
    have zy : Sz 60 y := by
      have h1 := Int.emod_nonneg (x * x + 999983 * x) (show (1000000000000000009 : Int) ≠ 0 by decide)
      have h2 := Int.emod_lt_of_pos (x * x + 999983 * x) (show (0 : Int) < 1000000000000000009 by decide)
      exact .of 1000000000000000009 (by omega) (by omega) (by decide)
    refine ⟨(y * y + 65537 * y + (t + 1)) % 2147483629 / 16 % k, S.set l (.lst [.int r, .int m, .int (t + 1)]), ?_, Int.emod_nonneg _ (by omega), Int.emod_lt_of_pos _ h0, ⟨r, m, t + 1, hS1, hr, hm0, hm, by omega, by omega⟩, _, rfl⟩
    have a1 : ∀ S', oMul false (.int 31) (.int (t + 1)) S' = .ok (.int (31 * (t + 1))) S' := fun S' => s_mulZ c1 z1 (by decide) (by decide) (by decide)
    have a2 : ∀ S', oMul false (.int (31 * (t + 1))) (.int (t + 1)) S' = .ok (.int (31 * (t + 1) * (t + 1))) S' := fun S' => s_mulZ z3 z1 (by decide) (by decide) (by decide)
    have a3 : ∀ S', oMul false (.int 104729) (.int (t + 1)) S' = .ok (.int (104729 * (t + 1))) S' := fun S' => s_mulZ c2 z1 (by decide) (by decide) (by decide)
    have a4 : ∀ S', oMul false (.int (m + 7)) (.int (31 * (t + 1) * (t + 1) + 104729 * (t + 1) + 13)) S' = .ok (.int ((m + 7) * (31 * (t + 1) * (t + 1) + 104729 * (t + 1) + 13))) S' := fun S' => s_mulZ z2 z7 (by decide) (by decide) (by decide)
    have a5 : ∀ S', oMul false (.int 17) (.int (t + 1)) S' = .ok (.int (17 * (t + 1))) S' := fun S' => s_mulZ c3 z1 (by decide) (by decide) (by decide)
    have a6 : ∀ S', oMul false (.int x) (.int x) S' = .ok (.int (x * x)) S' := fun S' => s_mulZ z10 z10 (by decide) (by decide) (by decide)
    have a7 : ∀ S', oMul false (.int 999983) (.int x) S' = .ok (.int (999983 * x)) S' := fun S' => s_mulZ c4 z10 (by decide) (by decide) (by decide)
    have a8 : ∀ S', oMul false (.int y) (.int y) S' = .ok (.int (y * y)) S' := fun S' => s_mulZ zy zy (by decide) (by decide) (by decide)
    have a9 : ∀ S', oMul false (.int 65537) (.int y) S' = .ok (.int (65537 * y)) S' := fun S' => s_mulZ c5 zy (by decide) (by decide) (by decide)
    simp [i0 hS, i2 hS, hp, g, i2 hS1, i1 hS1, a1, a2, a3, a4, a5, hx, a6, a7, m1, f1, hy, a8, a9, m2, f2, mo, s_finT]
end E
end

section
set_option Elab.async false
set_option linter.all false
set_option maxRecDepth 100000
set_option maxHeartbeats 4000000
namespace E
open PySem PySem.Spec L2 L3
/-! ### lists of pairs: offset, amount -/
abbrev Pairs := List (Int × Int)
def coef : Pairs → Int → Int
  | [], _ => 0
  | q :: ps, x => (if q.1 = x then q.2 else 0) + coef ps x
/-- in the sequence of the offsets, amounts from 1 to p - 1 -/
def Good (p : Int) (ps : Pairs) : Prop := ps.Pairwise (fun a b => a.1 < b.1) ∧ ∀ q ∈ ps, 1 ≤ q.2 ∧ q.2 < p
def Far (B : Int) (ps : Pairs) : Prop := ∀ q ∈ ps, -B ≤ q.1 ∧ q.1 ≤ B
theorem Far.mono {B C : Int} {ps : Pairs} (h : Far B ps) (hB : B ≤ C) : Far C ps := fun q hq => by
  have := h q hq
  omega
theorem coef_app : ∀ (ps qs : Pairs) (x : Int), coef (ps ++ qs) x = coef ps x + coef qs x
  | [], qs, x => by simp [coef]
  | q :: ps, qs, x => by
    show (if q.1 = x then q.2 else 0) + coef (ps ++ qs) x = (if q.1 = x then q.2 else 0) + coef ps x + coef qs x
    rw [coef_app ps qs x]
    omega
theorem coef_none : ∀ {ps : Pairs} {x : Int}, (∀ q ∈ ps, q.1 ≠ x) → coef ps x = 0
  | [], _, _ => rfl
  | q :: ps, x, h => by
    show (if q.1 = x then q.2 else 0) + coef ps x = 0
    rw [if_neg (h q List.mem_cons_self), coef_none fun r hr => h r (List.mem_cons_of_mem _ hr)]
    rfl
theorem good_head {p : Int} {q : Int × Int} {ps : Pairs} (h : Good p (q :: ps)) : coef (q :: ps) q.1 = q.2 := by
  show (if q.1 = q.1 then q.2 else 0) + coef ps q.1 = q.2
  rw [if_pos rfl, coef_none fun r hr => by have := List.rel_of_pairwise_cons h.1 hr; omega]
  omega
theorem Good.tail {p : Int} {q : Int × Int} {ps : Pairs} (h : Good p (q :: ps)) : Good p ps := ⟨h.1.of_cons, fun r hr => h.2 r (List.mem_cons_of_mem _ hr)⟩
theorem good_uniq {p : Int} : ∀ {ps qs : Pairs}, Good p ps → Good p qs → (∀ x, coef ps x = coef qs x) → ps = qs
  | [], [], _, _, _ => rfl
  | [], q :: qs, _, h2, h => by
    have h1 := h q.1
    rw [good_head h2] at h1
    have := h2.2 q List.mem_cons_self
    have h0 : coef [] q.1 = 0 := rfl
    omega
  | q :: ps, [], h1, _, h => by
    have h2 := h q.1
    rw [good_head h1] at h2
    have := h1.2 q List.mem_cons_self
    have h0 : coef [] q.1 = 0 := rfl
    omega
  | q :: ps, r :: qs, h1, h2, h => by
    have a1 := h1.2 q List.mem_cons_self
    have a2 := h2.2 r List.mem_cons_self
    have e1 := h q.1
    have e2 := h r.1
    rw [good_head h1] at e1
    rw [good_head h2] at e2
    have e : q.1 = r.1 := by
      by_cases l1 : q.1 < r.1
      · have := coef_none (ps := r :: qs) (x := q.1) fun s hs => by
          rcases List.mem_cons.mp hs with e | hs
          · subst e; omega
          · have := List.rel_of_pairwise_cons h2.1 hs; omega
        omega
      · by_cases l2 : r.1 < q.1
        · have := coef_none (ps := q :: ps) (x := r.1) fun s hs => by
            rcases List.mem_cons.mp hs with e | hs
            · subst e; omega
            · have := List.rel_of_pairwise_cons h1.1 hs; omega
          omega
        · omega
    have e' : q.2 = r.2 := by
      rw [e, good_head h2] at e1
      exact e1
    have eq : q = r := Prod.ext e e'
    subst eq
    rw [good_uniq h1.tail h2.tail fun x => by
      have := h x
      unfold coef at this
      omega]
theorem good_coef {p : Int} (hp : 0 < p) : ∀ {ps : Pairs}, Good p ps → ∀ x, 0 ≤ coef ps x ∧ coef ps x < p
  | [], _, _ => ⟨Int.le_refl _, hp⟩
  | q :: ps, h, x => by
    show 0 ≤ (if q.1 = x then q.2 else 0) + coef ps x ∧ (if q.1 = x then q.2 else 0) + coef ps x < p
    by_cases e : q.1 = x
    · subst e
      rw [if_pos rfl, coef_none fun r hr => by have := List.rel_of_pairwise_cons h.1 hr; omega]
      have := h.2 q List.mem_cons_self
      omega
    · rw [if_neg e]
      have := good_coef hp h.tail x
      omega
/-! ### dicts of them -/
def encD (kvs : Pairs) : List (Key × D) := kvs.map fun q => (Sum.inl q.1, D.int q.2)
def look (kvs : Pairs) (k : Int) : Option Int := (kvs.find? fun q => decide (q.1 = k)).map (·.2)
def putI (kvs : Pairs) (k v : Int) : Pairs := if (kvs.any fun q => decide (q.1 = k)) = true then kvs.map (fun q => if q.1 = k then (q.1, v) else q) else kvs ++ [(k, v)]
theorem inl_iff {a b : Int} : (decide ((Sum.inl a : Key) = Sum.inl b)) = decide (a = b) := by simp
theorem val_enc (k : Int) : ∀ kvs : Pairs, valD (encD kvs) (.inl k) = (look kvs k).map D.int
  | [] => rfl
  | q :: kvs => by
    by_cases e : q.1 = k
    · simp [valD, look, encD, e]
    · have ih := val_enc k kvs
      simp only [valD, look, encD] at ih
      simp [valD, look, encD, e, List.find?_cons] at ih ⊢
      exact ih
theorem put_enc (k v : Int) (kvs : Pairs) : putD (encD kvs) (.inl k) (.int v) = encD (putI kvs k v) := by
  unfold putD putI encD
  have e : ((kvs.map fun q => ((Sum.inl q.1 : Key), D.int q.2)).any fun kv => decide (kv.1 = Sum.inl k)) = kvs.any fun q => decide (q.1 = k) := by
    induction kvs with
    | nil => rfl
    | cons q kvs ih => rw [List.map_cons, List.any_cons, List.any_cons, ih, inl_iff]
  rw [e]
  by_cases h : (kvs.any fun q => decide (q.1 = k)) = true
  · rw [if_pos h, if_pos h, List.map_map, List.map_map]
    refine List.map_congr_left fun q _ => ?_
    by_cases e : q.1 = k
    · simp [e]
    · simp [e]
  · rw [if_neg h, if_neg h, List.map_append]
    rfl
theorem keys_enc : ∀ kvs : Pairs, keysI (encD kvs) = some (kvs.map (·.1))
  | [] => rfl
  | q :: kvs => by
    show (keysI (encD kvs)).map (q.1 :: ·) = _
    rw [keys_enc kvs]
    rfl
theorem look_put (k v x : Int) (kvs : Pairs) : look (putI kvs k v) x = if x = k then some v else look kvs x := by
  unfold putI
  by_cases h : (kvs.any fun q => decide (q.1 = k)) = true
  · rw [if_pos h]
    induction kvs with
    | nil => cases h
    | cons q kvs ih =>
      unfold look at ih ⊢
      rw [List.map_cons, List.find?_cons, List.find?_cons]
      by_cases e : q.1 = k
      · by_cases ex : x = k
        · simp [e, ex]
        · have e1 : ¬ k = x := fun h => ex h.symm
          have e2 : ¬ q.1 = x := by rw [e]; exact e1
          simp only [e, if_true, decide_eq_false e1, decide_eq_false e2, ex, if_false]
          by_cases h2 : (kvs.any fun q => decide (q.1 = k)) = true
          · rw [ih h2, if_neg ex]
          · have : kvs.map (fun q => if q.1 = k then (q.1, v) else q) = kvs := by
              rw [List.map_congr_left (g := _root_.id)]
              · exact List.map_id kvs
              · intro r hr
                by_cases er : r.1 = k
                · exact absurd (List.any_eq_true.mpr ⟨r, hr, decide_eq_true er⟩) h2
                · rw [if_neg er]; rfl
            rw [this]
      · have h2 : (kvs.any fun q => decide (q.1 = k)) = true := by
          rw [List.any_cons, decide_eq_false e, Bool.false_or] at h
          exact h
        rw [if_neg e]
        by_cases ex : q.1 = x
        · have : ¬ x = k := by rw [← ex]; exact e
          simp [ex, this]
        · simp only [decide_eq_false ex]
          exact ih h2
  · rw [if_neg h]
    unfold look
    rw [List.find?_append]
    by_cases ex : x = k
    · subst ex
      have : (kvs.find? fun q => decide (q.1 = x)) = none := by
        rw [List.find?_eq_none]
        intro q hq hh
        exact h (List.any_eq_true.mpr ⟨q, hq, hh⟩)
      rw [this]
      simp
    · have e1 : ¬ k = x := fun h => ex h.symm
      simp [ex, e1]
theorem keys_put (k v : Int) (kvs : Pairs) : (putI kvs k v).map (·.1) = if k ∈ kvs.map (·.1) then kvs.map (·.1) else kvs.map (·.1) ++ [k] := by
  unfold putI
  by_cases h : (kvs.any fun q => decide (q.1 = k)) = true
  · rw [if_pos h]
    obtain ⟨q, hq, e⟩ := List.any_eq_true.mp h
    rw [if_pos (List.mem_map.mpr ⟨q, hq, of_decide_eq_true e⟩), List.map_map]
    refine List.map_congr_left fun q _ => ?_
    by_cases e : q.1 = k <;> simp [e]
  · rw [if_neg h]
    rw [if_neg fun hm => h (by
      obtain ⟨q, hq, e⟩ := List.mem_map.mp hm
      exact List.any_eq_true.mpr ⟨q, hq, decide_eq_true e⟩), List.map_append]
    rfl
theorem look_none {kvs : Pairs} {k : Int} (h : k ∉ kvs.map (·.1)) : look kvs k = none := by
  unfold look
  rw [Option.map_eq_none_iff, List.find?_eq_none]
  intro q hq e
  exact h (List.mem_map.mpr ⟨q, hq, of_decide_eq_true e⟩)
theorem look_some {kvs : Pairs} {k : Int} (h : k ∈ kvs.map (·.1)) : ∃ v, look kvs k = some v := by
  obtain ⟨q, hq, e⟩ := List.mem_map.mp h
  cases e1 : kvs.find? fun q => decide (q.1 = k) with
  | none => exact absurd (decide_eq_true e) (List.find?_eq_none.mp e1 q hq)
  | some r => exact ⟨r.2, by unfold look; rw [e1]; rfl⟩
/-- what a dict holds behind the pairs that are summed -/
structure DInv (p : Int) (done kvs : Pairs) : Prop where
  nd : (kvs.map (·.1)).Nodup
  sub : ∀ k ∈ kvs.map (·.1), k ∈ done.map (·.1)
  val : ∀ k, (look kvs k).getD 0 = coef done k % p
  len : kvs.length ≤ done.length
theorem dinv_nil (p : Int) : DInv p [] [] := ⟨List.nodup_nil, fun _ h => h, fun _ => by rfl, Nat.le_refl _⟩
theorem dinv_put {p : Int} {done kvs : Pairs} (h : DInv p done kvs) (q : Int × Int) : DInv p (done ++ [q]) (putI kvs q.1 (((look kvs q.1).getD 0 + q.2) % p)) := by
  refine ⟨?_, ?_, fun k => ?_, ?_⟩
  · rw [keys_put]
    split
    · exact h.nd
    · rename_i hn
      rw [List.nodup_append]
      refine ⟨h.nd, by simp, fun a ha b hb e => ?_⟩
      rw [List.mem_singleton] at hb
      subst hb
      subst e
      exact hn ha
  · intro k hk
    rw [keys_put] at hk
    rw [List.map_append, List.mem_append]
    split at hk
    · exact .inl (h.sub k hk)
    · rcases List.mem_append.mp hk with hk | hk
      · exact .inl (h.sub k hk)
      · exact .inr hk
  · rw [look_put, coef_app]
    by_cases e : k = q.1
    · subst e
      rw [if_pos rfl, h.val]
      show (coef done q.1 % p + q.2) % p = (coef done q.1 + ((if q.1 = q.1 then q.2 else 0) + 0)) % p
      rw [if_pos rfl, Int.add_zero, Int.emod_add_emod]
    · rw [if_neg e, h.val]
      show _ = (coef done k + ((if q.1 = k then q.2 else 0) + 0)) % p
      rw [if_neg fun e' => e e'.symm]
      simp
  · have h1 := h.len
    have : (putI kvs q.1 (((look kvs q.1).getD 0 + q.2) % p)).length ≤ kvs.length + 1 := by
      unfold putI
      split
      · rw [List.length_map]; omega
      · rw [List.length_append]; exact Nat.le_refl _
    rw [List.length_append]
    show _ ≤ done.length + 1
    omega
theorem coef_mapS (c : Int → Int) : ∀ {ks : List Int}, ks.Pairwise (· < ·) → ∀ x, coef (ks.map fun k => (k, c k)) x = if x ∈ ks then c x else 0
  | [], _, x => by simp [coef]
  | k :: ks, h, x => by
    show (if k = x then c k else 0) + coef (ks.map fun k => (k, c k)) x = _
    rw [coef_mapS c h.of_cons x]
    by_cases e : k = x
    · subst e
      have : k ∉ ks := fun hm => by have := List.rel_of_pairwise_cons h hm; omega
      simp [this]
    · have e' : ¬ x = k := fun h => e h.symm
      simp [e, e']
/-- what the dict gives in the end -/
def outD (kvs : Pairs) : Pairs := ((sortI (kvs.map (·.1))).filter fun k => decide ((look kvs k).getD 0 ≠ 0)).map fun k => (k, (look kvs k).getD 0)
theorem sortI_lt {ks : List Int} (h : ks.Nodup) : (sortI ks).Pairwise (· < ·) := by
  have h1 := sortI_le ks
  have h2 : (sortI ks).Nodup := (sortI_perm ks).nodup_iff.mpr h
  refine (h1.and h2).imp ?_
  intro a b hab
  have := hab.1
  have := hab.2
  omega
theorem dinv_out {p : Int} (hp : 0 < p) {ps kvs : Pairs} (h : DInv p ps kvs) : Good p (outD kvs) ∧ (∀ x, coef (outD kvs) x = coef ps x % p) ∧ (outD kvs).length ≤ ps.length ∧ ∀ q ∈ outD kvs, q.1 ∈ ps.map (·.1) := by
  have hs := (sortI_lt h.nd).filter (p := fun k => decide ((look kvs k).getD 0 ≠ 0))
  refine ⟨⟨List.pairwise_map.mpr (hs.imp fun h => h), fun q hq => ?_⟩, fun x => ?_, ?_, fun q hq => ?_⟩
  · obtain ⟨k, hk, rfl⟩ := List.mem_map.mp hq
    have h0 := of_decide_eq_true (List.mem_filter.mp hk).2
    rw [h.val] at h0
    show 1 ≤ (look kvs k).getD 0 ∧ (look kvs k).getD 0 < p
    rw [h.val]
    have := Int.emod_nonneg (coef ps k) (show p ≠ 0 by omega)
    have := Int.emod_lt_of_pos (coef ps k) hp
    omega
  · unfold outD
    rw [coef_mapS _ hs, ← h.val x]
    by_cases hm : x ∈ (sortI (kvs.map (·.1))).filter fun k => decide ((look kvs k).getD 0 ≠ 0)
    · rw [if_pos hm]
    · rw [if_neg hm]
      by_cases hx : x ∈ kvs.map (·.1)
      · have : ¬ (look kvs x).getD 0 ≠ 0 := fun h0 => hm (List.mem_filter.mpr ⟨(sortI_perm _).mem_iff.mpr hx, decide_eq_true h0⟩)
        omega
      · rw [look_none hx]
        rfl
  · have := h.len
    have h1 : (outD kvs).length ≤ (sortI (kvs.map (·.1))).length := by
      unfold outD
      rw [List.length_map]
      exact List.length_filter_le _ _
    rw [sortI_length, List.length_map] at h1
    omega
  · obtain ⟨k, hk, rfl⟩ := List.mem_map.mp hq
    exact h.sub k ((sortI_perm _).mem_iff.mp (List.mem_filter.mp hk).1)
theorem cellD_new {S : Store} {kvs : List (Key × D)} : cellD (S ++ [.dic kvs]) (.ref S.length) = some (S.length, kvs) := by
  show (match (S ++ [Cell.dic kvs])[S.length]? with
    | some (.dic ds) => some (S.length, ds)
    | _ => none) = _
  rw [List.getElem?_append_right (Nat.le_refl _), Nat.sub_self]
  rfl
theorem dicOf_new {S : Store} {kvs : List (Key × D)} : dicOf (S ++ [.dic kvs]) (.ref S.length) = some kvs := by
  show (match (S ++ [Cell.dic kvs])[S.length]? with
    | some (.dic ds) => some ds
    | _ => none) = _
  rw [List.getElem?_append_right (Nat.le_refl _), Nat.sub_self]
  rfl
theorem set_new {S : Store} {c c' : Cell} : (S ++ [c]).set S.length c' = S ++ [c'] := by
  rw [List.set_append_right _ _ (Nat.le_refl _), Nat.sub_self]
  rfl
theorem cut_app (S T : Store) : Cut S (S ++ T) := fun l c hl h => by
  rw [List.getElem?_append_left hl] at h
  exact .inl h
theorem rf_ints (P : Nat → Prop) : ∀ ps : Pairs, D.rf P (.tup (ps.map pairD))
  | [] => trivial
  | q :: ps => by
    have := rf_ints P ps
    exact ⟨⟨trivial, trivial, trivial⟩, this⟩
theorem fin_app {S T : Store} {d : D} (h : freeze S.length (S ++ T) d = d) (hd : d.rf (· < S.length)) : fin false S d (S ++ T) = .ok d S := by
  unfold fin
  rw [if_neg (by decide), h, if_pos ⟨cut_app S T, hd⟩, List.take_left]
end E
end

section
set_option Elab.async false
set_option linter.all false
set_option maxRecDepth 100000
set_option maxHeartbeats 4000000
namespace E
open PySem PySem.Spec L2 L3
variable {tab : IsTab}
def IsP (p : Int) : Prop := p = 2 ∨ p = 3 ∨ p = 5
theorem three {v : Int} (h0 : 0 ≤ v) (h1 : v < 3) : ∃ p, IsP p ∧ ∀ S : Store, oIx (.lst [.int 2, .int 3, .int 5]) (.int v) S = .ok (.int p) S := by
  have : v = 0 ∨ v = 1 ∨ v = 2 := by omega
  rcases this with e | e | e <;> subst e
  · exact ⟨2, .inl rfl, fun S => ix_l rfl⟩
  · exact ⟨3, .inr (.inl rfl), fun S => ix_l rfl⟩
  · exact ⟨5, .inr (.inr rfl), fun S => ix_l rfl⟩
theorem IsP.pos {p : Int} (h : IsP p) : 2 ≤ p ∧ p ≤ 5 := by
  rcases h with e | e | e <;> omega
theorem p_draw' {l n : Nat} {k : Int} {S : Store} (hB : Bag S l n) (hn : n ≤ 1000000) (h0 : 0 < k) (h1 : k < 10 ^ 40) : ∃ v S', m__law_draw tab [.ref l, .int k] S = .ok (.int v) S' ∧ 0 ≤ v ∧ v < k ∧ Bag S' l (n + 1) ∧ Only1 l S S' :=
  p_draw hB hn h0 (Nat.lt_trans ((Sz.of (n := 140) (10 ^ 40) (by omega) h1 (by decide)).log (by decide)) (by decide))
theorem p_base {l n : Nat} {S : Store} (hB : Bag S l n) (hn : n ≤ 1000000) : ∃ p S', m__law_base tab [.ref l] S = .ok (.int p) S' ∧ IsP p ∧ Bag S' l (n + 1) ∧ Only1 l S S' := by
  obtain ⟨v, S', e, h0, h1, hB', hO⟩ := p_draw' (tab := tab) hB hn (k := 3) (by decide) (by decide)
  obtain ⟨p, hp, ep⟩ := three h0 h1
  refine ⟨p, S', ?_, hp, hB', hO⟩
  unfold m__law_base mFn b__law_base
  simp [e, ep, s_finT]
theorem p_pairs {l n : Nat} {p : Int} {far : Nat} {S : Store} (hB : Bag S l n) (hp : IsP p) (hf : far ≤ 1000) (hn : n ≤ 100000) : ∃ ps S', m__law_pairs tab [.ref l, .int p, .int far] S = .ok (.tup (ps.map pairD)) S' ∧ Good p ps ∧ Far far ps ∧ ps.length ≤ 2 * far + 1 ∧ Bag S' l (n + (4 * far + 3)) ∧ Only1 l S S' := by
  obtain ⟨v, S1, e, h0, h1, hB1, hO1⟩ := p_draw' (tab := tab) hB (by omega) (k := 3) (by decide) (by decide)
  obtain ⟨o, ho, eo⟩ := three h0 h1
  have hop := ho.pos
  have hpp := hp.pos
  let ρ0 : DEnv := [some (D.ref l), some (D.int p), some (D.int far), some (D.int o), none, none]
  obtain ⟨ys, S2, e2, ps, hys, hG, hF, hL, hB2, hO2⟩ := comp_inv (S0 := S1) (ρ := ρ0) (tg := .nm 5) (vs := [5])
    (t := tVal (eBin eqE (eApp (m__law_draw tab) (aCons (eVar 0) (aCons (eVar 3) aNil))) (eC (.int 0))))
    (me := eTup (aCons (eBin oSub (eVar 5) (eVar 2)) (aCons (eBin (oAdd false) (eC (.int 1)) (eApp (m__law_draw tab) (aCons (eVar 0) (aCons (eBin oSub (eVar 1) (eC (.int 1))) aNil)))) aNil)))
    (fun i acc S' => ∃ ps, acc = ps.map pairD ∧ Good p ps ∧ (∀ q ∈ ps, -(far : Int) ≤ q.1 ∧ q.1 < (i : Int) - far) ∧ ps.length ≤ i ∧ Bag S' l (n + 1 + 2 * i) ∧ Only1 l S S')
    (rangeL 0 (2 * far + 1)) 0 [] S1 ⟨[], rfl, ⟨.nil, fun _ h => nomatch h⟩, fun _ h => (nomatch h), Nat.le_refl _, hB1.mono (by omega), hO1⟩ (by
      rintro i d acc S2 hd ⟨ps, rfl, hG, hF, hL, hB2, hO2⟩
      rw [rangeL_map, List.getElem?_map] at hd
      obtain ⟨j, hj, rfl⟩ := Option.map_eq_some_iff.mp hd
      obtain ⟨hj1, rfl⟩ := List.getElem?_eq_some_iff.mp hj
      rw [List.length_range] at hj1
      rw [List.getElem_range] at hj ⊢
      rw [Nat.zero_add] at *
      obtain ⟨x, S3, e3, x0, x1, hB3, hO3⟩ := p_draw' (tab := tab) hB2 (by omega) (k := o) (by omega) (by omega)
      obtain ⟨y, S4, e4, y0, y1, hB4, hO4⟩ := p_draw' (tab := tab) hB3 (by omega) (k := p - 1) (by omega) (by omega)
      refine ⟨_, decide (x = 0), S3, by simp [ρ0]; rfl, by simp [e3], fun _ => ⟨ps, rfl, hG, fun q hq => ?_, by omega, hB3.mono (by omega), hO2.trans hO3⟩, fun _ => ⟨pairD ((i : Int) - far, 1 + y), S4, by simp [e4, pairD], ps ++ [((i : Int) - far, 1 + y)], by rw [List.map_append]; rfl, ⟨?_, ?_⟩, ?_, by rw [List.length_append]; show ps.length + 1 ≤ _; omega, hB4.mono (by omega), (hO2.trans hO3).trans hO4⟩⟩
      · have := hF q hq
        omega
      · rw [List.pairwise_append]
        refine ⟨hG.1, List.pairwise_singleton _ _, fun a ha b hb => ?_⟩
        rw [List.mem_singleton] at hb
        subst hb
        exact (hF a ha).2
      · intro q hq
        rcases List.mem_append.mp hq with hq | hq
        · exact hG.2 q hq
        · rw [List.mem_singleton] at hq
          subst hq
          show 1 ≤ 1 + y ∧ 1 + y < p
          omega
      · intro q hq
        rcases List.mem_append.mp hq with hq | hq
        · have := hF q hq
          omega
        · rw [List.mem_singleton] at hq
          subst hq
          show -(far : Int) ≤ (i : Int) - far ∧ (i : Int) - far < ((i + 1 : Nat) : Int) - far
          omega)
  subst hys
  have el : (rangeL 0 (2 * far + 1)).length = 2 * far + 1 := by rw [rangeL_map, List.length_map, List.length_range]
  rw [el, Nat.zero_add] at hF hL hB2
  refine ⟨ps, S2, ?_, hG, fun q hq => by have := hF q hq; omega, hL, hB2.mono (by omega), hO2⟩
  unfold m__law_pairs mFn b__law_pairs
  have em : ∀ S', oMul false (.int 2) (.int far) S' = .ok (.int (2 * far)) S' := fun S' => s_mulZ (n := 2) (m := 11) (.of 4 (by decide) (by decide) (by decide)) (.of 2048 (by omega) (by omega) (by decide)) (by decide) (by decide) (by decide)
  have er : iRange1 (aCons (eBin (oAdd false) (eBin (oMul false) (eC (.int 2)) (eVar 2)) (eC (.int 1))) aNil) ρ0 S1 = .ok (rangeL 0 (2 * far + 1), []) S1 := by
    rw [s_iRange1 (j := 2 * far + 1) (S' := S1) (by simp [ρ0, em]) (by omega) (by omega)]
    rfl
  simp only [ρ0] at er e2
  simp [e, eo, er, e2, s_finT]
end E
end

section
set_option Elab.async false
set_option linter.all false
set_option maxRecDepth 100000
set_option maxHeartbeats 4000000
namespace E
open PySem PySem.Spec L2 L3
variable {tab : IsTab}
theorem recv_dict {S : Store} {kvs : List (Key × D)} : recv "dict" (S ++ [.dic kvs]) (.ref S.length) = true := by
  show (("dict" == "list" && (listOf (S ++ [.dic kvs]) (.ref S.length)).isSome) || ("dict" == "dict" && (dicOf (S ++ [.dic kvs]) (.ref S.length)).isSome)) = true
  rw [dicOf_new]
  rfl
theorem take_snoc {α : Type} {xs : List α} {i : Nat} {x : α} (h : xs[i]? = some x) : xs.take (i + 1) = xs.take i ++ [x] := by
  rw [List.take_add_one, h]
  rfl
theorem freeze_tup (n : Nat) (S : Store) (ds : List D) : freeze n S (.tup ds) = .tup ds := rfl
theorem freeze_int (n : Nat) (S : Store) (a : Int) : freeze n S (.int a) = .int a := rfl
theorem freeze_bl (n : Nat) (S : Store) (a : Bool) : freeze n S (.bl a) = .bl a := rfl
theorem fin_same {S : Store} {d : D} (h : ∀ S', freeze S.length S' d = d) (hd : d.rf (· < S.length)) : fin false S d S = .ok d S := by
  have := fin_app (S := S) (T := []) (d := d) (by rw [h]) hd
  rw [List.append_nil] at this
  exact this
theorem p_summed {p : Int} {ps : Pairs} {d : D} {S : Store} (hp : IsP p) (hd : d = .lst (ps.map pairD) ∨ d = .tup (ps.map pairD)) (hz : ps.length ≤ 100000) :
    ∃ qs, m__law_summed tab [.int p, d] S = .ok (.tup (qs.map pairD)) S ∧ Good p qs ∧ (∀ x, coef qs x = coef ps x % p) ∧ qs.length ≤ ps.length ∧ ∀ q ∈ qs, q.1 ∈ ps.map (·.1) := by
  have hpp := hp.pos
  have es : ∀ {ρ : DEnv} {S' : Store}, ρ[1]? = some (some d) → iSeq (eVar 1) ρ S' = .ok (ps.map pairD, []) S' := by
    intro ρ S' h
    rcases hd with e | e <;> subst e
    · exact s_iSeqL (by rw [s_eVar, h])
    · exact s_iSeqT (by rw [s_eVar, h])
  have hm : ∀ a S', oMod (.int a) (.int p) S' = .ok (.int (a % p)) S' := fun a S' => s_mod (by omega)
  obtain ⟨ρ', S', e2, a, b, kvs, rfl, rfl, hI⟩ := for_inv (S0 := S ++ [.dic []]) (g := gT [(gN 3), (gN 4)]) (b := sAsg (eBin oMod (eApp (f1 bInt) (aCons (eBin (oAdd false) (eMet "dict" mGet (eVar 2) (aCons (eVar 3) (aCons (eC (.int 0)) aNil))) (eVar 4)) aNil)) (eVar 0)) (gIx (eVar 2) (eVar 3)))
    (fun i ρ S' => ∃ a b kvs, ρ = [some (.int p), some d, some (.ref S.length), a, b] ∧ S' = S ++ [.dic (encD kvs)] ∧ DInv p (ps.take i) kvs)
    (ps.map pairD) 0 [some (.int p), some d, some (.ref S.length), none, none] (S ++ [.dic []]) ⟨none, none, [], rfl, rfl, by rw [List.take_zero]; exact dinv_nil p⟩ (by
      rintro i x ρ S1 hi ⟨a, b, kvs, rfl, rfl, hI⟩
      rw [List.getElem?_map] at hi
      obtain ⟨q, hq, rfl⟩ := Option.map_eq_some_iff.mp hi
      rw [Nat.zero_add] at *
      have hl : kvs.length < sizeLine := by
        have h1 := hI.len
        rw [List.length_take] at h1
        rw [sizeLine_eq]
        omega
      have hl2 : (encD kvs).length < sizeLine := by unfold encD; rw [List.length_map]; exact hl
      refine ⟨_, _, _, _, by simp [pairD]; exact ⟨rfl, rfl⟩, .inl ?_, some (.int q.1), some (.int q.2), putI kvs q.1 (((look kvs q.1).getD 0 + q.2) % p), rfl, rfl, ?_⟩
      · have eg : mGet (.ref S.length) [.int q.1, .int 0] (S ++ [.dic (encD kvs)]) = .ok (.int ((look kvs q.1).getD 0)) (S ++ [.dic (encD kvs)]) := by
          unfold mGet
          rw [cellD_new]
          dsimp only [keyOf]
          rw [val_enc]
          cases look kvs q.1 <;> rfl
        have em : ∀ {ρ : DEnv}, ρ = [some (.int p), some d, some (.ref S.length), some (.int q.1), some (.int q.2)] → eMet "dict" mGet (eVar 2) (aCons (eVar 3) (aCons (eC (.int 0)) aNil)) ρ (S ++ [.dic (encD kvs)]) = .ok (.int ((look kvs q.1).getD 0)) (S ++ [.dic (encD kvs)]) := by
          intro ρ e
          subst e
          unfold eMet
          simp [eg, recv_dict]
        have gg : ∀ {ρ : DEnv} {v : Int}, ρ = [some (.int p), some d, some (.ref S.length), some (.int q.1), some (.int q.2)] → gIx (eVar 2) (eVar 3) (.int v) ρ (S ++ [.dic (encD kvs)]) = .next ρ (S ++ [.dic (encD (putI kvs q.1 v))]) := by
          intro ρ v e
          subst e
          unfold gIx
          simp only [s_eVar, List.getElem?_cons_succ, List.getElem?_cons_zero]
          have : cellL (S ++ [.dic (encD kvs)]) (.ref S.length) = none := by
            unfold cellL
            dsimp only
            rw [List.getElem?_append_right (Nat.le_refl _), Nat.sub_self]
            rfl
          rw [this]
          dsimp only [keyOf]
          rw [cellD_new]
          dsimp only
          rw [if_pos hl2, put_enc, set_new]
        simp [em, hm, gg]
      · rw [take_snoc hq]
        exact dinv_put hI q)
  rw [List.length_map, Nat.zero_add, List.take_length] at hI
  obtain ⟨h1, h2, h3, h4⟩ := dinv_out (by omega) hI
  refine ⟨outD kvs, ?_, h1, h2, h3, h4⟩
  unfold m__law_summed mFn b__law_summed
  have e1 : eDic0 [some (.int p), some d, none, none, none] S = .ok (.ref S.length) (S ++ [.dic []]) := rfl
  have eso : bSorted false (.ref S.length) (S ++ [.dic (encD kvs)]) = .ok (.lst ((sortI (kvs.map (·.1))).map D.int)) (S ++ [.dic (encD kvs)]) := by
    unfold bSorted
    rw [dicOf_new, Option.bind_some, keys_enc]
    rfl
  have ed : ∀ k v, look kvs k = some v → oDGet (.ref S.length) (.int k) (S ++ [.dic (encD kvs)]) = .ok (.int v) (S ++ [.dic (encD kvs)]) := by
    intro k v h
    unfold oDGet
    rw [cellD_new]
    dsimp only [keyOf]
    rw [val_enc, h]
    rfl
  have ec : cLoop (.nm 3) (tVal (eBin neE (eBin oDGet (eVar 2) (eVar 3)) (eC (.int 0)))) (eTup (aCons (eVar 3) (aCons (eBin oDGet (eVar 2) (eVar 3)) aNil))) [3] [] (S ++ [.dic (encD kvs)]) [some (.int p), some d, some (.ref S.length), a, b] ((sortI (kvs.map (·.1))).map D.int) [] (S ++ [.dic (encD kvs)]) = .ok ((outD kvs).map pairD) (S ++ [.dic (encD kvs)]) := by
    rw [comp_on D.int (fun k => decide ((look kvs k).getD 0 ≠ 0)) (fun k => pairD (k, (look kvs k).getD 0)) (sameAt_refl _)]
    · unfold outD
      rw [List.map_map]
      rfl
    · intro k hk
      obtain ⟨v, hv⟩ := look_some ((sortI_perm _).mem_iff.mp hk)
      refine ⟨_, rfl, ?_, fun _ => ?_⟩
      · simp [ed k v hv, hv]
      · simp [ed k v hv, hv, pairD]
  have e2' := e2
  rw [show iSeq (eVar 1) = iSeq (eVar 1) from rfl] at *
  simp [e1, es, e2]
  rw [s_iSeqL (S' := S ++ [.dic (encD kvs)]) (ds := (sortI (kvs.map (·.1))).map D.int) (by simp [eso])]
  simp [ec]
  exact fin_app rfl (rf_ints _ _)
end E
end

section
set_option Elab.async false
set_option linter.all false
set_option maxRecDepth 100000
set_option maxHeartbeats 4000000
namespace E
open PySem PySem.Spec L2 L3
variable {tab : IsTab}
theorem one_of3 {v a b c : Int} (h0 : 0 ≤ v) (h1 : v < 3) : ∃ x, (x = a ∨ x = b ∨ x = c) ∧ ∀ S : Store, oIx (.lst [.int a, .int b, .int c]) (.int v) S = .ok (.int x) S := by
  have : v = 0 ∨ v = 1 ∨ v = 2 := by omega
  rcases this with e | e | e <;> subst e
  · exact ⟨a, .inl rfl, fun S => ix_l rfl⟩
  · exact ⟨b, .inr (.inl rfl), fun S => ix_l rfl⟩
  · exact ⟨c, .inr (.inr rfl), fun S => ix_l rfl⟩
def mvP (ps : Pairs) (s : Int) : Pairs := ps.map fun q => (q.1 + s, q.2)
theorem far_mv {B C s : Int} {ps : Pairs} (h : Far B ps) (h0 : -C ≤ s) (h1 : s ≤ C) : Far (B + C) (mvP ps s) := fun q hq => by
  obtain ⟨r, hr, rfl⟩ := List.mem_map.mp hq
  have := h r hr
  show -(B + C) ≤ r.1 + s ∧ r.1 + s ≤ B + C
  omega
theorem good_mv {p s : Int} {ps : Pairs} (h : Good p ps) : Good p (mvP ps s) := by
  refine ⟨List.pairwise_map.mpr (h.1.imp fun {a b} hab => ?_), fun q hq => ?_⟩
  · show a.1 + s < b.1 + s
    omega
  · obtain ⟨r, hr, rfl⟩ := List.mem_map.mp hq
    exact h.2 r hr
theorem s_addLP {ps qs : Pairs} {S : Store} (h : ps.length + qs.length ≤ 1000) : oAdd false (.lst (ps.map pairD)) (.lst (qs.map pairD)) S = .ok (.lst ((ps ++ qs).map pairD)) S := by
  rw [s_addL, List.map_append]
  rw [List.length_map, List.length_map, sizeLine_eq]
  omega
/-- pairs drawn and moved: the last step of a turn in spread -/
theorem p_moved {ρ : DEnv} {S S0 : Store} {i j s : Int} {ps : Pairs} {x y : Nat} {mo : EM} (ho : ∀ ρ' : DEnv, (∀ k, k ≠ x → k ≠ y → ρ'[k]? = ρ[k]?) → mo ρ' S = .ok (.int s) S) (hx : x < ρ.length) (hy : y < ρ.length) (hxy : x ≠ y) :
    cLoop (.tp [(.nm x), (.nm y)]) tYesM (eTup (aCons (eBin (oAdd false) (eVar x) mo) (aCons (eVar y) aNil))) [x, y] [] S0 ρ (ps.map pairD) [] S = .ok ((mvP ps s).map pairD) S := by
  rw [comp_on pairD (fun _ => true) (fun q => pairD (q.1 + s, q.2)) (by rw [sameAt_nil]; trivial)]
  · rw [List.filter_eq_self.mpr fun _ _ => rfl]
    unfold mvP
    rw [List.map_map]
    rfl
  · intro q hq
    refine ⟨(((ρ.set y none).set x none).set x (some (.int q.1))).set y (some (.int q.2)), rfl, rfl, fun _ => ?_⟩
    have h1 : (((((ρ.set y none).set x none).set x (some (.int q.1))).set y (some (.int q.2)))[x]?) = some (some (.int q.1)) := by
      rw [List.getElem?_set_ne (Ne.symm hxy), List.getElem?_set_self (by simp; exact hx)]
    have h2 : (((((ρ.set y none).set x none).set x (some (.int q.1))).set y (some (.int q.2)))[y]?) = some (some (.int q.2)) := by
      rw [List.getElem?_set_self (by simp; exact hy)]
    have h3 := ho ((((ρ.set y none).set x none).set x (some (.int q.1))).set y (some (.int q.2))) fun k hk1 hk2 => by
      rw [List.getElem?_set_ne (Ne.symm hk2), List.getElem?_set_ne (Ne.symm hk1), List.getElem?_set_ne (Ne.symm hk1), List.getElem?_set_ne (Ne.symm hk2)]
    simp only [s_eTup, s_aCons, s_aNil, s_eBin, s_eVar, h1, h2, h3, bind_ok, s_addI, pairD]
    rfl
theorem p_spread {l n : Nat} {p : Int} {S : Store} (hB : Bag S l n) (hp : IsP p) (hn : n ≤ 10000) : ∃ ps S', m__law_spread tab [.ref l, .int p] S = .ok (.tup (ps.map pairD)) S' ∧ Good p ps ∧ Far (10 ^ 26) ps ∧ ps.length ≤ 36 ∧ Bag S' l (n + 100) ∧ Only1 l S S' := by
  obtain ⟨ps, S1, e1, hG, hF, hL, hB1, hO1⟩ := p_pairs (tab := tab) (far := 4) hB hp (by decide) (by omega)
  obtain ⟨v, S2, e2, v0, v1, hB2, hO2⟩ := p_draw' (tab := tab) hB1 (by omega) (k := 4) (by decide) (by decide)
  have e1' : m__law_pairs tab [.ref l, .int p, .int 4] S = .ok (.tup (ps.map pairD)) S1 := e1
  by_cases hv : v = 0
  · subst hv
    refine ⟨ps, S2, ?_, hG, hF.mono (by decide), by omega, hB2.mono (by omega), hO1.trans hO2⟩
    unfold m__law_spread mFn b__law_spread
    simp [e1', e2, s_finT]
  obtain ⟨m, hm, em⟩ : ∃ m : Nat, m ≤ 3 ∧ ∀ S : Store, oIx (.lst [.int 1, .int 1, .int 1, .int 3]) (.int v) S = .ok (.int m) S := by
    have : v = 1 ∨ v = 2 ∨ v = 3 := by omega
    rcases this with e | e | e <;> subst e
    · exact ⟨1, by decide, fun S => ix_l rfl⟩
    · exact ⟨1, by decide, fun S => ix_l rfl⟩
    · exact ⟨3, by decide, fun S => ix_l rfl⟩
  let fs : Pairs := if 1 < v then ps else []
  have hfs : fs.length ≤ 9 := by
    show (if 1 < v then ps else []).length ≤ 9
    split
    · omega
    · exact Nat.zero_le _
  have ffs : Far (10 ^ 26) fs := by
    show Far (10 ^ 26) (if 1 < v then ps else [])
    split
    · exact hF.mono (by decide)
    · exact fun _ h => nomatch h
  have mu1 : ∀ S', oMul false (.int 2) (.int 1000000000) S' = .ok (.int 2000000000) S' := fun S' => s_mulZ (n := 2) (m := 30) (.of 4 (by decide) (by decide) (by decide)) (.of 1073741824 (by decide) (by decide) (by decide)) (by decide) (by decide) (by decide)
  have mu2 : ∀ S', oMul false (.int 2) (.int 10000000000000000000000000) S' = .ok (.int 20000000000000000000000000) S' := fun S' => s_mulZ (n := 2) (m := 84) (.of 4 (by decide) (by decide) (by decide)) (.of 19342813113834066795298816 (by decide) (by decide) (by decide)) (by decide) (by decide) (by decide)
  have pw1 : ∀ S', oPow (.int 10) (.int 9) S' = .ok (.int 1000000000) S' := fun S' => s_pow (by decide) (by decide) (by decide)
  have pw2 : ∀ S', oPow (.int 10) (.int 25) S' = .ok (.int 10000000000000000000000000) S' := fun S' => s_pow (by decide) (by decide) (by decide)
  obtain ⟨ρ', S', e3, a, b, c, found, rfl, hfl, hff, hB3, hO3⟩ := for_inv (S0 := S2) (g := gN 5) (b := (sSeq (sSet 6 (eLst false (aCons (eBin oSub (eApp (m__law_draw tab) (aCons (eVar 0) (aCons (eC (.int 199)) aNil))) (eC (.int 99))) (aCons (eBin oSub (eBin oPow (eC (.int 10)) (eC (.int 9))) (eApp (m__law_draw tab) (aCons (eVar 0) (aCons (eBin (oMul false) (eC (.int 2)) (eBin oPow (eC (.int 10)) (eC (.int 9)))) aNil)))) (aCons (eBin oSub (eBin oPow (eC (.int 10)) (eC (.int 25))) (eApp (m__law_draw tab) (aCons (eVar 0) (aCons (eBin (oMul false) (eC (.int 2)) (eBin oPow (eC (.int 10)) (eC (.int 25)))) aNil)))) aNil))))) (sSeq (sSet 7 (eBin oIx (eVar 6) (eApp (m__law_draw tab) (aCons (eVar 0) (aCons (eC (.int 3)) aNil))))) (sSet 4 (eBin (oAdd false) (eVar 4) (eComp false (iSeq (eApp (m__law_pairs tab) (aCons (eVar 0) (aCons (eVar 1) (aCons (eC (.int 4)) aNil))))) (.tp [(.nm 8), (.nm 9)]) tYesM (eTup (aCons (eBin (oAdd false) (eVar 8) (eVar 7)) (aCons (eVar 9) aNil))) [8, 9]))))))
    (fun i ρ S' => ∃ a b c found, ρ = [some (.ref l), some (.int p), some (.tup (ps.map pairD)), some (.int v), some (.lst (found.map pairD)), a, b, c, none, none] ∧ found.length ≤ 9 + 9 * i ∧ Far (10 ^ 26) found ∧ Bag S' l (n + 20 + 23 * i) ∧ Only1 l S S')
    (rangeL 0 m) 0 [some (.ref l), some (.int p), some (.tup (ps.map pairD)), some (.int v), some (.lst (fs.map pairD)), none, none, none, none, none] S2 ⟨none, none, none, fs, rfl, hfs, ffs, hB2.mono (by omega), hO1.trans hO2⟩ (by
      rintro i d ρ S3 hd ⟨a, b, c, found, rfl, hfl, hff, hB3, hO3⟩
      have him : i < m := by
        have := (List.getElem?_eq_some_iff.mp hd).1
        rw [rangeL_map, List.length_map, List.length_range] at this
        exact this
      rw [Nat.zero_add] at *
      obtain ⟨x, S4, e4, x0, x1, hB4, hO4⟩ := p_draw' (tab := tab) hB3 (by omega) (k := 199) (by omega) (by decide)
      obtain ⟨y, S5, e5, y0, y1, hB5, hO5⟩ := p_draw' (tab := tab) hB4 (by omega) (k := 2000000000) (by omega) (by decide)
      obtain ⟨z, S6, e6, z0, z1, hB6, hO6⟩ := p_draw' (tab := tab) hB5 (by omega) (k := 20000000000000000000000000) (by omega) (by decide)
      obtain ⟨t, S7, e7, t0, t1, hB7, hO7⟩ := p_draw' (tab := tab) hB6 (by omega) (k := 3) (by omega) (by decide)
      obtain ⟨s, hs, es⟩ := one_of3 (a := x - 99) (b := 1000000000 - y) (c := 10000000000000000000000000 - z) t0 t1
      obtain ⟨qs, S8, e8, qG, qF, qL, hB8, hO8⟩ := p_pairs (tab := tab) (far := 4) hB7 hp (by decide) (by omega)
      have e8' : m__law_pairs tab [.ref l, .int p, .int 4] S7 = .ok (.tup (qs.map pairD)) S8 := e8
      refine ⟨_, _, [some (.ref l), some (.int p), some (.tup (ps.map pairD)), some (.int v), some (.lst ((found ++ mvP qs s).map pairD)), some d, some (.lst [.int (x - 99), .int (1000000000 - y), .int (10000000000000000000000000 - z)]), some (.int s), none, none], S8, rfl, .inl ?_, _, _, _, found ++ mvP qs s, rfl, ?_, ?_, hB8.mono (by omega), ((((hO3.trans hO4).trans hO5).trans hO6).trans hO7).trans hO8⟩
      · have ec := fun ρ ho hx hy => p_moved (ρ := ρ) (S := S8) (S0 := S8) (i := 0) (j := 0) (s := s) (ps := qs) (x := 8) (y := 9) (mo := eVar 7) ho hx hy (by decide)
        have ei : ∀ ρ : DEnv, ρ[0]? = some (some (.ref l)) → ρ[1]? = some (some (.int p)) → iSeq (eApp (m__law_pairs tab) (aCons (eVar 0) (aCons (eVar 1) (aCons (eC (.int 4)) aNil)))) ρ S7 = .ok (qs.map pairD, []) S8 := fun ρ h0 h1 => s_iSeqT (by simp [h0, h1, e8'])
        have ad : ∀ S', oAdd false (.lst (found.map pairD)) (.lst ((mvP qs s).map pairD)) S' = .ok (.lst ((found ++ mvP qs s).map pairD)) S' := fun S' => s_addLP (by unfold mvP; rw [List.length_map]; omega)
        simp [e4, pw1, mu1, e5, pw2, mu2, e6, e7, es, ei]
        rw [ec _ (fun ρ' h => by rw [s_eVar, h 7 (by decide) (by decide)]; rfl) (by simp) (by simp)]
        simp [ad]
      · rw [List.length_append]
        unfold mvP
        rw [List.length_map]
        omega
      · intro q hq
        rcases List.mem_append.mp hq with hq | hq
        · exact hff q hq
        · have := far_mv (C := 10000000000000000000000000) qF (s := s) (by omega) (by omega) q hq
          omega)
  have el : (rangeL 0 m).length = m := by rw [rangeL_map, List.length_map, List.length_range]
  rw [el, Nat.zero_add] at hfl hB3
  obtain ⟨qs, e4, q1, q2, q3, q4⟩ := p_summed (tab := tab) (p := p) (ps := found) (S := S') hp (.inl rfl) (by omega)
  refine ⟨qs, S', ?_, q1, fun q hq => ?_, by omega, hB3.mono (by omega), hO3⟩
  · unfold m__law_spread mFn b__law_spread
    have er : ∀ ρ : DEnv, ρ[3]? = some (some (.int v)) → iRange1 (aCons (eBin oIx (eLst false (aCons (eC (.int 1)) (aCons (eC (.int 1)) (aCons (eC (.int 1)) (aCons (eC (.int 3)) aNil))))) (eVar 3)) aNil) ρ S2 = .ok (rangeL 0 m, []) S2 := fun ρ h => by
      rw [s_iRange1 (j := m) (S' := S2) (by simp [em, h]) (by omega) (by omega)]
      rfl
    by_cases h1 : 1 < v
    · have ef : fs = ps := if_pos h1
      rw [ef] at e3
      simp [e1', e2, hv, h1, er, e3, e4, s_finT]
    · have ef : fs = [] := if_neg h1
      rw [ef, List.map_nil] at e3
      simp [e1', e2, hv, h1, er, e3, e4, s_finT]
  · obtain ⟨r, hr, e⟩ := List.mem_map.mp (q4 q hq)
    rw [← e]
    exact hff r hr
end E
end

section
set_option Elab.async false
set_option linter.all false
set_option maxRecDepth 100000
set_option maxHeartbeats 4000000
namespace E
open PySem PySem.Spec L2 L3
variable {tab : IsTab}
theorem p_is_number (a : Int) (S : Store) : m_is_number tab [.int a] S = .ok (.bl true) S := by
  unfold m_is_number mFn b_is_number
  simp [s_finT]
theorem p_is_prime {p : Int} (hp : IsP p) (S : Store) : m_is_prime tab [.int p] S = .ok (.bl true) S := by
  unfold m_is_prime mFn b_is_prime
  have : oIn false (.int p) (.tup [.int 2, .int 3, .int 5]) S = .ok (.bl true) S := by
    rcases hp with e | e | e <;> subst e <;> rfl
  simp [p_is_number, this, s_finT]
theorem p_need_prime {p : Int} (hp : IsP p) (S : Store) : m_need_prime tab [.int p] S = .ok .non S := by
  unfold m_need_prime mFn b_need_prime
  simp [p_is_prime hp, s_finT]
theorem p_is_whole (a lo hi : Int) (S : Store) : m_is_whole tab [.int a, .int lo, .int hi] S = .ok (.bl (decide (lo ≤ a) && decide (a ≤ hi))) S := by
  unfold m_is_whole mFn b_is_whole eChain
  by_cases h : lo ≤ a
  · by_cases h2 : a ≤ hi <;> simp [p_is_number, h, h2, s_finT]
  · simp [p_is_number, h, s_finT]
theorem p_is_pair {p : Int} (q : Int × Int) (S : Store) : m_is_pair tab [.int p, pairD q] S = .ok (.bl (decide (1 ≤ q.2) && decide (q.2 ≤ p - 1))) S := by
  unfold m_is_pair mFn b_is_pair
  have i0 : ∀ S', oIx (.tup [.int q.1, .int q.2]) (.int 0) S' = .ok (.int q.1) S' := fun S' => ix_t rfl
  have i1 : ∀ S', oIx (.tup [.int q.1, .int q.2]) (.int 1) S' = .ok (.int q.2) S' := fun S' => ix_t rfl
  simp [pairD, p_is_number, p_is_whole, i0, i1, s_finT]
/-- neighbours: each offset below the next one's -/
def nextsOk : Pairs → List Bool
  | a :: b :: ps => decide (a.1 < b.1) :: nextsOk (b :: ps)
  | _ => []
theorem nexts_all : ∀ {ps : Pairs}, ps.Pairwise (fun a b => a.1 < b.1) → (nextsOk ps).all _root_.id = true
  | [], _ => rfl
  | [_], _ => rfl
  | a :: b :: ps, h => by
    show (decide (a.1 < b.1) && (nextsOk (b :: ps)).all _root_.id) = true
    rw [nexts_all h.of_cons, decide_eq_true (List.rel_of_pairwise_cons h List.mem_cons_self)]
    rfl
theorem zip_pairs : ∀ ps qs : Pairs, zipL (ps.map pairD) (qs.map pairD) = (ps.zip qs).map fun r => .tup [pairD r.1, pairD r.2]
  | [], _ => rfl
  | _ :: _, [] => rfl
  | p :: ps, q :: qs => by
    show D.tup [pairD p, pairD q] :: zipL (ps.map pairD) (qs.map pairD) = _
    rw [zip_pairs ps qs]
    rfl
theorem nexts_zip : ∀ ps : Pairs, (ps.zip (ps.drop 1)).map (fun r => decide (r.1.1 < r.2.1)) = nextsOk ps
  | [] => rfl
  | [_] => rfl
  | a :: b :: ps => by
    show decide (a.1 < b.1) :: ((b :: ps).zip ps).map (fun r => decide (r.1.1 < r.2.1)) = decide (a.1 < b.1) :: nextsOk (b :: ps)
    rw [← nexts_zip (b :: ps)]
    rfl
theorem cut_tail (ds : List D) : cutD ds (some 1) none = ds.drop 1 := by
  unfold cutD
  cases ds with
  | nil => rfl
  | cons d ds =>
    have e1 : HT.sIx (d :: ds).length 0 (some 1) = 1 := by
      have := HT.sIx_nat (d :: ds).length 0 1
      rw [show (some (1 : Int)) = some ((1 : Nat) : Int) from rfl, this]
      show min 1 (ds.length + 1) = 1
      omega
    rw [e1, HT.sIx_none]
    show List.take (ds.length + 1 - 1) ds = ds
    exact List.take_of_length_le (by omega)
theorem comp_all {tg : Tgt} {me : EM} {vs : List Nat} {S0 S : Store} {ρ : DEnv} {α : Type} (F : α → D) (G : α → D) (xs : List α) (h : ∀ x ∈ xs, ∃ ρ1, putT tg (F x) (wipeD ρ vs) = some ρ1 ∧ me ρ1 S = .ok (G x) S) : cLoop tg tYesM me vs [] S0 ρ (xs.map F) [] S = .ok (xs.map G) S := by
  rw [comp_on F (fun _ => true) G (by rw [sameAt_nil]; trivial)]
  · rw [List.filter_eq_self.mpr fun _ _ => rfl]
    rfl
  · intro x hx
    obtain ⟨ρ1, h1, h2⟩ := h x hx
    exact ⟨ρ1, h1, rfl, fun _ => h2⟩
theorem p_fits_rule {p : Int} {ps : Pairs} (h : Good p ps) (S : Store) : m_fits_rule tab [.int p, .tup (ps.map pairD)] S = .ok (.bl true) S := by
  unfold m_fits_rule mFn b_fits_rule
  have e1 : ∀ (ρ : DEnv), ρ.length = 5 → ρ[0]? = some (some (.int p)) → cLoop (.nm 2) tYesM (eApp (m_is_pair tab) (aCons (eVar 0) (aCons (eVar 2) aNil))) [2] [] S ρ (ps.map pairD) [] S = .ok ((ps.map fun _ => true).map D.bl) S := by
    intro ρ hl h0
    rw [comp_all pairD (fun _ => D.bl true) ps fun q hq => ⟨_, rfl, by
      have := h.2 q hq
      have hc : ((ρ.set 2 none).set 2 (some (pairD q)))[0]? = some (some (.int p)) := by
        rw [List.getElem?_set_ne (by decide), List.getElem?_set_ne (by decide), h0]
      have hd : ((ρ.set 2 none).set 2 (some (pairD q)))[2]? = some (some (pairD q)) := List.getElem?_set_self (by simp; omega)
      simp only [s_eApp, s_aCons, s_eVar, wipe_cons, wipe_nil, hc, hd, bind_ok, s_aNil, p_is_pair]
      rw [decide_eq_true this.1, decide_eq_true (show q.2 ≤ p - 1 by omega)]
      rfl⟩]
    show Res.ok _ S = Res.ok (List.map D.bl (ps.map fun _ => true)) S
    rw [List.map_map]
    rfl
  have e2 : ∀ (ρ : DEnv), ρ.length = 5 → cLoop (.tp [(.nm 3), (.nm 4)]) tYesM (eBin oLt (eBin oIx (eVar 3) (eC (.int 0))) (eBin oIx (eVar 4) (eC (.int 0)))) [3, 4] [] S ρ (zipL (ps.map pairD) ((ps.drop 1).map pairD)) [] S = .ok ((nextsOk ps).map D.bl) S := by
    intro ρ hl
    rw [zip_pairs, comp_all (fun r : (Int × Int) × (Int × Int) => D.tup [pairD r.1, pairD r.2]) (fun r => D.bl (decide (r.1.1 < r.2.1))) _ fun r _ => ⟨_, rfl, by
      have i0 : ∀ (q : Int × Int) S', oIx (pairD q) (.int 0) S' = .ok (.int q.1) S' := fun q S' => ix_t rfl
      match ρ, hl with
      | [a, b, c, d, e], _ => simp [i0]⟩]
    rw [← nexts_zip, List.map_map]
    rfl
  have a1 : (ps.map fun _ => true).all _root_.id = true := by simp
  have iz : ∀ ρ : DEnv, ρ[1]? = some (some (.tup (ps.map pairD))) → iZip (aCons (eVar 1) (aCons (eSl false (eVar 1) (oSome (eC (.int 1))) oNone) aNil)) ρ S = .ok (zipL (ps.map pairD) ((ps.drop 1).map pairD), []) S := by
    intro ρ h1
    unfold L3.iZip eSl oSome oNone
    simp [h1, slD, cut_tail, tupOf, -List.drop_one]
  have is : ∀ ρ : DEnv, ρ[1]? = some (some (.tup (ps.map pairD))) → iSeq (eVar 1) ρ S = .ok (ps.map pairD, []) S := fun ρ h1 => s_iSeqT (by rw [s_eVar, h1])
  have sa : bAll (.lst ((ps.map fun _ => true).map D.bl)) S = .ok (.bl true) S := by rw [s_all, a1]
  have sb : bAll (.lst ((nextsOk ps).map D.bl)) S = .ok (.bl true) S := by rw [s_all, nexts_all h.1]
  simp [is, e1, sa, -List.map_map, -List.map_drop, -List.drop_one, iz, e2, sb, s_finT]
theorem p_need_rule {p : Int} {ps : Pairs} (h : Good p ps) (S : Store) : m_need_rule tab [.int p, .tup (ps.map pairD)] S = .ok .non S := by
  unfold m_need_rule mFn b_need_rule
  simp [p_fits_rule h, s_finT]
/-- a rule -/
def R (p : Int) (ps : Pairs) : D := .obj "Rule" [("base", .int p), ("pairs", .tup (ps.map pairD))]
theorem rf_R (P : Nat → Prop) (p : Int) (ps : Pairs) : D.rf P (R p ps) := ⟨trivial, rf_ints P ps, trivial⟩
theorem p_Rule {p : Int} {ps : Pairs} (hp : IsP p) (h : Good p ps) (S : Store) : mMake false "Rule" (m_RuleX_initX tab) [.int p, .tup (ps.map pairD)] S = .ok (R p ps) S := by
  have e1 : ∀ fs fs', (S ++ [Cell.ins "Rule" fs]).set S.length (.ins "Rule" fs') = S ++ [.ins "Rule" fs'] := fun _ _ => set_new
  have f1 : sFldD ["Rule"] "base" (eVar 0) (eVar 1) [some (.ref S.length), some (.int p), some (.tup (ps.map pairD))] (S ++ [.ins "Rule" []]) = .next [some (.ref S.length), some (.int p), some (.tup (ps.map pairD))] (S ++ [.ins "Rule" [("base", .int p)]]) := by
    unfold sFldD cellI
    simp only [s_eVar, List.getElem?_cons_zero, List.getElem?_cons_succ, sBind_ok]
    rw [List.getElem?_append_right (Nat.le_refl _), Nat.sub_self]
    simp [putFD, e1]
  have f2 : sFldD ["Rule"] "pairs" (eVar 0) (eVar 2) [some (.ref S.length), some (.int p), some (.tup (ps.map pairD))] (S ++ [.ins "Rule" [("base", .int p)]]) = .next [some (.ref S.length), some (.int p), some (.tup (ps.map pairD))] (S ++ [.ins "Rule" [("base", .int p), ("pairs", .tup (ps.map pairD))]]) := by
    unfold sFldD cellI
    simp only [s_eVar, List.getElem?_cons_zero, List.getElem?_cons_succ, sBind_ok]
    rw [List.getElem?_append_right (Nat.le_refl _), Nat.sub_self]
    have ne : ¬ (Str.ofString "base" = Str.ofString "pairs") := by decide
    simp [putFD, e1, ne]
  unfold mMake
  have ei : m_RuleX_initX tab [.ref S.length, .int p, .tup (ps.map pairD)] (S ++ [.ins "Rule" []]) = .ok .non (S ++ [.ins "Rule" [("base", .int p), ("pairs", .tup (ps.map pairD))]]) := by
    unfold m_RuleX_initX mFn b_RuleX_initX
    simp [p_need_prime hp, p_need_rule h, f1, f2, s_finT]
  rw [ei]
  dsimp only
  unfold fin
  have ef : freeze S.length (S ++ [.ins "Rule" [("base", .int p), ("pairs", .tup (ps.map pairD))]]) (.ref S.length) = R p ps := by
    unfold freeze
    dsimp only
    rw [if_pos (Nat.le_refl _), List.getElem?_append_right (Nat.le_refl _), Nat.sub_self]
    rfl
  rw [if_neg (by decide), ef, if_pos ⟨cut_app _ _, rf_R _ _ _⟩, List.take_left]
end E
end

section
set_option Elab.async false
set_option linter.all false
set_option maxRecDepth 100000
set_option exponentiation.threshold 2000
set_option maxHeartbeats 4000000
namespace E
open PySem PySem.Spec L2 L3
variable {tab : IsTab}
theorem isC_R (p : Int) (ps : Pairs) (S : Store) : isC "Rule" S (R p ps) = true := rfl
theorem onC_R {p : Int} {ps : Pairs} {S : Store} {r : Res D} : onC "Rule" (R p ps) S r = r := if_pos (isC_R p ps S)
theorem fld_base {p : Int} {ps : Pairs} {S S' : Store} {ρ : DEnv} {mo : EM} (h : mo ρ S = .ok (R p ps) S') : eFld ["Rule"] "base" mo ρ S = .ok (.int p) S' := by
  unfold eFld
  rw [h]
  rfl
theorem fld_pairs {p : Int} {ps : Pairs} {S S' : Store} {ρ : DEnv} {mo : EM} (h : mo ρ S = .ok (R p ps) S') : eFld ["Rule"] "pairs" mo ρ S = .ok (.tup (ps.map pairD)) S' := by
  unfold eFld
  rw [h]
  rfl
theorem p_prime (p : Int) (ps : Pairs) (S : Store) : m_Rule_prime tab [R p ps] S = .ok (.int p) S := by
  unfold m_Rule_prime mFn b_Rule_prime
  have := fld_base (p := p) (ps := ps) (S := S) (S' := S) (ρ := [some (R p ps)]) (mo := eVar 0) rfl
  simp [this, s_finT]
theorem p_rule (p : Int) (ps : Pairs) (S : Store) : m_Rule_rule tab [R p ps] S = .ok (.tup (ps.map pairD)) S := by
  unfold m_Rule_rule mFn b_Rule_rule
  have := fld_pairs (p := p) (ps := ps) (S := S) (S' := S) (ρ := [some (R p ps)]) (mo := eVar 0) rfl
  simp [this, s_finT]
theorem p_len (p : Int) (ps : Pairs) (S : Store) : m_RuleX_lenX tab [R p ps] S = .ok (.int ps.length) S := by
  unfold m_RuleX_lenX mFn b_RuleX_lenX
  have := fld_pairs (p := p) (ps := ps) (S := S) (S' := S) (ρ := [some (R p ps)]) (mo := eVar 0) rfl
  simp [this, s_finT]
theorem p_bool (p : Int) (ps : Pairs) (S : Store) : m_RuleX_boolX tab [R p ps] S = .ok (.bl (!decide (ps = []))) S := by
  unfold m_RuleX_boolX mFn b_RuleX_boolX
  have := fld_pairs (p := p) (ps := ps) (S := S) (S' := S) (ρ := [some (R p ps)]) (mo := eVar 0) rfl
  have e : decide (0 < ps.length) = !decide (ps = []) := by
    cases ps <;> simp
  simp [this, s_finT, e]
theorem eProp_prime {p : Int} {ps : Pairs} {S S' : Store} {ρ : DEnv} {mo : EM} (h : mo ρ S = .ok (R p ps) S') : eProp "Rule" (noX (m_Rule_prime tab)) mo ρ S = .ok (.int p) S' := by
  unfold eProp noX
  rw [h]
  show onC "Rule" (R p ps) S' _ = _
  rw [onC_R, p_prime]
theorem eProp_rule {p : Int} {ps : Pairs} {S S' : Store} {ρ : DEnv} {mo : EM} (h : mo ρ S = .ok (R p ps) S') : eProp "Rule" (noX (m_Rule_rule tab)) mo ρ S = .ok (.tup (ps.map pairD)) S' := by
  unfold eProp noX
  rw [h]
  show onC "Rule" (R p ps) S' _ = _
  rw [onC_R, p_rule]
theorem bLenO_R {p : Int} {ps : Pairs} {S : Store} (h : ps.length ≤ 1000000) : bLenO "Rule" (m_RuleX_lenX tab) (R p ps) S = .ok (.int ps.length) S := by
  unfold bLenO only
  rw [onC_R, p_len]
  have e : isLenD (.int ps.length) = true := by
    unfold isLenD
    dsimp only
    rw [decide_eq_true (show (0 : Int) ≤ ps.length by omega), decide_eq_true (show (ps.length : Int) < 2 ^ 63 by omega)]
    rfl
  rw [bind_ok, if_pos e]
theorem bBoolO_R {p : Int} {ps : Pairs} {S : Store} : bBoolO "Rule" (m_RuleX_boolX tab) (R p ps) S = .ok (.bl (!decide (ps = []))) S := by
  unfold bBoolO only
  rw [onC_R, p_bool]
  rfl
/-! ### amounts -/
theorem sum_coef (x : Int) : ∀ ps : Pairs, ((ps.filter fun q => decide (q.1 = x)).map (·.2)).sum = coef ps x
  | [] => rfl
  | q :: ps => by
    rw [List.filter_cons]
    show _ = (if q.1 = x then q.2 else 0) + coef ps x
    by_cases e : q.1 = x
    · rw [if_pos (decide_eq_true e), if_pos e, List.map_cons, List.sum_cons, sum_coef x ps]
    · rw [if_neg (by simp [e]), if_neg e, sum_coef x ps, Int.zero_add]
theorem head_coef {p : Int} (x : Int) : ∀ {ps : Pairs}, Good p ps → ((ps.filter fun q => decide (q.1 = x)).map (·.2) ++ [0])[0]? = some (coef ps x)
  | [], _ => rfl
  | q :: ps, h => by
    rw [List.filter_cons]
    by_cases e : q.1 = x
    · subst e
      rw [if_pos (decide_eq_true rfl), good_head h]
      rfl
    · rw [if_neg (by simp [e]), head_coef x h.tail]
      show _ = some ((if q.1 = x then q.2 else 0) + coef ps x)
      rw [if_neg e, Int.zero_add]
theorem cl_amounts {S S0 : Store} {ρ : DEnv} {x : Int} {ps : Pairs} {i j : Nat} {mo : EM} (hi : i < ρ.length) (hj : j < ρ.length) (hij : i ≠ j) (ho : ∀ ρ' : DEnv, (∀ k, k ≠ i → k ≠ j → ρ'[k]? = ρ[k]?) → mo ρ' S = .ok (.int x) S) :
    cLoop (.tp [(.nm i), (.nm j)]) (tVal (eBin eqE (eVar i) mo)) (eVar j) [i, j] [] S0 ρ (ps.map pairD) [] S = .ok (((ps.filter fun q => decide (q.1 = x)).map (·.2)).map D.int) S := by
  rw [comp_on pairD (fun q => decide (q.1 = x)) (fun q => D.int q.2) (by rw [sameAt_nil]; trivial)]
  · rw [List.map_map]
    rfl
  · intro q hq
    refine ⟨(((ρ.set j none).set i none).set i (some (.int q.1))).set j (some (.int q.2)), rfl, ?_, fun _ => ?_⟩
    · have h1 : ((((ρ.set j none).set i none).set i (some (.int q.1))).set j (some (.int q.2)))[i]? = some (some (.int q.1)) := by
        rw [List.getElem?_set_ne (Ne.symm hij), List.getElem?_set_self (by simp; exact hi)]
      have h3 := ho ((((ρ.set j none).set i none).set i (some (.int q.1))).set j (some (.int q.2))) fun k hk1 hk2 => by
        rw [List.getElem?_set_ne (Ne.symm hk2), List.getElem?_set_ne (Ne.symm hk1), List.getElem?_set_ne (Ne.symm hk1), List.getElem?_set_ne (Ne.symm hk2)]
      simp only [s_tVal, s_eBin, s_eVar, h1, h3, bind_ok, eqE_i, eqD_ii]
    · have h2 : ((((ρ.set j none).set i none).set i (some (.int q.1))).set j (some (.int q.2)))[j]? = some (some (.int q.2)) := by
        rw [List.getElem?_set_self (by simp; exact hj)]
      simp only [s_eVar, h2]
theorem p_need_step (x : Int) (S : Store) : m_need_step tab [.int x] S = .ok .non S := by
  unfold m_need_step mFn b_need_step
  simp [p_is_number, s_finT]
theorem p_getitem (p : Int) (ps : Pairs) (x : Int) (S : Store) : m_RuleX_getitemX tab [R p ps, .int x] S = .ok (.int (coef ps x)) S := by
  unfold m_RuleX_getitemX mFn b_RuleX_getitemX
  have hf : ∀ ρ : DEnv, ρ[0]? = some (some (R p ps)) → iSeq (eFld ["Rule"] "pairs" (eVar 0)) ρ S = .ok (ps.map pairD, []) S := fun ρ h => s_iSeqT (fld_pairs (by rw [s_eVar, h]))
  have hc := cl_amounts (S := S) (S0 := S) (ρ := [some (R p ps), some (.int x), none, none]) (x := x) (ps := ps) (i := 2) (j := 3) (mo := eVar 1) (by simp) (by simp) (by decide) (fun ρ' h => by rw [s_eVar, h 1 (by decide) (by decide)]; rfl)
  have hs : bSum (.lst (((ps.filter fun q => decide (q.1 = x)).map (·.2)).map D.int)) S = .ok (.int (coef ps x)) S := by
    rw [s_sum, sum_coef]
  simp [p_need_step, hf, hc, hs, s_finT, -List.map_map]
/-! ### texts -/
theorem pOk_int {i : Int} (h : -(10 ^ 100) < i) (h2 : i < 10 ^ 100) : pOk (.int i) = true := by
  unfold pOk
  exact decide_eq_true (Nat.lt_trans ((Sz.of (n := 400) (10 ^ 100) h h2 (by decide)).log (by decide)) (by decide))
theorem pOks_pairs : ∀ ps : Pairs, (∀ q ∈ ps, (-(10 ^ 100) < q.1 ∧ q.1 < 10 ^ 100) ∧ -(10 ^ 100) < q.2 ∧ q.2 < 10 ^ 100) → pOks (ps.map pairPy) = true ∧ pSizes (ps.map pairPy) = 3 * ps.length
  | [], _ => ⟨rfl, rfl⟩
  | q :: ps, h => by
    obtain ⟨⟨a, b⟩, c, d⟩ := h q List.mem_cons_self
    obtain ⟨h1, h2⟩ := pOks_pairs ps fun r hr => h r (List.mem_cons_of_mem _ hr)
    refine ⟨?_, ?_⟩
    · show ((pOk (.int q.1) && (pOk (.int q.2) && true)) && pOks (ps.map pairPy)) = true
      rw [pOk_int a b, pOk_int c d, h1]
      rfl
    · show (1 + (1 + 0) + 1) + pSizes (ps.map pairPy) = 3 * (ps.length + 1)
      rw [h2]
      omega
theorem repr_of {d : D} {S : Store} {p : PyData} (h : pyOf S d = some p) (h2 : reprOk p = true) : bRepr d S = .ok (.str p.shown) S := by
  unfold bRepr
  rw [h]
  exact if_pos h2
theorem repr_int {i : Int} {S : Store} (h : -(10 ^ 100) < i) (h2 : i < 10 ^ 100) : bRepr (.int i) S = .ok (.str (PyData.int i).shown) S := repr_of rfl (by
  unfold reprOk
  rw [pOk_int h h2]
  rfl)
theorem far_good {p B : Int} {ps : Pairs} (hp : IsP p) (h : Good p ps) (hF : Far B ps) (hB : B < 10 ^ 100) : ∀ q ∈ ps, (-(10 ^ 100) < q.1 ∧ q.1 < 10 ^ 100) ∧ -(10 ^ 100) < q.2 ∧ q.2 < 10 ^ 100 := fun q hq => by
  have := hF q hq
  have := h.2 q hq
  have := hp.pos
  omega
theorem repr_rule {p B : Int} {ps : Pairs} {S : Store} (hp : IsP p) (h : Good p ps) (hF : Far B ps) (hB : B < 10 ^ 100) (hl : ps.length ≤ 2000) : bRepr (.lst [.int p, .tup (ps.map pairD)]) S = .ok (.str (PyData.list [.int p, .tuple (ps.map pairPy)]).shown) S := by
  obtain ⟨h1, h2⟩ := pOks_pairs ps (far_good hp h hF hB)
  refine repr_of ?_ ?_
  · show (match toPy (D.int p), toPys [.tup (ps.map pairD)] with
      | some p, some ps => some (p :: ps)
      | _, _ => none).map PyData.list = _
    have e : toPys [.tup (ps.map pairD)] = some [.tuple (ps.map pairPy)] := by
      show (match (toPys (ps.map pairD)).map PyData.tuple, toPys [] with
        | some p, some ps => some (p :: ps)
        | _, _ => none) = _
      rw [toPys_pairs]
      rfl
    rw [e]
    rfl
  · unfold reprOk
    have hpp := hp.pos
    have a1 : pOk (PyData.list [.int p, .tuple (ps.map pairPy)]) = true := by
      show (pOk (.int p) && (pOks (ps.map pairPy) && true)) = true
      rw [h1, pOk_int (by omega) (by omega)]
      rfl
    have a2 : (PyData.list [.int p, .tuple (ps.map pairPy)]).depth ≤ 60 := by
      show max (PyData.depth (.int p)) (max (PyData.depthAll (ps.map pairPy) + 1) 0) + 1 ≤ 60
      have := depth_pairs ps
      have h0 : PyData.depth (.int p) = 0 := rfl
      omega
    have a3 : pSize (PyData.list [.int p, .tuple (ps.map pairPy)]) ≤ 8000 := by
      show 1 + ((pSizes (ps.map pairPy) + 1) + 0) + 1 ≤ 8000
      omega
    rw [a1, decide_eq_true a2, decide_eq_true a3]
    rfl
theorem repr_two {i : Int} {b : Bool} {S : Store} (h : -(10 ^ 100) < i) (h2 : i < 10 ^ 100) : bRepr (.lst [.int i, .bl b]) S = .ok (.str (PyData.list [.int i, .bool b]).shown) S := repr_of rfl (by
  unfold reprOk
  have a1 : pOk (PyData.list [.int i, .bool b]) = true := by
    show (pOk (.int i) && true) = true
    rw [pOk_int h h2]
    rfl
  rw [a1]
  rfl)
end E
end

section
set_option Elab.async false
set_option linter.all false
set_option maxRecDepth 100000
set_option exponentiation.threshold 2000
set_option maxHeartbeats 4000000
namespace E
open PySem PySem.Spec L2 L3
variable {tab : IsTab}
/-- what the table must tell -/
def TabOk (tab : IsTab) : Prop := ∀ (p : Int) (ps : Pairs) (S : Store), tab.own "Rule" (R p ps) S = some true
theorem s_addLI {xs ys : List Int} {S : Store} (h : xs.length + ys.length ≤ 100000) : oAdd false (.lst (xs.map D.int)) (.lst (ys.map D.int)) S = .ok (.lst ((xs ++ ys).map D.int)) S := by
  rw [s_addL, List.map_append]
  rw [List.length_map, List.length_map, sizeLine_eq]
  omega
theorem ixO_R {p : Int} {ps : Pairs} {x : Int} {S : Store} : oIxO "Rule" (m_RuleX_getitemX tab) (R p ps) (.int x) S = .ok (.int (coef ps x)) S := by
  unfold oIxO
  rw [onC_R, p_getitem]
theorem cl_ints {S S0 : Store} {ρ : DEnv} {i : Nat} {F : Int → Int} {me : EM} (xs : List Int) (h : ∀ x ρ', ρ' = (ρ.set i none).set i (some (.int x)) → me ρ' S = .ok (.int (F x)) S) :
    cLoop (.nm i) tYesM me [i] [] S0 ρ (xs.map D.int) [] S = .ok ((xs.map F).map D.int) S := by
  rw [comp_all D.int (fun x => D.int (F x)) xs fun x _ => ⟨_, rfl, h x _ rfl⟩, List.map_map]
  rfl
theorem cut_first {ds : List D} {k : Nat} (h : k ≤ ds.length) : cutD ds none (some (k : Int)) = ds.take k := by
  unfold cutD
  rw [HT.sIx_none, HT.sIx_nat, Nat.min_eq_left h]
  rfl
def am (ps : Pairs) (x : Int) : List Int := (ps.filter fun q => decide (q.1 = x)).map fun q => q.2
theorem mFn_ret {np nl : Nat} {b : SM} {ds : List D} {S S' : Store} {d : D} {ρ : DEnv} (h : ds.length = np) (hρ : ds.map some ++ List.replicate nl none = ρ) (e : b ρ S = .ret d S') : mFn np nl true b ds S = .ok d S' := by
  unfold mFn
  rw [if_pos h, hρ, e]
  exact s_finT
theorem seq_next {a b : SM} {ρ ρ' : DEnv} {S S' : Store} (h : a ρ S = .next ρ' S') : sSeq a b ρ S = b ρ' S' := by
  rw [s_sSeq, h]
def spotsI (ps : Pairs) : List Int := ps.map (fun q => q.1) ++ [0, 5, -5, 999999999999999999999999999999, -1000000000000000000000000000000]
def walkI (ps : Pairs) : List Int := spotsI ps ++ (spotsI ps).map (· + 1) ++ ((spotsI ps).take ps.length).map (· - 1)
theorem spots_len (ps : Pairs) : (spotsI ps).length = ps.length + 5 := by
  unfold spotsI
  rw [List.length_append, List.length_map]
  rfl
abbrev oneE (p : Int) (ps : Pairs) : DEnv := [some (R p ps), some (.int p), some (.tup (ps.map pairD)), none, none, none, none, none]
abbrev oneF (p : Int) (ps : Pairs) (a b : Option D) : DEnv := [some (R p ps), some (.int p), some (.tup (ps.map pairD)), some (.lst ((spotsI ps).map D.int)), a, b, none, none]
noncomputable def oneB (tab : IsTab) : SM := (sSeq (sSet 5 (eBin oIx (eBin (oAdd false) (eComp false (iSeq (eVar 2)) (.tp [(.nm 6), (.nm 7)]) (tVal (eBin eqE (eVar 6) (eVar 4))) (eVar 7) [6, 7]) (eLst false (aCons (eC (.int 0)) aNil))) (eC (.int 0)))) (sIf (tVal (eBin neE (eApp (f1 bRepr) (aCons (eBin (oIxO "Rule" (m_RuleX_getitemX tab)) (eVar 0) (eVar 4)) aNil)) (eApp (f1 bRepr) (aCons (eVar 5) aNil)))) (sRet (eC (.bl false))) sNext))
theorem one_loop {p : Int} {ps : Pairs} {S : Store} (hp : IsP p) (h : Good p ps) (hl : ps.length ≤ 2000) (zs : List Int) : ∃ a b, sFor1 (gN 4) (oneB tab) [] S (zs.map D.int) (oneF p ps none none) S = .next (oneF p ps a b) S := by
  have hpp := hp.pos
  obtain ⟨ρ', S', e2, a, b, rfl, rfl⟩ := for_inv (S0 := S) (g := gN 4) (b := oneB tab)
    (fun i ρ S' => ∃ a b, ρ = oneF p ps a b ∧ S = S')
    (zs.map D.int) 0 (oneF p ps none none) S ⟨none, none, rfl, rfl⟩ (by
      rintro i d ρ S1 hd ⟨a, b, rfl, hS1⟩
      subst hS1
      rw [List.getElem?_map] at hd
      obtain ⟨x, hx, rfl⟩ := Option.map_eq_some_iff.mp hd
      refine ⟨_, _, _, _, rfl, .inl ?_, some (.int x), some (.int (coef ps x)), rfl, rfl⟩
      have hc : cLoop (.tp [(.nm 6), (.nm 7)]) (tVal (eBin eqE (eVar 6) (eVar 4))) (eVar 7) [6, 7] [] S [some (R p ps), some (.int p), some (.tup (ps.map pairD)), some (.lst ((spotsI ps).map D.int)), some (.int x), b, none, none] (ps.map pairD) [] S = .ok ((am ps x).map D.int) S := cl_amounts (i := 6) (j := 7) (mo := eVar 4) (by simp) (by simp) (by decide) (fun ρ' h => by rw [s_eVar, h 4 (by decide) (by decide)]; rfl)
      have hi : ∀ ρ : DEnv, ρ[2]? = some (some (.tup (ps.map pairD))) → iSeq (eVar 2) ρ S = .ok (ps.map pairD, []) S := fun ρ h => s_iSeqT (by rw [s_eVar, h])
      have hlen : (am ps x).length ≤ 2000 := by
        unfold am
        rw [List.length_map]
        exact Nat.le_trans (List.length_filter_le _ _) hl
      have ha : oAdd false (.lst ((am ps x).map D.int)) (.lst [.int 0]) S = .ok (.lst ((am ps x ++ [0]).map D.int)) S := s_addLI (xs := am ps x) (ys := [0]) (by
        show _ + 1 ≤ 100000
        omega)
      have hx0 : oIx (.lst ((am ps x ++ [0]).map D.int)) (.int 0) S = .ok (.int (coef ps x)) S := ix_l (atI_nat (by decide) (by
        rw [List.getElem?_map]
        have := head_coef x h
        show Option.map D.int ((am ps x ++ [0])[0]?) = _
        rw [show (am ps x ++ [0])[0]? = _ from this]
        rfl))
      have hcf := good_coef (by omega : (0 : Int) < p) h x
      have hr : bRepr (.int (coef ps x)) S = .ok (.str (PyData.int (coef ps x)).shown) S := repr_int (by omega) (by omega)
      unfold oneB
      simp only [s_sSeq, s_sSet, s_eBin, s_eComp, s_eLst, s_aCons, s_aNil, s_eC, bind_ok, s_gN, List.set_cons_succ, List.set_cons_zero, hi, List.getElem?_cons_succ, List.getElem?_cons_zero, hc, s_newF, List.length_cons, List.length_nil, ha, hx0, sBind_ok]
      simp [ha, hx0, ixO_R, hr, -List.map_append])
  exact ⟨a, b, e2⟩
theorem one_spots {p : Int} {ps : Pairs} {S : Store} (hl : ps.length ≤ 2000) : sSet 3 (eBin (oAdd false) (eComp false (iSeq (eVar 2)) (.tp [(.nm 6), (.nm 7)]) tYesM (eVar 6) [6, 7]) (eLst false (aCons (eC (.int 0)) (aCons (eC (.int 5)) (aCons (eUn oNeg (eC (.int 5))) (aCons (eBin oSub (eBin oPow (eC (.int 10)) (eC (.int 30))) (eC (.int 1))) (aCons (eUn oNeg (eBin oPow (eC (.int 10)) (eC (.int 30)))) aNil))))))) (oneE p ps) S = .next (oneF p ps none none) S := by
  have hi0 : iSeq (eVar 2) (oneE p ps) S = .ok (ps.map pairD, []) S := s_iSeqT rfl
  have c1 : cLoop (.tp [(.nm 6), (.nm 7)]) tYesM (eVar 6) [6, 7] [] S (oneE p ps) (ps.map pairD) [] S = .ok ((ps.map (·.1)).map D.int) S := by
    rw [comp_all pairD (fun q => D.int q.1) ps fun q _ => ⟨_, rfl, rfl⟩, List.map_map]
    rfl
  have pw : oPow (.int 10) (.int 30) S = .ok (.int 1000000000000000000000000000000) S := s_pow (by decide) (by decide) (by decide)
  have ad1 : oAdd false (.lst ((ps.map (·.1)).map D.int)) (.lst [.int 0, .int 5, .int (-5), .int 999999999999999999999999999999, .int (-1000000000000000000000000000000)]) S = .ok (.lst ((spotsI ps).map D.int)) S := s_addLI (xs := ps.map (·.1)) (ys := [0, 5, -5, 999999999999999999999999999999, -1000000000000000000000000000000]) (by
    rw [List.length_map]
    show _ + 5 ≤ 100000
    omega)
  have sb : (1000000000000000000000000000000 : Int) - 1 = 999999999999999999999999999999 := by omega
  simp only [s_sSet, s_eBin, s_eComp, hi0, bind_ok, c1, s_newF, s_eLst, s_aCons, s_aNil, s_eC, s_eUn, s_neg, pw, s_sub, sb, List.length_cons, List.length_nil]
  rw [if_pos (by decide), bind_ok, ad1]
  rfl
theorem one_walk {p : Int} {ps : Pairs} {S : Store} (hl : ps.length ≤ 2000) : iSeq (eBin (oAdd false) (eBin (oAdd false) (eVar 3) (eComp false (iSeq (eVar 3)) (.nm 4) tYesM (eBin (oAdd false) (eVar 4) (eC (.int 1))) [4])) (eComp false (iSeq (eSl false (eVar 3) oNone (oSome (eApp (f1 bLen) (aCons (eVar 2) aNil))))) (.nm 4) tYesM (eBin oSub (eVar 4) (eC (.int 1))) [4])) (oneF p ps none none) S = .ok ((walkI ps).map D.int, []) S := by
  have hxs := spots_len ps
  have i1 : iSeq (eVar 3) (oneF p ps none none) S = .ok ((spotsI ps).map D.int, []) S := s_iSeqL rfl
  have c2 : cLoop (.nm 4) tYesM (eBin (oAdd false) (eVar 4) (eC (.int 1))) [4] [] S (oneF p ps none none) ((spotsI ps).map D.int) [] S = .ok (((spotsI ps).map (· + 1)).map D.int) S := cl_ints (spotsI ps) fun x ρ' e => by subst e; rfl
  have c3 : cLoop (.nm 4) tYesM (eBin oSub (eVar 4) (eC (.int 1))) [4] [] S (oneF p ps none none) (((spotsI ps).take ps.length).map D.int) [] S = .ok ((((spotsI ps).take ps.length).map (· - 1)).map D.int) S := cl_ints _ fun x ρ' e => by subst e; rfl
  have sl : iSeq (eSl false (eVar 3) oNone (oSome (eApp (f1 bLen) (aCons (eVar 2) aNil)))) (oneF p ps none none) S = .ok (((spotsI ps).take ps.length).map D.int, []) S := by
    refine s_iSeqL ?_
    unfold eSl oNone oSome
    show slD false (.lst ((spotsI ps).map D.int)) none (some ((ps.map pairD).length : Int)) S = _
    rw [List.length_map]
    show newL false (cutD ((spotsI ps).map D.int) none (some (ps.length : Int))) S = _
    rw [cut_first (by rw [List.length_map]; omega), ← List.map_take]
    rfl
  have ad2 : oAdd false (.lst ((spotsI ps).map D.int)) (.lst (((spotsI ps).map (· + 1)).map D.int)) S = .ok (.lst ((spotsI ps ++ (spotsI ps).map (· + 1)).map D.int)) S := s_addLI (by
    rw [List.length_map]
    omega)
  have ad3 : oAdd false (.lst ((spotsI ps ++ (spotsI ps).map (· + 1)).map D.int)) (.lst ((((spotsI ps).take ps.length).map (· - 1)).map D.int)) S = .ok (.lst ((walkI ps).map D.int)) S := s_addLI (by
    rw [List.length_append, List.length_map, List.length_map, List.length_take]
    omega)
  refine s_iSeqL ?_
  have v3 : eVar 3 (oneF p ps none none) S = .ok (.lst ((spotsI ps).map D.int)) S := rfl
  simp only [s_eBin, s_eComp, v3, i1, sl, bind_ok, c2, c3, s_newF, ad2, ad3]
theorem one_h1 {p B : Int} {ps : Pairs} {S : Store} (ht : TabOk tab) (hp : IsP p) (h : Good p ps) (hF : Far B ps) (hB : B < 10 ^ 99) (hl : ps.length ≤ 2000) : sIf (tOrM (tNotM (tVal (eApp (bIsi tab.own noTy) (aCons (eVar 0) (aCons (eC (.gl "Rule")) aNil))))) (tVal (eBin neE (eApp (f1 bRepr) (aCons (eLst false (aCons (eProp "Rule" (noX (m_Rule_prime tab)) (eVar 0)) (aCons (eProp "Rule" (noX (m_Rule_rule tab)) (eVar 0)) aNil))) aNil)) (eApp (f1 bRepr) (aCons (eLst false (aCons (eVar 1) (aCons (eVar 2) aNil))) aNil))))) (sRet (eC (.bl false))) sNext (oneE p ps) S = .next (oneE p ps) S := by
  have r1 := repr_rule (S := S) hp h hF (by omega) hl
  have g0 : bIsi tab.own noTy [R p ps, .gl "Rule"] S = .ok (.bl true) S := isi_gl (ht p ps S)
  have g1 : eProp "Rule" (noX (m_Rule_prime tab)) (eVar 0) (oneE p ps) S = .ok (.int p) S := eProp_prime rfl
  have g2 : eProp "Rule" (noX (m_Rule_rule tab)) (eVar 0) (oneE p ps) S = .ok (.tup (ps.map pairD)) S := eProp_rule rfl
  have v0 : eVar 0 (oneE p ps) S = .ok (R p ps) S := rfl
  have v1 : eVar 1 (oneE p ps) S = .ok (.int p) S := rfl
  have v2 : eVar 2 (oneE p ps) S = .ok (.tup (ps.map pairD)) S := rfl
  simp [v0, v1, v2, g0, g1, g2, r1, -s_eVar]
theorem app_v0 {g : D → Store → Res D} {ρ : DEnv} {S : Store} {a : D} (h : ρ[0]? = some (some a)) : eApp (f1 g) (aCons (eVar 0) aNil) ρ S = g a S := by
  simp [h]
theorem app_lst2 {g : D → Store → Res D} {A B : EM} {ρ : DEnv} {S : Store} {a b : D} (hA : A ρ S = .ok a S) (hB : B ρ S = .ok b S) : eApp (f1 g) (aCons (eLst false (aCons A (aCons B aNil))) aNil) ρ S = g (.lst [a, b]) S := by
  simp [hA, hB]
theorem sif_ne {X Y : EM} {ρ : DEnv} {S : Store} {x : Str} {c : SM} (hX : X ρ S = .ok (.str x) S) (hY : Y ρ S = .ok (.str x) S) : sIf (tVal (eBin neE X Y)) c sNext ρ S = .next ρ S := by
  simp [hX, hY]
theorem one_h2 {p : Int} {ps : Pairs} {S : Store} (hl : ps.length ≤ 2000) : sIf (tVal (eBin neE (eApp (f1 bRepr) (aCons (eLst false (aCons (eApp (f1 (bLenO "Rule" (m_RuleX_lenX tab))) (aCons (eVar 0) aNil)) (aCons (eApp (f1 (bBoolO "Rule" (m_RuleX_boolX tab))) (aCons (eVar 0) aNil)) aNil))) aNil)) (eApp (f1 bRepr) (aCons (eLst false (aCons (eApp (f1 bLen) (aCons (eVar 2) aNil)) (aCons (eBin neE (eVar 2) (eTup aNil)) aNil))) aNil)))) (sRet (eC (.bl false))) sNext (oneE p ps) S = .next (oneE p ps) S := by
  have r2 : bRepr (.lst [.int ps.length, .bl (!decide (ps = []))]) S = _ := repr_two (by omega) (by omega)
  have n1 : neD (.tup (ps.map pairD)) (.tup []) S = _ := neD_pairs0 ps
  have g3 : bLenO "Rule" (m_RuleX_lenX tab) (R p ps) S = .ok (.int ps.length) S := bLenO_R (by omega)
  have g4 : bBoolO "Rule" (m_RuleX_boolX tab) (R p ps) S = .ok (.bl (!decide (ps = []))) S := bBoolO_R
  refine sif_ne ((app_lst2 (a := .int ps.length) (b := .bl (!decide (ps = []))) ?_ ?_).trans r2) ((app_lst2 (a := .int ps.length) (b := .bl (!decide (ps = []))) ?_ ?_).trans r2)
  · rw [app_v0 (a := R p ps) rfl, g3]
  · rw [app_v0 (a := R p ps) rfl, g4]
  · show Res.ok (D.int ((ps.map pairD).length : Int)) S = _
    rw [List.length_map]
  · show neD (.tup (ps.map pairD)) (.tup []) S = _
    exact n1
theorem p_is_one {p B : Int} {ps : Pairs} {S : Store} (ht : TabOk tab) (hp : IsP p) (h : Good p ps) (hF : Far B ps) (hB : B < 10 ^ 99) (hl : ps.length ≤ 2000) :
    m__law_is_one tab [R p ps, .int p, .tup (ps.map pairD)] S = .ok (.bl true) S := by
  obtain ⟨a, b, e⟩ := one_loop (tab := tab) (S := S) hp h hl (walkI ps)
  refine mFn_ret (ρ := oneE p ps) rfl rfl ?_
  unfold b__law_is_one
  rw [seq_next (one_h1 ht hp h hF hB hl), seq_next (one_h2 hl), seq_next (one_spots hl)]
  refine (seq_next (ρ' := oneF p ps a b) (S' := S) ?_).trans rfl
  rw [s_sFor, one_walk hl, sBind_ok]
  exact e
end E
end

section
set_option Elab.async false
set_option linter.all false
set_option maxRecDepth 100000
set_option exponentiation.threshold 2000
set_option maxHeartbeats 4000000
namespace E
open PySem PySem.Spec L2 L3
variable {tab : IsTab}
theorem p_pairs_moved (ps : Pairs) (s : Int) (S : Store) : m_pairs_moved tab [.tup (ps.map pairD), .int s] S = .ok (.tup ((mvP ps s).map pairD)) S := by
  unfold m_pairs_moved mFn b_pairs_moved
  have hi : ∀ ρ : DEnv, ρ[0]? = some (some (.tup (ps.map pairD))) → iSeq (eVar 0) ρ S = .ok (ps.map pairD, []) S := fun ρ h => s_iSeqT (by rw [s_eVar, h])
  have hc := fun ρ h hx hy => p_moved (ρ := ρ) (S := S) (S0 := S) (i := 0) (j := 0) (s := s) (ps := ps) (x := 2) (y := 3) (mo := eVar 1) h hx hy (by decide)
  simp [hi]
  rw [hc _ (fun ρ' h => by rw [s_eVar, h 1 (by decide) (by decide)]; rfl) (by simp) (by simp)]
  simp [s_finT]
theorem p_lshift {p s : Int} {ps : Pairs} {S : Store} (hp : IsP p) (h : Good p ps) : m_RuleX_lshiftX tab [R p ps, .int s] S = .ok (R p (mvP ps s)) S := by
  unfold m_RuleX_lshiftX mFn b_RuleX_lshiftX
  have h1 : eFld ["Rule"] "base" (eVar 0) [some (R p ps), some (.int s)] S = .ok (.int p) S := fld_base rfl
  have h2 : eFld ["Rule"] "pairs" (eVar 0) [some (R p ps), some (.int s)] S = .ok (.tup (ps.map pairD)) S := fld_pairs rfl
  simp [p_need_step, h1, h2, p_pairs_moved, p_Rule hp (good_mv h), s_finT]
/-! ### polynomials -/
def enumP (cs : List Int) : Pairs := (List.range cs.length).map fun (i : Nat) => ((i : Int), cs[i]?.getD 0)
theorem enum_pairs (cs : List Int) : enumL 0 (cs.map D.int) = (enumP cs).map pairD := by
  apply List.ext_getElem
  · rw [enumL_length, List.length_map, List.length_map]
    unfold enumP
    rw [List.length_map, List.length_range]
  · intro i h1 h2
    obtain ⟨a, e, ha⟩ := enumL_get (List.getElem?_eq_getElem h1)
    rw [e, List.getElem_map]
    unfold enumP
    rw [List.getElem_map, List.getElem_range]
    rw [List.getElem?_map] at ha
    obtain ⟨c, hc, rfl⟩ := Option.map_eq_some_iff.mp ha
    rw [hc]
    show D.tup [.int ((0 + i : Nat) : Int), .int c] = D.tup [.int (i : Int), .int c]
    rw [Nat.zero_add]
def polyP (cs : List Int) : Pairs := (enumP cs).filter fun q => !decide (q.2 = 0)
/-- a polynomial that fits -/
structure Poly (p : Int) (cs : List Int) : Prop where
  rng : ∀ c ∈ cs, 0 ≤ c ∧ c < p
  head : ∃ c t, cs = c :: t ∧ c ≠ 0
  last : ∃ t, cs = t ++ [1]
  len : cs.length ≤ 1000
theorem poly_good {p : Int} {cs : List Int} (h : ∀ c ∈ cs, 0 ≤ c ∧ c < p) : Good p (polyP cs) := by
  unfold polyP enumP
  refine ⟨List.Pairwise.filter _ (List.pairwise_map.mpr (List.pairwise_lt_range.imp fun {a b} hab => ?_)), fun q hq => ?_⟩
  · show (a : Int) < (b : Int)
    omega
  · obtain ⟨h1, h2⟩ := List.mem_filter.mp hq
    obtain ⟨i, hi, rfl⟩ := List.mem_map.mp h1
    rw [List.mem_range] at hi
    have hc := h cs[i] (List.getElem_mem hi)
    rw [List.getElem?_eq_getElem hi] at h2 ⊢
    simp at h2
    show 1 ≤ cs[i] ∧ cs[i] < p
    omega
theorem poly_far (cs : List Int) : Far cs.length (polyP cs) := fun q hq => by
  obtain ⟨i, hi, rfl⟩ := List.mem_map.mp (List.mem_filter.mp hq).1
  rw [List.mem_range] at hi
  show -(cs.length : Int) ≤ (i : Int) ∧ (i : Int) ≤ cs.length
  omega
theorem poly_len (cs : List Int) : (polyP cs).length ≤ cs.length := by
  have := List.length_filter_le (fun q : Int × Int => !decide (q.2 = 0)) (enumP cs)
  unfold polyP
  have e : (enumP cs).length = cs.length := by
    unfold enumP
    rw [List.length_map, List.length_range]
  omega
theorem p_rule_of (cs : List Int) (S : Store) : m_rule_of tab [.tup (cs.map D.int)] S = .ok (.tup ((polyP cs).map pairD)) S := by
  unfold m_rule_of mFn b_rule_of
  have hi : ∀ ρ : DEnv, ρ[0]? = some (some (.tup (cs.map D.int))) → iEnum1 (aCons (eVar 0) aNil) ρ S = .ok ((enumP cs).map pairD, []) S := fun ρ h => by
    unfold iEnum1
    simp [h, tupOf, enum_pairs]
  have hc : cLoop (.tp [(.nm 1), (.nm 2)]) (tVal (eBin neE (eVar 2) (eC (.int 0)))) (eTup (aCons (eVar 1) (aCons (eVar 2) aNil))) [1, 2] [] S [some (.tup (cs.map D.int)), none, none] ((enumP cs).map pairD) [] S = .ok ((polyP cs).map pairD) S := by
    rw [comp_on pairD (fun q => !decide (q.2 = 0)) pairD (sameAt_refl _)]
    · rfl
    · intro q _
      exact ⟨_, rfl, by simp, fun _ => by simp [pairD]⟩
  simp [hi, hc, s_finT]
theorem s_mapAll {me : EM} {ρ : DEnv} {S S0 : Store} {i : Nat} {cs : List Int} {P : Int → Bool} (h : ∀ c ∈ cs, me ((ρ.set i none).set i (some (.int c))) S = .ok (.bl (P c)) S) : cLoop (.nm i) tYesM me [i] [] S0 ρ (cs.map D.int) [] S = .ok ((cs.map P).map D.bl) S := by
  rw [comp_all D.int (fun c => D.bl (P c)) cs fun c hc => ⟨_, rfl, h c hc⟩, List.map_map]
  rfl
theorem p_fits_polynomial {p : Int} {cs : List Int} (h : Poly p cs) (S : Store) : m_fits_polynomial tab [.int p, .tup (cs.map D.int)] S = .ok (.bl true) S := by
  unfold m_fits_polynomial mFn b_fits_polynomial
  have hi : ∀ ρ : DEnv, ρ[1]? = some (some (.tup (cs.map D.int))) → iSeq (eVar 1) ρ S = .ok (cs.map D.int, []) S := fun ρ h => s_iSeqT (by rw [s_eVar, h])
  have hc : cLoop (.nm 2) tYesM (eApp (m_is_whole tab) (aCons (eVar 2) (aCons (eC (.int 0)) (aCons (eBin oSub (eVar 0) (eC (.int 1))) aNil)))) [2] [] S [some (.int p), some (.tup (cs.map D.int)), none] (cs.map D.int) [] S = .ok ((cs.map fun c => true).map D.bl) S := by
    refine s_mapAll (P := fun _ => true) fun c hc => ?_
    have := h.rng c hc
    simp [p_is_whole, decide_eq_true this.1, decide_eq_true (show c ≤ p - 1 by omega)]
  have ha : bAll (.lst ((cs.map fun c => true).map D.bl)) S = .ok (.bl true) S := by
    rw [s_all]
    simp
  obtain ⟨c, t, e1, hc0⟩ := h.head
  obtain ⟨u, e2⟩ := h.last
  have i0 : ∀ S', oIx (.tup (cs.map D.int)) (.int 0) S' = .ok (.int c) S' := fun S' => ix_t (atI_nat (by decide) (by rw [e1]; rfl))
  have i1 : ∀ S', oIx (.tup (cs.map D.int)) (.int (-1)) S' = .ok (.int 1) S' := fun S' => ix_t (by
    rw [e2, List.map_append]
    exact atI_last)
  have hn : ¬ cs = [] := by
    rw [e1]
    exact List.cons_ne_nil _ _
  simp [hi, hc, ha, i0, i1, hc0, s_finT, -List.map_map, hn]
theorem p_of_polynomial {p : Int} {cs : List Int} (hp : IsP p) (h : Poly p cs) (S : Store) : m_Rule_of_polynomial tab [.gl "Rule", .int p, .tup (cs.map D.int)] S = .ok (R p (polyP cs)) S := by
  unfold m_Rule_of_polynomial mFn b_Rule_of_polynomial
  have hn : m_need_polynomial tab [.int p, .tup (cs.map D.int)] S = .ok .non S := by
    unfold m_need_polynomial mFn b_need_polynomial
    simp [p_fits_polynomial h, s_finT]
  have hr := p_Rule (tab := tab) hp (poly_good h.rng) S
  simp [p_need_prime hp, hn, p_rule_of, eCallC, hr, s_finT]
end E
end

section
set_option Elab.async false
set_option linter.all false
set_option maxRecDepth 100000
set_option exponentiation.threshold 2000
set_option maxHeartbeats 4000000
namespace E
open PySem PySem.Spec L2 L3
variable {tab : IsTab}
theorem ex_set {i : Nat} {m : EM} {b : SM} {ρ : DEnv} {S S' : Store} {d : D} {P : DEnv → Store → Prop} (h : m ρ S = .ok d S') (k : ∃ ρ' S'', b (ρ.set i (some d)) S' = .next ρ' S'' ∧ P ρ' S'') : ∃ ρ' S'', sSeq (sSet i m) b ρ S = .next ρ' S'' ∧ P ρ' S'' := by
  obtain ⟨ρ', S'', e, h2⟩ := k
  refine ⟨ρ', S'', ?_, h2⟩
  rw [s_sSeq, s_sSet, h]
  exact e
theorem ex_seq {a b : SM} {ρ ρ1 : DEnv} {S S' : Store} {P : DEnv → Store → Prop} (h : a ρ S = .next ρ1 S') (k : ∃ ρ' S'', b ρ1 S' = .next ρ' S'' ∧ P ρ' S'') : ∃ ρ' S'', sSeq a b ρ S = .next ρ' S'' ∧ P ρ' S'' := by
  obtain ⟨ρ', S'', e, h2⟩ := k
  refine ⟨ρ', S'', ?_, h2⟩
  rw [s_sSeq, h]
  exact e
theorem good_nil (p : Int) : Good p [] := ⟨.nil, fun _ h => nomatch h⟩
theorem far_nil (B : Int) : Far B [] := fun _ h => nomatch h
theorem good_at {p : Int} : ∀ {ps : Pairs}, Good p ps → ∀ q ∈ ps, coef ps q.1 = q.2
  | q :: ps, h, r, hr => by
    rcases List.mem_cons.mp hr with e | hr
    · subst e
      exact good_head h
    · show (if q.1 = r.1 then q.2 else 0) + coef ps r.1 = r.2
      have := List.rel_of_pairwise_cons h.1 hr
      rw [if_neg (by omega), good_at h.tail r hr]
      omega
theorem zip_ones (f g : Pairs → D) : ∀ Qs : List Pairs, zipL (Qs.map f) (Qs.map g) = Qs.map fun q => .tup [f q, g q]
  | [] => rfl
  | q :: Qs => by
    show D.tup [f q, g q] :: zipL (Qs.map f) (Qs.map g) = _
    rw [zip_ones f g Qs]
    rfl
theorem poly_comp {cs : List Int} {S S0 : Store} {ρ : DEnv} {i j : Nat} (hj : ρ[j]? = some (some (.tup (cs.map D.int)))) (hi : i < ρ.length) (hij : i ≠ j) :
    cLoop (.nm i) (tVal (eBin neE (eBin oIx (eVar j) (eVar i)) (eC (.int 0)))) (eTup (aCons (eVar i) (aCons (eBin oIx (eVar j) (eVar i)) aNil))) [i] [] S0 ρ (rangeL 0 cs.length) [] S = .ok ((polyP cs).map pairD) S := by
  rw [rangeL_map, comp_on (fun (k : Nat) => D.int (0 + (k : Int))) (fun k => !decide (cs[k]?.getD 0 = 0)) (fun k => pairD ((k : Int), cs[k]?.getD 0)) (by rw [sameAt_nil]; trivial)]
  · unfold polyP enumP
    rw [List.filter_map, List.map_map]
    rfl
  · intro k hk
    rw [List.mem_range] at hk
    have h1 : ((ρ.set i none).set i (some (.int (0 + (k : Int)))))[i]? = some (some (.int (0 + (k : Int)))) := List.getElem?_set_self (by simp; exact hi)
    have h2 : ((ρ.set i none).set i (some (.int (0 + (k : Int)))))[j]? = some (some (.tup (cs.map D.int))) := by
      rw [List.getElem?_set_ne hij, List.getElem?_set_ne hij, hj]
    have h3 : ∀ S', oIx (.tup (cs.map D.int)) (.int (0 + (k : Int))) S' = .ok (.int (cs[k]?.getD 0)) S' := fun S' => ix_t (atI_nat (by omega) (by
      rw [List.getElem?_map, show (0 + (k : Int)).toNat = k by omega, List.getElem?_eq_getElem hk]
      rfl))
    refine ⟨_, rfl, ?_, fun _ => ?_⟩
    · simp only [s_tVal, s_eBin, s_eVar, wipe_cons, wipe_nil, h1, h2, bind_ok, h3, s_eC, neE_i, neD_ii]
    · simp only [s_eTup, s_aCons, s_aNil, s_eBin, s_eVar, wipe_cons, wipe_nil, h1, h2, bind_ok, h3, List.length_cons, List.length_nil]
      rw [if_pos (by decide), Int.zero_add]
theorem colours_drawn {l n m : Nat} {p : Int} {S S0 : Store} {ρ : DEnv} {i x y : Nat} (hB : Bag S l n) (hn : n + m ≤ 100000) (hp : IsP p) (hx : ρ[x]? = some (some (.ref l))) (hy : ρ[y]? = some (some (.int p))) (hxi : i ≠ x) (hyi : i ≠ y) :
    ∃ (cs : List Int) (S' : Store), cLoop (.nm i) tYesM (eApp (m__law_draw tab) (aCons (eVar x) (aCons (eVar y) aNil))) [i] [] S0 ρ (rangeL 0 m) [] S = .ok (cs.map D.int) S' ∧ cs.length = m ∧ (∀ c ∈ cs, 0 ≤ c ∧ c < p) ∧ Bag S' l (n + m) ∧ Only1 l S S' := by
  have hpp := hp.pos
  obtain ⟨ys, S2, e2, cs, rfl, h1, h2, h3, h4⟩ := comp_inv (S0 := S0) (ρ := ρ) (tg := .nm i) (vs := [i]) (t := tYesM) (me := eApp (m__law_draw tab) (aCons (eVar x) (aCons (eVar y) aNil)))
    (fun j acc S' => ∃ cs : List Int, acc = cs.map D.int ∧ cs.length = j ∧ (∀ c ∈ cs, 0 ≤ c ∧ c < p) ∧ Bag S' l (n + j) ∧ Only1 l S S')
    (rangeL 0 m) 0 [] S ⟨[], rfl, rfl, fun _ h => (nomatch h), hB, .refl hB.lt⟩ (by
      rintro j d acc S1 hd ⟨cs, rfl, h1, h2, h3, h4⟩
      have hjm : j < m := by
        have := (List.getElem?_eq_some_iff.mp hd).1
        rw [rangeL_map, List.length_map, List.length_range] at this
        exact this
      rw [Nat.zero_add] at *
      obtain ⟨v, S2, e, v0, v1, hB2, hO2⟩ := p_draw' (tab := tab) h3 (by omega) (k := p) (by omega) (by omega)
      refine ⟨(ρ.set i none).set i (some d), true, S1, rfl, rfl, fun h => (nomatch h), fun _ => ⟨.int v, S2, ?_, cs ++ [v], by rw [List.map_append]; rfl, by rw [List.length_append, h1]; rfl, ?_, hB2, h4.trans hO2⟩⟩
      · have g1 : ((ρ.set i none).set i (some d))[x]? = some (some (.ref l)) := by
          rw [List.getElem?_set_ne hxi, List.getElem?_set_ne hxi, hx]
        have g2 : ((ρ.set i none).set i (some d))[y]? = some (some (.int p)) := by
          rw [List.getElem?_set_ne hyi, List.getElem?_set_ne hyi, hy]
        simp only [s_eApp, s_aCons, s_aNil, s_eVar, g1, g2, bind_ok, e]
      · intro c hc
        rcases List.mem_append.mp hc with hc | hc
        · exact h2 c hc
        · rw [List.mem_singleton] at hc
          subst hc
          exact ⟨v0, v1⟩)
  have el : (rangeL 0 m).length = m := by rw [rangeL_map, List.length_map, List.length_range]
  rw [el, Nat.zero_add] at h1 h3
  exact ⟨cs, S2, e2, h1, h2, h3, h4⟩
/-- all of the pairs (rule, owed) are right: the last loop -/
theorem ones_loop {p : Int} {S : Store} (ht : TabOk tab) (hp : IsP p) {i j k : Nat} (hij : i ≠ j) (hki : k ≠ i) (hkj : k ≠ j) (Qs : List Pairs) (ρ : DEnv) (hi : i < ρ.length) (hj : j < ρ.length) (hk : ρ[k]? = some (some (.int p))) (hQ : ∀ q ∈ Qs, Good p q ∧ Far (10 ^ 98) q ∧ q.length ≤ 2000) :
    ∃ ρ', sFor1 (gT [(gN i), (gN j)]) (sIf (tNotM (tVal (eApp (m__law_is_one tab) (aCons (eVar i) (aCons (eVar k) (aCons (eVar j) aNil)))))) (sRet (eC (.bl false))) sNext) [] S (Qs.map fun q => D.tup [R p q, .tup (q.map pairD)]) ρ S = .next ρ' S ∧ ρ'.length = ρ.length ∧ ∀ x, x ≠ i → x ≠ j → ρ'[x]? = ρ[x]? := by
  obtain ⟨ρ', S', e, h1, h2, h3⟩ := for_inv (S0 := S) (g := gT [(gN i), (gN j)]) (b := sIf (tNotM (tVal (eApp (m__law_is_one tab) (aCons (eVar i) (aCons (eVar k) (aCons (eVar j) aNil)))))) (sRet (eC (.bl false))) sNext)
    (fun _ ρ' S' => S = S' ∧ ρ'.length = ρ.length ∧ ∀ x, x ≠ i → x ≠ j → ρ'[x]? = ρ[x]?)
    (Qs.map fun q => D.tup [R p q, .tup (q.map pairD)]) 0 ρ S ⟨rfl, rfl, fun _ _ _ => rfl⟩ (by
      rintro n d ρ1 S1 hd ⟨hS, h2, h3⟩
      subst hS
      rw [List.getElem?_map] at hd
      obtain ⟨q, hq, rfl⟩ := Option.map_eq_some_iff.mp hd
      obtain ⟨g1, g2, g3⟩ := hQ q (List.mem_of_getElem? hq)
      have o := p_is_one (tab := tab) (S := S) ht hp g1 g2 (by omega) g3
      refine ⟨(ρ1.set i (some (R p q))).set j (some (.tup (q.map pairD))), S, (ρ1.set i (some (R p q))).set j (some (.tup (q.map pairD))), S, rfl, .inl ?_, rfl, by simp [h2], fun x h4 h5 => by rw [List.getElem?_set_ne (Ne.symm h5), List.getElem?_set_ne (Ne.symm h4), h3 x h4 h5]⟩
      have v1 : ((ρ1.set i (some (R p q))).set j (some (.tup (q.map pairD))))[i]? = some (some (R p q)) := by
        rw [List.getElem?_set_ne (Ne.symm hij), List.getElem?_set_self (by omega)]
      have v2 : ((ρ1.set i (some (R p q))).set j (some (.tup (q.map pairD))))[j]? = some (some (.tup (q.map pairD))) := List.getElem?_set_self (by simp; omega)
      have v3 : ((ρ1.set i (some (R p q))).set j (some (.tup (q.map pairD))))[k]? = some (some (.int p)) := by
        rw [List.getElem?_set_ne (Ne.symm hkj), List.getElem?_set_ne (Ne.symm hki), h3 k hki hkj, hk]
      simp only [s_sIf, s_tNot, s_tVal, s_eApp, s_aCons, s_aNil, s_eVar, v1, v2, v3, bind_ok, o, sBind_ok, s_sNext]
      rfl)
  subst h1
  exact ⟨ρ', e, h2, h3⟩
end E
end

section
set_option Elab.async false
set_option linter.all false
set_option maxRecDepth 100000
set_option exponentiation.threshold 2000
set_option maxHeartbeats 4000000
namespace E
open PySem PySem.Spec L2 L3
variable {tab : IsTab}
noncomputable def b45_body (tab : IsTab) : SM :=
  (sSeq (sSet 2 (eApp (m__law_bag tab) (aCons (eVar 1) aNil))) (sSeq (sSet 3 (eApp (m__law_base tab) (aCons (eVar 2) aNil))) (sSeq (sSet 4 (eApp (m__law_spread tab) (aCons (eVar 2) (aCons (eVar 3) aNil)))) (sSeq (sSet 5 (eLst false (aCons (eApp (mMake false "Rule" (m_RuleX_initX tab)) (aCons (eVar 3) (aCons (eVar 4) aNil))) (aCons (eAppK (fun ds S => mMake false "Rule" (m_RuleX_initX tab) (pick [1, 0] ds ++ []) S) 0 2 aNil (aCons (eVar 4) (aCons (eVar 3) aNil))) (aCons (eApp (mMake false "Rule" (m_RuleX_initX tab)) (aCons (eVar 3) (aCons (eTup aNil) aNil))) aNil))))) (sSeq (sSet 6 (eBin oIx (eLst false (aCons (eC (.int 0)) (aCons (eBin oSub (eApp (m__law_draw tab) (aCons (eVar 2) (aCons (eC (.int 99)) aNil))) (eC (.int 49))) (aCons (eBin oSub (eBin oPow (eC (.int 10)) (eC (.int 29))) (eApp (m__law_draw tab) (aCons (eVar 2) (aCons (eBin (oMul false) (eC (.int 2)) (eBin oPow (eC (.int 10)) (eC (.int 29)))) aNil)))) aNil)))) (eApp (m__law_draw tab) (aCons (eVar 2) (aCons (eC (.int 3)) aNil))))) (sSeq (sSet 7 (eApp (m__law_pairs tab) (aCons (eVar 2) (aCons (eVar 3) (aCons (eC (.int 30)) aNil))))) (sSeq (sIf (tNotM (tVal (eApp (m__law_is_one tab) (aCons (eApp (mMake false "Rule" (m_RuleX_initX tab)) (aCons (eVar 3) (aCons (eVar 7) aNil))) (aCons (eVar 3) (aCons (eVar 7) aNil)))))) (sRet (eC (.bl false))) sNext) (sSeq (sSet 8 (eApp (f1 bTuple) (aCons (eComp false (iSeq (eVar 4)) (.tp [(.nm 14), (.nm 15)]) tYesM (eTup (aCons (eBin (oAdd false) (eVar 14) (eVar 6)) (aCons (eVar 15) aNil))) [14, 15]) aNil))) (sSeq (sSet 9 (eBin (oAdd false) (eLst false (aCons (eBin (oAdd false) (eC (.int 1)) (eApp (m__law_draw tab) (aCons (eVar 2) (aCons (eBin oSub (eVar 3) (eC (.int 1))) aNil)))) aNil)) (eComp false (iRange1 (aCons (eApp (m__law_draw tab) (aCons (eVar 2) (aCons (eC (.int 8)) aNil))) aNil)) (.nm 16) tYesM (eApp (m__law_draw tab) (aCons (eVar 2) (aCons (eVar 3) aNil))) [16]))) (sSeq (sSet 10 (eIf (tVal (eBin oGt (eApp (m__law_draw tab) (aCons (eVar 2) (aCons (eC (.int 8)) aNil))) (eC (.int 0)))) (eBin (oAdd false) (eApp (f1 bTuple) (aCons (eVar 9) aNil)) (eTup (aCons (eC (.int 1)) aNil))) (eTup (aCons (eC (.int 1)) aNil)))) (sSeq (sSet 11 (eApp (f1 bTuple) (aCons (eComp false (iRange1 (aCons (eApp (f1 bLen) (aCons (eVar 10) aNil)) aNil)) (.nm 16) (tVal (eBin neE (eBin oIx (eVar 10) (eVar 16)) (eC (.int 0)))) (eTup (aCons (eVar 16) (aCons (eBin oIx (eVar 10) (eVar 16)) aNil))) [16]) aNil))) (sSeq (sSet 5 (eBin (oAdd false) (eVar 5) (eLst false (aCons (eBin (oInt "Rule" (m_RuleX_lshiftX tab)) (eBin oIx (eVar 5) (eC (.int 0))) (eVar 6)) (aCons (eCm "Rule" (m_Rule_of_polynomial tab) (eC (.gl "Rule")) (aCons (eVar 3) (aCons (eVar 10) aNil))) aNil))))) (sSeq (sSet 5 (eBin (oAdd false) (eVar 5) (eLst false (aCons (eCmK "Rule" (fun ds S => (m_Rule_of_polynomial tab) (pick [0, 2, 1] ds ++ []) S) 0 2 (eC (.gl "Rule")) aNil (aCons (eVar 10) (aCons (eVar 3) aNil))) aNil)))) (sSeq (sFor (iZip (aCons (eVar 5) (aCons (eLst false (aCons (eVar 4) (aCons (eVar 4) (aCons (eTup aNil) (aCons (eVar 8) (aCons (eVar 11) (aCons (eVar 11) aNil))))))) aNil))) (gT [(gN 12), (gN 13)]) (sIf (tNotM (tVal (eApp (m__law_is_one tab) (aCons (eVar 12) (aCons (eVar 3) (aCons (eVar 13) aNil)))))) (sRet (eC (.bl false))) sNext)) (sIf (tVal (eBin neE (eComp false (iSeq (eProp "Rule" (noX (m_Rule_rule tab)) (eBin oIx (eVar 5) (eC (.int 0))))) (.nm 17) (tVal (eBin neE (eBin (oIxO "Rule" (m_RuleX_getitemX tab)) (eBin oIx (eVar 5) (eC (.int 0))) (eBin oIx (eVar 17) (eC (.int 0)))) (eBin oIx (eVar 17) (eC (.int 1))))) (eVar 17) [17]) (eLst false aNil))) (sRet (eC (.bl false))) sNext)))))))))))))))
noncomputable def b45_law (tab : IsTab) : SM :=
  (sSeq (sFor (iSeq (eBin (oAdd false) (eLst false (aCons (eC (.int 0)) aNil)) (eSl false (eVar 0) oNone (oSome (eC (.int 12)))))) (gN 1) (b45_body tab)) (sRet (eC (.bl true))))

theorem body45 {c : Int} {S : Store} {f a2 a3 a4 a5 a6 a7 a8 a9 a10 a11 a12 a13 a14 a15 a16 a17 : Option D} (ht : TabOk tab) :
    ∃ ρ' S', b45_body tab [f, some (.int c), a2, a3, a4, a5, a6, a7, a8, a9, a10, a11, a12, a13, a14, a15, a16, a17] S = .next ρ' S' ∧ ρ'.length = 18 ∧ ρ'[0]? = some f := by
  unfold b45_body
  obtain ⟨S0, hS0⟩ : ∃ S0, S0 = S ++ [.lst [.int (if 1000000000000000000 ≤ c then c - 1000000000000000000 else 0), .int (c % 1000000000000000003), .int 0]] := ⟨_, rfl⟩
  have hB0 : Bag S0 S.length 0 := by
    rw [hS0]
    exact bag_new c S
  have e0 := p_bag (tab := tab) c S
  rw [← hS0] at e0
  generalize S.length = l at e0 hB0
  obtain ⟨p, S1, e1, hp, hB1, _⟩ := p_base (tab := tab) hB0 (by omega)
  obtain ⟨ps, S2, e2, hG, hF, hL, hB2, _⟩ := p_spread (tab := tab) hB1 hp (by omega)
  have hpp := hp.pos
  have pw : ∀ S', oPow (.int 10) (.int 29) S' = .ok (.int 100000000000000000000000000000) S' := fun S' => s_pow (by decide) (by decide) (by decide)
  have mu : ∀ S', oMul false (.int 2) (.int 100000000000000000000000000000) S' = .ok (.int 200000000000000000000000000000) S' := fun S' => s_mulZ (n := 2) (m := 97) (.of 4 (by decide) (by decide) (by decide)) (.of 158456325028528675187087900672 (by decide) (by decide) (by decide)) (by decide) (by decide) (by decide)
  obtain ⟨x, S3, e3, x0, x1, hB3, _⟩ := p_draw' (tab := tab) hB2 (by omega) (k := 99) (by omega) (by decide)
  obtain ⟨y, S4, e4, y0, y1, hB4, _⟩ := p_draw' (tab := tab) hB3 (by omega) (k := 200000000000000000000000000000) (by omega) (by decide)
  obtain ⟨t, S5, e5, t0, t1, hB5, _⟩ := p_draw' (tab := tab) hB4 (by omega) (k := 3) (by omega) (by decide)
  obtain ⟨s, hs, es⟩ := one_of3 (a := 0) (b := x - 49) (c := 100000000000000000000000000000 - y) t0 t1
  obtain ⟨ms, S6, e6, mG, mF, mL, hB6, _⟩ := p_pairs (tab := tab) (far := 30) hB5 hp (by decide) (by omega)
  have e6' : m__law_pairs tab [.ref l, .int p, .int 30] S5 = .ok (.tup (ms.map pairD)) S6 := e6
  obtain ⟨u, S7, e7, u0, u1, hB7, _⟩ := p_draw' (tab := tab) hB6 (by omega) (k := p - 1) (by omega) (by omega)
  obtain ⟨v, S8, e8, v0, v1, hB8, _⟩ := p_draw' (tab := tab) hB7 (by omega) (k := 8) (by omega) (by decide)
  let ρ9 : DEnv := [f, some (.int c), some (.ref l), some (.int p), some (.tup (ps.map pairD)), some (.lst [R p ps, R p ps, R p []]), some (.int s), some (.tup (ms.map pairD)), some (.tup ((mvP ps s).map pairD)), a9, a10, a11, a12, a13, a14, a15, a16, a17]
  obtain ⟨cs, S9, e9, c1, c2, hB9, _⟩ := colours_drawn (tab := tab) (m := v.toNat) (S0 := S8) (ρ := ρ9) (i := 16) (x := 2) (y := 3) hB8 (by omega) hp rfl rfl (by decide) (by decide)
  obtain ⟨z, S10, e10, z0, z1, hB10, _⟩ := p_draw' (tab := tab) hB9 (by omega) (k := 8) (by omega) (by decide)
  obtain ⟨row, hrd⟩ : ∃ row : List Int, row = if 0 < z then ((1 + u) :: cs) ++ [1] else [1] := ⟨_, rfl⟩
  have hrow : Poly p row := by
    rw [hrd]
    by_cases hz : 0 < z
    · rw [if_pos hz]
      refine ⟨fun c hc => ?_, ⟨1 + u, cs ++ [1], rfl, by omega⟩, ⟨(1 + u) :: cs, rfl⟩, by simp; omega⟩
      simp only [List.cons_append, List.mem_cons, List.mem_append, List.not_mem_nil, or_false] at hc
      rcases hc with e | hc | e
      · omega
      · exact c2 c hc
      · omega
    · rw [if_neg hz]
      exact ⟨fun c hc => by rw [List.mem_singleton] at hc; omega, ⟨1, [], rfl, by decide⟩, ⟨[], rfl⟩, by decide⟩
  have hrl : row.length ≤ 10 := by
    rw [hrd]
    split
    · simp; omega
    · decide
  have mk : ∀ {qs : Pairs} {S' : Store}, Good p qs → mMake false "Rule" (m_RuleX_initX tab) [.int p, .tup (qs.map pairD)] S' = .ok (R p qs) S' := fun h => p_Rule hp h _
  have mk0 : ∀ {S' : Store}, mMake false "Rule" (m_RuleX_initX tab) [.int p, .tup []] S' = .ok (R p []) S' := mk (good_nil p)
  have om := p_is_one (tab := tab) (S := S6) ht hp mG mF (by omega) (by omega)
  refine ex_set (d := .ref l) (S' := S0) (by simp [e0]) ?_
  refine ex_set (d := .int p) (S' := S1) (by simp [e1]) ?_
  refine ex_set (d := .tup (ps.map pairD)) (S' := S2) (by simp [e2]) ?_
  refine ex_set (d := .lst [R p ps, R p ps, R p []]) (S' := S2) (by simp [mk hG, mk0, eAppK, pick]) ?_
  refine ex_set (d := .int s) (S' := S5) (by simp [e3, pw, mu, e4, e5, es]) ?_
  refine ex_set (d := .tup (ms.map pairD)) (S' := S6) (by simp [e6']) ?_
  refine ex_seq (ρ1 := [f, some (.int c), some (.ref l), some (.int p), some (.tup (ps.map pairD)), some (.lst [R p ps, R p ps, R p []]), some (.int s), some (.tup (ms.map pairD)), a8, a9, a10, a11, a12, a13, a14, a15, a16, a17]) (S' := S6) (by simp [mk mG, om]) ?_
  refine ex_set (d := .tup ((mvP ps s).map pairD)) (S' := S6) ?_ ?_
  · have hi : ∀ ρ : DEnv, ρ[4]? = some (some (.tup (ps.map pairD))) → iSeq (eVar 4) ρ S6 = .ok (ps.map pairD, []) S6 := fun ρ h => s_iSeqT (by rw [s_eVar, h])
    have hc := fun ρ h hx hy => p_moved (ρ := ρ) (S := S6) (S0 := S6) (i := 0) (j := 0) (s := s) (ps := ps) (x := 14) (y := 15) (mo := eVar 6) h hx hy (by decide)
    simp [hi]
    rw [hc _ (fun ρ' h => by rw [s_eVar, h 6 (by decide) (by decide)]; rfl) (by simp) (by simp)]
    simp
  show ∃ ρ' S'', (_ : SM) ρ9 S6 = .next ρ' S'' ∧ _
  have er : ∀ ρ : DEnv, ρ[2]? = some (some (.ref l)) → iRange1 (aCons (eApp (m__law_draw tab) (aCons (eVar 2) (aCons (eC (.int 8)) aNil))) aNil) ρ S7 = .ok (rangeL 0 v.toNat, []) S8 := fun ρ h => s_iRange1 (by simp [h, e8]) v0 (by omega)
  refine ex_set (d := .lst (((1 + u) :: cs).map D.int)) (S' := S9) ?_ ?_
  · have ad : oAdd false (.lst [.int (1 + u)]) (.lst (cs.map D.int)) S9 = .ok (.lst (((1 + u) :: cs).map D.int)) S9 := s_addLI (xs := [1 + u]) (ys := cs) (by show 1 + cs.length ≤ 100000; omega)
    have v2 : eVar 2 ρ9 = fun S => .ok (.ref l) S := rfl
    have v3 : eVar 3 ρ9 = fun S => .ok (.int p) S := rfl
    simp [-s_eVar, v2, v3, e7, er ρ9 rfl, e9]
    exact ad
  refine ex_set (d := .tup (row.map D.int)) (S' := S10) ?_ ?_
  · by_cases hz : 0 < z
    · have er : row = ((1 + u) :: cs) ++ [1] := hrd.trans (if_pos hz)
      have ad : oAdd false (.tup (((1 + u) :: cs).map D.int)) (.tup [.int 1]) S10 = .ok (.tup (row.map D.int)) S10 := by
        rw [s_addT, er, List.map_append]
        · rfl
        · rw [List.length_map, sizeLine_eq]
          simp
          omega
      rw [List.map_cons] at ad
      simp [ρ9, e10, hz, ad]
    · have er : row = [1] := hrd.trans (if_neg hz)
      simp [ρ9, e10, hz, er]
  refine ex_set (d := .tup ((polyP row).map pairD)) (S' := S10) ?_ ?_
  · have er : ∀ ρ : DEnv, ρ[10]? = some (some (.tup (row.map D.int))) → iRange1 (aCons (eApp (f1 bLen) (aCons (eVar 10) aNil)) aNil) ρ S10 = .ok (rangeL 0 row.length, []) S10 := fun ρ h => by
      rw [s_iRange1 (j := row.length) (S' := S10) (by simp [h]) (by omega) (by omega)]
      rfl
    rw [s_eApp, s_aCons, s_eComp, er _ rfl, bind_ok, poly_comp (j := 10) rfl (by simp [ρ9]) (by decide)]
    rfl
  have hfm : Far (10 ^ 98) (mvP ps s) := (far_mv (C := 10 ^ 29) hF (s := s) (by omega) (by omega)).mono (by decide)
  have hml : (mvP ps s).length ≤ 2000 := by unfold mvP; rw [List.length_map]; omega
  have sh : ∀ S', oInt "Rule" (m_RuleX_lshiftX tab) (R p ps) (.int s) S' = .ok (R p (mvP ps s)) S' := fun S' => by
    unfold oInt
    dsimp only
    rw [onC_R, p_lshift hp hG]
  have pol := fun S' => p_of_polynomial (tab := tab) hp hrow S'
  have x0 : ∀ {a : D} {ds : List D} S', oIx (.lst (a :: ds)) (.int 0) S' = .ok a S' := fun S' => ix_l (atI_nat (by decide) rfl)
  have ad1 : ∀ S', oAdd false (.lst [R p ps, R p ps, R p []]) (.lst [R p (mvP ps s), R p (polyP row)]) S' = .ok (.lst [R p ps, R p ps, R p [], R p (mvP ps s), R p (polyP row)]) S' := fun S' => s_addL (by rw [sizeLine_eq]; simp)
  have ad2 : ∀ S', oAdd false (.lst [R p ps, R p ps, R p [], R p (mvP ps s), R p (polyP row)]) (.lst [R p (polyP row)]) S' = .ok (.lst [R p ps, R p ps, R p [], R p (mvP ps s), R p (polyP row), R p (polyP row)]) S' := fun S' => s_addL (by rw [sizeLine_eq]; simp)
  refine ex_set (d := .lst [R p ps, R p ps, R p [], R p (mvP ps s), R p (polyP row)]) (S' := S10) (by simp [ρ9, x0, sh, eCm, pol, ad1]) ?_
  refine ex_set (d := .lst [R p ps, R p ps, R p [], R p (mvP ps s), R p (polyP row), R p (polyP row)]) (S' := S10) (by simp [ρ9, eCmK, pick, pol, ad2]) ?_
  let ρ12 : DEnv := [f, some (.int c), some (.ref l), some (.int p), some (.tup (ps.map pairD)), some (.lst [R p ps, R p ps, R p [], R p (mvP ps s), R p (polyP row), R p (polyP row)]), some (.int s), some (.tup (ms.map pairD)), some (.tup ((mvP ps s).map pairD)), some (.lst (((1 + u) :: cs).map D.int)), some (.tup (row.map D.int)), some (.tup ((polyP row).map pairD)), a12, a13, a14, a15, a16, a17]
  show ∃ ρ' S'', (_ : SM) ρ12 S10 = .next ρ' S'' ∧ _
  obtain ⟨ρ', e13, h13, h14⟩ := ones_loop (tab := tab) (S := S10) (p := p) ht hp (i := 12) (j := 13) (k := 3) (by decide) (by decide) (by decide) [ps, ps, [], mvP ps s, polyP row, polyP row] ρ12 (by simp [ρ12]) (by simp [ρ12]) rfl (by
    intro q hq
    have g1 := poly_good hrow.rng
    have g2 := (poly_far row).mono (show (row.length : Int) ≤ 10 ^ 98 by omega)
    have g3 := poly_len row
    simp only [List.mem_cons, List.not_mem_nil, or_false] at hq
    rcases hq with e | e | e | e | e | e <;> subst e
    · exact ⟨hG, hF.mono (by decide), by omega⟩
    · exact ⟨hG, hF.mono (by decide), by omega⟩
    · exact ⟨good_nil p, far_nil _, Nat.zero_le _⟩
    · exact ⟨good_mv hG, hfm, hml⟩
    · exact ⟨g1, g2, by omega⟩
    · exact ⟨g1, g2, by omega⟩)
  refine ex_seq (ρ1 := ρ') (S' := S10) ?_ ?_
  · have hz : ∀ ρ : DEnv, ρ = ρ12 → L3.iZip (aCons (eVar 5) (aCons (eLst false (aCons (eVar 4) (aCons (eVar 4) (aCons (eTup aNil) (aCons (eVar 8) (aCons (eVar 11) (aCons (eVar 11) aNil))))))) aNil)) ρ S10 = .ok (([ps, ps, [], mvP ps s, polyP row, polyP row] : List Pairs).map fun q => D.tup [R p q, .tup (q.map pairD)], []) S10 := fun ρ h => by
      subst h
      unfold L3.iZip
      simp [ρ12, tupOf, L3.srcOf, L3.listOf, L3.zipL]
    rw [s_sFor, hz ρ12 rfl, sBind_ok]
    exact e13
  have w5 : ρ'[5]? = some (some (.lst [R p ps, R p ps, R p [], R p (mvP ps s), R p (polyP row), R p (polyP row)])) := h14 5 (by decide) (by decide)
  refine ⟨ρ', S10, ?_, h13, h14 0 (by decide) (by decide)⟩
  have hlen : 17 < ρ'.length := by rw [h13]; simp [ρ12]
  have hi : ∀ ρ : DEnv, ρ[5]? = some (some (.lst [R p ps, R p ps, R p [], R p (mvP ps s), R p (polyP row), R p (polyP row)])) → iSeq (eProp "Rule" (noX (m_Rule_rule tab)) (eBin oIx (eVar 5) (eC (.int 0)))) ρ S10 = .ok (ps.map pairD, []) S10 := fun ρ h => s_iSeqT (eProp_rule (p := p) (by simp [h, x0]))
  have hc : cLoop (.nm 17) (tVal (eBin neE (eBin (oIxO "Rule" (m_RuleX_getitemX tab)) (eBin oIx (eVar 5) (eC (.int 0))) (eBin oIx (eVar 17) (eC (.int 0)))) (eBin oIx (eVar 17) (eC (.int 1))))) (eVar 17) [17] [] S10 ρ' (ps.map pairD) [] S10 = .ok [] S10 := by
    rw [comp_on pairD (fun _ => false) pairD (sameAt_refl _)]
    · simp
    · intro q hq
      refine ⟨_, rfl, ?_, fun h => (nomatch h)⟩
      have g1 : ((ρ'.set 17 none).set 17 (some (pairD q)))[17]? = some (some (pairD q)) := List.getElem?_set_self (by simp; exact hlen)
      have g2 : ((ρ'.set 17 none).set 17 (some (pairD q)))[5]? = some (some (.lst [R p ps, R p ps, R p [], R p (mvP ps s), R p (polyP row), R p (polyP row)])) := by
        rw [List.getElem?_set_ne (by decide), List.getElem?_set_ne (by decide), w5]
      have y0 : oIx (pairD q) (.int 0) S10 = .ok (.int q.1) S10 := ix_t rfl
      have y1 : oIx (pairD q) (.int 1) S10 = .ok (.int q.2) S10 := ix_t rfl
      simp only [s_tVal, s_eBin, s_eVar, wipe_cons, wipe_nil, g1, g2, bind_ok, x0, s_eC, y0, y1, ixO_R, neE_i, neD_ii, good_at hG q hq]
      simp
  have n0 : neD (.lst []) (.lst []) S10 = .ok (.bl false) S10 := (neD_of (p := .list []) (q := .list []) rfl rfl rfl rfl).trans rfl
  rw [s_sIf, s_tVal, s_eBin, s_eComp, hi ρ' w5, bind_ok, hc]
  simp [n0]
end E
end

section
set_option Elab.async false
set_option linter.all false
set_option maxRecDepth 100000
set_option exponentiation.threshold 2000
set_option maxHeartbeats 4000000
namespace E
open PySem PySem.Spec L2 L3
variable {tab : IsTab}
theorem script_cut (ns : List Int) (k : Nat) {ρ : DEnv} {S : Store} (h : ρ[0]? = some (some (.frz (ns.map D.int)))) : eSl false (eVar 0) oNone (oSome (eC (.int (k : Int)))) ρ S = .ok (.lst ((ns.take k).map D.int)) S := by
  unfold eSl oNone oSome
  simp only [s_eVar, h, bind_ok, s_eC]
  show newL false (cutD (ns.map D.int) none (some (k : Int))) S = _
  have e : cutD (ns.map D.int) none (some (k : Int)) = (ns.take k).map D.int := by
    unfold cutD
    rw [HT.sIx_none, HT.sIx_nat, List.map_take, Nat.sub_zero, List.drop_zero]
    exact List.take_eq_take_iff.mpr (by omega)
  rw [e]
  rfl
theorem fin_nil {S : Store} {b : Bool} : fin false [] (.bl b) S = .ok (.bl b) [] := by
  unfold fin
  rw [if_neg (by decide)]
  have h : Cut [] S ∧ D.rf (· < ([] : Store).length) (freeze ([] : Store).length S (.bl b)) := ⟨fun l c hl => absurd hl (Nat.not_lt_zero l), trivial⟩
  rw [if_pos h]
  rfl
theorem law45 (ht : TabOk tab) (ns : List Int) : mFn 1 17 false (b45_law tab) [.frz (ns.map D.int)] [] = .ok (.bl true) [] := by
  obtain ⟨ρ', S', e, h1, h2⟩ := for_inv (S0 := []) (g := gN 1) (b := b45_body tab) (fun _ ρ S => ρ.length = 18 ∧ ρ[0]? = some (some (.frz (ns.map D.int)))) ((0 :: ns.take 12).map D.int) 0 (some (.frz (ns.map D.int)) :: List.replicate 17 none) [] ⟨rfl, rfl⟩ (by
    rintro i d ρ S hd ⟨h1, h2⟩
    rw [List.getElem?_map] at hd
    obtain ⟨c, hc, rfl⟩ := Option.map_eq_some_iff.mp hd
    match ρ, h1, h2 with
    | [f, a1, a2, a3, a4, a5, a6, a7, a8, a9, a10, a11, a12, a13, a14, a15, a16, a17], _, h2 =>
      obtain ⟨ρ', S', e, h3, h4⟩ := body45 (tab := tab) (c := c) (S := S) (f := f) (a2 := a2) (a3 := a3) (a4 := a4) (a5 := a5) (a6 := a6) (a7 := a7) (a8 := a8) (a9 := a9) (a10 := a10) (a11 := a11) (a12 := a12) (a13 := a13) (a14 := a14) (a15 := a15) (a16 := a16) (a17 := a17) ht
      exact ⟨_, S, ρ', S', rfl, .inl e, h3, h4.trans h2⟩)
  unfold mFn b45_law
  rw [if_pos (show [D.frz (ns.map D.int)].length = 1 from rfl)]
  have hs : iSeq (eBin (oAdd false) (eLst false (aCons (eC (.int 0)) aNil)) (eSl false (eVar 0) oNone (oSome (eC (.int 12))))) (some (.frz (ns.map D.int)) :: List.replicate 17 none) [] = .ok ((0 :: ns.take 12).map D.int, []) [] := by
    refine s_iSeqL ?_
    have h0 := script_cut ns 12 (ρ := some (.frz (ns.map D.int)) :: List.replicate 17 none) (S := []) rfl
    have h0' : eSl false (eVar 0) oNone (oSome (eC (.int 12))) (some (.frz (ns.map D.int)) :: List.replicate 17 none) [] = .ok (.lst ((ns.take 12).map D.int)) [] := h0
    have ad : oAdd false (.lst [.int 0]) (.lst ((ns.take 12).map D.int)) [] = .ok (.lst ((0 :: ns.take 12).map D.int)) [] := s_addLI (xs := [0]) (ys := ns.take 12) (by
      rw [List.length_take]
      show 1 + min 12 ns.length ≤ 100000
      omega)
    have hl : eLst false (aCons (eC (.int 0)) aNil) (some (.frz (ns.map D.int)) :: List.replicate 17 none) [] = .ok (.lst [.int 0]) [] := rfl
    rw [s_eBin, hl, bind_ok, h0', bind_ok, ad]
  have hb : (sSeq (sFor (iSeq (eBin (oAdd false) (eLst false (aCons (eC (.int 0)) aNil)) (eSl false (eVar 0) oNone (oSome (eC (.int 12)))))) (gN 1) (b45_body tab)) (sRet (eC (.bl true)))) (some (.frz (ns.map D.int)) :: List.replicate 17 none) [] = .ret (.bl true) S' := by
    rw [s_sSeq, s_sFor, hs, sBind_ok, e]
    rfl
  show (match (sSeq (sFor (iSeq (eBin (oAdd false) (eLst false (aCons (eC (.int 0)) aNil)) (eSl false (eVar 0) oNone (oSome (eC (.int 12)))))) (gN 1) (b45_body tab)) (sRet (eC (.bl true)))) (some (.frz (ns.map D.int)) :: List.replicate 17 none) [] with
  | .next _ S' => fin false [] .non S'
  | .ret d S' => fin false [] d S'
  | .exc x _ S' => finX [] x S'
  | _ => .stuck) = _
  rw [hb]
  exact fin_nil
end E
end

section
set_option Elab.async false
set_option linter.all false
set_option maxRecDepth 100000
set_option maxHeartbeats 4000000
namespace K45
open PySem PySem.Spec L2 L3
open He (ga ma)
abbrev pw : Program := PySem.Challenge.pw_everyring_k45_rules_built
def top (i : Nat) : Stmt := pw.main.body.getD i (.Pass ⟨0, 0, 0, 0⟩)
def tab : IsTab := ⟨[("Rule", "Rule", true)], [], [("NoneType", "Rule", false), ("bool", "Rule", false), ("int", "Rule", false), ("str", "Rule", false), ("tuple", "Rule", false), ("list", "Rule", false), ("dict", "Rule", false)]⟩
abbrev noTy : String → D → Option Bool := fun _ _ => none
/-! ### _law_bag -/
abbrev st__law_bag : Stmt := top 45
abbrev N__law_bag : List Str := ["_law_cell", "_law_rest"]
abbrev ps__law_bag : List Str := ["_law_cell"]
theorem sc__law_bag : FnScope N__law_bag ps__law_bag (defScope st__law_bag) := ⟨rfl, rfl, rfl, by decide +kernel, rfl, by decide +kernel, by decide +kernel⟩
noncomputable def b__law_bag : SM :=
  (sSeq (sSet 1 (eC (.int 0))) (sSeq (sIf (tVal (eBin oGe (eVar 0) (eBin oPow (eC (.int 10)) (eC (.int 18))))) (sSet 1 (eBin oSub (eVar 0) (eBin oPow (eC (.int 10)) (eC (.int 18))))) sNext) (sRet (eLst true (aCons (eVar 1) (aCons (eBin oMod (eApp (f1 bInt) (aCons (eVar 0) aNil)) (eC (.int 1000000000000000003))) (aCons (eC (.int 0)) aNil)))))))
noncomputable def m__law_bag : FM := mFn 1 1 true b__law_bag
def d__law_bag : DefL := ⟨.glo "_law_bag", "_law_bag", "_law_bag", defArgs st__law_bag, defBody st__law_bag, defScope st__law_bag, []⟩
/-! ### _law_draw -/
abbrev st__law_draw : Stmt := top 46
abbrev N__law_draw : List Str := ["_law_bag_here", "_law_many", "_law_digit", "_law_turn", "_law_mixed"]
abbrev ps__law_draw : List Str := ["_law_bag_here", "_law_many"]
theorem sc__law_draw : FnScope N__law_draw ps__law_draw (defScope st__law_draw) := ⟨rfl, rfl, rfl, by decide +kernel, rfl, by decide +kernel, by decide +kernel⟩
noncomputable def b__law_draw : SM :=
  (sSeq (sIf (tVal (eBin oGt (eBin oIx (eVar 0) (eC (.int 0))) (eC (.int 0)))) (sSeq (sSet 2 (eBin oMod (eApp (f1 bInt) (aCons (eBin oIx (eVar 0) (eC (.int 0))) aNil)) (eVar 1))) (sSeq (sAsg (eBin oFdiv (eBin oIx (eVar 0) (eC (.int 0))) (eVar 1)) (gIx (eVar 0) (eC (.int 0)))) (sRet (eVar 2)))) sNext) (sSeq (sAsg (eBin (oAdd false) (eBin oIx (eVar 0) (eC (.int 2))) (eC (.int 1))) (gIx (eVar 0) (eC (.int 2)))) (sSeq (sSet 3 (eBin oIx (eVar 0) (eC (.int 2)))) (sSeq (sSet 4 (eBin (oAdd false) (eBin (oMul false) (eBin (oAdd false) (eBin oIx (eVar 0) (eC (.int 1))) (eC (.int 7))) (eBin (oAdd false) (eBin (oAdd false) (eBin (oMul false) (eBin (oMul false) (eC (.int 31)) (eVar 3)) (eVar 3)) (eBin (oMul false) (eC (.int 104729)) (eVar 3))) (eC (.int 13)))) (eBin (oMul false) (eC (.int 17)) (eVar 3)))) (sSeq (sSet 4 (eBin oFdiv (eBin oMod (eApp (f1 bInt) (aCons (eBin (oAdd false) (eBin (oMul false) (eVar 4) (eVar 4)) (eBin (oMul false) (eC (.int 999983)) (eVar 4))) aNil)) (eC (.int 1000000000000000009))) (eC (.int 1009)))) (sRet (eBin oMod (eBin oFdiv (eBin oMod (eApp (f1 bInt) (aCons (eBin (oAdd false) (eBin (oAdd false) (eBin (oMul false) (eVar 4) (eVar 4)) (eBin (oMul false) (eC (.int 65537)) (eVar 4))) (eVar 3)) aNil)) (eC (.int 2147483629))) (eC (.int 16))) (eVar 1))))))))
noncomputable def m__law_draw : FM := mFn 2 3 true b__law_draw
def d__law_draw : DefL := ⟨.glo "_law_draw", "_law_draw", "_law_draw", defArgs st__law_draw, defBody st__law_draw, defScope st__law_draw, []⟩
/-! ### _law_base -/
abbrev st__law_base : Stmt := top 47
abbrev N__law_base : List Str := ["_law_bag_here"]
abbrev ps__law_base : List Str := ["_law_bag_here"]
theorem sc__law_base : FnScope N__law_base ps__law_base (defScope st__law_base) := ⟨rfl, rfl, rfl, by decide +kernel, rfl, by decide +kernel, by decide +kernel⟩
noncomputable def b__law_base : SM :=
  (sRet (eBin oIx (eLst false (aCons (eC (.int 2)) (aCons (eC (.int 3)) (aCons (eC (.int 5)) aNil)))) (eApp m__law_draw (aCons (eVar 0) (aCons (eC (.int 3)) aNil)))))
noncomputable def m__law_base : FM := mFn 1 0 true b__law_base
def d__law_base : DefL := ⟨.glo "_law_base", "_law_base", "_law_base", defArgs st__law_base, defBody st__law_base, defScope st__law_base, []⟩
/-! ### _law_pairs -/
abbrev st__law_pairs : Stmt := top 48
abbrev N__law_pairs : List Str := ["_law_bag_here", "_law_base_here", "_law_far", "_law_often", "_law_found", "_law_k"]
abbrev ps__law_pairs : List Str := ["_law_bag_here", "_law_base_here", "_law_far"]
theorem sc__law_pairs : FnScope N__law_pairs ps__law_pairs (defScope st__law_pairs) := ⟨rfl, rfl, rfl, by decide +kernel, rfl, by decide +kernel, by decide +kernel⟩
noncomputable def b__law_pairs : SM :=
  (sSeq (sSet 3 (eBin oIx (eLst false (aCons (eC (.int 2)) (aCons (eC (.int 3)) (aCons (eC (.int 5)) aNil)))) (eApp m__law_draw (aCons (eVar 0) (aCons (eC (.int 3)) aNil))))) (sSeq (sSet 4 (eComp false (iRange1 (aCons (eBin (oAdd false) (eBin (oMul false) (eC (.int 2)) (eVar 2)) (eC (.int 1))) aNil)) (.nm 5) (tVal (eBin eqE (eApp m__law_draw (aCons (eVar 0) (aCons (eVar 3) aNil))) (eC (.int 0)))) (eTup (aCons (eBin oSub (eVar 5) (eVar 2)) (aCons (eBin (oAdd false) (eC (.int 1)) (eApp m__law_draw (aCons (eVar 0) (aCons (eBin oSub (eVar 1) (eC (.int 1))) aNil)))) aNil))) [5])) (sRet (eApp (f1 bTuple) (aCons (eVar 4) aNil)))))
noncomputable def m__law_pairs : FM := mFn 3 3 true b__law_pairs
def d__law_pairs : DefL := ⟨.glo "_law_pairs", "_law_pairs", "_law_pairs", defArgs st__law_pairs, defBody st__law_pairs, defScope st__law_pairs, []⟩
/-! ### _law_summed -/
abbrev st__law_summed : Stmt := top 49
abbrev N__law_summed : List Str := ["_law_base_here", "_law_pairs_here", "_law_found", "_law_offset_here", "_law_amount"]
abbrev ps__law_summed : List Str := ["_law_base_here", "_law_pairs_here"]
theorem sc__law_summed : FnScope N__law_summed ps__law_summed (defScope st__law_summed) := ⟨rfl, rfl, rfl, by decide +kernel, rfl, by decide +kernel, by decide +kernel⟩
noncomputable def b__law_summed : SM :=
  (sSeq (sSet 2 eDic0) (sSeq (sFor (iSeq (eVar 1)) (gT [(gN 3), (gN 4)]) (sAsg (eBin oMod (eApp (f1 bInt) (aCons (eBin (oAdd false) (eMet "dict" mGet (eVar 2) (aCons (eVar 3) (aCons (eC (.int 0)) aNil))) (eVar 4)) aNil)) (eVar 0)) (gIx (eVar 2) (eVar 3)))) (sRet (eApp (f1 bTuple) (aCons (eComp false (iSeq (eApp (f1 (bSorted false)) (aCons (eVar 2) aNil))) (.nm 3) (tVal (eBin neE (eBin oDGet (eVar 2) (eVar 3)) (eC (.int 0)))) (eTup (aCons (eVar 3) (aCons (eBin oDGet (eVar 2) (eVar 3)) aNil))) [3]) aNil)))))
noncomputable def m__law_summed : FM := mFn 2 3 false b__law_summed
def d__law_summed : DefL := ⟨.glo "_law_summed", "_law_summed", "_law_summed", defArgs st__law_summed, defBody st__law_summed, defScope st__law_summed, []⟩
/-! ### _law_spread -/
abbrev st__law_spread : Stmt := top 51
abbrev N__law_spread : List Str := ["_law_bag_here", "_law_base_here", "_law_near", "_law_way", "_law_found", "_law_turn", "_law_by", "_law_spot", "_law_offset_here", "_law_amount"]
abbrev ps__law_spread : List Str := ["_law_bag_here", "_law_base_here"]
theorem sc__law_spread : FnScope N__law_spread ps__law_spread (defScope st__law_spread) := ⟨rfl, rfl, rfl, by decide +kernel, rfl, by decide +kernel, by decide +kernel⟩
noncomputable def b__law_spread : SM :=
  (sSeq (sPar 2 3 (eApp m__law_pairs (aCons (eVar 0) (aCons (eVar 1) (aCons (eC (.int 4)) aNil)))) (eApp m__law_draw (aCons (eVar 0) (aCons (eC (.int 4)) aNil)))) (sSeq (sIf (tVal (eBin eqE (eVar 3) (eC (.int 0)))) (sRet (eVar 2)) sNext) (sSeq (sSet 4 (eIf (tVal (eBin oGt (eVar 3) (eC (.int 1)))) (eApp (f1 (bList false)) (aCons (eVar 2) aNil)) (eLst false aNil))) (sSeq (sFor (iRange1 (aCons (eBin oIx (eLst false (aCons (eC (.int 1)) (aCons (eC (.int 1)) (aCons (eC (.int 1)) (aCons (eC (.int 3)) aNil))))) (eVar 3)) aNil)) (gN 5) (sSeq (sSet 6 (eLst false (aCons (eBin oSub (eApp m__law_draw (aCons (eVar 0) (aCons (eC (.int 199)) aNil))) (eC (.int 99))) (aCons (eBin oSub (eBin oPow (eC (.int 10)) (eC (.int 9))) (eApp m__law_draw (aCons (eVar 0) (aCons (eBin (oMul false) (eC (.int 2)) (eBin oPow (eC (.int 10)) (eC (.int 9)))) aNil)))) (aCons (eBin oSub (eBin oPow (eC (.int 10)) (eC (.int 25))) (eApp m__law_draw (aCons (eVar 0) (aCons (eBin (oMul false) (eC (.int 2)) (eBin oPow (eC (.int 10)) (eC (.int 25)))) aNil)))) aNil))))) (sSeq (sSet 7 (eBin oIx (eVar 6) (eApp m__law_draw (aCons (eVar 0) (aCons (eC (.int 3)) aNil))))) (sSet 4 (eBin (oAdd false) (eVar 4) (eComp false (iSeq (eApp m__law_pairs (aCons (eVar 0) (aCons (eVar 1) (aCons (eC (.int 4)) aNil))))) (.tp [(.nm 8), (.nm 9)]) tYesM (eTup (aCons (eBin (oAdd false) (eVar 8) (eVar 7)) (aCons (eVar 9) aNil))) [8, 9])))))) (sRet (eApp m__law_summed (aCons (eVar 1) (aCons (eVar 4) aNil))))))))
noncomputable def m__law_spread : FM := mFn 2 8 true b__law_spread
def d__law_spread : DefL := ⟨.glo "_law_spread", "_law_spread", "_law_spread", defArgs st__law_spread, defBody st__law_spread, defScope st__law_spread, []⟩
/-! ### is_number -/
abbrev st_is_number : Stmt := top 12
abbrev N_is_number : List Str := ["value"]
abbrev ps_is_number : List Str := ["value"]
theorem sc_is_number : FnScope N_is_number ps_is_number (defScope st_is_number) := ⟨rfl, rfl, rfl, by decide +kernel, rfl, by decide +kernel, by decide +kernel⟩
noncomputable def b_is_number : SM :=
  (sRet (eAnd (eApp (bIsi tab.own noTy) (aCons (eVar 0) (aCons (eC (.ty "int")) aNil))) (eNot (eApp (bIsi tab.own noTy) (aCons (eVar 0) (aCons (eC (.ty "bool")) aNil))))))
noncomputable def m_is_number : FM := mFn 1 0 true b_is_number
def d_is_number : DefL := ⟨.glo "is_number", "is_number", "is_number", defArgs st_is_number, defBody st_is_number, defScope st_is_number, []⟩
/-! ### is_prime -/
abbrev st_is_prime : Stmt := top 14
abbrev N_is_prime : List Str := ["value"]
abbrev ps_is_prime : List Str := ["value"]
theorem sc_is_prime : FnScope N_is_prime ps_is_prime (defScope st_is_prime) := ⟨rfl, rfl, rfl, by decide +kernel, rfl, by decide +kernel, by decide +kernel⟩
noncomputable def b_is_prime : SM :=
  (sRet (eAnd (eApp m_is_number (aCons (eVar 0) aNil)) (eBin (oIn false) (eVar 0) (eC (.tup [.int 2, .int 3, .int 5])))))
noncomputable def m_is_prime : FM := mFn 1 0 true b_is_prime
def d_is_prime : DefL := ⟨.glo "is_prime", "is_prime", "is_prime", defArgs st_is_prime, defBody st_is_prime, defScope st_is_prime, []⟩
/-! ### need_prime -/
abbrev st_need_prime : Stmt := top 18
abbrev N_need_prime : List Str := ["prime"]
abbrev ps_need_prime : List Str := ["prime"]
theorem sc_need_prime : FnScope N_need_prime ps_need_prime (defScope st_need_prime) := ⟨rfl, rfl, rfl, by decide +kernel, rfl, by decide +kernel, by decide +kernel⟩
noncomputable def b_need_prime : SM :=
  (sIf (tNotM (tVal (eApp m_is_prime (aCons (eVar 0) aNil)))) sStuck sNext)
noncomputable def m_need_prime : FM := mFn 1 0 true b_need_prime
def d_need_prime : DefL := ⟨.glo "need_prime", "need_prime", "need_prime", defArgs st_need_prime, defBody st_need_prime, defScope st_need_prime, []⟩
/-! ### is_whole -/
abbrev st_is_whole : Stmt := top 13
abbrev N_is_whole : List Str := ["value", "low", "high"]
abbrev ps_is_whole : List Str := ["value", "low", "high"]
theorem sc_is_whole : FnScope N_is_whole ps_is_whole (defScope st_is_whole) := ⟨rfl, rfl, rfl, by decide +kernel, rfl, by decide +kernel, by decide +kernel⟩
noncomputable def b_is_whole : SM :=
  (sRet (eAnd (eApp m_is_number (aCons (eVar 0) aNil)) (eChain (fun i j => decide (i ≤ j)) (fun i j => decide (i ≤ j)) (eVar 1) (eVar 0) (eVar 2))))
noncomputable def m_is_whole : FM := mFn 3 0 true b_is_whole
def d_is_whole : DefL := ⟨.glo "is_whole", "is_whole", "is_whole", defArgs st_is_whole, defBody st_is_whole, defScope st_is_whole, []⟩
/-! ### is_pair -/
abbrev st_is_pair : Stmt := top 15
abbrev N_is_pair : List Str := ["prime", "value"]
abbrev ps_is_pair : List Str := ["prime", "value"]
theorem sc_is_pair : FnScope N_is_pair ps_is_pair (defScope st_is_pair) := ⟨rfl, rfl, rfl, by decide +kernel, rfl, by decide +kernel, by decide +kernel⟩
noncomputable def b_is_pair : SM :=
  (sRet (eAnd (eApp (bIsi tab.own noTy) (aCons (eVar 1) (aCons (eC (.ty "tuple")) aNil))) (eAnd (eBin eqE (eApp (f1 bLen) (aCons (eVar 1) aNil)) (eC (.int 2))) (eAnd (eApp m_is_number (aCons (eBin oIx (eVar 1) (eC (.int 0))) aNil)) (eApp m_is_whole (aCons (eBin oIx (eVar 1) (eC (.int 1))) (aCons (eC (.int 1)) (aCons (eBin oSub (eVar 0) (eC (.int 1))) aNil))))))))
noncomputable def m_is_pair : FM := mFn 2 0 true b_is_pair
def d_is_pair : DefL := ⟨.glo "is_pair", "is_pair", "is_pair", defArgs st_is_pair, defBody st_is_pair, defScope st_is_pair, []⟩
/-! ### fits_rule -/
abbrev st_fits_rule : Stmt := top 16
abbrev N_fits_rule : List Str := ["prime", "value", "part", "here", "there"]
abbrev ps_fits_rule : List Str := ["prime", "value"]
theorem sc_fits_rule : FnScope N_fits_rule ps_fits_rule (defScope st_fits_rule) := ⟨rfl, rfl, rfl, by decide +kernel, rfl, by decide +kernel, by decide +kernel⟩
noncomputable def b_fits_rule : SM :=
  (sSeq (sIf (tOrM (tNotM (tVal (eApp (bIsi tab.own noTy) (aCons (eVar 1) (aCons (eC (.ty "tuple")) aNil))))) (tNotM (tVal (eApp (f1 bAll) (aCons (eComp false (iSeq (eVar 1)) (.nm 2) tYesM (eApp m_is_pair (aCons (eVar 0) (aCons (eVar 2) aNil))) [2]) aNil))))) (sRet (eC (.bl false))) sNext) (sRet (eApp (f1 bAll) (aCons (eComp false (iZip (aCons (eVar 1) (aCons (eSl false (eVar 1) (oSome (eC (.int 1))) oNone) aNil))) (.tp [(.nm 3), (.nm 4)]) tYesM (eBin oLt (eBin oIx (eVar 3) (eC (.int 0))) (eBin oIx (eVar 4) (eC (.int 0)))) [3, 4]) aNil))))
noncomputable def m_fits_rule : FM := mFn 2 3 true b_fits_rule
def d_fits_rule : DefL := ⟨.glo "fits_rule", "fits_rule", "fits_rule", defArgs st_fits_rule, defBody st_fits_rule, defScope st_fits_rule, []⟩
/-! ### need_rule -/
abbrev st_need_rule : Stmt := top 19
abbrev N_need_rule : List Str := ["prime", "rule"]
abbrev ps_need_rule : List Str := ["prime", "rule"]
theorem sc_need_rule : FnScope N_need_rule ps_need_rule (defScope st_need_rule) := ⟨rfl, rfl, rfl, by decide +kernel, rfl, by decide +kernel, by decide +kernel⟩
noncomputable def b_need_rule : SM :=
  (sIf (tNotM (tVal (eApp m_fits_rule (aCons (eVar 0) (aCons (eVar 1) aNil))))) sStuck sNext)
noncomputable def m_need_rule : FM := mFn 2 0 true b_need_rule
def d_need_rule : DefL := ⟨.glo "need_rule", "need_rule", "need_rule", defArgs st_need_rule, defBody st_need_rule, defScope st_need_rule, []⟩
/-! ### Rule.__init__ -/
abbrev st_RuleX_initX : Stmt := inClass (top 43) 0
abbrev N_RuleX_initX : List Str := ["self", "prime", "rule"]
abbrev ps_RuleX_initX : List Str := ["self", "prime", "rule"]
theorem sc_RuleX_initX : FnScope N_RuleX_initX ps_RuleX_initX (defScope st_RuleX_initX) := ⟨rfl, rfl, rfl, by decide +kernel, rfl, by decide +kernel, by decide +kernel⟩
noncomputable def b_RuleX_initX : SM :=
  (sSeq (sExpr (eApp m_need_prime (aCons (eVar 1) aNil))) (sSeq (sExpr (eApp m_need_rule (aCons (eVar 1) (aCons (eVar 2) aNil)))) (sSeq (sFldD ["Rule"] "base" (eVar 0) (eVar 1)) (sFldD ["Rule"] "pairs" (eVar 0) (eVar 2)))))
noncomputable def m_RuleX_initX : FM := mFn 3 0 true b_RuleX_initX
def d_RuleX_initX : DefL := ⟨.met "Rule" "__init__", "__init__", "Rule.__init__", defArgs st_RuleX_initX, defBody st_RuleX_initX, defScope st_RuleX_initX, []⟩
/-! ### Rule.rule -/
abbrev st_Rule_rule : Stmt := inClass (top 43) 3
abbrev N_Rule_rule : List Str := ["self"]
abbrev ps_Rule_rule : List Str := ["self"]
theorem sc_Rule_rule : FnScope N_Rule_rule ps_Rule_rule (defScope st_Rule_rule) := ⟨rfl, rfl, rfl, by decide +kernel, rfl, by decide +kernel, by decide +kernel⟩
noncomputable def b_Rule_rule : SM :=
  (sRet (eFld ["Rule"] "pairs" (eVar 0)))
noncomputable def m_Rule_rule : FM := mFn 1 0 true b_Rule_rule
def d_Rule_rule : DefL := ⟨.prp "Rule" "rule", "rule", "Rule.rule", defArgs st_Rule_rule, defBody st_Rule_rule, defScope st_Rule_rule, []⟩
/-! ### Rule.prime -/
abbrev st_Rule_prime : Stmt := inClass (top 43) 2
abbrev N_Rule_prime : List Str := ["self"]
abbrev ps_Rule_prime : List Str := ["self"]
theorem sc_Rule_prime : FnScope N_Rule_prime ps_Rule_prime (defScope st_Rule_prime) := ⟨rfl, rfl, rfl, by decide +kernel, rfl, by decide +kernel, by decide +kernel⟩
noncomputable def b_Rule_prime : SM :=
  (sRet (eFld ["Rule"] "base" (eVar 0)))
noncomputable def m_Rule_prime : FM := mFn 1 0 true b_Rule_prime
def d_Rule_prime : DefL := ⟨.prp "Rule" "prime", "prime", "Rule.prime", defArgs st_Rule_prime, defBody st_Rule_prime, defScope st_Rule_prime, []⟩
/-! ### Rule.__bool__ -/
abbrev st_RuleX_boolX : Stmt := inClass (top 43) 5
abbrev N_RuleX_boolX : List Str := ["self"]
abbrev ps_RuleX_boolX : List Str := ["self"]
theorem sc_RuleX_boolX : FnScope N_RuleX_boolX ps_RuleX_boolX (defScope st_RuleX_boolX) := ⟨rfl, rfl, rfl, by decide +kernel, rfl, by decide +kernel, by decide +kernel⟩
noncomputable def b_RuleX_boolX : SM :=
  (sRet (eBin oGt (eApp (f1 bLen) (aCons (eFld ["Rule"] "pairs" (eVar 0)) aNil)) (eC (.int 0))))
noncomputable def m_RuleX_boolX : FM := mFn 1 0 true b_RuleX_boolX
def d_RuleX_boolX : DefL := ⟨.met "Rule" "__bool__", "__bool__", "Rule.__bool__", defArgs st_RuleX_boolX, defBody st_RuleX_boolX, defScope st_RuleX_boolX, []⟩
/-! ### Rule.__len__ -/
abbrev st_RuleX_lenX : Stmt := inClass (top 43) 4
abbrev N_RuleX_lenX : List Str := ["self"]
abbrev ps_RuleX_lenX : List Str := ["self"]
theorem sc_RuleX_lenX : FnScope N_RuleX_lenX ps_RuleX_lenX (defScope st_RuleX_lenX) := ⟨rfl, rfl, rfl, by decide +kernel, rfl, by decide +kernel, by decide +kernel⟩
noncomputable def b_RuleX_lenX : SM :=
  (sRet (eApp (f1 bLen) (aCons (eFld ["Rule"] "pairs" (eVar 0)) aNil)))
noncomputable def m_RuleX_lenX : FM := mFn 1 0 true b_RuleX_lenX
def d_RuleX_lenX : DefL := ⟨.met "Rule" "__len__", "__len__", "Rule.__len__", defArgs st_RuleX_lenX, defBody st_RuleX_lenX, defScope st_RuleX_lenX, []⟩
/-! ### need_step -/
abbrev st_need_step : Stmt := top 41
abbrev N_need_step : List Str := ["value"]
abbrev ps_need_step : List Str := ["value"]
theorem sc_need_step : FnScope N_need_step ps_need_step (defScope st_need_step) := ⟨rfl, rfl, rfl, by decide +kernel, rfl, by decide +kernel, by decide +kernel⟩
noncomputable def b_need_step : SM :=
  (sIf (tNotM (tVal (eApp m_is_number (aCons (eVar 0) aNil)))) sStuck sNext)
noncomputable def m_need_step : FM := mFn 1 0 true b_need_step
def d_need_step : DefL := ⟨.glo "need_step", "need_step", "need_step", defArgs st_need_step, defBody st_need_step, defScope st_need_step, []⟩
/-! ### Rule.__getitem__ -/
abbrev st_RuleX_getitemX : Stmt := inClass (top 43) 7
abbrev N_RuleX_getitemX : List Str := ["self", "offset", "known", "amount"]
abbrev ps_RuleX_getitemX : List Str := ["self", "offset"]
theorem sc_RuleX_getitemX : FnScope N_RuleX_getitemX ps_RuleX_getitemX (defScope st_RuleX_getitemX) := ⟨rfl, rfl, rfl, by decide +kernel, rfl, by decide +kernel, by decide +kernel⟩
noncomputable def b_RuleX_getitemX : SM :=
  (sSeq (sExpr (eApp m_need_step (aCons (eVar 1) aNil))) (sRet (eApp (f1 bSum) (aCons (eComp false (iSeq (eFld ["Rule"] "pairs" (eVar 0))) (.tp [(.nm 2), (.nm 3)]) (tVal (eBin eqE (eVar 2) (eVar 1))) (eVar 3) [2, 3]) aNil))))
noncomputable def m_RuleX_getitemX : FM := mFn 2 2 true b_RuleX_getitemX
def d_RuleX_getitemX : DefL := ⟨.met "Rule" "__getitem__", "__getitem__", "Rule.__getitem__", defArgs st_RuleX_getitemX, defBody st_RuleX_getitemX, defScope st_RuleX_getitemX, []⟩
/-! ### _law_is_one -/
abbrev st__law_is_one : Stmt := top 52
abbrev N__law_is_one : List Str := ["_law_found", "_law_base_here", "_law_pairs_here", "_law_spots", "_law_spot", "_law_due", "_law_offset_here", "_law_amount"]
abbrev ps__law_is_one : List Str := ["_law_found", "_law_base_here", "_law_pairs_here"]
theorem sc__law_is_one : FnScope N__law_is_one ps__law_is_one (defScope st__law_is_one) := ⟨rfl, rfl, rfl, by decide +kernel, rfl, by decide +kernel, by decide +kernel⟩
noncomputable def b__law_is_one : SM :=
  (sSeq (sIf (tOrM (tNotM (tVal (eApp (bIsi tab.own noTy) (aCons (eVar 0) (aCons (eC (.gl "Rule")) aNil))))) (tVal (eBin neE (eApp (f1 bRepr) (aCons (eLst false (aCons (eProp "Rule" (noX m_Rule_prime) (eVar 0)) (aCons (eProp "Rule" (noX m_Rule_rule) (eVar 0)) aNil))) aNil)) (eApp (f1 bRepr) (aCons (eLst false (aCons (eVar 1) (aCons (eVar 2) aNil))) aNil))))) (sRet (eC (.bl false))) sNext) (sSeq (sIf (tVal (eBin neE (eApp (f1 bRepr) (aCons (eLst false (aCons (eApp (f1 (bLenO "Rule" m_RuleX_lenX)) (aCons (eVar 0) aNil)) (aCons (eApp (f1 (bBoolO "Rule" m_RuleX_boolX)) (aCons (eVar 0) aNil)) aNil))) aNil)) (eApp (f1 bRepr) (aCons (eLst false (aCons (eApp (f1 bLen) (aCons (eVar 2) aNil)) (aCons (eBin neE (eVar 2) (eTup aNil)) aNil))) aNil)))) (sRet (eC (.bl false))) sNext) (sSeq (sSet 3 (eBin (oAdd false) (eComp false (iSeq (eVar 2)) (.tp [(.nm 6), (.nm 7)]) tYesM (eVar 6) [6, 7]) (eLst false (aCons (eC (.int 0)) (aCons (eC (.int 5)) (aCons (eUn oNeg (eC (.int 5))) (aCons (eBin oSub (eBin oPow (eC (.int 10)) (eC (.int 30))) (eC (.int 1))) (aCons (eUn oNeg (eBin oPow (eC (.int 10)) (eC (.int 30)))) aNil)))))))) (sSeq (sFor (iSeq (eBin (oAdd false) (eBin (oAdd false) (eVar 3) (eComp false (iSeq (eVar 3)) (.nm 4) tYesM (eBin (oAdd false) (eVar 4) (eC (.int 1))) [4])) (eComp false (iSeq (eSl false (eVar 3) oNone (oSome (eApp (f1 bLen) (aCons (eVar 2) aNil))))) (.nm 4) tYesM (eBin oSub (eVar 4) (eC (.int 1))) [4]))) (gN 4) (sSeq (sSet 5 (eBin oIx (eBin (oAdd false) (eComp false (iSeq (eVar 2)) (.tp [(.nm 6), (.nm 7)]) (tVal (eBin eqE (eVar 6) (eVar 4))) (eVar 7) [6, 7]) (eLst false (aCons (eC (.int 0)) aNil))) (eC (.int 0)))) (sIf (tVal (eBin neE (eApp (f1 bRepr) (aCons (eBin (oIxO "Rule" m_RuleX_getitemX) (eVar 0) (eVar 4)) aNil)) (eApp (f1 bRepr) (aCons (eVar 5) aNil)))) (sRet (eC (.bl false))) sNext))) (sRet (eC (.bl true)))))))
noncomputable def m__law_is_one : FM := mFn 3 5 true b__law_is_one
def d__law_is_one : DefL := ⟨.glo "_law_is_one", "_law_is_one", "_law_is_one", defArgs st__law_is_one, defBody st__law_is_one, defScope st__law_is_one, []⟩
/-! ### fits_polynomial -/
abbrev st_fits_polynomial : Stmt := top 17
abbrev N_fits_polynomial : List Str := ["prime", "value", "part"]
abbrev ps_fits_polynomial : List Str := ["prime", "value"]
theorem sc_fits_polynomial : FnScope N_fits_polynomial ps_fits_polynomial (defScope st_fits_polynomial) := ⟨rfl, rfl, rfl, by decide +kernel, rfl, by decide +kernel, by decide +kernel⟩
noncomputable def b_fits_polynomial : SM :=
  (sSeq (sIf (tOrM (tNotM (tVal (eApp (bIsi tab.own noTy) (aCons (eVar 1) (aCons (eC (.ty "tuple")) aNil))))) (tVal (eBin eqE (eApp (f1 bLen) (aCons (eVar 1) aNil)) (eC (.int 0))))) (sRet (eC (.bl false))) sNext) (sSeq (sIf (tNotM (tVal (eApp (f1 bAll) (aCons (eComp false (iSeq (eVar 1)) (.nm 2) tYesM (eApp m_is_whole (aCons (eVar 2) (aCons (eC (.int 0)) (aCons (eBin oSub (eVar 0) (eC (.int 1))) aNil)))) [2]) aNil)))) (sRet (eC (.bl false))) sNext) (sRet (eAnd (eBin neE (eBin oIx (eVar 1) (eC (.int 0))) (eC (.int 0))) (eBin eqE (eBin oIx (eVar 1) (eUn oNeg (eC (.int 1)))) (eC (.int 1)))))))
noncomputable def m_fits_polynomial : FM := mFn 2 1 true b_fits_polynomial
def d_fits_polynomial : DefL := ⟨.glo "fits_polynomial", "fits_polynomial", "fits_polynomial", defArgs st_fits_polynomial, defBody st_fits_polynomial, defScope st_fits_polynomial, []⟩
/-! ### need_polynomial -/
abbrev st_need_polynomial : Stmt := top 20
abbrev N_need_polynomial : List Str := ["prime", "polynomial"]
abbrev ps_need_polynomial : List Str := ["prime", "polynomial"]
theorem sc_need_polynomial : FnScope N_need_polynomial ps_need_polynomial (defScope st_need_polynomial) := ⟨rfl, rfl, rfl, by decide +kernel, rfl, by decide +kernel, by decide +kernel⟩
noncomputable def b_need_polynomial : SM :=
  (sIf (tNotM (tVal (eApp m_fits_polynomial (aCons (eVar 0) (aCons (eVar 1) aNil))))) sStuck sNext)
noncomputable def m_need_polynomial : FM := mFn 2 0 true b_need_polynomial
def d_need_polynomial : DefL := ⟨.glo "need_polynomial", "need_polynomial", "need_polynomial", defArgs st_need_polynomial, defBody st_need_polynomial, defScope st_need_polynomial, []⟩
/-! ### rule_of -/
abbrev st_rule_of : Stmt := top 31
abbrev N_rule_of : List Str := ["row", "offset", "amount"]
abbrev ps_rule_of : List Str := ["row"]
theorem sc_rule_of : FnScope N_rule_of ps_rule_of (defScope st_rule_of) := ⟨rfl, rfl, rfl, by decide +kernel, rfl, by decide +kernel, by decide +kernel⟩
noncomputable def b_rule_of : SM :=
  (sRet (eApp (f1 bTuple) (aCons (eComp false (iEnum1 (aCons (eVar 0) aNil)) (.tp [(.nm 1), (.nm 2)]) (tVal (eBin neE (eVar 2) (eC (.int 0)))) (eTup (aCons (eVar 1) (aCons (eVar 2) aNil))) [1, 2]) aNil)))
noncomputable def m_rule_of : FM := mFn 1 2 true b_rule_of
def d_rule_of : DefL := ⟨.glo "rule_of", "rule_of", "rule_of", defArgs st_rule_of, defBody st_rule_of, defScope st_rule_of, []⟩
/-! ### Rule.of_polynomial -/
abbrev st_Rule_of_polynomial : Stmt := inClass (top 43) 1
abbrev N_Rule_of_polynomial : List Str := ["cls", "prime", "polynomial"]
abbrev ps_Rule_of_polynomial : List Str := ["cls", "prime", "polynomial"]
theorem sc_Rule_of_polynomial : FnScope N_Rule_of_polynomial ps_Rule_of_polynomial (defScope st_Rule_of_polynomial) := ⟨rfl, rfl, rfl, by decide +kernel, rfl, by decide +kernel, by decide +kernel⟩
noncomputable def b_Rule_of_polynomial : SM :=
  (sSeq (sExpr (eApp m_need_prime (aCons (eVar 1) aNil))) (sSeq (sExpr (eApp m_need_polynomial (aCons (eVar 1) (aCons (eVar 2) aNil)))) (sRet (eCallC "Rule" (mMake false "Rule" m_RuleX_initX) (eVar 0) (aCons (eVar 1) (aCons (eApp m_rule_of (aCons (eVar 2) aNil)) aNil))))))
noncomputable def m_Rule_of_polynomial : FM := mFn 3 0 true b_Rule_of_polynomial
def d_Rule_of_polynomial : DefL := ⟨.cmt "Rule" "of_polynomial", "of_polynomial", "Rule.of_polynomial", defArgs st_Rule_of_polynomial, defBody st_Rule_of_polynomial, defScope st_Rule_of_polynomial, []⟩
/-! ### pairs_moved -/
abbrev st_pairs_moved : Stmt := top 37
abbrev N_pairs_moved : List Str := ["rule", "by", "offset", "amount"]
abbrev ps_pairs_moved : List Str := ["rule", "by"]
theorem sc_pairs_moved : FnScope N_pairs_moved ps_pairs_moved (defScope st_pairs_moved) := ⟨rfl, rfl, rfl, by decide +kernel, rfl, by decide +kernel, by decide +kernel⟩
noncomputable def b_pairs_moved : SM :=
  (sRet (eApp (f1 bTuple) (aCons (eComp false (iSeq (eVar 0)) (.tp [(.nm 2), (.nm 3)]) tYesM (eTup (aCons (eBin (oAdd false) (eVar 2) (eVar 1)) (aCons (eVar 3) aNil))) [2, 3]) aNil)))
noncomputable def m_pairs_moved : FM := mFn 2 2 true b_pairs_moved
def d_pairs_moved : DefL := ⟨.glo "pairs_moved", "pairs_moved", "pairs_moved", defArgs st_pairs_moved, defBody st_pairs_moved, defScope st_pairs_moved, []⟩
/-! ### Rule.__lshift__ -/
abbrev st_RuleX_lshiftX : Stmt := inClass (top 43) 16
abbrev N_RuleX_lshiftX : List Str := ["self", "other"]
abbrev ps_RuleX_lshiftX : List Str := ["self", "other"]
theorem sc_RuleX_lshiftX : FnScope N_RuleX_lshiftX ps_RuleX_lshiftX (defScope st_RuleX_lshiftX) := ⟨rfl, rfl, rfl, by decide +kernel, rfl, by decide +kernel, by decide +kernel⟩
noncomputable def b_RuleX_lshiftX : SM :=
  (sSeq (sExpr (eApp m_need_step (aCons (eVar 1) aNil))) (sRet (eApp (mMake false "Rule" m_RuleX_initX) (aCons (eFld ["Rule"] "base" (eVar 0)) (aCons (eApp m_pairs_moved (aCons (eFld ["Rule"] "pairs" (eVar 0)) (aCons (eVar 1) aNil))) aNil)))))
noncomputable def m_RuleX_lshiftX : FM := mFn 2 0 true b_RuleX_lshiftX
def d_RuleX_lshiftX : DefL := ⟨.met "Rule" "__lshift__", "__lshift__", "Rule.__lshift__", defArgs st_RuleX_lshiftX, defBody st_RuleX_lshiftX, defScope st_RuleX_lshiftX, []⟩
/-! ### law -/
abbrev st_law : Stmt := top 53
abbrev N_law : List Str := ["_law_script", "_law_cell", "_law_bag_here", "_law_base_here", "_law_pairs_here", "_law_made", "_law_by", "_law_many_pairs", "_law_far", "_law_colours_here", "_law_row", "_law_due", "_law_found", "_law_owed", "_law_offset_here", "_law_amount", "_law_k", "_law_part"]
abbrev ps_law : List Str := ["_law_script"]
theorem sc_law : FnScope N_law ps_law (defScope st_law) := ⟨rfl, rfl, rfl, by decide +kernel, rfl, by decide +kernel, by decide +kernel⟩
noncomputable def b_law : SM :=
  (sSeq (sFor (iSeq (eBin (oAdd false) (eLst false (aCons (eC (.int 0)) aNil)) (eSl false (eVar 0) oNone (oSome (eC (.int 12)))))) (gN 1) (sSeq (sSet 2 (eApp m__law_bag (aCons (eVar 1) aNil))) (sSeq (sSet 3 (eApp m__law_base (aCons (eVar 2) aNil))) (sSeq (sSet 4 (eApp m__law_spread (aCons (eVar 2) (aCons (eVar 3) aNil)))) (sSeq (sSet 5 (eLst false (aCons (eApp (mMake false "Rule" m_RuleX_initX) (aCons (eVar 3) (aCons (eVar 4) aNil))) (aCons (eAppK (fun ds S => mMake false "Rule" m_RuleX_initX (pick [1, 0] ds ++ []) S) 0 2 aNil (aCons (eVar 4) (aCons (eVar 3) aNil))) (aCons (eApp (mMake false "Rule" m_RuleX_initX) (aCons (eVar 3) (aCons (eTup aNil) aNil))) aNil))))) (sSeq (sSet 6 (eBin oIx (eLst false (aCons (eC (.int 0)) (aCons (eBin oSub (eApp m__law_draw (aCons (eVar 2) (aCons (eC (.int 99)) aNil))) (eC (.int 49))) (aCons (eBin oSub (eBin oPow (eC (.int 10)) (eC (.int 29))) (eApp m__law_draw (aCons (eVar 2) (aCons (eBin (oMul false) (eC (.int 2)) (eBin oPow (eC (.int 10)) (eC (.int 29)))) aNil)))) aNil)))) (eApp m__law_draw (aCons (eVar 2) (aCons (eC (.int 3)) aNil))))) (sSeq (sSet 7 (eApp m__law_pairs (aCons (eVar 2) (aCons (eVar 3) (aCons (eC (.int 30)) aNil))))) (sSeq (sIf (tNotM (tVal (eApp m__law_is_one (aCons (eApp (mMake false "Rule" m_RuleX_initX) (aCons (eVar 3) (aCons (eVar 7) aNil))) (aCons (eVar 3) (aCons (eVar 7) aNil)))))) (sRet (eC (.bl false))) sNext) (sSeq (sSet 8 (eApp (f1 bTuple) (aCons (eComp false (iSeq (eVar 4)) (.tp [(.nm 14), (.nm 15)]) tYesM (eTup (aCons (eBin (oAdd false) (eVar 14) (eVar 6)) (aCons (eVar 15) aNil))) [14, 15]) aNil))) (sSeq (sSet 9 (eBin (oAdd false) (eLst false (aCons (eBin (oAdd false) (eC (.int 1)) (eApp m__law_draw (aCons (eVar 2) (aCons (eBin oSub (eVar 3) (eC (.int 1))) aNil)))) aNil)) (eComp false (iRange1 (aCons (eApp m__law_draw (aCons (eVar 2) (aCons (eC (.int 8)) aNil))) aNil)) (.nm 16) tYesM (eApp m__law_draw (aCons (eVar 2) (aCons (eVar 3) aNil))) [16]))) (sSeq (sSet 10 (eIf (tVal (eBin oGt (eApp m__law_draw (aCons (eVar 2) (aCons (eC (.int 8)) aNil))) (eC (.int 0)))) (eBin (oAdd false) (eApp (f1 bTuple) (aCons (eVar 9) aNil)) (eTup (aCons (eC (.int 1)) aNil))) (eTup (aCons (eC (.int 1)) aNil)))) (sSeq (sSet 11 (eApp (f1 bTuple) (aCons (eComp false (iRange1 (aCons (eApp (f1 bLen) (aCons (eVar 10) aNil)) aNil)) (.nm 16) (tVal (eBin neE (eBin oIx (eVar 10) (eVar 16)) (eC (.int 0)))) (eTup (aCons (eVar 16) (aCons (eBin oIx (eVar 10) (eVar 16)) aNil))) [16]) aNil))) (sSeq (sSet 5 (eBin (oAdd false) (eVar 5) (eLst false (aCons (eBin (oInt "Rule" m_RuleX_lshiftX) (eBin oIx (eVar 5) (eC (.int 0))) (eVar 6)) (aCons (eCm "Rule" m_Rule_of_polynomial (eC (.gl "Rule")) (aCons (eVar 3) (aCons (eVar 10) aNil))) aNil))))) (sSeq (sSet 5 (eBin (oAdd false) (eVar 5) (eLst false (aCons (eCmK "Rule" (fun ds S => m_Rule_of_polynomial (pick [0, 2, 1] ds ++ []) S) 0 2 (eC (.gl "Rule")) aNil (aCons (eVar 10) (aCons (eVar 3) aNil))) aNil)))) (sSeq (sFor (iZip (aCons (eVar 5) (aCons (eLst false (aCons (eVar 4) (aCons (eVar 4) (aCons (eTup aNil) (aCons (eVar 8) (aCons (eVar 11) (aCons (eVar 11) aNil))))))) aNil))) (gT [(gN 12), (gN 13)]) (sIf (tNotM (tVal (eApp m__law_is_one (aCons (eVar 12) (aCons (eVar 3) (aCons (eVar 13) aNil)))))) (sRet (eC (.bl false))) sNext)) (sIf (tVal (eBin neE (eComp false (iSeq (eProp "Rule" (noX m_Rule_rule) (eBin oIx (eVar 5) (eC (.int 0))))) (.nm 17) (tVal (eBin neE (eBin (oIxO "Rule" m_RuleX_getitemX) (eBin oIx (eVar 5) (eC (.int 0))) (eBin oIx (eVar 17) (eC (.int 0)))) (eBin oIx (eVar 17) (eC (.int 1))))) (eVar 17) [17]) (eLst false aNil))) (sRet (eC (.bl false))) sNext)))))))))))))))) (sRet (eC (.bl true))))
noncomputable def m_law : FM := mFn 1 17 false b_law
def d_law : DefL := ⟨.glo "law", "law", "law", defArgs st_law, defBody st_law, defScope st_law, []⟩
/-! ### facts -/
def fa : List He.Fa := [.free "int", .glo "_law_bag", .glo "_law_draw", .glo "_law_base", .free "range", .free "tuple", .glo "_law_pairs", .free "list", .free "sorted", .glo "_law_summed", .glo "_law_spread", .free "isinstance", .free "bool", .glo "is_number", .glo "is_prime", .glo "need_prime", .free "len", .glo "is_whole", .glo "is_pair", .free "all", .free "zip", .glo "fits_rule", .glo "need_rule", .glo "Rule", .cls "Rule", .noat "Rule" "base", .noat "Rule" "pairs", .mkr "Rule", .free "repr", .glo "need_step", .free "sum", .glo "_law_is_one", .glo "fits_polynomial", .glo "need_polynomial", .free "enumerate", .glo "rule_of", .glo "pairs_moved", .glo "law"]
def fx : List Fx := [.rep "PRIMES" (.tup [.int 2, .int 3, .int 5]), .prp "Rule" "rule", .prp "Rule" "prime", .own "Rule" "__bool__", .own "Rule" "__len__", .own "Rule" "__getitem__", .cm "Rule" "of_polynomial", .own "Rule" "__lshift__", .iS "Rule" .LShift, .isd "Rule", .isC "Rule" "Rule" true, .tIs "NoneType" "Rule" false, .tIs "bool" "Rule" false, .tIs "int" "Rule" false, .tIs "str" "Rule" false, .tIs "tuple" "Rule" false, .tIs "list" "Rule" false, .tIs "dict" "Rule" false]
def fn : List DefL := [d__law_bag, d__law_draw, d__law_base, d__law_pairs, d__law_summed, d__law_spread, d_is_number, d_is_prime, d_need_prime, d_is_whole, d_is_pair, d_fits_rule, d_need_rule, d_RuleX_initX, d_Rule_rule, d_Rule_prime, d_RuleX_boolX, d_RuleX_lenX, d_need_step, d_RuleX_getitemX, d__law_is_one, d_fits_polynomial, d_need_polynomial, d_rule_of, d_Rule_of_polynomial, d_pairs_moved, d_RuleX_lshiftX, d_law]
abbrev Says (K : PySem.W.Frag) : Prop := SaysL fa fx fn K
section
variable {K : PySem.W.Frag} {mg : Str → Option Value} {h : Heap} {X : Cx}
theorem gl__law_bag (KX : K.In h) (G : h.Ns mainGlobals mg) (c : Says K) : mg "_law_bag" = some (.ref (ga K "_law_bag")) := He.glo_ok KX G (c.fa_ 1)
theorem gl__law_draw (KX : K.In h) (G : h.Ns mainGlobals mg) (c : Says K) : mg "_law_draw" = some (.ref (ga K "_law_draw")) := He.glo_ok KX G (c.fa_ 2)
theorem gl__law_base (KX : K.In h) (G : h.Ns mainGlobals mg) (c : Says K) : mg "_law_base" = some (.ref (ga K "_law_base")) := He.glo_ok KX G (c.fa_ 3)
theorem gl__law_pairs (KX : K.In h) (G : h.Ns mainGlobals mg) (c : Says K) : mg "_law_pairs" = some (.ref (ga K "_law_pairs")) := He.glo_ok KX G (c.fa_ 6)
theorem gl__law_summed (KX : K.In h) (G : h.Ns mainGlobals mg) (c : Says K) : mg "_law_summed" = some (.ref (ga K "_law_summed")) := He.glo_ok KX G (c.fa_ 9)
theorem gl__law_spread (KX : K.In h) (G : h.Ns mainGlobals mg) (c : Says K) : mg "_law_spread" = some (.ref (ga K "_law_spread")) := He.glo_ok KX G (c.fa_ 10)
theorem gl_is_number (KX : K.In h) (G : h.Ns mainGlobals mg) (c : Says K) : mg "is_number" = some (.ref (ga K "is_number")) := He.glo_ok KX G (c.fa_ 13)
theorem gl_is_prime (KX : K.In h) (G : h.Ns mainGlobals mg) (c : Says K) : mg "is_prime" = some (.ref (ga K "is_prime")) := He.glo_ok KX G (c.fa_ 14)
theorem gl_need_prime (KX : K.In h) (G : h.Ns mainGlobals mg) (c : Says K) : mg "need_prime" = some (.ref (ga K "need_prime")) := He.glo_ok KX G (c.fa_ 15)
theorem gl_is_whole (KX : K.In h) (G : h.Ns mainGlobals mg) (c : Says K) : mg "is_whole" = some (.ref (ga K "is_whole")) := He.glo_ok KX G (c.fa_ 17)
theorem gl_is_pair (KX : K.In h) (G : h.Ns mainGlobals mg) (c : Says K) : mg "is_pair" = some (.ref (ga K "is_pair")) := He.glo_ok KX G (c.fa_ 18)
theorem gl_fits_rule (KX : K.In h) (G : h.Ns mainGlobals mg) (c : Says K) : mg "fits_rule" = some (.ref (ga K "fits_rule")) := He.glo_ok KX G (c.fa_ 21)
theorem gl_need_rule (KX : K.In h) (G : h.Ns mainGlobals mg) (c : Says K) : mg "need_rule" = some (.ref (ga K "need_rule")) := He.glo_ok KX G (c.fa_ 22)
theorem gl_Rule (KX : K.In h) (G : h.Ns mainGlobals mg) (c : Says K) : mg "Rule" = some (.ref (ga K "Rule")) := He.glo_ok KX G (c.fa_ 23)
theorem gl_need_step (KX : K.In h) (G : h.Ns mainGlobals mg) (c : Says K) : mg "need_step" = some (.ref (ga K "need_step")) := He.glo_ok KX G (c.fa_ 29)
theorem gl__law_is_one (KX : K.In h) (G : h.Ns mainGlobals mg) (c : Says K) : mg "_law_is_one" = some (.ref (ga K "_law_is_one")) := He.glo_ok KX G (c.fa_ 31)
theorem gl_fits_polynomial (KX : K.In h) (G : h.Ns mainGlobals mg) (c : Says K) : mg "fits_polynomial" = some (.ref (ga K "fits_polynomial")) := He.glo_ok KX G (c.fa_ 32)
theorem gl_need_polynomial (KX : K.In h) (G : h.Ns mainGlobals mg) (c : Says K) : mg "need_polynomial" = some (.ref (ga K "need_polynomial")) := He.glo_ok KX G (c.fa_ 33)
theorem gl_rule_of (KX : K.In h) (G : h.Ns mainGlobals mg) (c : Says K) : mg "rule_of" = some (.ref (ga K "rule_of")) := He.glo_ok KX G (c.fa_ 35)
theorem gl_pairs_moved (KX : K.In h) (G : h.Ns mainGlobals mg) (c : Says K) : mg "pairs_moved" = some (.ref (ga K "pairs_moved")) := He.glo_ok KX G (c.fa_ 36)
theorem gl_law (KX : K.In h) (G : h.Ns mainGlobals mg) (c : Says K) : mg "law" = some (.ref (ga K "law")) := He.glo_ok KX G (c.fa_ 37)
theorem bt_int (KX : K.In h) (G : h.Ns mainGlobals mg) (c : Says K) : mg "int" = none := He.free_ok KX G (c.fa_ 0)
theorem bt_range (KX : K.In h) (G : h.Ns mainGlobals mg) (c : Says K) : mg "range" = none := He.free_ok KX G (c.fa_ 4)
theorem bt_tuple (KX : K.In h) (G : h.Ns mainGlobals mg) (c : Says K) : mg "tuple" = none := He.free_ok KX G (c.fa_ 5)
theorem bt_list (KX : K.In h) (G : h.Ns mainGlobals mg) (c : Says K) : mg "list" = none := He.free_ok KX G (c.fa_ 7)
theorem bt_sorted (KX : K.In h) (G : h.Ns mainGlobals mg) (c : Says K) : mg "sorted" = none := He.free_ok KX G (c.fa_ 8)
theorem bt_isinstance (KX : K.In h) (G : h.Ns mainGlobals mg) (c : Says K) : mg "isinstance" = none := He.free_ok KX G (c.fa_ 11)
theorem bt_bool (KX : K.In h) (G : h.Ns mainGlobals mg) (c : Says K) : mg "bool" = none := He.free_ok KX G (c.fa_ 12)
theorem bt_len (KX : K.In h) (G : h.Ns mainGlobals mg) (c : Says K) : mg "len" = none := He.free_ok KX G (c.fa_ 16)
theorem bt_all (KX : K.In h) (G : h.Ns mainGlobals mg) (c : Says K) : mg "all" = none := He.free_ok KX G (c.fa_ 19)
theorem bt_zip (KX : K.In h) (G : h.Ns mainGlobals mg) (c : Says K) : mg "zip" = none := He.free_ok KX G (c.fa_ 20)
theorem bt_repr (KX : K.In h) (G : h.Ns mainGlobals mg) (c : Says K) : mg "repr" = none := He.free_ok KX G (c.fa_ 28)
theorem bt_sum (KX : K.In h) (G : h.Ns mainGlobals mg) (c : Says K) : mg "sum" = none := He.free_ok KX G (c.fa_ 30)
theorem bt_enumerate (KX : K.In h) (G : h.Ns mainGlobals mg) (c : Says K) : mg "enumerate" = none := He.free_ok KX G (c.fa_ 34)
theorem rp_PRIMES (KX : K.In h) (G : h.Ns mainGlobals mg) (c : Says K) : ∃ u v, mg "PRIMES" = some u ∧ RelV v u ∧ ∀ w, RepV K mg w (.tup [.int 2, .int 3, .int 5]) v := rep_ok KX G (c.fx_ 0)
theorem ow_Rule_XboolX (KX : X.K.In h) (G : h.Ns mainGlobals X.mg) (c : Says X.K) : OwnD X "Rule" (ga X.K "Rule") "__bool__" (ma X.K (ga X.K "Rule") "__bool__") := own_ok (c.fx_ 3) (gl_Rule KX G c)
theorem ow_Rule_XgetitemX (KX : X.K.In h) (G : h.Ns mainGlobals X.mg) (c : Says X.K) : OwnD X "Rule" (ga X.K "Rule") "__getitem__" (ma X.K (ga X.K "Rule") "__getitem__") := own_ok (c.fx_ 5) (gl_Rule KX G c)
theorem ow_Rule_XlenX (KX : X.K.In h) (G : h.Ns mainGlobals X.mg) (c : Says X.K) : OwnD X "Rule" (ga X.K "Rule") "__len__" (ma X.K (ga X.K "Rule") "__len__") := own_ok (c.fx_ 4) (gl_Rule KX G c)
theorem ow_Rule_XlshiftX (KX : X.K.In h) (G : h.Ns mainGlobals X.mg) (c : Says X.K) : OwnD X "Rule" (ga X.K "Rule") "__lshift__" (ma X.K (ga X.K "Rule") "__lshift__") := own_ok (c.fx_ 7) (gl_Rule KX G c)
theorem pf_base (KX : X.K.In h) (G : h.Ns mainGlobals X.mg) (c : Says X.K) : Plain X ["Rule"] "base" := fun z hz => by
  simp only [List.mem_cons, List.not_mem_nil, or_false] at hz
  subst hz; exact ⟨_, gl_Rule KX G c, He.cls_ok (c.fa_ 24), He.noat_ok (c.fa_ 25)⟩
theorem pf_pairs (KX : X.K.In h) (G : h.Ns mainGlobals X.mg) (c : Says X.K) : Plain X ["Rule"] "pairs" := fun z hz => by
  simp only [List.mem_cons, List.not_mem_nil, or_false] at hz
  subst hz; exact ⟨_, gl_Rule KX G c, He.cls_ok (c.fa_ 24), He.noat_ok (c.fa_ 26)⟩
theorem mk_Rule (c : Says K) : Mk K (ga K "Rule") (ma K (ga K "Rule") "__init__") := He.mkr_ok (c.fa_ 27)
theorem pr_Rule_prime (KX : X.K.In h) (G : h.Ns mainGlobals X.mg) (c : Says X.K) : PrpD X "Rule" (ga X.K "Rule") "prime" (ma X.K (ga X.K "Rule") "prime") (recA X.K (ma X.K (ga X.K "Rule") "prime") "property") := prp_ok (c.fx_ 2) (gl_Rule KX G c) (c.fa_ 24)
theorem pr_Rule_rule (KX : X.K.In h) (G : h.Ns mainGlobals X.mg) (c : Says X.K) : PrpD X "Rule" (ga X.K "Rule") "rule" (ma X.K (ga X.K "Rule") "rule") (recA X.K (ma X.K (ga X.K "Rule") "rule") "property") := prp_ok (c.fx_ 1) (gl_Rule KX G c) (c.fa_ 24)
theorem cm_Rule_of_polynomial (KX : X.K.In h) (G : h.Ns mainGlobals X.mg) (c : Says X.K) : CmD X "Rule" (ga X.K "Rule") "of_polynomial" (recA X.K (ma X.K (ga X.K "Rule") "of_polynomial") "classmethod") := cm_ok (c.fx_ 6) (gl_Rule KX G c)
theorem is_Rule_LShift (c : Says X.K) : IntSide X (ga X.K "Rule") .LShift := side_ok (c.fx_ 8)
theorem isi_ok (KX : X.K.In h) (G : h.Ns mainGlobals X.mg) (c : Says X.K) : IsiOk X tab.own := by
  refine isTab_ok (fun f hf => ?_) (fun p hp => ?_) (fun p hp => ?_) (fun p hp => ?_)
  · have hf2 : f ∈ ([.isC "Rule" "Rule" true, .tIs "NoneType" "Rule" false, .tIs "bool" "Rule" false, .tIs "int" "Rule" false, .tIs "str" "Rule" false, .tIs "tuple" "Rule" false, .tIs "list" "Rule" false, .tIs "dict" "Rule" false] : List Fx) := hf
    simp only [List.mem_cons, List.not_mem_nil, or_false] at hf2
    rcases hf2 with rfl | rfl | rfl | rfl | rfl | rfl | rfl | rfl
    · exact c.fx_ 10
    · exact c.fx_ 11
    · exact c.fx_ 12
    · exact c.fx_ 13
    · exact c.fx_ 14
    · exact c.fx_ 15
    · exact c.fx_ 16
    · exact c.fx_ 17
  · simp only [tab, List.mem_cons, List.not_mem_nil, or_false] at hp
    rcases hp with rfl
    exact ⟨c.fx_ 9, c.fa_ 24, gl_Rule KX G c⟩
  · simp only [tab, List.mem_cons, List.not_mem_nil, or_false] at hp
    rcases hp with rfl
    exact gl_Rule KX G c
  · simp only [tab, List.mem_cons, List.not_mem_nil, or_false] at hp
    rcases hp with rfl | rfl | rfl | rfl | rfl | rfl | rfl
    · exact gl_Rule KX G c
    · exact gl_Rule KX G c
    · exact gl_Rule KX G c
    · exact gl_Rule KX G c
    · exact gl_Rule KX G c
    · exact gl_Rule KX G c
    · exact gl_Rule KX G c
theorem kt0 {f : Addr} {fd : FuncData} (F : FunD K d_RuleX_initX.name d_RuleX_initX.qual d_RuleX_initX.params d_RuleX_initX.body d_RuleX_initX.scope (d_RuleX_initX.dvs K) [] f fd) : KwTo K fd ps_RuleX_initX 1 ["rule", "prime"] [0, 2, 1] [] := fun s us ws h1 h2 _ => by
  obtain ⟨oc, od, dV, kV, doc, pm, an, cdv, ct, osl, rfl, lk, hcd, hD, hK⟩ := F.ex
  rcases hD with ⟨_, rfl⟩ | ⟨e, _⟩
  · match us, ws, h1, h2 with
    | [_], [_, _], _, _ => exact .of_eq rfl
  · exact absurd rfl e
theorem kt1 {f : Addr} {fd : FuncData} (F : FunD K d_Rule_of_polynomial.name d_Rule_of_polynomial.qual d_Rule_of_polynomial.params d_Rule_of_polynomial.body d_Rule_of_polynomial.scope (d_Rule_of_polynomial.dvs K) [] f fd) : KwTo K fd ps_Rule_of_polynomial 1 ["polynomial", "prime"] [0, 2, 1] [] := fun s us ws h1 h2 _ => by
  obtain ⟨oc, od, dV, kV, doc, pm, an, cdv, ct, osl, rfl, lk, hcd, hD, hK⟩ := F.ex
  rcases hD with ⟨_, rfl⟩ | ⟨e, _⟩
  · match us, ws, h1, h2 with
    | [_], [_, _], _, _ => exact .of_eq rfl
  · exact absurd rfl e
end
/-! ### each def -/
section
variable {P : Program} {w : World} {K : PySem.W.Frag} {mg : Str → Option Value} {base h : Heap}
theorem g__law_bag (KX : K.In h) (G : h.Ns mainGlobals mg) (c : Says K) : ∃ fd, FunD K d__law_bag.name d__law_bag.qual d__law_bag.params d__law_bag.body d__law_bag.scope (d__law_bag.dvs K) [] (d__law_bag.loc.at K) fd ∧ FnG P w K mg base 3 (d__law_bag.loc.at K) fd ps__law_bag m__law_bag ∧ Binds K fd ps__law_bag [] ∧ PySem.W.keepIn K (.ref (d__law_bag.loc.at K)) = true := by
  obtain ⟨fd, F⟩ := c.fn_ 0 (d := d__law_bag) rfl
  refine ⟨fd, F, fnG_of (k := 2) true F sc__law_bag fun cdv A outer s H E hr hgd => ?_, F.bindsN (fun _ _ _ _ _ _ us hl => match us, hl with | [_], _ => rfl), F.kp⟩
  exact (ssd_cons (sd_name (i := 1) sc__law_bag.nd rfl (by first | exact Or.inl rfl | exact Or.inr rfl) pd_int) (ssd_cons (sd_if (td_cmp od_ge (pdv 0) (pd_bin od_pow pd_int pd_int) (by rfl)) (ssd_one (sd_name (i := 1) sc__law_bag.nd rfl (by first | exact Or.inl rfl | exact Or.inr rfl) (pd_bin od_sub (pdv 0) (pd_bin od_pow pd_int pd_int)))) ssd_nil) (ssd_one (sd_ret (pd_lst true (pad_cons (pdv 1) (pad_cons (pd_bin od_mod (pd_callTy cd_int rfl (bt_int KX G c) PyProof.Rows.boot_int (pad_cons (pdv 0) pad_nil)) pd_int) (pad_cons pd_int pad_nil))))))))
theorem g__law_draw (KX : K.In h) (G : h.Ns mainGlobals mg) (c : Says K) : ∃ fd, FunD K d__law_draw.name d__law_draw.qual d__law_draw.params d__law_draw.body d__law_draw.scope (d__law_draw.dvs K) [] (d__law_draw.loc.at K) fd ∧ FnG P w K mg base 3 (d__law_draw.loc.at K) fd ps__law_draw m__law_draw ∧ Binds K fd ps__law_draw [] ∧ PySem.W.keepIn K (.ref (d__law_draw.loc.at K)) = true := by
  obtain ⟨fd, F⟩ := c.fn_ 1 (d := d__law_draw) rfl
  refine ⟨fd, F, fnG_of (k := 2) true F sc__law_draw fun cdv A outer s H E hr hgd => ?_, F.bindsN (fun _ _ _ _ _ _ us hl => match us, hl with | [_, _], _ => rfl), F.kp⟩
  exact (ssd_cons (sd_if (td_cmp od_gt (pd_ix (pdv 0) pd_int (by intro _ _; rfl)) pd_int (by rfl)) (ssd_cons (sd_name (i := 2) sc__law_draw.nd rfl (by first | exact Or.inl rfl | exact Or.inr rfl) (pd_bin od_mod (pd_callTy cd_int rfl (bt_int KX G c) PyProof.Rows.boot_int (pad_cons (pd_ix (pdv 0) pd_int (by intro _ _; rfl)) pad_nil)) (pdv 1))) (ssd_cons (sd_asg (gIx_plain) (pd_bin od_fdiv (pd_ix (pdv 0) pd_int (by intro _ _; rfl)) (pdv 1)) (gd_ix (hu_of hr) (pdv 0) pd_int)) (ssd_one (sd_ret (pdv 2))))) ssd_nil) (ssd_cons (sd_asg (gIx_plain) (pd_bin (od_add false) (pd_ix (pdv 0) pd_int (by intro _ _; rfl)) pd_int) (gd_ix (hu_of hr) (pdv 0) pd_int)) (ssd_cons (sd_name (i := 3) sc__law_draw.nd rfl (by first | exact Or.inl rfl | exact Or.inr rfl) (pd_ix (pdv 0) pd_int (by intro _ _; rfl))) (ssd_cons (sd_name (i := 4) sc__law_draw.nd rfl (by first | exact Or.inl rfl | exact Or.inr rfl) (pd_bin (od_add false) (pd_bin (od_mul false) (pd_bin (od_add false) (pd_ix (pdv 0) pd_int (by intro _ _; rfl)) pd_int) (pd_bin (od_add false) (pd_bin (od_add false) (pd_bin (od_mul false) (pd_bin (od_mul false) pd_int (pdv 3)) (pdv 3)) (pd_bin (od_mul false) pd_int (pdv 3))) pd_int)) (pd_bin (od_mul false) pd_int (pdv 3)))) (ssd_cons (sd_name (i := 4) sc__law_draw.nd rfl (by first | exact Or.inl rfl | exact Or.inr rfl) (pd_bin od_fdiv (pd_bin od_mod (pd_callTy cd_int rfl (bt_int KX G c) PyProof.Rows.boot_int (pad_cons (pd_bin (od_add false) (pd_bin (od_mul false) (pdv 4) (pdv 4)) (pd_bin (od_mul false) pd_int (pdv 4))) pad_nil)) pd_int) pd_int)) (ssd_one (sd_ret (pd_bin od_mod (pd_bin od_fdiv (pd_bin od_mod (pd_callTy cd_int rfl (bt_int KX G c) PyProof.Rows.boot_int (pad_cons (pd_bin (od_add false) (pd_bin (od_add false) (pd_bin (od_mul false) (pdv 4) (pdv 4)) (pd_bin (od_mul false) pd_int (pdv 4))) (pdv 3)) pad_nil)) pd_int) pd_int) (pdv 1)))))))))
theorem g__law_base (KX : K.In h) (G : h.Ns mainGlobals mg) (c : Says K) : ∃ fd, FunD K d__law_base.name d__law_base.qual d__law_base.params d__law_base.body d__law_base.scope (d__law_base.dvs K) [] (d__law_base.loc.at K) fd ∧ FnG P w K mg base 6 (d__law_base.loc.at K) fd ps__law_base m__law_base ∧ Binds K fd ps__law_base [] ∧ PySem.W.keepIn K (.ref (d__law_base.loc.at K)) = true := by
  obtain ⟨fd, F⟩ := c.fn_ 2 (d := d__law_base) rfl
  obtain ⟨fd__law_draw, F__law_draw, G__law_draw, B__law_draw, K__law_draw⟩ := g__law_draw (P := P) (w := w) (base := base) KX G c
  refine ⟨fd, F, fnG_of (k := 5) true F sc__law_base fun cdv A outer s H E hr hgd => ?_, F.bindsN (fun _ _ _ _ _ _ us hl => match us, hl with | [_], _ => rfl), F.kp⟩
  exact (ssd_one (sd_ret (pd_ix (pd_lst false (pad_cons pd_int (pad_cons pd_int (pad_cons pd_int pad_nil)))) (pd_callN (FnD.cd (fnD_all G__law_draw (hr.mono (by decide)) hgd (takes_of rfl rfl rfl rfl) B__law_draw)) rfl (gl__law_draw KX G c) K__law_draw (pad_cons (pdv 0) (pad_cons pd_int pad_nil))) (by intro _ _; rfl))))
theorem g__law_pairs (KX : K.In h) (G : h.Ns mainGlobals mg) (c : Says K) : ∃ fd, FunD K d__law_pairs.name d__law_pairs.qual d__law_pairs.params d__law_pairs.body d__law_pairs.scope (d__law_pairs.dvs K) [] (d__law_pairs.loc.at K) fd ∧ FnG P w K mg base 6 (d__law_pairs.loc.at K) fd ps__law_pairs m__law_pairs ∧ Binds K fd ps__law_pairs [] ∧ PySem.W.keepIn K (.ref (d__law_pairs.loc.at K)) = true := by
  obtain ⟨fd, F⟩ := c.fn_ 3 (d := d__law_pairs) rfl
  obtain ⟨fd__law_draw, F__law_draw, G__law_draw, B__law_draw, K__law_draw⟩ := g__law_draw (P := P) (w := w) (base := base) KX G c
  refine ⟨fd, F, fnG_of (k := 5) true F sc__law_pairs fun cdv A outer s H E hr hgd => ?_, F.bindsN (fun _ _ _ _ _ _ us hl => match us, hl with | [_, _, _], _ => rfl), F.kp⟩
  exact (ssd_cons (sd_name (i := 3) sc__law_pairs.nd rfl (by first | exact Or.inl rfl | exact Or.inr rfl) (pd_ix (pd_lst false (pad_cons pd_int (pad_cons pd_int (pad_cons pd_int pad_nil)))) (pd_callN (FnD.cd (fnD_all G__law_draw (hr.mono (by decide)) hgd (takes_of rfl rfl rfl rfl) B__law_draw)) rfl (gl__law_draw KX G c) K__law_draw (pad_cons (pdv 0) (pad_cons pd_int pad_nil))) (by intro _ _; rfl))) (ssd_cons (sd_setCompV [("_law_k", 5)] false (i := 4) rfl sc__law_pairs.nd rfl rfl (sw_true rfl rfl rfl rfl) (show BlkOk N__law_pairs (defScope st__law_pairs) _ [("_law_k", 5)] from blkOk_by (by decide +kernel)) (pid_range1 rfl (bt_range KX G c) (pad_cons (pd_bin (od_add false) (pd_bin (od_mul false) pd_int (pdv 2)) pd_int) pad_nil)) (fun _ _ _ _ _ => (tgt_nm (pg_name (i := 5) sc__law_pairs.nd rfl (by first | exact Or.inl rfl | exact Or.inr rfl)))) (fun _ _ _ _ _ => (ptd_one (td_cmp (od_eqE hr.units) (pd_callN (FnD.cd (fnD_all G__law_draw (hr.mono (by decide)) hgd tk0 B__law_draw)) rfl (gl__law_draw KX G c) K__law_draw (pad_cons (pdv 0) (pad_cons (pdv 3) pad_nil))) pd_int (by rfl)))) (fun _ _ _ _ _ => (pd_tup (pad_cons (pd_bin od_sub (pdv 5) (pdv 2)) (pad_cons (pd_bin (od_add false) pd_int (pd_callN (FnD.cd (fnD_all G__law_draw (hr.mono (by decide)) hgd tk0 B__law_draw)) rfl (gl__law_draw KX G c) K__law_draw (pad_cons (pdv 0) (pad_cons (pd_bin od_sub (pdv 1) pd_int) pad_nil)))) pad_nil))))) (ssd_one (sd_ret (pd_callTy cd_tuple rfl (bt_tuple KX G c) PyProof.Rows.boot_tuple (pad_cons (pdv 4) pad_nil))))))
theorem g__law_summed (KX : K.In h) (G : h.Ns mainGlobals mg) (c : Says K) : ∃ fd, FunD K d__law_summed.name d__law_summed.qual d__law_summed.params d__law_summed.body d__law_summed.scope (d__law_summed.dvs K) [] (d__law_summed.loc.at K) fd ∧ FnG P w K mg base 3 (d__law_summed.loc.at K) fd ps__law_summed m__law_summed ∧ Binds K fd ps__law_summed [] ∧ PySem.W.keepIn K (.ref (d__law_summed.loc.at K)) = true := by
  obtain ⟨fd, F⟩ := c.fn_ 4 (d := d__law_summed) rfl
  refine ⟨fd, F, fnG_of (k := 2) false F sc__law_summed fun cdv A outer s H E hr hgd => ?_, F.bindsN (fun _ _ _ _ _ _ us hl => match us, hl with | [_, _], _ => rfl), F.kp⟩
  exact (ssd_cons (sd_name (i := 2) sc__law_summed.nd rfl (by first | exact Or.inl rfl | exact Or.inr rfl) pd_dic0) (ssd_cons (sd_for (passes_of rfl) rfl (pid_seq (pdv 1)) (gd_tup rfl (gsd_cons (gd_name (pg_name (i := 3) sc__law_summed.nd rfl (by first | exact Or.inl rfl | exact Or.inr rfl))) (gsd_cons (gd_name (pg_name (i := 4) sc__law_summed.nd rfl (by first | exact Or.inl rfl | exact Or.inr rfl))) gsd_nil))) (ssd_one (sd_asg (gIx_plain) (pd_bin od_mod (pd_callTy cd_int rfl (bt_int KX G c) PyProof.Rows.boot_int (pad_cons (pd_bin (od_add false) (pd_met PySem.F.plainAttrs_dict PySem.F.slot_dict_get PySem.F.type_dict_get (md_get (hu_of hr)) (pdv 2) (pad_cons (pdv 3) (pad_cons pd_int pad_nil))) (pdv 4)) pad_nil)) (pdv 0)) (gd_ix (hu_of hr) (pdv 2) (pdv 3))))) (ssd_one (sd_ret (pd_callTy cd_tuple rfl (bt_tuple KX G c) PyProof.Rows.boot_tuple (pad_cons (pd_compV [("_law_offset_here", 3)] false rfl sc__law_summed.nd (show BlkOk N__law_summed (defScope st__law_summed) _ [("_law_offset_here", 3)] from blkOk_by (by decide +kernel)) (pid_seq (pd_callB (cd_sorted rfl false) rfl (bt_sorted KX G c) PyProof.Rows.boot_sorted (pad_cons (pdv 2) pad_nil))) (fun _ _ _ _ _ => (tgt_nm (pg_name (i := 3) sc__law_summed.nd rfl (by first | exact Or.inl rfl | exact Or.inr rfl)))) (fun _ _ _ _ _ => (ptd_one (td_cmp (od_neE hr.units) (pd_dget (hu_of hr) (pdv 2) (pdv 3) (by intro _ _; rfl)) pd_int (by rfl)))) (fun _ _ _ _ _ => (pd_tup (pad_cons (pdv 3) (pad_cons (pd_dget (hu_of hr) (pdv 2) (pdv 3) (by intro _ _; rfl)) pad_nil))))) pad_nil))))))
theorem g__law_spread (KX : K.In h) (G : h.Ns mainGlobals mg) (c : Says K) : ∃ fd, FunD K d__law_spread.name d__law_spread.qual d__law_spread.params d__law_spread.body d__law_spread.scope (d__law_spread.dvs K) [] (d__law_spread.loc.at K) fd ∧ FnG P w K mg base 9 (d__law_spread.loc.at K) fd ps__law_spread m__law_spread ∧ Binds K fd ps__law_spread [] ∧ PySem.W.keepIn K (.ref (d__law_spread.loc.at K)) = true := by
  obtain ⟨fd, F⟩ := c.fn_ 5 (d := d__law_spread) rfl
  obtain ⟨fd__law_pairs, F__law_pairs, G__law_pairs, B__law_pairs, K__law_pairs⟩ := g__law_pairs (P := P) (w := w) (base := base) KX G c
  obtain ⟨fd__law_draw, F__law_draw, G__law_draw, B__law_draw, K__law_draw⟩ := g__law_draw (P := P) (w := w) (base := base) KX G c
  obtain ⟨fd__law_summed, F__law_summed, G__law_summed, B__law_summed, K__law_summed⟩ := g__law_summed (P := P) (w := w) (base := base) KX G c
  refine ⟨fd, F, fnG_of (k := 8) true F sc__law_spread fun cdv A outer s H E hr hgd => ?_, F.bindsN (fun _ _ _ _ _ _ us hl => match us, hl with | [_, _], _ => rfl), F.kp⟩
  exact (ssd_cons (sd_par (i := 2) (j := 3) rfl sc__law_spread.nd rfl rfl (by decide) rfl rfl (pd_callN (FnD.cd (fnD_all G__law_pairs (hr.mono (by decide)) hgd (takes_of rfl rfl rfl rfl) B__law_pairs)) rfl (gl__law_pairs KX G c) K__law_pairs (pad_cons (pdv 0) (pad_cons (pdv 1) (pad_cons pd_int pad_nil)))) (pd_callN (FnD.cd (fnD_all G__law_draw (hr.mono (by decide)) hgd (takes_of rfl rfl rfl rfl) B__law_draw)) rfl (gl__law_draw KX G c) K__law_draw (pad_cons (pdv 0) (pad_cons pd_int pad_nil)))) (ssd_cons (sd_if (td_cmp (od_eqE hr.units) (pdv 3) pd_int (by rfl)) (ssd_one (sd_ret (pdv 2))) ssd_nil) (ssd_cons (sd_name (i := 4) sc__law_spread.nd rfl (by first | exact Or.inl rfl | exact Or.inr rfl) (pd_if (td_cmp od_gt (pdv 3) pd_int (by rfl)) (pd_callTy (cd_list false) rfl (bt_list KX G c) PyProof.Rows.boot_list (pad_cons (pdv 2) pad_nil)) (pd_lst false pad_nil))) (ssd_cons (sd_for (passes_of rfl) rfl (pid_range1 rfl (bt_range KX G c) (pad_cons (pd_ix (pd_lst false (pad_cons pd_int (pad_cons pd_int (pad_cons pd_int (pad_cons pd_int pad_nil))))) (pdv 3) (by intro _ _; rfl)) pad_nil)) (gd_name (pg_name (i := 5) sc__law_spread.nd rfl (by first | exact Or.inl rfl | exact Or.inr rfl))) (ssd_cons (sd_name (i := 6) sc__law_spread.nd rfl (by first | exact Or.inl rfl | exact Or.inr rfl) (pd_lst false (pad_cons (pd_bin od_sub (pd_callN (FnD.cd (fnD_all G__law_draw (hr.mono (by decide)) hgd (takes_of rfl rfl rfl rfl) B__law_draw)) rfl (gl__law_draw KX G c) K__law_draw (pad_cons (pdv 0) (pad_cons pd_int pad_nil))) pd_int) (pad_cons (pd_bin od_sub (pd_bin od_pow pd_int pd_int) (pd_callN (FnD.cd (fnD_all G__law_draw (hr.mono (by decide)) hgd (takes_of rfl rfl rfl rfl) B__law_draw)) rfl (gl__law_draw KX G c) K__law_draw (pad_cons (pdv 0) (pad_cons (pd_bin (od_mul false) pd_int (pd_bin od_pow pd_int pd_int)) pad_nil)))) (pad_cons (pd_bin od_sub (pd_bin od_pow pd_int pd_int) (pd_callN (FnD.cd (fnD_all G__law_draw (hr.mono (by decide)) hgd (takes_of rfl rfl rfl rfl) B__law_draw)) rfl (gl__law_draw KX G c) K__law_draw (pad_cons (pdv 0) (pad_cons (pd_bin (od_mul false) pd_int (pd_bin od_pow pd_int pd_int)) pad_nil)))) pad_nil))))) (ssd_cons (sd_name (i := 7) sc__law_spread.nd rfl (by first | exact Or.inl rfl | exact Or.inr rfl) (pd_ix (pdv 6) (pd_callN (FnD.cd (fnD_all G__law_draw (hr.mono (by decide)) hgd (takes_of rfl rfl rfl rfl) B__law_draw)) rfl (gl__law_draw KX G c) K__law_draw (pad_cons (pdv 0) (pad_cons pd_int pad_nil))) (by intro _ _; rfl))) (ssd_one (sd_name (i := 4) sc__law_spread.nd rfl (by first | exact Or.inl rfl | exact Or.inr rfl) (pd_bin (od_add false) (pdv 4) (pd_compV [("_law_offset_here", 8), ("_law_amount", 9)] false rfl sc__law_spread.nd (show BlkOk N__law_spread (defScope st__law_spread) _ [("_law_offset_here", 8), ("_law_amount", 9)] from blkOk_by (by decide +kernel)) (pid_seq (pd_callN (FnD.cd (fnD_all G__law_pairs (hr.mono (by decide)) hgd (takes_of rfl rfl rfl rfl) B__law_pairs)) rfl (gl__law_pairs KX G c) K__law_pairs (pad_cons (pdv 0) (pad_cons (pdv 1) (pad_cons pd_int pad_nil))))) (fun _ _ _ _ _ => (tgt_tp rfl (tgts_cons (tgt_nm (pg_name (i := 8) sc__law_spread.nd rfl (by first | exact Or.inl rfl | exact Or.inr rfl))) (tgts_cons (tgt_nm (pg_name (i := 9) sc__law_spread.nd rfl (by first | exact Or.inl rfl | exact Or.inr rfl))) tgts_nil)))) (fun _ _ _ _ _ => ptd_nil) (fun _ _ _ _ _ => (pd_tup (pad_cons (pd_bin (od_add false) (pdv 8) (pdv 7)) (pad_cons (pdv 9) pad_nil))))))))))) (ssd_one (sd_ret (pd_callN (FnD.cd (fnD_all G__law_summed (hr.mono (by decide)) hgd (takes_of rfl rfl rfl rfl) B__law_summed)) rfl (gl__law_summed KX G c) K__law_summed (pad_cons (pdv 1) (pad_cons (pdv 4) pad_nil)))))))))
theorem g_is_number (KX : K.In h) (G : h.Ns mainGlobals mg) (c : Says K) : ∃ fd, FunD K d_is_number.name d_is_number.qual d_is_number.params d_is_number.body d_is_number.scope (d_is_number.dvs K) [] (d_is_number.loc.at K) fd ∧ FnG P w K mg base 3 (d_is_number.loc.at K) fd ps_is_number m_is_number ∧ Binds K fd ps_is_number [] ∧ PySem.W.keepIn K (.ref (d_is_number.loc.at K)) = true := by
  obtain ⟨fd, F⟩ := c.fn_ 6 (d := d_is_number) rfl
  refine ⟨fd, F, fnG_of (k := 2) true F sc_is_number fun cdv A outer s H E hr hgd => ?_, F.bindsN (fun _ _ _ _ _ _ us hl => match us, hl with | [_], _ => rfl), F.kp⟩
  exact (ssd_one (sd_ret (pd_and (pd_callB (cd_isi (isi_ok KX G c) noIsT) rfl (bt_isinstance KX G c) PyProof.Rows.boot_isinstance (pad_cons (pdv 0) (pad_cons (pd_ty rfl (bt_int KX G c) PyProof.Rows.boot_int) pad_nil))) (pd_one (pd_not (pd_callB (cd_isi (isi_ok KX G c) noIsT) rfl (bt_isinstance KX G c) PyProof.Rows.boot_isinstance (pad_cons (pdv 0) (pad_cons (pd_ty rfl (bt_bool KX G c) PyProof.Rows.boot_bool) pad_nil))))))))
theorem g_is_prime (KX : K.In h) (G : h.Ns mainGlobals mg) (c : Says K) : ∃ fd, FunD K d_is_prime.name d_is_prime.qual d_is_prime.params d_is_prime.body d_is_prime.scope (d_is_prime.dvs K) [] (d_is_prime.loc.at K) fd ∧ FnG P w K mg base 6 (d_is_prime.loc.at K) fd ps_is_prime m_is_prime ∧ Binds K fd ps_is_prime [] ∧ PySem.W.keepIn K (.ref (d_is_prime.loc.at K)) = true := by
  obtain ⟨fd, F⟩ := c.fn_ 7 (d := d_is_prime) rfl
  obtain ⟨fd_is_number, F_is_number, G_is_number, B_is_number, K_is_number⟩ := g_is_number (P := P) (w := w) (base := base) KX G c
  refine ⟨fd, F, fnG_of (k := 5) true F sc_is_prime fun cdv A outer s H E hr hgd => ?_, F.bindsN (fun _ _ _ _ _ _ us hl => match us, hl with | [_], _ => rfl), F.kp⟩
  exact (ssd_one (sd_ret (pd_and (pd_callN (FnD.cd (fnD_all G_is_number (hr.mono (by decide)) hgd (takes_of rfl rfl rfl rfl) B_is_number)) rfl (gl_is_number KX G c) K_is_number (pad_cons (pdv 0) pad_nil)) (pd_one (pd_cmp od_in (pdv 0) (pd_glv rfl (rp_PRIMES KX G c)) (by rfl))))))
theorem g_need_prime (KX : K.In h) (G : h.Ns mainGlobals mg) (c : Says K) : ∃ fd, FunD K d_need_prime.name d_need_prime.qual d_need_prime.params d_need_prime.body d_need_prime.scope (d_need_prime.dvs K) [] (d_need_prime.loc.at K) fd ∧ FnG P w K mg base 9 (d_need_prime.loc.at K) fd ps_need_prime m_need_prime ∧ Binds K fd ps_need_prime [] ∧ PySem.W.keepIn K (.ref (d_need_prime.loc.at K)) = true := by
  obtain ⟨fd, F⟩ := c.fn_ 8 (d := d_need_prime) rfl
  obtain ⟨fd_is_prime, F_is_prime, G_is_prime, B_is_prime, K_is_prime⟩ := g_is_prime (P := P) (w := w) (base := base) KX G c
  refine ⟨fd, F, fnG_of (k := 8) true F sc_need_prime fun cdv A outer s H E hr hgd => ?_, F.bindsN (fun _ _ _ _ _ _ us hl => match us, hl with | [_], _ => rfl), F.kp⟩
  exact (ssd_one (sd_if (td_not (td_val (pd_callN (FnD.cd (fnD_all G_is_prime (hr.mono (by decide)) hgd (takes_of rfl rfl rfl rfl) B_is_prime)) rfl (gl_is_prime KX G c) K_is_prime (pad_cons (pdv 0) pad_nil)))) (ssd_one sd_stuck) ssd_nil))
theorem g_is_whole (KX : K.In h) (G : h.Ns mainGlobals mg) (c : Says K) : ∃ fd, FunD K d_is_whole.name d_is_whole.qual d_is_whole.params d_is_whole.body d_is_whole.scope (d_is_whole.dvs K) [] (d_is_whole.loc.at K) fd ∧ FnG P w K mg base 6 (d_is_whole.loc.at K) fd ps_is_whole m_is_whole ∧ Binds K fd ps_is_whole [] ∧ PySem.W.keepIn K (.ref (d_is_whole.loc.at K)) = true := by
  obtain ⟨fd, F⟩ := c.fn_ 9 (d := d_is_whole) rfl
  obtain ⟨fd_is_number, F_is_number, G_is_number, B_is_number, K_is_number⟩ := g_is_number (P := P) (w := w) (base := base) KX G c
  refine ⟨fd, F, fnG_of (k := 5) true F sc_is_whole fun cdv A outer s H E hr hgd => ?_, F.bindsN (fun _ _ _ _ _ _ us hl => match us, hl with | [_, _, _], _ => rfl), F.kp⟩
  exact (ssd_one (sd_ret (pd_and (pd_callN (FnD.cd (fnD_all G_is_number (hr.mono (by decide)) hgd (takes_of rfl rfl rfl rfl) B_is_number)) rfl (gl_is_number KX G c) K_is_number (pad_cons (pdv 0) pad_nil)) (pd_one (pd_chain op_le op_le (pdv 1) (pdv 0) (pdv 2))))))
theorem g_is_pair (KX : K.In h) (G : h.Ns mainGlobals mg) (c : Says K) : ∃ fd, FunD K d_is_pair.name d_is_pair.qual d_is_pair.params d_is_pair.body d_is_pair.scope (d_is_pair.dvs K) [] (d_is_pair.loc.at K) fd ∧ FnG P w K mg base 9 (d_is_pair.loc.at K) fd ps_is_pair m_is_pair ∧ Binds K fd ps_is_pair [] ∧ PySem.W.keepIn K (.ref (d_is_pair.loc.at K)) = true := by
  obtain ⟨fd, F⟩ := c.fn_ 10 (d := d_is_pair) rfl
  obtain ⟨fd_is_number, F_is_number, G_is_number, B_is_number, K_is_number⟩ := g_is_number (P := P) (w := w) (base := base) KX G c
  obtain ⟨fd_is_whole, F_is_whole, G_is_whole, B_is_whole, K_is_whole⟩ := g_is_whole (P := P) (w := w) (base := base) KX G c
  refine ⟨fd, F, fnG_of (k := 8) true F sc_is_pair fun cdv A outer s H E hr hgd => ?_, F.bindsN (fun _ _ _ _ _ _ us hl => match us, hl with | [_, _], _ => rfl), F.kp⟩
  exact (ssd_one (sd_ret (pd_and (pd_callB (cd_isi (isi_ok KX G c) noIsT) rfl (bt_isinstance KX G c) PyProof.Rows.boot_isinstance (pad_cons (pdv 1) (pad_cons (pd_ty rfl (bt_tuple KX G c) PyProof.Rows.boot_tuple) pad_nil))) (pd_and (pd_cmp (od_eqE hr.units) (pd_callB cd_len rfl (bt_len KX G c) (by decide +kernel) (pad_cons (pdv 1) pad_nil)) pd_int (by rfl)) (pd_and (pd_callN (FnD.cd (fnD_all G_is_number (hr.mono (by decide)) hgd (takes_of rfl rfl rfl rfl) B_is_number)) rfl (gl_is_number KX G c) K_is_number (pad_cons (pd_ix (pdv 1) pd_int (by intro _ _; rfl)) pad_nil)) (pd_one (pd_callN (FnD.cd (fnD_all G_is_whole (hr.mono (by decide)) hgd (takes_of rfl rfl rfl rfl) B_is_whole)) rfl (gl_is_whole KX G c) K_is_whole (pad_cons (pd_ix (pdv 1) pd_int (by intro _ _; rfl)) (pad_cons pd_int (pad_cons (pd_bin od_sub (pdv 0) pd_int) pad_nil))))))))))
theorem g_fits_rule (KX : K.In h) (G : h.Ns mainGlobals mg) (c : Says K) : ∃ fd, FunD K d_fits_rule.name d_fits_rule.qual d_fits_rule.params d_fits_rule.body d_fits_rule.scope (d_fits_rule.dvs K) [] (d_fits_rule.loc.at K) fd ∧ FnG P w K mg base 12 (d_fits_rule.loc.at K) fd ps_fits_rule m_fits_rule ∧ Binds K fd ps_fits_rule [] ∧ PySem.W.keepIn K (.ref (d_fits_rule.loc.at K)) = true := by
  obtain ⟨fd, F⟩ := c.fn_ 11 (d := d_fits_rule) rfl
  obtain ⟨fd_is_pair, F_is_pair, G_is_pair, B_is_pair, K_is_pair⟩ := g_is_pair (P := P) (w := w) (base := base) KX G c
  refine ⟨fd, F, fnG_of (k := 11) true F sc_fits_rule fun cdv A outer s H E hr hgd => ?_, F.bindsN (fun _ _ _ _ _ _ us hl => match us, hl with | [_, _], _ => rfl), F.kp⟩
  exact (ssd_cons (sd_if (td_w (wd_or (td_not (td_val (pd_callB (cd_isi (isi_ok KX G c) noIsT) rfl (bt_isinstance KX G c) PyProof.Rows.boot_isinstance (pad_cons (pdv 1) (pad_cons (pd_ty rfl (bt_tuple KX G c) PyProof.Rows.boot_tuple) pad_nil))))) (wd_or1 (td_not (td_val (pd_callB (cd_all rfl) rfl (bt_all KX G c) (by decide +kernel) (pad_cons (pd_compV [("part", 2)] false rfl sc_fits_rule.nd (show BlkOk N_fits_rule (defScope st_fits_rule) _ [("part", 2)] from blkOk_by (by decide +kernel)) (pid_seq (pdv 1)) (fun _ _ _ _ _ => (tgt_nm (pg_name (i := 2) sc_fits_rule.nd rfl (by first | exact Or.inl rfl | exact Or.inr rfl)))) (fun _ _ _ _ _ => ptd_nil) (fun _ _ _ _ _ => (pd_callN (FnD.cd (fnD_all G_is_pair (hr.mono (by decide)) hgd tk0 B_is_pair)) rfl (gl_is_pair KX G c) K_is_pair (pad_cons (pdv 0) (pad_cons (pdv 2) pad_nil))))) pad_nil))))))) (ssd_one (sd_ret pd_bl)) ssd_nil) (ssd_one (sd_ret (pd_callB (cd_all rfl) rfl (bt_all KX G c) (by decide +kernel) (pad_cons (pd_compV [("here", 3), ("there", 4)] false rfl sc_fits_rule.nd (show BlkOk N_fits_rule (defScope st_fits_rule) _ [("here", 3), ("there", 4)] from blkOk_by (by decide +kernel)) (pid_zip rfl (bt_zip KX G c) (pad_cons (pdv 1) (pad_cons (pd_slice false (pdv 1) (pod_some pd_int) pod_none) pad_nil))) (fun _ _ _ _ _ => (tgt_tp rfl (tgts_cons (tgt_nm (pg_name (i := 3) sc_fits_rule.nd rfl (by first | exact Or.inl rfl | exact Or.inr rfl))) (tgts_cons (tgt_nm (pg_name (i := 4) sc_fits_rule.nd rfl (by first | exact Or.inl rfl | exact Or.inr rfl))) tgts_nil)))) (fun _ _ _ _ _ => ptd_nil) (fun _ _ _ _ _ => (pd_cmp od_lt (pd_ix (pdv 3) pd_int (by intro _ _; rfl)) (pd_ix (pdv 4) pd_int (by intro _ _; rfl)) (by rfl)))) pad_nil)))))
theorem g_need_rule (KX : K.In h) (G : h.Ns mainGlobals mg) (c : Says K) : ∃ fd, FunD K d_need_rule.name d_need_rule.qual d_need_rule.params d_need_rule.body d_need_rule.scope (d_need_rule.dvs K) [] (d_need_rule.loc.at K) fd ∧ FnG P w K mg base 15 (d_need_rule.loc.at K) fd ps_need_rule m_need_rule ∧ Binds K fd ps_need_rule [] ∧ PySem.W.keepIn K (.ref (d_need_rule.loc.at K)) = true := by
  obtain ⟨fd, F⟩ := c.fn_ 12 (d := d_need_rule) rfl
  obtain ⟨fd_fits_rule, F_fits_rule, G_fits_rule, B_fits_rule, K_fits_rule⟩ := g_fits_rule (P := P) (w := w) (base := base) KX G c
  refine ⟨fd, F, fnG_of (k := 14) true F sc_need_rule fun cdv A outer s H E hr hgd => ?_, F.bindsN (fun _ _ _ _ _ _ us hl => match us, hl with | [_, _], _ => rfl), F.kp⟩
  exact (ssd_one (sd_if (td_not (td_val (pd_callN (FnD.cd (fnD_all G_fits_rule (hr.mono (by decide)) hgd (takes_of rfl rfl rfl rfl) B_fits_rule)) rfl (gl_fits_rule KX G c) K_fits_rule (pad_cons (pdv 0) (pad_cons (pdv 1) pad_nil))))) (ssd_one sd_stuck) ssd_nil))
theorem g_RuleX_initX (KX : K.In h) (G : h.Ns mainGlobals mg) (c : Says K) : ∃ fd, FunD K d_RuleX_initX.name d_RuleX_initX.qual d_RuleX_initX.params d_RuleX_initX.body d_RuleX_initX.scope (d_RuleX_initX.dvs K) [] (d_RuleX_initX.loc.at K) fd ∧ FnG P w K mg base 18 (d_RuleX_initX.loc.at K) fd ps_RuleX_initX m_RuleX_initX ∧ Binds K fd ps_RuleX_initX [] ∧ PySem.W.keepIn K (.ref (d_RuleX_initX.loc.at K)) = true := by
  obtain ⟨fd, F⟩ := c.fn_ 13 (d := d_RuleX_initX) rfl
  obtain ⟨fd_need_prime, F_need_prime, G_need_prime, B_need_prime, K_need_prime⟩ := g_need_prime (P := P) (w := w) (base := base) KX G c
  obtain ⟨fd_need_rule, F_need_rule, G_need_rule, B_need_rule, K_need_rule⟩ := g_need_rule (P := P) (w := w) (base := base) KX G c
  refine ⟨fd, F, fnG_of (k := 17) true F sc_RuleX_initX fun cdv A outer s H E hr hgd => ?_, F.bindsN (fun _ _ _ _ _ _ us hl => match us, hl with | [_, _, _], _ => rfl), F.kp⟩
  exact (ssd_cons (sd_expr (pd_callN (FnD.cd (fnD_all G_need_prime (hr.mono (by decide)) hgd (takes_of rfl rfl rfl rfl) B_need_prime)) rfl (gl_need_prime KX G c) K_need_prime (pad_cons (pdv 1) pad_nil))) (ssd_cons (sd_expr (pd_callN (FnD.cd (fnD_all G_need_rule (hr.mono (by decide)) hgd (takes_of rfl rfl rfl rfl) B_need_rule)) rfl (gl_need_rule KX G c) K_need_rule (pad_cons (pdv 1) (pad_cons (pdv 2) pad_nil)))) (ssd_cons (sd_fld (pf_base KX G c) (pdv 0) (pdv 1)) (ssd_one (sd_fld (pf_pairs KX G c) (pdv 0) (pdv 2))))))
theorem g_Rule_rule (KX : K.In h) (G : h.Ns mainGlobals mg) (c : Says K) : ∃ fd, FunD K d_Rule_rule.name d_Rule_rule.qual d_Rule_rule.params d_Rule_rule.body d_Rule_rule.scope (d_Rule_rule.dvs K) [] (d_Rule_rule.loc.at K) fd ∧ FnG P w K mg base 3 (d_Rule_rule.loc.at K) fd ps_Rule_rule m_Rule_rule ∧ Binds K fd ps_Rule_rule [] ∧ PySem.W.keepIn K (.ref (d_Rule_rule.loc.at K)) = true := by
  obtain ⟨fd, F⟩ := c.fn_ 14 (d := d_Rule_rule) rfl
  refine ⟨fd, F, fnG_of (k := 2) true F sc_Rule_rule fun cdv A outer s H E hr hgd => ?_, F.bindsN (fun _ _ _ _ _ _ us hl => match us, hl with | [_], _ => rfl), F.kp⟩
  exact (ssd_one (sd_ret (pd_fld (pf_pairs KX G c) (pdv 0))))
theorem g_Rule_prime (KX : K.In h) (G : h.Ns mainGlobals mg) (c : Says K) : ∃ fd, FunD K d_Rule_prime.name d_Rule_prime.qual d_Rule_prime.params d_Rule_prime.body d_Rule_prime.scope (d_Rule_prime.dvs K) [] (d_Rule_prime.loc.at K) fd ∧ FnG P w K mg base 3 (d_Rule_prime.loc.at K) fd ps_Rule_prime m_Rule_prime ∧ Binds K fd ps_Rule_prime [] ∧ PySem.W.keepIn K (.ref (d_Rule_prime.loc.at K)) = true := by
  obtain ⟨fd, F⟩ := c.fn_ 15 (d := d_Rule_prime) rfl
  refine ⟨fd, F, fnG_of (k := 2) true F sc_Rule_prime fun cdv A outer s H E hr hgd => ?_, F.bindsN (fun _ _ _ _ _ _ us hl => match us, hl with | [_], _ => rfl), F.kp⟩
  exact (ssd_one (sd_ret (pd_fld (pf_base KX G c) (pdv 0))))
theorem g_RuleX_boolX (KX : K.In h) (G : h.Ns mainGlobals mg) (c : Says K) : ∃ fd, FunD K d_RuleX_boolX.name d_RuleX_boolX.qual d_RuleX_boolX.params d_RuleX_boolX.body d_RuleX_boolX.scope (d_RuleX_boolX.dvs K) [] (d_RuleX_boolX.loc.at K) fd ∧ FnG P w K mg base 3 (d_RuleX_boolX.loc.at K) fd ps_RuleX_boolX m_RuleX_boolX ∧ Binds K fd ps_RuleX_boolX [] ∧ PySem.W.keepIn K (.ref (d_RuleX_boolX.loc.at K)) = true := by
  obtain ⟨fd, F⟩ := c.fn_ 16 (d := d_RuleX_boolX) rfl
  refine ⟨fd, F, fnG_of (k := 2) true F sc_RuleX_boolX fun cdv A outer s H E hr hgd => ?_, F.bindsN (fun _ _ _ _ _ _ us hl => match us, hl with | [_], _ => rfl), F.kp⟩
  exact (ssd_one (sd_ret (pd_cmp od_gt (pd_callB cd_len rfl (bt_len KX G c) (by decide +kernel) (pad_cons (pd_fld (pf_pairs KX G c) (pdv 0)) pad_nil)) pd_int (by rfl))))
theorem g_RuleX_lenX (KX : K.In h) (G : h.Ns mainGlobals mg) (c : Says K) : ∃ fd, FunD K d_RuleX_lenX.name d_RuleX_lenX.qual d_RuleX_lenX.params d_RuleX_lenX.body d_RuleX_lenX.scope (d_RuleX_lenX.dvs K) [] (d_RuleX_lenX.loc.at K) fd ∧ FnG P w K mg base 3 (d_RuleX_lenX.loc.at K) fd ps_RuleX_lenX m_RuleX_lenX ∧ Binds K fd ps_RuleX_lenX [] ∧ PySem.W.keepIn K (.ref (d_RuleX_lenX.loc.at K)) = true := by
  obtain ⟨fd, F⟩ := c.fn_ 17 (d := d_RuleX_lenX) rfl
  refine ⟨fd, F, fnG_of (k := 2) true F sc_RuleX_lenX fun cdv A outer s H E hr hgd => ?_, F.bindsN (fun _ _ _ _ _ _ us hl => match us, hl with | [_], _ => rfl), F.kp⟩
  exact (ssd_one (sd_ret (pd_callB cd_len rfl (bt_len KX G c) (by decide +kernel) (pad_cons (pd_fld (pf_pairs KX G c) (pdv 0)) pad_nil))))
theorem g_need_step (KX : K.In h) (G : h.Ns mainGlobals mg) (c : Says K) : ∃ fd, FunD K d_need_step.name d_need_step.qual d_need_step.params d_need_step.body d_need_step.scope (d_need_step.dvs K) [] (d_need_step.loc.at K) fd ∧ FnG P w K mg base 6 (d_need_step.loc.at K) fd ps_need_step m_need_step ∧ Binds K fd ps_need_step [] ∧ PySem.W.keepIn K (.ref (d_need_step.loc.at K)) = true := by
  obtain ⟨fd, F⟩ := c.fn_ 18 (d := d_need_step) rfl
  obtain ⟨fd_is_number, F_is_number, G_is_number, B_is_number, K_is_number⟩ := g_is_number (P := P) (w := w) (base := base) KX G c
  refine ⟨fd, F, fnG_of (k := 5) true F sc_need_step fun cdv A outer s H E hr hgd => ?_, F.bindsN (fun _ _ _ _ _ _ us hl => match us, hl with | [_], _ => rfl), F.kp⟩
  exact (ssd_one (sd_if (td_not (td_val (pd_callN (FnD.cd (fnD_all G_is_number (hr.mono (by decide)) hgd (takes_of rfl rfl rfl rfl) B_is_number)) rfl (gl_is_number KX G c) K_is_number (pad_cons (pdv 0) pad_nil)))) (ssd_one sd_stuck) ssd_nil))
theorem g_RuleX_getitemX (KX : K.In h) (G : h.Ns mainGlobals mg) (c : Says K) : ∃ fd, FunD K d_RuleX_getitemX.name d_RuleX_getitemX.qual d_RuleX_getitemX.params d_RuleX_getitemX.body d_RuleX_getitemX.scope (d_RuleX_getitemX.dvs K) [] (d_RuleX_getitemX.loc.at K) fd ∧ FnG P w K mg base 9 (d_RuleX_getitemX.loc.at K) fd ps_RuleX_getitemX m_RuleX_getitemX ∧ Binds K fd ps_RuleX_getitemX [] ∧ PySem.W.keepIn K (.ref (d_RuleX_getitemX.loc.at K)) = true := by
  obtain ⟨fd, F⟩ := c.fn_ 19 (d := d_RuleX_getitemX) rfl
  obtain ⟨fd_need_step, F_need_step, G_need_step, B_need_step, K_need_step⟩ := g_need_step (P := P) (w := w) (base := base) KX G c
  refine ⟨fd, F, fnG_of (k := 8) true F sc_RuleX_getitemX fun cdv A outer s H E hr hgd => ?_, F.bindsN (fun _ _ _ _ _ _ us hl => match us, hl with | [_, _], _ => rfl), F.kp⟩
  exact (ssd_cons (sd_expr (pd_callN (FnD.cd (fnD_all G_need_step (hr.mono (by decide)) hgd (takes_of rfl rfl rfl rfl) B_need_step)) rfl (gl_need_step KX G c) K_need_step (pad_cons (pdv 1) pad_nil))) (ssd_one (sd_ret (pd_callB (cd_sum rfl) rfl (bt_sum KX G c) (by decide +kernel) (pad_cons (pd_compV [("known", 2), ("amount", 3)] false rfl sc_RuleX_getitemX.nd (show BlkOk N_RuleX_getitemX (defScope st_RuleX_getitemX) _ [("known", 2), ("amount", 3)] from blkOk_by (by decide +kernel)) (pid_seq (pd_fld (pf_pairs KX G c) (pdv 0))) (fun _ _ _ _ _ => (tgt_tp rfl (tgts_cons (tgt_nm (pg_name (i := 2) sc_RuleX_getitemX.nd rfl (by first | exact Or.inl rfl | exact Or.inr rfl))) (tgts_cons (tgt_nm (pg_name (i := 3) sc_RuleX_getitemX.nd rfl (by first | exact Or.inl rfl | exact Or.inr rfl))) tgts_nil)))) (fun _ _ _ _ _ => (ptd_one (td_cmp (od_eqE hr.units) (pdv 2) (pdv 1) (by rfl)))) (fun _ _ _ _ _ => (pdv 3))) pad_nil)))))
theorem g__law_is_one (KX : K.In h) (G : h.Ns mainGlobals mg) (c : Says K) : ∃ fd, FunD K d__law_is_one.name d__law_is_one.qual d__law_is_one.params d__law_is_one.body d__law_is_one.scope (d__law_is_one.dvs K) [] (d__law_is_one.loc.at K) fd ∧ FnG P w K mg base 12 (d__law_is_one.loc.at K) fd ps__law_is_one m__law_is_one ∧ Binds K fd ps__law_is_one [] ∧ PySem.W.keepIn K (.ref (d__law_is_one.loc.at K)) = true := by
  obtain ⟨fd, F⟩ := c.fn_ 20 (d := d__law_is_one) rfl
  obtain ⟨fd_Rule_rule, F_Rule_rule, G_Rule_rule, B_Rule_rule, K_Rule_rule⟩ := g_Rule_rule (P := P) (w := w) (base := base) KX G c
  obtain ⟨fd_Rule_prime, F_Rule_prime, G_Rule_prime, B_Rule_prime, K_Rule_prime⟩ := g_Rule_prime (P := P) (w := w) (base := base) KX G c
  obtain ⟨fd_RuleX_boolX, F_RuleX_boolX, G_RuleX_boolX, B_RuleX_boolX, K_RuleX_boolX⟩ := g_RuleX_boolX (P := P) (w := w) (base := base) KX G c
  obtain ⟨fd_RuleX_lenX, F_RuleX_lenX, G_RuleX_lenX, B_RuleX_lenX, K_RuleX_lenX⟩ := g_RuleX_lenX (P := P) (w := w) (base := base) KX G c
  obtain ⟨fd_RuleX_getitemX, F_RuleX_getitemX, G_RuleX_getitemX, B_RuleX_getitemX, K_RuleX_getitemX⟩ := g_RuleX_getitemX (P := P) (w := w) (base := base) KX G c
  refine ⟨fd, F, fnG_of (k := 11) true F sc__law_is_one fun cdv A outer s H E hr hgd => ?_, F.bindsN (fun _ _ _ _ _ _ us hl => match us, hl with | [_, _, _], _ => rfl), F.kp⟩
  exact (ssd_cons (sd_if (td_w (wd_or (td_not (td_val (pd_callB (cd_isi (isi_ok KX G c) noIsT) rfl (bt_isinstance KX G c) PyProof.Rows.boot_isinstance (pad_cons (pdv 0) (pad_cons (pd_gl rfl (gl_Rule KX G c)) pad_nil))))) (wd_or1 (td_cmp (od_neE hr.units) (pd_callB (cd_repr hgd hr.units) rfl (bt_repr KX G c) PyProof.Rows.boot_repr (pad_cons (pd_lst false (pad_cons (pd_prop (pr_Rule_prime KX G c) G_Rule_prime (hr.mono (by decide)) hgd B_Rule_prime (pdv 0)) (pad_cons (pd_prop (pr_Rule_rule KX G c) G_Rule_rule (hr.mono (by decide)) hgd B_Rule_rule (pdv 0)) pad_nil))) pad_nil)) (pd_callB (cd_repr hgd hr.units) rfl (bt_repr KX G c) PyProof.Rows.boot_repr (pad_cons (pd_lst false (pad_cons (pdv 1) (pad_cons (pdv 2) pad_nil))) pad_nil)) (by rfl))))) (ssd_one (sd_ret pd_bl)) ssd_nil) (ssd_cons (sd_if (td_cmp (od_neE hr.units) (pd_callB (cd_repr hgd hr.units) rfl (bt_repr KX G c) PyProof.Rows.boot_repr (pad_cons (pd_lst false (pad_cons (pd_callB (cd_lenO (ow_Rule_XlenX KX G c) (fnD_all G_RuleX_lenX (hr.mono (by decide)) hgd (takes_of rfl rfl rfl rfl) B_RuleX_lenX)) rfl (bt_len KX G c) (by decide +kernel) (pad_cons (pdv 0) pad_nil)) (pad_cons (pd_callTy (cd_boolO (ow_Rule_XboolX KX G c) (fnD_all G_RuleX_boolX (hr.mono (by decide)) hgd (takes_of rfl rfl rfl rfl) B_RuleX_boolX)) rfl (bt_bool KX G c) PyProof.Rows.boot_bool (pad_cons (pdv 0) pad_nil)) pad_nil))) pad_nil)) (pd_callB (cd_repr hgd hr.units) rfl (bt_repr KX G c) PyProof.Rows.boot_repr (pad_cons (pd_lst false (pad_cons (pd_callB cd_len rfl (bt_len KX G c) (by decide +kernel) (pad_cons (pdv 2) pad_nil)) (pad_cons (pd_cmp (od_neE hr.units) (pdv 2) (pd_tup pad_nil) (by rfl)) pad_nil))) pad_nil)) (by rfl)) (ssd_one (sd_ret pd_bl)) ssd_nil) (ssd_cons (sd_name (i := 3) sc__law_is_one.nd rfl (by first | exact Or.inl rfl | exact Or.inr rfl) (pd_bin (od_add false) (pd_compV [("_law_offset_here", 6), ("_law_amount", 7)] false rfl sc__law_is_one.nd (show BlkOk N__law_is_one (defScope st__law_is_one) _ [("_law_offset_here", 6), ("_law_amount", 7)] from blkOk_by (by decide +kernel)) (pid_seq (pdv 2)) (fun _ _ _ _ _ => (tgt_tp rfl (tgts_cons (tgt_nm (pg_name (i := 6) sc__law_is_one.nd rfl (by first | exact Or.inl rfl | exact Or.inr rfl))) (tgts_cons (tgt_nm (pg_name (i := 7) sc__law_is_one.nd rfl (by first | exact Or.inl rfl | exact Or.inr rfl))) tgts_nil)))) (fun _ _ _ _ _ => ptd_nil) (fun _ _ _ _ _ => (pdv 6))) (pd_lst false (pad_cons pd_int (pad_cons pd_int (pad_cons (pd_un ud_neg pd_int) (pad_cons (pd_bin od_sub (pd_bin od_pow pd_int pd_int) pd_int) (pad_cons (pd_un ud_neg (pd_bin od_pow pd_int pd_int)) pad_nil)))))))) (ssd_cons (sd_for (passes_of rfl) rfl (pid_seq (pd_bin (od_add false) (pd_bin (od_add false) (pdv 3) (pd_compV [("_law_spot", 4)] false rfl sc__law_is_one.nd (show BlkOk N__law_is_one (defScope st__law_is_one) _ [("_law_spot", 4)] from blkOk_by (by decide +kernel)) (pid_seq (pdv 3)) (fun _ _ _ _ _ => (tgt_nm (pg_name (i := 4) sc__law_is_one.nd rfl (by first | exact Or.inl rfl | exact Or.inr rfl)))) (fun _ _ _ _ _ => ptd_nil) (fun _ _ _ _ _ => (pd_bin (od_add false) (pdv 4) pd_int)))) (pd_compV [("_law_spot", 4)] false rfl sc__law_is_one.nd (show BlkOk N__law_is_one (defScope st__law_is_one) _ [("_law_spot", 4)] from blkOk_by (by decide +kernel)) (pid_seq (pd_slice false (pdv 3) pod_none (pod_some (pd_callB cd_len rfl (bt_len KX G c) (by decide +kernel) (pad_cons (pdv 2) pad_nil))))) (fun _ _ _ _ _ => (tgt_nm (pg_name (i := 4) sc__law_is_one.nd rfl (by first | exact Or.inl rfl | exact Or.inr rfl)))) (fun _ _ _ _ _ => ptd_nil) (fun _ _ _ _ _ => (pd_bin od_sub (pdv 4) pd_int))))) (gd_name (pg_name (i := 4) sc__law_is_one.nd rfl (by first | exact Or.inl rfl | exact Or.inr rfl))) (ssd_cons (sd_name (i := 5) sc__law_is_one.nd rfl (by first | exact Or.inl rfl | exact Or.inr rfl) (pd_ix (pd_bin (od_add false) (pd_compV [("_law_offset_here", 6), ("_law_amount", 7)] false rfl sc__law_is_one.nd (show BlkOk N__law_is_one (defScope st__law_is_one) _ [("_law_offset_here", 6), ("_law_amount", 7)] from blkOk_by (by decide +kernel)) (pid_seq (pdv 2)) (fun _ _ _ _ _ => (tgt_tp rfl (tgts_cons (tgt_nm (pg_name (i := 6) sc__law_is_one.nd rfl (by first | exact Or.inl rfl | exact Or.inr rfl))) (tgts_cons (tgt_nm (pg_name (i := 7) sc__law_is_one.nd rfl (by first | exact Or.inl rfl | exact Or.inr rfl))) tgts_nil)))) (fun _ _ _ _ _ => (ptd_one (td_cmp (od_eqE hr.units) (pdv 6) (pdv 4) (by rfl)))) (fun _ _ _ _ _ => (pdv 7))) (pd_lst false (pad_cons pd_int pad_nil))) pd_int (by intro _ _; rfl))) (ssd_one (sd_if (td_cmp (od_neE hr.units) (pd_callB (cd_repr hgd hr.units) rfl (bt_repr KX G c) PyProof.Rows.boot_repr (pad_cons (pd_ixO (ow_Rule_XgetitemX KX G c) (fnD_all G_RuleX_getitemX (hr.mono (by decide)) hgd (takes_of rfl rfl rfl rfl) B_RuleX_getitemX) (pdv 0) (pdv 4)) pad_nil)) (pd_callB (cd_repr hgd hr.units) rfl (bt_repr KX G c) PyProof.Rows.boot_repr (pad_cons (pdv 5) pad_nil)) (by rfl)) (ssd_one (sd_ret pd_bl)) ssd_nil)))) (ssd_one (sd_ret pd_bl))))))
theorem g_fits_polynomial (KX : K.In h) (G : h.Ns mainGlobals mg) (c : Says K) : ∃ fd, FunD K d_fits_polynomial.name d_fits_polynomial.qual d_fits_polynomial.params d_fits_polynomial.body d_fits_polynomial.scope (d_fits_polynomial.dvs K) [] (d_fits_polynomial.loc.at K) fd ∧ FnG P w K mg base 9 (d_fits_polynomial.loc.at K) fd ps_fits_polynomial m_fits_polynomial ∧ Binds K fd ps_fits_polynomial [] ∧ PySem.W.keepIn K (.ref (d_fits_polynomial.loc.at K)) = true := by
  obtain ⟨fd, F⟩ := c.fn_ 21 (d := d_fits_polynomial) rfl
  obtain ⟨fd_is_whole, F_is_whole, G_is_whole, B_is_whole, K_is_whole⟩ := g_is_whole (P := P) (w := w) (base := base) KX G c
  refine ⟨fd, F, fnG_of (k := 8) true F sc_fits_polynomial fun cdv A outer s H E hr hgd => ?_, F.bindsN (fun _ _ _ _ _ _ us hl => match us, hl with | [_, _], _ => rfl), F.kp⟩
  exact (ssd_cons (sd_if (td_w (wd_or (td_not (td_val (pd_callB (cd_isi (isi_ok KX G c) noIsT) rfl (bt_isinstance KX G c) PyProof.Rows.boot_isinstance (pad_cons (pdv 1) (pad_cons (pd_ty rfl (bt_tuple KX G c) PyProof.Rows.boot_tuple) pad_nil))))) (wd_or1 (td_cmp (od_eqE hr.units) (pd_callB cd_len rfl (bt_len KX G c) (by decide +kernel) (pad_cons (pdv 1) pad_nil)) pd_int (by rfl))))) (ssd_one (sd_ret pd_bl)) ssd_nil) (ssd_cons (sd_if (td_not (td_val (pd_callB (cd_all rfl) rfl (bt_all KX G c) (by decide +kernel) (pad_cons (pd_compV [("part", 2)] false rfl sc_fits_polynomial.nd (show BlkOk N_fits_polynomial (defScope st_fits_polynomial) _ [("part", 2)] from blkOk_by (by decide +kernel)) (pid_seq (pdv 1)) (fun _ _ _ _ _ => (tgt_nm (pg_name (i := 2) sc_fits_polynomial.nd rfl (by first | exact Or.inl rfl | exact Or.inr rfl)))) (fun _ _ _ _ _ => ptd_nil) (fun _ _ _ _ _ => (pd_callN (FnD.cd (fnD_all G_is_whole (hr.mono (by decide)) hgd tk0 B_is_whole)) rfl (gl_is_whole KX G c) K_is_whole (pad_cons (pdv 2) (pad_cons pd_int (pad_cons (pd_bin od_sub (pdv 0) pd_int) pad_nil)))))) pad_nil)))) (ssd_one (sd_ret pd_bl)) ssd_nil) (ssd_one (sd_ret (pd_and (pd_cmp (od_neE hr.units) (pd_ix (pdv 1) pd_int (by intro _ _; rfl)) pd_int (by rfl)) (pd_one (pd_cmp (od_eqE hr.units) (pd_ix (pdv 1) (pd_un ud_neg pd_int) (by intro _ _; rfl)) pd_int (by rfl))))))))
theorem g_need_polynomial (KX : K.In h) (G : h.Ns mainGlobals mg) (c : Says K) : ∃ fd, FunD K d_need_polynomial.name d_need_polynomial.qual d_need_polynomial.params d_need_polynomial.body d_need_polynomial.scope (d_need_polynomial.dvs K) [] (d_need_polynomial.loc.at K) fd ∧ FnG P w K mg base 12 (d_need_polynomial.loc.at K) fd ps_need_polynomial m_need_polynomial ∧ Binds K fd ps_need_polynomial [] ∧ PySem.W.keepIn K (.ref (d_need_polynomial.loc.at K)) = true := by
  obtain ⟨fd, F⟩ := c.fn_ 22 (d := d_need_polynomial) rfl
  obtain ⟨fd_fits_polynomial, F_fits_polynomial, G_fits_polynomial, B_fits_polynomial, K_fits_polynomial⟩ := g_fits_polynomial (P := P) (w := w) (base := base) KX G c
  refine ⟨fd, F, fnG_of (k := 11) true F sc_need_polynomial fun cdv A outer s H E hr hgd => ?_, F.bindsN (fun _ _ _ _ _ _ us hl => match us, hl with | [_, _], _ => rfl), F.kp⟩
  exact (ssd_one (sd_if (td_not (td_val (pd_callN (FnD.cd (fnD_all G_fits_polynomial (hr.mono (by decide)) hgd (takes_of rfl rfl rfl rfl) B_fits_polynomial)) rfl (gl_fits_polynomial KX G c) K_fits_polynomial (pad_cons (pdv 0) (pad_cons (pdv 1) pad_nil))))) (ssd_one sd_stuck) ssd_nil))
theorem g_rule_of (KX : K.In h) (G : h.Ns mainGlobals mg) (c : Says K) : ∃ fd, FunD K d_rule_of.name d_rule_of.qual d_rule_of.params d_rule_of.body d_rule_of.scope (d_rule_of.dvs K) [] (d_rule_of.loc.at K) fd ∧ FnG P w K mg base 3 (d_rule_of.loc.at K) fd ps_rule_of m_rule_of ∧ Binds K fd ps_rule_of [] ∧ PySem.W.keepIn K (.ref (d_rule_of.loc.at K)) = true := by
  obtain ⟨fd, F⟩ := c.fn_ 23 (d := d_rule_of) rfl
  refine ⟨fd, F, fnG_of (k := 2) true F sc_rule_of fun cdv A outer s H E hr hgd => ?_, F.bindsN (fun _ _ _ _ _ _ us hl => match us, hl with | [_], _ => rfl), F.kp⟩
  exact (ssd_one (sd_ret (pd_callTy cd_tuple rfl (bt_tuple KX G c) PyProof.Rows.boot_tuple (pad_cons (pd_compV [("offset", 1), ("amount", 2)] false rfl sc_rule_of.nd (show BlkOk N_rule_of (defScope st_rule_of) _ [("offset", 1), ("amount", 2)] from blkOk_by (by decide +kernel)) (pid_enum rfl (bt_enumerate KX G c) (pad_cons (pdv 0) pad_nil)) (fun _ _ _ _ _ => (tgt_tp rfl (tgts_cons (tgt_nm (pg_name (i := 1) sc_rule_of.nd rfl (by first | exact Or.inl rfl | exact Or.inr rfl))) (tgts_cons (tgt_nm (pg_name (i := 2) sc_rule_of.nd rfl (by first | exact Or.inl rfl | exact Or.inr rfl))) tgts_nil)))) (fun _ _ _ _ _ => (ptd_one (td_cmp (od_neE hr.units) (pdv 2) pd_int (by rfl)))) (fun _ _ _ _ _ => (pd_tup (pad_cons (pdv 1) (pad_cons (pdv 2) pad_nil))))) pad_nil))))
theorem g_Rule_of_polynomial (KX : K.In h) (G : h.Ns mainGlobals mg) (c : Says K) : ∃ fd, FunD K d_Rule_of_polynomial.name d_Rule_of_polynomial.qual d_Rule_of_polynomial.params d_Rule_of_polynomial.body d_Rule_of_polynomial.scope (d_Rule_of_polynomial.dvs K) [] (d_Rule_of_polynomial.loc.at K) fd ∧ FnG P w K mg base 21 (d_Rule_of_polynomial.loc.at K) fd ps_Rule_of_polynomial m_Rule_of_polynomial ∧ Binds K fd ps_Rule_of_polynomial [] ∧ PySem.W.keepIn K (.ref (d_Rule_of_polynomial.loc.at K)) = true := by
  obtain ⟨fd, F⟩ := c.fn_ 24 (d := d_Rule_of_polynomial) rfl
  obtain ⟨fd_need_prime, F_need_prime, G_need_prime, B_need_prime, K_need_prime⟩ := g_need_prime (P := P) (w := w) (base := base) KX G c
  obtain ⟨fd_need_polynomial, F_need_polynomial, G_need_polynomial, B_need_polynomial, K_need_polynomial⟩ := g_need_polynomial (P := P) (w := w) (base := base) KX G c
  obtain ⟨fd_RuleX_initX, F_RuleX_initX, G_RuleX_initX, B_RuleX_initX, K_RuleX_initX⟩ := g_RuleX_initX (P := P) (w := w) (base := base) KX G c
  obtain ⟨fd_rule_of, F_rule_of, G_rule_of, B_rule_of, K_rule_of⟩ := g_rule_of (P := P) (w := w) (base := base) KX G c
  refine ⟨fd, F, fnG_of (k := 20) true F sc_Rule_of_polynomial fun cdv A outer s H E hr hgd => ?_, F.bindsN (fun _ _ _ _ _ _ us hl => match us, hl with | [_, _, _], _ => rfl), F.kp⟩
  exact (ssd_cons (sd_expr (pd_callN (FnD.cd (fnD_all G_need_prime (hr.mono (by decide)) hgd (takes_of rfl rfl rfl rfl) B_need_prime)) rfl (gl_need_prime KX G c) K_need_prime (pad_cons (pdv 1) pad_nil))) (ssd_cons (sd_expr (pd_callN (FnD.cd (fnD_all G_need_polynomial (hr.mono (by decide)) hgd (takes_of rfl rfl rfl rfl) B_need_polynomial)) rfl (gl_need_polynomial KX G c) K_need_polynomial (pad_cons (pdv 1) (pad_cons (pdv 2) pad_nil)))) (ssd_one (sd_ret (pd_callC (cd_make false (mk_Rule c) (gl_Rule KX G c) G_RuleX_initX (hr.mono (by decide)) hgd (takes_of rfl rfl rfl rfl) B_RuleX_initX) (gl_Rule KX G c) (mk_Rule c).kp (pdv 0) (pad_cons (pdv 1) (pad_cons (pd_callN (FnD.cd (fnD_all G_rule_of (hr.mono (by decide)) hgd (takes_of rfl rfl rfl rfl) B_rule_of)) rfl (gl_rule_of KX G c) K_rule_of (pad_cons (pdv 2) pad_nil)) pad_nil)))))))
theorem g_pairs_moved (KX : K.In h) (G : h.Ns mainGlobals mg) (c : Says K) : ∃ fd, FunD K d_pairs_moved.name d_pairs_moved.qual d_pairs_moved.params d_pairs_moved.body d_pairs_moved.scope (d_pairs_moved.dvs K) [] (d_pairs_moved.loc.at K) fd ∧ FnG P w K mg base 3 (d_pairs_moved.loc.at K) fd ps_pairs_moved m_pairs_moved ∧ Binds K fd ps_pairs_moved [] ∧ PySem.W.keepIn K (.ref (d_pairs_moved.loc.at K)) = true := by
  obtain ⟨fd, F⟩ := c.fn_ 25 (d := d_pairs_moved) rfl
  refine ⟨fd, F, fnG_of (k := 2) true F sc_pairs_moved fun cdv A outer s H E hr hgd => ?_, F.bindsN (fun _ _ _ _ _ _ us hl => match us, hl with | [_, _], _ => rfl), F.kp⟩
  exact (ssd_one (sd_ret (pd_callTy cd_tuple rfl (bt_tuple KX G c) PyProof.Rows.boot_tuple (pad_cons (pd_compV [("offset", 2), ("amount", 3)] false rfl sc_pairs_moved.nd (show BlkOk N_pairs_moved (defScope st_pairs_moved) _ [("offset", 2), ("amount", 3)] from blkOk_by (by decide +kernel)) (pid_seq (pdv 0)) (fun _ _ _ _ _ => (tgt_tp rfl (tgts_cons (tgt_nm (pg_name (i := 2) sc_pairs_moved.nd rfl (by first | exact Or.inl rfl | exact Or.inr rfl))) (tgts_cons (tgt_nm (pg_name (i := 3) sc_pairs_moved.nd rfl (by first | exact Or.inl rfl | exact Or.inr rfl))) tgts_nil)))) (fun _ _ _ _ _ => ptd_nil) (fun _ _ _ _ _ => (pd_tup (pad_cons (pd_bin (od_add false) (pdv 2) (pdv 1)) (pad_cons (pdv 3) pad_nil))))) pad_nil))))
theorem g_RuleX_lshiftX (KX : K.In h) (G : h.Ns mainGlobals mg) (c : Says K) : ∃ fd, FunD K d_RuleX_lshiftX.name d_RuleX_lshiftX.qual d_RuleX_lshiftX.params d_RuleX_lshiftX.body d_RuleX_lshiftX.scope (d_RuleX_lshiftX.dvs K) [] (d_RuleX_lshiftX.loc.at K) fd ∧ FnG P w K mg base 21 (d_RuleX_lshiftX.loc.at K) fd ps_RuleX_lshiftX m_RuleX_lshiftX ∧ Binds K fd ps_RuleX_lshiftX [] ∧ PySem.W.keepIn K (.ref (d_RuleX_lshiftX.loc.at K)) = true := by
  obtain ⟨fd, F⟩ := c.fn_ 26 (d := d_RuleX_lshiftX) rfl
  obtain ⟨fd_need_step, F_need_step, G_need_step, B_need_step, K_need_step⟩ := g_need_step (P := P) (w := w) (base := base) KX G c
  obtain ⟨fd_RuleX_initX, F_RuleX_initX, G_RuleX_initX, B_RuleX_initX, K_RuleX_initX⟩ := g_RuleX_initX (P := P) (w := w) (base := base) KX G c
  obtain ⟨fd_pairs_moved, F_pairs_moved, G_pairs_moved, B_pairs_moved, K_pairs_moved⟩ := g_pairs_moved (P := P) (w := w) (base := base) KX G c
  refine ⟨fd, F, fnG_of (k := 20) true F sc_RuleX_lshiftX fun cdv A outer s H E hr hgd => ?_, F.bindsN (fun _ _ _ _ _ _ us hl => match us, hl with | [_, _], _ => rfl), F.kp⟩
  exact (ssd_cons (sd_expr (pd_callN (FnD.cd (fnD_all G_need_step (hr.mono (by decide)) hgd (takes_of rfl rfl rfl rfl) B_need_step)) rfl (gl_need_step KX G c) K_need_step (pad_cons (pdv 1) pad_nil))) (ssd_one (sd_ret (pd_callN (cd_make false (mk_Rule c) (gl_Rule KX G c) G_RuleX_initX (hr.mono (by decide)) hgd (takes_of rfl rfl rfl rfl) B_RuleX_initX) rfl (gl_Rule KX G c) (mk_Rule c).kp (pad_cons (pd_fld (pf_base KX G c) (pdv 0)) (pad_cons (pd_callN (FnD.cd (fnD_all G_pairs_moved (hr.mono (by decide)) hgd (takes_of rfl rfl rfl rfl) B_pairs_moved)) rfl (gl_pairs_moved KX G c) K_pairs_moved (pad_cons (pd_fld (pf_pairs KX G c) (pdv 0)) (pad_cons (pdv 1) pad_nil))) pad_nil))))))
theorem g_law (KX : K.In h) (G : h.Ns mainGlobals mg) (c : Says K) : ∃ fd, FunD K d_law.name d_law.qual d_law.params d_law.body d_law.scope (d_law.dvs K) [] (d_law.loc.at K) fd ∧ FnG P w K mg base 24 (d_law.loc.at K) fd ps_law m_law ∧ Binds K fd ps_law [] ∧ PySem.W.keepIn K (.ref (d_law.loc.at K)) = true := by
  obtain ⟨fd, F⟩ := c.fn_ 27 (d := d_law) rfl
  obtain ⟨fd__law_bag, F__law_bag, G__law_bag, B__law_bag, K__law_bag⟩ := g__law_bag (P := P) (w := w) (base := base) KX G c
  obtain ⟨fd__law_base, F__law_base, G__law_base, B__law_base, K__law_base⟩ := g__law_base (P := P) (w := w) (base := base) KX G c
  obtain ⟨fd__law_spread, F__law_spread, G__law_spread, B__law_spread, K__law_spread⟩ := g__law_spread (P := P) (w := w) (base := base) KX G c
  obtain ⟨fd_RuleX_initX, F_RuleX_initX, G_RuleX_initX, B_RuleX_initX, K_RuleX_initX⟩ := g_RuleX_initX (P := P) (w := w) (base := base) KX G c
  obtain ⟨fd__law_draw, F__law_draw, G__law_draw, B__law_draw, K__law_draw⟩ := g__law_draw (P := P) (w := w) (base := base) KX G c
  obtain ⟨fd__law_pairs, F__law_pairs, G__law_pairs, B__law_pairs, K__law_pairs⟩ := g__law_pairs (P := P) (w := w) (base := base) KX G c
  obtain ⟨fd__law_is_one, F__law_is_one, G__law_is_one, B__law_is_one, K__law_is_one⟩ := g__law_is_one (P := P) (w := w) (base := base) KX G c
  obtain ⟨fd_Rule_of_polynomial, F_Rule_of_polynomial, G_Rule_of_polynomial, B_Rule_of_polynomial, K_Rule_of_polynomial⟩ := g_Rule_of_polynomial (P := P) (w := w) (base := base) KX G c
  obtain ⟨fd_RuleX_lshiftX, F_RuleX_lshiftX, G_RuleX_lshiftX, B_RuleX_lshiftX, K_RuleX_lshiftX⟩ := g_RuleX_lshiftX (P := P) (w := w) (base := base) KX G c
  obtain ⟨fd_Rule_rule, F_Rule_rule, G_Rule_rule, B_Rule_rule, K_Rule_rule⟩ := g_Rule_rule (P := P) (w := w) (base := base) KX G c
  obtain ⟨fd_RuleX_getitemX, F_RuleX_getitemX, G_RuleX_getitemX, B_RuleX_getitemX, K_RuleX_getitemX⟩ := g_RuleX_getitemX (P := P) (w := w) (base := base) KX G c
  refine ⟨fd, F, fnG_of (k := 23) false F sc_law fun cdv A outer s H E hr hgd => ?_, F.bindsN (fun _ _ _ _ _ _ us hl => match us, hl with | [_], _ => rfl), F.kp⟩
  exact (ssd_cons (sd_for (passes_of rfl) rfl (pid_seq (pd_bin (od_add false) (pd_lst false (pad_cons pd_int pad_nil)) (pd_slice false (pdv 0) pod_none (pod_some pd_int)))) (gd_name (pg_name (i := 1) sc_law.nd rfl (by first | exact Or.inl rfl | exact Or.inr rfl))) (ssd_cons (sd_name (i := 2) sc_law.nd rfl (by first | exact Or.inl rfl | exact Or.inr rfl) (pd_callN (FnD.cd (fnD_all G__law_bag (hr.mono (by decide)) hgd (takes_of rfl rfl rfl rfl) B__law_bag)) rfl (gl__law_bag KX G c) K__law_bag (pad_cons (pdv 1) pad_nil))) (ssd_cons (sd_name (i := 3) sc_law.nd rfl (by first | exact Or.inl rfl | exact Or.inr rfl) (pd_callN (FnD.cd (fnD_all G__law_base (hr.mono (by decide)) hgd (takes_of rfl rfl rfl rfl) B__law_base)) rfl (gl__law_base KX G c) K__law_base (pad_cons (pdv 2) pad_nil))) (ssd_cons (sd_name (i := 4) sc_law.nd rfl (by first | exact Or.inl rfl | exact Or.inr rfl) (pd_callN (FnD.cd (fnD_all G__law_spread (hr.mono (by decide)) hgd (takes_of rfl rfl rfl rfl) B__law_spread)) rfl (gl__law_spread KX G c) K__law_spread (pad_cons (pdv 2) (pad_cons (pdv 3) pad_nil)))) (ssd_cons (sd_name (i := 5) sc_law.nd rfl (by first | exact Or.inl rfl | exact Or.inr rfl) (pd_lst false (pad_cons (pd_callN (cd_make false (mk_Rule c) (gl_Rule KX G c) G_RuleX_initX (hr.mono (by decide)) hgd (takes_of rfl rfl rfl rfl) B_RuleX_initX) rfl (gl_Rule KX G c) (mk_Rule c).kp (pad_cons (pdv 3) (pad_cons (pdv 4) pad_nil))) (pad_cons (pd_callNK0 (ckd_make (ix := [1, 0]) (ks := ["rule", "prime"]) (dd := []) (dvs := []) (dv := []) false (mk_Rule c) (gl_Rule KX G c) G_RuleX_initX (hr.mono (by decide)) hgd (takes_of rfl rfl rfl rfl) (kt0 F_RuleX_initX) .nil (fun _ => .nil)) rfl (gl_Rule KX G c) (mk_Rule c).kp (pkd_cons (pdv 4) (pkd_cons (pdv 3) pkd_nil))) (pad_cons (pd_callN (cd_make false (mk_Rule c) (gl_Rule KX G c) G_RuleX_initX (hr.mono (by decide)) hgd (takes_of rfl rfl rfl rfl) B_RuleX_initX) rfl (gl_Rule KX G c) (mk_Rule c).kp (pad_cons (pdv 3) (pad_cons (pd_tup pad_nil) pad_nil))) pad_nil))))) (ssd_cons (sd_name (i := 6) sc_law.nd rfl (by first | exact Or.inl rfl | exact Or.inr rfl) (pd_ix (pd_lst false (pad_cons pd_int (pad_cons (pd_bin od_sub (pd_callN (FnD.cd (fnD_all G__law_draw (hr.mono (by decide)) hgd (takes_of rfl rfl rfl rfl) B__law_draw)) rfl (gl__law_draw KX G c) K__law_draw (pad_cons (pdv 2) (pad_cons pd_int pad_nil))) pd_int) (pad_cons (pd_bin od_sub (pd_bin od_pow pd_int pd_int) (pd_callN (FnD.cd (fnD_all G__law_draw (hr.mono (by decide)) hgd (takes_of rfl rfl rfl rfl) B__law_draw)) rfl (gl__law_draw KX G c) K__law_draw (pad_cons (pdv 2) (pad_cons (pd_bin (od_mul false) pd_int (pd_bin od_pow pd_int pd_int)) pad_nil)))) pad_nil)))) (pd_callN (FnD.cd (fnD_all G__law_draw (hr.mono (by decide)) hgd (takes_of rfl rfl rfl rfl) B__law_draw)) rfl (gl__law_draw KX G c) K__law_draw (pad_cons (pdv 2) (pad_cons pd_int pad_nil))) (by intro _ _; rfl))) (ssd_cons (sd_name (i := 7) sc_law.nd rfl (by first | exact Or.inl rfl | exact Or.inr rfl) (pd_callN (FnD.cd (fnD_all G__law_pairs (hr.mono (by decide)) hgd (takes_of rfl rfl rfl rfl) B__law_pairs)) rfl (gl__law_pairs KX G c) K__law_pairs (pad_cons (pdv 2) (pad_cons (pdv 3) (pad_cons pd_int pad_nil))))) (ssd_cons (sd_if (td_not (td_val (pd_callN (FnD.cd (fnD_all G__law_is_one (hr.mono (by decide)) hgd (takes_of rfl rfl rfl rfl) B__law_is_one)) rfl (gl__law_is_one KX G c) K__law_is_one (pad_cons (pd_callN (cd_make false (mk_Rule c) (gl_Rule KX G c) G_RuleX_initX (hr.mono (by decide)) hgd (takes_of rfl rfl rfl rfl) B_RuleX_initX) rfl (gl_Rule KX G c) (mk_Rule c).kp (pad_cons (pdv 3) (pad_cons (pdv 7) pad_nil))) (pad_cons (pdv 3) (pad_cons (pdv 7) pad_nil)))))) (ssd_one (sd_ret pd_bl)) ssd_nil) (ssd_cons (sd_name (i := 8) sc_law.nd rfl (by first | exact Or.inl rfl | exact Or.inr rfl) (pd_callTy cd_tuple rfl (bt_tuple KX G c) PyProof.Rows.boot_tuple (pad_cons (pd_compV [("_law_offset_here", 14), ("_law_amount", 15)] false rfl sc_law.nd (show BlkOk N_law (defScope st_law) _ [("_law_offset_here", 14), ("_law_amount", 15)] from blkOk_by (by decide +kernel)) (pid_seq (pdv 4)) (fun _ _ _ _ _ => (tgt_tp rfl (tgts_cons (tgt_nm (pg_name (i := 14) sc_law.nd rfl (by first | exact Or.inl rfl | exact Or.inr rfl))) (tgts_cons (tgt_nm (pg_name (i := 15) sc_law.nd rfl (by first | exact Or.inl rfl | exact Or.inr rfl))) tgts_nil)))) (fun _ _ _ _ _ => ptd_nil) (fun _ _ _ _ _ => (pd_tup (pad_cons (pd_bin (od_add false) (pdv 14) (pdv 6)) (pad_cons (pdv 15) pad_nil))))) pad_nil))) (ssd_cons (sd_name (i := 9) sc_law.nd rfl (by first | exact Or.inl rfl | exact Or.inr rfl) (pd_bin (od_add false) (pd_lst false (pad_cons (pd_bin (od_add false) pd_int (pd_callN (FnD.cd (fnD_all G__law_draw (hr.mono (by decide)) hgd (takes_of rfl rfl rfl rfl) B__law_draw)) rfl (gl__law_draw KX G c) K__law_draw (pad_cons (pdv 2) (pad_cons (pd_bin od_sub (pdv 3) pd_int) pad_nil)))) pad_nil)) (pd_compV [("_law_k", 16)] false rfl sc_law.nd (show BlkOk N_law (defScope st_law) _ [("_law_k", 16)] from blkOk_by (by decide +kernel)) (pid_range1 rfl (bt_range KX G c) (pad_cons (pd_callN (FnD.cd (fnD_all G__law_draw (hr.mono (by decide)) hgd (takes_of rfl rfl rfl rfl) B__law_draw)) rfl (gl__law_draw KX G c) K__law_draw (pad_cons (pdv 2) (pad_cons pd_int pad_nil))) pad_nil)) (fun _ _ _ _ _ => (tgt_nm (pg_name (i := 16) sc_law.nd rfl (by first | exact Or.inl rfl | exact Or.inr rfl)))) (fun _ _ _ _ _ => ptd_nil) (fun _ _ _ _ _ => (pd_callN (FnD.cd (fnD_all G__law_draw (hr.mono (by decide)) hgd tk0 B__law_draw)) rfl (gl__law_draw KX G c) K__law_draw (pad_cons (pdv 2) (pad_cons (pdv 3) pad_nil))))))) (ssd_cons (sd_name (i := 10) sc_law.nd rfl (by first | exact Or.inl rfl | exact Or.inr rfl) (pd_if (td_cmp od_gt (pd_callN (FnD.cd (fnD_all G__law_draw (hr.mono (by decide)) hgd (takes_of rfl rfl rfl rfl) B__law_draw)) rfl (gl__law_draw KX G c) K__law_draw (pad_cons (pdv 2) (pad_cons pd_int pad_nil))) pd_int (by rfl)) (pd_bin (od_add false) (pd_callTy cd_tuple rfl (bt_tuple KX G c) PyProof.Rows.boot_tuple (pad_cons (pdv 9) pad_nil)) (pd_tup (pad_cons pd_int pad_nil))) (pd_tup (pad_cons pd_int pad_nil)))) (ssd_cons (sd_name (i := 11) sc_law.nd rfl (by first | exact Or.inl rfl | exact Or.inr rfl) (pd_callTy cd_tuple rfl (bt_tuple KX G c) PyProof.Rows.boot_tuple (pad_cons (pd_compV [("_law_k", 16)] false rfl sc_law.nd (show BlkOk N_law (defScope st_law) _ [("_law_k", 16)] from blkOk_by (by decide +kernel)) (pid_range1 rfl (bt_range KX G c) (pad_cons (pd_callB cd_len rfl (bt_len KX G c) (by decide +kernel) (pad_cons (pdv 10) pad_nil)) pad_nil)) (fun _ _ _ _ _ => (tgt_nm (pg_name (i := 16) sc_law.nd rfl (by first | exact Or.inl rfl | exact Or.inr rfl)))) (fun _ _ _ _ _ => (ptd_one (td_cmp (od_neE hr.units) (pd_ix (pdv 10) (pdv 16) (by intro _ _; rfl)) pd_int (by rfl)))) (fun _ _ _ _ _ => (pd_tup (pad_cons (pdv 16) (pad_cons (pd_ix (pdv 10) (pdv 16) (by intro _ _; rfl)) pad_nil))))) pad_nil))) (ssd_cons (sd_name (i := 5) sc_law.nd rfl (by first | exact Or.inl rfl | exact Or.inr rfl) (pd_bin (od_add false) (pdv 5) (pd_lst false (pad_cons (pd_bin (od_ownInt (ow_Rule_XlshiftX KX G c) (is_Rule_LShift c) (fnD_all G_RuleX_lshiftX (hr.mono (by decide)) hgd (takes_of rfl rfl rfl rfl) B_RuleX_lshiftX)) (pd_ix (pdv 5) pd_int (by intro _ _; rfl)) (pdv 6)) (pad_cons (pd_cm (cm_Rule_of_polynomial KX G c) (fnD_all G_Rule_of_polynomial (hr.mono (by decide)) hgd (takes_of rfl rfl rfl rfl) B_Rule_of_polynomial) (pd_gl rfl (gl_Rule KX G c)) (pad_cons (pdv 3) (pad_cons (pdv 10) pad_nil))) pad_nil))))) (ssd_cons (sd_name (i := 5) sc_law.nd rfl (by first | exact Or.inl rfl | exact Or.inr rfl) (pd_bin (od_add false) (pdv 5) (pd_lst false (pad_cons (pd_cmK0 (cm_Rule_of_polynomial KX G c) (fnKD_of (ix := [0, 2, 1]) (ks := ["polynomial", "prime"]) (dd := []) (dvs := []) (dv := []) G_Rule_of_polynomial (hr.mono (by decide)) hgd (takes_of rfl rfl rfl rfl) (kt1 F_Rule_of_polynomial) .nil (fun _ => .nil)) (pd_gl rfl (gl_Rule KX G c)) (pkd_cons (pdv 10) (pkd_cons (pdv 3) pkd_nil))) pad_nil)))) (ssd_cons (sd_for (passes_of rfl) rfl (pid_zip rfl (bt_zip KX G c) (pad_cons (pdv 5) (pad_cons (pd_lst false (pad_cons (pdv 4) (pad_cons (pdv 4) (pad_cons (pd_tup pad_nil) (pad_cons (pdv 8) (pad_cons (pdv 11) (pad_cons (pdv 11) pad_nil))))))) pad_nil))) (gd_tup rfl (gsd_cons (gd_name (pg_name (i := 12) sc_law.nd rfl (by first | exact Or.inl rfl | exact Or.inr rfl))) (gsd_cons (gd_name (pg_name (i := 13) sc_law.nd rfl (by first | exact Or.inl rfl | exact Or.inr rfl))) gsd_nil))) (ssd_one (sd_if (td_not (td_val (pd_callN (FnD.cd (fnD_all G__law_is_one (hr.mono (by decide)) hgd (takes_of rfl rfl rfl rfl) B__law_is_one)) rfl (gl__law_is_one KX G c) K__law_is_one (pad_cons (pdv 12) (pad_cons (pdv 3) (pad_cons (pdv 13) pad_nil)))))) (ssd_one (sd_ret pd_bl)) ssd_nil))) (ssd_one (sd_if (td_cmp (od_neE hr.units) (pd_compV [("_law_part", 17)] false rfl sc_law.nd (show BlkOk N_law (defScope st_law) _ [("_law_part", 17)] from blkOk_by (by decide +kernel)) (pid_seq (pd_prop (pr_Rule_rule KX G c) G_Rule_rule (hr.mono (by decide)) hgd B_Rule_rule (pd_ix (pdv 5) pd_int (by intro _ _; rfl)))) (fun _ _ _ _ _ => (tgt_nm (pg_name (i := 17) sc_law.nd rfl (by first | exact Or.inl rfl | exact Or.inr rfl)))) (fun _ _ _ _ _ => (ptd_one (td_cmp (od_neE hr.units) (pd_ixO (ow_Rule_XgetitemX KX G c) (fnD_all G_RuleX_getitemX (hr.mono (by decide)) hgd tk0 B_RuleX_getitemX) (pd_ix (pdv 5) pd_int (by intro _ _; rfl)) (pd_ix (pdv 17) pd_int (by intro _ _; rfl))) (pd_ix (pdv 17) pd_int (by intro _ _; rfl)) (by rfl)))) (fun _ _ _ _ _ => (pdv 17))) (pd_lst false pad_nil) (by rfl)) (ssd_one (sd_ret pd_bl)) ssd_nil))))))))))))))))) (ssd_one (sd_ret pd_bl)))
end
end K45
end

section
set_option Elab.async false
set_option linter.all false
set_option maxRecDepth 100000
set_option maxHeartbeats 0
namespace K45
open PySem PySem.Spec L2 L3
open He (ga ma)
abbrev row : PySem.W.OpenRow := PySem.W.OpenLaw.row PySem.Challenge.rw_everyring_k45_rules_built
abbrev hk : PySem.W.Hook := hookL 6 fa fx fn
def ob (s : PySem.W.SharedT) : He.AlD := obsLG 6 fa fx fn (HandSHeadRun.getT s)
theorem ob_eq (s : PySem.W.SharedT) : ob s = hk.obs s.abs := obsLG_eq (HandSHeadRun.getT_eq s)
abbrev loose : List PySem.Str := (["_wall", "__name__", "RingError", "InvalidPrime", "InvalidRule", "InvalidPolynomial", "InvalidSize", "InvalidPicture", "InvalidNumber", "OtherPrime", "PRIMES", "is_number", "is_whole", "is_prime", "is_pair", "fits_rule", "fits_polynomial", "need_prime", "need_rule", "need_polynomial", "need_number", "is_lamp", "fits_picture", "need_size", "need_picture", "need_ring", "as_picture", "pressed_all", "rule_of", "turned"] : List PySem.Str) ++ (["ONE", "pairs_gathered", "rules_product", "pairs_moved", "rules_quotient", "pairs_times", "rule_power", "need_step", "need_same", "Rule", "_law_bag", "_law_draw", "_law_base", "_law_pairs", "_law_summed", "_law_product", "_law_spread", "_law_is_one"] : List PySem.Str)
theorem run (w : World) : HandSHeadRun.RunEq row (PySem.W.view row.prog [53]) hk ob 20000 loose w := by
  intro os
  kernel_rfl
end K45
end

section
set_option Elab.async false
set_option linter.all false
set_option maxRecDepth 100000
set_option maxHeartbeats 0
namespace K45
open PySem PySem.Spec L2 L3
open He (ga ma)
theorem tab_ok : E.TabOk tab := fun p ps S => rfl
theorem law_eq : m_law = mFn 1 17 false (E.b45_law tab) := rfl
theorem law_ok (ns : List Int) : m_law [.frz (ns.map D.int)] [] = .ok (.bl true) [] := by
  rw [law_eq]
  exact E.law45 tab_ok ns
end K45
open PySem PySem.W PySem.Calls PyProof.Rows
theorem PySem.Challenge.cw_everyring_k45_rules_built_holds : PySem.Challenge.rw_everyring_k45_rules_built.Holds := by
  w_on; o_law
  refine HandSHeadRun.head_any (r := OpenLaw.row PySem.Challenge.rw_everyring_k45_rules_built) (q := view (OpenLaw.row PySem.Challenge.rw_everyring_k45_rules_built).prog [53]) (H := K45.hk) (ob := K45.ob) (M := 20000) (loose := K45.loose) (d := HandSHeadRun.topDef (OpenLaw.row PySem.Challenge.rw_everyring_k45_rules_built).prog 53) (kwd := []) K45.ob_eq
    (by kernel_rfl) (fun s => by kernel_rfl) K45.run (by kernel_rfl) (by kernel_rfl) (by kernel_rfl) (by rfl) (by first | assumption | decide +kernel) (by decide +kernel) ⟨rfl, rfl, rfl, rfl, rfl, by decide +kernel⟩ ?hw ?hc
  case hw => w_witness2
  case hc =>
    refine L3.walkG (l := PySem.Challenge.rw_everyring_k45_rules_built) (n := 63) (k := 24) (x := "_law_script") rfl (by decide) (by kernel_rfl) ⟨rfl, by decide, by decide⟩ ?F
    intro w mg fa h Y G hmg0
    obtain ⟨K, KX, c⟩ := Y
    have hmg : mg ("law" : PySem.Str) = some (.ref fa) := by
      have e : (HandSHeadRun.topDef (OpenLaw.row PySem.Challenge.rw_everyring_k45_rules_built).prog 53).name = ("law" : PySem.Str) := by kernel_rfl
      rw [← e]
      exact hmg0
    have e := hmg.symm.trans (K45.gl_law KX G c)
    cases e
    obtain ⟨fd, F⟩ := c.fn_ 27 (d := K45.d_law) rfl
    have b := L2.FunD.bindsA (ps := ["_law_script"]) F fun _ _ _ _ _ _ us hl => match us, hl with | [_], _ => rfl
    exact ⟨K, fd, K45.m_law, KX, fun a o => c.lists, fun s u => b s [u] rfl, fun ns hl hb => K45.law_ok ns, fun base _ _ => by
      obtain ⟨fd', F', G', _, _⟩ := K45.g_law (P := (PySem.Challenge.rw_everyring_k45_rules_built).prog) (w := w) (base := base) KX G c
      have e : fd' = fd := by
        obtain ⟨_, _, _, _, _, _, _, _, _, _, h1, h2, _⟩ := F.ex
        obtain ⟨_, _, _, _, _, _, _, _, _, _, h3, h4, _⟩ := F'.ex
        rw [h2] at h4
        have := Option.some.inj h4
        cases this
        rfl
      rw [← e]
      exact G'⟩
end
