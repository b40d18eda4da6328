import PyProof.Rows.All
import Wide.All
import OpenK.AllK
import Wide.FinOn
import HandS.ForMost
import HandS.Exc
import HandS.ExcOwn
import HandS.WordsExc
import HandS.Walk
import HandS.Flow
import HandS.Wide
import HandS.WideBits
import HandS.TupAny
import HandS.TupMul
import HandS.Deep
import HandS.SortInts
import HandS.Conv
import HandS.IsInst
import HandS.TupLen
import KE.KTupSum
import KE.DataMinMax
import KE.SortData
import KE.GoesMore
import KE.GoesEnumKw
import PyProof.ZipIter
import HandS.Iter
import HandS.Zip
import PyProof.Rows.CallKwBuiltin
import KE.GoesEnum
import HandS.SetFor
import HandS.CallSlots
import HandS.Dict
import HandS.DictComp
import PyProof.DictUpdate
import HandS.Style
import PyProof.AutoIntOps
import PyProof.SumWalk
import PyProof.ListOps
import PySem.Challenge.RW_leastpass_k11_tracking_cards
set_option Elab.async false
set_option linter.all false
set_option maxRecDepth 100000
set_option maxHeartbeats 4000000
section
/-! LP, part a: data as trees, how a heap bears them, owned trees, the entries of a frame. -/
namespace LP
open PySem PySem.Spec PyProof.Rows L2

inductive D where
  | non
  | bl (b : Bool)
  | int (i : Int)
  | str (x : Str)
  | tup (xs : List D)
  | lst (xs : List D)
  | dk (ks : List Key) (xs : List D)
  | dt (ks : List (List Key)) (xs : List D)
  | ob (C : Addr) (ns : List Str) (xs : List D)
  /-- the script: a list that nobody may change -/
  | scr (xs : List D)

mutual
/-- nothing in it can ever change -/
def imm : D → Bool
  | .non => true
  | .bl _ => true
  | .int _ => true
  | .str _ => true
  | .tup xs => imms xs
  | .lst _ => false
  | .dk _ _ => false
  | .dt _ _ => false
  | .ob _ _ _ => false
  | .scr xs => imms xs
def imms : List D → Bool
  | [] => true
  | d :: ds => imm d && imms ds
end
theorem imms_all : ∀ xs : List D, imms xs = xs.all imm
  | [] => rfl
  | d :: ds => by rw [imms, List.all_cons, imms_all ds]

/-- the heap without the places zs -/
def hid (H : Hp) (zs : List Addr) : Hp := fun a => if a ∈ zs then none else H a
theorem hid_out {H : Hp} {zs : List Addr} {a : Addr} (h : a ∉ zs) : hid H zs a = H a := if_neg h
theorem hid_in {H : Hp} {zs : List Addr} {a : Addr} (h : a ∈ zs) : hid H zs a = none := if_pos h
theorem hid_some {H : Hp} {zs : List Addr} {a : Addr} {o : HO} (h : hid H zs a = some o) : a ∉ zs ∧ H a = some o := by
  by_cases m : a ∈ zs
  · rw [hid_in m] at h; cases h
  · exact ⟨m, (hid_out m).symm.trans h⟩
theorem hid_sub (H : Hp) (zs : List Addr) : Same (hid H zs) H := fun _ _ h => (hid_some h).2
theorem hid_le {H : Hp} {zs ws : List Addr} (h : ∀ a ∈ ws, a ∈ zs) : Same (hid H zs) (hid H ws) := fun a o e => by
  obtain ⟨h1, h2⟩ := hid_some e
  rw [hid_out fun m => h1 (h a m)]
  exact h2
theorem hid_grow {H H' : Hp} {zs : List Addr} (h : Same H H') : Same (hid H zs) (hid H' zs) := fun a o e => by
  obtain ⟨h1, h2⟩ := hid_some e
  rw [hid_out h1]
  exact h a o h2

theorem sqT_same {K : PySem.W.Frag} {H H' : Hp} {a : Addr} {xs : List V} (e : Same H H') (h : SqT K H a xs) : SqT K H' a xs := by
  rcases h with (h | ⟨o, h⟩) | h
  · exact .inl (.inl (e _ _ h))
  · exact .inl (.inr ⟨o, e _ _ h⟩)
  · exact .inr h

/-- a list that is not tracked: known to the object, or of the module -/
def SqF (K : PySem.W.Frag) (H : Hp) (a : Addr) (xs : List V) : Prop := (∃ o, H a = some (.frz o (.lst xs))) ∨ SqL K (fun _ => none) a xs
theorem SqF.sq {K : PySem.W.Frag} {H : Hp} {a : Addr} {xs : List V} (h : SqF K H a xs) : SqL K H a xs := by
  rcases h with ⟨o, h⟩ | (h | ⟨o, h⟩) | h
  · exact .inl (.inr ⟨o, h⟩)
  · cases h
  · cases h
  · exact .inr h
theorem SqF.same {K : PySem.W.Frag} {H H' : Hp} {a : Addr} {xs : List V} (e : Same H H') (h : SqF K H a xs) : SqF K H' a xs := by
  rcases h with ⟨o, h⟩ | h
  · exact .inl ⟨o, e _ _ h⟩
  · exact .inr h
/-- what cannot change is kept -/
structure Kp (K : PySem.W.Frag) (H G : Hp) : Prop where
  t : ∀ a us, SqT K H a us → SqT K G a us
  f : ∀ a us, SqF K H a us → SqF K G a us
theorem Kp.same {K : PySem.W.Frag} {H G : Hp} (e : Same H G) : Kp K H G := ⟨fun _ _ h => sqT_same e h, fun _ _ h => h.same e⟩
theorem Kp.trans {K : PySem.W.Frag} {H G F : Hp} (a : Kp K H G) (b : Kp K G F) : Kp K H F := ⟨fun _ _ h => b.t _ _ (a.t _ _ h), fun _ _ h => b.f _ _ (a.f _ _ h)⟩
/-- values vs stand, in the heap G, for the data ds -/
inductive Rp (K : PySem.W.Frag) (G : Hp) : List V → List D → Prop
  | nil : Rp K G [] []
  | non {vs ds} : Rp K G vs ds → Rp K G (.non :: vs) (.non :: ds)
  | bl {vs ds} (b : Bool) : Rp K G vs ds → Rp K G (.bl b :: vs) (.bl b :: ds)
  | int {vs ds} (i : Int) : Rp K G vs ds → Rp K G (.int i :: vs) (.int i :: ds)
  | str {vs ds} (x : Str) : Rp K G vs ds → Rp K G (.str x :: vs) (.str x :: ds)
  | tup {a us xs vs ds} : SqT K G a us → Rp K G us xs → Rp K G vs ds → Rp K G (.ref a :: vs) (.tup xs :: ds)
  | lst {a us xs vs ds} : G a = some (.lst us) → Rp K G us xs → Rp K G vs ds → Rp K G (.ref a :: vs) (.lst xs :: ds)
  | dk {a ks us xs vs ds} : G a = some (.dK (ks.zip us)) → ks.length = us.length → Rp K G us xs → Rp K G vs ds → Rp K G (.ref a :: vs) (.dk ks xs :: ds)
  | dt {a ks us xs vs ds} : G a = some (.dT (ks.zip us)) → ks.length = us.length → Rp K G us xs → Rp K G vs ds → Rp K G (.ref a :: vs) (.dt ks xs :: ds)
  | ob {a C dx ns us xs vs ds} : G a = some (.ins C dx (ns.zip us)) → ns.length = us.length → Rp K G us xs → Rp K G vs ds → Rp K G (.ref a :: vs) (.ob C ns xs :: ds)
  | scr {a us xs vs ds} : SqF K G a us → Rp K G us xs → Rp K G vs ds → Rp K G (.ref a :: vs) (.scr xs :: ds)

section
variable {K : PySem.W.Frag} {G G' H H' : Hp} {v : V} {vs us : List V} {d : D} {ds xs : List D}
theorem Rp.same (r : Rp K G vs ds) (e : Same G G') : Rp K G' vs ds := by
  induction r with
  | nil => exact .nil
  | non _ ih => exact .non ih
  | bl b _ ih => exact .bl b ih
  | int i _ ih => exact .int i ih
  | str x _ ih => exact .str x ih
  | tup h _ _ i1 i2 => exact .tup (sqT_same e h) i1 i2
  | lst h _ _ i1 i2 => exact .lst (e _ _ h) i1 i2
  | dk h l _ _ i1 i2 => exact .dk (e _ _ h) l i1 i2
  | dt h l _ _ i1 i2 => exact .dt (e _ _ h) l i1 i2
  | ob h l _ _ i1 i2 => exact .ob (e _ _ h) l i1 i2
  | scr h _ _ i1 i2 => exact .scr (h.same e) i1 i2
theorem Rp.length (r : Rp K G vs ds) : vs.length = ds.length := by
  induction r <;> simp_all
theorem Rp.cons1 (h : Rp K G [v] [d]) (r : Rp K G vs ds) : Rp K G (v :: vs) (d :: ds) := by
  cases h with
  | non _ => exact .non r
  | bl b _ => exact .bl b r
  | int i _ => exact .int i r
  | str x _ => exact .str x r
  | tup h1 h2 _ => exact .tup h1 h2 r
  | lst h1 h2 _ => exact .lst h1 h2 r
  | dk h1 h2 h3 _ => exact .dk h1 h2 h3 r
  | dt h1 h2 h3 _ => exact .dt h1 h2 h3 r
  | ob h1 h2 h3 _ => exact .ob h1 h2 h3 r
  | scr h1 h2 _ => exact .scr h1 h2 r
theorem Rp.uncons (h : Rp K G (v :: vs) (d :: ds)) : Rp K G [v] [d] ∧ Rp K G vs ds := by
  cases h with
  | non r => exact ⟨.non .nil, r⟩
  | bl b r => exact ⟨.bl b .nil, r⟩
  | int i r => exact ⟨.int i .nil, r⟩
  | str x r => exact ⟨.str x .nil, r⟩
  | tup h1 h2 r => exact ⟨.tup h1 h2 .nil, r⟩
  | lst h1 h2 r => exact ⟨.lst h1 h2 .nil, r⟩
  | dk h1 h2 h3 r => exact ⟨.dk h1 h2 h3 .nil, r⟩
  | dt h1 h2 h3 r => exact ⟨.dt h1 h2 h3 .nil, r⟩
  | ob h1 h2 h3 r => exact ⟨.ob h1 h2 h3 .nil, r⟩
  | scr h1 h2 r => exact ⟨.scr h1 h2 .nil, r⟩
theorem Rp.consv (h : Rp K G (v :: vs) ds) : ∃ d ds', ds = d :: ds' ∧ Rp K G [v] [d] ∧ Rp K G vs ds' := by
  cases ds with
  | nil => cases h
  | cons d ds' => exact ⟨d, ds', rfl, h.uncons⟩
theorem Rp.consd (h : Rp K G vs (d :: ds)) : ∃ v vs', vs = v :: vs' ∧ Rp K G [v] [d] ∧ Rp K G vs' ds := by
  cases vs with
  | nil => cases h
  | cons v vs' => exact ⟨v, vs', rfl, h.uncons⟩
theorem Rp.nil_d (h : Rp K G vs []) : vs = [] := by cases h; rfl
theorem Rp.app : ∀ {vs : List V} {ds : List D}, Rp K G vs ds → Rp K G us xs → Rp K G (vs ++ us) (ds ++ xs)
  | [], [], _, s => s
  | [], _ :: _, r, _ => nomatch r
  | _ :: _, [], r, _ => nomatch r
  | v :: vs, d :: ds, r, s => (r.uncons.1).cons1 (Rp.app r.uncons.2 s)
theorem Rp.get : ∀ {vs : List V} {ds : List D} {i : Nat} {d : D}, Rp K G vs ds → ds[i]? = some d → ∃ v, vs[i]? = some v ∧ Rp K G [v] [d]
  | [], [], _, _, _, e => by simp at e
  | [], _ :: _, _, _, r, _ => nomatch r
  | _ :: _, [], _, _, r, _ => nomatch r
  | v :: vs, d :: ds, 0, d', r, e => by
    simp at e; subst e
    exact ⟨v, rfl, r.uncons.1⟩
  | v :: vs, d :: ds, i + 1, d', r, e => by
    obtain ⟨w, h1, h2⟩ := Rp.get (i := i) r.uncons.2 (by simpa using e)
    exact ⟨w, by simpa using h1, h2⟩
theorem Rp.getv : ∀ {vs : List V} {ds : List D} {i : Nat} {v : V}, Rp K G vs ds → vs[i]? = some v → ∃ d, ds[i]? = some d ∧ Rp K G [v] [d]
  | [], [], _, _, _, e => by simp at e
  | [], _ :: _, _, _, r, _ => nomatch r
  | _ :: _, [], _, _, r, _ => nomatch r
  | v :: vs, d :: ds, 0, d', r, e => by
    simp at e; subst e
    exact ⟨d, rfl, r.uncons.1⟩
  | v :: vs, d :: ds, i + 1, d', r, e => by
    obtain ⟨w, h1, h2⟩ := Rp.getv (i := i) r.uncons.2 (by simpa using e)
    exact ⟨w, by simpa using h1, h2⟩
theorem Rp.set : ∀ {vs : List V} {ds : List D} (i : Nat), Rp K G vs ds → Rp K G [v] [d] → Rp K G (vs.set i v) (ds.set i d)
  | [], [], _, _, _ => .nil
  | [], _ :: _, _, r, _ => nomatch r
  | _ :: _, [], _, r, _ => nomatch r
  | _ :: _, _ :: _, 0, r, s => s.cons1 r.uncons.2
  | _ :: _, _ :: _, i + 1, r, s => r.uncons.1.cons1 (Rp.set i r.uncons.2 s)
theorem Rp.take : ∀ {vs : List V} {ds : List D} (n : Nat), Rp K G vs ds → Rp K G (vs.take n) (ds.take n)
  | _, _, 0, _ => .nil
  | [], [], _ + 1, _ => .nil
  | [], _ :: _, _, r => nomatch r
  | _ :: _, [], _, r => nomatch r
  | _ :: _, _ :: _, n + 1, r => r.uncons.1.cons1 (Rp.take n r.uncons.2)
theorem Rp.drop : ∀ {vs : List V} {ds : List D} (n : Nat), Rp K G vs ds → Rp K G (vs.drop n) (ds.drop n)
  | _, _, 0, r => r
  | [], [], _ + 1, _ => .nil
  | [], _ :: _, _, r => nomatch r
  | _ :: _, [], _, r => nomatch r
  | _ :: _, _ :: _, n + 1, r => Rp.drop n r.uncons.2
theorem Rp.eraseIdx : ∀ {vs : List V} {ds : List D} (n : Nat), Rp K G vs ds → Rp K G (vs.eraseIdx n) (ds.eraseIdx n)
  | [], [], _, _ => .nil
  | [], _ :: _, _, r => nomatch r
  | _ :: _, [], _, r => nomatch r
  | _ :: _, _ :: _, 0, r => r.uncons.2
  | _ :: _, _ :: _, n + 1, r => r.uncons.1.cons1 (Rp.eraseIdx n r.uncons.2)
theorem Rp.rev : ∀ {vs : List V} {ds : List D}, Rp K G vs ds → Rp K G vs.reverse ds.reverse
  | [], [], _ => .nil
  | [], _ :: _, r => nomatch r
  | _ :: _, [], r => nomatch r
  | v :: vs, d :: ds, r => by
    rw [List.reverse_cons, List.reverse_cons]
    exact Rp.app (Rp.rev r.uncons.2) r.uncons.1
/-- what cannot change needs the tuples alone -/
theorem Rp.immT (r : Rp K H vs ds) (hi : imms ds = true) (ht : Kp K H G) : Rp K G vs ds := by
  induction r with
  | nil => exact .nil
  | non _ ih => exact .non (ih (by simpa [imms, imm] using hi))
  | bl b _ ih => exact .bl b (ih (by simpa [imms, imm] using hi))
  | int i _ ih => exact .int i (ih (by simpa [imms, imm] using hi))
  | str x _ ih => exact .str x (ih (by simpa [imms, imm] using hi))
  | tup h _ _ i1 i2 =>
    simp only [imms, imm, Bool.and_eq_true] at hi
    exact .tup (ht.t _ _ h) (i1 hi.1) (i2 hi.2)
  | lst h _ _ i1 i2 => simp [imms, imm] at hi
  | dk h l _ _ i1 i2 => simp [imms, imm] at hi
  | dt h l _ _ i1 i2 => simp [imms, imm] at hi
  | ob h l _ _ i1 i2 => simp [imms, imm] at hi
  | scr h _ _ i1 i2 =>
    simp only [imms, imm, Bool.and_eq_true] at hi
    exact .scr (ht.f _ _ h) (i1 hi.1) (i2 hi.2)
end

/-! ### owned trees -/
inductive Sh where
  | v
  | l (s : Sh)
  | dk (s : Sh)
  | dt (s : Sh)
  | ob (ss : List Sh)
  | tp (ss : List Sh)

/-- values with their shapes: what is owned stands at zs, in this order; G: the heap for what is frozen -/
inductive Own (K : PySem.W.Frag) (G H : Hp) : List Sh → List V → List D → List Addr → Prop
  | nil : Own K G H [] [] [] []
  | v {v d ss vs ds zs} : Rp K G [v] [d] → Own K G H ss vs ds zs → Own K G H (.v :: ss) (v :: vs) (d :: ds) zs
  | l {a s us xs z1 ss vs ds zs} : H a = some (.lst us) → Own K G H (us.map fun _ => s) us xs z1 → Own K G H ss vs ds zs → Own K G H (.l s :: ss) (.ref a :: vs) (.lst xs :: ds) (a :: (z1 ++ zs))
  | dk {a s ks us xs z1 ss vs ds zs} : H a = some (.dK (ks.zip us)) → ks.length = us.length → Own K G H (us.map fun _ => s) us xs z1 → Own K G H ss vs ds zs → Own K G H (.dk s :: ss) (.ref a :: vs) (.dk ks xs :: ds) (a :: (z1 ++ zs))
  | dt {a s ks us xs z1 ss vs ds zs} : H a = some (.dT (ks.zip us)) → ks.length = us.length → Own K G H (us.map fun _ => s) us xs z1 → Own K G H ss vs ds zs → Own K G H (.dt s :: ss) (.ref a :: vs) (.dt ks xs :: ds) (a :: (z1 ++ zs))
  | ob {a C dx ns sf us xs z1 ss vs ds zs} : H a = some (.ins C dx (ns.zip us)) → H dx = some (.own a) → ns.length = us.length → Own K G H sf us xs z1 → Own K G H ss vs ds zs → Own K G H (.ob sf :: ss) (.ref a :: vs) (.ob C ns xs :: ds) (a :: dx :: (z1 ++ zs))
  | tp {a st us xs z1 ss vs ds zs} : SqT K G a us → Own K G H st us xs z1 → Own K G H ss vs ds zs → Own K G H (.tp st :: ss) (.ref a :: vs) (.tup xs :: ds) (z1 ++ zs)

/-- what an owned place holds -/
def Mine : Option HO → Prop
  | some (.lst _) => True
  | some (.dK _) => True
  | some (.dT _) => True
  | some (.ins _ _ _) => True
  | some (.own _) => True
  | _ => False

section
variable {K : PySem.W.Frag} {G G' H H' : Hp} {ss s1 s2 : List Sh} {v : V} {vs us v1 v2 : List V} {d : D} {ds xs d1 d2 : List D} {zs z1 z2 : List Addr}
theorem Own.mine (r : Own K G H ss vs ds zs) : ∀ z ∈ zs, Mine (H z) := by
  induction r with
  | nil => intro z hz; cases hz
  | v _ _ ih => exact ih
  | l h _ _ i1 i2 =>
    intro z hz
    rcases List.mem_cons.mp hz with rfl | hz
    · rw [h]; trivial
    · rcases List.mem_append.mp hz with q | q
      · exact i1 z q
      · exact i2 z q
  | dk h _ _ _ i1 i2 =>
    intro z hz
    rcases List.mem_cons.mp hz with rfl | hz
    · rw [h]; trivial
    · rcases List.mem_append.mp hz with q | q
      · exact i1 z q
      · exact i2 z q
  | dt h _ _ _ i1 i2 =>
    intro z hz
    rcases List.mem_cons.mp hz with rfl | hz
    · rw [h]; trivial
    · rcases List.mem_append.mp hz with q | q
      · exact i1 z q
      · exact i2 z q
  | ob h h' _ _ _ i1 i2 =>
    intro z hz
    rcases List.mem_cons.mp hz with rfl | hz
    · rw [h]; trivial
    · rcases List.mem_cons.mp hz with rfl | hz
      · rw [h']; trivial
      · rcases List.mem_append.mp hz with q | q
        · exact i1 z q
        · exact i2 z q
  | tp _ _ _ i1 i2 =>
    intro z hz
    rcases List.mem_append.mp hz with q | q
    · exact i1 z q
    · exact i2 z q
theorem Own.lens (r : Own K G H ss vs ds zs) : ss.length = vs.length ∧ ds.length = vs.length := by
  induction r <;> simp_all
theorem Own.step (r : Own K G H ss vs ds zs) (e : Same G G') (k : ∀ z ∈ zs, ∀ o, H z = some o → H' z = some o) : Own K G' H' ss vs ds zs := by
  induction r with
  | nil => exact .nil
  | v h _ ih => exact .v (h.same e) (ih k)
  | l h _ _ i1 i2 => exact .l (k _ (by simp) _ h) (i1 fun z hz => k z (by simp [hz])) (i2 fun z hz => k z (by simp [hz]))
  | dk h l _ _ i1 i2 => exact .dk (k _ (by simp) _ h) l (i1 fun z hz => k z (by simp [hz])) (i2 fun z hz => k z (by simp [hz]))
  | dt h l _ _ i1 i2 => exact .dt (k _ (by simp) _ h) l (i1 fun z hz => k z (by simp [hz])) (i2 fun z hz => k z (by simp [hz]))
  | ob h h' l _ _ i1 i2 => exact .ob (k _ (by simp) _ h) (k _ (by simp) _ h') l (i1 fun z hz => k z (by simp [hz])) (i2 fun z hz => k z (by simp [hz]))
  | tp h _ _ i1 i2 => exact .tp (sqT_same e h) (i1 fun z hz => k z (by simp [hz])) (i2 fun z hz => k z (by simp [hz]))
theorem Own.app (r : Own K G H s1 v1 d1 z1) (s : Own K G H s2 v2 d2 z2) : Own K G H (s1 ++ s2) (v1 ++ v2) (d1 ++ d2) (z1 ++ z2) := by
  induction r with
  | nil => exact s
  | v h _ ih => exact .v h ih
  | l h a _ _ i2 => simpa [List.append_assoc] using Own.l h a i2
  | dk h l a _ _ i2 => simpa [List.append_assoc] using Own.dk h l a i2
  | dt h l a _ _ i2 => simpa [List.append_assoc] using Own.dt h l a i2
  | ob h h' l a _ _ i2 => simpa [List.append_assoc] using Own.ob h h' l a i2
  | tp h a _ _ i2 => simpa [List.append_assoc] using Own.tp h a i2
theorem Own.uncons {s : Sh} (r : Own K G H (s :: ss) (v :: vs) (d :: ds) zs) : ∃ z1 z2, zs = z1 ++ z2 ∧ Own K G H [s] [v] [d] z1 ∧ Own K G H ss vs ds z2 := by
  cases r with
  | v h r => exact ⟨[], _, rfl, .v h .nil, r⟩
  | @l a s us xs z1 _ _ _ zs h i r => exact ⟨a :: z1, _, by simp, by simpa using Own.l h i .nil, r⟩
  | @dk a s ks us xs z1 _ _ _ zs h l i r => exact ⟨a :: z1, _, by simp, by simpa using Own.dk h l i .nil, r⟩
  | @dt a s ks us xs z1 _ _ _ zs h l i r => exact ⟨a :: z1, _, by simp, by simpa using Own.dt h l i .nil, r⟩
  | @ob a C dx ns sf us xs z1 _ _ _ zs h h' l i r => exact ⟨a :: dx :: z1, _, by simp, by simpa using Own.ob h h' l i .nil, r⟩
  | @tp a st us xs z1 _ _ _ zs h i r => exact ⟨z1, _, rfl, by simpa using Own.tp h i .nil, r⟩
theorem Own.cons1 {s : Sh} (r : Own K G H [s] [v] [d] z1) (q : Own K G H ss vs ds z2) : Own K G H (s :: ss) (v :: vs) (d :: ds) (z1 ++ z2) := r.app q
theorem Own.split : ∀ {s1 s2 : List Sh} {v1 v2 : List V} {d1 d2 : List D} {zs : List Addr}, s1.length = v1.length → d1.length = v1.length → Own K G H (s1 ++ s2) (v1 ++ v2) (d1 ++ d2) zs →
    ∃ z1 z2, zs = z1 ++ z2 ∧ Own K G H s1 v1 d1 z1 ∧ Own K G H s2 v2 d2 z2
  | [], _, [], _, [], _, zs, _, _, r => ⟨[], zs, rfl, .nil, r⟩
  | [], _, _ :: _, _, _, _, _, h, _, _ => by simp at h
  | _ :: _, _, [], _, _, _, _, h, _, _ => by simp at h
  | _, _, [], _, _ :: _, _, _, _, h, _ => by simp at h
  | _, _, _ :: _, _, [], _, _, _, h, _ => by simp at h
  | s :: s1, s2, w :: v1, v2, d :: d1, d2, zs, h1, h2, r => by
    obtain ⟨za, zb, rfl, ra, rb⟩ := Own.uncons r
    obtain ⟨zc, zd, rfl, rc, rd⟩ := Own.split (by simpa using h1) (by simpa using h2) rb
    exact ⟨za ++ zc, zd, by simp, ra.cons1 rc, rd⟩
/-- an owned tree is read -/
theorem Own.rp (r : Own K G H ss vs ds zs) (e : Same G H) : Rp K H vs ds := by
  induction r with
  | nil => exact .nil
  | v h _ ih => exact (h.same e).cons1 ih
  | l h _ _ i1 i2 => exact .lst h i1 i2
  | dk h l _ _ i1 i2 => exact .dk h l i1 i2
  | dt h l _ _ i1 i2 => exact .dt h l i1 i2
  | ob h h' l _ _ i1 i2 => exact .ob h l i1 i2
  | tp h _ _ i1 i2 => exact .tup (sqT_same e h) i1 i2
/-- frozen: it is owned no longer -/
theorem Own.freeze (r : Own K (hid H zs) H ss vs ds z1) {ws : List Addr} (hw : ∀ a ∈ ws, a ∈ zs) (hd : ∀ a ∈ z1, a ∉ ws) : Rp K (hid H ws) vs ds := by
  induction r with
  | nil => exact .nil
  | v h _ ih => exact (h.same (hid_le hw)).cons1 (ih hd)
  | l h _ _ i1 i2 => exact .lst ((hid_out (hd _ (by simp))).trans h) (i1 fun a m => hd a (by simp [m])) (i2 fun a m => hd a (by simp [m]))
  | dk h l _ _ i1 i2 => exact .dk ((hid_out (hd _ (by simp))).trans h) l (i1 fun a m => hd a (by simp [m])) (i2 fun a m => hd a (by simp [m]))
  | dt h l _ _ i1 i2 => exact .dt ((hid_out (hd _ (by simp))).trans h) l (i1 fun a m => hd a (by simp [m])) (i2 fun a m => hd a (by simp [m]))
  | ob h h' l _ _ i1 i2 => exact .ob ((hid_out (hd _ (by simp))).trans h) l (i1 fun a m => hd a (by simp [m])) (i2 fun a m => hd a (by simp [m]))
  | tp h _ _ i1 i2 => exact .tup (sqT_same (hid_le hw) h) (i1 fun a m => hd a (by simp [m])) (i2 fun a m => hd a (by simp [m]))
end

/-! ### entries: what is known of a slot or of a value at hand -/
inductive E where
  /-- nothing -/
  | x
  /-- borrowed: to be read until something changes -/
  | b (d : D)
  /-- owned (shape v: frozen) -/
  | o (s : Sh) (d : D)
  /-- owned, of a slot that keeps the value that it had at the entry -/
  | p (s : Sh) (d : D)
def kill : E → E
  | .b _ => .x
  | e => e
inductive Ents (K : PySem.W.Frag) (G H : Hp) : List E → List V → List Addr → Prop
  | nil : Ents K G H [] [] []
  | x {v es vs zs} : Ents K G H es vs zs → Ents K G H (.x :: es) (v :: vs) zs
  | b {v d es vs zs} : Rp K H [v] [d] → Ents K G H es vs zs → Ents K G H (.b d :: es) (v :: vs) zs
  | o {s v d z1 es vs zs} : Own K G H [s] [v] [d] z1 → Ents K G H es vs zs → Ents K G H (.o s d :: es) (v :: vs) (z1 ++ zs)
  | p {s v d z1 es vs zs} : Own K G H [s] [v] [d] z1 → Ents K G H es vs zs → Ents K G H (.p s d :: es) (v :: vs) (z1 ++ zs)
section
variable {K : PySem.W.Frag} {G G' H H' : Hp} {e : E} {es e1 e2 : List E} {v : V} {vs v1 v2 : List V} {zs z1 z2 : List Addr}
theorem Ents.length (r : Ents K G H es vs zs) : es.length = vs.length := by
  induction r <;> simp_all
theorem Ents.mine (r : Ents K G H es vs zs) : ∀ z ∈ zs, Mine (H z) := by
  induction r with
  | nil => intro z hz; cases hz
  | x _ ih => exact ih
  | b _ _ ih => exact ih
  | o h _ ih =>
    intro z hz
    rcases List.mem_append.mp hz with q | q
    · exact h.mine z q
    · exact ih z q
  | p h _ ih =>
    intro z hz
    rcases List.mem_append.mp hz with q | q
    · exact h.mine z q
    · exact ih z q
theorem Ents.grow (r : Ents K G H es vs zs) (e : Same G G') (k : Same H H') : Ents K G' H' es vs zs := by
  induction r with
  | nil => exact .nil
  | x _ ih => exact .x ih
  | b h _ ih => exact .b (h.same k) ih
  | o h _ ih => exact .o (h.step e fun z _ o q => k z o q) ih
  | p h _ ih => exact .p (h.step e fun z _ o q => k z o q) ih
theorem Ents.step (r : Ents K G H es vs zs) (e : Same G G') (k : ∀ z ∈ zs, ∀ o, H z = some o → H' z = some o) : Ents K G' H' (es.map kill) vs zs := by
  induction r with
  | nil => exact .nil
  | x _ ih => exact .x (ih k)
  | b h _ ih => exact .x (ih k)
  | o h _ ih => exact .o (h.step e fun z hz => k z (List.mem_append_left _ hz)) (ih fun z hz => k z (List.mem_append_right _ hz))
  | p h _ ih => exact .p (h.step e fun z hz => k z (List.mem_append_left _ hz)) (ih fun z hz => k z (List.mem_append_right _ hz))
theorem Ents.app (r : Ents K G H e1 v1 z1) (s : Ents K G H e2 v2 z2) : Ents K G H (e1 ++ e2) (v1 ++ v2) (z1 ++ z2) := by
  induction r with
  | nil => exact s
  | x _ ih => exact .x ih
  | b h _ ih => exact .b h ih
  | o h _ ih => rw [List.append_assoc]; exact .o h ih
  | p h _ ih => rw [List.append_assoc]; exact .p h ih
theorem Ents.uncons (r : Ents K G H (e :: es) (v :: vs) zs) : ∃ z1 z2, zs = z1 ++ z2 ∧ Ents K G H [e] [v] z1 ∧ Ents K G H es vs z2 := by
  cases r with
  | x r => exact ⟨[], _, rfl, .x .nil, r⟩
  | b h r => exact ⟨[], _, rfl, .b h .nil, r⟩
  | @o s _ d z1 _ _ zs h r => exact ⟨z1, zs, rfl, by simpa using Ents.o h .nil, r⟩
  | @p s _ d z1 _ _ zs h r => exact ⟨z1, zs, rfl, by simpa using Ents.p h .nil, r⟩
theorem Ents.split : ∀ {e1 e2 : List E} {v1 v2 : List V} {zs : List Addr}, e1.length = v1.length → Ents K G H (e1 ++ e2) (v1 ++ v2) zs → ∃ z1 z2, zs = z1 ++ z2 ∧ Ents K G H e1 v1 z1 ∧ Ents K G H e2 v2 z2
  | [], _, [], _, zs, _, r => ⟨[], zs, rfl, .nil, r⟩
  | [], _, _ :: _, _, _, h, _ => by simp at h
  | _ :: _, _, [], _, _, h, _ => by simp at h
  | e :: e1, e2, v :: v1, v2, zs, h, r => by
    obtain ⟨za, zb, rfl, ra, rb⟩ := Ents.uncons r
    obtain ⟨zc, zd, rfl, rc, rd⟩ := Ents.split (by simpa using h) rb
    exact ⟨za ++ zc, zd, by simp, ra.app rc, rd⟩
theorem Ents.x1 (r : Ents K G H [.x] [v] zs) : zs = [] := by
  cases r with
  | x r => cases r; rfl
theorem Ents.b1 {d : D} (r : Ents K G H [.b d] [v] zs) : zs = [] ∧ Rp K H [v] [d] := by
  cases r with
  | b h r => cases r; exact ⟨rfl, h⟩
theorem Ents.o1 {s : Sh} {d : D} (r : Ents K G H [.o s d] [v] zs) : Own K G H [s] [v] [d] zs := by
  cases r with
  | o h r => cases r; simpa using h
theorem Ents.p1 {s : Sh} {d : D} (r : Ents K G H [.p s d] [v] zs) : Own K G H [s] [v] [d] zs := by
  cases r with
  | p h r => cases r; simpa using h
theorem Own.entp {s : Sh} {d : D} (h : Own K G H [s] [v] [d] zs) : Ents K G H [.p s d] [v] zs := by simpa using Ents.p h .nil
theorem Own.ent {s : Sh} {d : D} (h : Own K G H [s] [v] [d] zs) : Ents K G H [.o s d] [v] zs := by simpa using Ents.o h .nil
theorem Own.v0 {d : D} (h : Own K G H [.v] [v] [d] zs) : zs = [] ∧ Rp K G [v] [d] := by
  cases h with
  | v h r => cases r; exact ⟨rfl, h⟩
end
end LP
end
section
/-! LP, part b: the state of a frame. -/
namespace LP
open PySem PySem.Spec PyProof.Rows L2

/-- what of the entry's heap may change; the entry's slots -/
structure Bs where
  ms : List Addr
  st : L2.St
/-- the slots' values -/
def vals (σ : L2.St) : List V := σ.map fun o => o.getD .non
theorem vals_length (σ : L2.St) : (vals σ).length = σ.length := List.length_map ..
theorem vals_get {σ : L2.St} {i : Nat} {v : V} (h : σ[i]? = some (some v)) : (vals σ)[i]? = some v := by simp [vals, h]
theorem vals_set (σ : L2.St) (i : Nat) (v : V) : vals (σ.set i (some v)) = (vals σ).set i v := by simp [vals, List.map_set]
structure Slots (s0 : L2.St) (σ : L2.St) (ρ : List E) : Prop where
  len : σ.length = ρ.length
  pin : ∀ (i : Nat) (s : Sh) (d : D), ρ[i]? = some (.p s d) → σ[i]? = s0[i]?
  at_ : ∀ (i : Nat) (e : E), ρ[i]? = some e → e ≠ .x → ∃ v, σ[i]? = some (some v)

def Once (zs : List Addr) : Prop := ∀ a, zs.count a ≤ 1

/-- H0 the heap at the entry, M0 what of it may change; temps (entries τ, values tv), slots ρ -/
structure Cfg (K : PySem.W.Frag) (H0 : Hp) (M0 : Bs) (H : Hp) (σ : L2.St) (τ : List E) (tv : List V) (ρ : List E) : Prop where
  ex : ∃ zs, tv.length = τ.length ∧ Slots M0.st σ ρ ∧ Ents K (hid H zs) H (τ ++ ρ) (tv ++ vals σ) zs ∧ Once zs ∧ ∀ z ∈ zs, H0 z = none ∨ z ∈ M0.ms
  frame : ∀ a o, H0 a = some o → a ∉ M0.ms → H a = some o
  gone : ∀ a, H a = none → H0 a = none

/-- what is read of an entry -/
def E.rd : E → Option D
  | .x => none
  | .b d => some d
  | .o _ d => some d
  | .p _ d => some d

section
variable {K : PySem.W.Frag} {H0 H H' G : Hp} {M0 : Bs} {σ : L2.St} {τ es ρ : List E} {tv us vs : List V} {e : E} {v : V} {d : D} {zs : List Addr}

theorem sqT_hid {a : Addr} {xs : List V} (hm : ∀ z ∈ zs, Mine (H z)) (h : SqT K H a xs) : SqT K (hid H zs) a xs := by
  rcases h with (h | ⟨o, h⟩) | h
  · refine .inl (.inl ((hid_out fun m => ?_).trans h))
    have := hm a m
    rw [h] at this
    exact this
  · refine .inl (.inr ⟨o, (hid_out fun m => ?_).trans h⟩)
    have := hm a m
    rw [h] at this
    exact this
  · exact .inr h
theorem kp_hid (hm : ∀ z ∈ zs, Mine (H z)) : Kp K H (hid H zs) := by
  refine ⟨fun _ _ h => sqT_hid hm h, fun a us h => ?_⟩
  rcases h with ⟨o, h⟩ | h
  · refine .inl ⟨o, (hid_out fun m => ?_).trans h⟩
    have := hm a m
    rw [h] at this
    exact this
  · exact .inr h
theorem Ents.imm {es : List E} {xs : List D} (r : Ents K (hid H zs) H es vs zs) (h : Rp K H us xs) (hi : imms xs = true) : Rp K (hid H zs) us xs :=
  h.immT hi (kp_hid r.mine)
theorem Ents.rd1 {e : E} {z1 : List Addr} (r : Ents K (hid H zs) H [e] [v] z1) (h : e.rd = some d) : Rp K H [v] [d] := by
  cases e with
  | x => cases h
  | b d' => cases h; exact r.b1.2
  | o s d' => cases h; exact r.o1.rp (hid_sub _ _)
  | p s d' => cases h; exact r.p1.rp (hid_sub _ _)
theorem Cfg.grow (c : Cfg K H0 M0 H σ τ tv ρ) (k : Same H H') : Cfg K H0 M0 H' σ τ tv ρ := by
  obtain ⟨⟨zs, l, s, r, n, f⟩, fr, go⟩ := c
  exact ⟨⟨zs, l, s, r.grow (hid_grow k) k, n, f⟩, fun a o h1 h2 => k a o (fr a o h1 h2), fun a h => go a (k.free h)⟩
theorem Cfg.len (c : Cfg K H0 M0 H σ τ tv ρ) : tv.length = τ.length := let ⟨_, l, _⟩ := c.ex; l
theorem Cfg.slen (c : Cfg K H0 M0 H σ τ tv ρ) : σ.length = ρ.length := let ⟨_, _, s, _⟩ := c.ex; s.len
theorem app_inj_len {α : Type} {a b c d : List α} (h : a ++ b = c ++ d) (l : a.length = c.length) : a = c ∧ b = d := List.append_inj h l
/-- the last temps go -/
theorem Cfg.drop (c : Cfg K H0 M0 H σ (τ ++ es) (tv ++ us) ρ) (h : us.length = es.length) : Cfg K H0 M0 H σ τ tv ρ := by
  obtain ⟨⟨zs, l, s, r, n, f⟩, fr, go⟩ := c
  have l' : tv.length = τ.length := by simp at l; omega
  rw [List.append_assoc, List.append_assoc] at r
  obtain ⟨za, zb, e1, ra, rb⟩ := r.split l'.symm
  obtain ⟨zc, zd, e2, rc, rd⟩ := rb.split h.symm
  subst e1 e2
  refine ⟨⟨za ++ zd, l', s, ?_, fun a => ?_, fun z m => f z ?_⟩, fr, go⟩
  · have q := ra.app rd
    refine Ents.grow q (hid_le fun a m => ?_) fun _ _ q => q
    simp only [List.mem_append] at m ⊢
    rcases m with m | m
    · exact .inl m
    · exact .inr (.inr m)
  · have := n a
    simp only [List.count_append] at this ⊢
    omega
  · simp only [List.mem_append] at m ⊢
    rcases m with m | m
    · exact .inl m
    · exact .inr (.inr m)
theorem Cfg.drop1 (c : Cfg K H0 M0 H σ (τ ++ [e]) (tv ++ [v]) ρ) : Cfg K H0 M0 H σ τ tv ρ := c.drop rfl
theorem Cfg.last (c : Cfg K H0 M0 H σ (τ ++ [e]) (tv ++ [v]) ρ) (h : e.rd = some d) : Rp K H [v] [d] := by
  obtain ⟨⟨zs, l, s, r, n, f⟩, fr, go⟩ := c
  have l' : tv.length = τ.length := by simp at l; omega
  rw [List.append_assoc, List.append_assoc] at r
  obtain ⟨za, zb, e1, ra, rb⟩ := r.split l'.symm
  obtain ⟨zc, zd, e2, rc, rd⟩ := rb.uncons
  exact rc.rd1 h
/-- the temps, each read -/
theorem Ents.rds {z1 : List Addr} : ∀ {es : List E} {us : List V} {ds : List D} {z1 : List Addr}, Ents K (hid H zs) H es us z1 → es.mapM E.rd = some ds → Rp K H us ds
  | [], [], ds, _, _, h => by
    simp at h; subst h; exact .nil
  | [], _ :: _, _, _, r, _ => nomatch r
  | _ :: _, [], _, _, r, _ => nomatch r
  | e :: es, w :: us, ds, z1, r, h => by
    rw [List.mapM_cons] at h
    cases h1 : e.rd with
    | none => rw [h1] at h; cases h
    | some d =>
      cases h2 : es.mapM E.rd with
      | none => rw [h1, h2] at h; cases h
      | some ds' =>
        rw [h1, h2] at h
        cases h
        obtain ⟨_, _, _, ra, rb⟩ := r.uncons
        exact (ra.rd1 h1).cons1 (Ents.rds (z1 := z1) rb h2)
theorem Cfg.reads {ds : List D} (c : Cfg K H0 M0 H σ (τ ++ es) (tv ++ us) ρ) (h : us.length = es.length) (hd : es.mapM E.rd = some ds) : Rp K H us ds := by
  obtain ⟨⟨zs, l, s, r, n, f⟩, fr, go⟩ := c
  have l' : tv.length = τ.length := by simp at l; omega
  rw [List.append_assoc, List.append_assoc] at r
  obtain ⟨za, zb, e1, ra, rb⟩ := r.split l'.symm
  obtain ⟨zc, zd, e2, rc, rd⟩ := rb.split h.symm
  exact rc.rds (z1 := zc) hd
theorem Cfg.push0 (c : Cfg K H0 M0 H σ τ tv ρ) (hx : ∀ G zs, (∀ z ∈ zs, Mine (H z)) → G = hid H zs → Ents K G H [e] [v] []) : Cfg K H0 M0 H σ (τ ++ [e]) (tv ++ [v]) ρ := by
  obtain ⟨⟨zs, l, s, r, n, f⟩, fr, go⟩ := c
  have hr := hx (hid H zs) zs r.mine rfl
  obtain ⟨za, zb, e1, ra, rb⟩ := r.split l.symm
  subst e1
  refine ⟨⟨za ++ zb, by simp [l], s, ?_, n, f⟩, fr, go⟩
  rw [List.append_assoc, List.append_assoc]
  have q := ra.app (hr.app rb)
  simpa using q
theorem Cfg.pushImm (c : Cfg K H0 M0 H σ τ tv ρ) (h : Rp K H [v] [d]) (hi : imm d = true) : Cfg K H0 M0 H σ (τ ++ [.o .v d]) (tv ++ [v]) ρ :=
  c.push0 fun G zs hm e => by
    subst e
    have q : Rp K (hid H zs) [v] [d] := h.immT (by simp [imms, hi]) (kp_hid hm)
    simpa using (Own.v q Own.nil).ent
theorem Cfg.pushB (c : Cfg K H0 M0 H σ τ tv ρ) (h : Rp K H [v] [d]) : Cfg K H0 M0 H σ (τ ++ [.b d]) (tv ++ [v]) ρ :=
  c.push0 fun G zs hm e => .b h .nil
theorem Cfg.pushX (c : Cfg K H0 M0 H σ τ tv ρ) : Cfg K H0 M0 H σ (τ ++ [.x]) (tv ++ [v]) ρ :=
  c.push0 fun G zs hm e => .x .nil
/-- a slot is read as a temp: borrowed, or frozen where it is frozen -/
def mkR (d : D) : E := if imm d = true then .o .v d else .b d
def rdE : E → E
  | .x => .x
  | .b d => mkR d
  | .o .v d => .o .v d
  | .o (.l _) d => mkR d
  | .o (.dk _) d => mkR d
  | .o (.dt _) d => mkR d
  | .o (.ob _) d => mkR d
  | .o (.tp _) d => mkR d
  | .p _ d => mkR d
theorem mkR_rd (d : D) : (mkR d).rd = some d := by unfold mkR; split <;> rfl
theorem rdE_rd (e : E) : (rdE e).rd = e.rd := by
  cases e with
  | x => rfl
  | b d => exact mkR_rd d
  | o s d => cases s <;> first | rfl | exact mkR_rd d
  | p s d => exact mkR_rd d
theorem Cfg.pushR (c : Cfg K H0 M0 H σ τ tv ρ) (h : Rp K H [v] [d]) : Cfg K H0 M0 H σ (τ ++ [mkR d]) (tv ++ [v]) ρ := by
  unfold mkR
  split
  · rename_i hi; exact c.pushImm h hi
  · exact c.pushB h
theorem Cfg.slot {i : Nat} (c : Cfg K H0 M0 H σ τ tv ρ) (h : ρ[i]? = some e) (hx : e.rd = some d) : ∃ v, σ[i]? = some (some v) ∧ Rp K H [v] [d] ∧ Cfg K H0 M0 H σ (τ ++ [rdE e]) (tv ++ [v]) ρ := by
  have hne : e ≠ .x := fun q => by subst q; cases hx
  obtain ⟨zs, l, s, r, n, f⟩ := id c.ex
  obtain ⟨v, h1⟩ := s.at_ i e h hne
  have h2 := vals_get h1
  obtain ⟨za, zb, e1, ra, rb⟩ := r.split l.symm
  -- the entry within the slots
  have key : ∃ ze, Ents K (hid H zs) H [e] [v] ze := by
    have : ∀ (ρ : List E) (vs : List V) (i : Nat) (zb : List Addr), Ents K (hid H zs) H ρ vs zb → ρ[i]? = some e → vs[i]? = some v → ∃ ze, Ents K (hid H zs) H [e] [v] ze := by
      intro ρ
      induction ρ with
      | nil => intro vs i zb _ q _; simp at q
      | cons e' ρ ih =>
        intro vs i zb r q1 q2
        cases vs with
        | nil => simp at q2
        | cons v' vs =>
          obtain ⟨z1, z2, _, r1, r2⟩ := r.uncons
          cases i with
          | zero =>
            simp at q1 q2; subst q1 q2
            exact ⟨z1, r1⟩
          | succ i => exact ih vs i z2 r2 (by simpa using q1) (by simpa using q2)
    exact this ρ _ i zb rb h h2
  obtain ⟨ze, re⟩ := key
  have rr : Rp K H [v] [d] := re.rd1 hx
  refine ⟨v, h1, rr, ?_⟩
  cases e with
  | x => cases hx
  | b d' =>
    cases hx
    exact c.pushR rr
  | o sh d' =>
    cases hx
    cases sh with
    | v =>
      obtain ⟨ez, rv⟩ := re.o1.v0
      subst ez
      refine ⟨⟨zs, by simp [l], s, ?_, n, f⟩, c.frame, c.gone⟩
      rw [List.append_assoc, List.append_assoc]
      have q := ra.app ((Own.v rv Own.nil).ent.app rb)
      rw [e1] at q ⊢
      simpa [rdE] using q
    | _ => exact c.pushR rr
  | p sh d' =>
    cases hx
    exact c.pushR rr
/-- a temp goes into a slot -/
def isP : E → Bool
  | .p _ _ => true
  | _ => false
theorem Cfg.put {i : Nat} (c : Cfg K H0 M0 H σ (τ ++ [e]) (tv ++ [v]) ρ) (hi : i < ρ.length) (he : isP e = false) : Cfg K H0 M0 H (σ.set i (some v)) τ tv (ρ.set i e) := by
  obtain ⟨⟨zs, l, s, r, n, f⟩, fr, go⟩ := c
  have l' : tv.length = τ.length := by simp at l; omega
  rw [List.append_assoc, List.append_assoc] at r
  obtain ⟨za, zb, e1, ra, rb⟩ := r.split l'.symm
  obtain ⟨zc, zd, e2, rc, rd⟩ := rb.uncons
  subst e1 e2
  have hv : i < (vals σ).length := by rw [vals_length, s.len]; exact hi
  have e3 : ρ = ρ.take i ++ ρ[i] :: ρ.drop (i + 1) := by simp
  have e4 : vals σ = (vals σ).take i ++ (vals σ)[i] :: (vals σ).drop (i + 1) := by simp
  have lt : (ρ.take i).length = ((vals σ).take i).length := by simp; omega
  rw [e3, e4] at rd
  obtain ⟨zf, zg, e5, rf, rg⟩ := rd.split lt
  obtain ⟨zh, zk, e6, rh, rk⟩ := rg.uncons
  subst e5 e6
  refine ⟨⟨za ++ (zf ++ (zc ++ zk)), l', ⟨by simp [s.len], fun j s' d' hj => ?_, fun j e' hj hx => ?_⟩, ?_, fun a => ?_, fun z m => f z ?_⟩, fr, go⟩
  · by_cases hij : j = i
    · subst hij
      rw [List.getElem?_set_self hi] at hj
      cases hj
      cases he
    · rw [List.getElem?_set_ne (Ne.symm hij)] at hj
      rw [List.getElem?_set_ne (Ne.symm hij)]
      exact s.pin j s' d' hj
  · by_cases hij : j = i
    · subst hij
      exact ⟨v, List.getElem?_set_self (by rw [s.len]; exact hi)⟩
    · rw [List.getElem?_set_ne (Ne.symm hij)] at hj
      obtain ⟨w, h1⟩ := s.at_ j e' hj hx
      exact ⟨w, by rw [List.getElem?_set_ne (Ne.symm hij)]; exact h1⟩
  · have q := ra.app (rf.app (rc.app rk))
    have e7 : ρ.set i e = ρ.take i ++ ([e] ++ ρ.drop (i + 1)) := by
      rw [List.set_eq_take_append_cons_drop, if_pos hi]
      rfl
    have e8 : vals (σ.set i (some v)) = (vals σ).take i ++ ([v] ++ (vals σ).drop (i + 1)) := by
      rw [vals_set, List.set_eq_take_append_cons_drop, if_pos hv]
      rfl
    rw [e7, e8]
    refine Ents.grow q (hid_le fun a m => ?_) fun _ _ q => q
    simp only [List.mem_append] at m ⊢
    rcases m with m | m | m | m
    · exact .inl m
    · exact .inr (.inr (.inl m))
    · exact .inr (.inl m)
    · exact .inr (.inr (.inr (.inr m)))
  · have := n a
    simp only [List.count_append] at this ⊢
    omega
  · simp only [List.mem_append] at m ⊢
    rcases m with m | m | m | m
    · exact .inl m
    · exact .inr (.inr (.inl m))
    · exact .inr (.inl m)
    · exact .inr (.inr (.inr (.inr m)))
/-- entries weakened to nothing -/
def WkE (e e' : E) : Prop := e' = .x ∨ e' = e
theorem Ents.wk : ∀ {es es' : List E} {vs : List V} {z1 : List Addr}, Ents K G H es vs z1 → es'.length = es.length → (∀ (i : Nat) (e e' : E), es[i]? = some e → es'[i]? = some e' → WkE e e') →
    ∃ z2, (∀ a, z2.count a ≤ z1.count a) ∧ Ents K G H es' vs z2
  | [], [], [], _, r, _, _ => ⟨_, fun _ => Nat.le_refl _, r⟩
  | [], _ :: _, _, _, _, h, _ => by simp at h
  | _ :: _, [], _, _, _, h, _ => by simp at h
  | [], [], _ :: _, _, r, _, _ => nomatch r
  | _ :: _, _ :: _, [], _, r, _, _ => nomatch r
  | e :: es, e' :: es', w :: vs, z1, r, h, k => by
    obtain ⟨za, zb, e1, ra, rb⟩ := r.uncons
    obtain ⟨zc, h1, r1⟩ := Ents.wk rb (by simpa using h) fun i a b q1 q2 => k (i + 1) a b (by simpa using q1) (by simpa using q2)
    rcases k 0 e e' rfl rfl with q | q
    · subst q
      refine ⟨zc, fun a => ?_, .x r1⟩
      have := h1 a
      rw [e1, List.count_append]
      omega
    · subst q
      refine ⟨za ++ zc, fun a => ?_, ra.app r1⟩
      have := h1 a
      rw [e1, List.count_append, List.count_append]
      omega
theorem Cfg.re {τ' ρ' : List E} {tv' : List V} {zs' : List Addr} (n : Once zs) (f : ∀ z ∈ zs, H0 z = none ∨ z ∈ M0.ms) (fr : ∀ a o, H0 a = some o → a ∉ M0.ms → H a = some o) (go : ∀ a, H a = none → H0 a = none)
    (l : tv'.length = τ'.length) (sl : Slots M0.st σ ρ') (r : Ents K (hid H zs) H (τ' ++ ρ') (tv' ++ vals σ) zs') (h : ∀ a, zs'.count a ≤ zs.count a) : Cfg K H0 M0 H σ τ' tv' ρ' := by
  have hs : ∀ a ∈ zs', a ∈ zs := fun a m => List.count_pos_iff.mp (Nat.lt_of_lt_of_le (List.count_pos_iff.mpr m) (h a))
  exact ⟨⟨zs', l, sl, r.grow (hid_le hs) fun _ _ q => q, fun a => Nat.le_trans (h a) (n a), fun z m => f z (hs z m)⟩, fr, go⟩
/-- slots forgotten -/
theorem Cfg.wk {ρ' : List E} (c : Cfg K H0 M0 H σ τ tv ρ) (h : ρ'.length = ρ.length) (k : ∀ (i : Nat) (e e' : E), ρ[i]? = some e → ρ'[i]? = some e' → WkE e e') : Cfg K H0 M0 H σ τ tv ρ' := by
  obtain ⟨⟨zs, l, s, r, n, f⟩, fr, go⟩ := c
  obtain ⟨za, zb, e1, ra, rb⟩ := r.split l.symm
  obtain ⟨zc, h1, r1⟩ := rb.wk h k
  refine Cfg.re n f fr go l ⟨s.len.trans h.symm, fun j s' d' hj => ?_, fun j e' hj hx => ?_⟩ (ra.app r1) fun a => ?_
  · have hl : j < ρ.length := by rw [← h]; exact (List.getElem?_eq_some_iff.mp hj).1
    rcases k j _ _ (List.getElem?_eq_getElem hl) hj with q | q
    · cases q
    · exact s.pin j s' d' (by rw [List.getElem?_eq_getElem hl, ← q])
  · have hl : j < ρ.length := by rw [← h]; exact (List.getElem?_eq_some_iff.mp hj).1
    rcases k j _ _ (List.getElem?_eq_getElem hl) hj with q | q
    · exact absurd q hx
    · exact s.at_ j e' (by rw [List.getElem?_eq_getElem hl, ← q]) hx
  · have := h1 a
    rw [e1, List.count_append, List.count_append]
    omega
theorem Cfg.forget {i : Nat} (c : Cfg K H0 M0 H σ τ tv ρ) : Cfg K H0 M0 H σ τ tv (ρ.set i .x) := by
  refine c.wk (by simp) fun j e e' h1 h2 => ?_
  by_cases hij : i = j
  · subst hij
    rw [List.getElem?_set_self (List.getElem?_eq_some_iff.mp h1).1] at h2
    cases h2
    exact .inl rfl
  · rw [List.getElem?_set_ne hij, h1] at h2
    cases h2
    exact .inr rfl
/-- an owned temp is frozen -/
theorem Cfg.freeze {s : Sh} (c : Cfg K H0 M0 H σ (τ ++ [.o s d]) (tv ++ [v]) ρ) : Cfg K H0 M0 H σ (τ ++ [.o .v d]) (tv ++ [v]) ρ := by
  obtain ⟨⟨zs, l, sl, r, n, f⟩, fr, go⟩ := c
  have l' : tv.length = τ.length := by simp at l; omega
  rw [List.append_assoc, List.append_assoc] at r
  obtain ⟨za, zb, e1, ra, rb⟩ := r.split l'.symm
  obtain ⟨zc, zd, e2, rc, rd⟩ := rb.uncons
  subst e1 e2
  have hsub : ∀ a ∈ za ++ zd, a ∈ za ++ (zc ++ zd) := fun a m => by
    simp only [List.mem_append] at m ⊢
    rcases m with m | m
    · exact .inl m
    · exact .inr (.inr m)
  have hfz : Rp K (hid H (za ++ zd)) [v] [d] := rc.o1.freeze hsub fun a m q => by
    have := n a
    simp only [List.count_append] at this
    have h1 : 0 < zc.count a := List.count_pos_iff.mpr m
    rcases List.mem_append.mp q with q | q
    · have h2 : 0 < za.count a := List.count_pos_iff.mpr q
      omega
    · have h2 : 0 < zd.count a := List.count_pos_iff.mpr q
      omega
  refine ⟨⟨za ++ zd, by simp [l'], sl, ?_, fun a => ?_, fun z m => f z (hsub z m)⟩, fr, go⟩
  · rw [List.append_assoc, List.append_assoc]
    have q := (ra.grow (hid_le hsub) fun _ _ q => q).app ((Own.v hfz Own.nil).ent.app (rd.grow (hid_le hsub) fun _ _ q => q))
    simpa using q
  · have := n a
    simp only [List.count_append] at this ⊢
    omega
end
end LP
end
section
/-! LP, part c: what an expression, an argument list, a statement denotes; names, constants, sequences. -/
namespace LP
open PySem PySem.Spec PyProof.Rows L2

abbrev Rho := List E
/-- an expression's outcome: the value's entry; the slots where they changed -/
inductive EO where
  | ok (e : E) (p : Option Rho)
  | ex (C : Addr) (pl : Option (Str × D)) (p : Option Rho)
  | st
abbrev M := Rho → EO
inductive AO where
  | ok (es : List E) (p : Option Rho)
  | ex (C : Addr) (pl : Option (Str × D)) (p : Option Rho)
  | st
def kp : Option Rho → List E → List E
  | none, τ => τ
  | some _, τ => τ.map kill
def kq : Option Rho → E → E
  | none, e => e
  | some _, e => kill e
def por : Option Rho → Option Rho → Option Rho
  | p, none => p
  | _, some r => some r
def Pay (K : PySem.W.Frag) (H : Hp) (d : Option Addr) : Option (Str × D) → Prop
  | none => d = none
  | some (f, x) => ∃ a v, d = some a ∧ H a = some (.xd [(f, v)]) ∧ Rp K H [v] [x]

theorem kill_kill (e : E) : kill (kill e) = kill e := by cases e <;> rfl
theorem map_kill_kill (τ : List E) : (τ.map kill).map kill = τ.map kill := by
  rw [List.map_map]
  exact List.map_congr_left fun e _ => kill_kill e
theorem kp_por (p q : Option Rho) (τ : List E) : kp q (kp p τ) = kp (por p q) τ := by
  cases p <;> cases q <;> first | rfl | exact map_kill_kill τ
theorem kp_app (p : Option Rho) (a b : List E) : kp p (a ++ b) = kp p a ++ kp p b := by
  cases p <;> simp [kp]
theorem kp_one (p : Option Rho) (e : E) : kp p [e] = [kq p e] := by cases p <;> rfl
theorem getD_por (p q : Option Rho) (ρ : Rho) : q.getD (p.getD ρ) = (por p q).getD ρ := by
  cases p <;> cases q <;> rfl
theorem kp_length (p : Option Rho) (τ : List E) : (kp p τ).length = τ.length := by cases p <;> simp [kp]

section
variable (K : PySem.W.Frag) (W : WX) (H0 : Hp) (M0 : Bs) (τ : List E) (tv : List V) (σ : L2.St) (ρ : Rho) (Hs : Hp)
def RunX (C : Addr) (pl : Option (Str × D)) (p : Option Rho) : Prop := ∀ dO H', Cfg K H0 M0 H' σ (kp p τ) tv (p.getD ρ) → Pay K H' dO pl → W (.ref C) dO σ H'
def Run (Q : VK) : EO → Prop
  | .ok e p => ∀ v H', Cfg K H0 M0 H' σ (kp p τ ++ [e]) (tv ++ [v]) (p.getD ρ) → (p = none → Same Hs H') → Q v H'
  | .ex C pl p => RunX K W H0 M0 τ tv σ ρ C pl p
  | .st => False
def RunA (Q : List V → Hp → Prop) : AO → Prop
  | .ok es p => ∀ vs H', vs.length = es.length → Cfg K H0 M0 H' σ (kp p τ ++ es) (tv ++ vs) (p.getD ρ) → (p = none → Same Hs H') → Q vs H'
  | .ex C pl p => RunX K W H0 M0 τ tv σ ρ C pl p
  | .st => False
end
def tV (K : PySem.W.Frag) (W : WX) (m : M) : TE := fun σ H Q => ∃ H0 M0 τ tv ρ, Cfg K H0 M0 H σ τ tv ρ ∧ Run K W H0 M0 τ tv σ ρ H Q (m ρ)
def tVt (K : PySem.W.Frag) (W : WX) (m : M) : TT := fun σ H Q => ∃ H0 M0 τ tv ρ, Cfg K H0 M0 H σ τ tv ρ ∧ Run K W H0 M0 τ tv σ ρ H (fun v H' => ∃ c, v = .bl c ∧ Q c H') (m ρ)
def tVa (K : PySem.W.Frag) (W : WX) (m : Rho → AO) : TA := fun σ H Q => ∃ H0 M0 τ tv ρ, Cfg K H0 M0 H σ τ tv ρ ∧ RunA K W H0 M0 τ tv σ ρ H Q (m ρ)

/-- the expression e denotes m (W: what is wished of an exception) -/
structure VE (X : Cx) (W : WX) (e : Expr) (m : M) : Prop where
  pe : PE X e (tV X.K W m)
/-- .. as a test -/
structure VT (X : Cx) (W : WX) (e : Expr) (m : M) : Prop where
  pt : PT X e (tVt X.K W m)
structure VA (X : Cx) (W : WX) (es : List Expr) (m : Rho → AO) : Prop where
  pa : PA X es (tVa X.K W m)

theorem _root_.L2.PE.weak {X : Cx} {e : Expr} {t t' : TE} (h : PE X e t) (i : ∀ σ H Q, t' σ H Q → t σ H Q) : PE X e t' := ⟨fun pins s σ H Q I q => h.run pins s σ H Q I (i σ H Q q)⟩
theorem _root_.L2.PT.weak {X : Cx} {e : Expr} {t t' : TT} (h : PT X e t) (i : ∀ σ H Q, t' σ H Q → t σ H Q) : PT X e t' := ⟨fun pins s σ H Q I q => h.run pins s σ H Q I (i σ H Q q)⟩
theorem _root_.L2.PA.weak {X : Cx} {e : List Expr} {t t' : TA} (h : PA X e t) (i : ∀ σ H Q, t' σ H Q → t σ H Q) : PA X e t' := ⟨fun pos pins s σ H Q I q => h.run pos pins s σ H Q I (i σ H Q q)⟩
theorem _root_.L2.PS.weak {X : Cx} {e : Stmt} {t t' : TS} (h : PS X e t) (i : ∀ D σ H, t' D σ H → t D σ H) : PS X e t' := ⟨fun pins s σ H D I q => h.run pins s σ H D I (i D σ H q)⟩
theorem _root_.L2.PSs.weak {X : Cx} {e : List Stmt} {t t' : TS} (h : PSs X e t) (i : ∀ D σ H, t' D σ H → t D σ H) : PSs X e t' := ⟨fun pins s σ H D I q => h.run pins s σ H D I (i D σ H q)⟩

/-! ### names and constants -/
def mVar (i : Nat) : M := fun ρ => match ρ[i]? with
  | some (.b d) => .ok (mkR d) none
  | some (.o s d) => .ok (rdE (.o s d)) none
  | some (.p s d) => .ok (rdE (.p s d)) none
  | _ => .st
def mC (d : D) : M := fun _ => .ok (.o .v d) none
section
variable {X : Cx} {W : WX} {e a b : Expr} {es : List Expr} {m ma mb : M} {pos : Pos}
theorem ve_var {i : Nat} {x : Str} (hN : X.N[i]? = some x) (hv : Vis X.env.scope x) (hd : (x == ("__debug__" : Str)) = false := by decide) (hcd : (x == ("__classdict__" : Str)) = false := by decide) : VE X W (.Name x pos) (mVar i) := by
  refine ⟨(pe_var hN hv hd hcd).weak fun σ H Q q => ?_⟩
  obtain ⟨H0, M0, τ, tv, ρ, c, r⟩ := q
  unfold mVar at r
  cases h : ρ[i]? with
  | none => rw [h] at r; exact r.elim
  | some e =>
    rw [h] at r
    cases e with
    | x => exact r.elim
    | b d =>
      obtain ⟨v, h1, h2, h3⟩ := c.slot h (d := d) rfl
      exact ⟨v, h1, r v H h3 fun _ => Same.refl _⟩
    | o s d =>
      obtain ⟨v, h1, h2, h3⟩ := c.slot h (d := d) rfl
      exact ⟨v, h1, r v H h3 fun _ => Same.refl _⟩
    | p s d =>
      obtain ⟨v, h1, h2, h3⟩ := c.slot h (d := d) rfl
      exact ⟨v, h1, r v H h3 fun _ => Same.refl _⟩
theorem ve_c {v : V} {d : D} (h : PE X e (tC v)) (hr : ∀ K G, Rp K G [v] [d]) (hi : imm d = true) : VE X W e (mC d) := by
  refine ⟨h.weak fun σ H Q q => ?_⟩
  obtain ⟨H0, M0, τ, tv, ρ, c, r⟩ := q
  exact r v H (c.pushImm (hr _ _) hi) fun _ => Same.refl _
theorem ve_int {i : Int} {j} : VE X W (.Constant (.int i) j pos) (mC (.int i)) := ve_c pe_int (fun _ _ => .int i .nil) rfl
theorem ve_bl {i : Bool} {j} : VE X W (.Constant (.bool i) j pos) (mC (.bl i)) := ve_c pe_bl (fun _ _ => .bl i .nil) rfl
theorem ve_non {j} : VE X W (.Constant .none j pos) (mC .non) := ve_c pe_non (fun _ _ => .non .nil) rfl
theorem ve_str {x : Str} {j} : VE X W (.Constant (.str x) j pos) (mC (.str x)) := ve_c pe_str (fun _ _ => .str x .nil) rfl
end

/-! ### argument lists -/
def aNil : Rho → AO := fun _ => .ok [] none
def aCons (m : M) (ms : Rho → AO) : Rho → AO := fun ρ => match m ρ with
  | .ok e p => (match ms (p.getD ρ) with
    | .ok es q => .ok (kq q e :: es) (por p q)
    | .ex C pl q => .ex C pl (por p q)
    | .st => .st)
  | .ex C pl p => .ex C pl p
  | .st => .st
section
variable {K : PySem.W.Frag} {W : WX} {m ma mb : M} {ms : Rho → AO} {H0 : Hp} {M0 : Bs} {τ : List E} {tv : List V} {σ : L2.St} {ρ : Rho} {H : Hp}
theorem por_same {H1 H2 : Hp} {p q : Option Rho} (a : p = none → Same H H1) (b : q = none → Same H1 H2) : por p q = none → Same H H2 := by
  cases p with
  | none =>
    cases q with
    | none => exact fun _ => (a rfl).trans (b rfl)
    | some _ => exact fun h => nomatch h
  | some _ => cases q <;> exact fun h => nomatch h
theorem RunX.seq {C : Addr} {pl : Option (Str × D)} {p q : Option Rho} {e : E} {v : V} (r : RunX K W H0 M0 τ tv σ ρ C pl (por p q)) : RunX K W H0 M0 (kp p τ ++ [e]) (tv ++ [v]) σ (p.getD ρ) C pl q := by
  intro dO H' c pay
  refine r dO H' ?_ pay
  rw [kp_app, kp_por, kp_one, getD_por] at c
  exact c.drop1
theorem tVa_cons {Q : List V → Hp → Prop} (c : Cfg K H0 M0 H σ τ tv ρ) (r : RunA K W H0 M0 τ tv σ ρ H Q (aCons m ms ρ)) : tV K W m σ H fun x H1 => tVa K W ms σ H1 fun xs H2 => Q (x :: xs) H2 := by
  refine ⟨H0, M0, τ, tv, ρ, c, ?_⟩
  unfold aCons at r
  cases h : m ρ with
  | st => rw [h] at r; exact r
  | ex C pl p => rw [h] at r; exact r
  | ok e p =>
    rw [h] at r
    intro v H1 c1 s1
    refine ⟨H0, M0, _, _, _, c1, ?_⟩
    cases h2 : ms (p.getD ρ) with
    | st => simp only [h2] at r; exact r
    | ex C pl q =>
      simp only [h2] at r
      exact RunX.seq r
    | ok es q =>
      simp only [h2] at r
      intro vs H2 hl c2 s2
      refine r (v :: vs) H2 (by simp [hl]) ?_ (por_same s1 s2)
      rw [kp_app, kp_por, kp_one, getD_por, List.append_assoc, List.append_assoc] at c2
      exact c2
theorem tVa_nil {Q : List V → Hp → Prop} (c : Cfg K H0 M0 H σ τ tv ρ) (r : RunA K W H0 M0 τ tv σ ρ H Q (aNil ρ)) : Q [] H := by
  refine r [] H rfl ?_ fun _ => Same.refl _
  simpa [kp] using c
end
section
variable {X : Cx} {W : WX} {e a b : Expr} {es : List Expr} {m ma mb : M} {ms : Rho → AO} {pos : Pos}
theorem va_nil : VA X W [] aNil := ⟨pa_nil.weak fun σ H Q ⟨H0, M0, τ, tv, ρ, c, r⟩ => tVa_nil c r⟩
theorem va_cons (h : VE X W e m) (hs : VA X W es ms) (hst : starEach (e :: es) X.env = (false, eval e X.env) :: starEach es X.env := by rfl) : VA X W (e :: es) (aCons m ms) :=
  ⟨(pa_cons h.pe hs.pa hst).weak fun σ H Q ⟨H0, M0, τ, tv, ρ, c, r⟩ => tVa_cons c r⟩
end

/-! ### two values, one after another -/
def a2 (ma mb : M) : Rho → AO := aCons ma (aCons mb aNil)
theorem run2 {K : PySem.W.Frag} {W : WX} {ma mb : M} {H0 : Hp} {M0 : Bs} {τ : List E} {tv : List V} {σ : L2.St} {ρ : Rho} {H : Hp} {R : V → V → Hp → Prop} (c : Cfg K H0 M0 H σ τ tv ρ)
    (r : RunA K W H0 M0 τ tv σ ρ H (fun vs H' => ∀ x y, vs = [x, y] → R x y H') (a2 ma mb ρ)) : tV K W ma σ H fun x H1 => tV K W mb σ H1 fun y H2 => R x y H2 := by
  obtain ⟨H0', M0', τ', tv', ρ', c', r'⟩ := tVa_cons c r
  refine ⟨H0', M0', τ', tv', ρ', c', ?_⟩
  cases h : ma ρ' with
  | st => rw [h] at r'; exact r'
  | ex C pl p => rw [h] at r'; exact r'
  | ok e p =>
    rw [h] at r'
    intro x H1 c1 s1
    obtain ⟨H0a, M0a, τa, tva, ρa, ca, ra⟩ := r' x H1 c1 s1
    obtain ⟨H0b, M0b, τb, tvb, ρb, cb, rb⟩ := tVa_cons ca ra
    refine ⟨H0b, M0b, τb, tvb, ρb, cb, ?_⟩
    cases h2 : mb ρb with
    | st => rw [h2] at rb; exact rb
    | ex C pl p => rw [h2] at rb; exact rb
    | ok e2 p2 =>
      rw [h2] at rb
      intro y H2 c2 s2
      obtain ⟨H0d, M0d, τd, tvd, ρd, cd, rd⟩ := rb y H2 c2 s2
      exact tVa_nil cd rd x y rfl

/-- a two-place operation whose value is made of the readings -/
def mOp (f : D → D → Option D) (ma mb : M) : M := fun ρ => match a2 ma mb ρ with
  | .ok [e1, e2] p => (match e1.rd, e2.rd with
    | some d1, some d2 => (match f d1 d2 with | some d => .ok (.o .v d) p | none => .st)
    | _, _ => .st)
  | .ex C pl p => .ex C pl p
  | _ => .st
/-- an operation on values answers f: the heap stays -/
def Pure2 (K : PySem.W.Frag) (r : R2) (f : D → D → Option D) : Prop :=
  ∀ (H : Hp) (x y : V) (d1 d2 d : D) (Q : VK), Rp K H [x] [d1] → Rp K H [y] [d2] → f d1 d2 = some d → (∀ v, Rp K H [v] [d] → imm d = true → Q v H) → r x y H Q
theorem run_op {K : PySem.W.Frag} {W : WX} {ma mb : M} {f : D → D → Option D} {r : R2} (hf : Pure2 K r f) {H0 : Hp} {M0 : Bs} {τ : List E} {tv : List V} {σ : L2.St} {ρ : Rho} {H : Hp} {Q : VK} (c : Cfg K H0 M0 H σ τ tv ρ)
    (q : Run K W H0 M0 τ tv σ ρ H Q (mOp f ma mb ρ)) : tV K W ma σ H fun x H1 => tV K W mb σ H1 fun y H2 => r x y H2 Q := by
  refine run2 c ?_
  unfold mOp at q
  cases h : a2 ma mb ρ with
  | st => rw [h] at q; exact q
  | ex C pl p => rw [h] at q; exact q
  | ok es p =>
    rw [h] at q
    intro vs H' hl c' s' x y hv
    subst hv
    match es, hl, c', q with
    | [e1, e2], _, c', q =>
      simp only at q
      cases h1 : e1.rd with
      | none => rw [h1] at q; exact q.elim
      | some d1 =>
        cases h2 : e2.rd with
        | none => rw [h1, h2] at q; exact q.elim
        | some d2 =>
          rw [h1, h2] at q
          simp only at q
          cases h3 : f d1 d2 with
          | none => rw [h3] at q; exact q.elim
          | some d =>
            rw [h3] at q
            have rr := c'.reads (ds := [d1, d2]) rfl (by simp [h1, h2])
            exact hf H' x y d1 d2 d Q rr.uncons.1 rr.uncons.2 h3 fun v rv hi => q v H' ((c'.drop rfl).pushImm rv hi) s'
section
variable {X : Cx} {W : WX} {a b : Expr} {ma mb : M} {pos : Pos}
theorem ve_op {op : Operator} {r : R2} {f : D → D → Option D} (ho : OpR X (binaryOp op) r) (hf : Pure2 X.K r f) (ha : VE X W a ma) (hb : VE X W b mb) : VE X W (.BinOp a op b pos) (mOp f ma mb) :=
  ⟨(pe_op ho ha.pe hb.pe).weak fun σ H Q ⟨H0, M0, τ, tv, ρ, c, q⟩ => run_op hf c q⟩
theorem ve_cmp {op : CmpOp} {r : R2} {f : D → D → Option D} (ho : OpR X (compareOp op) r) (hf : Pure2 X.K r f) (ha : VE X W a ma) (hb : VE X W b mb) (hm : behindInMarks op b = false) : VE X W (.Compare a [op] [b] pos) (mOp f ma mb) :=
  ⟨(pe_cmpR ho ha.pe hb.pe hm).weak fun σ H Q ⟨H0, M0, τ, tv, ρ, c, q⟩ => run_op hf c q⟩
theorem run_opT {K : PySem.W.Frag} {f : D → D → Option D} {r : R2} (hf : Pure2 K r f) {H0 : Hp} {M0 : Bs} {τ : List E} {tv : List V} {σ : L2.St} {ρ : Rho} {H : Hp} {Q : Bool → Hp → Prop} (c : Cfg K H0 M0 H σ τ tv ρ)
    (q : Run K W H0 M0 τ tv σ ρ H (fun v H' => ∃ c, v = .bl c ∧ Q c H') (mOp f ma mb ρ)) : tTest (tOp r (tV K W ma) (tV K W mb)) σ H Q := run_op hf c q
theorem vt_cmp {op : CmpOp} {r : R2} {f : D → D → Option D} (ho : OpR X (compareOp op) r) (hf : Pure2 X.K r f) (ha : VE X W a ma) (hb : VE X W b mb) (hm : behindInMarks op b = false) : VT X W (.Compare a [op] [b] pos) (mOp f ma mb) :=
  ⟨(pt_cmpR ho ha.pe hb.pe hm).weak fun σ H Q ⟨H0, M0, τ, tv, ρ, c, q⟩ => run_opT hf c q⟩
end
end LP
end
section
/-! LP, part d: truth, and or not, statements. -/
namespace LP
open PySem PySem.Spec PyProof.Rows L2

def EO.after (p : Option Rho) : EO → EO
  | .ok e q => .ok e (por p q)
  | .ex C pl q => .ex C pl (por p q)
  | .st => .st
theorem Run.after {K : PySem.W.Frag} {W : WX} {H0 Hs H1 : Hp} {M0 : Bs} {τ : List E} {tv : List V} {σ : L2.St} {ρ : Rho} {Q : VK} {p : Option Rho} {r : EO} (s1 : p = none → Same Hs H1) (h : Run K W H0 M0 τ tv σ ρ Hs Q (r.after p)) : Run K W H0 M0 (kp p τ) tv σ (p.getD ρ) H1 Q r := by
  cases r with
  | st => exact h
  | ok e q =>
    intro v H' c s2
    rw [kp_por, getD_por] at c
    exact h v H' c (por_same s1 s2)
  | ex C pl q =>
    intro dO H' c pay
    rw [kp_por, getD_por] at c
    exact h dO H' c pay
theorem Run.mono {K : PySem.W.Frag} {W : WX} {H0 Hs : Hp} {M0 : Bs} {τ : List E} {tv : List V} {σ : L2.St} {ρ : Rho} {Q Q' : VK} {r : EO} (h : Run K W H0 M0 τ tv σ ρ Hs Q r) (i : ∀ v H, Q v H → Q' v H) : Run K W H0 M0 τ tv σ ρ Hs Q' r := by
  cases r with
  | st => exact h
  | ok e q => exact fun v H' c s => i v H' (h v H' c s)
  | ex C pl q => exact h
/-- evaluate, look at the reading, go on -/
theorem run_bind {K : PySem.W.Frag} {W : WX} {m : M} {H0 : Hp} {M0 : Bs} {τ : List E} {tv : List V} {σ : L2.St} {ρ : Rho} {H : Hp} {Q : VK} {R : VK} {f : E → Option Rho → EO} (c : Cfg K H0 M0 H σ τ tv ρ)
    (q : Run K W H0 M0 τ tv σ ρ H Q (match m ρ with | .ok e p => f e p | .ex C pl p => .ex C pl p | .st => .st))
    (h : ∀ e p v H', m ρ = .ok e p → Cfg K H0 M0 H' σ (kp p τ ++ [e]) (tv ++ [v]) (p.getD ρ) → (p = none → Same H H') → Run K W H0 M0 τ tv σ ρ H Q (f e p) → R v H') : tV K W m σ H R := by
  refine ⟨H0, M0, τ, tv, ρ, c, ?_⟩
  cases hm : m ρ with
  | st => rw [hm] at q; exact q
  | ex C pl p => rw [hm] at q; exact q
  | ok e p =>
    rw [hm] at q
    exact fun v H' c' s' => h e p v H' hm c' s' q

/-! ### truth -/
def tru : D → Option Bool
  | .non => some false
  | .bl b => some b
  | .int i => some (i != 0)
  | .str x => if x.length ≤ sizeLine then some ((x.length : Int) != 0) else none
  | .tup xs => some (!xs.isEmpty)
  | .lst xs => some (!xs.isEmpty)
  | .dk _ xs => some (!xs.isEmpty)
  | .dt _ _ => none
  | .ob _ _ _ => none
  | .scr xs => some (!xs.isEmpty)
theorem Rp.empty {K : PySem.W.Frag} {H : Hp} {us : List V} {xs : List D} (r : Rp K H us xs) : (!us.isEmpty) = !xs.isEmpty := by
  have := r.length
  cases us <;> cases xs <;> simp_all
theorem tru_V {K : PySem.W.Frag} {H : Hp} {v : V} {d : D} {k : Bool} (r : Rp K H [v] [d]) (h : tru d = some k) : TruV K v H k := by
  cases r with
  | non _ => exact (Option.some.inj h).symm
  | bl b _ => exact (Option.some.inj h).symm
  | int i _ => exact (Option.some.inj h).symm
  | str x _ =>
    simp only [tru] at h
    split at h
    · rename_i hz; exact ⟨hz, (Option.some.inj h).symm⟩
    · cases h
  | tup h1 h2 _ => exact .inr (.inl ⟨_, h1, by rw [h2.empty]; exact (Option.some.inj h).symm⟩)
  | lst h1 h2 _ => exact .inl ⟨_, SqL.of h1, by rw [h2.empty]; exact (Option.some.inj h).symm⟩
  | @dk a ks us xs _ _ h1 h2 h3 _ =>
    refine .inr (.inr ⟨_, h1, ?_⟩)
    have e : (!(ks.zip us).isEmpty) = !us.isEmpty := by
      cases ks <;> cases us <;> simp_all
    rw [e, h3.empty]
    exact (Option.some.inj h).symm
  | dt _ _ _ _ => cases h
  | ob _ _ _ _ => cases h
  | scr h1 h2 _ => exact .inl ⟨_, h1.sq, by rw [h2.empty]; exact (Option.some.inj h).symm⟩
/-- a value's truth -/
def mTru (m : M) : M := fun ρ => match m ρ with
  | .ok e p => (match e.rd.bind tru with | some k => .ok (.o .v (.bl k)) p | none => .st)
  | .ex C pl p => .ex C pl p
  | .st => .st
def mNot (m : M) : M := fun ρ => match m ρ with
  | .ok e p => (match e.rd.bind tru with | some k => .ok (.o .v (.bl (!k))) p | none => .st)
  | .ex C pl p => .ex C pl p
  | .st => .st
def mOr (ma mb : M) : M := fun ρ => match ma ρ with
  | .ok e p => (match e.rd.bind tru with | some true => .ok e p | some false => (mb (p.getD ρ)).after p | none => .st)
  | .ex C pl p => .ex C pl p
  | .st => .st
def mAnd (ma mb : M) : M := fun ρ => match ma ρ with
  | .ok e p => (match e.rd.bind tru with | some true => (mb (p.getD ρ)).after p | some false => .ok e p | none => .st)
  | .ex C pl p => .ex C pl p
  | .st => .st
def blE (e : E) : Option Bool := match e.rd with
  | some (.bl k) => some k
  | _ => none
/-- a if t else b; t gives a bool -/
def mIfE (mt ma mb : M) : M := fun ρ => match mt ρ with
  | .ok e p => (match blE e with
    | some true => (ma (p.getD ρ)).after p
    | some false => (mb (p.getD ρ)).after p
    | none => .st)
  | .ex C pl p => .ex C pl p
  | .st => .st
theorem blE_rd {e : E} {k : Bool} (h : blE e = some k) : e.rd = some (.bl k) := by
  unfold blE at h
  split at h
  · rename_i h2; cases h; exact h2
  · cases h
theorem Rp.bl1 {K : PySem.W.Frag} {H : Hp} {v : V} {k : Bool} (r : Rp K H [v] [.bl k]) : v = .bl k := by cases r; rfl
theorem Rp.int1 {K : PySem.W.Frag} {H : Hp} {v : V} {k : Int} (r : Rp K H [v] [.int k]) : v = .int k := by cases r; rfl
theorem Rp.str1 {K : PySem.W.Frag} {H : Hp} {v : V} {k : Str} (r : Rp K H [v] [.str k]) : v = .str k := by cases r; rfl
theorem Rp.non1 {K : PySem.W.Frag} {H : Hp} {v : V} (r : Rp K H [v] [.non]) : v = .non := by cases r; rfl
theorem rd_tru {e : E} {k : Bool} (h : e.rd.bind tru = some k) : ∃ d, e.rd = some d ∧ tru d = some k := by
  cases q : e.rd with
  | none => rw [q] at h; cases h
  | some d => rw [q] at h; exact ⟨d, rfl, h⟩
section
variable {K : PySem.W.Frag} {W : WX} {m ma mb mt : M} {H0 : Hp} {M0 : Bs} {τ : List E} {tv : List V} {σ : L2.St} {ρ : Rho} {H : Hp}
theorem run_tru {Q : Bool → Hp → Prop} (c : Cfg K H0 M0 H σ τ tv ρ) (q : Run K W H0 M0 τ tv σ ρ H (fun v H' => ∃ c, v = .bl c ∧ Q c H') (mTru m ρ)) : tV K W m σ H fun x H' => ∃ k, TruV K x H' k ∧ Q k H' := by
  unfold mTru at q
  refine run_bind (f := fun e p => match e.rd.bind tru with | some k => .ok (.o .v (.bl k)) p | none => .st) c q fun e p v H' _ c' s' r => ?_
  cases h : e.rd.bind tru with
  | none => simp only [h] at r; exact r.elim
  | some k =>
    simp only [h] at r
    obtain ⟨d, h1, h2⟩ := rd_tru h
    obtain ⟨k', e', q'⟩ := r (.bl k) H' (c'.drop1.pushImm (.bl k .nil) rfl) s'
    cases e'
    exact ⟨k, tru_V (c'.last h1) h2, q'⟩
theorem run_not {Q : VK} (c : Cfg K H0 M0 H σ τ tv ρ) (q : Run K W H0 M0 τ tv σ ρ H Q (mNot m ρ)) : tNotT K (tV K W m) σ H Q := by
  unfold mNot at q
  refine run_bind (f := fun e p => match e.rd.bind tru with | some k => .ok (.o .v (.bl (!k))) p | none => .st) c q fun e p v H' _ c' s' r => ?_
  cases h : e.rd.bind tru with
  | none => simp only [h] at r; exact r.elim
  | some k =>
    simp only [h] at r
    obtain ⟨d, h1, h2⟩ := rd_tru h
    exact ⟨k, tru_V (c'.last h1) h2, r (.bl (!k)) H' (c'.drop1.pushImm (.bl _ .nil) rfl) s'⟩
theorem run_or {Q : VK} (c : Cfg K H0 M0 H σ τ tv ρ) (q : Run K W H0 M0 τ tv σ ρ H Q (mOr ma mb ρ)) : tOrT K (tV K W ma) (tV K W mb) σ H Q := by
  unfold mOr at q
  refine run_bind (f := fun e p => match e.rd.bind tru with | some true => .ok e p | some false => (mb (p.getD ρ)).after p | none => .st) c q fun e p v H' _ c' s' r => ?_
  cases h : e.rd.bind tru with
  | none => simp only [h] at r; exact r.elim
  | some k =>
    obtain ⟨d, h1, h2⟩ := rd_tru h
    refine ⟨k, tru_V (c'.last h1) h2, ?_⟩
    cases k with
    | true =>
      simp only [h] at r
      exact iteT (r v H' c' s')
    | false =>
      simp only [h] at r
      exact iteF ⟨H0, M0, _, _, _, c'.drop1, r.after s'⟩
theorem run_and {Q : VK} (c : Cfg K H0 M0 H σ τ tv ρ) (q : Run K W H0 M0 τ tv σ ρ H Q (mAnd ma mb ρ)) : tAndT K (tV K W ma) (tV K W mb) σ H Q := by
  unfold mAnd at q
  refine run_bind (f := fun e p => match e.rd.bind tru with | some true => (mb (p.getD ρ)).after p | some false => .ok e p | none => .st) c q fun e p v H' _ c' s' r => ?_
  cases h : e.rd.bind tru with
  | none => simp only [h] at r; exact r.elim
  | some k =>
    obtain ⟨d, h1, h2⟩ := rd_tru h
    refine ⟨k, tru_V (c'.last h1) h2, ?_⟩
    cases k with
    | true =>
      simp only [h] at r
      exact iteT ⟨H0, M0, _, _, _, c'.drop1, r.after s'⟩
    | false =>
      simp only [h] at r
      exact iteF (r v H' c' s')
/-- a test, then what hangs on it -/
theorem run_test {mt : M} {Q : VK} {R : Bool → Hp → Prop} {f : Bool → Option Rho → EO} (c : Cfg K H0 M0 H σ τ tv ρ)
    (q : Run K W H0 M0 τ tv σ ρ H Q (match mt ρ with | .ok e p => (match blE e with | some k => f k p | none => .st) | .ex C pl p => .ex C pl p | .st => .st))
    (h : ∀ k p H', Cfg K H0 M0 H' σ (kp p τ) tv (p.getD ρ) → (p = none → Same H H') → Run K W H0 M0 τ tv σ ρ H Q (f k p) → R k H') : tVt K W mt σ H R := by
  refine ⟨H0, M0, τ, tv, ρ, c, ?_⟩
  cases hm : mt ρ with
  | st => rw [hm] at q; exact q
  | ex C pl p => rw [hm] at q; exact q
  | ok e p =>
    rw [hm] at q
    intro v H' c' s'
    cases hb : blE e with
    | none => simp only [hb] at q; exact q.elim
    | some k =>
      simp only [hb] at q
      have e1 := (c'.last (blE_rd hb)).bl1
      exact ⟨k, e1, h k p H' c'.drop1 s' q⟩
theorem mIfE_eq (mt ma mb : M) (ρ : Rho) : mIfE mt ma mb ρ = (match mt ρ with | .ok e p => (match blE e with | some k => (if k = true then ma (p.getD ρ) else mb (p.getD ρ)).after p | none => .st) | .ex C pl p => .ex C pl p | .st => .st) := by
  unfold mIfE
  cases mt ρ with
  | ok e p =>
    simp only
    cases blE e with
    | none => rfl
    | some k => cases k <;> rfl
  | _ => rfl
end
section
variable {X : Cx} {W : WX} {a b c : Expr} {rest : List Expr} {m ma mb mt : M} {pos : Pos}
theorem ve_not (h : VE X W a m) : VE X W (.UnaryOp .Not a pos) (mNot m) := ⟨(pe_notT h.pe).weak fun σ H Q ⟨H0, M0, τ, tv, ρ, c, q⟩ => run_not c q⟩
theorem ve_bo1 {op} (h : VE X W a m) : VE X W (.BoolOp op [a] pos) m := ⟨pe_one h.pe⟩
theorem ve_or (ha : VE X W a ma) (hb : VE X W (.BoolOp .Or (b :: rest) pos) mb) : VE X W (.BoolOp .Or (a :: b :: rest) pos) (mOr ma mb) := ⟨(pe_orT ha.pe hb.pe).weak fun σ H Q ⟨H0, M0, τ, tv, ρ, c, q⟩ => run_or c q⟩
theorem ve_and (ha : VE X W a ma) (hb : VE X W (.BoolOp .And (b :: rest) pos) mb) : VE X W (.BoolOp .And (a :: b :: rest) pos) (mAnd ma mb) := ⟨(pe_andT ha.pe hb.pe).weak fun σ H Q ⟨H0, M0, τ, tv, ρ, c, q⟩ => run_and c q⟩
theorem vt_tru (h : VE X W a m) (he : ∀ whole, isTrue a X.env whole = (do let v ← whole; standAt a.pos; holding [v] (truthy v)) := by intro _; rfl) : VT X W a (mTru m) := ⟨(pt_truth h.pe he).weak fun σ H Q ⟨H0, M0, τ, tv, ρ, c, q⟩ => run_tru c q⟩
theorem ve_ifE (hc : VT X W c mt) (ha : VE X W a ma) (hb : VE X W b mb) : VE X W (.IfExp c a b pos) (mIfE mt ma mb) := by
  refine ⟨(pe_ifExp hc.pt ha.pe hb.pe).weak fun σ H Q ⟨H0, M0, τ, tv, ρ, c, q⟩ => ?_⟩
  rw [mIfE_eq] at q
  refine run_test c q fun k p H' c' s' r => ?_
  cases k with
  | true => exact iteT ⟨H0, M0, _, _, _, c', r.after s'⟩
  | false => exact iteF ⟨H0, M0, _, _, _, c', r.after s'⟩
/-- not, and, or as tests: the parts tests themselves -/
def mNotB (m : M) : M := fun ρ => match m ρ with
  | .ok e p => (match blE e with | some k => .ok (.o .v (.bl (!k))) p | none => .st)
  | .ex C pl p => .ex C pl p
  | .st => .st
def mAndB (ma mb : M) : M := fun ρ => match ma ρ with
  | .ok e p => (match blE e with | some k => (if k = true then (mb (p.getD ρ)).after p else .ok (.o .v (.bl false)) p) | none => .st)
  | .ex C pl p => .ex C pl p
  | .st => .st
def mOrB (ma mb : M) : M := fun ρ => match ma ρ with
  | .ok e p => (match blE e with | some k => (if k = true then .ok (.o .v (.bl true)) p else (mb (p.getD ρ)).after p) | none => .st)
  | .ex C pl p => .ex C pl p
  | .st => .st
structure VW (X : Cx) (W : WX) (e : Expr) (m : M) : Prop where
  pw : PW X e (tVt X.K W m)
theorem _root_.L2.PW.weak {X : Cx} {e : Expr} {t t' : TT} (h : PW X e t) (i : ∀ σ H Q, t' σ H Q → t σ H Q) : PW X e t' := ⟨fun wh pins s σ H Q I q => h.run wh pins s σ H Q I (i σ H Q q)⟩
theorem vt_not (h : VT X W a m) : VT X W (.UnaryOp .Not a pos) (mNotB m) := by
  refine ⟨(pt_not h.pt).weak fun σ H Q ⟨H0, M0, τ, tv, ρ, c, q⟩ => ?_⟩
  unfold mNotB at q
  refine run_test c q fun k p H' c' s' r => ?_
  obtain ⟨k', e, q'⟩ := r (.bl (!k)) H' (c'.pushImm (.bl _ .nil) rfl) s'
  cases e
  exact q'
theorem vw_and1 (h : VT X W a m) : VW X W (.BoolOp .And [a] pos) m := ⟨pw_and1 h.pt⟩
theorem vw_or1 (h : VT X W a m) : VW X W (.BoolOp .Or [a] pos) m := ⟨pw_or1 h.pt⟩
theorem vw_and (ha : VT X W a ma) (hb : VW X W (.BoolOp .And (b :: rest) pos) mb) : VW X W (.BoolOp .And (a :: b :: rest) pos) (mAndB ma mb) := by
  refine ⟨(pw_and ha.pt hb.pw).weak fun σ H Q ⟨H0, M0, τ, tv, ρ, c, q⟩ => ?_⟩
  unfold mAndB at q
  refine run_test c q fun k p H' c' s' r => ?_
  cases k with
  | true => exact iteT ⟨H0, M0, _, _, _, c', (show Run _ _ _ _ _ _ _ _ _ _ ((mb (p.getD ρ)).after p) from r).after s'⟩
  | false =>
    obtain ⟨k', e, q'⟩ := (show Run _ _ _ _ _ _ _ _ _ _ (EO.ok (.o .v (.bl false)) p) from r) (.bl false) H' (c'.pushImm (.bl _ .nil) rfl) s'
    cases e
    exact iteF q'
theorem vw_or (ha : VT X W a ma) (hb : VW X W (.BoolOp .Or (b :: rest) pos) mb) : VW X W (.BoolOp .Or (a :: b :: rest) pos) (mOrB ma mb) := by
  refine ⟨(pw_or ha.pt hb.pw).weak fun σ H Q ⟨H0, M0, τ, tv, ρ, c, q⟩ => ?_⟩
  unfold mOrB at q
  refine run_test c q fun k p H' c' s' r => ?_
  cases k with
  | true =>
    obtain ⟨k', e, q'⟩ := (show Run _ _ _ _ _ _ _ _ _ _ (EO.ok (.o .v (.bl true)) p) from r) (.bl true) H' (c'.pushImm (.bl _ .nil) rfl) s'
    cases e
    exact iteT q'
  | false => exact iteF ⟨H0, M0, _, _, _, c', (show Run _ _ _ _ _ _ _ _ _ _ ((mb (p.getD ρ)).after p) from r).after s'⟩
theorem VW.vt {e : Expr} (h : VW X W e m) : VT X W e m := ⟨h.pw.pt⟩
end

/-! ### statements -/
inductive SO where
  | nx (ρ : Rho) (k : Bool)
  | rt (e : E) (ρ : Rho) (k : Bool)
  | bk (ρ : Rho) (k : Bool)
  | ct (ρ : Rho) (k : Bool)
  | ex (C : Addr) (pl : Option (Str × D)) (ρ : Rho) (k : Bool)
  | st
abbrev MS := Rho → SO
def kk : Bool → List E → List E
  | false, τ => τ
  | true, τ => τ.map kill
theorem kk_or (a b : Bool) (τ : List E) : kk b (kk a τ) = kk (a || b) τ := by
  cases a <;> cases b <;> first | rfl | exact map_kill_kill τ
theorem kk_kp (p : Option Rho) (τ : List E) : kp p τ = kk p.isSome τ := by cases p <;> rfl
section
variable (K : PySem.W.Frag) (W : WX) (H0 : Hp) (M0 : Bs) (τ : List E) (tv : List V)
def RunS (Dn : Ends) : SO → Prop
  | .nx ρ k => ∀ σ' H', Cfg K H0 M0 H' σ' (kk k τ) tv ρ → Dn.nx σ' H'
  | .rt e ρ k => ∀ v σ' H', Cfg K H0 M0 H' σ' (kk k τ ++ [e]) (tv ++ [v]) ρ → Dn.rt v H'
  | .bk ρ k => ∀ σ' H', Cfg K H0 M0 H' σ' (kk k τ) tv ρ → Dn.bk σ' H'
  | .ct ρ k => ∀ σ' H', Cfg K H0 M0 H' σ' (kk k τ) tv ρ → Dn.ct σ' H'
  | .ex C pl ρ k => ∀ dO σ' H', Cfg K H0 M0 H' σ' (kk k τ) tv ρ → Pay K H' dO pl → W (.ref C) dO σ' H'
  | .st => False
end
def tVs (K : PySem.W.Frag) (W : WX) (m : MS) : TS := fun Dn σ H => ∃ H0 M0 τ tv ρ, Cfg K H0 M0 H σ τ tv ρ ∧ RunS K W H0 M0 τ tv Dn (m ρ)
structure VS (X : Cx) (W : WX) (s : Stmt) (m : MS) : Prop where
  ps : PS X s (tVs X.K W m)
structure VB (X : Cx) (W : WX) (s : List Stmt) (m : MS) : Prop where
  pss : PSs X s (tVs X.K W m)
def SO.or (k : Bool) : SO → SO
  | .nx ρ q => .nx ρ (k || q)
  | .rt e ρ q => .rt e ρ (k || q)
  | .bk ρ q => .bk ρ (k || q)
  | .ct ρ q => .ct ρ (k || q)
  | .ex C pl ρ q => .ex C pl ρ (k || q)
  | .st => .st
theorem RunS.or {K : PySem.W.Frag} {W : WX} {H0 : Hp} {M0 : Bs} {τ : List E} {tv : List V} {Dn : Ends} {k : Bool} {r : SO} (h : RunS K W H0 M0 τ tv Dn (r.or k)) : RunS K W H0 M0 (kk k τ) tv Dn r := by
  cases r with
  | st => exact h
  | nx ρ q => intro σ' H' c; rw [kk_or] at c; exact h σ' H' c
  | rt e ρ q => intro v σ' H' c; rw [kk_or] at c; exact h v σ' H' c
  | bk ρ q => intro σ' H' c; rw [kk_or] at c; exact h σ' H' c
  | ct ρ q => intro σ' H' c; rw [kk_or] at c; exact h σ' H' c
  | ex C pl ρ q => intro dO σ' H' c pay; rw [kk_or] at c; exact h dO σ' H' c pay
def sNx : MS := fun ρ => .nx ρ false
def sSeq (a b : MS) : MS := fun ρ => match a ρ with
  | .nx ρ1 k => (b ρ1).or k
  | .rt e ρ1 k => .rt e ρ1 k
  | .bk ρ1 k => .bk ρ1 k
  | .ct ρ1 k => .ct ρ1 k
  | .ex C pl ρ1 k => .ex C pl ρ1 k
  | .st => .st
def sBk : MS := fun ρ => .bk ρ false
def sCt : MS := fun ρ => .ct ρ false
/-- name = e -/
def sSet (i : Nat) (m : M) : MS := fun ρ => match m ρ with
  | .ok e p => if i < (p.getD ρ).length ∧ isP e = false then .nx ((p.getD ρ).set i e) p.isSome else .st
  | .ex C pl p => .ex C pl (p.getD ρ) p.isSome
  | .st => .st
def sExpr (m : M) : MS := fun ρ => match m ρ with
  | .ok e p => .nx (p.getD ρ) p.isSome
  | .ex C pl p => .ex C pl (p.getD ρ) p.isSome
  | .st => .st
def sRet (m : M) : MS := fun ρ => match m ρ with
  | .ok e p => .rt e (p.getD ρ) p.isSome
  | .ex C pl p => .ex C pl (p.getD ρ) p.isSome
  | .st => .st
def sRetN : MS := fun ρ => .rt (.o .v .non) ρ false
def sIf (t : M) (a b : MS) : MS := fun ρ => match t ρ with
  | .ok e p => (match blE e with
    | some true => (a (p.getD ρ)).or p.isSome
    | some false => (b (p.getD ρ)).or p.isSome
    | none => .st)
  | .ex C pl p => .ex C pl (p.getD ρ) p.isSome
  | .st => .st
def sSt : MS := fun _ => .st
/-- slots forgotten -/
def sFgt (is : List Nat) (m : MS) : MS := fun ρ => match m ρ with
  | .nx ρ1 k => .nx (is.foldl (fun r i => r.set i .x) ρ1) k
  | r => r
section
variable {K : PySem.W.Frag} {W : WX} {H0 : Hp} {M0 : Bs} {τ : List E} {tv : List V} {σ : L2.St} {ρ : Rho} {H : Hp}
theorem run_sb {m : M} {Dn : Ends} {R : VK} {f : E → Option Rho → SO} (c : Cfg K H0 M0 H σ τ tv ρ)
    (q : RunS K W H0 M0 τ tv Dn (match m ρ with | .ok e p => f e p | .ex C pl p => .ex C pl (p.getD ρ) p.isSome | .st => .st))
    (h : ∀ e p v H', m ρ = .ok e p → Cfg K H0 M0 H' σ (kk p.isSome τ ++ [e]) (tv ++ [v]) (p.getD ρ) → RunS K W H0 M0 τ tv Dn (f e p) → R v H') : tV K W m σ H R := by
  refine ⟨H0, M0, τ, tv, ρ, c, ?_⟩
  cases hm : m ρ with
  | st => rw [hm] at q; exact q
  | ex C pl p =>
    rw [hm] at q
    intro dO H' c' pay
    rw [kk_kp] at c'
    exact q dO σ H' c' pay
  | ok e p =>
    rw [hm] at q
    intro v H' c' _
    rw [kk_kp] at c'
    exact h e p v H' hm c' q
theorem run_sT {m : M} {Dn : Ends} {R : Bool → Hp → Prop} {f : Bool → Option Rho → SO} (c : Cfg K H0 M0 H σ τ tv ρ)
    (q : RunS K W H0 M0 τ tv Dn (match m ρ with | .ok e p => (match blE e with | some true => f true p | some false => f false p | none => .st) | .ex C pl p => .ex C pl (p.getD ρ) p.isSome | .st => .st))
    (h : ∀ k p H', Cfg K H0 M0 H' σ (kk p.isSome τ) tv (p.getD ρ) → RunS K W H0 M0 τ tv Dn (f k p) → R k H') : tVt K W m σ H R := by
  refine run_sb (f := fun e p => match blE e with | some true => f true p | some false => f false p | none => .st) c q fun e p v H' _ c' r => ?_
  cases hb : blE e with
  | none => simp only [hb] at r; exact r.elim
  | some k =>
    have e1 := (c'.last (blE_rd hb)).bl1
    refine ⟨k, e1, h k p H' c'.drop1 ?_⟩
    cases k <;> (simp only [hb] at r; exact r)
theorem Cfg.forgets (c : Cfg K H0 M0 H σ τ tv ρ) (is : List Nat) : Cfg K H0 M0 H σ τ tv (is.foldl (fun r i => r.set i .x) ρ) := by
  induction is generalizing ρ with
  | nil => exact c
  | cons i is ih => exact ih c.forget
end
section
variable {X : Cx} {W : WX} {e c : Expr} {st : Stmt} {rest a b : List Stmt} {m mt : M} {ma mb ms : MS} {pos : Pos}
theorem vb_nil : VB X W [] sNx := ⟨pss_nil.weak fun D σ H ⟨H0, M0, τ, tv, ρ, c, q⟩ => q σ H c⟩
theorem vb_cons (h1 : VS X W st ma) (h2 : VB X W rest mb) : VB X W (st :: rest) (sSeq ma mb) := by
  refine ⟨(pss_cons h1.ps h2.pss).weak fun D σ H ⟨H0, M0, τ, tv, ρ, c, q⟩ => ?_⟩
  refine ⟨H0, M0, τ, tv, ρ, c, ?_⟩
  unfold sSeq at q
  cases h : ma ρ with
  | nx ρ1 k =>
    simp only [h] at q
    exact fun σ' H' c' => ⟨H0, M0, _, _, _, c', q.or⟩
  | rt e ρ1 k => simp only [h] at q; exact q
  | bk ρ1 k => simp only [h] at q; exact q
  | ct ρ1 k => simp only [h] at q; exact q
  | ex C pl ρ1 k => simp only [h] at q; exact q
  | st => simp only [h] at q; exact q
theorem vb_one (h1 : VS X W st ma) : VB X W [st] ma := ⟨pss_one h1.ps⟩
theorem vs_pass : VS X W (.Pass pos) sNx := ⟨ps_pass.weak fun D σ H ⟨H0, M0, τ, tv, ρ, c, q⟩ => q σ H c⟩
theorem vs_break : VS X W (.Break pos) sBk := ⟨ps_break.weak fun D σ H ⟨H0, M0, τ, tv, ρ, c, q⟩ => q σ H c⟩
theorem vs_continue : VS X W (.Continue pos) sCt := ⟨ps_continue.weak fun D σ H ⟨H0, M0, τ, tv, ρ, c, q⟩ => q σ H c⟩
theorem vs_st : VS X W st sSt := ⟨(ps_never (X := X) (st := st)).weak fun D σ H ⟨H0, M0, τ, tv, ρ, c, q⟩ => q.elim⟩
theorem vb_st : VB X W rest sSt := ⟨(pss_never (X := X) (sts := rest)).weak fun D σ H ⟨H0, M0, τ, tv, ρ, c, q⟩ => q.elim⟩
theorem vs_set {i : Nat} {x : Str} {pos' : Pos} (hN : X.N.Nodup) (hi : X.N[i]? = some x) (hx : Loc X.env.scope x) (he : VE X W e m) (hs : swapsWith e (some (.Name x pos')) pos.line X.env = pure false := by rfl) (hf : X.fn x = true ∨ X.env.scope.names.lookup x = some .local := by first | exact .inl rfl | exact .inr rfl | assumption) :
    VS X W (.Assign [.Name x pos'] e pos) (sSet i m) := by
  refine ⟨(ps_set (i := i) hN hi hx he.pe hs hf).weak fun D σ H ⟨H0, M0, τ, tv, ρ, c, q⟩ => ?_⟩
  unfold sSet at q
  refine run_sb (f := fun e p => if i < (p.getD ρ).length ∧ isP e = false then .nx ((p.getD ρ).set i e) p.isSome else .st) c q fun e p v H' _ c' r => ?_
  by_cases hl : i < (p.getD ρ).length ∧ isP e = false
  · rw [if_pos hl] at r
    exact r _ H' (c'.put hl.1 hl.2)
  · rw [if_neg hl] at r
    exact r.elim
theorem vs_expr (he : VE X W e m) (hs : swapsWith e none pos.line X.env = pure false := by rfl) : VS X W (.Expr e pos) (sExpr m) := by
  refine ⟨(ps_expr he.pe hs).weak fun D σ H ⟨H0, M0, τ, tv, ρ, c, q⟩ => ?_⟩
  unfold sExpr at q
  exact run_sb (f := fun e p => .nx (p.getD ρ) p.isSome) c q fun e p v H' _ c' r => r σ H' c'.drop1
theorem vs_ret (he : VE X W e m) : VS X W (.Return (some e) pos) (sRet m) := by
  refine ⟨(ps_ret he.pe).weak fun D σ H ⟨H0, M0, τ, tv, ρ, c, q⟩ => ?_⟩
  unfold sRet at q
  exact run_sb (f := fun e p => .rt e (p.getD ρ) p.isSome) c q fun e p v H' _ c' r => r v σ H' c'
theorem vs_retN : VS X W (.Return none pos) sRetN := ⟨ps_retN.weak fun D σ H ⟨H0, M0, τ, tv, ρ, c, q⟩ => q .non σ H (c.pushImm (.non .nil) rfl)⟩
theorem vs_if (hc : VT X W c mt) (ha : VB X W a ma) (hb : VB X W b mb) : VS X W (.If c a b pos) (sIf mt ma mb) := by
  refine ⟨(ps_if hc.pt ha.pss hb.pss).weak fun D σ H ⟨H0, M0, τ, tv, ρ, c, q⟩ => ?_⟩
  unfold sIf at q
  refine run_sT (Dn := D) (f := fun k p => ((if k = true then ma else mb) (p.getD ρ)).or p.isSome) c ?_ fun k p H' c' r => ?_
  · cases h : mt ρ with
    | ok e p => simp only [h] at q; exact q
    | ex C pl p => simp only [h] at q; exact q
    | st => simp only [h] at q; exact q
  · cases k with
    | true => exact iteT ⟨H0, M0, _, _, _, c', r.or⟩
    | false => exact iteF ⟨H0, M0, _, _, _, c', r.or⟩
theorem vb_fgt (is : List Nat) (h : VB X W a ms) : VB X W a (sFgt is ms) := by
  refine ⟨h.pss.weak fun D σ H ⟨H0, M0, τ, tv, ρ, c, q⟩ => ⟨H0, M0, τ, tv, ρ, c, ?_⟩⟩
  unfold sFgt at q
  cases h : ms ρ with
  | nx ρ1 k =>
    simp only [h] at q
    exact fun σ' H' c' => q σ' H' (c'.forgets is)
  | rt e ρ1 k => simp only [h] at q; exact q
  | bk ρ1 k => simp only [h] at q; exact q
  | ct ρ1 k => simp only [h] at q; exact q
  | ex C pl ρ1 k => simp only [h] at q; exact q
  | st => simp only [h] at q; exact q
theorem vs_fgt (is : List Nat) (h : VS X W st ms) : VS X W st (sFgt is ms) := by
  refine ⟨h.ps.weak fun D σ H ⟨H0, M0, τ, tv, ρ, c, q⟩ => ⟨H0, M0, τ, tv, ρ, c, ?_⟩⟩
  unfold sFgt at q
  cases h : ms ρ with
  | nx ρ1 k =>
    simp only [h] at q
    exact fun σ' H' c' => q σ' H' (c'.forgets is)
  | rt e ρ1 k => simp only [h] at q; exact q
  | bk ρ1 k => simp only [h] at q; exact q
  | ct ρ1 k => simp only [h] at q; exact q
  | ex C pl ρ1 k => simp only [h] at q; exact q
  | st => simp only [h] at q; exact q
end
end LP
end
section
/-! LP, part e: what a def denotes; its call. -/
namespace LP
open PySem PySem.Spec PyProof.Rows L2

section
variable {K : PySem.W.Frag} {H0 H H' G : Hp} {M0 : Bs} {σ : L2.St} {τ τ' es e2 ρ ρ' : List E} {tv tv' us u2 vs vs' : List V} {e : E} {v : V} {d : D} {s : Sh} {zs zs' : List Addr}
/-- the slots around i -/
theorem Ents.atSlot {i : Nat} (r : Ents K G H ρ vs zs) (hi : ρ[i]? = some e) : ∃ v z1 ze z2, vs[i]? = some v ∧ zs = z1 ++ (ze ++ z2) ∧ Ents K G H [e] [v] ze ∧
    ∀ e' z', Ents K G H [e'] [v] z' → Ents K G H (ρ.set i e') vs (z1 ++ (z' ++ z2)) := by
  induction ρ generalizing vs zs i with
  | nil => simp at hi
  | cons e0 ρ ih =>
    cases vs with
    | nil => cases r
    | cons v0 vs =>
      obtain ⟨z1, z2, e1, r1, r2⟩ := r.uncons
      subst e1
      cases i with
      | zero =>
        simp at hi; subst hi
        exact ⟨v0, [], z1, z2, rfl, rfl, r1, fun e' z' q => q.app r2⟩
      | succ i =>
        obtain ⟨v, y1, ye, y2, q1, q2, q3, q4⟩ := ih r2 (by simpa using hi)
        subst q2
        refine ⟨v, z1 ++ y1, ye, y2, by simpa using q1, by simp, q3, fun e' z' q => ?_⟩
        have := r1.app (q4 e' z' q)
        simpa using this
theorem Slots.set {s0 : L2.St} {i : Nat} (sl : Slots s0 σ ρ) (he : e ≠ .x → ∃ v, σ[i]? = some (some v)) (hp : ∀ s d, e = .p s d → σ[i]? = s0[i]?) : Slots s0 σ (ρ.set i e) := by
  by_cases hil : i < ρ.length
  · refine ⟨by simp [sl.len], fun j s' d' hj => ?_, fun j e' hj hx => ?_⟩
    · by_cases hij : i = j
      · subst hij
        rw [List.getElem?_set_self hil] at hj
        exact hp s' d' (Option.some.inj hj)
      · rw [List.getElem?_set_ne hij] at hj
        exact sl.pin j s' d' hj
    · by_cases hij : i = j
      · subst hij
        rw [List.getElem?_set_self hil] at hj
        cases hj
        exact he hx
      · rw [List.getElem?_set_ne hij] at hj
        exact sl.at_ j e' hj hx
  · rw [List.set_eq_of_length_le (by omega)]
    exact sl
/-- an owned slot moves out, behind the temps τ -/
theorem Cfg.outAt {i : Nat} (c : Cfg K H0 M0 H σ (τ ++ es) (tv ++ us) ρ) (hl : tv.length = τ.length) (hi : ρ[i]? = some (.o s d) ∨ ρ[i]? = some (.p s d)) :
    ∃ v, σ[i]? = some (some v) ∧ Cfg K H0 M0 H σ ((τ ++ [.o s d]) ++ es) ((tv ++ [v]) ++ us) (ρ.set i .x) := by
  obtain ⟨⟨zs, l, sl, r, n, f⟩, fr, go⟩ := c
  obtain ⟨za, zb, e1, ra, rb⟩ := r.split l.symm
  obtain ⟨zc, zd, e2, rc, rd⟩ := ra.split hl.symm
  have key : ∃ v z1 ze z2, σ[i]? = some (some v) ∧ zb = z1 ++ (ze ++ z2) ∧ Own K (hid H zs) H [s] [v] [d] ze ∧ Ents K (hid H zs) H (ρ.set i .x) (vals σ) (z1 ++ z2) := by
    rcases hi with hi | hi
    · obtain ⟨v, z1, ze, z2, q1, q2, q3, q4⟩ := rb.atSlot hi
      obtain ⟨w, h1⟩ := sl.at_ i _ hi (by intro q; cases q)
      rw [vals_get h1] at q1; cases q1
      exact ⟨_, z1, ze, z2, h1, q2, q3.o1, by simpa using q4 .x [] (.x .nil)⟩
    · obtain ⟨v, z1, ze, z2, q1, q2, q3, q4⟩ := rb.atSlot hi
      obtain ⟨w, h1⟩ := sl.at_ i _ hi (by intro q; cases q)
      rw [vals_get h1] at q1; cases q1
      exact ⟨_, z1, ze, z2, h1, q2, q3.p1, by simpa using q4 .x [] (.x .nil)⟩
  obtain ⟨v, z1, ze, z2, h1, q2, q3, q4⟩ := key
  refine ⟨v, h1, Cfg.re (zs' := zc ++ (ze ++ (zd ++ (z1 ++ z2)))) n f fr go (by simp at l ⊢; omega) (sl.set (fun q => absurd rfl q) fun _ _ q => by cases q) ?_ fun a => ?_⟩
  · have := rc.app (q3.ent.app (rd.app q4))
    simpa using this
  · subst e1 e2 q2
    simp only [List.count_append]
    omega
/-- a temp goes back into its slot -/
theorem Cfg.backAt {i : Nat} (pn : Bool) (c : Cfg K H0 M0 H σ (τ ++ .o s d :: es) (tv ++ v :: us) ρ) (hl : tv.length = τ.length) (hi : i < ρ.length) (hs : σ[i]? = some (some v)) (hp : pn = true → σ[i]? = M0.st[i]?) :
    Cfg K H0 M0 H σ (τ ++ es) (tv ++ us) (ρ.set i (if pn = true then .p s d else .o s d)) := by
  obtain ⟨⟨zs, l, sl, r, n, f⟩, fr, go⟩ := c
  obtain ⟨za, zb, e1, ra, rb⟩ := r.split l.symm
  obtain ⟨zc, zd, e2, rc, rd⟩ := ra.split hl.symm
  obtain ⟨zf, zg, e3, rf, rg⟩ := rd.uncons
  obtain ⟨w, z1, ze, z2, q1, q2, q3, q4⟩ := rb.atSlot (List.getElem?_eq_getElem hi)
  rw [vals_get hs] at q1; cases q1
  have r6 : Ents K (hid H zs) H [if pn = true then .p s d else .o s d] [v] zf := by
    cases pn
    · exact rf
    · exact rf.o1.entp
  have r5 := q4 _ _ r6
  refine Cfg.re (zs' := zc ++ (zg ++ (z1 ++ (zf ++ z2)))) n f fr go (by simp at l ⊢; omega) (sl.set (fun _ => ⟨v, hs⟩) fun s' d' q => ?_) ?_ fun a => ?_
  · cases pn
    · cases q
    · exact hp rfl
  · have := rc.app (rg.app r5)
    simpa using this
  · subst e1 e2 e3 q2
    simp only [List.count_append]
    omega
theorem Cfg.dropAt (c : Cfg K H0 M0 H σ (τ ++ e :: es) (tv ++ v :: us) ρ) (hl : tv.length = τ.length) : Cfg K H0 M0 H σ (τ ++ es) (tv ++ us) ρ := by
  obtain ⟨⟨zs, l, sl, r, n, f⟩, fr, go⟩ := c
  obtain ⟨za, zb, e1, ra, rb⟩ := r.split l.symm
  obtain ⟨zc, zd, e2, rc, rd⟩ := ra.split hl.symm
  obtain ⟨zf, zg, e3, rf, rg⟩ := rd.uncons
  refine Cfg.re (zs' := zc ++ (zg ++ zb)) n f fr go (by simp at l ⊢; omega) sl ?_ fun a => ?_
  · have := rc.app (rg.app rb)
    simpa using this
  · subst e1 e2 e3
    simp only [List.count_append]
    omega
end

/-! ### leaves that cannot change -/
mutual
def leaf : Sh → D → Bool
  | .v, d => imm d
  | .l s, .lst xs => leafA s xs
  | .dk s, .dk _ xs => leafA s xs
  | .dt s, .dt _ xs => leafA s xs
  | .ob ss, .ob _ _ xs => leafs ss xs
  | .tp ss, .tup xs => leafs ss xs
  | _, _ => false
def leafs : List Sh → List D → Bool
  | [], [] => true
  | s :: ss, d :: ds => leaf s d && leafs ss ds
  | _, _ => false
def leafA : Sh → List D → Bool
  | _, [] => true
  | s, d :: ds => leaf s d && leafA s ds
end
theorem leafA_all (s : Sh) : ∀ xs : List D, leafA s xs = xs.all (leaf s)
  | [] => by simp [leafA]
  | d :: ds => by rw [leafA, List.all_cons, leafA_all s ds]
theorem leafA_s (s : Sh) : ∀ (xs : List D) (us : List V), us.length = xs.length → leafs (us.map fun _ => s) xs = leafA s xs
  | [], [], _ => by simp [leafA, leafs]
  | [], _ :: _, h => by simp at h
  | _ :: _, [], h => by simp at h
  | d :: ds, u :: us, h => by
    rw [List.map_cons, leafs, leafA, leafA_s s ds us (by simpa using h)]
def leafE : E → Bool
  | .o s d => leaf s d
  | .p s d => leaf s d
  | .x => true
  | .b _ => false
section
variable {K : PySem.W.Frag} {H G G' : Hp} {ss : List Sh} {vs : List V} {ds : List D} {es : List E} {zs ws : List Addr}
theorem Own.leaf (r : Own K G H ss vs ds zs) (hi : leafs ss ds = true) (ht : Kp K G G') : Own K G' H ss vs ds zs := by
  induction r with
  | nil => exact .nil
  | v h r ih =>
    simp only [leafs, LP.leaf, Bool.and_eq_true] at hi
    exact .v (h.immT (by simp [imms, hi.1]) ht) (ih hi.2)
  | l h a b i1 i2 =>
    simp only [leafs, LP.leaf, Bool.and_eq_true] at hi
    exact .l h (i1 (by rw [leafA_s _ _ _ a.lens.2.symm]; exact hi.1)) (i2 hi.2)
  | dk h l a b i1 i2 =>
    simp only [leafs, LP.leaf, Bool.and_eq_true] at hi
    exact .dk h l (i1 (by rw [leafA_s _ _ _ a.lens.2.symm]; exact hi.1)) (i2 hi.2)
  | dt h l a b i1 i2 =>
    simp only [leafs, LP.leaf, Bool.and_eq_true] at hi
    exact .dt h l (i1 (by rw [leafA_s _ _ _ a.lens.2.symm]; exact hi.1)) (i2 hi.2)
  | ob h h' l a b i1 i2 =>
    simp only [leafs, LP.leaf, Bool.and_eq_true] at hi
    exact .ob h h' l (i1 hi.1) (i2 hi.2)
  | tp h a b i1 i2 =>
    simp only [leafs, LP.leaf, Bool.and_eq_true] at hi
    exact .tp (ht.t _ _ h) (i1 hi.1) (i2 hi.2)
theorem Ents.leaf (r : Ents K G H es vs zs) (hi : es.all leafE = true) (ht : Kp K G G') : Ents K G' H es vs zs := by
  induction r with
  | nil => exact .nil
  | x r ih => exact .x (ih (by simpa [leafE] using hi))
  | b h r ih => simp [leafE] at hi
  | o h r ih =>
    rw [List.all_cons, Bool.and_eq_true] at hi
    exact .o (h.leaf (by simpa [leafs, leafE] using hi.1) ht) (ih hi.2)
  | p h r ih =>
    rw [List.all_cons, Bool.and_eq_true] at hi
    exact .p (h.leaf (by simpa [leafs, leafE] using hi.1) ht) (ih hi.2)
end

/-! ### what a def denotes -/
inductive FO where
  /-- the value; the parameters' entries behind (what was handed in to be changed) -/
  | rt (e : E) (es : List E)
  | ex (C : Addr) (pl : Option (Str × D)) (es : List E)
  | st
def isOV : E → Bool
  | .o _ _ => true
  | _ => false
section
variable (K : PySem.W.Frag) (H : Hp) (zs : List Addr) (vs : List V)
def RunF (Q : VK) (Ew : XK) : FO → Prop
  | .rt e es => ∀ v H' zs', Ents K (hid H' zs') H' (es ++ [e]) (vs ++ [v]) zs' → (es ++ [e]).all leafE = true → isOV e = true → Once zs' → (∀ z ∈ zs', H z = none ∨ z ∈ zs) → (∀ a o, H a = some o → a ∉ zs → H' a = some o) → (∀ a, H' a = none → H a = none) → Q v H'
  | .ex C pl es => ∀ dO H' zs', Ents K (hid H' zs') H' es vs zs' → es.all leafE = true → Once zs' → (∀ z ∈ zs', H z = none ∨ z ∈ zs) → (∀ a o, H a = some o → a ∉ zs → H' a = some o) → (∀ a, H' a = none → H a = none) → Pay K H' dO pl → Ew (.ref C) dO H'
  | .st => False
end
/-- the promise: m of the arguments' entries -/
def SpV (K : PySem.W.Frag) (n : Nat) (m : List E → FO) : Sp := fun vs H Q Ew => vs.length = n ∧ ∃ es zs, Ents K (hid H zs) H es vs zs ∧ Once zs ∧ RunF K H zs vs Q Ew (m es)

def pinE : List Bool → List E → List E
  | true :: bs, .o s d :: es => .p s d :: pinE bs es
  | _ :: bs, e :: es => e :: pinE bs es
  | [], es => es
  | _, [] => []
/-- the changed parameters behind the body -/
def keepE : List Bool → Rho → Option (List E)
  | [], _ => some []
  | true :: bs, .p s d :: ρ => if leaf s d = true then (keepE bs ρ).map (.o s d :: ·) else none
  | false :: bs, _ :: ρ => (keepE bs ρ).map (.x :: ·)
  | _, _ => none
/-- a def of N slots whose body denotes b; mt: the parameters that it may change -/
def fnM (mt : List Bool) (N : Nat) (b : MS) : List E → FO := fun es =>
  if es.all isOV = true then
    match b (pinE mt es ++ List.replicate (N - mt.length) .x) with
    | .nx ρ _ => (match keepE mt ρ with | some es' => .rt (.o .v .non) es' | none => .st)
    | .rt e ρ _ => if leafE e = true ∧ isOV e = true then (match keepE mt ρ with | some es' => .rt e es' | none => .st) else .st
    | .ex C pl ρ _ => (match keepE mt ρ with | some es' => .ex C pl es' | none => .st)
    | _ => .st
  else .st

section
variable {K : PySem.W.Frag} {H G : Hp} {zs : List Addr}
theorem pinE_ents : ∀ {mt : List Bool} {es : List E} {vs : List V} {zs : List Addr}, Ents K G H es vs zs → Ents K G H (pinE mt es) vs zs
  | [], _, _, _, r => by simpa [pinE] using r
  | b :: bs, [], _, _, r => by cases b <;> simpa [pinE] using r
  | true :: bs, .o s d :: es, v :: vs, zs, r => by
    obtain ⟨z1, z2, e1, r1, r2⟩ := r.uncons
    subst e1
    exact r1.o1.entp.app (pinE_ents r2)
  | true :: bs, .x :: es, v :: vs, zs, r => by
    obtain ⟨z1, z2, e1, r1, r2⟩ := r.uncons
    subst e1
    exact r1.app (pinE_ents r2)
  | true :: bs, .b _ :: es, v :: vs, zs, r => by
    obtain ⟨z1, z2, e1, r1, r2⟩ := r.uncons
    subst e1
    exact r1.app (pinE_ents r2)
  | true :: bs, .p _ _ :: es, v :: vs, zs, r => by
    obtain ⟨z1, z2, e1, r1, r2⟩ := r.uncons
    subst e1
    exact r1.app (pinE_ents r2)
  | false :: bs, e :: es, v :: vs, zs, r => by
    obtain ⟨z1, z2, e1, r1, r2⟩ := r.uncons
    subst e1
    have := r1.app (pinE_ents (mt := bs) r2)
    cases e <;> simpa [pinE] using this
  | _ :: _, _ :: _, [], _, r => nomatch r
theorem pinE_length : ∀ {mt : List Bool} {es : List E}, (pinE mt es).length = es.length
  | [], es => by simp [pinE]
  | _ :: _, [] => by simp [pinE]
  | true :: bs, .o s d :: es => by simp [pinE, pinE_length]
  | true :: bs, .x :: es => by simp [pinE, pinE_length]
  | true :: bs, .b _ :: es => by simp [pinE, pinE_length]
  | true :: bs, .p _ _ :: es => by simp [pinE, pinE_length]
  | false :: bs, e :: es => by cases e <;> simp [pinE, pinE_length]
theorem x_ents : ∀ (vs : List V), Ents K G H (List.replicate vs.length .x) vs []
  | [] => .nil
  | _ :: vs => .x (x_ents vs)
/-- the changed parameters: their entries over the values handed in -/
theorem keepE_ents : ∀ {mt : List Bool} {ρ : Rho} {es' : List E} {ws vs : List V} {zs : List Addr}, Ents K G H ρ ws zs → keepE mt ρ = some es' → vs.length = mt.length →
    (∀ (i : Nat) (s : Sh) (d : D), ρ[i]? = some (.p s d) → i < vs.length → ws[i]? = vs[i]?) → ∃ z2, (∀ a, z2.count a ≤ zs.count a) ∧ Ents K G H es' vs z2 ∧ es'.all leafE = true
  | [], ρ, es', ws, vs, zs, r, h, hl, hp => by
    cases h
    cases vs with
    | nil => exact ⟨[], fun a => by simp, .nil, rfl⟩
    | cons _ _ => simp at hl
  | b :: bs, [], es', ws, vs, zs, r, h, hl, hp => by cases b <;> simp [keepE] at h
  | b :: bs, e :: ρ, es', [], vs, zs, r, h, hl, hp => nomatch r
  | b :: bs, e :: ρ, es', w :: ws, [], zs, r, h, hl, hp => by simp at hl
  | b :: bs, e :: ρ, es', w :: ws, v :: vs, zs, r, h, hl, hp => by
    obtain ⟨z1, z2, e1, r1, r2⟩ := r.uncons
    subst e1
    have hp' : ∀ (i : Nat) (s : Sh) (d : D), ρ[i]? = some (.p s d) → i < vs.length → ws[i]? = vs[i]? := fun i s d q1 q2 => by
      have := hp (i + 1) s d (by simpa using q1) (by simpa using q2)
      simpa using this
    cases b with
    | false =>
      have h2 : (keepE bs ρ).map (.x :: ·) = some es' := by cases e <;> simpa [keepE] using h
      cases h3 : keepE bs ρ with
      | none => rw [h3] at h2; cases h2
      | some es2 =>
        rw [h3] at h2
        cases h2
        obtain ⟨z3, c3, r3, l3⟩ := keepE_ents (vs := vs) r2 h3 (by simpa using hl) hp'
        refine ⟨z3, fun a => ?_, .x r3, by simp [leafE, l3]⟩
        have := c3 a
        rw [List.count_append]
        omega
    | true =>
      cases e with
      | p s d =>
        simp only [keepE] at h
        split at h
        · rename_i hlf
          cases h3 : keepE bs ρ with
          | none => rw [h3] at h; cases h
          | some es2 =>
            rw [h3] at h
            cases h
            obtain ⟨z3, c3, r3, l3⟩ := keepE_ents (vs := vs) r2 h3 (by simpa using hl) hp'
            have e2 := hp 0 s d rfl (by simp)
            simp at e2
            subst e2
            refine ⟨z1 ++ z3, fun a => ?_, r1.p1.ent.app r3, by simp [leafE, hlf, l3]⟩
            have := c3 a
            rw [List.count_append, List.count_append]
            omega
        · cases h
      | x => simp [keepE] at h
      | b d => simp [keepE] at h
      | o s d => simp [keepE] at h
theorem vals_start (N : List Str) (vs : List V) : vals (L2.start N vs) = vs ++ List.replicate (N.length - vs.length) .non := by
  simp [vals, L2.start, List.map_append, List.map_map, Function.comp_def]
end

section
variable {P : Program} {w : World} {K : PySem.W.Frag} {mg : Str → Option Value} {base : Heap}
/-- the wish of a def's body -/
abbrev wE (Ew : XK) : WX := fun cls d _ H' => Ew cls d H'
theorem take_E {qual : Str} {scope : Scope} {f : Addr} {cd : Value} {A : Around} {outer : List Env} {s : Shared} {H : Hp} {N : List Str} {Ew : XK} :
    Takes (cxOf (L2.CX P w) P w K mg base N qual scope f cd A outer s H Ew) (wE Ew) := takes_of rfl rfl rfl (by exact rfl)
/-- THE RULE for a def -/
theorem fn_v {x qual : Str} {st : Stmt} {f : Addr} {fd : FuncData} {N ps : List Str} {k : Nat} (F : Fun K x qual st f fd) (S : FnScope N ps (defScope st)) (mt : List Bool) (b : MS) (hm : mt.length = ps.length) (hN : ps.length ≤ N.length)
    (hb : ∀ (cdv : Value) (A : Around) (outer : List Env) (s : Shared) (H : Hp) (Ew : XK), Room k (A.deeper (envOfC qual (defScope st) s.heap.objs.size f cdv)) →
      VB (cxOf (L2.CX P w) P w K mg base N qual (defScope st) f cdv A outer s H Ew) (wE Ew) (defBody st) b) :
    FnOk P w K mg base (L2.CX P w) (k + 1) f fd ps (SpV K ps.length (fnM mt N.length b)) := by
  refine F.okX S (fun vs H Q Ew h => h.1) (fun cdv A outer s H vs Q Ew hr h => ⟨_, (hb cdv A outer s H Ew hr).pss, ?_⟩)
  obtain ⟨hlen, es, zs, r, n, q⟩ := h
  unfold fnM at q
  by_cases ho : es.all isOV = true
  · rw [if_pos ho] at q
    have hl := r.length
    have r0 : Ents K (hid H zs) H ([] ++ (pinE mt es ++ List.replicate (N.length - mt.length) .x)) ([] ++ vals (L2.start N vs)) zs := by
      rw [vals_start]
      have q1 := (pinE_ents (mt := mt) r).app (x_ents (K := K) (G := hid H zs) (H := H) (List.replicate (N.length - vs.length) V.non))
      simpa [hm, hlen] using q1
    have sl : Slots (L2.start N vs) (L2.start N vs) (pinE mt es ++ List.replicate (N.length - mt.length) .x) := by
      refine ⟨by simp [L2.start, pinE_length, hl, hm, hlen], fun _ _ _ _ => rfl, fun i e hi hx => ?_⟩
      by_cases hi2 : i < (pinE mt es).length
      · rw [pinE_length, hl] at hi2
        refine ⟨vs[i], ?_⟩
        unfold L2.start
        rw [List.getElem?_append_left (by simpa using hi2), List.getElem?_map, List.getElem?_eq_getElem hi2]
        rfl
      · rw [List.getElem?_append_right (by omega)] at hi
        have := List.mem_of_getElem? hi
        rw [List.mem_replicate] at this
        exact absurd this.2 hx
    have c0 : Cfg K H ⟨zs, L2.start N vs⟩ H (L2.start N vs) [] [] (pinE mt es ++ List.replicate (N.length - mt.length) .x) :=
      ⟨⟨zs, rfl, sl, r0, n, fun z hz => .inr hz⟩, fun a o h _ => h, fun a h => h⟩
    refine ⟨H, ⟨zs, L2.start N vs⟩, [], [], _, c0, ?_⟩
    -- what the body leaves of the changed parameters
    have fin : ∀ {es' : List E} {ρ : Rho} {σ' : L2.St} {H' : Hp} {e : E} {v : V}, keepE mt ρ = some es' → Cfg K H ⟨zs, L2.start N vs⟩ H' σ' [e] [v] ρ →
        ∃ zs', Ents K (hid H' zs') H' (es' ++ [e]) (vs ++ [v]) zs' ∧ es'.all leafE = true ∧ Once zs' ∧ ∀ z ∈ zs', H z = none ∨ z ∈ zs := by
      intro es' ρ σ' H' e v hk c
      obtain ⟨⟨zs1, l1, sl1, r1, n1, f1⟩, fr1, go1⟩ := c
      obtain ⟨za, zb, e1, ra, rb⟩ := r1.split (e1 := [e]) (v1 := [v]) rfl
      obtain ⟨z2, c2, r2, lf⟩ := keepE_ents (vs := vs) rb hk (by rw [hlen, hm]) fun i s d hi hlt => by
        have p1 := sl1.pin i s d hi
        obtain ⟨w, hw⟩ := sl1.at_ i _ hi (by intro z; cases z)
        rw [vals_get hw]
        have p2 : (L2.start N vs)[i]? = some (some vs[i]) := by
          unfold L2.start
          rw [List.getElem?_append_left (by simpa using hlt), List.getElem?_map, List.getElem?_eq_getElem hlt]
          rfl
        have p3 : σ'[i]? = (L2.start N vs)[i]? := p1
        rw [p2, hw] at p3
        rw [List.getElem?_eq_getElem hlt]
        exact Option.some.inj p3
      refine ⟨z2 ++ za, ?_, lf, fun a => ?_, fun z hz => f1 z ?_⟩
      · refine Ents.grow (r2.app ra) (hid_le fun a m => ?_) fun _ _ q => q
        rcases List.mem_append.mp m with m | m
        · rw [e1]
          have := Nat.lt_of_lt_of_le (List.count_pos_iff.mpr m) (c2 a)
          exact List.mem_append_right _ (List.count_pos_iff.mp this)
        · rw [e1]; exact List.mem_append_left _ m
      · have := n1 a
        have := c2 a
        have h3 : zs1.count a = za.count a + zb.count a := by rw [e1, List.count_append]
        rw [List.count_append]
        omega
      · rcases List.mem_append.mp hz with m | m
        · rw [e1]
          have := Nat.lt_of_lt_of_le (List.count_pos_iff.mpr m) (c2 z)
          exact List.mem_append_right _ (List.count_pos_iff.mp this)
        · rw [e1]; exact List.mem_append_left _ m
    cases hbd : b (pinE mt es ++ List.replicate (N.length - mt.length) .x) with
    | nx ρ k' =>
      simp only [hbd] at q
      intro σ' H' c'
      cases hk : keepE mt ρ with
      | none => simp only [hk] at q; exact q.elim
      | some es' =>
        simp only [hk] at q
        have c1 : Cfg K H ⟨zs, L2.start N vs⟩ H' σ' [.o .v .non] [.non] ρ := by
          have c2 : Cfg K H ⟨zs, L2.start N vs⟩ H' σ' [] [] ρ := by cases k' <;> exact c'
          exact c2.pushImm (.non .nil) rfl
        obtain ⟨zs', r', lf, n', f'⟩ := fin hk c1
        exact q .non H' zs' r' (by simp [lf, leafE, LP.leaf, imm]) rfl n' f' c'.frame c'.gone
    | rt e ρ k' =>
      simp only [hbd] at q
      intro v σ' H' c'
      split at q
      · rename_i hle
        cases hk : keepE mt ρ with
        | none => simp only [hk] at q; exact q.elim
        | some es' =>
          simp only [hk] at q
          have c1 : Cfg K H ⟨zs, L2.start N vs⟩ H' σ' [e] [v] ρ := by cases k' <;> exact c'
          obtain ⟨zs', r', lf, n', f'⟩ := fin hk c1
          exact q v H' zs' r' (by simp [lf, hle.1]) hle.2 n' f' c'.frame c'.gone
      · exact q.elim
    | ex C pl ρ k' =>
      simp only [hbd] at q
      intro dO σ' H' c' pay
      cases hk : keepE mt ρ with
      | none => simp only [hk] at q; exact q.elim
      | some es' =>
        simp only [hk] at q
        have c1 : Cfg K H ⟨zs, L2.start N vs⟩ H' σ' [.x] [.non] ρ := by
          have c2 : Cfg K H ⟨zs, L2.start N vs⟩ H' σ' [] [] ρ := by cases k' <;> exact c'
          exact c2.pushX
        obtain ⟨zs', r', lf, n', f'⟩ := fin hk c1
        have hl' : es'.length = vs.length := by
          have := r'.length
          simpa using this
        obtain ⟨za, zb, e1, ra, rb⟩ := r'.split hl'
        have := rb.x1
        subst this
        rw [List.append_nil] at e1
        subst e1
        exact q dO H' zs' ra lf n' f' c'.frame c'.gone pay
    | bk ρ k' => simp only [hbd] at q; exact q.elim
    | ct ρ k' => simp only [hbd] at q; exact q.elim
    | st => simp only [hbd] at q; exact q.elim
  · rw [if_neg ho] at q
    exact q.elim
end
end LP
end
section
/-! LP, part f: calls of defs. -/
namespace LP
open PySem PySem.Spec PyProof.Rows L2

/-! ### the heap and entries around a call -/
/-- the entries of the parameters that may change; of the others -/
def mtE : List Bool → List E → List E
  | true :: bs, e :: es => e :: mtE bs es
  | false :: bs, _ :: es => .x :: mtE bs es
  | _, [] => []
  | [], es => es.map fun _ => .x
def rdEs : List Bool → List E → List E
  | true :: bs, _ :: es => .x :: rdEs bs es
  | false :: bs, e :: es => e :: rdEs bs es
  | _, [] => []
  | [], es => es
/-- what the callee is given -/
def cvt1 (any : Bool) : E → Option E
  | .o _ d => some (.o .v d)
  | .b d => if any = true then none else some (.o .v d)
  | _ => none
def cvt (any : Bool) : List Bool → List E → Option (List E)
  | [], [] => some []
  | true :: bs, .o s d :: es => (cvt any bs es).map (.o s d :: ·)
  | false :: bs, e :: es => (match cvt1 any e with | some e' => (cvt any bs es).map (e' :: ·) | none => none)
  | _, _ => none
/-- two lists of entries over the same values -/
def mrg : List E → List E → List E
  | .x :: as, b :: bs => b :: mrg as bs
  | a :: as, _ :: bs => a :: mrg as bs
  | as, [] => as
  | [], bs => bs
section
variable {K : PySem.W.Frag} {H H' G G' : Hp} {zs zc zr z1 z2 : List Addr}
theorem Ents.sep : ∀ {mt : List Bool} {es : List E} {vs : List V} {za : List Addr}, Ents K G H es vs za → ∃ zc zr, (∀ a, za.count a = zc.count a + zr.count a) ∧ Ents K G H (mtE mt es) vs zc ∧ Ents K G H (rdEs mt es) vs zr
  | mt, [], vs, za, r => by
    have hv : vs = [] := by cases r; rfl
    have hz : za = [] := by cases r; rfl
    subst hv hz
    refine ⟨[], [], fun a => by simp, ?_, ?_⟩
    · cases mt with
      | nil => exact .nil
      | cons b _ => cases b <;> exact .nil
    · cases mt with
      | nil => exact .nil
      | cons b _ => cases b <;> exact .nil
  | _, _ :: _, [], _, r => nomatch r
  | [], e :: es, v :: vs, za, r => by
    refine ⟨[], za, fun a => by simp, ?_, by simpa [rdEs] using r⟩
    have : ∀ (es : List E) (vs : List V), es.length = vs.length → Ents K G H (es.map fun _ => E.x) vs [] := by
      intro es
      induction es with
      | nil => intro vs h; cases vs with | nil => exact .nil | cons _ _ => simp at h
      | cons e es ih => intro vs h; cases vs with | nil => simp at h | cons v vs => exact .x (ih vs (by simpa using h))
    simpa [mtE] using this (e :: es) (v :: vs) r.length
  | true :: bs, e :: es, v :: vs, za, r => by
    obtain ⟨ya, yb, e1, ra, rb⟩ := r.uncons
    subst e1
    obtain ⟨zc, zr, c, rc, rr⟩ := Ents.sep (mt := bs) rb
    refine ⟨ya ++ zc, zr, fun a => ?_, ra.app rc, .x rr⟩
    have := c a
    rw [List.count_append, List.count_append]
    omega
  | false :: bs, e :: es, v :: vs, za, r => by
    obtain ⟨ya, yb, e1, ra, rb⟩ := r.uncons
    subst e1
    obtain ⟨zc, zr, c, rc, rr⟩ := Ents.sep (mt := bs) rb
    refine ⟨zc, ya ++ zr, fun a => ?_, .x rc, ra.app rr⟩
    have := c a
    rw [List.count_append, List.count_append]
    omega
/-- the callee's entries -/
theorem Ents.cvt {any : Bool} (hs : ∀ a ∈ zc, a ∈ zs) (hd : any = false → zc = []) : ∀ {mt : List Bool} {es cs : List E} {vs : List V} {y1 y2 : List Addr}, Ents K (hid H zs) H (mtE mt es) vs y1 → Ents K (hid H zs) H (rdEs mt es) vs y2 → LP.cvt any mt es = some cs →
    (∀ a ∈ y2, a ∉ zc) → Ents K (hid H zc) H cs vs y1
  | [], [], cs, vs, y1, y2, r1, r2, h, k => by
    cases h
    have hv : vs = [] := by cases r1; rfl
    have hz : y1 = [] := by cases r1; rfl
    subst hv hz
    exact .nil
  | [], _ :: _, _, _, _, _, _, _, h, _ => by simp [LP.cvt] at h
  | b0 :: _, [], _, _, _, _, _, _, h, _ => by cases b0 <;> simp [LP.cvt] at h
  | true :: bs, e :: es, cs, [], y1, y2, r1, r2, h, k => nomatch r1
  | false :: bs, e :: es, cs, [], y1, y2, r1, r2, h, k => nomatch r1
  | true :: bs, e :: es, cs, v :: vs, y1, y2, r1, r2, h, k => by
    obtain ⟨ya, yb, e1, ra, rb⟩ := r1.uncons
    subst e1
    obtain ⟨yc, yd, e2, rc, rd⟩ := r2.uncons
    subst e2
    cases e with
    | o s d =>
      simp only [LP.cvt] at h
      cases h3 : LP.cvt any bs es with
      | none => rw [h3] at h; cases h
      | some cs2 =>
        rw [h3] at h; cases h
        exact ((ra.o1.step (hid_le hs) fun _ _ _ q => q).ent).app (Ents.cvt hs hd rb rd h3 fun a m => k a (List.mem_append_right _ m))
    | x => simp [LP.cvt] at h
    | b d => simp [LP.cvt] at h
    | p s d => simp [LP.cvt] at h
  | false :: bs, e :: es, cs, v :: vs, y1, y2, r1, r2, h, k => by
    obtain ⟨ya, yb, e1, ra, rb⟩ := r1.uncons
    subst e1
    obtain ⟨yc, yd, e2, rc, rd⟩ := r2.uncons
    subst e2
    have := ra.x1
    subst this
    simp only [LP.cvt] at h
    cases h4 : cvt1 any e with
    | none => rw [h4] at h; cases h
    | some e' =>
      rw [h4] at h
      simp only at h
      cases h3 : LP.cvt any bs es with
      | none => rw [h3] at h; cases h
      | some cs2 =>
        rw [h3] at h; cases h
        have ih := Ents.cvt hs hd rb rd h3 fun a m => k a (List.mem_append_right _ m)
        have r5 : Ents K (hid H zc) H [e'] [v] [] := by
          cases e with
          | x => cases h4
          | p _ _ => cases h4
          | o s d =>
            cases h4
            have := rc.o1.freeze (ws := zc) hs fun a m => k a (List.mem_append_left _ m)
            simpa using (Own.v this Own.nil).ent
          | b d =>
            simp only [cvt1] at h4
            split at h4
            · cases h4
            · rename_i hn
              cases h4
              have hz := hd (by cases any <;> simp_all)
              subst hz
              have : Rp K (hid H []) [v] [d] := rc.b1.2.same fun a o q => by rw [hid_out (by simp)]; exact q
              simpa using (Own.v this Own.nil).ent
        exact r5.app ih
theorem Ents.mrg : ∀ {as bs : List E} {vs : List V} {z1 z2 : List Addr}, Ents K G H as vs z1 → Ents K G H bs vs z2 → ∃ z, (∀ a, z.count a ≤ z1.count a + z2.count a) ∧ Ents K G H (LP.mrg as bs) vs z
  | [], [], vs, z1, z2, r1, r2 => ⟨z1, fun a => Nat.le_add_right _ _, by simpa [LP.mrg] using r1⟩
  | [], b0 :: bs, vs, z1, z2, r1, r2 => by
    have h1 := r1.length
    have h2 := r2.length
    simp at h1 h2
    omega
  | a :: as, [], vs, z1, z2, r1, r2 => by
    have h1 := r1.length
    have h2 := r2.length
    simp at h1 h2
    omega
  | _ :: _, _ :: _, [], _, _, r1, _ => nomatch r1
  | a :: as, b0 :: bs, v :: vs, z1, z2, r1, r2 => by
    obtain ⟨ya, yb, e1, ra, rb⟩ := r1.uncons
    obtain ⟨yc, yd, e2, rc, rd⟩ := r2.uncons
    subst e1 e2
    obtain ⟨z, hc, r⟩ := Ents.mrg rb rd
    by_cases hx : a = .x
    · subst hx
      refine ⟨yc ++ z, fun q => ?_, by simpa [LP.mrg] using rc.app r⟩
      have := hc q
      simp only [List.count_append]
      omega
    · refine ⟨ya ++ z, fun q => ?_, ?_⟩
      · have := hc q
        simp only [List.count_append]
        omega
      · have e3 : LP.mrg (a :: as) (b0 :: bs) = a :: LP.mrg as bs := by cases a <;> first | exact absurd rfl hx | rfl
        rw [e3]
        exact ra.app r
theorem mtE_none : ∀ {mt : List Bool} {es : List E}, mt.any id = false → ∀ e ∈ mtE mt es, e = .x
  | [], es, _ => fun e h => by
    have h' : e ∈ es.map (fun _ => E.x) := by cases es <;> simpa [mtE] using h
    simp at h'
    exact h'.2.symm
  | true :: bs, _, h => by simp at h
  | false :: bs, [], _ => by simp [mtE]
  | false :: bs, _ :: es, h => fun e m => by
    simp only [mtE, List.mem_cons] at m
    rcases m with rfl | m
    · rfl
    · exact mtE_none (mt := bs) (by simpa using h) e m
theorem Ents.allx : ∀ {es : List E} {vs : List V} {z : List Addr}, Ents K G H es vs z → (∀ e ∈ es, e = .x) → z = [] := by
  intro es vs z r
  induction r with
  | nil => intro _; rfl
  | x _ ih => exact fun h => ih fun e m => h e (List.mem_cons_of_mem _ m)
  | b _ _ _ => exact fun h => absurd (h _ List.mem_cons_self) (by intro q; cases q)
  | o _ _ _ => exact fun h => absurd (h _ List.mem_cons_self) (by intro q; cases q)
  | p _ _ _ => exact fun h => absurd (h _ List.mem_cons_self) (by intro q; cases q)
end

/-- behind a call: killed where it may have changed something -/
def km (any : Bool) (es : List E) : List E := if any = true then es.map kill else es
theorem Ents.after {K : PySem.W.Frag} {G G' H H' : Hp} {es : List E} {vs : List V} {zs zc : List Addr} (any : Bool) (r : Ents K G H es vs zs) (e : Same G G') (fr : ∀ a o, H a = some o → a ∉ zc → H' a = some o) (hd : any = false → zc = []) (hz : ∀ a ∈ zs, a ∉ zc) :
    Ents K G' H' (km any es) vs zs := by
  cases any with
  | true => exact r.step e fun z hz' o h => fr z o h (hz z hz')
  | false =>
    have := hd rfl
    subst this
    exact r.grow e fun a o h => fr a o h (by simp)
theorem km_kk (any : Bool) (τ : List E) : km any τ = kk any τ := by cases any <;> rfl
theorem km_length (any : Bool) (τ : List E) : (km any τ).length = τ.length := by cases any <;> simp [km]

section
variable {K : PySem.W.Frag} {H0 H : Hp} {M0 : Bs} {σ : L2.St} {τ args ρ : List E} {tv vs : List V} {mt : List Bool} {cs : List E} {n : Nat} {m : List E → FO} {Q : VK} {Ew : XK}
/-- THE CALL: from the state with the arguments as temps to the callee's promise -/
theorem call_core (c : Cfg K H0 M0 H σ (τ ++ args) (tv ++ vs) ρ) (hl : tv.length = τ.length) (hn : vs.length = n) (hc : cvt (mt.any id) mt args = some cs)
    (q : match m cs with
      | .rt e es' => ∀ v H', isOV e = true → (mt.any id = false → Same H H') → Cfg K H0 M0 H' σ (km (mt.any id) τ ++ (mrg es' (km (mt.any id) (rdEs mt args)) ++ [e])) (tv ++ (vs ++ [v])) (km (mt.any id) ρ) → Q v H'
      | .ex C pl es' => ∀ dO H', Cfg K H0 M0 H' σ (km (mt.any id) τ ++ mrg es' (km (mt.any id) (rdEs mt args))) (tv ++ vs) (km (mt.any id) ρ) → Pay K H' dO pl → Ew (.ref C) dO H'
      | .st => False) : SpV K n m vs H Q Ew := by
  obtain ⟨⟨zs, l, sl, r, nn, f⟩, fr, go⟩ := c
  obtain ⟨za, zb, e1, ra, rb⟩ := r.split l.symm
  obtain ⟨zt, zg, e2, rt, rg⟩ := ra.split hl.symm
  obtain ⟨zc, zr, cnt, rc, rr⟩ := rg.sep (mt := mt)
  have hcount : ∀ a, zs.count a = zt.count a + (zc.count a + zr.count a) + zb.count a := fun a => by
    rw [e1, e2, List.count_append, List.count_append, cnt a]
  have inC : ∀ a ∈ zc, a ∈ zs := fun a h => List.count_pos_iff.mp (by have := hcount a; have := List.count_pos_iff.mpr h; omega)
  have disT : ∀ a ∈ zt, a ∉ zc := fun a h1 h2 => by
    have := hcount a; have := nn a; have := List.count_pos_iff.mpr h1; have := List.count_pos_iff.mpr h2; omega
  have disR : ∀ a ∈ zr, a ∉ zc := fun a h1 h2 => by
    have := hcount a; have := nn a; have := List.count_pos_iff.mpr h1; have := List.count_pos_iff.mpr h2; omega
  have disB : ∀ a ∈ zb, a ∉ zc := fun a h1 h2 => by
    have := hcount a; have := nn a; have := List.count_pos_iff.mpr h1; have := List.count_pos_iff.mpr h2; omega
  have hd : mt.any id = false → zc = [] := fun h => rc.allx (mtE_none h)
  have mineS : ∀ z ∈ zs, Mine (H z) := r.mine
  have rcs : Ents K (hid H zc) H cs vs zc := Ents.cvt inC hd rc rr hc disR
  have onceC : Once zc := fun a => by have := hcount a; have := nn a; omega
  refine ⟨hn, cs, zc, rcs, onceC, ?_⟩
  -- the state behind it
  have back : ∀ (es' : List E) (H' : Hp) (zs' : List Addr) (z1 ze : List Addr) (ee : List E) (ve : List V), zs' = z1 ++ ze → Ents K (hid H' zs') H' es' vs z1 → Ents K (hid H' zs') H' ee ve ze → es'.all leafE = true → ee.all leafE = true → Once zs' →
      (∀ z ∈ zs', H z = none ∨ z ∈ zc) → (∀ a o, H a = some o → a ∉ zc → H' a = some o) → (∀ a, H' a = none → H a = none) →
      Cfg K H0 M0 H' σ (km (mt.any id) τ ++ (mrg es' (km (mt.any id) (rdEs mt args)) ++ ee)) (tv ++ (vs ++ ve)) (km (mt.any id) ρ) := by
    intro es' H' zs' z1 ze ee ve ez r1 r2 lf1 lf2 n' f' fr' go'
    -- all owned places behind
    have zn_def : ∃ zn, zn = zt ++ (z1 ++ (zr ++ (ze ++ zb))) := ⟨_, rfl⟩
    obtain ⟨zn, ezn⟩ := zn_def
    have hcz : ∀ a, zs'.count a = z1.count a + ze.count a := fun a => by rw [ez, List.count_append]
    have hcn : ∀ a, zn.count a = zt.count a + (z1.count a + (zr.count a + (ze.count a + zb.count a))) := fun a => by rw [ezn]; simp only [List.count_append]
    have onceN : Once zn := fun a => by
      have h1 := hcn a
      have h2 := hcz a
      have h3 := n' a
      have h4 := hcount a
      have h5 := nn a
      by_cases hp : 0 < zs'.count a
      · rcases f' a (List.count_pos_iff.mp hp) with g | g
        · have h6 : zs.count a = 0 := by
            refine Nat.eq_zero_of_not_pos fun h7 => ?_
            have := mineS a (List.count_pos_iff.mp h7)
            rw [g] at this
            exact this
          omega
        · have := List.count_pos_iff.mpr g
          omega
      · omega
    have memN : ∀ a ∈ zn, a ∈ zt ∨ a ∈ zs' ∨ a ∈ zr ∨ a ∈ zb := fun a h => by
      rw [ezn] at h
      simp only [List.mem_append] at h
      rw [ez, List.mem_append]
      rcases h with h | h | h | h | h
      · exact .inl h
      · exact .inr (.inl (.inl h))
      · exact .inr (.inr (.inl h))
      · exact .inr (.inl (.inr h))
      · exact .inr (.inr (.inr h))
    have inT : ∀ a ∈ zt, a ∈ zs := fun a h => List.count_pos_iff.mp (by have := hcount a; have := List.count_pos_iff.mpr h; omega)
    have inR : ∀ a ∈ zr, a ∈ zs := fun a h => List.count_pos_iff.mp (by have := hcount a; have := List.count_pos_iff.mpr h; omega)
    have inB : ∀ a ∈ zb, a ∈ zs := fun a h => List.count_pos_iff.mp (by have := hcount a; have := List.count_pos_iff.mpr h; omega)
    have sameG : Same (hid H zs) (hid H' zn) := fun a o h => by
      obtain ⟨h1, h2⟩ := hid_some h
      have h3 : a ∉ zc := fun m => h1 (inC a m)
      have h4 : a ∉ zn := fun m => by
        rcases memN a m with m | m | m | m
        · exact h1 (inT a m)
        · rcases f' a m with g | g
          · rw [h2] at g; cases g
          · exact h3 g
        · exact h1 (inR a m)
        · exact h1 (inB a m)
      rw [hid_out h4]
      exact fr' a o h2 h3
    have mineN : ∀ z ∈ zn, Mine (H' z) := fun z h => by
      have old : z ∈ zs → z ∉ zc → Mine (H' z) := fun h1 h2 => by
        have h3 := mineS z h1
        cases hz : H z with
        | none => rw [hz] at h3; exact h3.elim
        | some o => rw [fr' z o hz h2]; rw [hz] at h3; exact h3
      rcases memN z h with m | m | m | m
      · exact old (inT z m) (disT z m)
      · rw [ez] at m
        rcases List.mem_append.mp m with m | m
        · exact r1.mine z m
        · exact r2.mine z m
      · exact old (inR z m) (disR z m)
      · exact old (inB z m) (disB z m)
    have tK : Kp K (hid H' zs') (hid H' zn) := (Kp.same (hid_sub _ _)).trans (kp_hid mineN)
    have q1 := r1.leaf lf1 tK
    have q2 := r2.leaf lf2 tK
    have q3 := rt.after (H' := H') (G' := hid H' zn) (mt.any id) sameG fr' hd disT
    have q4 := rr.after (H' := H') (G' := hid H' zn) (mt.any id) sameG fr' hd disR
    have q5 := rb.after (H' := H') (G' := hid H' zn) (mt.any id) sameG fr' hd disB
    obtain ⟨zm, hm, q6⟩ := Ents.mrg q1 q4
    refine Cfg.re (zs := zn) (zs' := zt ++ (zm ++ (ze ++ zb))) onceN (fun z h => ?_) (fun a o h1 h2 => ?_) (fun a h => go a (go' a h)) ?_ ?_ ?_ fun a => ?_
    · rcases memN z h with m | m | m | m
      · exact f z (inT z m)
      · rcases f' z m with g | g
        · exact .inl (go z g)
        · exact f z (inC z g)
      · exact f z (inR z m)
      · exact f z (inB z m)
    · refine fr' a o (fr a o h1 h2) fun m => ?_
      rcases f a (inC a m) with g | g
      · rw [h1] at g; cases g
      · exact h2 g
    · have h1 := q6.length
      have h2 := q2.length
      simp [km_length, hl, h1, h2]
    · refine ⟨by rw [km_length]; exact sl.len, fun j s d hj => ?_, fun j e hj hx => ?_⟩
      · cases ha : mt.any id with
        | false => rw [ha] at hj; exact sl.pin j s d hj
        | true =>
          rw [ha] at hj
          have hj' : (ρ.map kill)[j]? = some (.p s d) := hj
          rw [List.getElem?_map] at hj'
          cases hr : ρ[j]? with
          | none => rw [hr] at hj'; cases hj'
          | some e0 =>
            rw [hr] at hj'
            cases e0 <;> first | (cases hj'; exact sl.pin j _ _ hr) | cases hj'
      · cases ha : mt.any id with
        | false => rw [ha] at hj; exact sl.at_ j e hj hx
        | true =>
          rw [ha] at hj
          have hj' : (ρ.map kill)[j]? = some e := hj
          rw [List.getElem?_map] at hj'
          cases hr : ρ[j]? with
          | none => rw [hr] at hj'; cases hj'
          | some e0 =>
            rw [hr] at hj'
            refine sl.at_ j e0 hr fun hz => ?_
            subst hz
            cases hj'
            exact hx rfl
    · have := q3.app ((q6.app q2).app q5)
      simpa using this
    · have h1 := hm a
      have h2 := hcn a
      simp only [List.count_append]
      omega
  cases hm : m cs with
  | st => rw [hm] at q; exact q
  | rt e es' =>
    rw [hm] at q
    intro v H' zs' r' lf ho n' f' fr' go'
    have hl' : es'.length = vs.length := by
      have := r'.length
      simpa using this
    obtain ⟨z1, ze, ez, r1, r2⟩ := r'.split hl'
    rw [List.all_append, Bool.and_eq_true] at lf
    exact q v H' ho (fun ha a o h => fr' a o h (by rw [hd ha]; simp)) (back es' H' zs' z1 ze [e] [v] ez r1 r2 lf.1 lf.2 n' f' fr' go')
  | ex C pl es' =>
    rw [hm] at q
    intro dO H' zs' r' lf n' f' fr' go' pay
    have := back es' H' zs' zs' [] [] [] (by simp) r' .nil lf rfl n' f' fr' go'
    simp only [List.append_nil] at this
    exact q dO H' this pay
end
end LP
end
section
/-! LP, part g: the rules for calls. -/
namespace LP
open PySem PySem.Spec PyProof.Rows L2

/-- an argument: evaluated, or the owned slot i itself -/
inductive Ar where
  | ev (m : M)
  | ref (i : Nat)
def evs : List Ar → Rho → AO
  | [] => aNil
  | .ev m :: as => aCons m (evs as)
  | .ref i :: as => fun ρ => match ρ[i]? with
    | some (.o _ _) => evs as ρ
    | some (.p _ _) => evs as ρ
    | _ => .st
inductive Mix (σ : L2.St) : List Ar → List V → List V → Prop
  | nil : Mix σ [] [] []
  | ev {m as u us vs} : Mix σ as us vs → Mix σ (.ev m :: as) (u :: us) (u :: vs)
  | ref {i as v us vs} : σ[i]? = some (some v) → Mix σ as us vs → Mix σ (.ref i :: as) us (v :: vs)
def RunB (K : PySem.W.Frag) (W : WX) (H0 : Hp) (M0 : Bs) (τ : List E) (tv : List V) (σ : L2.St) (ρ : Rho) (Hs : Hp) (as : List Ar) (Q : List V → Hp → Prop) : AO → Prop
  | .ok es p => ∀ us vs H', us.length = es.length → Mix σ as us vs → Cfg K H0 M0 H' σ (kp p τ ++ es) (tv ++ us) (p.getD ρ) → (p = none → Same Hs H') → Q vs H'
  | .ex C pl p => RunX K W H0 M0 τ tv σ ρ C pl p
  | .st => False
def tVb (K : PySem.W.Frag) (W : WX) (as : List Ar) : TA := fun σ H Q => ∃ H0 M0 τ tv ρ, Cfg K H0 M0 H σ τ tv ρ ∧ RunB K W H0 M0 τ tv σ ρ H as Q (evs as ρ)
structure VR (X : Cx) (W : WX) (es : List Expr) (as : List Ar) : Prop where
  pa : PA X es (tVb X.K W as)
section
variable {X : Cx} {W : WX} {e : Expr} {es : List Expr} {m : M} {as : List Ar} {pos : Pos}
theorem vr_nil : VR X W [] [] := ⟨pa_nil.weak fun σ H Q ⟨H0, M0, τ, tv, ρ, c, r⟩ => r [] [] H rfl .nil (by simpa [kp] using c) fun _ => Same.refl _⟩
theorem vr_ev (h : VE X W e m) (hs : VR X W es as) (hst : starEach (e :: es) X.env = (false, eval e X.env) :: starEach es X.env := by rfl) : VR X W (e :: es) (.ev m :: as) := by
  refine ⟨(pa_cons h.pe hs.pa hst).weak fun σ H Q ⟨H0, M0, τ, tv, ρ, c, r⟩ => ?_⟩
  refine ⟨H0, M0, τ, tv, ρ, c, ?_⟩
  unfold evs aCons at r
  cases h1 : m ρ with
  | st => simp only [h1] at r; exact r
  | ex C pl p => simp only [h1] at r; exact r
  | ok e1 p =>
    simp only [h1] at r
    intro v H1 c1 s1
    refine ⟨H0, M0, _, _, _, c1, ?_⟩
    cases h2 : evs as (p.getD ρ) with
    | st => simp only [h2] at r; exact r
    | ex C pl q =>
      simp only [h2] at r
      exact RunX.seq r
    | ok es1 q =>
      simp only [h2] at r
      intro us vs H2 hl mx c2 s2
      refine r (v :: us) (v :: vs) H2 (by simp [hl]) (.ev mx) ?_ (por_same s1 s2)
      rw [kp_app, kp_por, kp_one, getD_por, List.append_assoc, List.append_assoc] at c2
      exact c2
theorem vr_ref {i : Nat} {x : Str} (hN : X.N[i]? = some x) (hv : Vis X.env.scope x) (hs : VR X W es as) (hd : (x == ("__debug__" : Str)) = false := by decide) (hcd : (x == ("__classdict__" : Str)) = false := by decide)
    (hst : starEach (.Name x pos :: es) X.env = (false, eval (.Name x pos) X.env) :: starEach es X.env := by rfl) : VR X W (.Name x pos :: es) (.ref i :: as) := by
  refine ⟨(pa_cons (pe_var hN hv hd hcd) hs.pa hst).weak fun σ H Q ⟨H0, M0, τ, tv, ρ, c, r⟩ => ?_⟩
  have key : ∃ v, σ[i]? = some (some v) ∧ RunB X.K W H0 M0 τ tv σ ρ H (.ref i :: as) Q (evs as ρ) := by
    obtain ⟨zs, l, sl, _⟩ := c.ex
    cases h : ρ[i]? with
    | none => simp only [evs, h] at r; exact r.elim
    | some e1 =>
      cases e1 with
      | x => simp only [evs, h] at r; exact r.elim
      | b d => simp only [evs, h] at r; exact r.elim
      | o s d =>
        simp only [evs, h] at r
        obtain ⟨v, hv⟩ := sl.at_ i _ h (by intro z; cases z)
        exact ⟨v, hv, r⟩
      | p s d =>
        simp only [evs, h] at r
        obtain ⟨v, hv⟩ := sl.at_ i _ h (by intro z; cases z)
        exact ⟨v, hv, r⟩
  obtain ⟨v, hv, r'⟩ := key
  refine ⟨v, hv, H0, M0, τ, tv, ρ, c, ?_⟩
  cases h2 : evs as ρ with
  | st => rw [h2] at r'; exact r'
  | ex C pl q => rw [h2] at r'; exact r'
  | ok es1 q =>
    rw [h2] at r'
    exact fun us vs H2 hl mx c2 s2 => r' us (v :: vs) H2 hl (.ref hv mx) c2 s2
end

/-! ### the arguments in the parameters' order; back into their slots -/
def outE : List Ar → List E → Rho → Option (List E × Rho)
  | [], [], ρ => some ([], ρ)
  | .ev _ :: as, e :: es, ρ => (match outE as es ρ with | some (a, r) => some (e :: a, r) | none => none)
  | .ref i :: as, es, ρ => (match ρ[i]? with
    | some (.o s d) => (match outE as es (ρ.set i .x) with | some (a, r) => some (.o s d :: a, r) | none => none)
    | some (.p s d) => (match outE as es (ρ.set i .x) with | some (a, r) => some (.o s d :: a, r) | none => none)
    | _ => none)
  | _, _, _ => none
def backE : List Ar → Rho → List E → Rho → Rho
  | .ev _ :: as, ρ1, _ :: es, ρ => backE as ρ1 es ρ
  | .ref i :: as, ρ1, .o s d :: es, ρ => backE as ρ1 es (ρ.set i (if isP (ρ1.getD i .x) = true then .p s d else .o s d))
  | .ref _ :: as, ρ1, _ :: es, ρ => backE as ρ1 es ρ
  | _, _, _, ρ => ρ
section
variable {K : PySem.W.Frag} {H0 H : Hp} {M0 : Bs} {σ : L2.St}
theorem Cfg.outE : ∀ {as : List Ar} {es : List E} {ρ : Rho} {args : List E} {ρb : Rho} {τ : List E} {tv us vs : List V}, Cfg K H0 M0 H σ (τ ++ es) (tv ++ us) ρ → tv.length = τ.length → us.length = es.length → Mix σ as us vs → LP.outE as es ρ = some (args, ρb) →
    Cfg K H0 M0 H σ (τ ++ args) (tv ++ vs) ρb ∧ vs.length = args.length
  | [], [], ρ, args, ρb, τ, tv, us, vs, c, hl, hu, mx, h => by
    cases h
    cases mx
    exact ⟨c, rfl⟩
  | [], _ :: _, _, _, _, _, _, _, _, _, _, _, _, h => by simp [LP.outE] at h
  | .ev m :: as, [], _, _, _, _, _, _, _, _, _, _, _, h => by simp [LP.outE] at h
  | .ev m :: as, e :: es, ρ, args, ρb, τ, tv, us, vs, c, hl, hu, mx, h => by
    cases mx with
    | @ev _ _ u us' vs' mx' =>
      simp only [LP.outE] at h
      cases h1 : LP.outE as es ρ with
      | none => rw [h1] at h; cases h
      | some ar =>
        obtain ⟨a, r⟩ := ar
        rw [h1] at h
        cases h
        have c' : Cfg K H0 M0 H σ ((τ ++ [e]) ++ es) ((tv ++ [u]) ++ us') ρ := by simpa using c
        obtain ⟨q1, q2⟩ := Cfg.outE c' (by simp [hl]) (by simpa using hu) mx' h1
        exact ⟨by simpa using q1, by simp [q2]⟩
  | .ref i :: as, es, ρ, args, ρb, τ, tv, us, vs, c, hl, hu, mx, h => by
    cases mx with
    | @ref _ _ v us' vs' hv mx' =>
      have go : ∀ s d, (ρ[i]? = some (.o s d) ∨ ρ[i]? = some (.p s d)) → (match LP.outE as es (ρ.set i .x) with | some (a, r) => some (E.o s d :: a, r) | none => none) = some (args, ρb) → Cfg K H0 M0 H σ (τ ++ args) (tv ++ (v :: vs')) ρb ∧ (v :: vs').length = args.length := by
        intro s d hi h
        cases h1 : LP.outE as es (ρ.set i .x) with
        | none => rw [h1] at h; cases h
        | some ar =>
          obtain ⟨a, r⟩ := ar
          rw [h1] at h
          cases h
          obtain ⟨w, hw, c'⟩ := c.outAt hl hi
          rw [hv] at hw; cases hw
          obtain ⟨q1, q2⟩ := Cfg.outE c' (by simp [hl]) hu mx' h1
          exact ⟨by simpa using q1, by simp [q2]⟩
      simp only [LP.outE] at h
      cases hi : ρ[i]? with
      | none => simp only [hi] at h; cases h
      | some e1 =>
        cases e1 with
        | x => simp only [hi] at h; cases h
        | b d => simp only [hi] at h; cases h
        | o s d => simp only [hi] at h; exact go s d (.inl hi) h
        | p s d => simp only [hi] at h; exact go s d (.inr hi) h
theorem Cfg.backE {ρ1 : Rho} (hp : ∀ (i : Nat), isP (ρ1.getD i .x) = true → σ[i]? = M0.st[i]?) : ∀ {as : List Ar} {args es : List E} {ρ : Rho} {τ : List E} {tv us vs ws : List V}, Cfg K H0 M0 H σ (τ ++ (args ++ es)) (tv ++ (vs ++ us)) ρ → tv.length = τ.length → vs.length = args.length → Mix σ as ws vs →
    Cfg K H0 M0 H σ (τ ++ es) (tv ++ us) (LP.backE as ρ1 args ρ)
  | [], [], es, ρ, τ, tv, us, vs, ws, c, hl, hv, mx => by
    cases mx
    simpa [LP.backE] using c
  | [], _ :: _, _, _, _, _, _, _, _, _, _, hv, mx => by cases mx; simp at hv
  | .ev m :: as, [], es, ρ, τ, tv, us, vs, ws, c, hl, hv, mx => by cases mx; simp at hv
  | .ref i :: as, [], es, ρ, τ, tv, us, vs, ws, c, hl, hv, mx => by cases mx; simp at hv
  | .ev m :: as, a :: args, es, ρ, τ, tv, us, vs, ws, c, hl, hv, mx => by
    cases mx with
    | @ev _ _ u us' vs' mx' =>
      have c' := c.dropAt hl
      have := Cfg.backE hp (ρ := ρ) c' hl (by simpa using hv) mx'
      simpa [LP.backE] using this
  | .ref i :: as, a :: args, es, ρ, τ, tv, us, vs, ws, c, hl, hv, mx => by
    cases mx with
    | @ref _ _ v us' vs' hs mx' =>
      have hi : i < ρ.length := by
        rw [← c.slen]
        exact (List.getElem?_eq_some_iff.mp hs).1
      cases a with
      | o s d =>
        have c' := c.backAt (isP (ρ1.getD i .x)) hl hi hs (hp i)
        have := Cfg.backE hp c' hl (by simpa using hv) mx'
        simpa [LP.backE] using this
      | x =>
        have := Cfg.backE hp (c.dropAt hl) hl (by simpa using hv) mx'
        simpa [LP.backE] using this
      | b d =>
        have := Cfg.backE hp (c.dropAt hl) hl (by simpa using hv) mx'
        simpa [LP.backE] using this
      | p s d =>
        have := Cfg.backE hp (c.dropAt hl) hl (by simpa using hv) mx'
        simpa [LP.backE] using this
theorem Cfg.dropMid : ∀ {a es : List E} {τ : List E} {tv us vs : List V} {ρ : Rho}, Cfg K H0 M0 H σ (τ ++ (a ++ es)) (tv ++ (vs ++ us)) ρ → tv.length = τ.length → vs.length = a.length → Cfg K H0 M0 H σ (τ ++ es) (tv ++ us) ρ
  | [], es, τ, tv, us, [], ρ, c, _, _ => by simpa using c
  | [], _, _, _, _, _ :: _, _, _, _, h => by simp at h
  | _ :: _, _, _, _, _, [], _, _, _, h => by simp at h
  | e :: a, es, τ, tv, us, v :: vs, ρ, c, h1, h2 => Cfg.dropMid (c.dropAt h1) h1 (by simpa using h2)
theorem Mix.len {as : List Ar} {us vs : List V} (m : Mix σ as us vs) : vs.length = as.length := by
  induction m <;> simp_all
end

/-! ### calls -/
def frz : List E → Option (List E)
  | [] => some []
  | .o _ d :: es => (match frz es with | some r => some (.o .v d :: r) | none => none)
  | .b d :: es => (match frz es with | some r => some (.o .v d :: r) | none => none)
  | _ :: _ => none
/-- f(a, ..), nothing handed in is changed -/
def mCall (m : List E → FO) (ms : Rho → AO) : M := fun ρ => match ms ρ with
  | .ok es p => (match frz es with
    | some cs => (match m cs with
      | .rt e _ => .ok e p
      | .ex C pl _ => .ex C pl p
      | .st => .st)
    | none => .st)
  | .ex C pl p => .ex C pl p
  | .st => .st
/-- f(a, ..), mt: the parameters that may be changed -/
def mCallM (mt : List Bool) (m : List E → FO) (as : List Ar) : M := fun ρ => match evs as ρ with
  | .ok es p => (match outE as es (p.getD ρ) with
    | some (args, ρb) => (match cvt true mt args with
      | some cs => (match m cs with
        | .rt e es' => .ok e (some (backE as (p.getD ρ) (mrg es' ((rdEs mt args).map kill)) (ρb.map kill)))
        | .ex C pl es' => .ex C pl (some (backE as (p.getD ρ) (mrg es' ((rdEs mt args).map kill)) (ρb.map kill)))
        | .st => .st)
      | none => .st)
    | none => .st)
  | .ex C pl p => .ex C pl p
  | .st => .st
theorem frz_cvt : ∀ {es cs : List E}, frz es = some cs → cvt false (List.replicate es.length false) es = some cs
  | [], cs, h => by cases h; rfl
  | .x :: _, _, h => by simp [frz] at h
  | .p _ _ :: _, _, h => by simp [frz] at h
  | .o s d :: es, cs, h => by
    simp only [frz] at h
    cases h1 : frz es with
    | none => rw [h1] at h; cases h
    | some r =>
      rw [h1] at h; cases h
      simp [List.replicate_succ, cvt, cvt1, frz_cvt h1]
  | .b d :: es, cs, h => by
    simp only [frz] at h
    cases h1 : frz es with
    | none => rw [h1] at h; cases h
    | some r =>
      rw [h1] at h; cases h
      simp [List.replicate_succ, cvt, cvt1, frz_cvt h1]
theorem any_rep : ∀ n : Nat, (List.replicate n false).any id = false
  | 0 => rfl
  | n + 1 => by rw [List.replicate_succ, List.any_cons, any_rep n]; rfl
section
variable {K : PySem.W.Frag} {W : WX} {H0 H : Hp} {M0 : Bs} {σ : L2.St} {ρ : Rho} {τ : List E} {tv : List V} {n : Nat} {m : List E → FO}
/-- arguments evaluated, nothing changed -/
theorem run_callA {ms : Rho → AO} {Q : VK} (c : Cfg K H0 M0 H σ τ tv ρ) (r : Run K W H0 M0 τ tv σ ρ H Q (mCall m ms ρ)) (hn : ∀ es p, ms ρ = .ok es p → es.length = n) : RunA K W H0 M0 τ tv σ ρ H (fun vs H1 => SpV K n m vs H1 Q (fun cls d H' => W cls d σ H')) (ms ρ) := by
  unfold mCall at r
  cases h1 : ms ρ with
  | st => rw [h1] at r; exact r
  | ex C pl p => rw [h1] at r; exact r
  | ok es p =>
    rw [h1] at r
    intro vs H1 hl c1 s1
    simp only at r
    cases h2 : frz es with
    | none => rw [h2] at r; exact r.elim
    | some cs =>
      rw [h2] at r
      simp only at r
      have hl0 : tv.length = (kp p τ).length := by rw [kp_length]; exact c.len
      have hmrg : ∀ (es' : List E) (e : List E) (ve : List V) (H' : Hp), Cfg K H0 M0 H' σ (kp p τ ++ (mrg es' (rdEs (List.replicate es.length false) es) ++ e)) (tv ++ (vs ++ ve)) (p.getD ρ) → ve.length = e.length → Cfg K H0 M0 H' σ (kp p τ ++ e) (tv ++ ve) (p.getD ρ) := fun es' e ve H' c2 he => by
        have hl1 := c2.len
        refine c2.dropMid hl0 ?_
        simp at hl1
        omega
      refine call_core (mt := List.replicate es.length false) c1 hl0 (hl.trans (hn es p h1)) (by rw [any_rep]; exact frz_cvt h2) ?_
      rw [any_rep]
      cases h3 : m cs with
      | st => rw [h3] at r; exact r
      | rt e es' =>
        rw [h3] at r
        intro v H' ho s2 c2
        refine r v H' (hmrg es' [e] [v] H' ?_ rfl) fun hp => (s1 hp).trans (s2 rfl)
        simpa [km] using c2
      | ex C pl es' =>
        rw [h3] at r
        intro dO H' c2 pay
        refine r dO H' ?_ pay
        have := hmrg es' [] [] H' (by simpa [km] using c2) rfl
        simpa using this
/-- .. something changed -/
theorem run_callMB {mt : List Bool} {as : List Ar} {Q : VK} (c : Cfg K H0 M0 H σ τ tv ρ) (r : Run K W H0 M0 τ tv σ ρ H Q (mCallM mt m as ρ)) (hn : as.length = n) (ha : mt.any id = true) : RunB K W H0 M0 τ tv σ ρ H as (fun vs H1 => SpV K n m vs H1 Q (fun cls d H' => W cls d σ H')) (evs as ρ) := by
  unfold mCallM at r
  cases h1 : evs as ρ with
  | st => rw [h1] at r; exact r
  | ex C pl p => rw [h1] at r; exact r
  | ok es p =>
    rw [h1] at r
    intro us vs H1 hl mx c1 s1
    simp only at r
    cases h2 : outE as es (p.getD ρ) with
    | none => rw [h2] at r; exact r.elim
    | some ar =>
      obtain ⟨args, ρb⟩ := ar
      rw [h2] at r
      simp only at r
      have hl0 : tv.length = (kp p τ).length := by rw [kp_length]; exact c.len
      obtain ⟨c2, hla⟩ := c1.outE hl0 hl mx h2
      cases h3 : cvt true mt args with
      | none => rw [h3] at r; exact r.elim
      | some cs =>
        rw [h3] at r
        simp only at r
        have hpin : ∀ (i : Nat), isP ((p.getD ρ).getD i .x) = true → σ[i]? = M0.st[i]? := fun i hi => by
          obtain ⟨zs, l, sl, _⟩ := c1.ex
          cases hq : (p.getD ρ)[i]? with
          | none => rw [List.getD_eq_getElem?_getD, hq] at hi; cases hi
          | some e0 =>
            rw [List.getD_eq_getElem?_getD, hq] at hi
            cases e0 with
            | p s d => exact sl.pin i s d hq
            | x => cases hi
            | b d => cases hi
            | o s d => cases hi
        have hkk : (kp p τ).map kill = kp (some ρ) τ := by cases p <;> first | rfl | exact map_kill_kill τ
        refine call_core (mt := mt) c2 hl0 (mx.len.trans hn) (by rw [ha]; exact h3) ?_
        rw [ha]
        cases h4 : m cs with
        | st => rw [h4] at r; exact r
        | rt e es' =>
          rw [h4] at r
          intro v H' ho _ c3
          have c4 : Cfg K H0 M0 H' σ (kp (some ρ) τ ++ (mrg es' ((rdEs mt args).map kill) ++ [e])) (tv ++ (vs ++ [v])) (ρb.map kill) := by
            rw [← hkk]
            simpa [km] using c3
          have hl1 := c4.len
          refine r v H' (c4.backE hpin (by rw [kp_length]; exact c.len) ?_ mx) fun z => nomatch z
          simp [kp_length] at hl1
          have := c.len
          omega
        | ex C pl es' =>
          rw [h4] at r
          intro dO H' c3 pay
          have c4 : Cfg K H0 M0 H' σ (kp (some ρ) τ ++ (mrg es' ((rdEs mt args).map kill) ++ [])) (tv ++ (vs ++ [])) (ρb.map kill) := by
            rw [← hkk]
            simpa [km] using c3
          have hl1 := c4.len
          refine r dO H' ?_ pay
          have := c4.backE hpin (by rw [kp_length]; exact c.len) (by
            simp [kp_length] at hl1
            have := c.len
            omega) mx
          rw [List.append_nil, List.append_nil] at this
          exact this
theorem run_call {ms : Rho → AO} {Q : VK} (c : Cfg K H0 M0 H σ τ tv ρ) (r : Run K W H0 M0 τ tv σ ρ H Q (mCall m ms ρ)) (hn : ∀ es p, ms ρ = .ok es p → es.length = n) : tVa K W ms σ H fun vs H1 => SpV K n m vs H1 Q (fun cls d H' => W cls d σ H') :=
  ⟨H0, M0, τ, tv, ρ, c, run_callA c r hn⟩
theorem run_callM {mt : List Bool} {as : List Ar} {Q : VK} (c : Cfg K H0 M0 H σ τ tv ρ) (r : Run K W H0 M0 τ tv σ ρ H Q (mCallM mt m as ρ)) (hn : as.length = n) (ha : mt.any id = true) : tVb K W as σ H fun vs H1 => SpV K n m vs H1 Q (fun cls d H' => W cls d σ H') :=
  ⟨H0, M0, τ, tv, ρ, c, run_callMB c r hn ha⟩
end
section
variable {X : Cx} {W : WX} {k n : Nat} {f : Addr} {fd : FuncData} {ps : List Str} {m : List E → FO} {x : Str} {p pos : Pos} {e : Expr} {es : List Expr} {ms : Rho → AO} {as : List Ar}
theorem aLen {l : List M} : ∀ {ρ : Rho} {es : List E} {p : Option Rho}, (l.foldr aCons aNil) ρ = .ok es p → es.length = l.length := by
  induction l with
  | nil => intro ρ es p h; cases h; rfl
  | cons m l ih =>
    intro ρ es p h
    rw [List.foldr_cons] at h
    rw [List.length_cons]
    revert h
    generalize l.foldr aCons aNil = ms at ih
    intro h
    unfold aCons at h
    cases h1 : m ρ with
    | st => simp only [h1] at h; cases h
    | ex C pl q => simp only [h1] at h; cases h
    | ok e q =>
      simp only [h1] at h
      cases h2 : ms (q.getD ρ) with
      | st => simp only [h2] at h; cases h
      | ex C pl q' => simp only [h2] at h; cases h
      | ok es' q' =>
        simp only [h2] at h
        cases h
        simp [ih h2]
/-- f(e, ..), f a def of the text that changes nothing -/
theorem ve_call {l : List M} (F : FnOk X.prog X.w X.K X.mg X.base (L2.CX X.prog X.w) k f fd ps (SpV X.K n m)) (hr : Room k X.A) (hg : Gl X x) (hm : X.mg x = some (.ref f)) (hk : PySem.W.keepIn X.K (.ref f) = true) (hb : Binds X.K fd ps []) (tk : Takes X W)
    (ha : VA X W (e :: es) (l.foldr aCons aNil)) (hn : l.length = n := by rfl) (hdb : (x == ("__debug__" : Str)) = false := by decide) (he : starEach (e :: es) X.env = (false, eval e X.env) :: starEach es X.env := by rfl) (hpl : (backTo pos (starEach es X.env)).any (·.1) = false := by rfl) :
    VE X W (.Call (.Name x p) (e :: es) [] pos) (mCall m (l.foldr aCons aNil)) :=
  ⟨(pe_callS F hr hg hm hk hb (fun σ => passAt tk σ) ha.pa hdb he hpl).weak fun σ H Q ⟨H0, M0, τ, tv, ρ, c, r⟩ => run_call c r fun es p h => (aLen h).trans hn⟩
theorem ve_callM {mt : List Bool} (F : FnOk X.prog X.w X.K X.mg X.base (L2.CX X.prog X.w) k f fd ps (SpV X.K n m)) (hr : Room k X.A) (hg : Gl X x) (hm : X.mg x = some (.ref f)) (hk : PySem.W.keepIn X.K (.ref f) = true) (hb : Binds X.K fd ps []) (tk : Takes X W)
    (ha : VR X W (e :: es) as) (hn : as.length = n := by rfl) (hmt : mt.any id = true := by rfl) (hdb : (x == ("__debug__" : Str)) = false := by decide) (he : starEach (e :: es) X.env = (false, eval e X.env) :: starEach es X.env := by rfl) (hpl : (backTo pos (starEach es X.env)).any (·.1) = false := by rfl) :
    VE X W (.Call (.Name x p) (e :: es) [] pos) (mCallM mt m as) :=
  ⟨(pe_callS F hr hg hm hk hb (fun σ => passAt tk σ) ha.pa hdb he hpl).weak fun σ H Q ⟨H0, M0, τ, tv, ρ, c, r⟩ => run_callM c r hn hmt⟩
end
end LP
end
section
/-! LP, part h: operations that make new objects or hand on parts; displays. -/
namespace LP
open PySem PySem.Spec PyProof.Rows L2

/-- the state with its owned places told -/
structure CfgZ (K : PySem.W.Frag) (H0 : Hp) (M0 : Bs) (H : Hp) (σ : L2.St) (τ : List E) (tv : List V) (ρ : List E) (zs : List Addr) : Prop where
  len : tv.length = τ.length
  sl : Slots M0.st σ ρ
  ents : Ents K (hid H zs) H (τ ++ ρ) (tv ++ vals σ) zs
  once : Once zs
  old : ∀ z ∈ zs, H0 z = none ∨ z ∈ M0.ms
  frame : ∀ a o, H0 a = some o → a ∉ M0.ms → H a = some o
  gone : ∀ a, H a = none → H0 a = none
/-- entries as sources: frozen (or temporary) ones are read without what is owned -/
inductive FrL (K : PySem.W.Frag) (zs : List Addr) (H : Hp) : List E → List V → Prop
  | nil : FrL K zs H [] []
  | x {v es vs} : FrL K zs H es vs → FrL K zs H (.x :: es) (v :: vs)
  | b {v d es vs} : Rp K H [v] [d] → FrL K zs H es vs → FrL K zs H (.b d :: es) (v :: vs)
  | o {v s d es vs} : Rp K (hid H zs) [v] [d] → FrL K zs H es vs → FrL K zs H (.o s d :: es) (v :: vs)
  | p {v s d es vs} : Rp K H [v] [d] → FrL K zs H es vs → FrL K zs H (.p s d :: es) (v :: vs)
section
variable {K : PySem.W.Frag} {H0 H H' G : Hp} {M0 : Bs} {σ : L2.St} {τ es ρ : List E} {tv us ws vs : List V} {e : E} {v : V} {d : D} {xs : List D} {s : Sh} {zs : List Addr}
theorem CfgZ.cfg (c : CfgZ K H0 M0 H σ τ tv ρ zs) : Cfg K H0 M0 H σ τ tv ρ := ⟨⟨zs, c.len, c.sl, c.ents, c.once, c.old⟩, c.frame, c.gone⟩
theorem Cfg.z (c : Cfg K H0 M0 H σ τ tv ρ) : ∃ zs, CfgZ K H0 M0 H σ τ tv ρ zs := let ⟨⟨zs, a, b, c', d, e⟩, f, g⟩ := c; ⟨zs, a, b, c', d, e, f, g⟩
theorem CfgZ.mine (c : CfgZ K H0 M0 H σ τ tv ρ zs) : ∀ z ∈ zs, Mine (H z) := c.ents.mine
theorem Ents.frl {ws zs : List Addr} (hw : ∀ a ∈ ws, a ∈ zs) : ∀ {es : List E} {us : List V} {ze : List Addr}, Ents K (hid H zs) H es us ze → (∀ a ∈ ze, a ∉ ws) → FrL K ws H es us := by
  intro es us ze r
  induction r with
  | nil => intro _; exact .nil
  | x _ ih => exact fun h => .x (ih h)
  | b q _ ih => exact fun h => .b q (ih h)
  | o q _ ih => exact fun h => .o (q.freeze hw fun a m => h a (List.mem_append_left _ m)) (ih fun a m => h a (List.mem_append_right _ m))
  | p q _ ih => exact fun h => .p (q.rp (hid_sub _ _)) (ih fun a m => h a (List.mem_append_right _ m))
/-- the last temps are opened -/
theorem Cfg.open_ (c : Cfg K H0 M0 H σ (τ ++ es) (tv ++ us) ρ) (h : us.length = es.length) : ∃ zs, CfgZ K H0 M0 H σ τ tv ρ zs ∧ FrL K zs H es us := by
  obtain ⟨⟨zs, l, sl, r, n, f⟩, fr, go⟩ := c
  have l' : tv.length = τ.length := by simp at l; omega
  rw [List.append_assoc, List.append_assoc] at r
  obtain ⟨za, zb, e1, ra, rb⟩ := r.split l'.symm
  obtain ⟨zc, zd, e2, rc, rd⟩ := rb.split h.symm
  subst e1 e2
  have hsub : ∀ a ∈ za ++ zd, a ∈ za ++ (zc ++ zd) := fun a m => by
    simp only [List.mem_append] at m ⊢
    rcases m with m | m
    · exact .inl m
    · exact .inr (.inr m)
  refine ⟨za ++ zd, ⟨l', sl, (ra.app rd).grow (hid_le hsub) fun _ _ q => q, fun a => ?_, fun z m => f z (hsub z m), fr, go⟩, rc.frl hsub fun a m q => ?_⟩
  · have := n a
    simp only [List.count_append] at this ⊢
    omega
  · have h0 := n a
    simp only [List.count_append] at h0
    have h1 := List.count_pos_iff.mpr m
    rcases List.mem_append.mp q with q | q
    · have := List.count_pos_iff.mpr q; omega
    · have := List.count_pos_iff.mpr q; omega
theorem CfgZ.pushV (c : CfgZ K H0 M0 H σ τ tv ρ zs) (h : Rp K (hid H zs) [v] [d]) : Cfg K H0 M0 H σ (τ ++ [.o .v d]) (tv ++ [v]) ρ := by
  obtain ⟨za, zb, e1, ra, rb⟩ := c.ents.split c.len.symm
  refine Cfg.re (zs := zs) (zs' := za ++ zb) c.once c.old c.frame c.gone (by simp [c.len]) c.sl ?_ fun a => by rw [e1]; exact Nat.le_refl _
  have := ra.app ((Own.v h Own.nil).ent.app rb)
  simpa using this
theorem same_new {p : Addr} {o : HO} (h : H p = none) : Same H (upd H p o) := fun b x e => by
  rw [upd_ne (ne_of_none e h)]
  exact e
/-- a new list of frozen items -/
theorem CfgZ.newL {p : Addr} (c : CfgZ K H0 M0 H σ τ tv ρ zs) (hp : H p = none) (h : Rp K (hid H zs) us xs) : Cfg K H0 M0 (upd H p (.lst us)) σ (τ ++ [.o (.l .v) (.lst xs)]) (tv ++ [.ref p]) ρ := by
  obtain ⟨za, zb, e1, ra, rb⟩ := c.ents.split c.len.symm
  have sm : Same H (upd H p (.lst us)) := same_new hp
  have np : p ∉ zs := fun m => by
    have := c.mine p m
    rw [hp] at this
    exact this
  have sg : Same (hid H zs) (hid (upd H p (.lst us)) (p :: zs)) := fun a o q => by
    obtain ⟨q1, q2⟩ := hid_some q
    have hne : a ≠ p := ne_of_none q2 hp
    rw [hid_out (by simp [hne, q1]), upd_ne hne]
    exact q2
  have own : Own K (hid (upd H p (.lst us)) (p :: zs)) (upd H p (.lst us)) [.l .v] [.ref p] [.lst xs] [p] := by
    have it : ∀ {ws : List V} {ys : List D}, Rp K (hid H zs) ws ys → Own K (hid (upd H p (.lst us)) (p :: zs)) (upd H p (.lst us)) (ws.map fun _ => Sh.v) ws ys [] := by
      intro ws
      induction ws with
      | nil => intro ys r; cases r; exact .nil
      | cons w ws ih =>
        intro ys r
        obtain ⟨y, ys', rfl, r1, r2⟩ := r.consv
        exact .v (r1.same sg) (ih r2)
    simpa using Own.l (upd_same (H := H) (a := p) (o := .lst us)) (it h) Own.nil
  refine ⟨⟨za ++ ([p] ++ zb), by simp [c.len], c.sl, ?_, fun a => ?_, fun z m => ?_⟩, fun a o h1 h2 => sm a o (c.frame a o h1 h2), fun a q => c.gone a (sm.free q)⟩
  · have hm : ∀ a, a ∈ za ++ ([p] ++ zb) ↔ a ∈ p :: zs := fun a => by
      rw [e1]
      simp only [List.mem_append, List.mem_cons, List.not_mem_nil, or_false]
      exact ⟨fun q => q.elim (fun q => .inr (.inl q)) fun q => q.elim .inl fun q => .inr (.inr q), fun q => q.elim (fun q => .inr (.inl q)) fun q => q.elim .inl fun q => .inr (.inr q)⟩
    have hg : Same (hid (upd H p (.lst us)) (p :: zs)) (hid (upd H p (.lst us)) (za ++ ([p] ++ zb))) := hid_le fun a m => (hm a).mp m
    have q := (ra.grow (fun a o q => hg a o (sg a o q)) sm).app ((own.step hg fun _ _ _ q => q).ent.app (rb.grow (fun a o q => hg a o (sg a o q)) sm))
    simpa using q
  · have h1 := c.once a
    rw [e1, List.count_append] at h1
    simp only [List.count_append, List.count_cons, List.count_nil]
    by_cases hap : p = a
    · subst hap
      have h2 : zs.count p = 0 := List.count_eq_zero.mpr np
      rw [e1, List.count_append] at h2
      simp
      omega
    · simp [hap]
      omega
  · simp only [List.mem_append, List.mem_cons, List.not_mem_nil, or_false] at m
    rcases m with m | m | m
    · exact c.old z (by rw [e1]; exact List.mem_append_left _ m)
    · subst m; exact .inl (c.gone z hp)
    · exact c.old z (by rw [e1]; exact List.mem_append_right _ m)
/-- a new tuple of frozen items -/
theorem CfgZ.newT {p : Addr} (c : CfgZ K H0 M0 H σ τ tv ρ zs) (hp : H p = none) (h : Rp K (hid H zs) us xs) : Cfg K H0 M0 (upd H p (.tup us)) σ (τ ++ [.o .v (.tup xs)]) (tv ++ [.ref p]) ρ := by
  have sm : Same H (upd H p (.tup us)) := same_new hp
  have sg := hid_grow (zs := zs) sm
  have np : p ∉ zs := fun m => by
    have := c.mine p m
    rw [hp] at this
    exact this
  have c' : CfgZ K H0 M0 (upd H p (.tup us)) σ τ tv ρ zs := ⟨c.len, c.sl, c.ents.grow sg sm, c.once, c.old, fun a o h1 h2 => sm a o (c.frame a o h1 h2), fun a q => c.gone a (sm.free q)⟩
  exact c'.pushV (.tup (.inl (.inl ((hid_out np).trans upd_same))) (h.same sg) .nil)
theorem CfgZ.pushR (c : CfgZ K H0 M0 H σ τ tv ρ zs) (h : Rp K H [v] [d]) : Cfg K H0 M0 H σ (τ ++ [mkR d]) (tv ++ [v]) ρ := c.cfg.pushR h
end

/-! ### what an operation answers -/
inductive Rs where
  /-- a value that was there, frozen -/
  | f (d : D)
  /-- a value that was there, or a plain one -/
  | r (d : D)
  /-- a new list, a new tuple, of frozen items -/
  | nl (xs : List D)
  | nt (xs : List D)
  /-- a tuple of frozen items, new or not -/
  | t (xs : List D)
def resE : Rs → E
  | .f d => .o .v d
  | .r d => mkR d
  | .nl xs => .o (.l .v) (.lst xs)
  | .nt xs => .o .v (.tup xs)
  | .t xs => .o .v (.tup xs)
def Deliver (K : PySem.W.Frag) (zs : List Addr) (H : Hp) (Q : VK) : Rs → Prop
  | .f d => ∀ v, Rp K (hid H zs) [v] [d] → Q v H
  | .r d => ∀ v, Rp K H [v] [d] → Q v H
  | .nl xs => ∀ p us, H p = none → Rp K (hid H zs) us xs → Q (.ref p) (upd H p (.lst us))
  | .nt xs => ∀ p us, H p = none → Rp K (hid H zs) us xs → Q (.ref p) (upd H p (.tup us))
  | .t xs => (∀ v, Rp K (hid H zs) [v] [.tup xs] → Q v H) ∧ ∀ p us, H p = none → Rp K (hid H zs) us xs → Q (.ref p) (upd H p (.tup us))
/-- an operation on values answers f of the entries -/
def PureF (K : PySem.W.Frag) (r : List V → Hp → VK → Prop) (f : List E → Option Rs) : Prop :=
  ∀ (H : Hp) (zs : List Addr) (es : List E) (us : List V) (R : Rs) (Q : VK), (∀ z ∈ zs, Mine (H z)) → FrL K zs H es us → f es = some R → Deliver K zs H Q R → r us H Q
def mF (f : List E → Option Rs) (ms : Rho → AO) : M := fun ρ => match ms ρ with
  | .ok es p => (match f es with | some R => .ok (resE R) p | none => .st)
  | .ex C pl p => .ex C pl p
  | .st => .st
section
variable {K : PySem.W.Frag} {W : WX} {H0 H : Hp} {M0 : Bs} {σ : L2.St} {ρ : Rho} {τ : List E} {tv : List V}
theorem run_F {r : List V → Hp → VK → Prop} {f : List E → Option Rs} {ms : Rho → AO} {Q : VK} (hf : PureF K r f) (c : Cfg K H0 M0 H σ τ tv ρ) (q : Run K W H0 M0 τ tv σ ρ H Q (mF f ms ρ)) : tVa K W ms σ H fun us H1 => r us H1 Q := by
  refine ⟨H0, M0, τ, tv, ρ, c, ?_⟩
  unfold mF at q
  cases h : ms ρ with
  | st => rw [h] at q; exact q
  | ex C pl p => rw [h] at q; exact q
  | ok es p =>
    rw [h] at q
    intro us H1 hl c1 s1
    simp only at q
    cases h2 : f es with
    | none => rw [h2] at q; exact q.elim
    | some R =>
      rw [h2] at q
      obtain ⟨zs, cz, fl⟩ := c1.open_ hl
      refine hf H1 zs es us R Q cz.mine fl h2 ?_
      cases R with
      | f d => exact fun v rv => q v H1 (cz.pushV rv) s1
      | r d => exact fun v rv => q v H1 (cz.pushR rv) s1
      | nl xs => exact fun p us hp rv => q _ _ (cz.newL hp rv) fun z => (s1 z).trans (same_new hp)
      | nt xs => exact fun p us hp rv => q _ _ (cz.newT hp rv) fun z => (s1 z).trans (same_new hp)
      | t xs => exact ⟨fun v rv => q v H1 (cz.pushV rv) s1, fun p us hp rv => q _ _ (cz.newT hp rv) fun z => (s1 z).trans (same_new hp)⟩
end
section
variable {X : Cx} {W : WX} {e a b : Expr} {es : List Expr} {m ma mb : M} {ms : Rho → AO} {x : Str} {p pos : Pos} {id T : String} {r : List V → Hp → VK → Prop} {f : List E → Option Rs}
theorem ve_callB (hf : PureF X.K r f) (hc : CallR X (.builtin id) r) (hg : Gl X x) (hm : X.mg x = none) (hv : bootBuiltins x = some (.builtin id)) (ha : VA X W (e :: es) ms) (hn : x ≠ "__name__" := by decide) (hdb : (x == ("__debug__" : Str)) = false := by decide)
    (he : starEach (e :: es) X.env = (false, eval e X.env) :: starEach es X.env := by rfl) (hpl : (backTo pos (starEach es X.env)).any (·.1) = false := by rfl) : VE X W (.Call (.Name x p) (e :: es) [] pos) (mF f ms) :=
  ⟨(pe_callB hc hg hm hv ha.pa hn hdb he hpl).weak fun σ H Q ⟨H0, M0, τ, tv, ρ, c, q⟩ => run_F hf c q⟩
theorem ve_callTy (hf : PureF X.K r f) (hc : CallR X (.type T) r) (hg : Gl X x) (hm : X.mg x = none) (hv : bootBuiltins x = some (.type T)) (ha : VA X W (e :: es) ms) (hn : x ≠ "__name__" := by decide) (hdb : (x == ("__debug__" : Str)) = false := by decide)
    (he : starEach (e :: es) X.env = (false, eval e X.env) :: starEach es X.env := by rfl) (hpl : (backTo pos (starEach es X.env)).any (·.1) = false := by rfl) : VE X W (.Call (.Name x p) (e :: es) [] pos) (mF f ms) :=
  ⟨(pe_callTy hc hg hm hv ha.pa hn hdb he hpl).weak fun σ H Q ⟨H0, M0, τ, tv, ρ, c, q⟩ => run_F hf c q⟩
/-- two values -/
abbrev r2L (r : R2) : List V → Hp → VK → Prop := fun us H Q => ∃ x y, us = [x, y] ∧ r x y H Q
theorem run_F2 {K : PySem.W.Frag} {H0 H : Hp} {M0 : Bs} {σ : L2.St} {ρ : Rho} {τ : List E} {tv : List V} {r : R2} {f : List E → Option Rs} {Q : VK} (hf : PureF K (r2L r) f) (c : Cfg K H0 M0 H σ τ tv ρ) (q : Run K W H0 M0 τ tv σ ρ H Q (mF f (a2 ma mb) ρ)) :
    tV K W ma σ H fun x H1 => tV K W mb σ H1 fun y H2 => r x y H2 Q := by
  obtain ⟨H0', M0', τ', tv', ρ', c', r'⟩ := run_F hf c q
  refine run2 c' ?_
  cases h : a2 ma mb ρ' with
  | st => rw [h] at r'; exact r'
  | ex C pl p => rw [h] at r'; exact r'
  | ok es p =>
    rw [h] at r'
    intro us H' hl c2 s2 x y hxy
    obtain ⟨x', y', e1, q1⟩ := r' us H' hl c2 s2
    rw [hxy] at e1
    cases e1
    exact q1
theorem ve_opF {op : Operator} {r : R2} (hf : PureF X.K (r2L r) f) (ho : OpR X (binaryOp op) r) (ha : VE X W a ma) (hb : VE X W b mb) : VE X W (.BinOp a op b pos) (mF f (a2 ma mb)) :=
  ⟨(pe_op ho ha.pe hb.pe).weak fun σ H Q ⟨H0, M0, τ, tv, ρ, c, q⟩ => run_F2 hf c q⟩
theorem ve_ixF {r : R2} (hf : PureF X.K (r2L r) f) (ho : IxR X r) (ha : VE X W a ma) (hb : VE X W b mb) (hs : PlainIx b := by exact fun _ _ => rfl) : VE X W (.Subscript a b pos) (mF f (a2 ma mb)) :=
  ⟨(pe_ix ho ha.pe hb.pe hs).weak fun σ H Q ⟨H0, M0, τ, tv, ρ, c, q⟩ => run_F2 hf c q⟩
/-- displays -/
def rdAll : List E → Option (List D)
  | [] => some []
  | e :: es => match e.rd, rdAll es with | some d, some ds => some (d :: ds) | _, _ => none
def frAll : List E → Option (List D)
  | [] => some []
  | .o _ d :: es => (match frAll es with | some ds => some (d :: ds) | none => none)
  | _ :: _ => none
theorem FrL.fr {K : PySem.W.Frag} {zs : List Addr} {H : Hp} : ∀ {es : List E} {us : List V} {ds : List D}, FrL K zs H es us → frAll es = some ds → Rp K (hid H zs) us ds
  | [], _, _, .nil, h => by cases h; exact .nil
  | .x :: _, _, _, _, h => by simp [frAll] at h
  | .b _ :: _, _, _, _, h => by simp [frAll] at h
  | .p _ _ :: _, _, _, _, h => by simp [frAll] at h
  | .o s d :: es, _, _, .o r q, h => by
    simp only [frAll] at h
    cases h2 : frAll es with
    | none => rw [h2] at h; cases h
    | some ds =>
      rw [h2] at h; cases h
      exact r.cons1 (FrL.fr q h2)
def fTup (es : List E) : Option Rs := if es.length ≤ 1000 then (match frAll es with | some ds => some (.nt ds) | none => none) else none
def fLst (es : List E) : Option Rs := if es.length ≤ 1000 then (match frAll es with | some ds => some (.nl ds) | none => none) else none
theorem FrL.len {K : PySem.W.Frag} {zs : List Addr} {H : Hp} {es : List E} {us : List V} (h : FrL K zs H es us) : us.length = es.length := by
  induction h <;> simp_all
theorem small_line {n : Nat} (h : n ≤ 1000) : n ≤ sizeLine := Nat.le_trans h (by rw [sizeLine_eq]; decide)
theorem ve_tup {x1} (ha : VA X W es ms) : VE X W (.Tuple es x1 pos) (mF fTup ms) := by
  refine ⟨(pe_tup ha.pa).weak fun σ H Q ⟨H0, M0, τ, tv, ρ, c, q⟩ => ?_⟩
  refine run_F (r := fun us H1 Q => us.length ≤ sizeLine ∧ ∀ p, H1 p = none → Q (.ref p) (upd H1 p (.tup us))) (fun H zs es us R Q hm fl h dl => ?_) c q
  unfold fTup at h
  split at h
  · rename_i hl
    cases h2 : frAll es with
    | none => rw [h2] at h; cases h
    | some ds =>
      rw [h2] at h; cases h
      exact ⟨by rw [fl.len]; exact small_line hl, fun p hp => dl p us hp (fl.fr h2)⟩
  · cases h
theorem ve_lst (ha : VA X W es ms) : VE X W (.List es pos) (mF fLst ms) := by
  refine ⟨(pe_lst ha.pa).weak fun σ H Q ⟨H0, M0, τ, tv, ρ, c, q⟩ => ?_⟩
  refine run_F (r := fun us H1 Q => us.length ≤ sizeLine ∧ ∀ p, H1 p = none → Q (.ref p) (upd H1 p (.lst us))) (fun H zs es us R Q hm fl h dl => ?_) c q
  unfold fLst at h
  split at h
  · rename_i hl
    cases h2 : frAll es with
    | none => rw [h2] at h; cases h
    | some ds =>
      rw [h2] at h; cases h
      exact ⟨by rw [fl.len]; exact small_line hl, fun p hp => dl p us hp (fl.fr h2)⟩
  · cases h
end

/-! ### the items of an entry -/
def itm : E → Option (List D)
  | .o _ (.lst xs) => some xs
  | .o _ (.tup xs) => some xs
  | .o _ (.scr xs) => some xs
  | .b (.lst xs) => if imms xs = true then some xs else none
  | _ => none
/-- items, each as an entry's source: frozen or borrowed -/
theorem FrL.itm {K : PySem.W.Frag} {zs : List Addr} {H : Hp} {e : E} {es : List E} {us : List V} {xs : List D} (hm : ∀ z ∈ zs, Mine (H z)) (h : FrL K zs H (e :: es) us) (hi : LP.itm e = some xs) :
    ∃ a ws us', us = .ref a :: us' ∧ (SqL K H a ws ∨ SqT K H a ws) ∧ Rp K (hid H zs) ws xs ∧ FrL K zs H es us' := by
  cases h with
  | x h => cases hi
  | p r h => cases hi
  | @o v s d _ vs r h =>
    cases r with
    | tup q1 q2 _ => cases hi; exact ⟨_, _, _, rfl, .inr (sqT_same (hid_sub _ _) q1), q2, h⟩
    | lst q1 q2 _ => cases hi; exact ⟨_, _, _, rfl, .inl (SqL.of (hid_sub _ _ _ _ q1)), q2, h⟩
    | scr q1 q2 _ => cases hi; exact ⟨_, _, _, rfl, .inl (q1.same (hid_sub _ _)).sq, q2, h⟩
    | _ => cases hi
  | @b v d _ vs r h =>
    cases r with
    | lst q1 q2 _ =>
      simp only [LP.itm] at hi
      split at hi
      · rename_i him
        cases hi
        exact ⟨_, _, _, rfl, .inl (SqL.of q1), q2.immT him (kp_hid hm), h⟩
      · cases hi
    | _ => cases hi
theorem FrL.one {K : PySem.W.Frag} {zs : List Addr} {H : Hp} {us : List V} (h : FrL K zs H [] us) : us = [] := by cases h; rfl
end LP
end
section
/-! LP, part i: operators, subscripts, built-in functions. -/
namespace LP
open PySem PySem.Spec PyProof.Rows L2

section
variable {K : PySem.W.Frag} {zs : List Addr} {H : Hp} {e : E} {es : List E} {v : V} {us : List V} {d : D} {xs : List D}
theorem FrL.rd1 (h : FrL K zs H (e :: es) us) (hd : e.rd = some d) : ∃ v us', us = v :: us' ∧ Rp K H [v] [d] ∧ FrL K zs H es us' := by
  cases h with
  | x h => cases hd
  | b r h => cases hd; exact ⟨_, _, rfl, r, h⟩
  | o r h => cases hd; exact ⟨_, _, rfl, r.same (hid_sub _ _), h⟩
  | p r h => cases hd; exact ⟨_, _, rfl, r, h⟩
theorem FrL.lstIt (hm : ∀ z ∈ zs, Mine (H z)) (h : FrL K zs H (e :: es) us) (hd : e.rd = some (.lst xs)) (hi : LP.itm e = some xs) : ∃ a ws us', us = .ref a :: us' ∧ H a = some (.lst ws) ∧ Rp K (hid H zs) ws xs ∧ FrL K zs H es us' := by
  cases h with
  | x h => cases hd
  | p r h => cases hi
  | o r h =>
    cases hd
    cases r with
    | lst q1 q2 _ => exact ⟨_, _, _, rfl, hid_sub _ _ _ _ q1, q2, h⟩
  | b r h =>
    cases hd
    cases r with
    | lst q1 q2 _ =>
      simp only [LP.itm] at hi
      split at hi
      · rename_i him; exact ⟨_, _, _, rfl, q1, q2.immT him (kp_hid hm), h⟩
      · cases hi
theorem FrL.tupIt (h : FrL K zs H (e :: es) us) (hd : e.rd = some (.tup xs)) (hi : LP.itm e = some xs) : ∃ a ws us', us = .ref a :: us' ∧ SqT K (hid H zs) a ws ∧ Rp K (hid H zs) ws xs ∧ FrL K zs H es us' := by
  cases h with
  | x h => cases hd
  | p r h => cases hi
  | o r h =>
    cases hd
    cases r with
    | tup q1 q2 _ => exact ⟨_, _, _, rfl, q1, q2, h⟩
  | b r h => cases hd; cases hi
end

/-! ### + * - // % ** -/
def mulOk (i j : Int) : Bool := decide ((-(2 ^ 64) < i ∧ i < 2 ^ 64) ∨ (-(2 ^ 64) < j ∧ j < 2 ^ 64))
def fAdd (es : List E) : Option Rs := match es with
  | [e1, e2] => (match e1.rd, e2.rd with
    | some (.int i), some (.int j) => some (.r (.int (i + j)))
    | some (.lst xs), some (.lst ys) => (match itm e1, itm e2 with
      | some xs, some ys => if xs.length + ys.length ≤ 16777216 then some (.nl (xs ++ ys)) else none
      | _, _ => none)
    | some (.tup xs), some (.tup ys) => (match itm e1, itm e2 with
      | some xs, some ys => if xs.length + ys.length ≤ 16777216 then some (.t (xs ++ ys)) else none
      | _, _ => none)
    | _, _ => none)
  | _ => none
theorem op_addU {X : Cx} : OpR X (binaryOp .Add) (fun x y H Q => (rI0 fun i j => .int (i + j)) x y H Q ∨ rCat x y H Q ∨ rCatA X.K x y H Q) := OpR.or op_add (OpR.or op_cat op_catA)
theorem itm_lst {e : E} {xs ys : List D} (h : e.rd = some (.lst xs)) (h2 : itm e = some ys) : ys = xs := by
  cases e with
  | x => cases h
  | p _ _ => cases h2
  | o s d => cases h; cases h2; rfl
  | b d =>
    cases h
    simp only [itm] at h2
    split at h2
    · cases h2; rfl
    · cases h2
theorem itm_tup {e : E} {xs ys : List D} (h : e.rd = some (.tup xs)) (h2 : itm e = some ys) : ys = xs := by
  cases e with
  | x => cases h
  | p _ _ => cases h2
  | o s d => cases h; cases h2; rfl
  | b d => cases h; cases h2
theorem pf_add {K : PySem.W.Frag} : PureF K (r2L fun x y H Q => (rI0 fun i j => .int (i + j)) x y H Q ∨ rCat x y H Q ∨ rCatA K x y H Q) fAdd := by
  intro H zs es us R Q hm fl h dl
  match es, fl, h with
  | [], _, h => cases h
  | [_], _, h => cases h
  | _ :: _ :: _ :: _, _, h => cases h
  | [e1, e2], fl, h =>
    simp only [fAdd] at h
    split at h
    · rename_i i j h1 h2
      obtain ⟨v, us', rfl, r1, f1⟩ := fl.rd1 h1
      obtain ⟨w, us'', rfl, r2, f2⟩ := f1.rd1 h2
      have := f2.one
      subst this
      cases h
      exact ⟨v, w, rfl, .inl ⟨i, j, r1.int1, r2.int1, dl _ (.int _ .nil)⟩⟩
    · rename_i xs ys h1 h2
      cases h3 : itm e1 with
      | none => rw [h3] at h; cases h
      | some xs' =>
        cases h4 : itm e2 with
        | none => rw [h3, h4] at h; cases h
        | some ys' =>
          rw [h3, h4] at h
          obtain rfl := itm_lst h1 h3
          obtain rfl := itm_lst h2 h4
          simp only at h
          split at h
          · rename_i hl
            cases h
            obtain ⟨a, ws, us', rfl, q1, q2, f1⟩ := fl.lstIt hm h1 h3
            obtain ⟨b, ws2, us'', rfl, q3, q4, f2⟩ := f1.lstIt hm h2 h4
            have := f2.one
            subst this
            have l1 := q2.length
            have l2 := q4.length
            exact ⟨_, _, rfl, .inr (.inl ⟨a, b, ws, ws2, rfl, rfl, q1, q3, by rw [sizeLine_eq]; omega, fun p hp => dl p _ hp (q2.app q4)⟩)⟩
          · cases h
    · rename_i xs ys h1 h2
      cases h3 : itm e1 with
      | none => rw [h3] at h; cases h
      | some xs' =>
        cases h4 : itm e2 with
        | none => rw [h3, h4] at h; cases h
        | some ys' =>
          rw [h3, h4] at h
          obtain rfl := itm_tup h1 h3
          obtain rfl := itm_tup h2 h4
          simp only at h
          split at h
          · rename_i hl
            cases h
            obtain ⟨a, ws, us', rfl, q1, q2, f1⟩ := fl.tupIt h1 h3
            obtain ⟨b, ws2, us'', rfl, q3, q4, f2⟩ := f1.tupIt h2 h4
            have := f2.one
            subst this
            have l1 := q2.length
            have l2 := q4.length
            refine ⟨_, _, rfl, .inr (.inr ⟨a, b, ws, ws2, rfl, rfl, sqT_same (hid_sub _ _) q1, sqT_same (hid_sub _ _) q3, by rw [sizeLine_eq]; omega, fun e => ?_, fun _ e => ?_, fun _ _ p hp => dl.2 p _ hp (q2.app q4)⟩)⟩
            · refine dl.1 _ (.tup q3 ?_ .nil)
              have := q2.app q4
              rw [e] at this
              exact this
            · refine dl.1 _ (.tup q1 ?_ .nil)
              have := q2.app q4
              rw [e, List.append_nil] at this
              exact this
          · cases h
    · cases h
def fInt2 (c : Int → Int → Bool) (g : Int → Int → D) (es : List E) : Option Rs := match es with
  | [e1, e2] => (match e1.rd, e2.rd with
    | some (.int i), some (.int j) => if c i j = true then some (.r (g i j)) else none
    | _, _ => none)
  | _ => none
theorem pf_int2 {K : PySem.W.Frag} {c : Int → Int → Bool} {g : Int → Int → D} {C : Int → Int → Prop} {gv : Int → Int → V} (hc : ∀ i j, c i j = true → C i j) (hg : ∀ i j G, Rp K G [gv i j] [g i j]) : PureF K (r2L (rI C gv)) (fInt2 c g) := by
  intro H zs es us R Q hm fl h dl
  match es, fl, h with
  | [], _, h => cases h
  | [_], _, h => cases h
  | _ :: _ :: _ :: _, _, h => cases h
  | [e1, e2], fl, h =>
    simp only [fInt2] at h
    split at h
    · rename_i i j h1 h2
      split at h
      · rename_i hcc
        obtain ⟨v, us', rfl, r1, f1⟩ := fl.rd1 h1
        obtain ⟨w, us'', rfl, r2, f2⟩ := f1.rd1 h2
        have := f2.one
        subst this
        cases h
        exact ⟨v, w, rfl, i, j, r1.int1, r2.int1, hc _ _ hcc, dl _ (hg i j H)⟩
      · cases h
    · cases h
theorem rI0_I {g : Int → Int → V} {x y : V} {H : Hp} {Q : VK} (h : rI (fun _ _ => True) g x y H Q) : rI0 g x y H Q := by
  obtain ⟨i, j, a, b, _, q⟩ := h
  exact ⟨i, j, a, b, q⟩
theorem OpR.weak {X : Cx} {f : Value → Value → Sem Value} {r r' : R2} (h : OpR X f r) (i : ∀ x y H Q, r' x y H Q → r x y H Q) : OpR X f r' := fun pins s σ H x y v u Q I rx ry q => h pins s σ H x y v u Q I rx ry (i _ _ _ _ q)
abbrev fSub := fInt2 (fun _ _ => true) fun i j => .int (i - j)
abbrev fMod := fInt2 (fun _ j => decide (0 < j)) fun i j => .int (i % j)
def divOk (j : Int) : Bool := decide (0 < j ∧ j.natAbs.log2 < 9000)
abbrev fDiv := fInt2 (fun _ j => divOk j) fun i j => .int (i / j)
def powOk (i j : Int) : Bool := decide (0 ≤ j ∧ (Builtin.Int.intBits i : Int) * j ≤ 2 ^ 27)
abbrev fPow := fInt2 powOk fun i j => .int (i ^ j.toNat)
def shOk (i j : Int) : Bool := decide (0 ≤ j ∧ j ≤ 1000000 ∧ i.natAbs < 2 ^ 64)
abbrev fShl := fInt2 shOk fun i j => .int (i * 2 ^ j.toNat)
abbrev fShr := fInt2 (fun _ j => decide (0 ≤ j)) fun i j => .int (i / 2 ^ j.toNat)
theorem op_powW {X : Cx} : OpR X (binaryOp .Pow) (rI (fun i j => 0 ≤ j ∧ (Builtin.Int.intBits i : Int) * j ≤ 2 ^ 27) fun i j => .int (i ^ j.toNat)) := opI fun _ _ _ _ _ _ _ hc q => pow_int hc.1 hc.2 q
/-- * of ints, a list times an int, a tuple times an int -/
def fMul (es : List E) : Option Rs := match es with
  | [e1, e2] => (match e1.rd, e2.rd with
    | some (.int i), some (.int j) => if mulOk i j = true then some (.r (.int (i * j))) else none
    | some (.lst _), some (.int k) => (match itm e1 with
      | some xs => if -(2 ^ 63) ≤ k ∧ k < 2 ^ 63 ∧ xs.length * k.toNat ≤ 16777216 then some (.nl (List.replicate k.toNat xs).flatten) else none
      | none => none)
    | some (.tup _), some (.int k) => (match itm e1 with
      | some xs => if xs ≠ [] ∧ 2 ≤ k ∧ k ≤ 1000 ∧ xs.length ≤ 1000 then some (.nt (List.replicate k.toNat xs).flatten) else none
      | none => none)
    | _, _ => none)
  | _ => none
theorem op_mulU {X : Cx} : OpR X (binaryOp .Mult) (fun x y H Q => (rI CMul fun i j => .int (i * j)) x y H Q ∨ rRep x y H Q ∨ rRepT X.K x y H Q) := OpR.or op_mul (OpR.or op_rep op_repT)
theorem Rp.rep {K : PySem.W.Frag} {G : Hp} {us : List V} {xs : List D} (r : Rp K G us xs) : ∀ n : Nat, Rp K G (List.replicate n us).flatten (List.replicate n xs).flatten
  | 0 => .nil
  | n + 1 => by
    rw [List.replicate_succ, List.replicate_succ, List.flatten_cons, List.flatten_cons]
    exact r.app (Rp.rep r n)
theorem pf_mul {K : PySem.W.Frag} : PureF K (r2L fun x y H Q => (rI CMul fun i j => .int (i * j)) x y H Q ∨ rRep x y H Q ∨ rRepT K x y H Q) fMul := by
  intro H zs es us R Q hm fl h dl
  match es, fl, h with
  | [], _, h => cases h
  | [_], _, h => cases h
  | _ :: _ :: _ :: _, _, h => cases h
  | [e1, e2], fl, h =>
    simp only [fMul] at h
    split at h
    · rename_i i j h1 h2
      split at h
      · rename_i hc
        obtain ⟨v, us', rfl, r1, f1⟩ := fl.rd1 h1
        obtain ⟨w, us'', rfl, r2, f2⟩ := f1.rd1 h2
        have := f2.one
        subst this
        cases h
        exact ⟨v, w, rfl, .inl ⟨i, j, r1.int1, r2.int1, by simpa [mulOk, CMul] using hc, dl _ (.int _ .nil)⟩⟩
      · cases h
    · rename_i xs k h1 h2
      cases h3 : itm e1 with
      | none => rw [h3] at h; cases h
      | some xs' =>
        rw [h3] at h
        obtain rfl := itm_lst h1 h3
        simp only at h
        split at h
        · rename_i hl
          cases h
          obtain ⟨a, ws, us', rfl, q1, q2, f1⟩ := fl.lstIt hm h1 h3
          obtain ⟨w, us'', rfl, r2, f2⟩ := f1.rd1 h2
          have := f2.one
          subst this
          have l1 := q2.length
          exact ⟨_, _, rfl, .inr (.inl ⟨a, k, ws, rfl, r2.int1, q1, hl.1, hl.2.1, by rw [sizeLine_eq, l1]; exact hl.2.2, fun p hp => dl p _ hp (q2.rep _)⟩)⟩
        · cases h
    · rename_i xs k h1 h2
      cases h3 : itm e1 with
      | none => rw [h3] at h; cases h
      | some xs' =>
        rw [h3] at h
        obtain rfl := itm_tup h1 h3
        simp only at h
        split at h
        · rename_i hl
          cases h
          obtain ⟨a, ws, us', rfl, q1, q2, f1⟩ := fl.tupIt h1 h3
          obtain ⟨w, us'', rfl, r2, f2⟩ := f1.rd1 h2
          have := f2.one
          subst this
          have l1 := q2.length
          refine ⟨_, _, rfl, .inr (.inr ⟨a, k, ws, rfl, r2.int1, sqT_same (hid_sub _ _) q1, fun e => hl.1 ?_, hl.2.1, hl.2.2.1, by rw [l1]; exact hl.2.2.2, fun p hp => dl p _ hp (q2.rep _)⟩)⟩
          subst e
          exact List.length_eq_zero_iff.mp l1.symm
        · cases h
    · cases h
section
variable {X : Cx} {W : WX} {a b : Expr} {ma mb m : M} {pos : Pos}
theorem ve_add (ha : VE X W a ma) (hb : VE X W b mb) : VE X W (.BinOp a .Add b pos) (mF fAdd (a2 ma mb)) := ve_opF pf_add op_addU ha hb
theorem ve_mul (ha : VE X W a ma) (hb : VE X W b mb) : VE X W (.BinOp a .Mult b pos) (mF fMul (a2 ma mb)) := ve_opF pf_mul op_mulU ha hb
theorem ve_sub (ha : VE X W a ma) (hb : VE X W b mb) : VE X W (.BinOp a .Sub b pos) (mF fSub (a2 ma mb)) :=
  ve_opF (r := rI (fun _ _ => True) fun i j => .int (i - j)) (pf_int2 (fun _ _ _ => trivial) fun i j G => .int _ .nil) (OpR.weak op_sub fun _ _ _ _ h => rI0_I h) ha hb
theorem ve_mod (ha : VE X W a ma) (hb : VE X W b mb) : VE X W (.BinOp a .Mod b pos) (mF fMod (a2 ma mb)) := ve_opF (pf_int2 (fun _ _ h => of_decide_eq_true h) fun i j G => .int _ .nil) op_mod ha hb
theorem ve_div (ha : VE X W a ma) (hb : VE X W b mb) : VE X W (.BinOp a .FloorDiv b pos) (mF fDiv (a2 ma mb)) := ve_opF (pf_int2 (fun _ _ h => of_decide_eq_true h) fun i j G => .int _ .nil) op_fdivW ha hb
theorem ve_pow (ha : VE X W a ma) (hb : VE X W b mb) : VE X W (.BinOp a .Pow b pos) (mF fPow (a2 ma mb)) := ve_opF (pf_int2 (fun _ _ h => of_decide_eq_true h) fun i j G => .int _ .nil) op_powW ha hb
theorem ve_shl (ha : VE X W a ma) (hb : VE X W b mb) : VE X W (.BinOp a .LShift b pos) (mF fShl (a2 ma mb)) := ve_opF (pf_int2 (fun _ _ h => of_decide_eq_true h) fun i j G => .int _ .nil) op_shl ha hb
theorem ve_shr (ha : VE X W a ma) (hb : VE X W b mb) : VE X W (.BinOp a .RShift b pos) (mF fShr (a2 ma mb)) := ve_opF (pf_int2 (fun _ _ h => of_decide_eq_true h) fun i j G => .int _ .nil) op_shr ha hb
/-- one value -/
def a1 (m : M) : Rho → AO := aCons m aNil
theorem run_F1 {r : V → Hp → VK → Prop} {f : List E → Option Rs} {K : PySem.W.Frag} {H0 H : Hp} {M0 : Bs} {σ : L2.St} {ρ : Rho} {τ : List E} {tv : List V} {Q : VK} (hf : PureF K (fun us H Q => ∃ x, us = [x] ∧ r x H Q) f) (c : Cfg K H0 M0 H σ τ tv ρ) (q : Run K W H0 M0 τ tv σ ρ H Q (mF f (a1 m) ρ)) :
    tV K W m σ H fun x H1 => r x H1 Q := by
  obtain ⟨H0', M0', τ', tv', ρ', c', r'⟩ := run_F hf c q
  have r2 : RunA K W H0' M0' τ' tv' σ ρ' H (fun us H1 => ∃ x, us = [x] ∧ r x H1 Q) (aCons m aNil ρ') := r'
  obtain ⟨H0a, M0a, τa, tva, ρa, ca, ra⟩ := tVa_cons c' r2
  refine ⟨H0a, M0a, τa, tva, ρa, ca, ?_⟩
  cases h : m ρa with
  | st => rw [h] at ra; exact ra
  | ex C pl p => rw [h] at ra; exact ra
  | ok e p =>
    rw [h] at ra
    intro v H' c2 s2
    obtain ⟨H0b, M0b, τb, tvb, ρb, cb, rb⟩ := ra v H' c2 s2
    obtain ⟨x, e1, q1⟩ := tVa_nil cb rb
    cases e1
    exact q1
def fNeg (es : List E) : Option Rs := match es with
  | [e] => (match e.rd with | some (.int i) => some (.r (.int (-i))) | _ => none)
  | _ => none
theorem ve_neg (ha : VE X W a m) : VE X W (.UnaryOp .USub a pos) (mF fNeg (a1 m)) := by
  refine ⟨(pe_un un_neg ha.pe).weak fun σ H Q ⟨H0, M0, τ, tv, ρ, c, q⟩ => run_F1 (r := rU fun i => .int (-i)) (fun H zs es us R Q hm fl h dl => ?_) c q⟩
  match es, fl, h with
  | [], _, h => cases h
  | _ :: _ :: _, _, h => cases h
  | [e1], fl, h =>
    simp only [fNeg] at h
    split at h
    · rename_i i h1
      obtain ⟨v, us', rfl, r1, f1⟩ := fl.rd1 h1
      have := f1.one
      subst this
      cases h
      exact ⟨v, rfl, i, r1.int1, dl _ (.int _ .nil)⟩
    · cases h
end

/-! ### == of data -/
mutual
def pyT : D → PyData
  | .non => .none
  | .bl b => .bool b
  | .int i => .int i
  | .str x => .str x
  | .tup xs => .tuple (pyTs xs)
  | .lst xs => .list (pyTs xs)
  | .scr xs => .list (pyTs xs)
  | .dk _ _ => .none
  | .dt _ _ => .none
  | .ob _ _ _ => .none
def pyTs : List D → List PyData
  | [] => []
  | d :: ds => pyT d :: pyTs ds
/-- data that == takes: at most so deep -/
def okD : Nat → D → Bool
  | _, .non => true
  | _, .bl _ => true
  | _, .int _ => true
  | _, .str x => PyData.strOk x
  | n + 1, .tup xs => okDs n xs
  | n + 1, .lst xs => okDs n xs
  | n + 1, .scr xs => okDs n xs
  | _, _ => false
def okDs : Nat → List D → Bool
  | _, [] => true
  | n, d :: ds => okD n d && okDs n ds
end
theorem pyTs_map : ∀ xs : List D, pyTs xs = xs.map pyT
  | [] => rfl
  | d :: ds => by rw [pyTs, List.map_cons, pyTs_map ds]
theorem okDs_all (n : Nat) : ∀ xs : List D, okDs n xs = xs.all (okD n)
  | [] => by simp [okDs]
  | d :: ds => by rw [okDs, List.all_cons, okDs_all n ds]
theorem Rp.dp {K : PySem.W.Frag} {H : Hp} {vs : List V} {ds : List D} (r : Rp K H vs ds) : ∀ n, okDs n ds = true → DpAll K H vs (pyTs ds) ∧ PyData.canLayAll0 (pyTs ds) = true ∧ PyData.depthAll (pyTs ds) ≤ n := by
  induction r with
  | nil => intro n _; exact ⟨.nil, rfl, Nat.zero_le _⟩
  | non _ ih =>
    intro n h
    simp only [okDs, Bool.and_eq_true] at h
    obtain ⟨a, b, c⟩ := ih n h.2
    exact ⟨.cons .non a, by simp [pyTs, pyT, PyData.canLayAll0, PyData.canLay0, b], by simp [pyTs, pyT, PyData.depthAll, PyData.depth, c]⟩
  | bl x _ ih =>
    intro n h
    simp only [okDs, Bool.and_eq_true] at h
    obtain ⟨a, b, c⟩ := ih n h.2
    exact ⟨.cons (.bl x) a, by simp [pyTs, pyT, PyData.canLayAll0, PyData.canLay0, b], by simp [pyTs, pyT, PyData.depthAll, PyData.depth, c]⟩
  | int x _ ih =>
    intro n h
    simp only [okDs, Bool.and_eq_true] at h
    obtain ⟨a, b, c⟩ := ih n h.2
    exact ⟨.cons (.int x) a, by simp [pyTs, pyT, PyData.canLayAll0, PyData.canLay0, b], by simp [pyTs, pyT, PyData.depthAll, PyData.depth, c]⟩
  | str x _ ih =>
    intro n h
    simp only [okDs, Bool.and_eq_true] at h
    obtain ⟨a, b, c⟩ := ih n h.2
    have h1 : PyData.strOk x = true := by cases n <;> simpa [okD] using h.1
    exact ⟨.cons (.str x) a, by simp [pyTs, pyT, PyData.canLayAll0, PyData.canLay0, b, h1], by simp [pyTs, pyT, PyData.depthAll, PyData.depth, c]⟩
  | tup q _ _ i1 i2 =>
    intro n h
    simp only [okDs, Bool.and_eq_true] at h
    obtain ⟨a, b, c⟩ := i2 n h.2
    cases n with
    | zero => simp [okD] at h
    | succ n =>
      obtain ⟨a', b', c'⟩ := i1 n (by simpa [okD] using h.1)
      exact ⟨.cons (.tup q a') a, by simp [pyTs, pyT, PyData.canLayAll0, PyData.canLay0, b, b'], by simp only [pyTs, pyT, PyData.depthAll, PyData.depth]; omega⟩
  | lst q _ _ i1 i2 =>
    intro n h
    simp only [okDs, Bool.and_eq_true] at h
    obtain ⟨a, b, c⟩ := i2 n h.2
    cases n with
    | zero => simp [okD] at h
    | succ n =>
      obtain ⟨a', b', c'⟩ := i1 n (by simpa [okD] using h.1)
      exact ⟨.cons (.lst (SqL.of q) a') a, by simp [pyTs, pyT, PyData.canLayAll0, PyData.canLay0, b, b'], by simp only [pyTs, pyT, PyData.depthAll, PyData.depth]; omega⟩
  | scr q _ _ i1 i2 =>
    intro n h
    simp only [okDs, Bool.and_eq_true] at h
    obtain ⟨a, b, c⟩ := i2 n h.2
    cases n with
    | zero => simp [okD] at h
    | succ n =>
      obtain ⟨a', b', c'⟩ := i1 n (by simpa [okD] using h.1)
      exact ⟨.cons (.lst q.sq a') a, by simp [pyTs, pyT, PyData.canLayAll0, PyData.canLay0, b, b'], by simp only [pyTs, pyT, PyData.depthAll, PyData.depth]; omega⟩
  | dk _ _ _ _ _ _ => intro n h; simp [okDs, okD] at h
  | dt _ _ _ _ _ _ => intro n h; simp [okDs, okD] at h
  | ob _ _ _ _ _ _ => intro n h; simp [okDs, okD] at h
theorem Rp.dp1 {K : PySem.W.Frag} {H : Hp} {v : V} {d : D} (r : Rp K H [v] [d]) (h : okD 64 d = true) : Dp K H v (pyT d) ∧ SeqAt.shaped (pyT d) = true := by
  obtain ⟨a, b, c⟩ := r.dp 64 (by simp [okDs, h])
  simp only [pyTs] at a b c
  cases a with
  | cons q _ =>
    refine ⟨q, ?_⟩
    simp only [PyData.canLayAll0, Bool.and_eq_true, PyData.depthAll] at b c
    unfold SeqAt.shaped
    simp [b.1]
    omega
def deq (d e : D) : Bool := PyData.eqv (pyT d) (pyT e)
def gEq (d e : D) : Option D := if okD 64 d = true ∧ okD 64 e = true then some (.bl (deq d e)) else none
def gNe (d e : D) : Option D := if okD 64 d = true ∧ okD 64 e = true then some (.bl (!deq d e)) else none
theorem p2_eq {K : PySem.W.Frag} : Pure2 K (rEqD K) gEq := by
  intro H x y d1 d2 d Q r1 r2 h q
  unfold gEq at h
  split at h
  · rename_i ho
    cases h
    obtain ⟨a1, b1⟩ := r1.dp1 ho.1
    obtain ⟨a2, b2⟩ := r2.dp1 ho.2
    exact ⟨_, _, a1, a2, b1, b2, q _ (.bl _ .nil) rfl⟩
  · cases h
theorem p2_ne {K : PySem.W.Frag} : Pure2 K (rNeD K) gNe := by
  intro H x y d1 d2 d Q r1 r2 h q
  unfold gNe at h
  split at h
  · rename_i ho
    cases h
    obtain ⟨a1, b1⟩ := r1.dp1 ho.1
    obtain ⟨a2, b2⟩ := r2.dp1 ho.2
    exact ⟨_, _, a1, a2, b1, b2, q _ (.bl _ .nil) rfl⟩
  · cases h
/-- < <= > >= of ints -/
def gCmp (p : Int → Int → Bool) (d e : D) : Option D := match d, e with
  | .int i, .int j => some (.bl (p i j))
  | _, _ => none
theorem p2_cmp {K : PySem.W.Frag} {p : Int → Int → Bool} : Pure2 K (rI0 fun i j => .bl (p i j)) (gCmp p) := by
  intro H x y d1 d2 d Q r1 r2 h q
  unfold gCmp at h
  split at h
  · cases h
    exact ⟨_, _, r1.int1, r2.int1, q _ (.bl _ .nil) rfl⟩
  · cases h
abbrev gLt := gCmp fun i j => decide (i < j)
abbrev gLe := gCmp fun i j => decide (i ≤ j)
abbrev gGt := gCmp fun i j => decide (j < i)
abbrev gGe := gCmp fun i j => decide (j ≤ i)
/-- is None -/
def isNon : D → Bool
  | .non => true
  | _ => false
def gIs (d e : D) : Option D := if isNon e = true then some (.bl (isNon d)) else none
def gIsN (d e : D) : Option D := if isNon e = true then some (.bl (!isNon d)) else none
theorem non_dec {K : PySem.W.Frag} {H : Hp} {x : V} {d : D} (r : Rp K H [x] [d]) : decide (x = .non) = isNon d := by
  cases r <;> simp [isNon]
theorem p2_is {K : PySem.W.Frag} : Pure2 K (fun x y H Q => y = .non ∧ Q (.bl (decide (x = .non))) H) gIs := by
  intro H x y d1 d2 d Q r1 r2 h q
  unfold gIs at h
  split at h
  · rename_i hn
    cases h
    cases d2 <;> simp [isNon] at hn
    refine ⟨r2.non1, ?_⟩
    rw [non_dec r1]
    exact q _ (.bl _ .nil) rfl
  · cases h
theorem p2_isN {K : PySem.W.Frag} : Pure2 K (fun x y H Q => y = .non ∧ Q (.bl (!decide (x = .non))) H) gIsN := by
  intro H x y d1 d2 d Q r1 r2 h q
  unfold gIsN at h
  split at h
  · rename_i hn
    cases h
    cases d2 <;> simp [isNon] at hn
    refine ⟨r2.non1, ?_⟩
    rw [non_dec r1]
    exact q _ (.bl _ .nil) rfl
  · cases h
/-- in a list, in a tuple of plain things -/
def flatD : D → Bool
  | .non => true
  | .bl _ => true
  | .int _ => true
  | .str _ => true
  | _ => false
def inD (neg : Bool) (d e : D) : Option D := match e with
  | .lst xs => if okD 64 d = true ∧ okD 64 (.lst xs) = true then some (.bl (if neg = true then !xs.any (deq · d) else xs.any (deq · d))) else none
  | .scr xs => if okD 64 d = true ∧ okD 64 (.scr xs) = true then some (.bl (if neg = true then !xs.any (deq · d) else xs.any (deq · d))) else none
  | .tup xs => if flatD d = true ∧ xs.all flatD = true then some (.bl (if neg = true then !xs.any (deq · d) else xs.any (deq · d))) else none
  | _ => none
theorem flatD_V {K : PySem.W.Frag} {H : Hp} {x : V} {d : D} (r : Rp K H [x] [d]) (h : flatD d = true) : flatV x = true := by
  cases r <;> simp [flatD] at h <;> rfl
theorem flatDs_V {K : PySem.W.Frag} {H : Hp} : ∀ {xs : List V} {ds : List D}, Rp K H xs ds → ds.all flatD = true → xs.all flatV = true
  | [], [], _, _ => rfl
  | [], _ :: _, r, _ => nomatch r
  | _ :: _, [], r, _ => nomatch r
  | x :: xs, d :: ds, r, h => by
    rw [List.all_cons, Bool.and_eq_true] at h ⊢
    exact ⟨flatD_V r.uncons.1 h.1, flatDs_V r.uncons.2 h.2⟩
theorem deq_V {K : PySem.W.Frag} {H : Hp} {x y : V} {d e : D} (r : Rp K H [x] [d]) (q : Rp K H [y] [e]) (hd : flatD d = true) (he : flatD e = true) : eqV x y = deq d e := by
  cases r <;> simp [flatD] at hd <;> cases q <;> simp [flatD] at he <;> simp [eqV, deq, pyT, PyData.eqv]
theorem inV_D {K : PySem.W.Frag} {H : Hp} {x : V} {d : D} (r : Rp K H [x] [d]) (hd : flatD d = true) : ∀ {ys : List V} {es : List D}, Rp K H ys es → es.all flatD = true → inV x ys = es.any (deq · d)
  | [], [], _, _ => rfl
  | [], _ :: _, r, _ => nomatch r
  | _ :: _, [], r, _ => nomatch r
  | y :: ys, e :: es, q, h => by
    rw [List.all_cons, Bool.and_eq_true] at h
    have := inV_D r hd q.uncons.2 h.2
    unfold inV at this ⊢
    rw [List.any_cons, List.any_cons, this, deq_V q.uncons.1 r h.1 hd]
theorem any_pyTs (d : D) : ∀ xs : List D, (pyTs xs).any (fun z => PyData.eqv z (pyT d)) = xs.any (deq · d)
  | [] => rfl
  | x :: xs => by rw [pyTs, List.any_cons, List.any_cons, any_pyTs d xs]; rfl
theorem op_inU {X : Cx} (hu : X.A.units + 65 < cLine) : OpR X (compareOp .In) (fun x y H Q => rIn X.K false x y H Q ∨ rInD X.K x y H Q) := OpR.or op_in_seq (op_inD hu)
theorem op_notInU {X : Cx} (hu : X.A.units + 65 < cLine) : OpR X (compareOp .NotIn) (fun x y H Q => rIn X.K true x y H Q ∨ rNotInD X.K x y H Q) := OpR.or op_notIn_seq (op_notInD hu)
theorem p2_in {K : PySem.W.Frag} : Pure2 K (fun x y H Q => rIn K false x y H Q ∨ rInD K x y H Q) (inD false) := by
  intro H x y d1 d2 d Q r1 r2 h q
  unfold inD at h
  split at h
  · split at h
    · rename_i ho
      cases h
      obtain ⟨a1, b1⟩ := r1.dp1 ho.1
      obtain ⟨a2, b2⟩ := r2.dp1 ho.2
      refine .inr ⟨_, _, a1, a2, b1, b2, ?_⟩
      rw [any_pyTs]
      exact q _ (.bl _ .nil) rfl
    · cases h
  · split at h
    · rename_i ho
      cases h
      obtain ⟨a1, b1⟩ := r1.dp1 ho.1
      obtain ⟨a2, b2⟩ := r2.dp1 ho.2
      refine .inr ⟨_, _, a1, a2, b1, b2, ?_⟩
      rw [any_pyTs]
      exact q _ (.bl _ .nil) rfl
    · cases h
  · split at h
    · rename_i ho
      cases h
      cases r2 with
      | tup q1 q2 _ =>
        refine .inl ⟨_, _, rfl, .inr q1, flatD_V r1 ho.1, flatDs_V q2 ho.2, ?_⟩
        rw [inV_D r1 ho.1 q2 ho.2]
        exact q _ (.bl _ .nil) rfl
    · cases h
  · cases h
theorem p2_notIn {K : PySem.W.Frag} : Pure2 K (fun x y H Q => rIn K true x y H Q ∨ rNotInD K x y H Q) (inD true) := by
  intro H x y d1 d2 d Q r1 r2 h q
  unfold inD at h
  split at h
  · split at h
    · rename_i ho
      cases h
      obtain ⟨a1, b1⟩ := r1.dp1 ho.1
      obtain ⟨a2, b2⟩ := r2.dp1 ho.2
      refine .inr ⟨_, _, a1, a2, b1, b2, ?_⟩
      rw [any_pyTs]
      exact q _ (.bl _ .nil) rfl
    · cases h
  · split at h
    · rename_i ho
      cases h
      obtain ⟨a1, b1⟩ := r1.dp1 ho.1
      obtain ⟨a2, b2⟩ := r2.dp1 ho.2
      refine .inr ⟨_, _, a1, a2, b1, b2, ?_⟩
      rw [any_pyTs]
      exact q _ (.bl _ .nil) rfl
    · cases h
  · split at h
    · rename_i ho
      cases h
      cases r2 with
      | tup q1 q2 _ =>
        refine .inl ⟨_, _, rfl, .inr q1, flatD_V r1 ho.1, flatDs_V q2 ho.2, ?_⟩
        rw [inV_D r1 ho.1 q2 ho.2]
        exact q _ (.bl _ .nil) rfl
    · cases h
  · cases h
section
variable {X : Cx} {W : WX} {a b c : Expr} {ma mb mc : M} {pos : Pos} {k : Nat}
theorem ve_eq (hr : Room k X.A) (ha : VE X W a ma) (hb : VE X W b mb) : VE X W (.Compare a [.Eq] [b] pos) (mOp gEq ma mb) := ve_cmp (op_eqD hr.units) p2_eq ha hb (nomark _)
theorem ve_ne (hr : Room k X.A) (ha : VE X W a ma) (hb : VE X W b mb) : VE X W (.Compare a [.NotEq] [b] pos) (mOp gNe ma mb) := ve_cmp (op_neD hr.units) p2_ne ha hb (nomark _)
theorem ve_lt (ha : VE X W a ma) (hb : VE X W b mb) : VE X W (.Compare a [.Lt] [b] pos) (mOp gLt ma mb) := ve_cmp op_lt p2_cmp ha hb (nomark _)
theorem ve_le (ha : VE X W a ma) (hb : VE X W b mb) : VE X W (.Compare a [.LtE] [b] pos) (mOp gLe ma mb) := ve_cmp op_le p2_cmp ha hb (nomark _)
theorem ve_gt (ha : VE X W a ma) (hb : VE X W b mb) : VE X W (.Compare a [.Gt] [b] pos) (mOp gGt ma mb) := ve_cmp op_gt p2_cmp ha hb (nomark _)
theorem ve_ge (ha : VE X W a ma) (hb : VE X W b mb) : VE X W (.Compare a [.GtE] [b] pos) (mOp gGe ma mb) := ve_cmp op_ge p2_cmp ha hb (nomark _)
theorem ve_is (ha : VE X W a ma) (hb : VE X W b mb) : VE X W (.Compare a [.Is] [b] pos) (mOp gIs ma mb) := ve_cmp op_isN p2_is ha hb (nomark _)
theorem ve_isN (ha : VE X W a ma) (hb : VE X W b mb) : VE X W (.Compare a [.IsNot] [b] pos) (mOp gIsN ma mb) := ve_cmp op_notN p2_isN ha hb (nomark _)
theorem units65 (hr : Room k X.A) : X.A.units + 65 < cLine := by have := hr.un; omega
theorem ve_in (hr : Room k X.A) (ha : VE X W a ma) (hb : VE X W b mb) (hm : behindInMarks .In b = false := by with_unfolding_all rfl) : VE X W (.Compare a [.In] [b] pos) (mOp (inD false) ma mb) := ve_cmp (op_inU (units65 hr)) p2_in ha hb hm
theorem ve_notIn (hr : Room k X.A) (ha : VE X W a ma) (hb : VE X W b mb) (hm : behindInMarks .NotIn b = false := by with_unfolding_all rfl) : VE X W (.Compare a [.NotIn] [b] pos) (mOp (inD true) ma mb) := ve_cmp (op_notInU (units65 hr)) p2_notIn ha hb hm
theorem vt_eq (hr : Room k X.A) (ha : VE X W a ma) (hb : VE X W b mb) : VT X W (.Compare a [.Eq] [b] pos) (mOp gEq ma mb) := vt_cmp (op_eqD hr.units) p2_eq ha hb (nomark _)
theorem vt_ne (hr : Room k X.A) (ha : VE X W a ma) (hb : VE X W b mb) : VT X W (.Compare a [.NotEq] [b] pos) (mOp gNe ma mb) := vt_cmp (op_neD hr.units) p2_ne ha hb (nomark _)
theorem vt_lt (ha : VE X W a ma) (hb : VE X W b mb) : VT X W (.Compare a [.Lt] [b] pos) (mOp gLt ma mb) := vt_cmp op_lt p2_cmp ha hb (nomark _)
theorem vt_le (ha : VE X W a ma) (hb : VE X W b mb) : VT X W (.Compare a [.LtE] [b] pos) (mOp gLe ma mb) := vt_cmp op_le p2_cmp ha hb (nomark _)
theorem vt_gt (ha : VE X W a ma) (hb : VE X W b mb) : VT X W (.Compare a [.Gt] [b] pos) (mOp gGt ma mb) := vt_cmp op_gt p2_cmp ha hb (nomark _)
theorem vt_ge (ha : VE X W a ma) (hb : VE X W b mb) : VT X W (.Compare a [.GtE] [b] pos) (mOp gGe ma mb) := vt_cmp op_ge p2_cmp ha hb (nomark _)
theorem vt_is (ha : VE X W a ma) (hb : VE X W b mb) : VT X W (.Compare a [.Is] [b] pos) (mOp gIs ma mb) := vt_cmp op_isN p2_is ha hb (nomark _)
theorem vt_isN (ha : VE X W a ma) (hb : VE X W b mb) : VT X W (.Compare a [.IsNot] [b] pos) (mOp gIsN ma mb) := vt_cmp op_notN p2_isN ha hb (nomark _)
theorem vt_in (hr : Room k X.A) (ha : VE X W a ma) (hb : VE X W b mb) (hm : behindInMarks .In b = false := by with_unfolding_all rfl) : VT X W (.Compare a [.In] [b] pos) (mOp (inD false) ma mb) := vt_cmp (op_inU (units65 hr)) p2_in ha hb hm
theorem vt_notIn (hr : Room k X.A) (ha : VE X W a ma) (hb : VE X W b mb) (hm : behindInMarks .NotIn b = false := by with_unfolding_all rfl) : VT X W (.Compare a [.NotIn] [b] pos) (mOp (inD true) ma mb) := vt_cmp (op_notInU (units65 hr)) p2_notIn ha hb hm
end
end LP
end
section
/-! LP, part j: targets, what is walked, comprehensions, for. -/
namespace LP
open PySem PySem.Spec PyProof.Rows L2

section
variable {K : PySem.W.Frag} {G B H0 H H' : Hp} {M0 : Bs} {σ σ' : L2.St} {τ es a b ρ : List E} {tv us ua ub vs vs' : List V} {e : E} {v : V} {d : D} {s : Sh} {zs : List Addr}
theorem Ents.reval (r : Ents K G H es vs zs) : ∀ {vs' : List V}, vs'.length = vs.length → (∀ (i : Nat), es[i]? ≠ some .x → vs'[i]? = vs[i]?) → Ents K G H es vs' zs := by
  induction r with
  | nil => intro vs' hl _; cases vs' with | nil => exact .nil | cons _ _ => simp at hl
  | x _ ih =>
    intro vs' hl k
    cases vs' with
    | nil => simp at hl
    | cons w vs' => exact .x (ih (by simpa using hl) fun i h => by simpa using k (i + 1) (by simpa using h))
  | b q _ ih =>
    intro vs' hl k
    cases vs' with
    | nil => simp at hl
    | cons w vs' =>
      have e := k 0 (by simp)
      simp at e
      subst e
      exact .b q (ih (by simpa using hl) fun i h => by simpa using k (i + 1) (by simpa using h))
  | o q _ ih =>
    intro vs' hl k
    cases vs' with
    | nil => simp at hl
    | cons w vs' =>
      have e := k 0 (by simp)
      simp at e
      subst e
      exact .o q (ih (by simpa using hl) fun i h => by simpa using k (i + 1) (by simpa using h))
  | p q _ ih =>
    intro vs' hl k
    cases vs' with
    | nil => simp at hl
    | cons w vs' =>
      have e := k 0 (by simp)
      simp at e
      subst e
      exact .p q (ih (by simpa using hl) fun i h => by simpa using k (i + 1) (by simpa using h))
theorem Cfg.resig (c : Cfg K H0 M0 H σ τ tv ρ) (hl : σ'.length = σ.length) (h : ∀ (i : Nat), ρ[i]? ≠ some .x → σ'[i]? = σ[i]?) : Cfg K H0 M0 H σ' τ tv ρ := by
  obtain ⟨⟨zs, l, sl, r, n, f⟩, fr, go⟩ := c
  obtain ⟨za, zb, e1, ra, rb⟩ := r.split l.symm
  subst e1
  refine ⟨⟨za ++ zb, l, ⟨hl.trans sl.len, fun j s d hj => ?_, fun j e hj hx => ?_⟩, ra.app (rb.reval (by simp [vals_length, hl]) fun i hi => ?_), n, f⟩, fr, go⟩
  · rw [h j (by rw [hj]; intro q; cases q)]
    exact sl.pin j s d hj
  · rw [h j (by rw [hj]; intro q; exact hx (Option.some.inj q))]
    exact sl.at_ j e hj hx
  · have := h i hi
    simp only [vals, List.getElem?_map, this]
theorem Cfg.swap (c : Cfg K H0 M0 H σ (τ ++ (a ++ b)) (tv ++ (ua ++ ub)) ρ) (hl : tv.length = τ.length) (ha : ua.length = a.length) : Cfg K H0 M0 H σ (τ ++ (b ++ a)) (tv ++ (ub ++ ua)) ρ := by
  obtain ⟨⟨zs, l, sl, r, n, f⟩, fr, go⟩ := c
  obtain ⟨z0, zr, e0, r0, rr⟩ := r.split l.symm
  obtain ⟨z1, z2, e1, r1, r2⟩ := r0.split hl.symm
  obtain ⟨z3, z4, e2, r3, r4⟩ := r2.split ha.symm
  refine Cfg.re (zs' := z1 ++ ((z4 ++ z3) ++ zr)) n f fr go (by simp at l ⊢; omega) sl ?_ fun q => ?_
  · have := r1.app ((r4.app r3).app rr)
    simpa using this
  · subst e0 e1 e2
    simp only [List.count_append]
    omega
/-- temps weakened -/
theorem Cfg.killT (c : Cfg K H0 M0 H σ τ tv ρ) : Cfg K H0 M0 H σ (τ.map kill) tv (ρ.map kill) := by
  obtain ⟨⟨zs, l, sl, r, n, f⟩, fr, go⟩ := c
  have r' := r.step (G' := hid H zs) (H' := H) (Same.refl _) fun _ _ _ q => q
  rw [List.map_append] at r'
  refine ⟨⟨zs, by simpa using l, ⟨by simpa using sl.len, fun j s d hj => ?_, fun j e hj hx => ?_⟩, r', n, f⟩, fr, go⟩
  · rw [List.getElem?_map] at hj
    cases hr : ρ[j]? with
    | none => rw [hr] at hj; cases hj
    | some e0 => rw [hr] at hj; cases e0 <;> first | (cases hj; exact sl.pin j _ _ hr) | cases hj
  · rw [List.getElem?_map] at hj
    cases hr : ρ[j]? with
    | none => rw [hr] at hj; cases hj
    | some e0 =>
      rw [hr] at hj
      refine sl.at_ j e0 hr fun hz => ?_
      subst hz
      cases hj
      exact hx rfl
theorem Ents.revive {es : List E} : ∀ {vs : List V} {z1 z2 : List Addr}, Ents K G H (es.map kill) vs z1 → Ents K B H es vs z2 → Ents K G H es vs z1 := by
  induction es with
  | nil => intro vs z1 z2 r _; exact r
  | cons e es ih =>
    intro vs z1 z2 r q
    cases vs with
    | nil =>
      have h := r.length
      simp at h
    | cons v vs =>
      rw [List.map_cons] at r
      obtain ⟨y1, y2, e1, r1, r2⟩ := r.uncons
      obtain ⟨y3, y4, e2, q1, q2⟩ := q.uncons
      subst e1
      have i1 := ih r2 q2
      cases e with
      | b d =>
        have := r1.x1
        subst this
        exact .b q1.b1.2 i1
      | x => exact r1.app i1
      | o s d => exact r1.app i1
      | p s d => exact r1.app i1
/-- what was borrowed is read again: nothing but new things came -/
theorem Cfg.revive {ta : List E} {ta' : List V} (c : Cfg K H0 M0 H σ (τ.map kill ++ ta) (tv ++ ta') (ρ.map kill)) (c1 : Cfg K H0 M0 H σ τ tv ρ) : Cfg K H0 M0 H σ (τ ++ ta) (tv ++ ta') ρ := by
  obtain ⟨⟨zs, l, sl, r, n, f⟩, fr, go⟩ := c
  obtain ⟨⟨zs1, l1, sl1, r1, n1, f1⟩, fr1, go1⟩ := c1
  obtain ⟨z0, zr, e0, r0, rr⟩ := r.split l.symm
  obtain ⟨z2, z3, e2, r2, r3⟩ := r0.split (by simpa using l1.symm)
  obtain ⟨z4, z5, e4, r4, r5⟩ := r1.split l1.symm
  subst e0 e2
  exact ⟨⟨_, by simpa using l, sl1, ((r2.revive r4).app r3).app (rr.revive r5), n, f⟩, fr, go⟩
end

/-! ### targets -/
def tGv (K : PySem.W.Frag) (g : E → Rho → Option Rho) (is : List Nat) : TG := fun v σ H Q => ∃ H0 M0 τ tv ρ e ρ', Cfg K H0 M0 H σ (τ ++ [e]) (tv ++ [v]) ρ ∧ g e ρ = some ρ' ∧ ∀ σ', Cfg K H0 M0 H σ' τ tv ρ' → σ'.length = σ.length → (∀ (j : Nat), j ∉ is → σ'[j]? = σ[j]?) → Q σ' H
def gsRun : List (E → Rho → Option Rho) → List E → Rho → Option Rho
  | [], [], ρ => some ρ
  | g :: gs, e :: es, ρ => (match g e ρ with | some ρ1 => gsRun gs es ρ1 | none => none)
  | _, _, _ => none
def tGsv (K : PySem.W.Frag) (gs : List (E → Rho → Option Rho)) (is : List Nat) : TGs := fun vs σ H Q => ∃ H0 M0 τ tv ρ es ρ', vs.length = es.length ∧ Cfg K H0 M0 H σ (τ ++ es.reverse) (tv ++ vs.reverse) ρ ∧ gsRun gs es ρ = some ρ' ∧
  ∀ σ', Cfg K H0 M0 H σ' τ tv ρ' → σ'.length = σ.length → (∀ (j : Nat), j ∉ is → σ'[j]? = σ[j]?) → Q σ' H
structure VG (X : Cx) (t : Expr) (g : E → Rho → Option Rho) (is : List Nat) : Prop where
  pg : PG X t (tGv X.K g is)
  out : ∀ (e : E) (ρ ρ' : Rho), g e ρ = some ρ' → ρ'.length = ρ.length ∧ ∀ (j : Nat), j ∉ is → ρ'[j]? = ρ[j]?
structure VGs (X : Cx) (ts : List Expr) (gs : List (E → Rho → Option Rho)) (is : List Nat) : Prop where
  pgs : PGs X ts (tGsv X.K gs is)
  out : ∀ (es : List E) (ρ ρ' : Rho), gsRun gs es ρ = some ρ' → ρ'.length = ρ.length ∧ ∀ (j : Nat), j ∉ is → ρ'[j]? = ρ[j]?
theorem _root_.L2.PG.weak {X : Cx} {e : Expr} {t t' : TG} (h : PG X e t) (i : ∀ v σ H Q, t' v σ H Q → t v σ H Q) : PG X e t' := ⟨fun pins s σ H v u Q I r q => h.run pins s σ H v u Q I r (i v σ H Q q)⟩
theorem _root_.L2.PGs.weak {X : Cx} {e : List Expr} {t t' : TGs} (h : PGs X e t) (i : ∀ v σ H Q, t' v σ H Q → t v σ H Q) : PGs X e t' := ⟨fun pins s σ H v u Q I r q => h.run pins s σ H v u Q I r (i v σ H Q q)⟩
def gN (i : Nat) : E → Rho → Option Rho := fun e ρ => if i < ρ.length ∧ isP e = false then some (ρ.set i e) else none
def cmpE : E → Option (List E)
  | .o .v (.tup ds) => some (ds.map fun d => .o .v d)
  | .b (.tup ds) => some (ds.map mkR)
  | _ => none
def gT (gs : List (E → Rho → Option Rho)) : E → Rho → Option Rho := fun e ρ => match cmpE e with
  | some es => if es.length = gs.length then gsRun gs es ρ else none
  | none => none
section
variable {X : Cx} {pos : Pos} {t : Expr} {ts : List Expr} {g : E → Rho → Option Rho} {gs : List (E → Rho → Option Rho)} {is js : List Nat}
theorem vg_name {i : Nat} {x : Str} (hN : X.N.Nodup) (hi : X.N[i]? = some x) (hx : Loc X.env.scope x) (hf : X.fn x = true ∨ X.env.scope.names.lookup x = some .local := by first | exact .inl rfl | exact .inr rfl | assumption) : VG X (.Name x pos) (gN i) [i] := by
  refine ⟨?_, fun e ρ ρ' h => ?_⟩
  rotate_left
  · unfold gN at h
    split at h
    · cases h
      exact ⟨by simp, fun j hj => List.getElem?_set_ne (by intro q; exact hj (by simp [q]))⟩
    · cases h
  refine ((pg_name (i := i) hN hi hx hf).weak fun v σ H Q ⟨H0, M0, τ, tv, ρ, e, ρ', c, hg, k⟩ => ?_)
  unfold gN at hg
  split at hg
  · rename_i hc
    cases hg
    refine k _ (c.put hc.1 hc.2) (by simp) fun j hj => ?_
    rw [List.getElem?_set_ne]
    intro q
    exact hj (by simp [q])
  · cases hg
theorem vgs_nil : VGs X [] [] [] := by
  refine ⟨(pgs_nil (X := X)).weak fun vs σ H Q ⟨H0, M0, τ, tv, ρ, es, ρ', hl, c, hg, k⟩ => ?_, fun es ρ ρ' h => by cases es <;> cases h; exact ⟨rfl, fun _ _ => rfl⟩⟩
  cases es with
  | nil =>
    cases vs with
    | nil =>
      cases hg
      exact ⟨rfl, k σ (by simpa using c) rfl fun _ _ => rfl⟩
    | cons _ _ => simp at hl
  | cons _ _ => cases hg
theorem vgs_cons (h1 : VG X t g is) (h2 : VGs X ts gs js) (hs : (assignEach (t :: ts) X.env).map (·.2) = assign t X.env :: (assignEach ts X.env).map (·.2) := by rfl) : VGs X (t :: ts) (g :: gs) (is ++ js) := by
  refine ⟨?_, fun es ρ ρ' h => ?_⟩
  rotate_left
  · cases es with
    | nil => cases h
    | cons e es =>
      simp only [gsRun] at h
      cases h3 : g e ρ with
      | none => rw [h3] at h; cases h
      | some ρ1 =>
        rw [h3] at h
        obtain ⟨a1, b1⟩ := h1.out _ _ _ h3
        obtain ⟨a2, b2⟩ := h2.out _ _ _ h
        exact ⟨a2.trans a1, fun j hj => (b2 j fun q => hj (List.mem_append_right _ q)).trans (b1 j fun q => hj (List.mem_append_left _ q))⟩
  refine ((pgs_cons h1.pg h2.pgs hs).weak fun vs σ H Q ⟨H0, M0, τ, tv, ρ, es, ρ', hl, c, hg, k⟩ => ?_)
  cases es with
  | nil => cases hg
  | cons e es =>
    cases vs with
    | nil => simp at hl
    | cons v vs =>
      simp only [gsRun] at hg
      cases h3 : g e ρ with
      | none => rw [h3] at hg; cases hg
      | some ρ1 =>
        rw [h3] at hg
        rw [List.reverse_cons, List.reverse_cons, ← List.append_assoc, ← List.append_assoc] at c
        refine ⟨v, vs, rfl, H0, M0, τ ++ es.reverse, tv ++ vs.reverse, ρ, e, ρ1, c, h3, fun σ' c' hl' hj => ?_⟩
        refine ⟨H0, M0, τ, tv, ρ1, es, ρ', by simpa using hl, c', hg, fun σ'' c'' hl'' hj'' => ?_⟩
        exact k σ'' c'' (hl''.trans hl') fun j hm => by
          rw [hj'' j (fun q => hm (List.mem_append_right _ q)), hj j (fun q => hm (List.mem_append_left _ q))]
theorem Cfg.pushAll {K : PySem.W.Frag} {H0 H : Hp} {M0 : Bs} {σ : L2.St} {ρ : List E} {zs : List Addr} {τ : List E} {tv : List V} (c : CfgZ K H0 M0 H σ τ tv ρ zs) : ∀ {us : List V} {es : List E}, FrL K zs H es us → (∀ e ∈ es, (∃ d, e = .o .v d) ∨ ∃ d, e = .b d) →
    CfgZ K H0 M0 H σ (τ ++ es.reverse) (tv ++ us.reverse) ρ zs
  | [], [], _, _ => by simpa using c
  | [], _ :: _, h, _ => nomatch h
  | _ :: _, [], h, _ => nomatch h
  | v :: us, e :: es, h, k => by
    have step : ∀ (e : E) (v : V) (ez : Ents K (hid H zs) H [e] [v] []) {es : List E} {us : List V}, CfgZ K H0 M0 H σ (τ ++ es.reverse) (tv ++ us.reverse) ρ zs → us.length = es.length → CfgZ K H0 M0 H σ (τ ++ (e :: es).reverse) (tv ++ (v :: us).reverse) ρ zs := by
      intro e v ez es us c' hl
      obtain ⟨za, zb, e1, ra, rb⟩ := c'.ents.split c'.len.symm
      refine ⟨by simp [c.len, hl], c'.sl, ?_, c'.once, c'.old, c'.frame, c'.gone⟩
      have := ra.app (ez.app rb)
      rw [e1]
      rw [e1] at this
      simpa using this
    rcases k e List.mem_cons_self with ⟨d, rfl⟩ | ⟨d, rfl⟩
    · cases h with
      | o r h =>
        exact step _ _ (by simpa using (Own.v r Own.nil).ent) (Cfg.pushAll c h fun e m => k e (List.mem_cons_of_mem _ m)) h.len
    · cases h with
      | b r h => exact step _ _ (.b r .nil) (Cfg.pushAll c h fun e m => k e (List.mem_cons_of_mem _ m)) h.len
theorem frl_mkR {K : PySem.W.Frag} {H : Hp} {zs : List Addr} (hm : ∀ z ∈ zs, Mine (H z)) : ∀ {us : List V} {ds : List D}, Rp K H us ds → FrL K zs H (ds.map mkR) us
  | [], [], _ => .nil
  | [], _ :: _, r => nomatch r
  | _ :: _, [], r => nomatch r
  | v :: us, d :: ds, r => by
    obtain ⟨r1, r2⟩ := r.uncons
    rw [List.map_cons]
    unfold mkR
    split
    · rename_i hi
      exact .o (r1.immT (by simp [imms, hi]) (kp_hid hm)) (frl_mkR hm r2)
    · exact .b r1 (frl_mkR hm r2)
theorem frl_fz {K : PySem.W.Frag} {H : Hp} {zs : List Addr} : ∀ {us : List V} {ds : List D}, Rp K (hid H zs) us ds → FrL K zs H (ds.map fun d => .o .v d) us
  | [], [], _ => .nil
  | [], _ :: _, r => nomatch r
  | _ :: _, [], r => nomatch r
  | v :: us, d :: ds, r => .o r.uncons.1 (frl_fz r.uncons.2)
theorem mkR_cases (d : D) : (∃ d', mkR d = .o .v d') ∨ ∃ d', mkR d = .b d' := by
  unfold mkR
  split
  · exact .inl ⟨d, rfl⟩
  · exact .inr ⟨d, rfl⟩
theorem vg_tup {k : Nat} {n : Nat} (hc : X.calm = true) (h : VGs X ts gs is) (hng : gs.length = n := by rfl) (hn : (assignEach ts X.env).length = n := by rfl) (hst : (assignEach ts X.env).findIdx? (·.1) = none := by rfl) : VG X (.Tuple ts k pos) (gT gs) is := by
  refine ⟨?_, fun e ρ ρ' hh => ?_⟩
  rotate_left
  · unfold gT at hh
    cases h1 : cmpE e with
    | none => rw [h1] at hh; cases hh
    | some es =>
      rw [h1] at hh
      simp only at hh
      split at hh
      · exact h.out _ _ _ hh
      · cases hh
  refine ((pg_tup hc h.pgs hn hst).weak fun v σ H Q ⟨H0, M0, τ, tv, ρ, e, ρ', c, hg, kk⟩ => ?_)
  unfold gT at hg
  cases h1 : cmpE e with
  | none => rw [h1] at hg; cases hg
  | some es =>
    rw [h1] at hg
    simp only at hg
    split at hg
    · rename_i hl
      obtain ⟨zs, cz, fl⟩ := c.open_ (es := [e]) (us := [v]) rfl
      have key : ∃ a xs, v = .ref a ∧ SqT X.K H a xs ∧ FrL X.K zs H es xs ∧ ∀ e' ∈ es, (∃ d, e' = .o .v d) ∨ ∃ d, e' = .b d := by
        cases e with
        | x => cases h1
        | p _ _ => cases h1
        | o s d =>
          cases s with
          | v =>
            cases d with
            | tup ds =>
              cases h1
              cases fl with
              | o r _ =>
                cases r with
                | tup q1 q2 _ =>
                  refine ⟨_, _, rfl, sqT_same (hid_sub _ _) q1, frl_fz q2, fun e' m => ?_⟩
                  obtain ⟨d, _, rfl⟩ := List.mem_map.mp m
                  exact .inl ⟨d, rfl⟩
            | _ => cases h1
          | _ => cases h1
        | b d =>
          cases d with
          | tup ds =>
            cases h1
            cases fl with
            | b r _ =>
              cases r with
              | tup q1 q2 _ =>
                refine ⟨_, _, rfl, q1, frl_mkR cz.mine q2, fun e' m => ?_⟩
                obtain ⟨d, _, rfl⟩ := List.mem_map.mp m
                exact mkR_cases d
          | _ => cases h1
      obtain ⟨a, xs, hv, hq, hf, hk⟩ := key
      have hlen := hf.len
      exact ⟨a, xs, hv, hq, by omega, H0, M0, τ, tv, ρ, es, ρ', hlen, (Cfg.pushAll cz hf hk).cfg, hg, kk⟩
    · cases hg
end

/-! ### what is walked -/
inductive IO where
  | ok (srcs items : List E) (p : Option Rho)
  | ex (C : Addr) (pl : Option (Str × D)) (p : Option Rho)
  | st
abbrev MI := Rho → IO
/-- J gives the items, one after another, while the sources stand as temps -/
structure WalkD (K : PySem.W.Frag) (J : It) (srcs : List E) (us : List V) (items : List E) : Prop where
  go : ∀ {H0 : Hp} {M0 : Bs} {H : Hp} {σ : L2.St} {τ : List E} {tv : List V} {ρ : Rho} {i : Nat}, Cfg K H0 M0 H σ (τ ++ srcs) (tv ++ us) ρ → i < items.length → J.go i H
  stop : ∀ {H0 : Hp} {M0 : Bs} {H : Hp} {σ : L2.St} {τ : List E} {tv : List V} {ρ : Rho}, Cfg K H0 M0 H σ (τ ++ srcs) (tv ++ us) ρ → J.stop items.length H
  yld : ∀ {H0 : Hp} {M0 : Bs} {H : Hp} {σ : L2.St} {τ : List E} {tv : List V} {ρ : Rho} {i : Nat} {x : V} {H' : Hp}, Cfg K H0 M0 H σ (τ ++ srcs) (tv ++ us) ρ → i < items.length → J.yld i H x H' →
    ∃ e, items[i]? = some e ∧ Cfg K H0 M0 H' σ ((τ ++ srcs) ++ [e]) ((tv ++ us) ++ [x]) ρ ∧ Same H H'
def RunI (K : PySem.W.Frag) (W : WX) (H0 : Hp) (M0 : Bs) (τ : List E) (tv : List V) (σ : L2.St) (ρ : Rho) (Hs : Hp) (R : It → Hp → Prop) : IO → Prop
  | .ok srcs items p => ∀ J us H', us.length = srcs.length → WalkD K J srcs us items → Cfg K H0 M0 H' σ (kp p τ ++ srcs) (tv ++ us) (p.getD ρ) → (p = none → Same Hs H') → R J H'
  | .ex C pl p => RunX K W H0 M0 τ tv σ ρ C pl p
  | .st => False
def tVi (K : PySem.W.Frag) (W : WX) (m : MI) : TI := fun σ H R => ∃ H0 M0 τ tv ρ, Cfg K H0 M0 H σ τ tv ρ ∧ RunI K W H0 M0 τ tv σ ρ H R (m ρ)
structure VI (X : Cx) (W : WX) (tg it : Expr) (m : MI) : Prop where
  pi : PI X tg it (tVi X.K W m)
theorem _root_.L2.PI.weak {X : Cx} {tg e : Expr} {t t' : TI} (h : PI X tg e t) (i : ∀ σ H R, t' σ H R → t σ H R) : PI X tg e t' := ⟨fun pins s σ H R I q => h.run pins s σ H R I (i σ H R q)⟩
/-- an item of a source -/
def itE (e : E) (d : D) : E := match e with
  | .o _ _ => .o .v d
  | _ => mkR d
def srcE : E → E
  | .o _ d => .o .v d
  | e => e
/-- a list, a tuple, the script -/
def iSeq (m : M) : MI := fun ρ => match m ρ with
  | .ok e p => (match e.rd with
    | some (.lst xs) => .ok [srcE e] (xs.map (itE e)) p
    | some (.tup xs) => .ok [srcE e] (xs.map (itE e)) p
    | some (.scr xs) => .ok [srcE e] (xs.map (itE e)) p
    | _ => .st)
  | .ex C pl p => .ex C pl p
  | .st => .st
/-- range(n) -/
def iRange (m : M) : MI := fun ρ => match m ρ with
  | .ok e p => (match e.rd with
    | some (.int j) => if -(2 ^ 62) ≤ j ∧ j < 2 ^ 62 then .ok [] ((List.range j.toNat).map fun (i : Nat) => .o .v (.int (i : Int))) p else .st
    | _ => .st)
  | .ex C pl p => .ex C pl p
  | .st => .st
/-- range(a, b) -/
def iRange2 (ma mb : M) : MI := fun ρ => match a2 ma mb ρ with
  | .ok [e1, e2] p => (match e1.rd, e2.rd with
    | some (.int i), some (.int j) => if -(2 ^ 62) ≤ i ∧ i < 2 ^ 62 ∧ -(2 ^ 62) ≤ j ∧ j < 2 ^ 62 then .ok [] ((List.range (j - i).toNat).map fun (k : Nat) => .o .v (.int (i + k))) p else .st
    | _, _ => .st)
  | .ex C pl p => .ex C pl p
  | _ => .st
section
variable {X : Cx} {W : WX} {tg l a b : Expr} {m ma mb : M} {p pos : Pos}
/-- over a list or a tuple, whichever it is -/
def iSq (K : PySem.W.Frag) (tl : TE) : TI := fun σ H R => tl σ H fun x H1 => ∃ a, x = .ref a ∧ ((∃ xs, SqL K H1 a xs) ∧ R (Itl K a) H1 ∨ (∃ xs, SqT K H1 a xs) ∧ R (Itt K a) H1)
theorem pi_sq {tl : TE} (hl : PE X l tl) : PI X tg l (iSq X.K tl) := by
  refine ⟨fun pins s σ H R I h => ?_⟩
  refine thn (hl.run pins s σ H _ I h) fun v s1 ⟨x, H1, I1, r1, a, ex, q⟩ => ?_
  subst ex
  cases r1
  have fp : ∀ b ∈ [s1.heap.objs.size], FpOk X pins H1 b := fun b hb => by
    have := List.mem_singleton.mp hb
    subst this
    exact I1.fpOk (Nat.le_refl _) (I1.hok.fresh (Nat.le_refl _))
  rcases q with ⟨⟨xs, hq⟩, q⟩ | ⟨⟨xs, hq⟩, q⟩
  · obtain ⟨its, rv, pl, _⟩ := I1.list hq
    exact wpAny_pyIter_list pl.isList ⟨_, [s1.heap.objs.size], _, _, H1, rfl, I1.kept (t' := s1.toks) fun b o e => Heap.get?_push_of_some _ e, turn_list a _, ⟨_, Heap.get?_push_size _ rfl, rfl, rfl⟩, fp, q⟩
  · obtain ⟨its, rv, pl, _⟩ := I1.tuple hq
    exact wpAny_pyIter_tuple (show s1.heap.IsTuple a its.toArray from pl) ⟨_, [s1.heap.objs.size], _, _, H1, rfl, I1.kept (t' := s1.toks) fun b o e => Heap.get?_push_of_some _ e, turn_tuple a _, ⟨_, Heap.get?_push_size _ rfl, rfl, rfl⟩, fp, q⟩
section
variable {K : PySem.W.Frag} {H0 H : Hp} {M0 : Bs} {σ : L2.St} {τ : List E} {tv : List V} {ρ : Rho} {v : V} {e : E}
theorem srcE_rd (e : E) : (srcE e).rd = e.rd := by cases e <;> rfl
theorem Cfg.src (c : Cfg K H0 M0 H σ (τ ++ [e]) (tv ++ [v]) ρ) : Cfg K H0 M0 H σ (τ ++ [srcE e]) (tv ++ [v]) ρ := by
  cases e with
  | o s d => exact c.freeze
  | _ => exact c
theorem it_entry (c : Cfg K H0 M0 H σ (τ ++ [srcE e]) (tv ++ [v]) ρ) {d d' : D} {x : V} {i : Nat} {xs : List D} (hd : e.rd = some d') (hi : xs[i]? = some d)
    (hk : ∀ G, Same G H → Rp K G [v] [d'] → ∃ us, us[i]? = some x ∧ Rp K G us xs) : Cfg K H0 M0 H σ ((τ ++ [srcE e]) ++ [itE e d]) ((tv ++ [v]) ++ [x]) ρ := by
  have plain : ∀ {e0 : E}, Cfg K H0 M0 H σ (τ ++ [e0]) (tv ++ [v]) ρ → e0.rd = some d' → Cfg K H0 M0 H σ ((τ ++ [e0]) ++ [mkR d]) ((tv ++ [v]) ++ [x]) ρ := by
    intro e0 c h
    obtain ⟨us, h1, h2⟩ := hk H (Same.refl _) (c.last h)
    obtain ⟨d2, e2, r2⟩ := h2.getv h1
    rw [hi] at e2; cases e2
    exact c.pushR r2
  cases e with
  | x => cases hd
  | p s d0 => exact plain c hd
  | b d0 => exact plain c hd
  | o s d0 =>
    cases hd
    obtain ⟨⟨zs', l, sl, r, n, f⟩, fr, go⟩ := id c
    have l' : tv.length = τ.length := by simp at l; omega
    have r0 := r
    rw [List.append_assoc, List.append_assoc] at r0
    obtain ⟨za, zb, e1, ra, rb⟩ := r0.split l'.symm
    obtain ⟨zc, zd, e2, rc, rd⟩ := rb.uncons
    have rv := (Ents.o1 (s := .v) (d := d') rc).v0.2
    obtain ⟨us, h1, h2⟩ := hk _ (hid_sub _ _) rv
    obtain ⟨d2, e3, r2⟩ := h2.getv h1
    rw [hi] at e3; cases e3
    have cz' : CfgZ K H0 M0 H σ (τ ++ [srcE (.o s d')]) (tv ++ [v]) ρ zs' := ⟨l, sl, r, n, f, fr, go⟩
    exact cz'.pushV r2
end
theorem walk_l {K : PySem.W.Frag} {e : E} {a : Addr} {xs : List D} (hd : e.rd = some (.lst xs) ∨ e.rd = some (.scr xs)) : WalkD K (Itl K a) [srcE e] [.ref a] (xs.map (itE e)) := by
  have rdg : ∀ {H0 M0 H σ τ tv ρ}, Cfg K H0 M0 H σ (τ ++ [srcE e]) (tv ++ [.ref a]) ρ → ∃ us, SqL K H a us ∧ us.length = xs.length := by
    intro H0 M0 H σ τ tv ρ c
    rcases hd with h | h
    · have := c.last ((srcE_rd e).trans h)
      cases this with | lst q1 q2 _ => exact ⟨_, SqL.of q1, q2.length⟩
    · have := c.last ((srcE_rd e).trans h)
      cases this with | scr q1 q2 _ => exact ⟨_, q1.sq, q2.length⟩
  refine ⟨fun {H0 M0 H σ τ tv ρ i} c hi => ?_, fun c => ?_, fun {H0 M0 H σ τ tv ρ i x H'} c hi hy => ?_⟩
  · obtain ⟨us, h1, h3⟩ := rdg c
    have hi' : i < us.length := by simpa [h3] using hi
    exact ⟨us, us[i], h1, List.getElem?_eq_getElem hi'⟩
  · obtain ⟨us, h1, h3⟩ := rdg c
    exact ⟨us, h1, by simp [h3]⟩
  · obtain ⟨e1, h4⟩ := hy
    subst e1
    have hi' : i < xs.length := by simpa using hi
    refine ⟨itE e xs[i], by simp [hi'], ?_, Same.refl _⟩
    rcases hd with h | h
    · refine it_entry c h (List.getElem?_eq_getElem hi') fun G sg r => ?_
      cases r with | lst q1 q2 _ => exact ⟨_, h4 _ (SqL.of (sg _ _ q1)), q2⟩
    · refine it_entry c h (List.getElem?_eq_getElem hi') fun G sg r => ?_
      cases r with | scr q1 q2 _ => exact ⟨_, h4 _ (q1.same sg).sq, q2⟩
theorem walk_t {K : PySem.W.Frag} {e : E} {a : Addr} {xs : List D} (hd : e.rd = some (.tup xs)) : WalkD K (Itt K a) [srcE e] [.ref a] (xs.map (itE e)) := by
  have rdg : ∀ {H0 M0 H σ τ tv ρ}, Cfg K H0 M0 H σ (τ ++ [srcE e]) (tv ++ [.ref a]) ρ → ∃ us, SqT K H a us ∧ us.length = xs.length := by
    intro H0 M0 H σ τ tv ρ c
    have := c.last ((srcE_rd e).trans hd)
    cases this with | tup q1 q2 _ => exact ⟨_, q1, q2.length⟩
  refine ⟨fun {H0 M0 H σ τ tv ρ i} c hi => ?_, fun c => ?_, fun {H0 M0 H σ τ tv ρ i x H'} c hi hy => ?_⟩
  · obtain ⟨us, h1, h3⟩ := rdg c
    have hi' : i < us.length := by simpa [h3] using hi
    exact ⟨us, us[i], h1, List.getElem?_eq_getElem hi'⟩
  · obtain ⟨us, h1, h3⟩ := rdg c
    exact ⟨us, h1, by simp [h3]⟩
  · obtain ⟨e1, h4⟩ := hy
    subst e1
    have hi' : i < xs.length := by simpa using hi
    refine ⟨itE e xs[i], by simp [hi'], ?_, Same.refl _⟩
    refine it_entry c hd (List.getElem?_eq_getElem hi') fun G sg r => ?_
    cases r with | tup q1 q2 _ => exact ⟨_, h4 _ (sqT_same sg q1), q2⟩
theorem vi_seq (h : VE X W l m) : VI X W tg l (iSeq m) := by
  refine ⟨(pi_sq h.pe).weak fun σ H R ⟨H0, M0, τ, tv, ρ, c, q⟩ => ?_⟩
  unfold iSeq at q
  refine ⟨H0, M0, τ, tv, ρ, c, ?_⟩
  cases hm : m ρ with
  | st => rw [hm] at q; exact q
  | ex C pl p => rw [hm] at q; exact q
  | ok e p =>
    rw [hm] at q
    intro v H1 c1 s1
    simp only at q
    split at q
    · rename_i xs hd
      have r := c1.last hd
      cases r with | lst q1 q2 _ => exact ⟨_, rfl, .inl ⟨⟨_, SqL.of q1⟩, q _ _ H1 rfl (walk_l (.inl hd)) c1.src s1⟩⟩
    · rename_i xs hd
      have r := c1.last hd
      cases r with | tup q1 q2 _ => exact ⟨_, rfl, .inr ⟨⟨_, q1⟩, q _ _ H1 rfl (walk_t hd) c1.src s1⟩⟩
    · rename_i xs hd
      have r := c1.last hd
      cases r with | scr q1 q2 _ => exact ⟨_, rfl, .inl ⟨⟨_, q1.sq⟩, q _ _ H1 rfl (walk_l (.inr hd)) c1.src s1⟩⟩
    · exact q.elim
theorem walk_r {K : PySem.W.Frag} {lo : Int} {n : Nat} : WalkD K (Itr lo n) [] [] ((List.range n).map fun (k : Nat) => .o .v (.int (lo + k))) := by
  refine ⟨fun {H0 M0 H σ τ tv ρ i} c hi => by (have h : i < n := by simpa using hi); exact h, fun c => by (show n ≤ _); simp, fun {H0 M0 H σ τ tv ρ i x H'} c hi hy => ?_⟩
  obtain ⟨e1, e2⟩ := hy
  subst e1 e2
  have hi' : i < n := by simpa using hi
  refine ⟨.o .v (.int (lo + i)), by simp [hi'], c.pushImm (.int _ .nil) rfl, Same.refl _⟩
theorem vi_range (hg : Gl X "range") (hm : X.mg "range" = none) (h : VE X W a m) (hs : starEach [a] X.env = [(false, eval a X.env)] := by rfl) : VI X W tg (.Call (.Name "range" p) [a] [] pos) (iRange m) := by
  refine ⟨(pi_range1 hg hm (va_cons h va_nil hs).pa hs).weak fun σ H R ⟨H0, M0, τ, tv, ρ, c, q⟩ => ?_⟩
  refine ⟨H0, M0, τ, tv, ρ, c, ?_⟩
  unfold iRange at q
  unfold aCons
  cases hm : m ρ with
  | st => simp only [hm] at q; exact q
  | ex C pl p => simp only [hm] at q; exact q
  | ok e p =>
    simp only [hm] at q
    intro vs H1 hl c1 s1
    match vs, hl, c1 with
    | [v], _, c1 =>
      split at q
      · rename_i j hd
        split at q
        · rename_i hb
          have c2 : Cfg X.K H0 M0 H1 σ (kp p τ ++ [e]) (tv ++ [v]) (p.getD ρ) := by simpa [aNil, kq, por] using c1
          have r := c2.last hd
          have e1 := r.int1
          subst e1
          refine ⟨j, rfl, hb.1, hb.2, q (Itr 0 j.toNat) [] H1 rfl ?_ (by simpa using c2.drop1) s1⟩
          have := walk_r (K := X.K) (lo := 0) (n := j.toNat)
          simpa using this
        · exact q.elim
      · exact q.elim
theorem vi_range2 (hg : Gl X "range") (hm : X.mg "range" = none) (ha : VE X W a ma) (hb : VE X W b mb) (hs : starEach [a, b] X.env = [(false, eval a X.env), (false, eval b X.env)] := by rfl) (hs2 : starEach [b] X.env = [(false, eval b X.env)] := by rfl) :
    VI X W tg (.Call (.Name "range" p) [a, b] [] pos) (iRange2 ma mb) := by
  refine ⟨(pi_range2 hg hm (va_cons ha (va_cons hb va_nil hs2) (by rw [hs, hs2])).pa hs hs2).weak fun σ H R ⟨H0, M0, τ, tv, ρ, c, q⟩ => ?_⟩
  refine ⟨H0, M0, τ, tv, ρ, c, ?_⟩
  unfold iRange2 at q
  show RunA _ _ _ _ _ _ _ _ _ _ (a2 ma mb ρ)
  cases hm : a2 ma mb ρ with
  | st => simp only [hm] at q; exact q
  | ex C pl p => simp only [hm] at q; exact q
  | ok es p =>
    simp only [hm] at q
    intro vs H1 hl c1 s1
    match es, vs, hl, c1, q with
    | [e1, e2], [v, w], _, c1, q =>
      simp only at q
      split at q
      · rename_i i j h1 h2
        split at q
        · rename_i hb
          have r := c1.reads (ds := [.int i, .int j]) rfl (by simp [h1, h2])
          have e1 := r.uncons.1.int1
          have e2 := r.uncons.2.int1
          subst e1 e2
          exact ⟨i, j, rfl, hb, q (Itr i (j - i).toNat) [] H1 rfl walk_r (by simpa using c1.drop rfl) s1⟩
        · exact q.elim
      · exact q.elim
end
end LP
end
section
/-! LP, part k: for, while, comprehensions. -/
namespace LP
open PySem PySem.Spec PyProof.Rows L2

def noB : List E → Bool
  | [] => true
  | .b _ :: _ => false
  | _ :: es => noB es
theorem noB_kill : ∀ {es : List E}, noB es = true → es.map kill = es
  | [], _ => rfl
  | .x :: es, h => by rw [List.map_cons, noB_kill (es := es) h]; rfl
  | .o _ _ :: es, h => by rw [List.map_cons, noB_kill (es := es) h]; rfl
  | .p _ _ :: es, h => by rw [List.map_cons, noB_kill (es := es) h]; rfl
  | .b _ :: es, h => by simp [noB] at h
def kf (k : Bool) (e : E) : E := if k = true then kill e else e

/-! ### for -/
def forRun (nb : Bool) (turn : E → Rho → SO) : List E → Rho → Bool → SO
  | [], ρ, k => .nx ρ k
  | e :: es, ρ, k => match turn (kf k e) ρ with
    | .nx ρ' k' => if (k' && nb) = true then .st else forRun nb turn es ρ' (k || k')
    | .ct ρ' k' => if (k' && nb) = true then .st else forRun nb turn es ρ' (k || k')
    | .bk ρ' k' => .nx ρ' (k || k')
    | .rt e ρ' k' => .rt e ρ' (k || k')
    | .ex C pl ρ' k' => .ex C pl ρ' (k || k')
    | .st => .st
def forTurn (g : E → Rho → Option Rho) (b : MS) : E → Rho → SO := fun e ρ => match g e ρ with
  | some ρ2 => b ρ2
  | none => .st
def sFor (it : MI) (g : E → Rho → Option Rho) (b : MS) : MS := fun ρ => match it ρ with
  | .ok srcs items p => (forRun (!noB srcs) (forTurn g b) items (p.getD ρ) false).or p.isSome
  | .ex C pl p => .ex C pl (p.getD ρ) p.isSome
  | .st => .st
theorem kk_app (k : Bool) (a b : List E) : kk k (a ++ b) = kk k a ++ kk k b := by cases k <;> simp [kk]
theorem kk_len (k : Bool) (a : List E) : (kk k a).length = a.length := by cases k <;> simp [kk]
section
variable {K : PySem.W.Frag} {W : WX} {H0 H : Hp} {M0 : Bs} {σ : L2.St} {τ : List E} {tv : List V} {ρ : Rho}
theorem Cfg.killLast {e : E} {v : V} (k : Bool) (c : Cfg K H0 M0 H σ (τ ++ [e]) (tv ++ [v]) ρ) : Cfg K H0 M0 H σ (τ ++ [kf k e]) (tv ++ [v]) ρ := by
  cases k with
  | false => exact c
  | true =>
    cases e with
    | b d => exact c.drop1.pushX
    | _ => exact c
theorem run_for {it : MI} {g : E → Rho → Option Rho} {is : List Nat} {b : MS} {Dn : Ends} (c : Cfg K H0 M0 H σ τ tv ρ) (q : RunS K W H0 M0 τ tv Dn (sFor it g b ρ)) : tFor (tVi K W it) (tGv K g is) (tVs K W b) Dn σ H := by
  unfold sFor at q
  refine ⟨H0, M0, τ, tv, ρ, c, ?_⟩
  cases hi : it ρ with
  | st => rw [hi] at q; exact q
  | ex C pl p =>
    rw [hi] at q
    intro dO H' c' pay
    rw [kk_kp] at c'
    exact q dO σ H' c' pay
  | ok srcs items p =>
    rw [hi] at q
    intro J us H1 hlu wd c1 s1
    rw [kk_kp] at c1
    have q := RunS.or (r := forRun (!noB srcs) (forTurn g b) items (p.getD ρ) false) q
    have hl1 : tv.length = (kk p.isSome τ).length := by rw [kk_len]; exact c.len
    -- what stands between the turns
    refine ⟨fun i m σ' H' => m = items.length - i ∧ i ≤ items.length ∧ ∃ k ρ', (k = true → noB srcs = true) ∧ RunS K W H0 M0 (kk p.isSome τ) tv Dn (forRun (!noB srcs) (forTurn g b) (items.drop i) ρ' k) ∧
        Cfg K H0 M0 H' σ' (kk k (kk p.isSome τ) ++ srcs) (tv ++ us) ρ', ⟨items.length, by simp, Nat.zero_le _, false, p.getD ρ, fun z => Bool.noConfusion z, by simpa using q, c1⟩, ?_⟩
    rintro i m σ' H' ⟨rfl, hle, k, ρ', hk, q', c'⟩
    by_cases hlt : i < items.length
    · refine .inr ⟨wd.go c' hlt, fun σ2 H2 => ∃ k2 ρ2, (k2 = true → noB srcs = true) ∧ RunS K W H0 M0 (kk p.isSome τ) tv Dn (forRun (!noB srcs) (forTurn g b) (items.drop (i + 1)) ρ2 k2) ∧
          Cfg K H0 M0 H2 σ2 (kk k2 (kk p.isSome τ) ++ srcs) (tv ++ us) ρ2, fun σ2 H2 h2 => ⟨items.length - (i + 1), by omega, rfl, hlt, h2⟩, fun x H2 hy => ?_⟩
      obtain ⟨e, he, c2, _⟩ := wd.yld c' hlt hy
      have ed : items.drop i = e :: items.drop (i + 1) := by
        rw [List.getElem?_eq_getElem hlt] at he
        cases he
        exact List.drop_eq_getElem_cons hlt
      rw [ed] at q'
      have c3 := c2.killLast k
      simp only [forRun, forTurn] at q'
      cases hg : g (kf k e) ρ' with
      | none => rw [hg] at q'; exact q'.elim
      | some ρ2 =>
        rw [hg] at q'
        refine ⟨H0, M0, _, _, ρ', kf k e, ρ2, c3, hg, fun σ3 c4 _ _ => ?_⟩
        refine ⟨H0, M0, _, _, ρ2, c4, ?_⟩
        have strip : ∀ {k' : Bool} {σ4 : L2.St} {H4 : Hp} {ρ4 : Rho}, Cfg K H0 M0 H4 σ4 (kk k' (kk k (kk p.isSome τ) ++ srcs)) (tv ++ us) ρ4 → Cfg K H0 M0 H4 σ4 (kk (k || k') (kk p.isSome τ)) tv ρ4 := by
          intro k' σ4 H4 ρ4 c5
          rw [kk_app, kk_or] at c5
          exact c5.drop (by rw [kk_len]; exact hlu)
        have cont : ∀ {k' : Bool} {ρ4 : Rho}, RunS K W H0 M0 (kk p.isSome τ) tv Dn (if (k' && !noB srcs) = true then SO.st else forRun (!noB srcs) (forTurn g b) (items.drop (i + 1)) ρ4 (k || k')) →
            ∀ σ4 H4, Cfg K H0 M0 H4 σ4 (kk k' (kk k (kk p.isSome τ) ++ srcs)) (tv ++ us) ρ4 → ∃ k2 ρ2, (k2 = true → noB srcs = true) ∧ RunS K W H0 M0 (kk p.isSome τ) tv Dn (forRun (!noB srcs) (forTurn g b) (items.drop (i + 1)) ρ2 k2) ∧
              Cfg K H0 M0 H4 σ4 (kk k2 (kk p.isSome τ) ++ srcs) (tv ++ us) ρ2 := by
          intro k' ρ4 hq σ4 H4 c5
          split at hq
          · exact hq.elim
          · rename_i hnb
            have hk' : k' = true → noB srcs = true := fun z => by
              subst z
              simpa using hnb
            refine ⟨k || k', ρ4, fun z => ?_, hq, ?_⟩
            · cases k with
              | true => exact hk rfl
              | false => exact hk' (by simpa using z)
            · rw [kk_app, kk_or] at c5
              cases k' with
              | false => exact c5
              | true =>
                have e1 : kk true srcs = srcs := noB_kill (hk' rfl)
                rw [e1] at c5
                exact c5
        cases hb : b ρ2 with
        | nx ρ4 k' => simp only [hb] at q'; exact fun σ4 H4 c5 => cont q' σ4 H4 c5
        | ct ρ4 k' => simp only [hb] at q'; exact fun σ4 H4 c5 => cont q' σ4 H4 c5
        | bk ρ4 k' => simp only [hb] at q'; exact fun σ4 H4 c5 => q' σ4 H4 (strip c5)
        | rt e4 ρ4 k' =>
          simp only [hb] at q'
          intro v σ4 H4 c5
          refine q' v σ4 H4 ?_
          rw [kk_app, kk_or, List.append_assoc, List.append_assoc] at c5
          exact c5.dropMid (by rw [kk_len]; exact hl1) (by rw [kk_len]; exact hlu)
        | ex C pl ρ4 k' => simp only [hb] at q'; exact fun dO σ4 H4 c5 pay => q' dO σ4 H4 (strip c5) pay
        | st => simp only [hb] at q'; exact q'
    · have ei : i = items.length := by omega
      subst ei
      rw [List.drop_length] at q'
      exact .inl ⟨wd.stop c', q' σ' H' (c'.drop hlu)⟩
end
section
variable {X : Cx} {W : WX} {tg iter : Expr} {body : List Stmt} {it : MI} {g : E → Rho → Option Rho} {is : List Nat} {b : MS} {pos : Pos}
theorem vs_for (hp : PassesOwn (model X.prog X.w) X.A X.env X.xe) (hc : X.calm = true) (hi : VI X W tg iter it) (hg : VG X tg g is) (hb : VB X W body b) (hs : ∀ x, foldedSetIterable iter X.env x = pure x := by intro _; rfl) : VS X W (.For tg iter body [] pos) (sFor it g b) :=
  ⟨(ps_for hp hc hi.pi hg.pg hb.pss hs).weak fun D σ H ⟨H0, M0, τ, tv, ρ, c, q⟩ => run_for c q⟩
end

/-! ### while -/
def whN (t : M) (b : MS) : Nat → Rho → Bool → SO
  | 0, _, _ => .st
  | n + 1, ρ, k => match t ρ with
    | .ok e p => (match blE e with
      | some true => (match b (p.getD ρ) with
        | .nx ρ' k' => whN t b n ρ' (k || (p.isSome || k'))
        | .ct ρ' k' => whN t b n ρ' (k || (p.isSome || k'))
        | .bk ρ' k' => .nx ρ' (k || (p.isSome || k'))
        | .rt e ρ' k' => .rt e ρ' (k || (p.isSome || k'))
        | .ex C pl ρ' k' => .ex C pl ρ' (k || (p.isSome || k'))
        | .st => .st)
      | some false => .nx (p.getD ρ) (k || p.isSome)
      | none => .st)
    | .ex C pl p => .ex C pl (p.getD ρ) (k || p.isSome)
    | .st => .st
open Classical in
noncomputable def sWhile (t : M) (b : MS) : MS := fun ρ => if h : ∃ n, whN t b n ρ false ≠ .st then whN t b h.choose ρ false else .st
theorem whN_more {t : M} {b : MS} : ∀ {n : Nat} {ρ : Rho} {k : Bool}, whN t b n ρ k ≠ .st → whN t b (n + 1) ρ k = whN t b n ρ k
  | 0, _, _, h => absurd rfl h
  | n + 1, ρ, k, h => by
    rw [whN] at h
    rw [whN, whN]
    cases ht : t ρ with
    | st => rfl
    | ex C pl p => rfl
    | ok e p =>
      simp only [ht] at h ⊢
      cases hb : blE e with
      | none => rfl
      | some c =>
        cases c with
        | false => rfl
        | true =>
          simp only [hb] at h ⊢
          cases hbo : b (p.getD ρ) with
          | nx ρ' k' => simp only [hbo] at h ⊢; exact whN_more h
          | ct ρ' k' => simp only [hbo] at h ⊢; exact whN_more h
          | _ => rfl
theorem whN_add {t : M} {b : MS} {n : Nat} {ρ : Rho} {k : Bool} (h : whN t b n ρ k ≠ .st) : ∀ m, whN t b (n + m) ρ k = whN t b n ρ k
  | 0 => rfl
  | m + 1 => by
    have := whN_add h m
    rw [← Nat.add_assoc, whN_more (by rw [this]; exact h), this]
theorem sWhile_eq {t : M} {b : MS} {ρ : Rho} {r : SO} (n : Nat) (h : whN t b n ρ false = r) (hr : r ≠ .st) : sWhile t b ρ = r := by
  have hx : ∃ n, whN t b n ρ false ≠ .st := ⟨n, by rw [h]; exact hr⟩
  unfold sWhile
  rw [dif_pos hx]
  have h1 := whN_add hx.choose_spec n
  have h2 := whN_add (k := false) (n := n) (by rw [h]; exact hr) hx.choose
  rw [Nat.add_comm] at h2
  rw [← h1, h2, h]
section
variable {K : PySem.W.Frag} {W : WX} {H0 H : Hp} {M0 : Bs} {σ : L2.St} {τ : List E} {tv : List V} {ρ : Rho}
theorem run_while {t : M} {b : MS} {Dn : Ends} (c : Cfg K H0 M0 H σ τ tv ρ) (q : RunS K W H0 M0 τ tv Dn (sWhile t b ρ)) : tWhile (tVt K W t) (tVs K W b) Dn σ H := by
  unfold sWhile at q
  split at q
  · rename_i hx
    generalize hx.choose = n at q
    refine ⟨fun m σ' H' => ∃ k ρ', RunS K W H0 M0 τ tv Dn (whN t b m ρ' k) ∧ Cfg K H0 M0 H' σ' (kk k τ) tv ρ', ⟨n, false, ρ, q, c⟩, ?_⟩
    rintro m σ' H' ⟨k, ρ', q', c'⟩
    cases m with
    | zero => exact q'.elim
    | succ m =>
      rw [whN] at q'
      refine ⟨H0, M0, kk k τ, tv, ρ', c', ?_⟩
      cases ht : t ρ' with
      | st => simp only [ht] at q'; exact q'
      | ex C pl p =>
        simp only [ht] at q'
        intro dO H2 c2 pay
        rw [kk_kp, kk_or] at c2
        exact q' dO σ' H2 c2 pay
      | ok e p =>
        simp only [ht] at q'
        intro v H2 c2 _
        rw [kk_kp, kk_or] at c2
        cases hb : blE e with
        | none => simp only [hb] at q'; exact q'.elim
        | some cc =>
          have e1 := (c2.last (blE_rd hb)).bl1
          refine ⟨cc, e1, ?_⟩
          have c3 := c2.drop1
          cases cc with
          | false =>
            simp only [hb] at q'
            exact iteF (q' σ' H2 c3)
          | true =>
            simp only [hb] at q'
            refine iteT ⟨fun σ4 H4 => ∃ k2 ρ2, RunS K W H0 M0 τ tv Dn (whN t b m ρ2 k2) ∧ Cfg K H0 M0 H4 σ4 (kk k2 τ) tv ρ2, fun σ4 H4 h => ⟨m, Nat.lt_succ_self m, h⟩, ?_⟩
            refine ⟨H0, M0, _, _, _, c3, ?_⟩
            cases hbo : b (p.getD ρ') with
            | nx ρ4 k' =>
              simp only [hbo] at q'
              intro σ4 H4 c5
              rw [kk_or, Bool.or_assoc] at c5
              exact ⟨_, _, q', c5⟩
            | ct ρ4 k' =>
              simp only [hbo] at q'
              intro σ4 H4 c5
              rw [kk_or, Bool.or_assoc] at c5
              exact ⟨_, _, q', c5⟩
            | bk ρ4 k' =>
              simp only [hbo] at q'
              intro σ4 H4 c5
              rw [kk_or, Bool.or_assoc] at c5
              exact q' σ4 H4 c5
            | rt e4 ρ4 k' =>
              simp only [hbo] at q'
              intro v σ4 H4 c5
              rw [kk_or, Bool.or_assoc] at c5
              exact q' v σ4 H4 c5
            | ex C pl ρ4 k' =>
              simp only [hbo] at q'
              intro dO σ4 H4 c5 pay
              rw [kk_or, Bool.or_assoc] at c5
              exact q' dO σ4 H4 c5 pay
            | st => simp only [hbo] at q'; exact q'
  · exact q.elim
end
section
variable {X : Cx} {W : WX} {t : Expr} {body : List Stmt} {m : M} {b : MS} {pos : Pos}
theorem vs_while (hp : PassesOwn (model X.prog X.w) X.A X.env X.xe) (ht : VT X W t m) (hb : VB X W body b) : VS X W (.While t body [] pos) (sWhile m b) :=
  ⟨(ps_while hp ht.pt hb.pss).weak fun D σ H ⟨H0, M0, τ, tv, ρ, c, q⟩ => run_while c q⟩
end
end LP
end
section
/-! LP, part l: list comprehensions. -/
namespace LP
open PySem PySem.Spec PyProof.Rows L2

mutual
def shEq : Sh → Sh → Bool
  | .v, .v => true
  | .l a, .l b => shEq a b
  | .dk a, .dk b => shEq a b
  | .dt a, .dt b => shEq a b
  | .ob a, .ob b => shEqs a b
  | .tp a, .tp b => shEqs a b
  | _, _ => false
def shEqs : List Sh → List Sh → Bool
  | [], [] => true
  | a :: as, b :: bs => shEq a b && shEqs as bs
  | _, _ => false
end
mutual
theorem shEq_eq : ∀ (a b : Sh), shEq a b = true → a = b
  | .v, .v, _ => rfl
  | .l a, .l b, h => by rw [shEq] at h; rw [shEq_eq a b h]
  | .dk a, .dk b, h => by rw [shEq] at h; rw [shEq_eq a b h]
  | .dt a, .dt b, h => by rw [shEq] at h; rw [shEq_eq a b h]
  | .ob a, .ob b, h => by rw [shEq] at h; rw [shEqs_eq a b h]
  | .tp a, .tp b, h => by rw [shEq] at h; rw [shEqs_eq a b h]
  | .v, .l _, h => by simp [shEq] at h
  | .v, .dk _, h => by simp [shEq] at h
  | .v, .dt _, h => by simp [shEq] at h
  | .v, .ob _, h => by simp [shEq] at h
  | .v, .tp _, h => by simp [shEq] at h
  | .l _, .v, h => by simp [shEq] at h
  | .l _, .dk _, h => by simp [shEq] at h
  | .l _, .dt _, h => by simp [shEq] at h
  | .l _, .ob _, h => by simp [shEq] at h
  | .l _, .tp _, h => by simp [shEq] at h
  | .dk _, .v, h => by simp [shEq] at h
  | .dk _, .l _, h => by simp [shEq] at h
  | .dk _, .dt _, h => by simp [shEq] at h
  | .dk _, .ob _, h => by simp [shEq] at h
  | .dk _, .tp _, h => by simp [shEq] at h
  | .dt _, .v, h => by simp [shEq] at h
  | .dt _, .l _, h => by simp [shEq] at h
  | .dt _, .dk _, h => by simp [shEq] at h
  | .dt _, .ob _, h => by simp [shEq] at h
  | .dt _, .tp _, h => by simp [shEq] at h
  | .ob _, .v, h => by simp [shEq] at h
  | .ob _, .l _, h => by simp [shEq] at h
  | .ob _, .dk _, h => by simp [shEq] at h
  | .ob _, .dt _, h => by simp [shEq] at h
  | .ob _, .tp _, h => by simp [shEq] at h
  | .tp _, .v, h => by simp [shEq] at h
  | .tp _, .l _, h => by simp [shEq] at h
  | .tp _, .dk _, h => by simp [shEq] at h
  | .tp _, .dt _, h => by simp [shEq] at h
  | .tp _, .ob _, h => by simp [shEq] at h
theorem shEqs_eq : ∀ (a b : List Sh), shEqs a b = true → a = b
  | [], [], _ => rfl
  | a :: as, b :: bs, h => by
    rw [shEqs, Bool.and_eq_true] at h
    rw [shEq_eq a b h.1, shEqs_eq as bs h.2]
  | [], _ :: _, h => by simp [shEqs] at h
  | _ :: _, [], h => by simp [shEqs] at h
end
/-- an element to be kept with shape s -/
def frS (s : Sh) : E → Option D
  | .o s' d => if shEq s .v = true then some d else if shEq s' s = true then some d else none
  | _ => none
section
variable {K : PySem.W.Frag} {W : WX} {H0 H : Hp} {M0 : Bs} {σ : L2.St} {τ : List E} {tv : List V} {ρ : Rho} {s : Sh} {d : D} {xs : List D} {Da : Addr} {v y : V} {e : E}
theorem Cfg.keep (c : Cfg K H0 M0 H σ (τ ++ [e]) (tv ++ [v]) ρ) (h : frS s e = some d) : Cfg K H0 M0 H σ (τ ++ [.o s d]) (tv ++ [v]) ρ := by
  cases e with
  | o s' d' =>
    simp only [frS] at h
    split at h
    · rename_i hs
      cases h
      rw [shEq_eq _ _ hs]
      exact c.freeze
    · split at h
      · rename_i hs
        cases h
        rw [← shEq_eq _ _ hs]
        exact c
      · cases h
  | x => cases h
  | b _ => cases h
  | p _ _ => cases h
/-- an element goes into the list at hand -/
theorem Cfg.appD (c : Cfg K H0 M0 H σ ((τ ++ [.o (.l s) (.lst xs)]) ++ [.o s d]) ((tv ++ [.ref Da]) ++ [y]) ρ) : ∃ us, H Da = some (.lst us) ∧ us.length = xs.length ∧
    Cfg K H0 M0 (upd H Da (.lst (us ++ [y]))) σ (τ.map kill ++ [.o (.l s) (.lst (xs ++ [d]))]) (tv ++ [.ref Da]) (ρ.map kill) := by
  obtain ⟨⟨zs, l, sl, r, n, f⟩, fr, go⟩ := c
  have l' : tv.length = τ.length := by simp at l; omega
  rw [List.append_assoc, List.append_assoc, List.append_assoc, List.append_assoc] at r
  obtain ⟨za, zb, e1, ra, rb⟩ := r.split l'.symm
  obtain ⟨zc, zd, e2, rc, rd⟩ := rb.uncons
  obtain ⟨ze, zf, e3, re, rf⟩ := rd.uncons
  have ow := rc.o1
  cases ow with
  | @l _ _ us _ z1 _ _ _ z2 hD inner rest =>
    cases rest
    rw [List.append_nil] at e2
    have ent := re.o1
    have cnt : ∀ a, zs.count a = za.count a + ((if Da = a then 1 else 0) + z1.count a + (ze.count a + zf.count a)) := fun a => by
      rw [e1, e2, e3]
      simp only [List.count_append, List.count_cons]
      by_cases h : Da = a
      · simp [h]; omega
      · simp [h]
    have inD : Da ∈ zs := List.count_pos_iff.mp (by rw [cnt]; simp; omega)
    have ne : ∀ (ws : List Addr), (∀ a, ws.count a + (if Da = a then 1 else 0) ≤ zs.count a) → ∀ z ∈ ws, z ≠ Da := fun ws h z hz q => by
      have h1 := h Da
      have h2 := n Da
      subst q
      have h3 := List.count_pos_iff.mpr hz
      simp at h1
      omega
    have nA : ∀ z ∈ za, z ≠ Da := ne za fun a => by have := cnt a; omega
    have n1 : ∀ z ∈ z1, z ≠ Da := ne z1 fun a => by have := cnt a; omega
    have nE : ∀ z ∈ ze, z ≠ Da := ne ze fun a => by have := cnt a; omega
    have nF : ∀ z ∈ zf, z ≠ Da := ne zf fun a => by have := cnt a; omega
    have hl := inner.lens
    refine ⟨us, hD, by have := hl.2; omega, ?_⟩
    have zn : ∃ zn, zn = za ++ ((Da :: (z1 ++ ze)) ++ zf) := ⟨_, rfl⟩
    obtain ⟨zn, ezn⟩ := zn
    have cn : ∀ a, zn.count a = zs.count a := fun a => by
      rw [cnt, ezn]
      simp only [List.count_append, List.count_cons]
      by_cases h : Da = a
      · simp [h]; omega
      · simp [h]; omega
    have mem : ∀ a, a ∈ zn ↔ a ∈ zs := fun a => by
      rw [← List.count_pos_iff, ← List.count_pos_iff, cn a]
    have sg : Same (hid H zs) (hid (upd H Da (.lst (us ++ [y]))) zn) := fun a o q => by
      obtain ⟨q1, q2⟩ := hid_some q
      rw [hid_out (fun m => q1 ((mem a).mp m)), upd_ne (fun z => q1 (by rw [z]; exact inD))]
      exact q2
    have kp : ∀ (ws : List Addr), (∀ z ∈ ws, z ≠ Da) → ∀ z ∈ ws, ∀ o, H z = some o → upd H Da (.lst (us ++ [y])) z = some o := fun ws h z hz o q => by
      rw [upd_ne (h z hz)]
      exact q
    have nw : Own K (hid (upd H Da (.lst (us ++ [y]))) zn) (upd H Da (.lst (us ++ [y]))) [.l s] [.ref Da] [.lst (xs ++ [d])] (Da :: (z1 ++ ze)) := by
      have i1 := inner.step sg (kp z1 n1)
      have i2 := ent.step sg (kp ze nE)
      have i3 := i1.app i2
      have i4 : Own K (hid (upd H Da (.lst (us ++ [y]))) zn) (upd H Da (.lst (us ++ [y]))) ((us ++ [y]).map fun _ => s) (us ++ [y]) (xs ++ [d]) (z1 ++ ze) := by simpa using i3
      simpa using Own.l (upd_same (H := H) (a := Da) (o := .lst (us ++ [y]))) i4 Own.nil
    refine ⟨⟨zn, by simp [l'], ⟨by simpa using sl.len, fun j s0 d0 hj => ?_, fun j e0 hj hx => ?_⟩, ?_, fun a => by rw [cn]; exact n a, fun z m => f z ((mem z).mp m)⟩, fun a o h1 h2 => ?_, fun a q => ?_⟩
    · rw [List.getElem?_map] at hj
      cases hr : ρ[j]? with
      | none => rw [hr] at hj; cases hj
      | some e0 => rw [hr] at hj; cases e0 <;> first | (cases hj; exact sl.pin j _ _ hr) | cases hj
    · rw [List.getElem?_map] at hj
      cases hr : ρ[j]? with
      | none => rw [hr] at hj; cases hj
      | some e1 =>
        rw [hr] at hj
        refine sl.at_ j e1 hr fun hz => ?_
        subst hz
        cases hj
        exact hx rfl
    · have q1 := ra.step sg (kp za nA)
      have q2 := rf.step sg (kp zf nF)
      have := q1.app (nw.ent.app q2)
      rw [ezn]
      rw [ezn] at this
      simpa using this
    · have h3 := fr a o h1 h2
      have hne : a ≠ Da := fun z => by
        subst z
        rcases f a inD with g | g
        · rw [h1] at g; cases g
        · exact h2 g
      rw [upd_ne hne]
      exact h3
    · by_cases h : a = Da
      · subst h; rw [upd_same] at q; cases q
      · rw [upd_ne h] at q; exact go a q
/-- a new empty list -/
theorem Cfg.newE (c : Cfg K H0 M0 H σ τ tv ρ) (hD : H Da = none) : Cfg K H0 M0 (upd H Da (.lst [])) σ (τ ++ [.o (.l s) (.lst [])]) (tv ++ [.ref Da]) ρ := by
  obtain ⟨zs, cz⟩ := c.z
  have c' := cz.newL (us := []) (xs := []) hD .nil
  obtain ⟨⟨zs', l, sl, r, n, f⟩, fr, go⟩ := c'
  have l' : tv.length = τ.length := c.len
  rw [List.append_assoc, List.append_assoc] at r
  obtain ⟨za, zb, e1, ra, rb⟩ := r.split l'.symm
  obtain ⟨zc, zd, e2, rc, rd⟩ := rb.uncons
  have ow := rc.o1
  have ow' : Own K (hid (upd H Da (.lst [])) zs') (upd H Da (.lst [])) [.l s] [.ref Da] [.lst []] zc := by
    cases ow with
    | @l _ _ us _ z1 _ _ _ z2 hD inner rest =>
      have hl := inner.lens
      cases us with
      | nil =>
        cases inner
        cases rest
        exact .l hD .nil .nil
      | cons _ _ => simp at hl
  refine ⟨⟨zs', by simp [l'], sl, ?_, n, f⟩, fr, go⟩
  rw [List.append_assoc, List.append_assoc, e1, e2]
  have := ra.app (ow'.ent.app rd)
  rw [e1, e2] at this
  simpa using this
end

/-! ### the loop -/
def rst (is : List Nat) (ρ : Rho) : Rho := is.foldl (fun r i => r.set i .x) ρ
def allX : List Nat → Rho → Bool
  | [], _ => true
  | i :: is, ρ => (match ρ[i]? with | some .x => true | _ => false) && allX is ρ
theorem allX_at : ∀ {is : List Nat} {ρ : Rho}, allX is ρ = true → ∀ i ∈ is, ρ[i]? = some .x
  | [], _, _, _, h => nomatch h
  | i :: is, ρ, h, j, hj => by
    rw [allX, Bool.and_eq_true] at h
    rcases List.mem_cons.mp hj with rfl | hj
    · have h1 := h.1
      split at h1
      · assumption
      · cases h1
    · exact allX_at h.2 j hj
theorem rst_length : ∀ (is : List Nat) (ρ : Rho), (rst is ρ).length = ρ.length
  | [], _ => rfl
  | i :: is, ρ => by
    show (rst is (ρ.set i .x)).length = _
    rw [rst_length is]
    simp
theorem rst_out {j : Nat} : ∀ {is : List Nat} {ρ : Rho}, j ∉ is → (rst is ρ)[j]? = ρ[j]?
  | [], _, _ => rfl
  | i :: is, ρ, h => by
    show (rst is (ρ.set i .x))[j]? = _
    rw [rst_out (is := is) (fun m => h (List.mem_cons_of_mem _ m)), List.getElem?_set_ne]
    intro q
    exact h (by simp [q])
theorem rst_in {j : Nat} : ∀ {is : List Nat} {ρ : Rho}, (j ∈ is ∨ ρ[j]? = some .x) → j < ρ.length → (rst is ρ)[j]? = some .x
  | [], _, h, _ => by simpa [rst] using h
  | i :: is, ρ, h, hl => by
    show (rst is (ρ.set i .x))[j]? = _
    refine rst_in (is := is) ?_ (by simpa using hl)
    rcases h with h | h
    · rcases List.mem_cons.mp h with rfl | h
      · exact .inr (List.getElem?_set_self hl)
      · exact .inl h
    · by_cases q : i = j
      · subst q; exact .inr (List.getElem?_set_self hl)
      · rw [List.getElem?_set_ne q]; exact .inr h
def kR (is : List Nat) (p : Option Rho) : Option Rho := match p with
  | none => none
  | some r => some ((rst is r).map kill)
def lcTurn (is : List Nat) (g : E → Rho → Option Rho) (tst elt : M) (s : Sh) (e : E) (ρ : Rho) : Option (Option D × Option Rho) := match g e ρ with
  | none => none
  | some ρ2 => (match tst ρ2 with
    | .ok t p => (match blE t with
      | some true => (match elt (p.getD ρ2) with
        | .ok ee q => (match frS s ee with | some d => some (some d, kR is (por p q)) | none => none)
        | _ => none)
      | some false => some (none, kR is p)
      | none => none)
    | _ => none)
def lcRun (is : List Nat) (g : E → Rho → Option Rho) (tst elt : M) (s : Sh) (nb : Bool) (ρ : Rho) : List E → Option Rho → List D → Option (List D × Option Rho)
  | [], p, acc => some (acc, p)
  | e :: es, p, acc => match lcTurn is g tst elt s (kq p e) (p.getD ρ) with
    | none => none
    | some (od, q) => if (q.isSome && nb) = true then none else lcRun is g tst elt s nb ρ es (por p q) (acc ++ od.toList)
/-- [elt for g in it if tst]: is: the comprehension's own slots; s: the elements' shape -/
def mLc (s : Sh) (is : List Nat) (it : MI) (g : E → Rho → Option Rho) (tst elt : M) : M := fun ρ => match it ρ with
  | .ok srcs items p => if allX is (p.getD ρ) = true ∧ items.length ≤ 16777215 then
      (match lcRun is g tst elt s (!noB srcs) (p.getD ρ) items none [] with
      | some (acc, q) => .ok (.o (.l s) (.lst acc)) (por p q)
      | none => .st)
    else .st
  | .ex C pl p => .ex C pl p
  | .st => .st
theorem wipe_in {σ : L2.St} {j : Nat} : ∀ {vs : List Nat}, j ∈ vs → j < σ.length → (wipe σ vs)[j]? = some none
  | v :: vs, h, hl => by
    unfold wipe
    by_cases q : v = j
    · subst q
      rw [List.getElem?_set_self (by rw [wipe_length]; exact hl)]
    · rw [List.getElem?_set_ne q]
      refine wipe_in ?_ hl
      rcases List.mem_cons.mp h with z | z
      · exact absurd z.symm q
      · exact z
theorem wipe_eq {σ σ2 : L2.St} {vs : List Nat} (hl : σ2.length = σ.length) (h : ∀ (j : Nat), j ∉ vs → σ2[j]? = (wipe σ vs)[j]?) : wipe σ2 vs = wipe σ vs := by
  refine List.ext_getElem? fun j => ?_
  by_cases hj : j ∈ vs
  · by_cases hlt : j < σ.length
    · rw [wipe_in hj (by omega), wipe_in hj hlt]
    · rw [List.getElem?_eq_none (by rw [wipe_length]; omega), List.getElem?_eq_none (by rw [wipe_length]; omega)]
  · rw [wipe_out hj, h j hj]
section
variable {K : PySem.W.Frag} {W : WX} {H0 H : Hp} {M0 : Bs} {σ : L2.St} {τ : List E} {tv : List V} {ρ : Rho}
theorem kill_map2 (p : Option Rho) (l : List E) : (kp p l).map kill = l.map kill := by
  cases p <;> first | rfl | exact map_kill_kill l
theorem run_lc {is : List Nat} {s : Sh} {it : MI} {g : E → Rho → Option Rho} {js : List Nat} {tst elt : M} {Q : VK} (hout : ∀ (e : E) (ρ ρ' : Rho), g e ρ = some ρ' → ρ'.length = ρ.length ∧ ∀ (j : Nat), j ∉ js → ρ'[j]? = ρ[j]?) (hjs : ∀ j ∈ js, j ∈ is)
    (c : Cfg K H0 M0 H σ τ tv ρ) (q : Run K W H0 M0 τ tv σ ρ H Q (mLc s is it g tst elt ρ)) :
    tLc (tVi K W it) (tGv K g js) (tVt K (fun _ _ _ _ => False) tst) (tV K (fun _ _ _ _ => False) elt) is σ H Q := by
  unfold mLc at q
  refine ⟨H0, M0, τ, tv, ρ, c, ?_⟩
  cases hi : it ρ with
  | st => rw [hi] at q; exact q
  | ex C pl p => rw [hi] at q; exact q
  | ok srcs items p =>
    rw [hi] at q
    intro J us H1 hlu wd c1 s1 Da hD
    simp only at q
    split at q
    · rename_i hcond
      obtain ⟨hx, hlen⟩ := hcond
      cases hrun : lcRun is g tst elt s (!noB srcs) (p.getD ρ) items none [] with
      | none => rw [hrun] at q; exact q.elim
      | some af =>
        obtain ⟨accF, qF⟩ := af
        rw [hrun] at q
        simp only at q
        have hσ : σ.length = (p.getD ρ).length := c1.slen
        have hat := allX_at hx
        -- the slots as the block has them
        have c1w : Cfg K H0 M0 H1 (wipe σ is) (kp p τ ++ srcs) (tv ++ us) (p.getD ρ) := c1.resig (wipe_length σ is) fun i hne => wipe_out fun m => hne (hat i m)
        have hlt1 : (tv ++ us).length = (kp p τ ++ srcs).length := c1.len
        have c2 := (c1w.killT).newE (s := s) hD
        have sD : Same H1 (upd H1 Da (.lst [])) := same_new hD
        refine ⟨fun i m H => m = items.length - i ∧ i ≤ items.length ∧ ∃ q acc, lcRun is g tst elt s (!noB srcs) (p.getD ρ) (items.drop i) q acc = some (accF, qF) ∧ acc.length ≤ i ∧
            Cfg K H0 M0 H (wipe σ is) ((kp p τ ++ srcs).map kill ++ [.o (.l s) (.lst acc)]) ((tv ++ us) ++ [.ref Da]) ((q.getD (p.getD ρ)).map kill) ∧ (q = none → Same H1 H) ∧ (q.isSome = true → noB srcs = true) ∧
            allX is (q.getD (p.getD ρ)) = true ∧ (∀ r, q = some r → r.map kill = r), ⟨items.length, by simp, Nat.zero_le _, none, [], by simpa using hrun, by simp, c2, fun _ => sD, fun z => Bool.noConfusion z, hx, fun _ z => nomatch z⟩, ?_⟩
        rintro i m H2 ⟨rfl, hle, qq, acc, hrun2, hacc, c3, hsame, hnb, hxq, hkk⟩
        -- the whole state at the turn
        have cf : Cfg K H0 M0 H2 (wipe σ is) (kp qq (kp p τ ++ srcs) ++ [.o (.l s) (.lst acc)]) ((tv ++ us) ++ [.ref Da]) (qq.getD (p.getD ρ)) := by
          cases qq with
          | none => exact c3.revive (c1w.grow (hsame rfl))
          | some r =>
            have := hkk r rfl
            simp only [Option.getD_some] at c3 ⊢
            rw [this] at c3
            exact c3
        have hsr : kp qq srcs = srcs := by
          cases qq with
          | none => rfl
          | some r => exact noB_kill (hnb rfl)
        have hl1 : tv.length = (kp qq (kp p τ)).length := by rw [kp_length, kp_length]; exact c.len
        have cf2 : Cfg K H0 M0 H2 (wipe σ is) (((kp qq (kp p τ)) ++ [.o (.l s) (.lst acc)]) ++ srcs) ((tv ++ [.ref Da]) ++ us) (qq.getD (p.getD ρ)) := by
          rw [kp_app, hsr, List.append_assoc, List.append_assoc] at cf
          have := cf.swap hl1 hlu
          simpa using this
        by_cases hlt : i < items.length
        · refine .inr ⟨wd.go cf2 hlt, fun H => ∃ q acc, lcRun is g tst elt s (!noB srcs) (p.getD ρ) (items.drop (i + 1)) q acc = some (accF, qF) ∧ acc.length ≤ i + 1 ∧
            Cfg K H0 M0 H (wipe σ is) ((kp p τ ++ srcs).map kill ++ [.o (.l s) (.lst acc)]) ((tv ++ us) ++ [.ref Da]) ((q.getD (p.getD ρ)).map kill) ∧ (q = none → Same H1 H) ∧ (q.isSome = true → noB srcs = true) ∧
            allX is (q.getD (p.getD ρ)) = true ∧ (∀ r, q = some r → r.map kill = r), fun H h => ⟨items.length - (i + 1), by omega, rfl, hlt, h⟩, fun x H3 hy => ?_⟩
          obtain ⟨e, he, c4, s4⟩ := wd.yld cf2 hlt hy
          have ed : items.drop i = e :: items.drop (i + 1) := by
            rw [List.getElem?_eq_getElem hlt] at he
            cases he
            exact List.drop_eq_getElem_cons hlt
          rw [ed, lcRun] at hrun2
          have c5 : Cfg K H0 M0 H3 (wipe σ is) ((((kp qq (kp p τ)) ++ [.o (.l s) (.lst acc)]) ++ srcs) ++ [kq qq e]) (((tv ++ [.ref Da]) ++ us) ++ [x]) (qq.getD (p.getD ρ)) := by
            cases qq with
            | none => exact c4
            | some r => exact c4.killLast true
          cases htn : lcTurn is g tst elt s (kq qq e) (qq.getD (p.getD ρ)) with
          | none => rw [htn] at hrun2; cases hrun2
          | some oq =>
            obtain ⟨od, q'⟩ := oq
            rw [htn] at hrun2
            simp only at hrun2
            split at hrun2
            · cases hrun2
            · rename_i hnb2
              unfold lcTurn at htn
              cases hg : g (kq qq e) (qq.getD (p.getD ρ)) with
              | none => rw [hg] at htn; cases htn
              | some ρ2 =>
                rw [hg] at htn
                simp only at htn
                obtain ⟨hlen2, hout2⟩ := hout _ _ _ hg
                refine ⟨H0, M0, _, _, _, kq qq e, ρ2, c5, hg, fun σ2 c6 hσ2 hj2 => ?_⟩
                have hwl : σ2.length = σ.length := by rw [hσ2, wipe_length]
                have hw : wipe σ2 is = wipe σ is := wipe_eq hwl fun j hj => hj2 j fun m => hj (hjs j m)
                refine ⟨hw, ?_⟩
                -- back to the state between the turns
                have close : ∀ {H5 : Hp} {ρ5 : Rho} {pq : Option Rho} {acc' : List D}, Cfg K H0 M0 H5 σ2 ((kp p τ ++ srcs).map kill ++ [.o (.l s) (.lst acc')]) ((tv ++ us) ++ [.ref Da]) (ρ5.map kill) → ρ5 = pq.getD ρ2 → (pq = none → qq = none → Same H1 H5) →
                    q' = kR is pq → acc'.length ≤ i + 1 → lcRun is g tst elt s (!noB srcs) (p.getD ρ) (items.drop (i + 1)) (por qq q') acc' = some (accF, qF) →
                    ∃ q acc, lcRun is g tst elt s (!noB srcs) (p.getD ρ) (items.drop (i + 1)) q acc = some (accF, qF) ∧ acc.length ≤ i + 1 ∧
                      Cfg K H0 M0 H5 (wipe σ is) ((kp p τ ++ srcs).map kill ++ [.o (.l s) (.lst acc)]) ((tv ++ us) ++ [.ref Da]) ((q.getD (p.getD ρ)).map kill) ∧ (q = none → Same H1 H5) ∧ (q.isSome = true → noB srcs = true) ∧
                      allX is (q.getD (p.getD ρ)) = true ∧ (∀ r, q = some r → r.map kill = r) := by
                  intro H5 ρ5 pq acc' c7 hρ5 hs7 hq' hacc' hrun3
                  have hl5 : σ2.length = ρ5.length := by have := c7.slen; simpa using this
                  have hres : ∀ (ρn : Rho), ρn.length = ρ5.length → (∀ i ∈ is, ρn[i]? = some .x ∨ ρn[i]? = none) → (∀ j, j ∉ is → ρn[j]? = (ρ5.map kill)[j]?) → Cfg K H0 M0 H5 (wipe σ is) ((kp p τ ++ srcs).map kill ++ [.o (.l s) (.lst acc')]) ((tv ++ us) ++ [.ref Da]) ρn := by
                    intro ρn h1 h2 h3
                    have c8 : Cfg K H0 M0 H5 σ2 ((kp p τ ++ srcs).map kill ++ [.o (.l s) (.lst acc')]) ((tv ++ us) ++ [.ref Da]) ρn := c7.wk (by simpa using h1) fun j a b ha hb => by
                      by_cases hj : j ∈ is
                      · rcases h2 j hj with z | z
                        · rw [z] at hb; exact .inl (Option.some.inj hb).symm
                        · rw [z] at hb; cases hb
                      · rw [h3 j hj, ha] at hb
                        exact .inr (Option.some.inj hb).symm
                    refine c8.resig (by rw [wipe_length]; exact hwl.symm) fun j hne => ?_
                    by_cases hj : j ∈ is
                    · rcases h2 j hj with z | z
                      · exact absurd z hne
                      · have : ρn.length ≤ j := List.getElem?_eq_none_iff.mp z
                        rw [List.getElem?_eq_none (by rw [wipe_length]; omega), List.getElem?_eq_none (by omega)]
                    · exact (hj2 j fun m => hj (hjs j m)).symm
                  cases pq with
                  | none =>
                    have e0 : q' = none := hq'
                    subst e0
                    have hρ : ρ5 = ρ2 := hρ5
                    subst hρ
                    refine ⟨qq, acc', by simpa [por] using hrun3, hacc', ?_, fun z => ?_, hnb, hxq, hkk⟩
                    · refine hres _ (by simpa using hlen2.symm) (fun j hj => .inl ?_) fun j hj => ?_
                      · rw [List.getElem?_map, allX_at hxq j hj]; rfl
                      · rw [List.getElem?_map, List.getElem?_map, hout2 j fun m => hj (hjs j m)]
                    · exact hs7 rfl z
                  | some r =>
                    have e0 : q' = some ((rst is r).map kill) := hq'
                    subst e0
                    have hρ : ρ5 = r := hρ5
                    subst hρ
                    have e1 : por qq (some ((rst is ρ5).map kill)) = some ((rst is ρ5).map kill) := by cases qq <;> rfl
                    rw [e1] at hrun3
                    have hnb3 : noB srcs = true := by
                      cases h : noB srcs with
                      | true => rfl
                      | false => exact absurd (by simp [h]) hnb2
                    have hl6 : σ.length = ρ5.length := hwl.symm.trans hl5
                    refine ⟨some ((rst is ρ5).map kill), acc', hrun3, hacc', ?_, (fun z => by cases z), fun _ => hnb3, ?_, fun r z => by cases z; exact map_kill_kill _⟩
                    · simp only [Option.getD_some]
                      rw [map_kill_kill]
                      refine hres _ (by simp [rst_length]) (fun j hj => ?_) fun j hj => ?_
                      · by_cases hlj : j < ρ5.length
                        · left
                          rw [List.getElem?_map, rst_in (.inl hj) hlj]; rfl
                        · right
                          exact List.getElem?_eq_none (by simp [rst_length]; omega)
                      · rw [List.getElem?_map, List.getElem?_map, rst_out hj]
                    · have : ∀ (ks : List Nat), (∀ j ∈ ks, j ∈ is) → allX ks ((rst is ρ5).map kill) = true := by
                        intro ks
                        induction ks with
                        | nil => intro _; rfl
                        | cons k ks ih =>
                          intro h
                          have hk := h k List.mem_cons_self
                          have hlk : k < ρ5.length := by
                            have h1 := hat k hk
                            have h2 := (List.getElem?_eq_some_iff.mp h1).1
                            omega
                          rw [allX, List.getElem?_map, rst_in (.inl hk) hlk, ih fun j m => h j (List.mem_cons_of_mem _ m)]
                          rfl
                      exact this is fun _ m => m
                -- the test
                refine ⟨H0, M0, _, _, ρ2, c6, ?_⟩
                cases ht : tst ρ2 with
                | st => rw [ht] at htn; cases htn
                | ex C pl p' => rw [ht] at htn; cases htn
                | ok t pt =>
                  rw [ht] at htn
                  simp only at htn
                  intro v H4 c7 s7
                  cases hb : blE t with
                  | none => rw [hb] at htn; cases htn
                  | some k =>
                    have e1 := (c7.last (blE_rd hb)).bl1
                    refine ⟨k, e1, ?_⟩
                    have c8 := c7.drop1
                    cases k with
                    | false =>
                      rw [hb] at htn
                      simp only at htn
                      cases htn
                      refine iteF ?_
                      refine close (pq := pt) (ρ5 := pt.getD ρ2) (acc' := acc) ?_ rfl (fun z z2 => (hsame z2).trans (s4.trans (s7 z))) rfl (by omega) (by simpa using hrun2)
                      have c9 := c8.killT
                      rw [kill_map2] at c9
                      rw [List.append_assoc, List.append_assoc, List.map_append, kill_map2, kill_map2, List.map_append] at c9
                      have c10 := c9.swap (by rw [List.length_map]; exact c.len) rfl
                      rw [List.map_append, kill_map2]
                      simpa [kill] using c10
                    | true =>
                      rw [hb] at htn
                      simp only at htn
                      refine iteT ?_
                      refine ⟨H0, M0, _, _, _, c8, ?_⟩
                      cases hel : elt (pt.getD ρ2) with
                      | st => rw [hel] at htn; cases htn
                      | ex C pl p' => rw [hel] at htn; cases htn
                      | ok ee qe =>
                        rw [hel] at htn
                        simp only at htn
                        cases hfr : frS s ee with
                        | none => rw [hfr] at htn; cases htn
                        | some d =>
                          rw [hfr] at htn
                          obtain ⟨rfl, rfl⟩ : od = some d ∧ q' = kR is (por pt qe) := by
                            have := Option.some.inj htn
                            exact ⟨(congrArg Prod.fst this).symm, (congrArg Prod.snd this).symm⟩
                          intro y H5 c9 s9
                          have c10 := c9.keep hfr
                          -- the list stands ahead of the element
                          have c11 : Cfg K H0 M0 H5 σ2 (((kp qe (kp pt (kp qq (kp p τ) ++ srcs))) ++ [.o (.l s) (.lst acc)]) ++ [.o s d]) (((tv ++ us) ++ [.ref Da]) ++ [y]) (qe.getD (pt.getD ρ2)) := by
                            have ek : ∀ (p : Option Rho), kp p [E.o (.l s) (.lst acc)] = [E.o (.l s) (.lst acc)] := fun p => by cases p <;> rfl
                            rw [kp_app, kp_app, kp_app, kp_app, ek, ek] at c10
                            have c12 : Cfg K H0 M0 H5 σ2 (kp qe (kp pt (kp qq (kp p τ))) ++ ([.o (.l s) (.lst acc)] ++ (kp qe (kp pt srcs)) ++ [.o s d])) (tv ++ (([.ref Da] ++ us) ++ [y])) (qe.getD (pt.getD ρ2)) := by simpa using c10
                            -- swap the list with the sources, the element behind both
                            have c13 : Cfg K H0 M0 H5 σ2 (kp qe (kp pt (kp qq (kp p τ))) ++ ([.o s d] ++ ([.o (.l s) (.lst acc)] ++ kp qe (kp pt srcs)))) (tv ++ ([y] ++ ([.ref Da] ++ us))) (qe.getD (pt.getD ρ2)) := by
                              have := c12.swap (a := [.o (.l s) (.lst acc)] ++ kp qe (kp pt srcs)) (b := [.o s d]) (ua := [.ref Da] ++ us) (ub := [y]) (by simp only [kp_length]; exact c.len) (by simp [kp_length, hlu])
                              exact this
                            have c14 : Cfg K H0 M0 H5 σ2 ((kp qe (kp pt (kp qq (kp p τ)))) ++ (([.o s d] ++ [.o (.l s) (.lst acc)]) ++ kp qe (kp pt srcs))) (tv ++ (([y] ++ [.ref Da]) ++ us)) (qe.getD (pt.getD ρ2)) := by simpa using c13
                            have c15 := c14.swap (by simp only [kp_length]; exact c.len) rfl
                            have c16 : Cfg K H0 M0 H5 σ2 ((kp qe (kp pt (kp qq (kp p τ))) ++ kp qe (kp pt srcs)) ++ ([.o s d] ++ [.o (.l s) (.lst acc)])) ((tv ++ us) ++ ([y] ++ [.ref Da])) (qe.getD (pt.getD ρ2)) := by simpa using c15
                            have c17 := c16.swap (by simp [kp_length, hlu, c.len]) rfl
                            rw [kp_app, kp_app]
                            simpa using c17
                          obtain ⟨aus, hDa, hla, c18⟩ := c11.appD
                          refine ⟨aus, hDa, by rw [sizeLine_eq]; omega, ?_⟩
                          refine close (pq := por pt qe) (ρ5 := qe.getD (pt.getD ρ2)) (acc' := acc ++ [d]) ?_ (getD_por _ _ _) (fun z zq => ?_) rfl (by simp; omega) (by simpa using hrun2)
                          · rw [kill_map2, kill_map2, List.map_append, kill_map2] at c18
                            rw [List.map_append]
                            rw [List.map_append, kill_map2] at *
                            simpa using c18
                          · intro a o ha
                            have hne : a ≠ Da := ne_of_none ha hD
                            rw [upd_ne hne]
                            have z1 : pt = none := by cases pt <;> cases qe <;> first | rfl | cases z
                            have z2 : qe = none := by cases pt <;> cases qe <;> first | rfl | cases z
                            exact s9 z2 a o (s7 z1 a o (s4 a o (hsame zq a o ha)))
        · have ei : i = items.length := by omega
          subst ei
          rw [List.drop_length, lcRun] at hrun2
          obtain ⟨rfl, rfl⟩ : acc = accF ∧ qq = qF := by
            have := Option.some.inj hrun2
            exact ⟨congrArg Prod.fst this, congrArg Prod.snd this⟩
          refine .inl ⟨wd.stop cf2, ?_⟩
          have c20 := cf2.drop hlu
          have c21 : Cfg K H0 M0 H2 σ (kp (por p qq) τ ++ [.o (.l s) (.lst acc)]) (tv ++ [.ref Da]) ((por p qq).getD ρ) := by
            rw [kp_por, getD_por] at c20
            refine c20.resig (wipe_length σ is).symm fun i hne => (wipe_out fun m => hne ?_).symm
            rw [← getD_por]
            exact allX_at hxq i m
          exact q (.ref Da) H2 c21 (por_same s1 hsame)
    · exact q.elim
end
end LP
end
section
/-! LP, part m: slots frozen, slots moved out, list comprehensions as values and as statements. -/
namespace LP
open PySem PySem.Spec PyProof.Rows L2

def frz1 (i : Nat) (ρ : Rho) : Rho := match ρ[i]? with
  | some (.o _ d) => ρ.set i (.o .v d)
  | _ => ρ
/-- slots frozen -/
def frzS (is : List Nat) (ρ : Rho) : Rho := is.foldl (fun r i => frz1 i r) ρ
/-- .. ahead of m -/
def sFz (is : List Nat) (m : MS) : MS := fun ρ => m (frzS is ρ)
/-- forgotten ahead of m -/
def sFg (is : List Nat) (m : MS) : MS := fun ρ => m (is.foldl (fun r i => r.set i .x) ρ)
/-- the name read for the last time: what it owns goes -/
def mMv (i : Nat) : M := fun ρ => match ρ[i]? with
  | some (.o s d) => .ok (.o s d) (some (ρ.set i .x))
  | _ => .st
section
variable {K : PySem.W.Frag} {W : WX} {H0 H : Hp} {M0 : Bs} {σ : L2.St} {τ : List E} {tv : List V} {ρ : Rho}
theorem Cfg.frz1 (i : Nat) (c : Cfg K H0 M0 H σ τ tv ρ) : Cfg K H0 M0 H σ τ tv (LP.frz1 i ρ) := by
  unfold LP.frz1
  split
  · rename_i s d h
    have c0 : Cfg K H0 M0 H σ (τ ++ []) (tv ++ []) ρ := by simpa using c
    obtain ⟨v, hv, c1⟩ := c0.outAt c.len (.inl h)
    have c2 : Cfg K H0 M0 H σ (τ ++ [.o s d]) (tv ++ [v]) (ρ.set i .x) := by simpa using c1
    have c3 := c2.freeze
    have hi : i < (ρ.set i .x).length := by
      have := (List.getElem?_eq_some_iff.mp h).1
      simpa using this
    have c4 := c3.put hi rfl
    have e1 : σ.set i (some v) = σ := by
      refine List.ext_getElem? fun j => ?_
      by_cases hj : i = j
      · subst hj
        rw [List.getElem?_set_self (List.getElem?_eq_some_iff.mp hv).1, hv]
      · rw [List.getElem?_set_ne hj]
    rw [e1, List.set_set] at c4
    exact c4
  · exact c
theorem Cfg.frzS (is : List Nat) (c : Cfg K H0 M0 H σ τ tv ρ) : Cfg K H0 M0 H σ τ tv (LP.frzS is ρ) := by
  induction is generalizing ρ with
  | nil => exact c
  | cons i is ih => exact ih (c.frz1 i)
end
section
variable {K : PySem.W.Frag} {W : WX} {H0 H : Hp} {M0 : Bs} {σ : L2.St} {τ es : List E} {tv us : List V} {ρ : Rho}
theorem Cfg.killTmp (c : Cfg K H0 M0 H σ (τ ++ es) (tv ++ us) ρ) (hl : tv.length = τ.length := by first | assumption | exact Cfg.len (by assumption)) : Cfg K H0 M0 H σ (τ.map kill ++ es) (tv ++ us) ρ := by
  obtain ⟨⟨zs, l, s, r, n, f⟩, fr, go⟩ := c
  rw [List.append_assoc, List.append_assoc] at r
  obtain ⟨za, zb, e1, ra, rb⟩ := r.split hl.symm
  obtain ⟨zc, h1, r1⟩ := ra.wk (es' := τ.map kill) (by simp) fun i e e' h1 h2 => by
    rw [List.getElem?_map, h1] at h2
    cases h2
    cases e <;> first | exact .inl rfl | exact .inr rfl
  refine Cfg.re n f fr go (by simpa using l) s (zs' := zc ++ zb) ?_ fun a => ?_
  · rw [List.append_assoc, List.append_assoc]
    exact r1.app rb
  · have := h1 a
    rw [e1, List.count_append, List.count_append]
    omega
end
section
variable {X : Cx} {W : WX} {e : Expr} {st : Stmt} {a : List Stmt} {ms : MS} {pos : Pos}
theorem vb_fz (is : List Nat) (h : VB X W a ms) : VB X W a (sFz is ms) :=
  ⟨h.pss.weak fun D σ H ⟨H0, M0, τ, tv, ρ, c, q⟩ => ⟨H0, M0, τ, tv, _, c.frzS is, q⟩⟩
theorem vs_fz (is : List Nat) (h : VS X W st ms) : VS X W st (sFz is ms) :=
  ⟨h.ps.weak fun D σ H ⟨H0, M0, τ, tv, ρ, c, q⟩ => ⟨H0, M0, τ, tv, _, c.frzS is, q⟩⟩
theorem vb_fg (is : List Nat) (h : VB X W a ms) : VB X W a (sFg is ms) :=
  ⟨h.pss.weak fun D σ H ⟨H0, M0, τ, tv, ρ, c, q⟩ => ⟨H0, M0, τ, tv, _, c.forgets is, q⟩⟩
theorem vs_fg (is : List Nat) (h : VS X W st ms) : VS X W st (sFg is ms) :=
  ⟨h.ps.weak fun D σ H ⟨H0, M0, τ, tv, ρ, c, q⟩ => ⟨H0, M0, τ, tv, _, c.forgets is, q⟩⟩
theorem ve_mv {i : Nat} {x : Str} (hN : X.N[i]? = some x) (hv : Vis X.env.scope x) (hd : (x == ("__debug__" : Str)) = false := by decide) (hcd : (x == ("__classdict__" : Str)) = false := by decide) : VE X W (.Name x pos) (mMv i) := by
  refine ⟨(pe_var hN hv hd hcd).weak fun σ H Q ⟨H0, M0, τ, tv, ρ, c, r⟩ => ?_⟩
  unfold mMv at r
  cases h : ρ[i]? with
  | none => rw [h] at r; exact r.elim
  | some e =>
    rw [h] at r
    cases e with
    | o s d =>
      have c0 : Cfg X.K H0 M0 H σ (τ ++ []) (tv ++ []) ρ := by simpa using c
      obtain ⟨v, h1, c1⟩ := c0.outAt c.len (.inl h)
      have c2 : Cfg X.K H0 M0 H σ (τ ++ [.o s d]) (tv ++ [v]) (ρ.set i .x) := by simpa using c1
      refine ⟨v, h1, r v H ?_ fun z => by cases z⟩
      exact c2.killTmp
    | _ => exact r.elim
end

/-! ### list comprehensions -/
/-- within a block nothing is raised -/
abbrev W0 : WX := fun _ _ _ _ => False
structure VTs (X : Cx) (ifs : List Expr) (m : M) : Prop where
  pts : PTs X ifs (tVt X.K W0 m)
theorem vts_nil {X : Cx} : VTs X [] (mC (.bl true)) := by
  refine ⟨⟨fun pins s σ H Q I ⟨H0, M0, τ, tv, ρ, c, q⟩ => ?_⟩⟩
  obtain ⟨k, e, h⟩ := q (.bl true) H (c.pushImm (.bl _ .nil) rfl) fun _ => Same.refl _
  cases e
  exact (pts_nil (X := X)).run pins s σ H Q I h
theorem vts_one {X : Cx} {c : Expr} {m : M} (h : VT X W0 c m) : VTs X [c] m := ⟨pts_one h.pt⟩
section
variable {X : Cx} {W : WX} {elt tg iter : Expr} {ifs : List Expr} {scope : Scope} {own : List (Str × Nat)} {pos : Pos} {it : MI} {g : E → Rho → Option Rho} {js : List Nat} {tst me : M}
theorem ve_lc (s : Sh) (hc : X.calm = true) (hN : X.N.Nodup) (hi : VI X W tg iter it) (ok : BlkOk X.N X.env.scope scope own)
    (hg : ∀ (s : Shared) (H : Hp) (C : Addr) (cl : List (Str × Addr)) (fp : List Addr), VG (X.blk s H scope (compEnvC scope cl C X.env) fp) tg g js)
    (ht : ∀ (s : Shared) (H : Hp) (C : Addr) (cl : List (Str × Addr)) (fp : List Addr), VTs (X.blk s H scope (compEnvC scope cl C X.env) fp) ifs tst)
    (he : ∀ (s : Shared) (H : Hp) (C : Addr) (cl : List (Str × Addr)) (fp : List Addr), VE (X.blk s H scope (compEnvC scope cl C X.env) fp) W0 elt me) (hjs : ∀ j ∈ js, j ∈ own.map (·.2) := by decide) (hs : ∀ x, foldedSetIterable iter X.env x = pure x := by intro _; rfl) :
    VE X W (.ListComp elt [⟨tg, iter, ifs, 0⟩] scope pos) (mLc s (own.map (·.2)) it g tst me) :=
  ⟨⟨fun pins s0 σ H Q I ⟨H0, M0, τ, tv, ρ, c, q⟩ => (pe_lc (wi := tVi X.K W it) (g := tGv X.K g js) (tt := tVt X.K W0 tst) (te := tV X.K W0 me) hc hN hi.pi ok (fun s H C cl fp => (hg s H C cl fp).pg) (fun s H C cl fp => (ht s H C cl fp).pts) (fun s H C cl fp => (he s H C cl fp).pe) hs).run pins s0 σ H Q I
    (run_lc (hg s0 H 0 [] []).out hjs c q)⟩⟩
/-- name = [..] on one line -/
theorem vs_setLc (s : Sh) {i : Nat} {y : Str} {py spos : Pos} (hc : X.calm = true) (hN : X.N.Nodup) (hy : X.N[i]? = some y) (hyl : X.env.scope.names.lookup y = some .local)
    (hsw : swapsWith (.ListComp elt [⟨tg, iter, ifs, 0⟩] scope pos) (some (.Name y py)) spos.line X.env = pure true) (hi : VI X W tg iter it) (ok : BlkOk X.N X.env.scope scope own)
    (hg : ∀ (s : Shared) (H : Hp) (C : Addr) (cl : List (Str × Addr)) (fp : List Addr), VG (X.blk s H scope (compEnvC scope cl C X.env) fp) tg g js)
    (ht : ∀ (s : Shared) (H : Hp) (C : Addr) (cl : List (Str × Addr)) (fp : List Addr), VTs (X.blk s H scope (compEnvC scope cl C X.env) fp) ifs tst)
    (he : ∀ (s : Shared) (H : Hp) (C : Addr) (cl : List (Str × Addr)) (fp : List Addr), VE (X.blk s H scope (compEnvC scope cl C X.env) fp) W0 elt me) (hjs : ∀ j ∈ js, j ∈ own.map (·.2) := by decide) (hs : ∀ x, foldedSetIterable iter X.env x = pure x := by intro _; rfl) :
    VS X W (.Assign [.Name y py] (.ListComp elt [⟨tg, iter, ifs, 0⟩] scope pos) spos) (sSet i (mLc s (own.map (·.2)) it g tst me)) := by
  refine ⟨⟨fun pins s0 σ H Dn I ⟨H0, M0, τ, tv, ρ, c, q⟩ => (ps_setLc (wi := tVi X.K W it) (g := tGv X.K g js) (tt := tVt X.K W0 tst) (te := tV X.K W0 me) hc hN hy hyl hsw hi.pi ok (fun s H C cl fp => (hg s H C cl fp).pg) (fun s H C cl fp => (ht s H C cl fp).pts) (fun s H C cl fp => (he s H C cl fp).pe) hs).run pins s0 σ H Dn I ?_⟩⟩
  unfold sSet at q
  obtain ⟨H0', M0', τ', tv', ρ', c', q'⟩ := run_sb (R := fun v H' => Dn.nx (σ.set i (some v)) H') (f := fun e p => if i < (p.getD ρ).length ∧ isP e = false then .nx ((p.getD ρ).set i e) p.isSome else .st) c q fun e p v H' _ c' r => by
    by_cases hl : i < (p.getD ρ).length ∧ isP e = false
    · rw [if_pos hl] at r
      exact r _ H' (c'.put hl.1 hl.2)
    · rw [if_neg hl] at r
      exact r.elim
  exact run_lc (hg s0 H 0 [] []).out hjs c' q'
end
end LP
end
section
/-! LP, part n: items, slices, len, list, tuple, sum, all, any, int, min, max. -/
namespace LP
open PySem PySem.Spec PyProof.Rows L2

def seqD : D → Option (List D)
  | .lst xs => some xs
  | .tup xs => some xs
  | .scr xs => some xs
  | _ => none
theorem Rp.seq {K : PySem.W.Frag} {G : Hp} {v : V} {d : D} {xs : List D} (r : Rp K G [v] [d]) (h : seqD d = some xs) : ∃ a ws, v = .ref a ∧ (SqL K G a ws ∨ SqT K G a ws) ∧ Rp K G ws xs := by
  cases r with
  | tup q1 q2 _ => cases h; exact ⟨_, _, rfl, .inr q1, q2⟩
  | lst q1 q2 _ => cases h; exact ⟨_, _, rfl, .inl (SqL.of q1), q2⟩
  | scr q1 q2 _ => cases h; exact ⟨_, _, rfl, .inl q1.sq, q2⟩
  | _ => cases h
theorem sqTL_same {K : PySem.W.Frag} {H H' : Hp} {a : Addr} {xs : List V} (e : Same H H') (h : SqL K H a xs ∨ SqT K H a xs) : SqL K H' a xs ∨ SqT K H' a xs := by
  rcases h with h | h
  · refine .inl ?_
    rcases h with (h | ⟨o, h⟩) | h
    · exact .inl (.inl (e _ _ h))
    · exact .inl (.inr ⟨o, e _ _ h⟩)
    · exact .inr h
  · exact .inr (sqT_same e h)
def isO : E → Bool
  | .o _ _ => true
  | _ => false
section
variable {K : PySem.W.Frag} {zs : List Addr} {H : Hp} {e : E} {es : List E} {us : List V} {d : D} {xs : List D}
theorem FrL.head (h : FrL K zs H (e :: es) us) (hd : e.rd = some d) : ∃ v us', us = v :: us' ∧ Rp K H [v] [d] ∧ (isO e = true → Rp K (hid H zs) [v] [d]) ∧ FrL K zs H es us' := by
  cases h with
  | x _ => cases hd
  | p r h => cases hd; exact ⟨_, _, rfl, r, fun z => (Bool.noConfusion z), h⟩
  | o r h => cases hd; exact ⟨_, _, rfl, r.same (hid_sub _ _), fun _ => r, h⟩
  | b r h => cases hd; exact ⟨_, _, rfl, r, fun z => (Bool.noConfusion z), h⟩
theorem FrL.seq (h : FrL K zs H (e :: es) us) (hd : e.rd = some d) (hs : seqD d = some xs) : ∃ a ws us', us = .ref a :: us' ∧ (SqL K H a ws ∨ SqT K H a ws) ∧ Rp K H ws xs ∧ (isO e = true → Rp K (hid H zs) ws xs) ∧ FrL K zs H es us' := by
  obtain ⟨v, us', rfl, r1, r2, f⟩ := h.head hd
  cases ho : isO e with
  | true =>
    obtain ⟨a, ws, rfl, q1, q2⟩ := (r2 ho).seq hs
    exact ⟨a, ws, us', rfl, sqTL_same (hid_sub _ _) q1, q2.same (hid_sub _ _), fun _ => q2, f⟩
  | false =>
    obtain ⟨a, ws, rfl, q1, q2⟩ := r1.seq hs
    exact ⟨a, ws, us', rfl, q1, q2, fun z => Bool.noConfusion z, f⟩
end
theorem atI_rp {K : PySem.W.Frag} {G : Hp} {ws : List V} {xs : List D} {i : Int} {d : D} (r : Rp K G ws xs) (h : atI xs i = some d) : ∃ v, atI ws i = some v ∧ Rp K G [v] [d] := by
  unfold atI at h ⊢
  rw [r.length]
  cases hi : ixN xs.length i with
  | none => rw [hi] at h; cases h
  | some j =>
    rw [hi] at h
    exact r.get h
/-- what an item, taken from the entry e, answers -/
def fromE (e : E) (d : D) : Rs := match e with
  | .o _ _ => .f d
  | _ => .r d
def fIx (es : List E) : Option Rs := match es with
  | [e1, e2] => (match e1.rd, e2.rd with
    | some d1, some (.int i) => (match seqD d1 with
      | some xs => (match atI xs i with | some d => some (fromE e1 d) | none => none)
      | none => none)
    | _, _ => none)
  | _ => none
theorem fromE_deliver {K : PySem.W.Frag} {zs : List Addr} {H : Hp} {e : E} {v : V} {d : D} {Q : VK} (dl : Deliver K zs H Q (fromE e d)) (r : Rp K H [v] [d]) (r2 : isO e = true → Rp K (hid H zs) [v] [d]) : Q v H := by
  cases e with
  | o s d' => exact dl v (r2 rfl)
  | x => exact dl v r
  | b _ => exact dl v r
  | p _ _ => exact dl v r
theorem pf_ix {K : PySem.W.Frag} : PureF K (r2L (rIx K)) fIx := by
  intro H zs es us R Q hm fl h dl
  unfold fIx at h
  split at h
  · rename_i e1 e2
    split at h
    · rename_i d1 i h1 h2
      cases h3 : seqD d1 with
      | none => rw [h3] at h; cases h
      | some xs =>
        rw [h3] at h
        simp only at h
        cases h4 : atI xs i with
        | none => rw [h4] at h; cases h
        | some d =>
          rw [h4] at h
          cases h
          obtain ⟨a, ws, us', rfl, q1, q2, q3, f1⟩ := fl.seq h1 h3
          obtain ⟨w, us'', rfl, r2, f2⟩ := f1.rd1 h2
          have := f2.one
          subst this
          obtain ⟨v, hv, rv⟩ := atI_rp q2 h4
          refine ⟨_, _, rfl, ?_⟩
          have hi := r2.int1
          have fin : Q v H := fromE_deliver dl rv fun z => by
            obtain ⟨v', hv', rv'⟩ := atI_rp (q3 z) h4
            rw [hv] at hv'; cases hv'
            exact rv'
          rcases q1 with q1 | q1
          · exact .inl ⟨a, ws, i, v, rfl, hi, q1, hv, fin⟩
          · exact .inr (.inl ⟨a, ws, i, v, rfl, hi, q1, hv, fin⟩)
    · cases h
  · cases h
theorem ve_ix {X : Cx} {W : WX} {a b : Expr} {ma mb : M} {pos : Pos} (ha : VE X W a ma) (hb : VE X W b mb) (hs : PlainIx b := by exact fun _ _ => rfl) : VE X W (.Subscript a b pos) (mF fIx (a2 ma mb)) := ve_ixF pf_ix ix_seq ha hb hs

/-! ### slices -/
section
variable {K : PySem.W.Frag} {W : WX} {H : Hp} {σ : L2.St} {m : M} {ms : Rho → AO}
theorem tV_mono {Q Q' : VK} (h : tV K W m σ H Q) (k : ∀ v H', Q v H' → Q' v H') : tV K W m σ H Q' := by
  obtain ⟨H0, M0, τ, tv, ρ, c, r⟩ := h
  exact ⟨H0, M0, τ, tv, ρ, c, Run.mono r k⟩
theorem tVa_cons1 {Q : List V → Hp → Prop} (h : tVa K W (aCons m ms) σ H Q) : tV K W m σ H fun x H1 => tVa K W ms σ H1 fun xs H2 => Q (x :: xs) H2 := by
  obtain ⟨H0, M0, τ, tv, ρ, c, r⟩ := h
  exact tVa_cons c r
theorem tVa_nil1 {Q : List V → Hp → Prop} (h : tVa K W aNil σ H Q) : Q [] H := by
  obtain ⟨H0, M0, τ, tv, ρ, c, r⟩ := h
  exact tVa_nil c r
end
def a3 (ma mb mc : M) : Rho → AO := aCons ma (aCons mb (aCons mc aNil))
theorem run3 {K : PySem.W.Frag} {W : WX} {H : Hp} {σ : L2.St} {ma mb mc : M} {R : List V → Hp → Prop} (h : tVa K W (a3 ma mb mc) σ H R) : tV K W ma σ H fun x H1 => tV K W mb σ H1 fun y H2 => tV K W mc σ H2 fun z H3 => R [x, y, z] H3 :=
  tV_mono (tVa_cons1 h) fun x H1 h1 => tV_mono (tVa_cons1 h1) fun y H2 h2 => tV_mono (tVa_cons1 h2) fun z H3 h3 => tVa_nil1 h3
/-- a part of a slice: None, or an int -/
def tVo (K : PySem.W.Frag) (W : WX) (m : M) : TO := fun σ H R => tV K W m σ H fun v H' => (v = .non → R none H') ∧ ∀ i, v = .int i → R (some i) H'
structure VO (X : Cx) (W : WX) (e : Option Expr) (m : M) : Prop where
  po : PO X e (tVo X.K W m)
/-- an int, or it stops -/
def mInt (m : M) : M := fun ρ => match m ρ with
  | .ok e p => (match e.rd with | some (.int i) => .ok (.o .v (.int i)) p | _ => .st)
  | .ex C pl p => .ex C pl p
  | .st => .st
theorem vo_none {X : Cx} {W : WX} : VO X W none (mC .non) := by
  refine ⟨⟨fun pins s σ H Q I h => (po_none (X := X)).run pins s σ H Q I ?_⟩⟩
  obtain ⟨H0, M0, τ, tv, ρ, c, q⟩ := h
  exact (q .non H (c.pushImm (.non .nil) rfl) fun _ => Same.refl _).1 rfl
theorem vo_some {X : Cx} {W : WX} {e : Expr} {m : M} (h : VE X W e m) : VO X W (some e) (mInt m) := by
  refine ⟨⟨fun pins s σ H Q I hh => (po_some h.pe).run pins s σ H Q I ?_⟩⟩
  obtain ⟨H0, M0, τ, tv, ρ, c, q⟩ := hh
  refine ⟨H0, M0, τ, tv, ρ, c, ?_⟩
  unfold mInt at q
  cases hm : m ρ with
  | st => rw [hm] at q; exact q
  | ex C pl p => rw [hm] at q; exact q
  | ok e p =>
    rw [hm] at q
    intro v H' c' s'
    simp only at q
    split at q
    · rename_i i hi
      have r1 := c'.last hi
      have hv := r1.int1
      subst hv
      exact ⟨i, rfl, (q (.int i) H' (c'.drop1.pushImm (.int i .nil) rfl) s').2 i rfl⟩
    · exact q.elim
def cut {α : Type} (xs : List α) (lo hi : Option Int) : List α := (xs.drop (HT.sIx xs.length 0 lo)).take (HT.sIx xs.length xs.length hi - HT.sIx xs.length 0 lo)
theorem cut_rp {K : PySem.W.Frag} {G : Hp} {ws : List V} {xs : List D} {lo hi : Option Int} (r : Rp K G ws xs) : Rp K G (cutV ws lo hi) (cut xs lo hi) := by
  unfold cutV cut
  rw [r.length]
  exact Rp.take _ (Rp.drop _ r)
def prt : D → Option (Option Int)
  | .non => some none
  | .int i => some (some i)
  | _ => none
def fSl (es : List E) : Option Rs := match es with
  | [e, l, h] => (match itm e, l.rd.bind prt, h.rd.bind prt with
    | some xs, some l, some h => (match e.rd with
      | some (.lst _) => some (.nl (cut xs l h))
      | some (.scr _) => some (.nl (cut xs l h))
      | some (.tup _) => some (.t (cut xs l h))
      | _ => none)
    | _, _, _ => none)
  | _ => none
theorem prt_v {K : PySem.W.Frag} {H : Hp} {v : V} {d : D} {o : Option Int} (r : Rp K H [v] [d]) (h : prt d = some o) : (o = none ∧ v = .non) ∨ ∃ i, o = some i ∧ v = .int i := by
  cases r with
  | non _ => cases h; exact .inl ⟨rfl, rfl⟩
  | int i _ => cases h; exact .inr ⟨i, rfl, rfl⟩
  | _ => cases h
theorem itm_scr {e : E} {xs ys : List D} (h : e.rd = some (.scr xs)) (h2 : itm e = some ys) : ys = xs := by
  cases e with
  | x => cases h
  | p _ _ => cases h2
  | o s d => cases h; cases h2; rfl
  | b d => cases h; cases h2
theorem FrL.scrIt {K : PySem.W.Frag} {zs : List Addr} {H : Hp} {e : E} {es : List E} {us : List V} {xs : List D} (h : FrL K zs H (e :: es) us) (hd : e.rd = some (.scr xs)) (hi : LP.itm e = some xs) : ∃ a ws us', us = .ref a :: us' ∧ SqL K H a ws ∧ Rp K (hid H zs) ws xs ∧ FrL K zs H es us' := by
  cases h with
  | x h => cases hd
  | p r h => cases hi
  | o r h =>
    cases hd
    cases r with
    | scr q1 q2 _ => exact ⟨_, _, _, rfl, (q1.same (hid_sub _ _)).sq, q2, h⟩
  | b r h => cases hd; cases hi
abbrev rSlU (K : PySem.W.Frag) : V → Option Int → Option Int → Hp → VK → Prop := fun x lo hi H Q => rSlL K x lo hi H Q ∨ rSlA K x lo hi H Q
theorem pf_sl {K : PySem.W.Frag} : PureF K (fun us H Q => ∃ x y z, us = [x, y, z] ∧ ∀ l h, ((l = none ∧ y = .non) ∨ ∃ i, l = some i ∧ y = .int i) → ((h = none ∧ z = .non) ∨ ∃ i, h = some i ∧ z = .int i) → rSlU K x l h H Q) fSl := by
  intro H zs es us R Q hm fl h dl
  unfold fSl at h
  split at h
  · rename_i e1 e2 e3
    split at h
    · rename_i xs lo hi h1 h2 h3
      cases hl : e2.rd with
      | none => rw [hl] at h2; cases h2
      | some dl' =>
        rw [hl] at h2
        cases hh : e3.rd with
        | none => rw [hh] at h3; cases h3
        | some dh =>
          rw [hh] at h3
          have key : ∀ {v : V} {us1 : List V}, us = v :: us1 → FrL K zs H [e2, e3] us1 → (∀ Qx, rSlU K v lo hi H Qx ∨ True) → (rSlU K v lo hi H Q) → ∃ x y z, us = [x, y, z] ∧ ∀ l h, ((l = none ∧ y = .non) ∨ ∃ i, l = some i ∧ y = .int i) → ((h = none ∧ z = .non) ∨ ∃ i, h = some i ∧ z = .int i) → rSlU K x l h H Q := by
            intro v us1 e f1 _ hr
            subst e
            obtain ⟨y, us2, rfl, ry, f2⟩ := f1.rd1 hl
            obtain ⟨z, us3, rfl, rz, f3⟩ := f2.rd1 hh
            have := f3.one
            subst this
            refine ⟨_, _, _, rfl, fun l' h' pl ph => ?_⟩
            have e1' : l' = lo := by
              rcases prt_v ry h2 with ⟨a1, a2⟩ | ⟨i, a1, a2⟩ <;> rcases pl with ⟨b1, b2⟩ | ⟨j, b1, b2⟩
              · rw [a1, b1]
              · rw [a2] at b2; cases b2
              · rw [a2] at b2; cases b2
              · rw [a2] at b2; cases b2; rw [a1, b1]
            have e2' : h' = hi := by
              rcases prt_v rz h3 with ⟨a1, a2⟩ | ⟨i, a1, a2⟩ <;> rcases ph with ⟨b1, b2⟩ | ⟨j, b1, b2⟩
              · rw [a1, b1]
              · rw [a2] at b2; cases b2
              · rw [a2] at b2; cases b2
              · rw [a2] at b2; cases b2; rw [a1, b1]
            subst e1' e2'
            exact hr
          split at h
          · rename_i ys hd
            cases h
            obtain rfl := itm_lst hd h1
            obtain ⟨a, ws, us1, rfl, q1, q2, f1⟩ := fl.lstIt hm hd h1
            exact key rfl f1 (fun _ => .inr trivial) (.inl ⟨a, ws, rfl, SqL.of q1, fun p hp => dl p _ hp (cut_rp q2)⟩)
          · rename_i ys hd
            cases h
            obtain rfl := itm_scr hd h1
            obtain ⟨a, ws, us1, rfl, q1, q2, f1⟩ := fl.scrIt hd h1
            exact key rfl f1 (fun _ => .inr trivial) (.inl ⟨a, ws, rfl, q1, fun p hp => dl p _ hp (cut_rp q2)⟩)
          · rename_i ys hd
            cases h
            obtain rfl := itm_tup hd h1
            obtain ⟨a, ws, us1, rfl, q1, q2, f1⟩ := fl.tupIt hd h1
            refine key rfl f1 (fun _ => .inr trivial) (.inr ⟨a, ws, rfl, sqT_same (hid_sub _ _) q1, fun hw => ?_, fun _ p hp => dl.2 p _ hp (cut_rp q2)⟩)
            refine dl.1 _ (.tup q1 ?_ .nil)
            have hc := cut_rp (lo := lo) (hi := hi) q2
            have e3 : cutV ws lo hi = ws := by
              unfold cutV
              rw [hw.1, hw.2]
              simp
            rw [e3] at hc
            exact hc
          · cases h
    · cases h
  · cases h
section
variable {X : Cx} {W : WX} {e : Expr} {lo hi : Option Expr} {m ml mh : M} {pos p2 : Pos}
theorem ve_sl (he : VE X W e m) (hl : VO X W lo ml) (hh : VO X W hi mh) : VE X W (.Subscript e (.Slice lo hi none p2) pos) (mF fSl (a3 m ml mh)) := by
  refine ⟨(pe_slice (SlR.or sl_list sl_tupA) he.pe hl.po hh.po).weak fun σ H Q ⟨H0, M0, τ, tv, ρ, c, q⟩ => ?_⟩
  refine tV_mono (run3 (run_F pf_sl c q)) fun x H1 h1 => tV_mono h1 fun y H2 h2 => ⟨fun ey => ?_, fun i ey => ?_⟩
  · refine tV_mono h2 fun z H3 h3 => ?_
    obtain ⟨x', y', z', e1, k⟩ := h3
    cases e1
    exact ⟨fun ez => k _ _ (.inl ⟨rfl, ey⟩) (.inl ⟨rfl, ez⟩), fun j ez => k _ _ (.inl ⟨rfl, ey⟩) (.inr ⟨j, rfl, ez⟩)⟩
  · refine tV_mono h2 fun z H3 h3 => ?_
    obtain ⟨x', y', z', e1, k⟩ := h3
    cases e1
    exact ⟨fun ez => k _ _ (.inr ⟨i, rfl, ey⟩) (.inl ⟨rfl, ez⟩), fun j ez => k _ _ (.inr ⟨i, rfl, ey⟩) (.inr ⟨j, rfl, ez⟩)⟩
end

/-! ### len, list, tuple -/
/-- one value -/
abbrev r1L (r : V → Hp → VK → Prop) : List V → Hp → VK → Prop := fun us H Q => ∃ x, us = [x] ∧ r x H Q
def fLen (es : List E) : Option Rs := match es with
  | [e] => (match e.rd with
    | some (.lst xs) => some (.f (.int xs.length))
    | some (.tup xs) => some (.f (.int xs.length))
    | some (.scr xs) => some (.f (.int xs.length))
    | some (.dk ks _) => some (.f (.int ks.length))
    | some (.dt ks _) => some (.f (.int ks.length))
    | _ => none)
  | _ => none
def fList (es : List E) : Option Rs := match es with
  | [e] => (match itm e with | some xs => some (.nl xs) | none => none)
  | _ => none
def fTuple (es : List E) : Option Rs := match es with
  | [e] => (match itm e with
    | some xs => (match e.rd with | some (.tup _) => some (.f (.tup xs)) | _ => some (.nt xs))
    | none => none)
  | _ => none
end LP
end
section
/-! LP, part o: the builtins. -/
namespace LP
open PySem PySem.Spec PySem.Calls PyProof.Rows PyProof.V L2

section
variable {X : Cx} {W : WX} {K : PySem.W.Frag} {a b c : Expr} {ma mb mc m : M} {p pos : Pos}
theorem fl1 {zs : List Addr} {H : Hp} {e : E} {us : List V} {d : D} (fl : FrL K zs H [e] us) (h : e.rd = some d) : ∃ v, us = [v] ∧ Rp K H [v] [d] ∧ (isO e = true → Rp K (hid H zs) [v] [d]) := by
  obtain ⟨v, us', rfl, r1, r2, f⟩ := fl.head h
  have := f.one
  subst this
  exact ⟨v, rfl, r1, r2⟩
abbrev rLenU (K : PySem.W.Frag) : List V → Hp → VK → Prop := fun xs H Q => (∃ x n, xs = [x] ∧ LenV K x H n ∧ Q (.int n) H) ∨ (∃ a kvs, xs = [V.ref a] ∧ H a = some (.dK kvs) ∧ Q (.int kvs.length) H) ∨ rLenT xs H Q
theorem call_lenU : CallR X (.builtin "len") (rLenU X.K) := CallR.or call_len (CallR.or call_lenD call_len_dT)
theorem pf_len : PureF K (rLenU K) fLen := by
  intro H zs es us R Q hm fl h dl
  unfold fLen at h
  split at h
  · rename_i e
    split at h
    · rename_i xs hd
      cases h
      obtain ⟨v, rfl, r1, _⟩ := fl1 fl hd
      cases r1 with
      | lst q1 q2 _ => exact .inl ⟨_, _, rfl, .inl ⟨_, SqL.of q1, q2.length.symm⟩, dl _ (.int _ .nil)⟩
    · rename_i xs hd
      cases h
      obtain ⟨v, rfl, r1, _⟩ := fl1 fl hd
      cases r1 with
      | tup q1 q2 _ => exact .inl ⟨_, _, rfl, .inr ⟨_, q1, q2.length.symm⟩, dl _ (.int _ .nil)⟩
    · rename_i xs hd
      cases h
      obtain ⟨v, rfl, r1, _⟩ := fl1 fl hd
      cases r1 with
      | scr q1 q2 _ => exact .inl ⟨_, _, rfl, .inl ⟨_, q1.sq, q2.length.symm⟩, dl _ (.int _ .nil)⟩
    · rename_i ks xs hd
      cases h
      obtain ⟨v, rfl, r1, _⟩ := fl1 fl hd
      cases r1 with
      | dk q1 ql q2 _ => exact .inr (.inl ⟨_, _, rfl, q1, by simpa [ql] using dl _ (.int _ .nil)⟩)
    · rename_i ks xs hd
      cases h
      obtain ⟨v, rfl, r1, _⟩ := fl1 fl hd
      cases r1 with
      | dt q1 ql q2 _ => exact .inr (.inr ⟨_, _, rfl, q1, by simpa [ql] using dl _ (.int _ .nil)⟩)
    · cases h
  · cases h
theorem pf_list : PureF K (fun xs H Q => ∃ p ys, xs = [V.ref p] ∧ (SqL K H p ys ∨ SqT K H p ys) ∧ ∀ l, H l = none → Q (.ref l) (upd H l (.lst ys))) fList := by
  intro H zs es us R Q hm fl h dl
  unfold fList at h
  split at h
  · rename_i e
    cases hi : itm e with
    | none => rw [hi] at h; cases h
    | some xs =>
      rw [hi] at h; cases h
      obtain ⟨a, ws, us', rfl, q1, q2, f⟩ := fl.itm hm hi
      have := f.one
      subst this
      exact ⟨a, ws, rfl, q1, fun l hl => dl l ws hl q2⟩
  · cases h
theorem pf_tuple : PureF K (fun xs H Q => ∃ p ys, xs = [V.ref p] ∧ ((SqL K H p ys ∧ ∀ l, H l = none → Q (.ref l) (upd H l (.tup ys))) ∨ (SqT K H p ys ∧ Q (.ref p) H))) fTuple := by
  intro H zs es us R Q hm fl h dl
  unfold fTuple at h
  split at h
  · rename_i e
    cases hi : itm e with
    | none => rw [hi] at h; cases h
    | some xs =>
      rw [hi] at h
      simp only at h
      split at h
      · rename_i ys hd
        cases h
        obtain rfl := itm_tup hd hi
        obtain ⟨a, ws, us', rfl, q1, q2, f⟩ := fl.tupIt hd hi
        have := f.one
        subst this
        exact ⟨a, ws, rfl, .inr ⟨sqT_same (hid_sub _ _) q1, dl _ (.tup q1 q2 .nil)⟩⟩
      · rename_i hnt
        cases h
        have hk : (∃ ys, e.rd = some (.lst ys)) ∨ ∃ ys, e.rd = some (.scr ys) := by
          cases e with
          | x => cases hi
          | p _ _ => cases hi
          | o s d =>
            cases d with
            | lst ys => exact .inl ⟨_, rfl⟩
            | scr ys => exact .inr ⟨_, rfl⟩
            | tup ys => exact absurd rfl (hnt ys)
            | _ => cases hi
          | b d =>
            cases d with
            | lst ys => exact .inl ⟨_, rfl⟩
            | _ => cases hi
        rcases hk with ⟨ys, hd⟩ | ⟨ys, hd⟩
        · obtain rfl := itm_lst hd hi
          obtain ⟨a, ws, us', rfl, q1, q2, f⟩ := fl.lstIt hm hd hi
          have := f.one
          subst this
          exact ⟨a, ws, rfl, .inl ⟨SqL.of q1, fun l hl => dl l ws hl q2⟩⟩
        · obtain rfl := itm_scr hd hi
          obtain ⟨a, ws, us', rfl, q1, q2, f⟩ := fl.scrIt hd hi
          have := f.one
          subst this
          exact ⟨a, ws, rfl, .inl ⟨q1, fun l hl => dl l ws hl q2⟩⟩
  · cases h
theorem ve_len (hg : Gl X "len") (hm : X.mg "len" = none) (ha : VE X W a ma) (he : starEach [a] X.env = (false, eval a X.env) :: starEach [] X.env := by rfl) : VE X W (.Call (.Name "len" p) [a] [] pos) (mF fLen (aCons ma aNil)) :=
  ve_callB pf_len call_lenU hg hm (by decide +kernel) (va_cons ha va_nil he) (he := he)
theorem ve_list (hg : Gl X "list") (hm : X.mg "list" = none) (ha : VE X W a ma) (he : starEach [a] X.env = (false, eval a X.env) :: starEach [] X.env := by rfl) : VE X W (.Call (.Name "list" p) [a] [] pos) (mF fList (aCons ma aNil)) :=
  ve_callTy pf_list call_list_of hg hm (by decide +kernel) (va_cons ha va_nil he) (he := he)
theorem ve_tuple (hg : Gl X "tuple") (hm : X.mg "tuple" = none) (ha : VE X W a ma) (he : starEach [a] X.env = (false, eval a X.env) :: starEach [] X.env := by rfl) : VE X W (.Call (.Name "tuple" p) [a] [] pos) (mF fTuple (aCons ma aNil)) :=
  ve_callTy pf_tuple call_tuple_of hg hm (by decide +kernel) (va_cons ha va_nil he) (he := he)

/-! ### ints and bools in a row -/
def intsD : List D → Option (List Int)
  | [] => some []
  | .int i :: ds => (match intsD ds with | some ns => some (i :: ns) | none => none)
  | _ :: _ => none
def blsD : List D → Option (List Bool)
  | [] => some []
  | .bl i :: ds => (match blsD ds with | some ns => some (i :: ns) | none => none)
  | _ :: _ => none
theorem intsD_eq : ∀ {xs : List D} {ns : List Int}, intsD xs = some ns → xs = ns.map D.int
  | [], _, h => by cases h; rfl
  | .int i :: ds, ns, h => by
    simp only [intsD] at h
    cases h2 : intsD ds with
    | none => rw [h2] at h; cases h
    | some ms => rw [h2] at h; cases h; rw [intsD_eq h2]; rfl
  | .non :: _, _, h => by simp [intsD] at h
  | .bl _ :: _, _, h => by simp [intsD] at h
  | .str _ :: _, _, h => by simp [intsD] at h
  | .tup _ :: _, _, h => by simp [intsD] at h
  | .lst _ :: _, _, h => by simp [intsD] at h
  | .dk _ _ :: _, _, h => by simp [intsD] at h
  | .dt _ _ :: _, _, h => by simp [intsD] at h
  | .ob _ _ _ :: _, _, h => by simp [intsD] at h
  | .scr _ :: _, _, h => by simp [intsD] at h
theorem blsD_eq : ∀ {xs : List D} {ns : List Bool}, blsD xs = some ns → xs = ns.map D.bl
  | [], _, h => by cases h; rfl
  | .bl i :: ds, ns, h => by
    simp only [blsD] at h
    cases h2 : blsD ds with
    | none => rw [h2] at h; cases h
    | some ms => rw [h2] at h; cases h; rw [blsD_eq h2]; rfl
  | .non :: _, _, h => by simp [blsD] at h
  | .int _ :: _, _, h => by simp [blsD] at h
  | .str _ :: _, _, h => by simp [blsD] at h
  | .tup _ :: _, _, h => by simp [blsD] at h
  | .lst _ :: _, _, h => by simp [blsD] at h
  | .dk _ _ :: _, _, h => by simp [blsD] at h
  | .dt _ _ :: _, _, h => by simp [blsD] at h
  | .ob _ _ _ :: _, _, h => by simp [blsD] at h
  | .scr _ :: _, _, h => by simp [blsD] at h
theorem intsD_map (ns : List Int) : intsD (ns.map D.int) = some ns := by
  induction ns with
  | nil => rfl
  | cons n ns ih => simp [intsD, ih]
theorem blsD_map (ns : List Bool) : blsD (ns.map D.bl) = some ns := by
  induction ns with
  | nil => rfl
  | cons n ns ih => simp [blsD, ih]
theorem Rp.ints {G : Hp} : ∀ {ns : List Int} {ws : List V}, Rp K G ws (ns.map D.int) → ws = ns.map V.int
  | [], _, r => by cases r; rfl
  | n :: ns, ws, r => by
    cases r with
    | int _ r => rw [Rp.ints r]; rfl
theorem Rp.bls {G : Hp} : ∀ {ns : List Bool} {ws : List V}, Rp K G ws (ns.map D.bl) → ws = ns.map V.bl
  | [], _, r => by cases r; rfl
  | n :: ns, ws, r => by
    cases r with
    | bl _ r => rw [Rp.bls r]; rfl

/-! ### sum -/
def rSumU (K : PySem.W.Frag) : List V → Hp → VK → Prop := fun vs H Q => ∃ (a : Addr) (ns : List Int), vs = [V.ref a] ∧ (SqL K H a (ns.map V.int) ∨ SqT K H a (ns.map V.int)) ∧ Q (.int ns.sum) H
theorem cr_sumU (hc : X.calm = true) : CallR X (.builtin "sum") (rSumU X.K) := by
  intro pins s σ H vs us Q I r h
  obtain ⟨a, ns, rfl, hs, q⟩ := h
  rcases hs with hs | hs
  · exact cr_sum hc pins s σ H _ us Q I r ⟨a, ns, rfl, hs, q⟩
  · obtain ⟨its, rv, hl, _⟩ := I.tuple hs
    rw [Vals.ref1 r]
    have hi := rv.ints
    obtain ⟨xs, hx⟩ := hi.allInts.items
    have hn : numsOf its.toArray.toList = ns := by rw [show its.toArray.toList = its from rfl, hi.numsOf]
    have hl' : s.heap.IsTuple a its.toArray := hl
    rw [hx] at hl' hn
    rw [nums_intItems] at hn
    refine PySem.W.ktm_sumG (I.ok.hd hc) hl' fun h' tk t' hk => ?_
    refine ⟨.int ns.sum, H, I.kept hk, ⟨t', ?_⟩, q⟩
    rw [preSum_eq, List.take_of_length_le (by simp), hn]
def fSum (es : List E) : Option Rs := match es with
  | [e] => (match e.rd with
    | some d => (match seqD d with
      | some xs => (match intsD xs with | some ns => some (.f (.int ns.sum)) | none => none)
      | none => none)
    | none => none)
  | _ => none
theorem pf_sum : PureF K (rSumU K) fSum := by
  intro H zs es us R Q hm fl h dl
  unfold fSum at h
  split at h
  · rename_i e
    cases hd : e.rd with
    | none => rw [hd] at h; cases h
    | some d =>
      rw [hd] at h
      simp only at h
      cases hs : seqD d with
      | none => rw [hs] at h; cases h
      | some xs =>
        rw [hs] at h
        simp only at h
        cases hn : intsD xs with
        | none => rw [hn] at h; cases h
        | some ns =>
          rw [hn] at h; cases h
          obtain ⟨a, ws, us', rfl, q1, q2, _, f⟩ := fl.seq hd hs
          have := f.one
          subst this
          rw [intsD_eq hn] at q2
          rw [q2.ints] at q1
          exact ⟨a, ns, rfl, q1, dl _ (.int _ .nil)⟩
  · cases h
def fAll (es : List E) : Option Rs := match es with
  | [e] => (match e.rd with
    | some (.lst xs) => (match blsD xs with | some ns => some (.f (.bl (ns.all id))) | none => none)
    | _ => none)
  | _ => none
def fAny (es : List E) : Option Rs := match es with
  | [e] => (match e.rd with
    | some (.lst xs) => (match blsD xs with | some ns => some (.f (.bl (ns.any id))) | none => none)
    | _ => none)
  | _ => none
theorem pf_all : PureF K (rAll K) fAll := by
  intro H zs es us R Q hm fl h dl
  unfold fAll at h
  split at h
  · rename_i e
    split at h
    · rename_i xs hd
      cases hn : blsD xs with
      | none => rw [hn] at h; cases h
      | some ns =>
        rw [hn] at h; cases h
        obtain ⟨v, rfl, r1, _⟩ := fl1 fl hd
        rw [blsD_eq hn] at r1
        cases r1 with
        | lst q1 q2 _ =>
          rw [q2.bls] at q1
          exact ⟨_, ns, rfl, SqL.of q1, dl _ (.bl _ .nil)⟩
    · cases h
  · cases h
theorem pf_any : PureF K (rAny K) fAny := by
  intro H zs es us R Q hm fl h dl
  unfold fAny at h
  split at h
  · rename_i e
    split at h
    · rename_i xs hd
      cases hn : blsD xs with
      | none => rw [hn] at h; cases h
      | some ns =>
        rw [hn] at h; cases h
        obtain ⟨v, rfl, r1, _⟩ := fl1 fl hd
        rw [blsD_eq hn] at r1
        cases r1 with
        | lst q1 q2 _ =>
          rw [q2.bls] at q1
          exact ⟨_, ns, rfl, SqL.of q1, dl _ (.bl _ .nil)⟩
    · cases h
  · cases h
theorem ve_sum (hc : X.calm = true) (hg : Gl X "sum") (hm : X.mg "sum" = none) (ha : VE X W a ma) (he : starEach [a] X.env = (false, eval a X.env) :: starEach [] X.env := by rfl) : VE X W (.Call (.Name "sum" p) [a] [] pos) (mF fSum (aCons ma aNil)) :=
  ve_callB pf_sum (cr_sumU hc) hg hm (by decide +kernel) (va_cons ha va_nil he) (he := he)
theorem ve_all (hc : X.calm = true) (hg : Gl X "all") (hm : X.mg "all" = none) (ha : VE X W a ma) (he : starEach [a] X.env = (false, eval a X.env) :: starEach [] X.env := by rfl) : VE X W (.Call (.Name "all" p) [a] [] pos) (mF fAll (aCons ma aNil)) :=
  ve_callB pf_all (cr_all hc) hg hm (by decide +kernel) (va_cons ha va_nil he) (he := he)
theorem ve_any (hc : X.calm = true) (hg : Gl X "any") (hm : X.mg "any" = none) (ha : VE X W a ma) (he : starEach [a] X.env = (false, eval a X.env) :: starEach [] X.env := by rfl) : VE X W (.Call (.Name "any" p) [a] [] pos) (mF fAny (aCons ma aNil)) :=
  ve_callB pf_any (cr_any hc) hg hm (by decide +kernel) (va_cons ha va_nil he) (he := he)
def fMax2 (es : List E) : Option Rs := match es with
  | [e1, e2] => (match e1.rd, e2.rd with | some (.int i), some (.int j) => some (.f (.int (if j > i then j else i))) | _, _ => none)
  | _ => none
def fMin2 (es : List E) : Option Rs := match es with
  | [e1, e2] => (match e1.rd, e2.rd with | some (.int i), some (.int j) => some (.f (.int (if j < i then j else i))) | _, _ => none)
  | _ => none
theorem pf_max2 : PureF K (fun xs H Q => ∃ i j, xs = [.int i, .int j] ∧ Q (.int (if j > i then j else i)) H) fMax2 := by
  intro H zs es us R Q hm fl h dl
  unfold fMax2 at h
  split at h
  · split at h
    · rename_i i j h1 h2
      obtain ⟨v, us1, rfl, r1, f1⟩ := fl.rd1 h1
      obtain ⟨w, us2, rfl, r2, f2⟩ := f1.rd1 h2
      have := f2.one
      subst this
      cases h
      exact ⟨i, j, by rw [r1.int1, r2.int1], dl _ (.int _ .nil)⟩
    · cases h
  · cases h
theorem pf_min2 : PureF K (fun xs H Q => ∃ i j, xs = [.int i, .int j] ∧ Q (.int (if j < i then j else i)) H) fMin2 := by
  intro H zs es us R Q hm fl h dl
  unfold fMin2 at h
  split at h
  · split at h
    · rename_i i j h1 h2
      obtain ⟨v, us1, rfl, r1, f1⟩ := fl.rd1 h1
      obtain ⟨w, us2, rfl, r2, f2⟩ := f1.rd1 h2
      have := f2.one
      subst this
      cases h
      exact ⟨i, j, by rw [r1.int1, r2.int1], dl _ (.int _ .nil)⟩
    · cases h
  · cases h
theorem ve_max2 (hc : X.calm = true) (hg : Gl X "max") (hm : X.mg "max" = none) (ha : VE X W a ma) (hb : VE X W b mb) (he : starEach [a, b] X.env = (false, eval a X.env) :: starEach [b] X.env := by rfl) (he2 : starEach [b] X.env = (false, eval b X.env) :: starEach [] X.env := by rfl) :
    VE X W (.Call (.Name "max" p) [a, b] [] pos) (mF fMax2 (a2 ma mb)) := ve_callB pf_max2 (call_max2 hc) hg hm (by decide +kernel) (va_cons ha (va_cons hb va_nil he2) he) (he := he) (hpl := by rw [he2]; rfl)
theorem ve_min2 (hc : X.calm = true) (hg : Gl X "min") (hm : X.mg "min" = none) (ha : VE X W a ma) (hb : VE X W b mb) (he : starEach [a, b] X.env = (false, eval a X.env) :: starEach [b] X.env := by rfl) (he2 : starEach [b] X.env = (false, eval b X.env) :: starEach [] X.env := by rfl) :
    VE X W (.Call (.Name "min" p) [a, b] [] pos) (mF fMin2 (a2 ma mb)) := ve_callB pf_min2 (call_min2 hc) hg hm (by decide +kernel) (va_cons ha (va_cons hb va_nil he2) he) (he := he) (hpl := by rw [he2]; rfl)
def fInt (es : List E) : Option Rs := match es with
  | [e] => (match e.rd with | some (.int i) => some (.f (.int i)) | some (.bl k) => some (.f (.int (if k then 1 else 0))) | _ => none)
  | _ => none
theorem pf_int : PureF K (fun xs H Q => (∃ i, xs = [.int i] ∧ Q (.int i) H) ∨ ∃ k, xs = [.bl k] ∧ Q (.int (if k then 1 else 0)) H) fInt := by
  intro H zs es us R Q hm fl h dl
  unfold fInt at h
  split at h
  · split at h
    · rename_i i hd
      cases h
      obtain ⟨v, rfl, r1, _⟩ := fl1 fl hd
      exact .inl ⟨i, by rw [r1.int1], dl _ (.int _ .nil)⟩
    · rename_i i hd
      cases h
      obtain ⟨v, rfl, r1, _⟩ := fl1 fl hd
      exact .inr ⟨i, by rw [r1.bl1], dl _ (.int _ .nil)⟩
    · cases h
  · cases h
theorem ve_intc (hg : Gl X "int") (hm : X.mg "int" = none) (ha : VE X W a ma) (he : starEach [a] X.env = (false, eval a X.env) :: starEach [] X.env := by rfl) : VE X W (.Call (.Name "int" p) [a] [] pos) (mF fInt (aCons ma aNil)) :=
  ve_callTy pf_int call_int1 hg hm (by decide +kernel) (va_cons ha va_nil he) (he := he)
end
end LP
end
section
/-! LP, part p: sorted, of any data of one kind; max, min of such data. -/
namespace LP
open PySem PySem.Spec PySem.Calls PyProof.Rows PySem.W L2

def isTupNE : D → Bool
  | .tup (_ :: _) => true
  | _ => false
def isPlainD : D → Bool
  | .bl _ => true
  | .int _ => true
  | .str _ => true
  | .lst _ => true
  | .scr _ => true
  | _ => false
def alikeD (a b : D) : Bool := alike (pyT a) (pyT b)
/-- what may be sorted -/
def sortOk (xs : List D) : Bool := okDs 60 xs && (xs.all fun a => xs.all fun b => alikeD a b) && (xs.all isTupNE || xs.all isPlainD)
def leD : D → D → Bool := dataLe false pyT
def sortD (xs : List D) : List D := xs.mergeSort leD
theorem sortOk_alike {xs : List D} (h : sortOk xs = true) : AllAlike (xs.map pyT) := by
  simp only [sortOk, Bool.and_eq_true, List.all_eq_true] at h
  intro d hd d' hd'
  obtain ⟨a, ha, rfl⟩ := List.mem_map.mp hd
  obtain ⟨b, hb, rfl⟩ := List.mem_map.mp hd'
  exact h.1.2 a ha b hb
theorem sortOk_sortable {xs : List D} (h : sortOk xs = true) : Sortable (xs.map pyT) := by
  simp only [sortOk, Bool.and_eq_true, Bool.or_eq_true, List.all_eq_true] at h
  rcases h.2 with q | q
  · refine .inl fun d hd => ?_
    obtain ⟨a, ha, rfl⟩ := List.mem_map.mp hd
    have := q a ha
    cases a with
    | tup ys =>
      cases ys with
      | nil => cases this
      | cons y ys => exact ⟨_, _, rfl⟩
    | _ => cases this
  · refine .inr fun d hd => ?_
    obtain ⟨a, ha, rfl⟩ := List.mem_map.mp hd
    have := q a ha
    cases a with
    | bl _ => exact ⟨by simp [pyT], by simp [pyT]⟩
    | int _ => exact ⟨by simp [pyT], by simp [pyT]⟩
    | str _ => exact ⟨by simp [pyT], by simp [pyT]⟩
    | lst _ => exact ⟨by simp [pyT], by simp [pyT]⟩
    | scr _ => exact ⟨by simp [pyT], by simp [pyT]⟩
    | _ => simp [isPlainD] at this
theorem okDs_depth {n : Nat} : ∀ {xs : List D}, okDs n xs = true → ∀ d ∈ xs, (pyT d).depth ≤ n := by
  suffices h : ∀ (d : D) (n : Nat), okD n d = true → (pyT d).depth ≤ n by
    intro xs hx d hd
    rw [okDs_all, List.all_eq_true] at hx
    exact h d n (hx d hd)
  intro d
  refine D.rec (motive_1 := fun d => ∀ n, okD n d = true → (pyT d).depth ≤ n) (motive_2 := fun xs => ∀ n, okDs n xs = true → PyData.depthAll (pyTs xs) ≤ n) ?_ ?_ ?_ ?_ ?_ ?_ ?_ ?_ ?_ ?_ ?_ ?_ d
  · intro n _; simp [pyT, PyData.depth]
  · intro b n _; simp [pyT, PyData.depth]
  · intro b n _; simp [pyT, PyData.depth]
  · intro b n _; simp [pyT, PyData.depth]
  · intro xs ih n h
    cases n with
    | zero => simp [okD] at h
    | succ n => have := ih n (by simpa [okD] using h); simp only [pyT, PyData.depth]; omega
  · intro xs ih n h
    cases n with
    | zero => simp [okD] at h
    | succ n => have := ih n (by simpa [okD] using h); simp only [pyT, PyData.depth]; omega
  · intro ks xs ih n h; simp [okD] at h
  · intro ks xs ih n h; simp [okD] at h
  · intro C ns xs ih n h; simp [okD] at h
  · intro xs ih n h
    cases n with
    | zero => simp [okD] at h
    | succ n => have := ih n (by simpa [okD] using h); simp only [pyT, PyData.depth]; omega
  · intro n _; simp [pyTs, PyData.depthAll]
  · intro d ds i1 i2 n h
    simp only [okDs, Bool.and_eq_true] at h
    have h1 := i1 n h.1
    have h2 := i2 n h.2
    simp only [pyTs, PyData.depthAll]
    omega
theorem Rp.zipAll {K : Frag} {G : Hp} : ∀ {ws : List V} {xs : List D}, Rp K G ws xs → ∀ p ∈ ws.zip xs, Rp K G [p.1] [p.2]
  | [], _, _, p, hp => by simp at hp
  | _ :: _, [], r, _, _ => nomatch r
  | w :: ws, x :: xs, r, p, hp => by
    rw [List.zip_cons_cons] at hp
    rcases List.mem_cons.mp hp with rfl | hp
    · exact r.uncons.1
    · exact Rp.zipAll r.uncons.2 p hp
theorem Rp.ofAll {K : Frag} {G : Hp} : ∀ {bs : List (V × D)}, (∀ p ∈ bs, Rp K G [p.1] [p.2]) → Rp K G (bs.map (·.1)) (bs.map (·.2))
  | [], _ => .nil
  | b :: bs, h => (h b List.mem_cons_self).cons1 (Rp.ofAll fun p hp => h p (List.mem_cons_of_mem _ hp))
theorem zip_le (ws : List V) (xs : List D) (h : ws.length = xs.length) : ((ws.zip xs).mergeSort (dataLe false fun b => pyT b.2)).map (·.2) = sortD xs := by
  have e := List.map_mergeSort (r := dataLe false fun (b : V × D) => pyT b.2) (s := leD) (f := Prod.snd) (l := ws.zip xs) fun a _ b _ => rfl
  rw [List.map_snd_zip (by omega)] at e
  exact e
section
variable {X : Cx} {pins : List (Addr × Obj)} {σ : L2.St} {H : Hp} {s : Shared}
theorem each_rel : ∀ {ws : List V} {xs : List D} {its : List Value}, Vals ws its → DpAll X.K H ws (pyTs xs) → Inv X pins σ H s → EachIs (fun v b => RelV b.1 v) its (ws.zip xs) ∧ EachIs (fun v b => ∃ as, Reads s.heap v (pyT b.2) as) its (ws.zip xs)
  | [], [], _, r, _, _ => by cases r; exact ⟨.nil, .nil⟩
  | [], _ :: _, _, _, q, _ => nomatch q
  | _ :: _, [], _, _, q, _ => nomatch q
  | w :: ws, x :: xs, its, r, q, I => by
    cases r with
    | cons r1 r2 =>
      cases q with
      | cons q1 q2 =>
        obtain ⟨a, b⟩ := each_rel r2 q2 I
        exact ⟨.cons r1 a, .cons (Dp.reads I _ _ _ q1 r1) b⟩
theorem vals_each : ∀ {out : List Value} {bs : List (V × D)}, EachIs (fun v b => RelV b.1 v) out bs → Vals (bs.map (·.1)) out
  | _, _, .nil => .nil
  | _, _, .cons h t => .cons h (vals_each t)
def rSortedD (K : Frag) : List V → Hp → VK → Prop := fun vs H Q => ∃ (a : Addr) (ws : List V) (xs : List D), vs = [V.ref a] ∧ (SqL K H a ws ∨ SqT K H a ws) ∧ Rp K H ws xs ∧ sortOk xs = true ∧
  ∀ (p : Addr) (us : List V), H p = none → (∀ G, Rp K G ws xs → Rp K G us (sortD xs)) → Q (.ref p) (upd H p (.lst us))
theorem cr_sortedD {k : Nat} (hr : Room k X.A) : CallR X (.builtin "sorted") (rSortedD X.K) := by
  intro pins s σ H vs us Q I r h
  obtain ⟨a, ws, xs, rfl, hs, rp, hok, q⟩ := h
  rw [Vals.ref1 r]
  have hob : ∃ (T : String) (o : Obj) (its : List Value) (n : Nat), (T = "list" ∨ T = "tuple") ∧ s.heap.get? a = some o ∧ o.cls = .type T ∧ o.data = .seq its.toArray n ∧ Vals ws its ∧ ws.length ≤ sizeLine := by
    rcases hs with hs | hs
    · obtain ⟨its, rv, hl, hz⟩ := I.list hs
      obtain ⟨o, ho, hc, n, hd⟩ := hl.isList
      exact ⟨_, o, its, n, .inl rfl, ho, hc, hd, rv, hz⟩
    · obtain ⟨its, rv, ⟨o, ho, hc, n, hd⟩, hz⟩ := I.tuple hs
      exact ⟨_, o, its, n, .inr rfl, ho, hc, hd, rv, hz⟩
  obtain ⟨T, o, its, n, hT, ho, hc, hd, rv, hz⟩ := hob
  have hlen := rv.length
  have hok2 := hok
  simp only [sortOk, Bool.and_eq_true] at hok2
  obtain ⟨hdp, _, _⟩ := rp.dp 60 hok2.1.1
  obtain ⟨er, ed⟩ := each_rel rv hdp I
  have hmap : (ws.zip xs).map (fun b => pyT b.2) = xs.map pyT := by
    rw [show (fun (b : V × D) => pyT b.2) = pyT ∘ Prod.snd from rfl, ← List.map_map, List.map_snd_zip (by rw [rp.length]; exact Nat.le_refl _)]
  have hal : AllAlike ((ws.zip xs).map fun b => pyT b.2) := by rw [hmap]; exact sortOk_alike hok
  have hk : Sortable ((ws.zip xs).map fun b => pyT b.2) := by rw [hmap]; exact sortOk_sortable hok
  refine call_function_entry kind_sorted plain_sorted entry_sorted (args_sorted1 _) ?_
  unfold Builtin.«sorted»
  refine wpAny_bind (m := checkCount "sorted" 1 1 _) (wpAny_pure (wpAny_bind (wpAny_collect_seq a hT ho hc hd (fun h' kh => ?_) (by rw [List.size_toArray]; omega))))
  refine wpAny_bind (wpAny_newList ?_ (by show its.length ≤ sizeLine; omega))
  have hnew : (h'.push (seqObj "list" its.toArray 0)).get? h'.objs.size = some (seqObj "list" its.toArray 0) := Heap.get?_push_size _ rfl
  have ho2 : ∀ b u, s.heap.get? b = some u → (sortingHeap (h'.push (seqObj "list" its.toArray 0)) h'.objs.size its).get? b = some u := fun b u hb =>
    sortingHeap_old (Nat.ne_of_lt (Heap.lt_size (kh b u hb))) (Heap.get?_push_of_some _ (kh b u hb))
  have ed' : EachIs (fun v b => ∃ as, Reads (sortingHeap (h'.push (seqObj "list" its.toArray 0)) h'.objs.size its) v (pyT b.2) as) its (ws.zip xs) := ed.mono fun _ _ ⟨as, r⟩ => ⟨as, PyProof.Rows.Reads.keeps ho2 r⟩
  have hS : SortsAt X.prog X.w X.A.in1.in1 { s with heap := sortingHeap (h'.push (seqObj "list" its.toArray 0)) h'.objs.size its } (dataKind (sortingHeap (h'.push (seqObj "list" its.toArray 0)) h'.objs.size its) ((ws.zip xs).map fun b => pyT b.2)) its :=
    SortsAt.data (s := { s with heap := sortingHeap (h'.push (seqObj "list" its.toArray 0)) h'.objs.size its }) (each_map (R := fun v d => ∃ as, Reads _ v d as) (fun (b : V × D) => pyT b.2) ed') hal hk fun d hd' => by
      rw [hmap] at hd'
      obtain ⟨x, hx, rfl⟩ := List.mem_map.mp hd'
      have h1 := okDs_depth hok2.1.1 x hx
      have h2 := units65 hr
      show X.A.units + 1 + 1 + _ < cLine
      omega
  have hout := sortVals_data (h' := sortingHeap (h'.push (seqObj "list" its.toArray 0)) h'.objs.size its) (enc := fun b => pyT b.2) false er ed' hal
  refine wpAny_bind (wpAny_holding (wpAny_call_entry (s := { s with heap := h'.push (seqObj "list" its.toArray 0) }) slot_list_sort ⟨_, hnew, rfl⟩ entry_list_sort (list_sort_vals (s := { s with heap := h'.push (seqObj "list" its.toArray 0) }) hnew hS (by omega) ⟨.none, rfl, ?_⟩) (args_list_sort _)))
  obtain ⟨ep, he'⟩ := PyProof.Rows.sortedHeap_at (vs := its) (out := (sortVals (dataKind (sortingHeap (h'.push (seqObj "list" its.toArray 0)) h'.objs.size its) ((ws.zip xs).map fun b => pyT b.2)) false its its).toArray) hnew
  have hv := vals_each hout
  have I1 : Inv X pins σ H { s with heap := h' } := I.kept (t' := s.toks) kh
  refine wpAny_pure ⟨_, rfl, .ref h'.objs.size, upd H h'.objs.size (.lst (((ws.zip xs).mergeSort (dataLe false fun b => pyT b.2)).map (·.1))), I1.laid (t' := s.toks) (fun b u hb => ?_) (Nat.le_refl _) ⟨?_, _, ep, hv, he'⟩, rfl, q _ _ (I1.hok.fresh (Nat.le_refl _)) fun G rg => ?_⟩
  · rw [PyProof.Rows.sortedHeap_old (Nat.ne_of_lt (Heap.lt_size hb)) (Nat.lt_of_lt_of_le (Heap.lt_size hb) (by rw [size_push']; exact Nat.le_succ _))]
    exact Heap.get?_push_of_some _ hb
  · rw [List.length_map, (List.mergeSort_perm _ _).length_eq, List.length_zip]
    omega
  · rw [← zip_le ws xs rp.length]
    refine Rp.ofAll fun p hp => rg.zipAll p ?_
    exact (List.mergeSort_perm _ _).mem_iff.mp hp
end

def fSorted (es : List E) : Option Rs := match es with
  | [e] => (match itm e with | some xs => if sortOk xs = true then some (.nl (sortD xs)) else none | none => none)
  | _ => none
section
variable {X : Cx} {W : WX} {K : Frag} {a b c : Expr} {ma mb mc m : M} {p pos : Pos}
theorem pf_sorted : PureF K (rSortedD K) fSorted := by
  intro H zs es us R Q hm fl h dl
  unfold fSorted at h
  split at h
  · rename_i e
    cases hi : itm e with
    | none => rw [hi] at h; cases h
    | some xs =>
      rw [hi] at h
      simp only at h
      split at h
      · rename_i hok
        cases h
        obtain ⟨a, ws, us', rfl, q1, q2, f⟩ := fl.itm hm hi
        have := f.one
        subst this
        exact ⟨a, ws, xs, rfl, q1, q2.same (hid_sub _ _), hok, fun p us hp k => dl p us hp (k _ q2)⟩
      · cases h
  · cases h
theorem ve_sorted {k : Nat} (hr : Room k X.A) (hg : Gl X "sorted") (hm : X.mg "sorted" = none) (ha : VE X W a ma) (he : starEach [a] X.env = (false, eval a X.env) :: starEach [] X.env := by rfl) : VE X W (.Call (.Name "sorted" p) [a] [] pos) (mF fSorted (aCons ma aNil)) :=
  ve_callB pf_sorted (cr_sortedD hr) hg hm (by decide +kernel) (va_cons ha va_nil he) (he := he)

/-! ### max, min of ints -/
def rMxI (K : Frag) (big : Bool) : List V → Hp → VK → Prop := fun vs H Q => ∃ (a : Addr) (n : Int) (ns : List Int), vs = [V.ref a] ∧ (SqL K H a ((n :: ns).map V.int) ∨ SqT K H a ((n :: ns).map V.int)) ∧ Q (.int (ns.foldl (if big = true then max else min) n)) H
theorem reads_ints {h : Heap} : ∀ {us : List Value} {ns : List Int}, Vals (ns.map V.int) us → ReadsAll h us (ns.map PyData.int) (List.replicate 0 0)
  | _, [], r => by cases r; exact .nil
  | _, n :: ns, r => by
    cases r with
    | cons r1 r2 =>
      obtain ⟨t, rfl⟩ := r1
      exact ReadsAll.cons (as := []) (.int _ _) (reads_ints r2)
theorem alike_int (ns : List Int) : AlikeAll (ns.map PyData.int) := by
  refine ⟨fun x hx y hy => ?_, fun x hx => ?_⟩
  · obtain ⟨i, _, rfl⟩ := List.mem_map.mp hx
    obtain ⟨j, _, rfl⟩ := List.mem_map.mp hy
    simp [alike]
  · obtain ⟨i, _, rfl⟩ := List.mem_map.mp hx
    simp
theorem cr_maxI {k : Nat} (hr : Room k X.A) (hc : X.calm = true) : CallR X (.builtin "max") (rMxI X.K true) := by
  intro pins s σ H vs us Q I r h
  obtain ⟨a, n, ns, rfl, hs, q⟩ := h
  rw [Vals.ref1 r]
  have hu : X.A.units + 1 + PyData.depthAll (PyData.int n :: ns.map .int) < cLine := by
    have h1 := units65 hr
    have h2 := depth_ints (n :: ns)
    rw [List.map_cons] at h2
    omega
  have fin : ∀ (its : List Value), Vals ((n :: ns).map V.int) its → ∀ (i : Nat) (v : Value) (h' : Heap) (tk : Nat) (bs : List Addr), its.toArray[i]? = some v → Reads h' v (maxD (.int n) (ns.map .int)) bs → (∀ b o, s.heap.get? b = some o → h'.get? b = some o) → EP X pins σ Q v { s with heap := h', toks := tk } := by
    intro its rv i v h' tk bs hi rd hk
    rw [maxD_ints] at rd
    cases rd
    exact ⟨.int _, H, I.kept hk, ⟨_, rfl⟩, q⟩
  rcases hs with hs | hs
  · obtain ⟨its, rv, hl, _⟩ := I.list hs
    exact max_list_data (I.ok.hd hc) hl.isList (reads_ints rv) (alike_int (n :: ns)) hu (fin its rv)
  · obtain ⟨its, rv, hl, _⟩ := I.tuple hs
    exact max_tuple_data (I.ok.hd hc) hl (reads_ints rv) (alike_int (n :: ns)) hu (fin its rv)
theorem cr_minI {k : Nat} (hr : Room k X.A) (hc : X.calm = true) : CallR X (.builtin "min") (rMxI X.K false) := by
  intro pins s σ H vs us Q I r h
  obtain ⟨a, n, ns, rfl, hs, q⟩ := h
  rw [Vals.ref1 r]
  have hu : X.A.units + 1 + PyData.depthAll (PyData.int n :: ns.map .int) < cLine := by
    have h1 := units65 hr
    have h2 := depth_ints (n :: ns)
    rw [List.map_cons] at h2
    omega
  have fin : ∀ (its : List Value), Vals ((n :: ns).map V.int) its → ∀ (i : Nat) (v : Value) (h' : Heap) (tk : Nat) (bs : List Addr), its.toArray[i]? = some v → Reads h' v (minD (.int n) (ns.map .int)) bs → (∀ b o, s.heap.get? b = some o → h'.get? b = some o) → EP X pins σ Q v { s with heap := h', toks := tk } := by
    intro its rv i v h' tk bs hi rd hk
    rw [minD_ints] at rd
    cases rd
    exact ⟨.int _, H, I.kept hk, ⟨_, rfl⟩, q⟩
  rcases hs with hs | hs
  · obtain ⟨its, rv, hl, _⟩ := I.list hs
    exact min_list_data (I.ok.hd hc) hl.isList (reads_ints rv) (alike_int (n :: ns)) hu (fin its rv)
  · obtain ⟨its, rv, hl, _⟩ := I.tuple hs
    exact min_tuple_data (I.ok.hd hc) hl (reads_ints rv) (alike_int (n :: ns)) hu (fin its rv)
def fMx (big : Bool) (es : List E) : Option Rs := match es with
  | [e] => (match e.rd with
    | some d => (match seqD d with
      | some xs => (match intsD xs with | some (n :: ns) => some (.f (.int (ns.foldl (if big = true then max else min) n))) | _ => none)
      | none => none)
    | none => none)
  | _ => none
theorem pf_mx {big : Bool} : PureF K (rMxI K big) (fMx big) := by
  intro H zs es us R Q hm fl h dl
  unfold fMx at h
  split at h
  · rename_i e
    cases hd : e.rd with
    | none => rw [hd] at h; cases h
    | some d =>
      rw [hd] at h
      simp only at h
      cases hs : seqD d with
      | none => rw [hs] at h; cases h
      | some xs =>
        rw [hs] at h
        simp only at h
        split at h
        · rename_i n ns hn
          cases h
          obtain ⟨a, ws, us', rfl, q1, q2, _, f⟩ := fl.seq hd hs
          have := f.one
          subst this
          rw [intsD_eq hn] at q2
          rw [q2.ints] at q1
          exact ⟨a, n, ns, rfl, q1, dl _ (.int _ .nil)⟩
        · cases h
  · cases h
theorem ve_max1 {k : Nat} (hr : Room k X.A) (hc : X.calm = true) (hg : Gl X "max") (hm : X.mg "max" = none) (ha : VE X W a ma) (he : starEach [a] X.env = (false, eval a X.env) :: starEach [] X.env := by rfl) : VE X W (.Call (.Name "max" p) [a] [] pos) (mF (fMx true) (aCons ma aNil)) :=
  ve_callB pf_mx (cr_maxI hr hc) hg hm (by decide +kernel) (va_cons ha va_nil he) (he := he)
theorem ve_min1 {k : Nat} (hr : Room k X.A) (hc : X.calm = true) (hg : Gl X "min") (hm : X.mg "min" = none) (ha : VE X W a ma) (he : starEach [a] X.env = (false, eval a X.env) :: starEach [] X.env := by rfl) : VE X W (.Call (.Name "min" p) [a] [] pos) (mF (fMx false) (aCons ma aNil)) :=
  ve_callB pf_mx (cr_minI hr hc) hg hm (by decide +kernel) (va_cons ha va_nil he) (he := he)
end
end LP
end
section
/-! LP, part q: isinstance. -/
namespace LP
open PySem PySem.Spec PySem.Calls PyProof.Rows PySem.W L2

def tyN : List String := ["int", "bool", "tuple", "list", "str", "dict"]
def tyD : D → Option String
  | .non => some "NoneType"
  | .bl _ => some "bool"
  | .int _ => some "int"
  | .str _ => some "str"
  | .tup _ => some "tuple"
  | .lst _ => some "list"
  | .scr _ => some "list"
  | .dk _ _ => some "dict"
  | .dt _ _ => some "dict"
  | .ob _ _ _ => none
def tySub (t T : String) : Bool := t == T || (t == "bool" && T == "int")
def isAny (Ts : List String) (d : D) : Option Bool := match tyD d with
  | some t => some (Ts.any (tySub t))
  | none => none
def mIs (Ts : List String) (m : M) : M := fun ρ => match m ρ with
  | .ok e p => (match e.rd.bind (isAny Ts) with | some b => .ok (.o .v (.bl b)) p | none => .st)
  | .ex C pl p => .ex C pl p
  | .st => .st
theorem Rp.ty {K : Frag} {H : Hp} {v : V} {d : D} {t : String} (r : Rp K H [v] [d]) (h : tyD d = some t) : TyX K H v (.type t) := by
  cases r with
  | non _ => cases h; exact .base .non
  | bl b _ => cases h; exact .base (.bl b)
  | int i _ => cases h; exact .base (.int i)
  | str i _ => cases h; exact .base (.str i)
  | tup q _ _ =>
    cases h
    rcases q with (q | ⟨o, q⟩) | ⟨o, its, n, hk, hc, _⟩
    · exact .base (.tup q)
    · exact .fTuple q
    · exact .kTuple hk hc
  | lst q _ _ => cases h; exact .base (.lst q)
  | dk q _ _ _ => cases h; exact .base (.dK q)
  | dt q _ _ _ => cases h; exact .base (.dT q)
  | ob _ _ _ _ => cases h
  | scr q _ _ =>
    cases h
    rcases q with ⟨o, q⟩ | ((q | ⟨o, q⟩) | ⟨o, its, n, hk, hc, _⟩)
    · exact .base (.frz q)
    · cases q
    · cases q
    · exact .kList hk hc
theorem sub_kit {K : Frag} {t T : String} {d : D} (h : tyD d = some t) (hT : T ∈ tyN) : kitOne K (.type t) (.type T) = some (tySub t T) := by
  refine kit_ty ?_
  have ht : t ∈ ["NoneType", "bool", "int", "str", "tuple", "list", "dict"] := by
    cases d <;> (simp only [tyD, Option.some.injEq, reduceCtorEq] at h; try (subst h; decide))
  have key : ∀ t ∈ ["NoneType", "bool", "int", "str", "tuple", "list", "dict"], ∀ T ∈ tyN, kitB t T = some (tySub t T) := by decide +kernel
  exact key t ht T hT
theorem any_kit {K : Frag} {t : String} {d : D} (h : tyD d = some t) : ∀ {Ts : List String}, (∀ T ∈ Ts, T ∈ tyN) → kitAny K (.type t) (Ts.map Value.type) = some (Ts.any (tySub t))
  | [], _ => rfl
  | T :: Ts, hT => by
    have h1 := sub_kit (K := K) h (hT T List.mem_cons_self)
    rw [List.map_cons, List.any_cons]
    refine kitAny_cons h1 (fun hb => ?_) fun hb => ?_
    · rw [hb, Bool.false_or]
      exact any_kit h fun T' m => hT T' (List.mem_cons_of_mem _ m)
    · rw [hb, Bool.true_or]
section
variable {X : Cx} {W : WX} {e : Expr} {m : M} {p p2 p3 pos : Pos} {x1 : ExprContext}
theorem paired_ty : ∀ Ts : List String, Paired ClsV (Ts.map V.ty) (Ts.map Value.type)
  | [] => .nil
  | T :: Ts => .cons (.ty T) (paired_ty Ts)
/-- the names of built-in types -/
inductive TyNames (X : Cx) : List Expr → List String → Prop
  | nil : TyNames X [] []
  | cons {x : Str} {T : String} {q : Pos} {es Ts} (hg : Gl X x) (hm : X.mg x = none) (hv : bootBuiltins x = some (.type T)) (hn : x ≠ "__name__") (hd : (x == ("__debug__" : Str)) = false) (hs : starEach (.Name x q :: es) X.env = (false, eval (.Name x q) X.env) :: starEach es X.env) (h : TyNames X es Ts) : TyNames X (.Name x q :: es) (T :: Ts)
def tTys (Ts : List String) : TA := fun _ H Q => Q (Ts.map V.ty) H
theorem TyNames.pa : ∀ {es : List Expr} {Ts : List String}, TyNames X es Ts → PA X es (tTys Ts)
  | _, _, .nil => pa_nil
  | _, _, .cons hg hm hv hn hd hs h => pa_cons (pe_bltn hg hm hv (v := V.ty _) rfl hn hd) h.pa hs
theorem ve_is1 {x : Str} {T : String} {q : Pos} (hg : Gl X "isinstance") (hm : X.mg "isinstance" = none) (he : VE X W e m) (ht : TyNames X [.Name x q] [T]) (hT : ∀ U ∈ [T], U ∈ tyN := by decide)
    (hs : starEach [e, .Name x q] X.env = (false, eval e X.env) :: starEach [.Name x q] X.env := by rfl) (hpl : (backTo pos (starEach [.Name x q] X.env)).any (·.1) = false := by rfl) : VE X W (.Call (.Name "isinstance" p) [e, .Name x q] [] pos) (mIs [T] m) := by
  refine ⟨(pe_callB call_isi hg hm (by decide +kernel) (pa_cons he.pe ht.pa hs) (he := hs) (hpl := hpl)).weak fun σ H Q ⟨H0, M0, τ, tv, ρ, c, r⟩ => ?_⟩
  refine ⟨H0, M0, τ, tv, ρ, c, ?_⟩
  unfold mIs at r
  cases hm' : m ρ with
  | st => rw [hm'] at r; exact r
  | ex C pl p => rw [hm'] at r; exact r
  | ok en pr =>
    rw [hm'] at r
    intro v H' c' s'
    simp only at r
    cases hd : en.rd with
    | none => rw [hd] at r; exact r.elim
    | some d =>
      rw [hd] at r
      simp only [Option.bind] at r
      cases ht2 : tyD d with
      | none => simp only [isAny, ht2] at r; exact r.elim
      | some t =>
        simp only [isAny, ht2, List.any_cons, List.any_nil, Bool.or_false] at r
        have r1 := c'.last hd
        exact ⟨v, _, _, _, _, rfl, .ty T, r1.ty ht2, sub_kit ht2 (hT T List.mem_cons_self), r _ H' (c'.drop1.pushImm (.bl _ .nil) rfl) s'⟩
theorem ve_isT {es : List Expr} {Ts : List String} (hg : Gl X "isinstance") (hm : X.mg "isinstance" = none) (he : VE X W e m) (ht : TyNames X es Ts) (hT : ∀ U ∈ Ts, U ∈ tyN := by decide) {x1}
    (hs : starEach [e, .Tuple es x1 p2] X.env = (false, eval e X.env) :: starEach [.Tuple es x1 p2] X.env := by rfl) (hs2 : starEach [.Tuple es x1 p2] X.env = (false, eval (.Tuple es x1 p2) X.env) :: starEach [] X.env := by rfl) (hpl : (backTo pos (starEach [.Tuple es x1 p2] X.env)).any (·.1) = false := by rfl) (hz : Ts.length ≤ 1000 := by decide) :
    VE X W (.Call (.Name "isinstance" p) [e, .Tuple es x1 p2] [] pos) (mIs Ts m) := by
  refine ⟨(pe_callB call_isiT hg hm (by decide +kernel) (pa_cons he.pe (pa_cons (pe_tup ht.pa) pa_nil hs2) hs) (he := hs) (hpl := hpl)).weak fun σ H Q ⟨H0, M0, τ, tv, ρ, c, r⟩ => ?_⟩
  refine ⟨H0, M0, τ, tv, ρ, c, ?_⟩
  unfold mIs at r
  cases hm' : m ρ with
  | st => rw [hm'] at r; exact r
  | ex C pl p => rw [hm'] at r; exact r
  | ok en pr =>
    rw [hm'] at r
    intro v H' c' s'
    simp only at r
    cases hd : en.rd with
    | none => rw [hd] at r; exact r.elim
    | some d =>
      rw [hd] at r
      simp only [Option.bind] at r
      cases ht2 : tyD d with
      | none => simp only [isAny, ht2] at r; exact r.elim
      | some t =>
        simp only [isAny, ht2] at r
        have r1 := c'.last hd
        refine ⟨by rw [List.length_map]; exact small_line hz, fun q hq => ?_⟩
        have sm : Same H' (upd H' q (.tup (Ts.map V.ty))) := same_new hq
        exact ⟨v, q, _, _, _, _, rfl, upd_same, paired_ty Ts, (r1.same sm).ty ht2, any_kit ht2 hT, r _ _ ((c'.drop1.grow sm).pushImm (.bl _ .nil) rfl) fun z => (s' z).trans sm⟩
end
end LP
end
section
/-! LP, part r: a place within an owned tree. -/
namespace LP
open PySem PySem.Spec PyProof.Rows L2

def foc : List Nat → Sh → D → Option (Sh × D)
  | [], s, d => some (s, d)
  | j :: p, .l s, .lst xs => (match xs[j]? with | some d => foc p s d | none => none)
  | j :: p, .dk s, .dk _ xs => (match xs[j]? with | some d => foc p s d | none => none)
  | j :: p, .dt s, .dt _ xs => (match xs[j]? with | some d => foc p s d | none => none)
  | j :: p, .ob ss, .ob _ _ xs => (match ss[j]?, xs[j]? with | some s, some d => foc p s d | _, _ => none)
  | _ :: _, _, _ => none
def setAt : List Nat → D → D → D
  | [], n, _ => n
  | j :: p, n, .lst xs => .lst (xs.set j (match xs[j]? with | some d => setAt p n d | none => .non))
  | j :: p, n, .dk ks xs => .dk ks (xs.set j (match xs[j]? with | some d => setAt p n d | none => .non))
  | j :: p, n, .dt ks xs => .dt ks (xs.set j (match xs[j]? with | some d => setAt p n d | none => .non))
  | j :: p, n, .ob C ns xs => .ob C ns (xs.set j (match xs[j]? with | some d => setAt p n d | none => .non))
  | _ :: _, _, d => d
def nav : List Nat → Hp → V → Option V
  | [], _, v => some v
  | j :: p, H, .ref a => (match H a with
    | some (.lst us) => (us[j]?).bind (nav p H)
    | some (.dK kvs) => ((kvs[j]?).map (·.2)).bind (nav p H)
    | some (.dT kvs) => ((kvs[j]?).map (·.2)).bind (nav p H)
    | some (.ins _ _ fs) => ((fs[j]?).map (·.2)).bind (nav p H)
    | _ => none)
  | _ :: _, _, _ => none
section
variable {K : PySem.W.Frag} {G H G' H' : Hp}
theorem Own.at_ : ∀ {ss : List Sh} {vs : List V} {ds : List D} {zs : List Addr} {j : Nat} {s : Sh} {d : D}, Own K G H ss vs ds zs → ss[j]? = some s → ds[j]? = some d →
    ∃ v za zm zb, vs[j]? = some v ∧ zs = za ++ (zm ++ zb) ∧ Own K G H [s] [v] [d] zm ∧
      ∀ (G' H' : Hp) (d' : D) (zm' : List Addr), Own K G' H' [s] [v] [d'] zm' → Same G G' → (∀ z ∈ za ++ zb, ∀ o, H z = some o → H' z = some o) → Own K G' H' ss vs (ds.set j d') (za ++ (zm' ++ zb))
  | [], _, _, _, _, _, _, _, h, _ => by simp at h
  | _ :: _, [], _, _, _, _, _, r, _, _ => nomatch r
  | _ :: _, _ :: _, [], _, _, _, _, r, _, _ => nomatch r
  | s0 :: ss, v0 :: vs, d0 :: ds, zs, 0, s, d, r, hs, hd => by
    simp at hs hd
    subst hs hd
    obtain ⟨z1, z2, e, r1, r2⟩ := r.uncons
    refine ⟨v0, [], z1, z2, rfl, by simpa using e, r1, fun G' H' d' zm' n sg k => ?_⟩
    simpa using n.cons1 (r2.step sg fun z hz => k z (by simpa using hz))
  | s0 :: ss, v0 :: vs, d0 :: ds, zs, j + 1, s, d, r, hs, hd => by
    obtain ⟨z1, z2, e, r1, r2⟩ := r.uncons
    obtain ⟨v, za, zm, zb, h1, h2, h3, h4⟩ := Own.at_ (j := j) r2 (by simpa using hs) (by simpa using hd)
    refine ⟨v, z1 ++ za, zm, zb, by simpa using h1, by rw [e, h2]; simp, h3, fun G' H' d' zm' n sg k => ?_⟩
    have a := r1.step sg (H' := H') fun z hz => k z (by simp [hz])
    have b := h4 G' H' d' zm' n sg fun z hz => k z (by
      rcases List.mem_append.mp hz with q | q <;> simp [q])
    simpa using a.cons1 b
theorem map_const {us : List V} {s : Sh} {j : Nat} (h : j < us.length) : (us.map fun _ => s)[j]? = some s := by
  rw [List.getElem?_map, List.getElem?_eq_getElem h]
  rfl
theorem zip_set {κ : Type} {ks : List κ} {us : List V} {j : Nat} {v : V} (hl : ks.length = us.length) (h : us[j]? = some v) : ((ks.zip us)[j]?).map (·.2) = some v := by
  obtain ⟨hj, e⟩ := List.getElem?_eq_some_iff.mp h
  rw [List.getElem?_eq_getElem (by rw [List.length_zip]; omega)]
  simp [e]
theorem Own.foc : ∀ {p : List Nat} {s : Sh} {v : V} {d : D} {zs : List Addr} {s' : Sh} {d' : D}, Own K G H [s] [v] [d] zs → LP.foc p s d = some (s', d') →
    ∃ v' z1 zm z2, zs = z1 ++ (zm ++ z2) ∧ nav p H v = some v' ∧ Own K G H [s'] [v'] [d'] zm ∧
      ∀ (G' H' : Hp) (n : D) (zm' : List Addr), Own K G' H' [s'] [v'] [n] zm' → Same G G' → (∀ z ∈ z1 ++ z2, ∀ o, H z = some o → H' z = some o) → Own K G' H' [s] [v] [setAt p n d] (z1 ++ (zm' ++ z2))
  | [], s, w0, d, zs, s', d', r, h => by
    cases h
    exact ⟨w0, [], zs, [], by simp, rfl, r, fun G' H' n zm' q _ _ => by simpa [setAt] using q⟩
  | j :: p, s, w0, d, zs, s', d', r, h => by
    cases s with
    | l se =>
      cases d with
      | lst xs =>
        simp only [LP.foc] at h
        cases hx : xs[j]? with
        | none => rw [hx] at h; cases h
        | some dj =>
          rw [hx] at h
          cases r with
          | @l a _ us _ zi _ _ _ z2 ha inner rest =>
            cases rest
            have hl := inner.lens
            have hj : j < us.length := by
              have := (List.getElem?_eq_some_iff.mp hx).1
              omega
            obtain ⟨w, za, zm, zb, h1, h2, h3, h4⟩ := inner.at_ (map_const hj) hx
            obtain ⟨v', z3, zn, z4, e1, e2, e3, e4⟩ := Own.foc h3 h
            refine ⟨v', a :: (za ++ z3), zn, z4 ++ zb, by rw [h2, e1]; simp, by simp only [nav, ha, h1, Option.bind]; exact e2, e3, fun G' H' n zm' q sg k => ?_⟩
            have b := h4 G' H' _ _ (e4 G' H' n zm' q sg fun z hz => k z (by rcases List.mem_append.mp hz with q | q <;> simp [q])) sg fun z hz => k z (by rcases List.mem_append.mp hz with q | q <;> simp [q])
            have c := Own.l (k a (by simp) _ ha) b Own.nil
            simpa [setAt, hx] using c
      | _ => simp [LP.foc] at h
    | dk se =>
      cases d with
      | dk ks xs =>
        simp only [LP.foc] at h
        cases hx : xs[j]? with
        | none => rw [hx] at h; cases h
        | some dj =>
          rw [hx] at h
          cases r with
          | @dk a _ _ us _ zi _ _ _ z2 ha hkl inner rest =>
            cases rest
            have hl := inner.lens
            have hj : j < us.length := by
              have := (List.getElem?_eq_some_iff.mp hx).1
              omega
            obtain ⟨w, za, zm, zb, h1, h2, h3, h4⟩ := inner.at_ (map_const hj) hx
            obtain ⟨v', z3, zn, z4, e1, e2, e3, e4⟩ := Own.foc h3 h
            refine ⟨v', a :: (za ++ z3), zn, z4 ++ zb, by rw [h2, e1]; simp, by simp only [nav, ha, zip_set hkl h1, Option.bind]; exact e2, e3, fun G' H' n zm' q sg k => ?_⟩
            have b := h4 G' H' _ _ (e4 G' H' n zm' q sg fun z hz => k z (by rcases List.mem_append.mp hz with q | q <;> simp [q])) sg fun z hz => k z (by rcases List.mem_append.mp hz with q | q <;> simp [q])
            have c := Own.dk (k a (by simp) _ ha) hkl b Own.nil
            simpa [setAt, hx] using c
      | _ => simp [LP.foc] at h
    | dt se =>
      cases d with
      | dt ks xs =>
        simp only [LP.foc] at h
        cases hx : xs[j]? with
        | none => rw [hx] at h; cases h
        | some dj =>
          rw [hx] at h
          cases r with
          | @dt a _ _ us _ zi _ _ _ z2 ha hkl inner rest =>
            cases rest
            have hl := inner.lens
            have hj : j < us.length := by
              have := (List.getElem?_eq_some_iff.mp hx).1
              omega
            obtain ⟨w, za, zm, zb, h1, h2, h3, h4⟩ := inner.at_ (map_const hj) hx
            obtain ⟨v', z3, zn, z4, e1, e2, e3, e4⟩ := Own.foc h3 h
            refine ⟨v', a :: (za ++ z3), zn, z4 ++ zb, by rw [h2, e1]; simp, by simp only [nav, ha, zip_set hkl h1, Option.bind]; exact e2, e3, fun G' H' n zm' q sg k => ?_⟩
            have b := h4 G' H' _ _ (e4 G' H' n zm' q sg fun z hz => k z (by rcases List.mem_append.mp hz with q | q <;> simp [q])) sg fun z hz => k z (by rcases List.mem_append.mp hz with q | q <;> simp [q])
            have c := Own.dt (k a (by simp) _ ha) hkl b Own.nil
            simpa [setAt, hx] using c
      | _ => simp [LP.foc] at h
    | ob ss =>
      cases d with
      | ob C ns xs =>
        simp only [LP.foc] at h
        split at h
        · rename_i sj dj hsj hx
          cases r with
          | @ob a _ dx _ _ us _ zi _ _ _ z2 ha ho hkl inner rest =>
            cases rest
            obtain ⟨w, za, zm, zb, h1, h2, h3, h4⟩ := inner.at_ hsj hx
            obtain ⟨v', z3, zn, z4, e1, e2, e3, e4⟩ := Own.foc h3 h
            refine ⟨v', a :: dx :: (za ++ z3), zn, z4 ++ zb, by rw [h2, e1]; simp, by simp only [nav, ha, zip_set hkl h1, Option.bind]; exact e2, e3, fun G' H' n zm' q sg k => ?_⟩
            have b := h4 G' H' _ _ (e4 G' H' n zm' q sg fun z hz => k z (by rcases List.mem_append.mp hz with q | q <;> simp [q])) sg fun z hz => k z (by rcases List.mem_append.mp hz with q | q <;> simp [q])
            have c := Own.ob (k a (by simp) _ ha) (k dx (by simp) _ ho) hkl b Own.nil
            simpa [setAt, hx] using c
        · cases h
      | _ => simp [LP.foc] at h
    | v => simp [LP.foc] at h
    | tp _ => simp [LP.foc] at h
end

/-- the slot's entry, its data changed -/
def newD (s : Sh) (n : D) : E → E
  | .o _ _ => .o s n
  | .p _ _ => .p s n
  | e => e
def shAt : List Nat → Sh → Sh → Sh
  | [], s2, _ => s2
  | _ :: _, _, s => s
section
variable {K : PySem.W.Frag} {H0 H : Hp} {M0 : Bs} {σ : L2.St} {τ es : List E} {tv us : List V} {ρ : Rho} {e : E} {s s' : Sh} {d d' : D} {p : List Nat} {i : Nat}
theorem Cfg.focus (c : Cfg K H0 M0 H σ (τ ++ es) (tv ++ us) ρ) (hl : us.length = es.length) (hi : ρ[i]? = some e) (he : e = .o s d ∨ e = .p s d) (hf : LP.foc p s d = some (s', d')) :
    ∃ v0 v' G zm ze, σ[i]? = some (some v0) ∧ nav p H v0 = some v' ∧ Own K G H [s'] [v'] [d'] zm ∧ Ents K G H es us ze ∧ (∀ a, zm.count a + ze.count a ≤ 1) ∧ Same G H ∧ (∀ z ∈ zm, G z = none) ∧
      ∀ (H' : Hp) (s2 : Sh) (n : D) (zm' : List Addr) (es' : List E) (us' : List V) (ze' : List Addr), (s2 = s' ∨ p = []) → Own K G H' [s2] [v'] [n] zm' → Ents K G H' es' us' ze' → (∀ a, zm'.count a + ze'.count a ≤ zm.count a + ze.count a + (if H a = none then 1 else 0)) →
        (∀ a o, H a = some o → a ∉ zm → H' a = some o) → (∀ a, H' a = none → H a = none) → Cfg K H0 M0 H' σ (τ.map kill ++ es') (tv ++ us') ((ρ.map kill).set i (newD (shAt p s2 s) (setAt p n d) e)) := by
  have hk := c.killT
  obtain ⟨zsk, _, slk, _⟩ := hk.ex
  obtain ⟨⟨zs, l, sl, r, n, f⟩, fr, go⟩ := c
  have l' : tv.length = τ.length := by simp at l; omega
  rw [List.append_assoc, List.append_assoc] at r
  obtain ⟨za, zb, e1, ra, rb⟩ := r.split l'.symm
  obtain ⟨ze, zr, e2, re, rr⟩ := rb.split hl.symm
  obtain ⟨w, z1, zl, z2, q1, q2, q3, q4⟩ := rr.atSlot hi
  have hne : e ≠ .x := by rcases he with h | h <;> (rw [h]; intro q; cases q)
  obtain ⟨v0, h1⟩ := sl.at_ i e hi hne
  rw [vals_get h1] at q1
  have q1' := Option.some.inj q1
  subst q1'
  have own : Own K (hid H zs) H [s] [v0] [d] zl := by
    rcases he with h | h
    · subst h; exact q3.o1
    · subst h; exact q3.p1
  obtain ⟨v', y1, zm, y2, f1, f2, f3, f4⟩ := own.foc hf
  have cnt : ∀ a, zs.count a = za.count a + (ze.count a + (z1.count a + ((y1.count a + (zm.count a + y2.count a)) + z2.count a))) := fun a => by
    rw [e1, e2, q2, f1]
    simp only [List.count_append]
  refine ⟨v0, v', hid H zs, zm, ze, h1, f2, f3, re, fun a => ?_, hid_sub _ _, fun z m => hid_in (by rw [e1, e2, q2, f1]; simp [m]), fun H' s2 nd zm' es' us' ze' hs2 hown hen hcnt hfr hgo => ?_⟩
  · have h2 := n a
    have h3 := cnt a
    omega
  · have zz : ∃ zs', zs' = za ++ (ze' ++ (z1 ++ ((y1 ++ (zm' ++ y2)) ++ z2))) := ⟨_, rfl⟩
    obtain ⟨zs', ez⟩ := zz
    have cnt' : ∀ a, zs'.count a = za.count a + (ze'.count a + (z1.count a + ((y1.count a + (zm'.count a + y2.count a)) + z2.count a))) := fun a => by
      rw [ez]
      simp only [List.count_append]
    have sub : ∀ a, zs'.count a ≤ zs.count a + (if H a = none then 1 else 0) := fun a => by
      have h2 := cnt a
      have h3 := cnt' a
      have h4 := hcnt a
      omega
    have zin : ∀ a, H a = none → zs.count a = 0 := fun a ha => by
      refine List.count_eq_zero.mpr fun m => ?_
      have := r.mine a m
      rw [ha] at this
      exact this
    have mem : ∀ a, a ∈ zs' → a ∈ zs ∨ H a = none := fun a m => by
      have h2 := List.count_pos_iff.mpr m
      have h3 := sub a
      by_cases ha : H a = none
      · exact .inr ha
      · left
        rw [if_neg ha] at h3
        exact List.count_pos_iff.mp (by omega)
    have ne : ∀ (ws : List Addr), (∀ a, ws.count a + zm.count a ≤ zs.count a) → ∀ z ∈ ws, ∀ o, H z = some o → H' z = some o := fun ws h z hz o q => by
      refine hfr z o q fun m => ?_
      have h2 := h z
      have h3 := n z
      have h4 := List.count_pos_iff.mpr hz
      have h5 := List.count_pos_iff.mpr m
      omega
    have sg : Same (hid H zs) (hid H' zs') := fun a o q => by
      obtain ⟨q5, q6⟩ := hid_some q
      rw [hid_out (fun m => ?_)]
      · exact hfr a o q6 fun m => q5 (List.count_pos_iff.mp (by have := cnt a; have := List.count_pos_iff.mpr m; omega))
      · rcases mem a m with z | z
        · exact q5 z
        · rw [z] at q6; cases q6
    have a1 := ra.step sg (ne za fun a => by have := cnt a; omega)
    have a2 : ∃ zl', (∀ a, zl'.count a ≤ y1.count a + (zm'.count a + y2.count a)) ∧ Own K (hid H' zs') H' [shAt p s2 s] [v0] [setAt p nd d] zl' := by
      rcases hs2 with q | q
      · subst q
        have := f4 _ H' nd zm' (hown.step sg fun _ _ _ q => q) sg (ne (y1 ++ y2) fun a => by rw [List.count_append]; have := cnt a; omega)
        refine ⟨y1 ++ (zm' ++ y2), fun a => by rw [List.count_append, List.count_append]; exact Nat.le_refl _, ?_⟩
        cases p with
        | nil => simp only [LP.foc, Option.some.injEq, Prod.mk.injEq] at hf; rw [hf.1] at this; exact this
        | cons j p => exact this
      · subst q
        simp only [LP.foc, Option.some.injEq, Prod.mk.injEq] at hf
        simp only [nav, Option.some.injEq] at f2
        subst f2
        exact ⟨zm', fun a => by omega, hown.step sg fun _ _ _ q => q⟩
    obtain ⟨zl', hzl, a2⟩ := a2
    have a3 : Ents K (hid H zs) H (ρ.set i .x) (vals σ) (z1 ++ z2) := by simpa using q4 .x [] (.x .nil)
    have a4 := a3.step sg (ne (z1 ++ z2) fun a => by rw [List.count_append]; have := cnt a; omega)
    have hil : i < ρ.length := (List.getElem?_eq_some_iff.mp hi).1
    have hix : ((ρ.set i .x).map kill)[i]? = some .x := by
      rw [List.getElem?_map, List.getElem?_set_self hil]
      rfl
    obtain ⟨w2, x1, xl, x2, b1, b2, b3, b4⟩ := a4.atSlot hix
    rw [vals_get h1] at b1
    have b1' := Option.some.inj b1
    subst b1'
    have hx0 := b3.x1
    subst hx0
    have hE : Ents K (hid H' zs') H' [newD (shAt p s2 s) (setAt p nd d) e] [v0] zl' := by
      rcases he with h | h
      · subst h; exact a2.ent
      · subst h; exact a2.entp
    have b5 := b4 _ _ hE
    have eset : ((ρ.set i .x).map kill).set i (newD (shAt p s2 s) (setAt p nd d) e) = (ρ.map kill).set i (newD (shAt p s2 s) (setAt p nd d) e) := by
      rw [List.map_set, List.set_set]
    rw [eset] at b5
    have a6 := hen.grow sg (Same.refl H')
    have fin := a1.app (a6.app b5)
    have hle := a6.length
    refine Cfg.re (zs := zs') (fun a => ?_) (fun z m => ?_) (fun a o g1 g2 => ?_) (fun a g => go a (hgo a g)) (by simp; omega) (slk.set (fun _ => ⟨v0, h1⟩) fun s1 d1 q => ?_) (by simpa using fin) fun a => ?_
    · have h2 := sub a
      have h3 := n a
      by_cases ha : H a = none
      · have := zin a ha
        rw [if_pos ha] at h2
        omega
      · rw [if_neg ha] at h2
        omega
    · rcases mem z m with q | q
      · exact f z q
      · exact .inl (go z q)
    · have g3 := fr a o g1 g2
      refine hfr a o g3 fun m => ?_
      have hz : a ∈ zs := List.count_pos_iff.mp (by have := cnt a; have := List.count_pos_iff.mpr m; omega)
      rcases f a hz with g | g
      · rw [g1] at g; cases g
      · exact g2 g
    · rcases he with h | h
      · subst h; cases q
      · subst h; exact sl.pin i s d hi
    · rw [cnt' a]
      have hb2 := congrArg (List.count a) b2
      have hb3 := hzl a
      simp only [List.count_append, List.nil_append] at hb2 ⊢
      omega
end
end LP
end
section
/-! LP, part s: expressions that name a place; what changes it. -/
namespace LP
open PySem PySem.Spec PyProof.Rows L2

theorem nav_same {H H' : Hp} (e : Same H H') : ∀ {p : List Nat} {v w : V}, nav p H v = some w → nav p H' v = some w
  | [], _, _, h => h
  | j :: p, v, w, h => by
    cases v with
    | ref a =>
      simp only [nav] at h ⊢
      cases ha : H a with
      | none => rw [ha] at h; cases h
      | some o =>
        rw [ha] at h
        rw [e _ _ ha]
        cases o with
        | lst us =>
          simp only at h ⊢
          cases hj : us[j]? with
          | none => rw [hj] at h; cases h
          | some u => rw [hj] at h; exact nav_same (p := p) e h
        | dK kvs =>
          simp only at h ⊢
          cases hj : (kvs[j]?).map (·.2) with
          | none => rw [hj] at h; cases h
          | some u => rw [hj] at h; exact nav_same (p := p) e h
        | dT kvs =>
          simp only at h ⊢
          cases hj : (kvs[j]?).map (·.2) with
          | none => rw [hj] at h; cases h
          | some u => rw [hj] at h; exact nav_same (p := p) e h
        | ins C dx fs =>
          simp only at h ⊢
          cases hj : (fs[j]?).map (·.2) with
          | none => rw [hj] at h; cases h
          | some u => rw [hj] at h; exact nav_same (p := p) e h
        | _ => cases h
    | _ => simp [nav] at h
theorem nav_app {H : Hp} {q : List Nat} : ∀ {p : List Nat} {v w : V}, nav p H v = some w → nav (p ++ q) H v = nav q H w
  | [], _, _, h => by cases h; rfl
  | j :: p, v, w, h => by
    cases v with
    | ref a =>
      rw [List.cons_append]
      simp only [nav] at h ⊢
      cases ha : H a with
      | none => rw [ha] at h; cases h
      | some o =>
        rw [ha] at h
        cases o with
        | lst us =>
          simp only at h ⊢
          cases hj : us[j]? with
          | none => rw [hj] at h; cases h
          | some u => rw [hj] at h; exact nav_app (p := p) h
        | dK kvs =>
          simp only at h ⊢
          cases hj : (kvs[j]?).map (·.2) with
          | none => rw [hj] at h; cases h
          | some u => rw [hj] at h; exact nav_app (p := p) h
        | dT kvs =>
          simp only at h ⊢
          cases hj : (kvs[j]?).map (·.2) with
          | none => rw [hj] at h; cases h
          | some u => rw [hj] at h; exact nav_app (p := p) h
        | ins C dx fs =>
          simp only at h ⊢
          cases hj : (fs[j]?).map (·.2) with
          | none => rw [hj] at h; cases h
          | some u => rw [hj] at h; exact nav_app (p := p) h
        | _ => cases h
    | _ => simp [nav] at h
theorem foc_app {q : List Nat} : ∀ {p : List Nat} {s s' : Sh} {d d' : D}, foc p s d = some (s', d') → foc (p ++ q) s d = foc q s' d'
  | [], _, _, _, _, h => by cases h; rfl
  | j :: p, s, s', d, d', h => by
    rw [List.cons_append]
    cases s with
    | l se =>
      cases d with
      | lst xs =>
        simp only [foc] at h ⊢
        cases hx : xs[j]? with
        | none => rw [hx] at h; cases h
        | some x => rw [hx] at h; exact foc_app h
      | _ => simp [foc] at h
    | dk se =>
      cases d with
      | dk ks xs =>
        simp only [foc] at h ⊢
        cases hx : xs[j]? with
        | none => rw [hx] at h; cases h
        | some x => rw [hx] at h; exact foc_app h
      | _ => simp [foc] at h
    | dt se =>
      cases d with
      | dt ks xs =>
        simp only [foc] at h ⊢
        cases hx : xs[j]? with
        | none => rw [hx] at h; cases h
        | some x => rw [hx] at h; exact foc_app h
      | _ => simp [foc] at h
    | ob ss =>
      cases d with
      | ob C ns xs =>
        simp only [foc] at h ⊢
        cases hs : ss[j]? with
        | none => rw [hs] at h; cases h
        | some sj =>
          cases hx : xs[j]? with
          | none => rw [hs, hx] at h; cases h
          | some x => rw [hs, hx] at h; exact foc_app h
      | _ => simp [foc] at h
    | v => simp [foc] at h
    | tp _ => simp [foc] at h

/-! ### a place -/
def subO (p : List Nat) : E → Option (Sh × D)
  | .o s d => foc p s d
  | .p s d => foc p s d
  | _ => none
def sub (ρ : Rho) (i : Nat) (p : List Nat) : Option (Sh × D) := match ρ[i]? with
  | some e => subO p e
  | none => none
def E.sh : E → Sh
  | .o s _ => s
  | .p s _ => s
  | _ => .v
def E.dt : E → D
  | .o _ d => d
  | .p _ d => d
  | _ => .non
/-- the place's data changed (s2: its shape) -/
def ups (i : Nat) (p : List Nat) (s2 : Sh) (n : D) (ρ : Rho) : Rho := match ρ[i]? with
  | some e => (ρ.map kill).set i (newD (shAt p s2 e.sh) (setAt p n e.dt) e)
  | none => ρ.map kill
theorem subO_eq {p : List Nat} {e : E} {sd : Sh × D} (h : subO p e = some sd) : (e = .o e.sh e.dt ∨ e = .p e.sh e.dt) ∧ foc p e.sh e.dt = some sd := by
  cases e with
  | o s d => exact ⟨.inl rfl, h⟩
  | p s d => exact ⟨.inr rfl, h⟩
  | x => cases h
  | b _ => cases h
abbrev Path := Rho → Option (Nat × List Nat)
def tVp (K : PySem.W.Frag) (P : Path) : TE := fun σ H Q => ∃ H0 M0 τ tv ρ i p sd, Cfg K H0 M0 H σ τ tv ρ ∧ P ρ = some (i, p) ∧ sub ρ i p = some sd ∧
  ∀ v0 v' H', σ[i]? = some (some v0) → Cfg K H0 M0 H' σ τ tv ρ → Same H H' → nav p H' v0 = some v' → Q v' H'
structure VP (X : Cx) (e : Expr) (P : Path) : Prop where
  pe : PE X e (tVp X.K P)
def pName (i : Nat) : Path := fun ρ => match ρ[i]? with
  | some (.o _ _) => some (i, [])
  | some (.p _ _) => some (i, [])
  | _ => none
def idxOf (f : Str) : List Str → Option Nat
  | [] => none
  | n :: ns => if n = f then some 0 else (idxOf f ns).map (· + 1)
def pFld (C : Addr) (f : Str) (P : Path) : Path := fun ρ => match P ρ with
  | some (i, p) => (match sub ρ i p with
    | some (.ob _, .ob C' ns _) => if C' = C then (match idxOf f ns with | some j => some (i, p ++ [j]) | none => none) else none
    | _ => none)
  | none => none
def pIx (P : Path) (m : M) : Path := fun ρ => match P ρ with
  | some (i, p) => (match sub ρ i p, m ρ with
    | some (.l _, .lst xs), .ok e none => (match e.rd with
      | some (.int k) => (match ixN xs.length k with | some j => some (i, p ++ [j]) | none => none)
      | _ => none)
    | _, _ => none)
  | none => none
section
variable {K : PySem.W.Frag} {H0 H : Hp} {M0 : Bs} {σ : L2.St} {τ : List E} {tv : List V} {ρ : Rho} {i : Nat} {p : List Nat} {s' : Sh} {d' : D}
theorem Cfg.place (c : Cfg K H0 M0 H σ τ tv ρ) (h : sub ρ i p = some (s', d')) : ∃ v0 v' G zm, σ[i]? = some (some v0) ∧ nav p H v0 = some v' ∧ Own K G H [s'] [v'] [d'] zm ∧ Same G H := by
  unfold sub at h
  cases he : ρ[i]? with
  | none => rw [he] at h; cases h
  | some e =>
    rw [he] at h
    obtain ⟨h1, h2⟩ := subO_eq h
    have c0 : Cfg K H0 M0 H σ (τ ++ []) (tv ++ []) ρ := by simpa using c
    obtain ⟨v0, v', G, zm, ze, q1, q2, q3, q4, q5, q6, q7, q8⟩ := c0.focus rfl he h1 h2
    exact ⟨v0, v', G, zm, q1, q2, q3, q6⟩
theorem sub_app {q : List Nat} (h : sub ρ i p = some (s', d')) : sub ρ i (p ++ q) = foc q s' d' := by
  unfold sub at h ⊢
  cases he : ρ[i]? with
  | none => rw [he] at h; cases h
  | some e =>
    rw [he] at h
    cases e with
    | o s d => exact foc_app h
    | p s d => exact foc_app h
    | x => cases h
    | b _ => cases h
theorem Cfg.at1 {v0 v' : V} (c : Cfg K H0 M0 H σ τ tv ρ) (h : sub ρ i p = some (s', d')) (h0 : σ[i]? = some (some v0)) (hn : nav p H v0 = some v') : ∃ G zm, Own K G H [s'] [v'] [d'] zm ∧ Same G H := by
  obtain ⟨w0, w', G, zm, q1, q2, q3, q4⟩ := c.place h
  rw [h0] at q1
  cases q1
  rw [hn] at q2
  cases q2
  exact ⟨G, zm, q3, q4⟩
end
theorem idxOf_lookup {f : Str} {v : V} : ∀ {ns : List Str} {us : List V} {j : Nat}, idxOf f ns = some j → us[j]? = some v → (ns.zip us).lookup f = some v ∧ ((ns.zip us)[j]?).map (·.2) = some v
  | [], _, _, h, _ => by cases h
  | n :: ns, [], j, _, h => by simp at h
  | n :: ns, u :: us, j, h, hv => by
    unfold idxOf at h
    rw [List.zip_cons_cons]
    split at h
    · rename_i e
      cases h
      subst e
      simp at hv
      subst hv
      simp [List.lookup]
    · rename_i e
      cases hj : idxOf f ns with
      | none => rw [hj] at h; cases h
      | some k =>
        rw [hj] at h
        cases h
        obtain ⟨h1, h2⟩ := idxOf_lookup (v := v) (us := us) hj (by simpa using hv)
        refine ⟨?_, by simpa using h2⟩
        rw [List.lookup_cons]
        have : (f == n) = false := by simpa using fun q : f = n => e q.symm
        rw [this]
        exact h1
section
variable {X : Cx} {e a b : Expr} {P : Path} {m : M} {pos : Pos}
theorem vp_name {i : Nat} {x : Str} (hN : X.N[i]? = some x) (hv : Vis X.env.scope x) (hd : (x == ("__debug__" : Str)) = false := by decide) (hcd : (x == ("__classdict__" : Str)) = false := by decide) : VP X (.Name x pos) (pName i) := by
  refine ⟨(pe_var hN hv hd hcd).weak fun σ H Q ⟨H0, M0, τ, tv, ρ, i', p, sd, c, hP, hs, k⟩ => ?_⟩
  unfold pName at hP
  have hip : i' = i ∧ p = [] := by
    split at hP
    · cases hP; exact ⟨rfl, rfl⟩
    · cases hP; exact ⟨rfl, rfl⟩
    · cases hP
  obtain ⟨rfl, rfl⟩ := hip
  obtain ⟨v0, v', G, zm, q1, q2, q3, q4⟩ := c.place hs
  cases q2
  exact ⟨v0, q1, k v0 v0 H q1 c (Same.refl _) rfl⟩
theorem vp_fld {C : Addr} {f : Str} (h : VP X e P) (k1 : Cls X.K C) (k2 : NoAttr X.K C f) (hb : attributeBase e f X.env (eval e X.env) = eval e X.env := by rfl) : VP X (.Attribute e f pos) (pFld C f P) := by
  refine ⟨(pe_fld h.pe hb).weak fun σ H Q ⟨H0, M0, τ, tv, ρ, i, p, sd, c, hP, hs, k⟩ => ?_⟩
  unfold pFld at hP
  cases h1 : P ρ with
  | none => rw [h1] at hP; cases hP
  | some ip =>
    obtain ⟨i1, p1⟩ := ip
    rw [h1] at hP
    simp only at hP
    split at hP
    · rename_i ss C' ns xs h2
      split at hP
      rotate_left
      · cases hP
      rename_i hC
      subst hC
      cases hj : idxOf f ns with
      | none => rw [hj] at hP; cases hP
      | some j =>
        rw [hj] at hP
        cases hP
        refine ⟨H0, M0, τ, tv, ρ, i, p1, _, c, h1, h2, fun v0 v' H' g1 c' sm g2 => ?_⟩
        obtain ⟨G, zm, own, sg⟩ := c'.at1 h2 g1 g2
        have hsub := sub_app (q := [j]) h2
        rw [hs] at hsub
        cases own with
        | @ob a' _ dx _ _ us _ zi _ _ _ z2 ha ho hkl inner rest =>
          have hx : ∃ x, xs[j]? = some x := by
            simp only [foc] at hsub
            cases hx : xs[j]? with
            | none => rw [hx] at hsub; split at hsub <;> simp_all
            | some x => exact ⟨x, rfl⟩
          obtain ⟨x, hx⟩ := hx
          have hl := inner.lens
          have hju : j < us.length := by
            have := (List.getElem?_eq_some_iff.mp hx).1
            omega
          obtain ⟨l1, l2⟩ := idxOf_lookup hj (List.getElem?_eq_getElem hju)
          refine ⟨a', C', dx, _, _, rfl, ha, k1, k2, l1, k v0 _ H' g1 c' sm ?_⟩
          rw [nav_app g2]
          simp [nav, ha, l2]
    · cases hP
theorem vp_ix {W : WX} (h : VP X a P) (hb : VE X W b m) (hs : PlainIx b := by exact fun _ _ => rfl) : VP X (.Subscript a b pos) (pIx P m) := by
  refine ⟨(pe_ix ix_list h.pe hb.pe hs).weak fun σ H Q ⟨H0, M0, τ, tv, ρ, i, p, sd, c, hP, hsb, k⟩ => ?_⟩
  unfold pIx at hP
  cases h1 : P ρ with
  | none => rw [h1] at hP; cases hP
  | some ip =>
    obtain ⟨i1, p1⟩ := ip
    rw [h1] at hP
    simp only at hP
    split at hP
    · rename_i se xs en h2 hm
      split at hP
      · rename_i kk hr
        cases hj : ixN xs.length kk with
        | none => rw [hj] at hP; cases hP
        | some j =>
          rw [hj] at hP
          cases hP
          refine ⟨H0, M0, τ, tv, ρ, i, p1, _, c, h1, h2, fun v0 v' H' g1 c' sm g2 => ?_⟩
          refine ⟨H0, M0, τ, tv, ρ, c', ?_⟩
          rw [hm]
          intro y H2 c2 s2
          have sm2 := s2 rfl
          have hy := (c2.last hr).int1
          have c3 : Cfg X.K H0 M0 H2 σ τ tv ρ := c2.drop1
          have g3 := nav_same sm2 g2
          obtain ⟨G, zm, own, sg⟩ := c3.at1 h2 g1 g3
          cases own with
          | @l a' _ us _ zi _ _ _ z2 ha inner rest =>
            have hl := inner.lens
            have hjx := (ixN_seq hj).2.1
            have hju : j < us.length := by omega
            refine ⟨a', us, kk, us[j], rfl, hy, SqL.of ha, ?_, k v0 _ H2 g1 c3 (sm.trans sm2) ?_⟩
            · unfold atI
              rw [← hl.2, hj]
              simp [hju]
            · rw [nav_app g3]
              simp [nav, ha, hju]
      · cases hP
    · cases hP
end
end LP
end
section
/-! LP, part t: methods that change a place. -/
namespace LP
open PySem PySem.Spec PyProof.Rows L2

def tyS (T : String) : Sh → D → Bool
  | .l _, .lst _ => T == "list"
  | .dk _, .dk _ _ => T == "dict"
  | .dt _, .dt _ _ => T == "dict"
  | _, _ => false
def okPath (p : List Nat) (q : Option Rho) : Bool := p.isEmpty || q.isNone
/-- the argument as it goes in -/
def cvA (ks : Sh → Option Sh) (s : Sh) (e : E) : Option E := match ks s with
  | some s1 => (frS s1 e).map (E.o s1)
  | none => some e
def mMut (T : String) (ks : Sh → Option Sh) (F : Sh → D → E → Option (D × E)) (P : Path) (m : M) : M := fun ρ => match P ρ with
  | some (i, p) => (match sub ρ i p with
    | some (s0, d0) => if tyS T s0 d0 = true then (match m ρ with
      | .ok e q => if okPath p q = true then (match sub (q.getD ρ) i p with
        | some (s1, d1) => (match cvA ks s1 e with
          | some e1 => (match F s1 d1 e1 with | some (n, res) => .ok res (some (ups i p s1 n (q.getD ρ))) | none => .st)
          | none => .st)
        | none => .st) else .st
      | .ex C pl q => .ex C pl q
      | .st => .st) else .st
    | none => .st)
  | none => .st
def mMut0 (T : String) (F : Sh → D → Option (D × E)) (P : Path) : M := fun ρ => match P ρ with
  | some (i, p) => (match sub ρ i p with
    | some (s0, d0) => if tyS T s0 d0 = true then (match F s0 d0 with | some (n, res) => .ok res (some (ups i p s0 n ρ)) | none => .st) else .st
    | none => .st)
  | none => .st
def MutR (K : PySem.W.Frag) (r : V → List V → Hp → VK → Prop) (F : Sh → D → E → Option (D × E)) : Prop :=
  ∀ {H G : Hp} {v' y : V} {zm ze : List Addr} {s1 : Sh} {d1 n : D} {e res : E} {Q : VK}, Own K G H [s1] [v'] [d1] zm → Ents K G H [e] [y] ze → (∀ a, zm.count a + ze.count a ≤ 1) → Same G H → (∀ z ∈ zm, G z = none) → F s1 d1 e = some (n, res) →
    (∀ (H' : Hp) (w : V) (zm' zr : List Addr), Own K G H' [s1] [v'] [n] zm' → Ents K G H' [res] [w] zr → (∀ a, zm'.count a + zr.count a ≤ zm.count a + ze.count a + (if H a = none then 1 else 0)) → (∀ a o, H a = some o → a ∉ zm → H' a = some o) → (∀ a, H' a = none → H a = none) → Q w H') → r v' [y] H Q
def MutR0 (K : PySem.W.Frag) (r : V → List V → Hp → VK → Prop) (F : Sh → D → Option (D × E)) : Prop :=
  ∀ {H G : Hp} {v' : V} {zm : List Addr} {s1 : Sh} {d1 n : D} {res : E} {Q : VK}, Own K G H [s1] [v'] [d1] zm → (∀ a, zm.count a ≤ 1) → Same G H → (∀ z ∈ zm, G z = none) → F s1 d1 = some (n, res) →
    (∀ (H' : Hp) (w : V) (zm' zr : List Addr), Own K G H' [s1] [v'] [n] zm' → Ents K G H' [res] [w] zr → (∀ a, zm'.count a + zr.count a ≤ zm.count a + (if H a = none then 1 else 0)) → (∀ a o, H a = some o → a ∉ zm → H' a = some o) → (∀ a, H' a = none → H a = none) → Q w H') → r v' [] H Q
theorem tyS_V {K : PySem.W.Frag} {G H : Hp} {T : String} {s : Sh} {v : V} {d : D} {zm : List Addr} (o : Own K G H [s] [v] [d] zm) (h : tyS T s d = true) : tyV K T v H := by
  cases o with
  | l ha _ _ => exact .inl ⟨by simpa [tyS] using h, _, SqL.of ha⟩
  | dk ha _ _ _ => exact .inr (.inr (.inl ⟨by simpa [tyS] using h, .inl ⟨_, ha⟩⟩))
  | dt ha _ _ _ => exact .inr (.inr (.inl ⟨by simpa [tyS] using h, .inr ⟨_, ha⟩⟩))
  | _ => simp [tyS] at h
section
variable {K : PySem.W.Frag} {W : WX} {H0 H : Hp} {M0 : Bs} {σ : L2.St} {τ : List E} {tv : List V} {ρ : Rho} {T : String} {ks : Sh → Option Sh} {P : Path} {m : M} {r : V → List V → Hp → VK → Prop}
theorem Cfg.cvA {s : Sh} {e e1 : E} {v : V} (c : Cfg K H0 M0 H σ (τ ++ [e]) (tv ++ [v]) ρ) (h : LP.cvA ks s e = some e1) : Cfg K H0 M0 H σ (τ ++ [e1]) (tv ++ [v]) ρ := by
  unfold LP.cvA at h
  split at h
  · rename_i s1 h1
    cases h2 : frS s1 e with
    | none => rw [h2] at h; cases h
    | some d => rw [h2] at h; cases h; exact c.keep h2
  · cases h; exact c
theorem ups_eq {i : Nat} {p : List Nat} {s2 : Sh} {n : D} {e : E} (h : ρ[i]? = some e) : ups i p s2 n ρ = (ρ.map kill).set i (newD (shAt p s2 e.sh) (setAt p n e.dt) e) := by
  unfold ups; rw [h]
theorem run_mut {F : Sh → D → E → Option (D × E)} {Q : VK} (hF : MutR K r F) (c : Cfg K H0 M0 H σ τ tv ρ) (q : Run K W H0 M0 τ tv σ ρ H Q (mMut T ks F P m ρ)) : tBM K T r (tVp K P) (tVa K W (aCons m aNil)) σ H Q := by
  unfold mMut at q
  cases hP : P ρ with
  | none => rw [hP] at q; exact q.elim
  | some ip =>
    obtain ⟨i, p⟩ := ip
    rw [hP] at q
    simp only at q
    cases h0 : sub ρ i p with
    | none => rw [h0] at q; exact q.elim
    | some sd =>
      obtain ⟨s0, d0⟩ := sd
      rw [h0] at q
      simp only at q
      split at q
      rotate_left
      · exact q.elim
      rename_i hT
      refine ⟨H0, M0, τ, tv, ρ, i, p, _, c, hP, h0, fun v0 v' H1 g1 c1 sm g2 => ?_⟩
      obtain ⟨G0, zm0, own0, sg0⟩ := c1.at1 h0 g1 g2
      refine ⟨tyS_V own0 hT, H0, M0, τ, tv, ρ, c1, ?_⟩
      unfold aCons aNil
      cases hm : m ρ with
      | st => rw [hm] at q; exact q
      | ex C pl q' => rw [hm] at q; exact q
      | ok e qq =>
        rw [hm] at q
        simp only at q
        simp only [kq, por]
        split at q
        rotate_left
        · exact q.elim
        rename_i hok
        cases h2 : sub (qq.getD ρ) i p with
        | none => rw [h2] at q; exact q.elim
        | some sd2 =>
          obtain ⟨s1, d1⟩ := sd2
          rw [h2] at q
          simp only at q
          cases h3 : LP.cvA ks s1 e with
          | none => rw [h3] at q; exact q.elim
          | some e1 =>
            rw [h3] at q
            simp only at q
            cases h4 : F s1 d1 e1 with
            | none => rw [h4] at q; exact q.elim
            | some nr =>
              obtain ⟨n, res⟩ := nr
              rw [h4] at q
              simp only at q
              have goal : RunA K W H0 M0 τ tv σ ρ H1 (fun xs H2 => r v' xs H2 Q) (.ok [e] qq) := by
                intro vs H2 hl c2 s2
                match vs, hl with
                | [y], _ =>
                  have c3 := c2.cvA h3
                  unfold sub at h2
                  cases he : (qq.getD ρ)[i]? with
                  | none => rw [he] at h2; cases h2
                  | some en =>
                    rw [he] at h2
                    obtain ⟨k1, k2⟩ := subO_eq h2
                    obtain ⟨w0, w', G, zm, ze, f1, f2, f3, f4, f5, f6, f7, f8⟩ := c3.focus rfl he k1 k2
                    rw [g1] at f1
                    cases f1
                    have hw : w' = v' := by
                      cases p with
                      | nil =>
                        cases f2
                        cases g2
                        rfl
                      | cons j p =>
                        have hq : qq = none := by
                          cases qq with
                          | none => rfl
                          | some _ => simp [okPath] at hok
                        have := nav_same (s2 hq) g2
                        rw [this] at f2
                        cases f2
                        rfl
                    subst hw
                    refine hF f3 f4 f5 f6 f7 h4 fun H' w zm' zr o1 o2 o3 o4 o5 => ?_
                    have c4 := f8 H' s1 n zm' [res] [w] zr (.inl rfl) o1 o2 o3 o4 o5
                    rw [kill_map2] at c4
                    refine q w H' ?_ fun z => by cases z
                    rw [Option.getD_some, ups_eq he]
                    exact c4
              cases qq with
              | none => exact goal
              | some r0 => exact goal
theorem run_mut0 {F : Sh → D → Option (D × E)} {Q : VK} (hF : MutR0 K r F) (c : Cfg K H0 M0 H σ τ tv ρ) (q : Run K W H0 M0 τ tv σ ρ H Q (mMut0 T F P ρ)) : tBM0 K T r (tVp K P) σ H Q := by
  unfold mMut0 at q
  cases hP : P ρ with
  | none => rw [hP] at q; exact q.elim
  | some ip =>
    obtain ⟨i, p⟩ := ip
    rw [hP] at q
    simp only at q
    cases h0 : sub ρ i p with
    | none => rw [h0] at q; exact q.elim
    | some sd =>
      obtain ⟨s0, d0⟩ := sd
      rw [h0] at q
      simp only at q
      split at q
      rotate_left
      · exact q.elim
      rename_i hT
      cases h4 : F s0 d0 with
      | none => rw [h4] at q; exact q.elim
      | some nr =>
        obtain ⟨n, res⟩ := nr
        rw [h4] at q
        simp only at q
        refine ⟨H0, M0, τ, tv, ρ, i, p, _, c, hP, h0, fun v0 v' H1 g1 c1 sm g2 => ?_⟩
        obtain ⟨G0, zm0, own0, sg0⟩ := c1.at1 h0 g1 g2
        refine ⟨tyS_V own0 hT, ?_⟩
        unfold sub at h0
        cases he : ρ[i]? with
        | none => rw [he] at h0; cases h0
        | some en =>
          rw [he] at h0
          obtain ⟨k1, k2⟩ := subO_eq h0
          have c2 : Cfg K H0 M0 H1 σ (τ ++ []) (tv ++ []) ρ := by simpa using c1
          obtain ⟨w0, w', G, zm, ze, f1, f2, f3, f4, f5, f6, f7, f8⟩ := c2.focus rfl he k1 k2
          rw [g1] at f1
          cases f1
          rw [g2] at f2
          cases f2
          cases f4
          refine hF f3 (fun a => by have := f5 a; simpa using this) f6 f7 h4 fun H' w zm' zr o1 o2 o3 o4 o5 => ?_
          have c4 := f8 H' s0 n zm' [res] [w] zr (.inl rfl) o1 o2 (fun a => by have := o3 a; simpa using this) o4 o5
          refine q w H' ?_ fun z => by cases z
          rw [Option.getD_some, ups_eq he]
          exact c4
end
end LP
end
section
/-! LP, part u: append, pop, extend, reverse. -/
namespace LP
open PySem PySem.Spec PyProof.Rows L2

section
variable {K : PySem.W.Frag} {G H H' : Hp}
theorem Own.erase : ∀ {ss : List Sh} {vs : List V} {ds : List D} {zs : List Addr} {j : Nat} {s : Sh} {d : D}, Own K G H ss vs ds zs → ss[j]? = some s → ds[j]? = some d →
    ∃ v za zm zb, vs[j]? = some v ∧ zs = za ++ (zm ++ zb) ∧ Own K G H [s] [v] [d] zm ∧ Own K G H (ss.eraseIdx j) (vs.eraseIdx j) (ds.eraseIdx j) (za ++ zb)
  | [], _, _, _, _, _, _, _, h, _ => by simp at h
  | _ :: _, [], _, _, _, _, _, r, _, _ => nomatch r
  | _ :: _, _ :: _, [], _, _, _, _, r, _, _ => nomatch r
  | s0 :: ss, v0 :: vs, d0 :: ds, zs, 0, s, d, r, hs, hd => by
    simp at hs hd
    subst hs hd
    obtain ⟨z1, z2, e, r1, r2⟩ := r.uncons
    exact ⟨v0, [], z1, z2, rfl, by simpa using e, r1, by simpa using r2⟩
  | s0 :: ss, v0 :: vs, d0 :: ds, zs, j + 1, s, d, r, hs, hd => by
    obtain ⟨z1, z2, e, r1, r2⟩ := r.uncons
    obtain ⟨v, za, zm, zb, h1, h2, h3, h4⟩ := Own.erase (j := j) r2 (by simpa using hs) (by simpa using hd)
    exact ⟨v, z1 ++ za, zm, zb, by simpa using h1, by rw [e, h2]; simp, h3, by simpa using r1.cons1 h4⟩
theorem map_erase {us : List V} {s : Sh} (j : Nat) : (us.map fun _ => s).eraseIdx j = (us.eraseIdx j).map fun _ => s := by
  induction us generalizing j with
  | nil => rfl
  | cons u us ih => cases j <;> simp [ih]
theorem upd_frame {a : Addr} {o : HO} {zm : List Addr} (ha : a ∈ zm) : ∀ b x, H b = some x → b ∉ zm → upd H a o b = some x := fun b x hb hn => by
  rw [upd_ne (fun e => hn (by rw [e]; exact ha))]
  exact hb
theorem upd_gone {a : Addr} {o : HO} : ∀ b, upd H a o b = none → H b = none := fun b hb => by
  by_cases h : b = a
  · subst h; rw [upd_same] at hb; cases hb
  · rw [upd_ne h] at hb; exact hb
theorem Own.upd {ss : List Sh} {vs : List V} {ds : List D} {zs : List Addr} {a : Addr} {o : HO} (r : Own K G H ss vs ds zs) (ha : a ∉ zs) : Own K G (upd H a o) ss vs ds zs :=
  r.step (Same.refl _) fun z hz x hx => by rw [upd_ne (fun e => ha (by rw [← e]; exact hz))]; exact hx
theorem not_in {a : Addr} {z1 zx : List Addr} (h : (a :: z1).count a + zx.count a ≤ 1) : a ∉ z1 ∧ a ∉ zx := by
  rw [List.count_cons_self] at h
  exact ⟨fun m => by have := List.count_pos_iff.mpr m; omega, fun m => by have := List.count_pos_iff.mpr m; omega⟩
end
theorem non_ent {K : PySem.W.Frag} {G H : Hp} : Ents K G H [.o .v .non] [.non] [] := by
  simpa using (Own.v (K := K) (G := G) (H := H) (.non .nil) .nil).ent
def kElt : Sh → Option Sh
  | .l s => some s
  | _ => none
def fAppend : Sh → D → E → Option (D × E)
  | .l s, .lst xs, .o s1 d => if shEq s1 s = true ∧ xs.length < 16777216 then some (.lst (xs ++ [d]), .o .v .non) else none
  | _, _, _ => none
def fPop : Sh → D → Option (D × E)
  | .l s, .lst xs => (match xs[xs.length - 1]? with | some d => some (.lst xs.dropLast, .o s d) | none => none)
  | _, _ => none
def fPopAt : Sh → D → E → Option (D × E)
  | .l s, .lst xs, e => (match e.rd with
    | some (.int i) => if -(2 ^ 62) ≤ i ∧ i < 2 ^ 62 then (match ixN xs.length i with
      | some k => (match xs[k]? with | some d => some (.lst (xs.eraseIdx k), .o s d) | none => none)
      | none => none) else none
    | _ => none)
  | _, _, _ => none
def fExtend : Sh → D → E → Option (D × E)
  | .l .v, .lst xs, .o .v (.lst ys) => if xs.length + ys.length ≤ 16777216 then some (.lst (xs ++ ys), .o .v .non) else none
  | _, _, _ => none
def fReverse : Sh → D → Option (D × E)
  | .l .v, .lst xs => some (.lst xs.reverse, .o .v .non)
  | _, _ => none
section
variable {K : PySem.W.Frag}
theorem mu_append : MutR K rAppend fAppend := by
  intro H G v' y zm ze s1 d1 n e res Q own ent cnt sg hz h q
  unfold fAppend at h
  split at h
  rotate_left
  · cases h
  rename_i s xs s2 d
  split at h
  rotate_left
  · cases h
  rename_i hc
  cases h
  have hs := shEq_eq _ _ hc.1
  subst hs
  cases own with
  | @l a _ us _ z1 _ _ _ z2 ha inner rest =>
    cases rest
    have hl := inner.lens
    obtain ⟨n1, n2⟩ := not_in (cnt a)
    have n1' : a ∉ z1 := fun m => n1 (List.mem_append_left _ m)
    have hlu : us.length < sizeLine := by rw [sizeLine_eq]; omega
    refine ⟨a, us, y, rfl, rfl, ha, hlu, q _ .non (a :: (z1 ++ ze)) [] ?_ non_ent (fun b => ?_) (upd_frame (by simp)) upd_gone⟩
    · have i1 := (inner.upd (o := .lst (us ++ [y])) n1').app ((ent.o1).upd (o := .lst (us ++ [y])) n2)
      have i2 : Own K G (upd H a (.lst (us ++ [y]))) ((us ++ [y]).map fun _ => s2) (us ++ [y]) (xs ++ [d]) (z1 ++ ze) := by simpa using i1
      simpa using Own.l (upd_same (H := H) (a := a) (o := .lst (us ++ [y]))) i2 Own.nil
    · simp only [List.count_append, List.count_cons, List.count_nil]
      omega
theorem pop_core {H G : Hp} {a : Addr} {zm : List Addr} {s : Sh} {xs : List D} {k : Nat} {d : D} {Q : VK} (own : Own K G H [.l s] [.ref a] [.lst xs] zm) (cnt : ∀ a, zm.count a ≤ 1) (hk : xs[k]? = some d)
    (q : ∀ (H' : Hp) (w : V) (zm' zr : List Addr), Own K G H' [.l s] [.ref a] [.lst (xs.eraseIdx k)] zm' → Ents K G H' [.o s d] [w] zr → (∀ a, zm'.count a + zr.count a ≤ zm.count a + (if H a = none then 1 else 0)) → (∀ a o, H a = some o → a ∉ zm → H' a = some o) → (∀ a, H' a = none → H a = none) → Q w H') :
    ∃ us y, H a = some (.lst us) ∧ us[k]? = some y ∧ us.length = xs.length ∧ Q y (upd H a (.lst (us.eraseIdx k))) := by
  cases own with
  | @l _ _ us _ z1 _ _ _ z2 ha inner rest =>
    cases rest
    have hl := inner.lens
    have hku : k < us.length := by have := (List.getElem?_eq_some_iff.mp hk).1; omega
    obtain ⟨y, za, ze, zb, h1, h2, h3, h4⟩ := inner.erase (map_const hku) hk
    have n1 : a ∉ z1 := fun m => by
      have h5 := cnt a
      have h6 := List.count_pos_iff.mpr m
      simp only [List.count_cons_self, List.count_append] at h5
      omega
    have n2 : a ∉ ze := fun m => n1 (by rw [h2]; simp [m])
    have n3 : a ∉ za ++ zb := fun m => n1 (by rw [h2]; rcases List.mem_append.mp m with z | z <;> simp [z])
    refine ⟨us, y, ha, h1, by omega, q _ y (a :: ((za ++ zb) ++ [])) ze ?_ (h3.upd n2).ent (fun b => ?_) (upd_frame (by simp)) upd_gone⟩
    · have i1 := h4.upd (o := .lst (us.eraseIdx k)) n3
      rw [map_erase] at i1
      exact Own.l upd_same i1 Own.nil
    · rw [h2]
      simp only [List.count_append, List.count_cons, List.count_nil]
      omega
theorem mu_pop : MutR0 K rPop fPop := by
  intro H G v' zm s1 d1 n res Q own cnt sg hz h q
  unfold fPop at h
  split at h
  rotate_left
  · cases h
  rename_i s xs
  cases hx : xs[xs.length - 1]? with
  | none => rw [hx] at h; cases h
  | some d =>
    rw [hx] at h
    cases h
    have hv : ∃ a, v' = .ref a := by cases own with | l ha _ _ => exact ⟨_, rfl⟩
    obtain ⟨a, rfl⟩ := hv
    have e1 : xs.dropLast = xs.eraseIdx (xs.length - 1) := by rw [List.eraseIdx_eq_dropLast (by have := (List.getElem?_eq_some_iff.mp hx).1; omega)]
    rw [e1] at q
    obtain ⟨us, y, h1, h2, h3, h4⟩ := pop_core own cnt hx q
    refine ⟨a, us, y, rfl, rfl, h1, by rw [h3]; exact h2, ?_⟩
    rw [show us.dropLast = us.eraseIdx (xs.length - 1) from by rw [List.eraseIdx_eq_dropLast (by have := (List.getElem?_eq_some_iff.mp hx).1; omega)]]
    exact h4
theorem mu_popAt : MutR K rPopAt fPopAt := by
  intro H G v' y zm ze s1 d1 n e res Q own ent cnt sg hz h q
  unfold fPopAt at h
  split at h
  rotate_left
  · cases h
  rename_i s xs
  split at h
  rotate_left
  · cases h
  rename_i i hr
  split at h
  rotate_left
  · cases h
  rename_i hb
  split at h
  rotate_left
  · cases h
  rename_i k hk
  cases hx : xs[k]? with
  | none => rw [hx] at h; cases h
  | some d =>
    rw [hx] at h
    cases h
    have hv : ∃ a, v' = .ref a := by cases own with | l ha _ _ => exact ⟨_, rfl⟩
    obtain ⟨a, rfl⟩ := hv
    have hy : y = .int i := by
      cases e with
      | x => cases hr
      | b d0 => cases hr; exact ent.b1.2.int1
      | o s0 d0 => cases hr; exact (ent.o1.rp sg).int1
      | p s0 d0 => cases hr; exact (ent.p1.rp sg).int1
    subst hy
    obtain ⟨us, w, h1, h2, h3, h4⟩ := pop_core own (fun a => by have := cnt a; omega) hx fun H' w zm' zr o1 o2 o3 o4 o5 => q H' w zm' zr o1 o2 (fun a => by have := o3 a; omega) o4 o5
    obtain ⟨k1, k2, k3, k4⟩ := ixN_seq hk
    exact ⟨a, us, i, k, w, rfl, rfl, h1, by omega, by omega, by rw [h3]; exact k1, h2, h4⟩
theorem vOwn : ∀ {ws : List V} {ys : List D} {G H : Hp}, Rp K G ws ys → Own K G H (ws.map fun _ => .v) ws ys []
  | [], [], _, _, _ => .nil
  | [], _ :: _, _, _, r => nomatch r
  | _ :: _, [], _, _, r => nomatch r
  | w :: ws, y :: ys, _, _, r => .v r.uncons.1 (vOwn r.uncons.2)
theorem mu_extend : MutR K rExtend fExtend := by
  intro H G v' y zm ze s1 d1 n e res Q own ent cnt sg hz h q
  unfold fExtend at h
  split at h
  rotate_left
  · cases h
  rename_i xs ys
  split at h
  rotate_left
  · cases h
  rename_i hc
  cases h
  cases own with
  | @l a _ us _ z1 _ _ _ z2 ha inner rest =>
    cases rest
    have hl := inner.lens
    obtain ⟨n1, n2⟩ := not_in (cnt a)
    have n1' : a ∉ z1 := fun m => n1 (List.mem_append_left _ m)
    obtain ⟨_, ry⟩ := ent.o1.v0
    cases ry with
    | @lst b ws _ _ _ hb rws _ =>
      have hlw := rws.length
      refine ⟨a, b, us, ws, rfl, rfl, ha, sg _ _ hb, by rw [sizeLine_eq]; omega, q _ .non (a :: (z1 ++ [])) [] ?_ non_ent (fun c => ?_) (upd_frame (by simp)) upd_gone⟩
      · have i1 := (inner.upd (o := .lst (us ++ ws)) n1').app (vOwn (H := upd H a (.lst (us ++ ws))) rws)
        have i2 : Own K G (upd H a (.lst (us ++ ws))) ((us ++ ws).map fun _ => .v) (us ++ ws) (xs ++ ys) z1 := by simpa using i1
        exact Own.l upd_same i2 Own.nil
      · simp only [List.count_append, List.count_cons, List.count_nil]
        omega
theorem own_v : ∀ {us : List V} {xs : List D} {z : List Addr} {G H : Hp}, Own K G H (us.map fun _ => .v) us xs z → z = [] ∧ Rp K G us xs
  | [], _, _, _, _, r => by cases r; exact ⟨rfl, .nil⟩
  | u :: us, _, _, _, _, r => by
    cases r with
    | v h r =>
      obtain ⟨a, b⟩ := own_v r
      exact ⟨a, h.cons1 b⟩
theorem mu_reverse : MutR0 K rReverse fReverse := by
  intro H G v' zm s1 d1 n res Q own cnt sg hz h q
  unfold fReverse at h
  split at h
  rotate_left
  · cases h
  rename_i xs
  cases h
  cases own with
  | @l a _ us _ z1 _ _ _ z2 ha inner rest =>
    cases rest
    obtain ⟨e0, rp⟩ := own_v inner
    subst e0
    refine ⟨a, us, rfl, rfl, ha, q _ .non [a] [] ?_ non_ent (fun c => ?_) (upd_frame (by simp)) upd_gone⟩
    · exact Own.l upd_same (vOwn rp.rev) Own.nil
    · simp only [List.count_append, List.count_cons, List.count_nil]
      omega
end
section
variable {X : Cx} {W : WX} {o e : Expr} {P : Path} {m : M} {apos cpos : Pos}
theorem mu_ve1 {name : Str} {id : String} {r : V → List V → Hp → VK → Prop} {F : Sh → D → E → Option (D × E)} (ks : Sh → Option Sh) (hF : MutR X.K r F) (slot : Slot "list" name id) (hty : typeOf (.builtin id) = pure (.type "method_descriptor")) (hm : MtR X id r) (ho : VP X o P) (he : VE X W e m)
    (hbase : attributeBase o name X.env (eval o X.env) = eval o X.env)
    (hfew : ((backTo cpos (starEach [e] X.env)).all (fun x => !x.1) && (backToKw cpos (keywordEach [] X.env)).all (fun x => x.1.isSome) && decide (([e] : List Expr).length + ([] : List Keyword).length + (if ([] : List Keyword).isEmpty then 0 else 1) < 30)) = true)
    (hline : (apos.endLine == cpos.line) = true) (hs : starEach [e] X.env = (false, eval e X.env) :: starEach [] X.env) : VE X W (.Call (.Attribute o name apos) [e] [] cpos) (mMut "list" ks F P m) :=
  ⟨(pe_bm PySem.F.plainAttrs_list slot hty hm ho.pe (va_cons he va_nil hs).pa hbase hfew hline hs).weak fun σ H Q ⟨H0, M0, τ, tv, ρ, c, q⟩ => run_mut hF c q⟩
def kNo : Sh → Option Sh := fun _ => none
def kFz : Sh → Option Sh := fun _ => some .v
theorem ve_append (ho : VP X o P) (he : VE X W e m) (hbase : attributeBase o "append" X.env (eval o X.env) = eval o X.env := by rfl)
    (hfew : ((backTo cpos (starEach [e] X.env)).all (fun x => !x.1) && (backToKw cpos (keywordEach [] X.env)).all (fun x => x.1.isSome) && decide (([e] : List Expr).length + ([] : List Keyword).length + (if ([] : List Keyword).isEmpty then 0 else 1) < 30)) = true := by rfl)
    (hline : (apos.endLine == cpos.line) = true := by rfl) (hs : starEach [e] X.env = (false, eval e X.env) :: starEach [] X.env := by rfl) : VE X W (.Call (.Attribute o "append" apos) [e] [] cpos) (mMut "list" kElt fAppend P m) :=
  mu_ve1 kElt mu_append PySem.F.slot_list_append PySem.F.type_list_append mt_append ho he hbase hfew hline hs
theorem ve_popAt (ho : VP X o P) (he : VE X W e m) (hbase : attributeBase o "pop" X.env (eval o X.env) = eval o X.env := by rfl)
    (hfew : ((backTo cpos (starEach [e] X.env)).all (fun x => !x.1) && (backToKw cpos (keywordEach [] X.env)).all (fun x => x.1.isSome) && decide (([e] : List Expr).length + ([] : List Keyword).length + (if ([] : List Keyword).isEmpty then 0 else 1) < 30)) = true := by rfl)
    (hline : (apos.endLine == cpos.line) = true := by rfl) (hs : starEach [e] X.env = (false, eval e X.env) :: starEach [] X.env := by rfl) : VE X W (.Call (.Attribute o "pop" apos) [e] [] cpos) (mMut "list" kNo fPopAt P m) :=
  mu_ve1 kNo mu_popAt PySem.F.slot_list_pop PySem.F.type_list_pop mt_popAt ho he hbase hfew hline hs
theorem ve_extend (ho : VP X o P) (he : VE X W e m) (hbase : attributeBase o "extend" X.env (eval o X.env) = eval o X.env := by rfl)
    (hfew : ((backTo cpos (starEach [e] X.env)).all (fun x => !x.1) && (backToKw cpos (keywordEach [] X.env)).all (fun x => x.1.isSome) && decide (([e] : List Expr).length + ([] : List Keyword).length + (if ([] : List Keyword).isEmpty then 0 else 1) < 30)) = true := by rfl)
    (hline : (apos.endLine == cpos.line) = true := by rfl) (hs : starEach [e] X.env = (false, eval e X.env) :: starEach [] X.env := by rfl) : VE X W (.Call (.Attribute o "extend" apos) [e] [] cpos) (mMut "list" kFz fExtend P m) :=
  mu_ve1 kFz mu_extend PySem.F.slot_list_extend PySem.F.type_list_extend mt_extend ho he hbase hfew hline hs
theorem ve_pop (ho : VP X o P) (hbase : attributeBase o "pop" X.env (eval o X.env) = eval o X.env := by rfl) (hline : (apos.endLine == cpos.line) = true := by rfl) : VE X W (.Call (.Attribute o "pop" apos) [] [] cpos) (mMut0 "list" fPop P) :=
  ⟨(pe_bm0 PySem.F.plainAttrs_list PySem.F.slot_list_pop PySem.F.type_list_pop mt_pop ho.pe hbase hline).weak fun σ H Q ⟨H0, M0, τ, tv, ρ, c, q⟩ => run_mut0 mu_pop c q⟩
theorem ve_reverse (ho : VP X o P) (hbase : attributeBase o "reverse" X.env (eval o X.env) = eval o X.env := by rfl) (hline : (apos.endLine == cpos.line) = true := by rfl) : VE X W (.Call (.Attribute o "reverse" apos) [] [] cpos) (mMut0 "list" fReverse P) :=
  ⟨(pe_bm0 PySem.F.plainAttrs_list PySem.F.slot_list_reverse PySem.F.type_list_reverse mt_reverse ho.pe hbase hline).weak fun σ H Q ⟨H0, M0, τ, tv, ρ, c, q⟩ => run_mut0 mu_reverse c q⟩
end
end LP
end
section
/-! LP, part v: stores. -/
namespace LP
open PySem PySem.Spec PyProof.Rows L2

section
variable {K : PySem.W.Frag} {G H H' : Hp}
theorem Own.put : ∀ {ss : List Sh} {vs : List V} {ds : List D} {zs : List Addr} {j : Nat} {s : Sh} {d : D}, Own K G H ss vs ds zs → ss[j]? = some s → ds[j]? = some d →
    ∃ za zm zb, zs = za ++ (zm ++ zb) ∧ ∀ (s2 : Sh) (v' : V) (d' : D) (zm' : List Addr), Own K G H [s2] [v'] [d'] zm' → Own K G H (ss.set j s2) (vs.set j v') (ds.set j d') (za ++ (zm' ++ zb))
  | [], _, _, _, _, _, _, _, h, _ => by simp at h
  | _ :: _, [], _, _, _, _, _, r, _, _ => nomatch r
  | _ :: _, _ :: _, [], _, _, _, _, r, _, _ => nomatch r
  | s0 :: ss, v0 :: vs, d0 :: ds, zs, 0, s, d, r, hs, hd => by
    obtain ⟨z1, z2, e, r1, r2⟩ := r.uncons
    exact ⟨[], z1, z2, by simpa using e, fun s2 v' d' zm' n => by simpa using n.cons1 r2⟩
  | s0 :: ss, v0 :: vs, d0 :: ds, zs, j + 1, s, d, r, hs, hd => by
    obtain ⟨z1, z2, e, r1, r2⟩ := r.uncons
    obtain ⟨za, zm, zb, h1, h2⟩ := Own.put (j := j) r2 (by simpa using hs) (by simpa using hd)
    exact ⟨z1 ++ za, zm, zb, by rw [e, h1]; simp, fun s2 v' d' zm' n => by simpa using r1.cons1 (h2 s2 v' d' zm' n)⟩
theorem map_set_const {us : List V} {s : Sh} (j : Nat) (v : V) : (us.map fun _ => s).set j s = (us.set j v).map fun _ => s := by
  induction us generalizing j with
  | nil => rfl
  | cons u us ih =>
    cases j with
    | zero => rfl
    | succ j => exact congrArg (s :: ·) (ih j)
end
/-- P[mi] = m, a list -/
def sItem (P : Path) (mi m : M) : MS := fun ρ => match m ρ with
  | .ok e q => (match P (q.getD ρ) with
    | some (i, p) => (match sub (q.getD ρ) i p, mi (q.getD ρ) with
      | some (.l s, .lst xs), .ok ei none => (match ei.rd, frS s e with
        | some (.int k), some d => (match ixN xs.length k with
          | some j => .nx (ups i p (.l s) (.lst (xs.set j d)) (q.getD ρ)) true
          | none => .st)
        | _, _ => .st)
      | _, _ => .st)
    | none => .st)
  | .ex C pl q => .ex C pl (q.getD ρ) q.isSome
  | .st => .st
/-- P.f = m, an object of the class C -/
def sFldS (C : Addr) (f : Str) (P : Path) (m : M) : MS := fun ρ => match m ρ with
  | .ok e q => (match P (q.getD ρ) with
    | some (i, p) => (match sub (q.getD ρ) i p with
      | some (.ob ss, .ob C' ns xs) => if C' = C ∧ ns.length < 900 then (match idxOf f ns with
        | some j => (match ss[j]?, xs[j]? with
          | some sj, some _ => (match e with
            | .o s d => if p = [] then .nx (ups i p (.ob (ss.set j s)) (.ob C' ns (xs.set j d)) (q.getD ρ)) true
              else if shEq s sj = true then .nx (ups i p (.ob ss) (.ob C' ns (xs.set j d)) (q.getD ρ)) true else .st
            | _ => .st)
          | _, _ => .st)
        | none => if p = [] then (match e with
          | .o s d => .nx (ups i p (.ob (ss ++ [s])) (.ob C' (ns ++ [f]) (xs ++ [d])) (q.getD ρ)) true
          | _ => .st) else .st) else .st
      | _ => .st)
    | none => .st)
  | .ex C pl q => .ex C pl (q.getD ρ) q.isSome
  | .st => .st
theorem putF_some {f : Str} {v : V} : ∀ {ns : List Str} {us : List V} {j : Nat}, idxOf f ns = some j → ns.length = us.length → putF f v (ns.zip us) = ns.zip (us.set j v)
  | [], _, _, h, _ => by cases h
  | n :: ns, [], _, _, h => by simp at h
  | n :: ns, u :: us, j, h, hl => by
    unfold idxOf at h
    rw [List.zip_cons_cons, putF]
    split at h
    · rename_i e
      cases h
      rw [if_pos e]
      rfl
    · rename_i e
      rw [if_neg e]
      cases hj : idxOf f ns with
      | none => rw [hj] at h; cases h
      | some k =>
        rw [hj] at h
        cases h
        rw [putF_some hj (by simpa using hl)]
        rfl
theorem putF_none {f : Str} {v : V} : ∀ {ns : List Str} {us : List V}, idxOf f ns = none → ns.length = us.length → putF f v (ns.zip us) = (ns ++ [f]).zip (us ++ [v])
  | [], [], _, _ => rfl
  | [], _ :: _, _, h => by simp at h
  | n :: ns, [], _, h => by simp at h
  | n :: ns, u :: us, h, hl => by
    unfold idxOf at h
    rw [List.zip_cons_cons, putF]
    split at h
    · cases h
    · rename_i e
      rw [if_neg e]
      cases hj : idxOf f ns with
      | some k => rw [hj] at h; cases h
      | none =>
        rw [putF_none hj (by simpa using hl)]
        rfl
section
variable {K : PySem.W.Frag} {W : WX} {H0 H : Hp} {M0 : Bs} {σ : L2.St} {τ : List E} {tv : List V} {ρ : Rho} {P : Path} {m mi : M} {Dn : Ends}
theorem run_item (c : Cfg K H0 M0 H σ τ tv ρ) (q : RunS K W H0 M0 τ tv Dn (sItem P mi m ρ)) : tAsg (tV K W m) (gSub (tVp K P) (tV K W mi) rSetL) Dn σ H := by
  unfold sItem at q
  refine run_sb (m := m) (R := fun x H1 => gSub (tVp K P) (tV K W mi) rSetL x σ H1 Dn.nx) (f := fun e qq => match P (qq.getD ρ) with
    | some (i, p) => (match sub (qq.getD ρ) i p, mi (qq.getD ρ) with
      | some (.l s, .lst xs), .ok ei none => (match ei.rd, frS s e with
        | some (.int k), some d => (match ixN xs.length k with
          | some j => .nx (ups i p (.l s) (.lst (xs.set j d)) (qq.getD ρ)) true
          | none => .st)
        | _, _ => .st)
      | _, _ => .st)
    | none => .st) c q fun e qq v H1 _ c1 r => ?_
  cases hP : P (qq.getD ρ) with
  | none => rw [hP] at r; exact r.elim
  | some ip =>
    obtain ⟨i, p⟩ := ip
    rw [hP] at r
    simp only at r
    split at r
    rotate_left
    · exact r.elim
    rename_i s xs ei h0 hmi
    split at r
    rotate_left
    · exact r.elim
    rename_i k d hei hfr
    split at r
    rotate_left
    · exact r.elim
    rename_i j hj
    have c2 := c1.keep hfr
    refine ⟨H0, M0, _, _, _, i, p, _, c2, hP, h0, fun v0 v' H2 g1 c3 sm g2 => ?_⟩
    refine ⟨H0, M0, _, _, _, c3, ?_⟩
    rw [hmi]
    intro y H3 c4 s4
    have hy := (c4.last hei).int1
    subst hy
    have c5 : Cfg K H0 M0 H3 σ (kk qq.isSome τ ++ [.o s d]) (tv ++ [v]) (qq.getD ρ) := c4.drop1
    have g3 := nav_same (s4 rfl) g2
    unfold sub at h0
    cases he : (qq.getD ρ)[i]? with
    | none => rw [he] at h0; cases h0
    | some en =>
      rw [he] at h0
      obtain ⟨k1, k2⟩ := subO_eq h0
      obtain ⟨w0, w', G, zm, ze, f1, f2, f3, f4, f5, f6, f7, f8⟩ := c5.focus rfl he k1 k2
      rw [g1] at f1
      cases f1
      rw [g3] at f2
      cases f2
      cases f3 with
      | @l a _ us _ z1 _ _ _ z2 ha inner rest =>
        cases rest
        have hl := inner.lens
        obtain ⟨j1, j2, j3, j4⟩ := ixN_seq hj
        have hju : j < us.length := by omega
        obtain ⟨za, zo, zb, b1, b2⟩ := inner.put (map_const hju) (List.getElem?_eq_getElem j2)
        obtain ⟨n1, n2⟩ := not_in (f5 a)
        have n3 : a ∉ za ++ (ze ++ zb) := fun mm => by
          simp only [List.mem_append] at mm
          rcases mm with z | z | z
          · exact n1 (by rw [b1]; simp [z])
          · exact n2 z
          · exact n1 (by rw [b1]; simp [z])
        have i1 := (b2 s v d ze f4.o1).upd (o := .lst (us.set j v)) n3
        rw [map_set_const j v] at i1
        have c6 := f8 (upd H3 a (.lst (us.set j v))) (.l s) (.lst (xs.set j d)) (a :: ((za ++ (ze ++ zb)) ++ [])) [] [] [] (.inl rfl) (Own.l upd_same i1 Own.nil) .nil (fun b => by
          rw [b1]
          simp only [List.count_append, List.count_cons, List.count_nil]
          omega) (upd_frame (by simp)) upd_gone
        refine ⟨a, us, k, j, rfl, rfl, ha, by rw [← hl.2]; exact hj, r σ _ ?_⟩
        rw [ups_eq he]
        have hkk : (kk qq.isSome τ).map kill = kk true τ := by cases qq <;> first | rfl | exact map_kill_kill τ
        rw [hkk] at c6
        simpa using c6
end
section
variable {X : Cx} {W : WX} {o b e : Expr} {P : Path} {m mi : M} {pos pos' : Pos}
theorem vs_item (he : VE X W e m) (ho : VP X o P) (hb : VE X W b mi)
    (ha : ∀ v, assign (.Subscript o b pos') X.env v = (do
      let ov ← holding [v] (eval o X.env)
      let iv ← holding [v, ov] (eval b X.env)
      standAt pos'
      holding [v, ov, iv] (setItem ov iv v)
      release [v, ov, iv] []) := by intro _; rfl)
    (hs : swapsWithSole [.Subscript o b pos'] e pos.line X.env = pure false := by rfl) (hw : swappedStores [.Subscript o b pos'] e X.env = pure none := by rfl) (h1 : (assignEach [.Subscript o b pos'] X.env).map (·.2) = [assign (.Subscript o b pos') X.env] := by rfl) :
    VS X W (.Assign [.Subscript o b pos'] e pos) (sItem P mi m) :=
  ⟨(ps_asg he.pe (pg_sub ho.pe hb.pe set_list ha) hs hw h1).weak fun D σ H ⟨H0, M0, τ, tv, ρ, c, q⟩ => run_item c q⟩
end
section
variable {K : PySem.W.Frag} {W : WX} {H0 H : Hp} {M0 : Bs} {σ : L2.St} {τ : List E} {tv : List V} {ρ : Rho} {P : Path} {m mi : M} {Dn : Ends} {C : Addr} {f : Str}
theorem fld_core {qq : Option Rho} {v0 v' v : V} {i : Nat} {p : List Nat} {s : Sh} {d : D} {ss ss2 : List Sh} {ns ns2 : List Str} {xs xs2 : List D} {H2 : Hp} (h0 : sub (qq.getD ρ) i p = some (.ob ss, .ob C ns xs)) (g1 : σ[i]? = some (some v0)) (g2 : nav p H2 v0 = some v')
    (c3 : Cfg K H0 M0 H2 σ (kk qq.isSome τ ++ [.o s d]) (tv ++ [v]) (qq.getD ρ)) (cl : Cls K C) (na : NoAttr K C f) (hn : ns.length < 900) (hp : Sh.ob ss2 = Sh.ob ss ∨ p = [])
    (hnew : (∃ j, idxOf f ns = some j ∧ j < ss.length ∧ j < xs.length ∧ ss2 = ss.set j s ∧ ns2 = ns ∧ xs2 = xs.set j d) ∨ (idxOf f ns = none ∧ ss2 = ss ++ [s] ∧ ns2 = ns ++ [f] ∧ xs2 = xs ++ [d]))
    (hq : ∀ H', Cfg K H0 M0 H' σ (kk true τ) tv (ups i p (.ob ss2) (.ob C ns2 xs2) (qq.getD ρ)) → Dn.nx σ H') :
    ∃ a C' dx fs, v' = .ref a ∧ H2 a = some (.ins C' dx fs) ∧ Cls K C' ∧ NoAttr K C' f ∧ fs.length < 1000 ∧ Dn.nx σ (upd H2 a (.ins C' dx (putF f v fs))) := by
  unfold sub at h0
  cases he : (qq.getD ρ)[i]? with
  | none => rw [he] at h0; cases h0
  | some en =>
    rw [he] at h0
    obtain ⟨k1, k2⟩ := subO_eq h0
    obtain ⟨w0, w', G, zm, ze, f1, f2, f3, f4, f5, f6, f7, f8⟩ := c3.focus rfl he k1 k2
    rw [g1] at f1
    cases f1
    rw [g2] at f2
    cases f2
    cases f3 with
    | @ob a _ dx _ _ us _ z1 _ _ _ z2 ha ho hkl inner rest =>
      cases rest
      have hl := inner.lens
      have hne : dx ≠ a := fun z => by subst z; rw [ha] at ho; cases ho
      have n1 : a ∉ z1 := fun mm => by
        have h5 := f5 a
        have h6 := List.count_pos_iff.mpr mm
        simp only [List.count_cons_self, List.count_append, List.count_cons] at h5
        omega
      have n2 : a ∉ ze := fun mm => by
        have h5 := f5 a
        have h6 := List.count_pos_iff.mpr mm
        simp only [List.count_cons_self, List.count_append, List.count_cons] at h5
        omega
      have hkk : (kk qq.isSome τ).map kill = kk true τ := by cases qq <;> first | rfl | exact map_kill_kill τ
      have key : ∃ us2 z3, putF f v (ns.zip us) = ns2.zip us2 ∧ ns2.length = us2.length ∧ Own K G (upd H2 a (.ins C dx (putF f v (ns.zip us)))) ss2 us2 xs2 z3 ∧ ∀ b, z3.count b ≤ z1.count b + ze.count b := by
        rcases hnew with ⟨j, hj, hjs, hjx, rfl, rfl, rfl⟩ | ⟨hj, rfl, rfl, rfl⟩
        · obtain ⟨za, zo, zb, b1, b2⟩ := inner.put (List.getElem?_eq_getElem hjs) (List.getElem?_eq_getElem hjx)
          refine ⟨us.set j v, za ++ (ze ++ zb), putF_some hj hkl, by simpa using hkl, (b2 s v d ze f4.o1).upd fun mm => ?_, fun b => ?_⟩
          · simp only [List.mem_append] at mm
            rcases mm with z | z | z
            · exact n1 (by rw [b1]; simp [z])
            · exact n2 z
            · exact n1 (by rw [b1]; simp [z])
          · rw [b1]
            simp only [List.count_append]
            omega
        · refine ⟨us ++ [v], z1 ++ ze, putF_none hj hkl, by simpa using hkl, (inner.app f4.o1).upd fun mm => ?_, fun b => by rw [List.count_append]; exact Nat.le_refl _⟩
          rcases List.mem_append.mp mm with z | z
          · exact n1 z
          · exact n2 z
      obtain ⟨us2, z3, b1, b2, b3, b4⟩ := key
      have c6 := f8 (upd H2 a (.ins C dx (putF f v (ns.zip us)))) (.ob ss2) (.ob C ns2 xs2) (a :: dx :: (z3 ++ [])) [] [] [] hp
        (Own.ob (by rw [upd_same, b1]) (by rw [upd_ne hne]; exact ho) b2 b3 .nil) .nil (fun b => by
          have := b4 b
          simp only [List.count_append, List.count_cons, List.count_nil]
          omega) (upd_frame (by simp)) upd_gone
      refine ⟨a, C, dx, _, rfl, ha, cl, na, by rw [List.length_zip]; omega, hq _ ?_⟩
      rw [ups_eq he]
      rw [hkk] at c6
      simpa using c6
theorem run_fldS (cl : Cls K C) (na : NoAttr K C f) (c : Cfg K H0 M0 H σ τ tv ρ) (q : RunS K W H0 M0 τ tv Dn (sFldS C f P m ρ)) : sFld K (tVp K P) (tV K W m) f Dn σ H := by
  unfold sFldS at q
  refine run_sb (m := m) (R := fun y H1 => tVp K P σ H1 fun x H2 => ∃ a C dx fs, x = .ref a ∧ H2 a = some (.ins C dx fs) ∧ Cls K C ∧ NoAttr K C f ∧ fs.length < 1000 ∧ Dn.nx σ (upd H2 a (.ins C dx (putF f y fs)))) (f := fun e qq => match P (qq.getD ρ) with
    | some (i, p) => (match sub (qq.getD ρ) i p with
      | some (.ob ss, .ob C' ns xs) => if C' = C ∧ ns.length < 900 then (match idxOf f ns with
        | some j => (match ss[j]?, xs[j]? with
          | some sj, some _ => (match e with
            | .o s d => if p = [] then .nx (ups i p (.ob (ss.set j s)) (.ob C' ns (xs.set j d)) (qq.getD ρ)) true
              else if shEq s sj = true then .nx (ups i p (.ob ss) (.ob C' ns (xs.set j d)) (qq.getD ρ)) true else .st
            | _ => .st)
          | _, _ => .st)
        | none => if p = [] then (match e with
          | .o s d => .nx (ups i p (.ob (ss ++ [s])) (.ob C' (ns ++ [f]) (xs ++ [d])) (qq.getD ρ)) true
          | _ => .st) else .st) else .st
      | _ => .st)
    | none => .st) c q fun e qq v H1 _ c1 r => ?_
  cases hP : P (qq.getD ρ) with
  | none => rw [hP] at r; exact r.elim
  | some ip =>
    obtain ⟨i, p⟩ := ip
    rw [hP] at r
    simp only at r
    split at r
    rotate_left
    · exact r.elim
    rename_i ss C' ns xs h0
    split at r
    rotate_left
    · exact r.elim
    rename_i hC
    obtain ⟨hC, hn⟩ := hC
    subst hC
    refine ⟨H0, M0, _, _, _, i, p, _, c1, hP, h0, fun v0 v' H2 g1 c3 sm g2 => ?_⟩
    split at r
    · rename_i j hj
      split at r
      rotate_left
      · exact r.elim
      rename_i sj xj hsj hxj
      split at r
      rotate_left
      · exact r.elim
      rename_i s d hm2
      have l1 := (List.getElem?_eq_some_iff.mp hsj).1
      have l2 := (List.getElem?_eq_some_iff.mp hxj).1
      split at r
      · rename_i hp0
        exact fld_core h0 g1 g2 c3 cl na hn (.inr hp0) (.inl ⟨j, hj, l1, l2, rfl, rfl, rfl⟩) fun H' c4 => r σ H' c4
      · split at r
        rotate_left
        · exact r.elim
        rename_i hsh
        have e1 := shEq_eq _ _ hsh
        have e2 : ss.set j s = ss := by
          rw [e1]
          refine List.ext_getElem? fun b => ?_
          by_cases hb : j = b
          · subst hb; rw [List.getElem?_set_self l1, hsj]
          · rw [List.getElem?_set_ne hb]
        exact fld_core h0 g1 g2 c3 cl na hn (.inl rfl) (.inl ⟨j, hj, l1, l2, e2.symm, rfl, rfl⟩) fun H' c4 => r σ H' c4
    · rename_i hj
      split at r
      rotate_left
      · exact r.elim
      rename_i hp0
      split at r
      rotate_left
      · exact r.elim
      exact fld_core h0 g1 g2 c3 cl na hn (.inr hp0) (.inr ⟨hj, rfl, rfl, rfl⟩) fun H' c4 => r σ H' c4
end
section
variable {X : Cx} {W : WX} {o b e : Expr} {P : Path} {m mi : M} {pos pos' : Pos} {C : Addr} {f : Str}
theorem vs_fld (he : VE X W e m) (ho : VP X o P) (cl : Cls X.K C) (na : NoAttr X.K C f) (hs : swapsWith e (some (.Attribute o f pos')) pos.line X.env = pure false := by rfl) : VS X W (.Assign [.Attribute o f pos'] e pos) (sFldS C f P m) :=
  ⟨(ps_fld ho.pe he.pe hs).weak fun D σ H ⟨H0, M0, τ, tv, ρ, c, q⟩ => run_fldS cl na c q⟩
/-- e.f read -/
def fFld (C : Addr) (f : Str) (es : List E) : Option Rs := match es with
  | [e] => (match e.rd with
    | some (.ob C' ns xs) => if C' = C then (match idxOf f ns with
      | some j => (match xs[j]? with | some d => some (fromE e d) | none => none)
      | none => none) else none
    | _ => none)
  | _ => none
theorem pf_fld {K : PySem.W.Frag} (cl : Cls K C) (na : NoAttr K C f) : PureF K (r1L fun x H Q => ∃ a C dx fs v, x = .ref a ∧ H a = some (.ins C dx fs) ∧ Cls K C ∧ NoAttr K C f ∧ fs.lookup f = some v ∧ Q v H) (fFld C f) := by
  intro H zs es us R Q hm fl h dl
  unfold fFld at h
  split at h
  rotate_left
  · cases h
  rename_i e
  split at h
  rotate_left
  · cases h
  rename_i C' ns xs hd
  split at h
  rotate_left
  · cases h
  rename_i hC
  subst hC
  cases hj : idxOf f ns with
  | none => rw [hj] at h; cases h
  | some j =>
    rw [hj] at h
    simp only at h
    cases hx : xs[j]? with
    | none => rw [hx] at h; cases h
    | some d =>
      rw [hx] at h
      cases h
      obtain ⟨v, rfl, r1, r2⟩ := fl1 fl hd
      cases r1 with
      | @ob a _ dx _ us _ _ _ ha hl rp _ =>
        have hlen := rp.length
        have hju : j < us.length := by have := (List.getElem?_eq_some_iff.mp hx).1; omega
        obtain ⟨l1, l2⟩ := idxOf_lookup hj (List.getElem?_eq_getElem hju)
        obtain ⟨w, hw, rw_⟩ := rp.get hx
        rw [List.getElem?_eq_getElem hju] at hw
        cases hw
        refine ⟨_, rfl, a, C', dx, _, _, rfl, ha, cl, na, l1, fromE_deliver dl rw_ fun z => ?_⟩
        cases r2 z with
        | @ob _ _ dx' _ us' _ _ _ ha' hl' rp' _ =>
          have hh := hid_sub _ _ _ _ ha'
          rw [ha] at hh
          have h1 := Option.some.inj hh
          injection h1 with _ _ h2
          have h3 : us = us' := by
            have h4 := congrArg (List.map Prod.snd) h2
            rw [List.map_snd_zip (by omega), List.map_snd_zip (by omega)] at h4
            exact h4
          subst h3
          obtain ⟨w', hw', rw'⟩ := rp'.get hx
          rw [List.getElem?_eq_getElem hju] at hw'
          cases hw'
          exact rw'
theorem ve_fld (he : VE X W e m) (cl : Cls X.K C) (na : NoAttr X.K C f) (hb : attributeBase e f X.env (eval e X.env) = eval e X.env := by rfl) : VE X W (.Attribute e f pos) (mF (fFld C f) (aCons m aNil)) := by
  refine ⟨(pe_fld he.pe hb).weak fun σ H Q ⟨H0, M0, τ, tv, ρ, c, q⟩ => ?_⟩
  refine tV_mono (tVa_cons1 (run_F (pf_fld cl na) c q)) fun x H1 h1 => ?_
  obtain ⟨y, e1, h⟩ := tVa_nil1 h1
  cases e1
  exact h
end
end LP
end
section
/-! LP, part w: zip of two lists or tuples, strict or not: the heap's side. -/
namespace LP
open PySem PySem.Spec PyProof.Rows L2

/-- a list's iterator (k), a tuple's -/
def IsIt (k : Bool) (h : Heap) (it l : Addr) (i : Nat) : Prop := if k = true then h.IsListIter it l i else h.IsTupleIter it l i
def IsSq (k : Bool) (h : Heap) (l : Addr) (xs : Array Value) : Prop := if k = true then h.IsList l xs else h.IsTuple l xs
theorem IsIt.mv {k : Bool} {h h' : Heap} {it l : Addr} {i : Nat} (s : IsIt k h it l i) (e : ∀ o, h.get? it = some o → h'.get? it = some o) : IsIt k h' it l i := by
  cases k with
  | true => exact Heap.IsListIter.at (show h.IsListIter it l i from s) e
  | false => exact Heap.IsTupleIter.at (show h.IsTupleIter it l i from s) e
theorem IsSq.mv {k : Bool} {h h' : Heap} {l : Addr} {xs : Array Value} (s : IsSq k h l xs) (e : ∀ o, h.get? l = some o → h'.get? l = some o) : IsSq k h' l xs := by
  cases k with
  | true => exact Heap.IsList.at (show h.IsList l xs from s) e
  | false => exact Heap.IsTuple.at (show h.IsTuple l xs from s) e
theorem IsIt.obj {k : Bool} {h : Heap} {it l : Addr} {i : Nat} (s : IsIt k h it l i) : ∃ o vs, h.get? it = some o ∧ o.data = .fields vs := by
  cases k with
  | true => obtain ⟨o, ho, hc, hd⟩ := (show h.IsListIter it l i from s); exact ⟨o, _, ho, hd⟩
  | false => obtain ⟨o, ho, hc, hd⟩ := (show h.IsTupleIter it l i from s); exact ⟨o, _, ho, hd⟩
section
variable {prog : Program} {w : World} {A : Around} {E : Value → Shared → Prop} {s : Shared} {it l : Addr} {i : Nat} {xs : Array Value} {x : Value} {k : Bool}
theorem nx_item {Q : Value → Shared → Prop} (a : IsIt k s.heap it l i) (b : IsSq k s.heap l xs) (hx : xs[i]? = some x) (hQ : ∀ h', IsIt k h' it l (i + 1) → Heap.SameBut it s.heap h' → Q x { s with heap := h' }) :
    wpAny (model prog w) A (Builtin.SmallTypes.nextOf (.ref it)) Q E s := by
  cases k with
  | true => exact wpAny_nextOf_list_item a b hx hQ
  | false => exact wpAny_nextOf_tuple_item a b hx hQ
theorem nx_end {Q : Value → Shared → Prop} (hh : A.handled = none) (a : IsIt k s.heap it l i) (b : IsSq k s.heap l xs) (hx : xs[i]? = none)
    (hE : ∀ h' e, Heap.ExtBut it s.heap h' → (∃ o, h'.get? e = some o ∧ o.cls = .type "StopIteration") → E (.ref e) { s with heap := h' }) : wpAny (model prog w) A (Builtin.SmallTypes.nextOf (.ref it)) Q E s := by
  cases k with
  | true => exact wpAny_nextOf_list_end hh a b hx hE
  | false => exact wpAny_nextOf_tuple_end hh a b hx hE
/-- how zip draws: strictly or not -/
def drawB (b : Bool) (it : Value) : Sem (Option Value) := do
  if b then Builtin.SmallTypes.nextOrEnd it else return some (← Builtin.SmallTypes.nextOf it)
theorem draw_item {b : Bool} {Q : Option Value → Shared → Prop} (a : IsIt k s.heap it l i) (c : IsSq k s.heap l xs) (hx : xs[i]? = some x) (hQ : ∀ h', IsIt k h' it l (i + 1) → Heap.SameBut it s.heap h' → Q (some x) { s with heap := h' }) :
    wpAny (model prog w) A (drawB b (.ref it)) Q E s := by
  cases b with
  | true =>
    show wpAny _ _ (Builtin.SmallTypes.nextOrEnd (.ref it)) _ _ _
    unfold Builtin.SmallTypes.nextOrEnd
    exact wpAny_bind (wpAny_attempt (nx_item a c hx fun h' q1 q2 => wpAny_pure (hQ h' q1 q2)))
  | false =>
    show wpAny _ _ (Builtin.SmallTypes.nextOf (.ref it) >>= _) _ _ _
    exact wpAny_bind (nx_item a c hx fun h' q1 q2 => wpAny_pure (hQ h' q1 q2))
/-- strictly: the end is an answer -/
theorem draw_stop {Q : Option Value → Shared → Prop} (hh : A.handled = none) (a : IsIt k s.heap it l i) (c : IsSq k s.heap l xs) (hx : xs[i]? = none) (hQ : ∀ h', Heap.ExtBut it s.heap h' → Q none { s with heap := h' }) :
    wpAny (model prog w) A (Builtin.SmallTypes.nextOrEnd (.ref it)) Q E s := by
  unfold Builtin.SmallTypes.nextOrEnd
  refine wpAny_bind (wpAny_attempt (nx_end hh a c hx fun h' e q1 q2 => ?_))
  obtain ⟨o, ho, hc⟩ := q2
  exact wpAny_bind (wpAny_isInstance (T := "StopIteration") (b := true) ⟨o, ho, hc⟩ isSubtype_stop (wpAny_pure (hQ h' q1)))
end
/-- what zip does at its end, strictly -/
def endG (m1 m2 : Nat → String) (its : List Value) (i : Nat) : Sem PySem.Fin := do
  if i > 0 then
    rule "zip.__next__.shorter"; raiseError "ValueError" (m1 i)
  for (it, j) in (its.drop 1).zipIdx 1 do
    if (← Builtin.SmallTypes.nextOrEnd it).isSome then
      rule "zip.__next__.longer"; raiseError "ValueError" (m2 j)
  rule "zip.__next__.all-ended"; Builtin.SmallTypes.stopIteration
def zb (i : Nat) : String := if i == 1 then "argument 1" else s!"arguments 1-{i}"
theorem stop_raise {prog : Program} {w : World} {A : Around} {E : Value → Shared → Prop} {s : Shared} {Q : PySem.Fin → Shared → Prop} (hh : A.handled = none)
    (hE : ∀ h' e, (∀ c o, s.heap.get? c = some o → h'.get? c = some o) → (∃ o, h'.get? e = some o ∧ o.cls = .type "StopIteration") → E (.ref e) { s with heap := h' }) : wpAny (model prog w) A Builtin.SmallTypes.stopIteration Q E s := by
  unfold Builtin.SmallTypes.stopIteration
  refine wpAny_bind ?_
  simp only [newExc, newTuple]
  refine wpAny_bind (wpAny_newObj_type (wpAny_bind (m := firstArgMember _ _) (wpAny_of_eq (a := Value.none) (by first | rfl | (simp only [firstArgMember]; rfl)) (wpAny_newObj_type ?_ (by size_fits)))) (by size_fits))
  simp only [raiseNew]
  refine wpAny_bind (wpAny_handled ?_)
  rw [hh]
  exact wpAny_bind (wpAny_pure (wpAny_throw (hE _ _ (fun c o e => Heap.get?_push_of_some _ (Heap.get?_push_of_some _ e)) ⟨_, Heap.get?_push_size _ rfl, rfl⟩)))
theorem endG_ok {prog : Program} {w : World} {A : Around} {E : Value → Shared → Prop} {s : Shared} {i1 i2 l2 : Addr} {n2 : Nat} {ys : Array Value} {k2 : Bool} {m1 m2 : Nat → String} {Q : PySem.Fin → Shared → Prop} (hh : A.handled = none)
    (h2 : IsIt k2 s.heap i2 l2 n2) (q2 : IsSq k2 s.heap l2 ys) (hy : ys[n2]? = none) (hE : ∀ h' e, (∀ c o, c ≠ i2 → s.heap.get? c = some o → h'.get? c = some o) → (∃ o, h'.get? e = some o ∧ o.cls = .type "StopIteration") → E (.ref e) { s with heap := h' }) :
    wpAny (model prog w) A (endG m1 m2 [.ref i1, .ref i2] 0) Q E s := by
  unfold endG
  rw [if_neg (by decide)]
  simp only [List.drop_succ_cons, List.drop_zero, List.zipIdx_cons, List.zipIdx_nil, List.forIn_cons, List.forIn_nil]
  refine wpAny_bind (wpAny_bind (wpAny_bind (draw_stop hh h2 q2 hy fun h' k => ?_)))
  rw [if_neg (by simp)]
  refine wpAny_pure (wpAny_pure (wpAny_bind (wpAny_rule (stop_raise hh fun h2 e q1 q2 => hE h2 e (fun c o hc x => q1 c o (k c o hc x)) q2))))
def ZipO (b : Bool) (TI TO : Addr) (f0 : Value) : Obj := { cls := .type "zip", dict := none, data := .fields #[f0, .bool false, .bool b, .ref TI, .ref TO], slots := #[] }
def ZipB (b : Bool) (h : Heap) (z TI TO : Addr) (f0 : Value) : Prop := h.get? z = some (ZipO b TI TO f0)
section
variable {prog : Program} {w : World} {A : Around} {E : Value → Shared → Prop} {s : Shared} {z TI TO i1 i2 l1 l2 : Addr} {n1 n2 : Nat} {xs ys : Array Value} {x y u v : Value} {k1 k2 b : Bool}
theorem zipB_item {Q : Value → Shared → Prop} (D : ZipApart z TI TO i1 i2 l1 l2) (hz : ZipB b s.heap z TI TO .none) (hTI : IsPair s.heap TI (.ref i1) (.ref i2)) (hTO : IsPair s.heap TO u v)
    (h1 : IsIt k1 s.heap i1 l1 n1) (h2 : IsIt k2 s.heap i2 l2 n2) (q1 : IsSq k1 s.heap l1 xs) (q2 : IsSq k2 s.heap l2 ys) (hx : xs[n1]? = some x) (hy : ys[n2]? = some y)
    (hQ : ∀ h', ZipB b h' z TI TO (rawInt s.heap.objs.size) → IsPair h' TO x y → IsIt k1 h' i1 l1 (n1 + 1) → IsIt k2 h' i2 l2 (n2 + 1) → IsPair h' s.heap.objs.size x y → h'.objs.size = s.heap.objs.size + 1 →
      (∀ c o, c ≠ z → c ≠ TO → c ≠ i1 → c ≠ i2 → s.heap.get? c = some o → h'.get? c = some o) → Q (.ref s.heap.objs.size) { s with heap := h' }) :
    wpAny (model prog w) A (Builtin.«zip.__next__» ⟨[.ref z], []⟩) (fun fin s' => ∃ v, fin = .done (.ret v) ∧ Q v s') E s := by
  show wpAny _ _ (field (.ref z) 2 >>= _) _ _ _
  refine wpAny_bind (wpAny_field hz rfl (x := .bool b) rfl ?_)
  show wpAny _ _ (field (.ref z) 3 >>= _) _ _ _
  refine wpAny_bind (wpAny_field hz rfl (x := .ref TI) rfl (wpAny_bind (wpAny_seqItems hTI rfl ?_)))
  show wpAny _ _ (Builtin.SmallTypes.ownedTupleIsFree (.ref z) >>= _) _ _ _
  refine wpAny_bind ?_
  unfold Builtin.SmallTypes.ownedTupleIsFree
  refine wpAny_bind (wpAny_field hz rfl (x := .none) rfl (wpAny_pure ?_))
  simp only [if_true]
  refine wpAny_bind (wpAny_rule (wpAny_bind (wpAny_field hz rfl (x := .ref TO) rfl (wpAny_bind (wpAny_setField_rec hz (by simp) fun g1 hz1 hs1 => ?_)))))
  replace hz1 : ZipB b g1 z TI TO .ellipsis := hz1
  have eb : (Value.bool b == Value.bool true) = b := by cases b <;> rfl
  rw [eb]
  refine wpAny_bind ?_
  simp only [List.zipIdx_cons, List.zipIdx_nil, List.forIn_cons, List.forIn_nil]
  refine wpAny_bind (wpAny_bind (wpAny_onRaise ?_))
  show wpAny _ _ (drawB b (.ref i1)) _ _ _
  refine draw_item (h1.mv fun o e => hs1.extBut _ _ D.i1z e) (q1.mv fun o e => hs1.extBut _ _ D.l1z e) hx fun g2 j1 hs2 => ?_
  have t2 : IsPair g2 TO u v := hs2.extBut _ _ D.TOi1 (hs1.extBut _ _ D.TOz hTO)
  refine wpAny_bind (wpAny_seqItems t2 rfl (wpAny_bind (wpAny_updateSeq_pair t2 fun g3 t3 hs3 => wpAny_bind (wpAny_letGo (wpAny_pure ?_)))))
  replace t3 : IsPair g3 TO x v := t3
  refine wpAny_bind (wpAny_bind (wpAny_onRaise ?_))
  show wpAny _ _ (drawB b (.ref i2)) _ _ _
  have e3 : ∀ c o, c ≠ z → c ≠ i1 → c ≠ TO → s.heap.get? c = some o → g3.get? c = some o := fun c o a1 a2 a3 e => hs3.extBut _ _ a3 (hs2.extBut _ _ a2 (hs1.extBut _ _ a1 e))
  refine draw_item (h2.mv fun o e => e3 _ o D.i2z D.i12.symm D.TOi2.symm e) (q2.mv fun o e => e3 _ o D.l2z D.l2i1 D.l2TO e) hy fun g4 j2 hs4 => ?_
  have t4 : IsPair g4 TO x v := hs4.extBut _ _ D.TOi2 t3
  refine wpAny_bind (wpAny_seqItems t4 rfl (wpAny_bind (wpAny_updateSeq_pair t4 fun g5 t5 hs5 => wpAny_bind (wpAny_letGo (wpAny_pure (wpAny_pure ?_))))))
  replace t5 : IsPair g5 TO x y := t5
  refine wpAny_bind (wpAny_seqItems t5 rfl (wpAny_bind (wpAny_newTuple ?_)))
  have sz : g5.objs.size = s.heap.objs.size := by rw [hs5.1, hs4.1, hs3.1, hs2.1, hs1.1]
  have e5 : ∀ c o, c ≠ i2 → c ≠ TO → g3.get? c = some o → g5.get? c = some o := fun c o a1 a2 e => hs5.extBut _ _ a2 (hs4.extBut _ _ a1 e)
  have z5 : ZipB b g5 z TI TO .ellipsis := e5 _ _ D.i2z.symm D.TOz.symm (hs3.extBut _ _ D.TOz.symm (hs2.extBut _ _ D.i1z.symm hz1))
  have zl : z < g5.objs.size := Heap.lt_size z5
  show wpAny _ _ (Builtin.SmallTypes.ownedTupleHandOut (.ref z) (.ref g5.objs.size) >>= _) _ _ _
  refine wpAny_bind ?_
  unfold Builtin.SmallTypes.ownedTupleHandOut
  have z6 : ZipB b (g5.push { cls := .type "tuple", data := .seq #[x, y] }) z TI TO .ellipsis := Heap.get?_push_of_some _ z5
  refine wpAny_bind (wpAny_setField_rec z6 (by simp) fun g7 z7 hs7 => ?_)
  replace z7 : ZipB b g7 z TI TO (rawInt g5.objs.size) := z7
  refine wpAny_setField_rec z7 (by simp) fun g8 z8 hs8 => wpAny_pure ⟨_, rfl, ?_⟩
  replace z8 : ZipB b g8 z TI TO (rawInt g5.objs.size) := z8
  have up : ∀ c o, c ≠ z → g5.get? c = some o → g8.get? c = some o := fun c o a1 e => hs8.extBut _ _ a1 (hs7.extBut _ _ a1 (Heap.get?_push_of_some _ e))
  have t8 : IsPair g8 g5.objs.size x y := hs8.extBut _ _ (Nat.ne_of_gt zl) (hs7.extBut _ _ (Nat.ne_of_gt zl) (Heap.get?_push_size _ rfl))
  have s8 : g8.objs.size = g5.objs.size + 1 := by rw [hs8.1, hs7.1, Heap.size_push]
  rw [sz] at z8 t8 s8
  show Q (.ref g5.objs.size) _
  rw [sz]
  exact hQ g8 z8 (up _ _ D.TOz t5) (j1.mv fun o e => up _ o D.i1z (e5 _ o D.i12 D.TOi1.symm (hs3.extBut _ _ D.TOi1.symm e))) (j2.mv fun o e => up _ o D.i2z (hs5.extBut _ _ D.TOi2.symm e)) t8 s8
    fun c o a1 a2 a3 a4 e => up c o a1 (e5 c o a4 a2 (e3 c o a1 a3 a2 e))
/-- at the end: not strictly, or both at once -/
theorem zipB_end {Q : PySem.Fin → Shared → Prop} (hh : A.handled = none) (D : ZipApart z TI TO i1 i2 l1 l2) (hz : ZipB b s.heap z TI TO .none) (hTI : IsPair s.heap TI (.ref i1) (.ref i2)) (hTO : IsPair s.heap TO u v)
    (h1 : IsIt k1 s.heap i1 l1 n1) (h2 : IsIt k2 s.heap i2 l2 n2) (q1 : IsSq k1 s.heap l1 xs) (q2 : IsSq k2 s.heap l2 ys) (hend : xs[n1]? = none ∨ ys[n2]? = none) (hb : b = true → xs[n1]? = none ∧ ys[n2]? = none)
    (hE : ∀ h' e, (∀ c o, c ≠ z → c ≠ TO → c ≠ i1 → c ≠ i2 → s.heap.get? c = some o → h'.get? c = some o) → (∃ o, h'.get? e = some o ∧ o.cls = .type "StopIteration") → E (.ref e) { s with heap := h' }) :
    wpAny (model prog w) A (Builtin.«zip.__next__» ⟨[.ref z], []⟩) Q E s := by
  show wpAny _ _ (field (.ref z) 2 >>= _) _ _ _
  refine wpAny_bind (wpAny_field hz rfl (x := .bool b) rfl ?_)
  show wpAny _ _ (field (.ref z) 3 >>= _) _ _ _
  refine wpAny_bind (wpAny_field hz rfl (x := .ref TI) rfl (wpAny_bind (wpAny_seqItems hTI rfl ?_)))
  show wpAny _ _ (Builtin.SmallTypes.ownedTupleIsFree (.ref z) >>= _) _ _ _
  refine wpAny_bind ?_
  unfold Builtin.SmallTypes.ownedTupleIsFree
  refine wpAny_bind (wpAny_field hz rfl (x := .none) rfl (wpAny_pure ?_))
  simp only [if_true]
  refine wpAny_bind (wpAny_rule (wpAny_bind (wpAny_field hz rfl (x := .ref TO) rfl (wpAny_bind (wpAny_setField_rec hz (by simp) fun g1 hz1 hs1 => ?_)))))
  replace hz1 : ZipB b g1 z TI TO .ellipsis := hz1
  have eb : (Value.bool b == Value.bool true) = b := by cases b <;> rfl
  rw [eb]
  refine wpAny_bind ?_
  simp only [List.zipIdx_cons, List.zipIdx_nil, List.forIn_cons, List.forIn_nil]
  refine wpAny_bind (wpAny_bind (wpAny_onRaise ?_))
  have h1' := h1.mv (h' := g1) fun o e => hs1.extBut _ _ D.i1z e
  have q1' := q1.mv (h' := g1) fun o e => hs1.extBut _ _ D.l1z e
  cases b with
  | true =>
    obtain ⟨n1x, n2x⟩ := hb rfl
    show wpAny _ _ (Builtin.SmallTypes.nextOrEnd (.ref i1)) _ _ _
    refine draw_stop hh h1' q1' n1x fun g2 hs2 => ?_
    have z2 : ZipB true g2 z TI TO .ellipsis := hs2 _ _ D.i1z.symm hz1
    refine wpAny_bind (wpAny_setField_rec z2 (by simp) fun g3 z3 hs3 => wpAny_bind ?_)
    show wpAny _ _ (endG (fun i => s!"zip() argument {i + 1} is shorter than {zb i}") (fun j => s!"zip() argument {j + 1} is longer than {zb j}") [.ref i1, .ref i2] 0) _ _ _
    replace z3 : ZipB true g3 z TI TO .none := z3
    have e3 : ∀ c o, c ≠ z → c ≠ i1 → s.heap.get? c = some o → g3.get? c = some o := fun c o a1 a2 e => hs3.extBut _ _ a1 (hs2 _ _ a2 (hs1.extBut _ _ a1 e))
    exact endG_ok (s := { s with heap := g3 }) hh (h2.mv fun o e => e3 _ o D.i2z D.i12.symm e) (q2.mv fun o e => e3 _ o D.l2z D.l2i1 e) n2x fun h' e a1 a2 => hE h' e (fun c o b1 b2 b3 b4 x => a1 c o b4 (e3 c o b1 b3 x)) a2
  | false =>
    show wpAny _ _ (Builtin.SmallTypes.nextOf (.ref i1) >>= _) _ _ _
    cases hx : xs[n1]? with
    | none =>
      refine wpAny_bind (nx_end hh h1' q1' hx fun g2 e hs2 he => ?_)
      obtain ⟨oe, ho, hc⟩ := he
      have z2 : ZipB false g2 z TI TO .ellipsis := hs2 _ _ D.i1z.symm hz1
      have hez : e ≠ z := fun q => by subst q; have q := z2.symm.trans ho; cases q; simp [ZipO] at hc
      exact wpAny_setField_rec z2 (by simp) fun g3 _ hs3 => hE g3 e (fun c o a1 _ a3 _ q => hs3.extBut _ _ a1 (hs2 _ _ a3 (hs1.extBut _ _ a1 q))) ⟨oe, hs3.extBut _ _ hez ho, hc⟩
    | some x =>
      have hy : ys[n2]? = none := by
        rcases hend with h | h
        · rw [hx] at h; cases h
        · exact h
      refine wpAny_bind (nx_item h1' q1' hx fun g2 j1 hs2 => wpAny_pure ?_)
      have t2 : IsPair g2 TO u v := hs2.extBut _ _ D.TOi1 (hs1.extBut _ _ D.TOz hTO)
      refine wpAny_bind (wpAny_seqItems t2 rfl (wpAny_bind (wpAny_updateSeq_pair t2 fun g3 t3 hs3 => wpAny_bind (wpAny_letGo (wpAny_pure ?_)))))
      refine wpAny_bind (wpAny_bind (wpAny_onRaise ?_))
      show wpAny _ _ (Builtin.SmallTypes.nextOf (.ref i2) >>= _) _ _ _
      have e3 : ∀ c o, c ≠ z → c ≠ i1 → c ≠ TO → s.heap.get? c = some o → g3.get? c = some o := fun c o a1 a2 a3 e => hs3.extBut _ _ a3 (hs2.extBut _ _ a2 (hs1.extBut _ _ a1 e))
      refine wpAny_bind (nx_end hh (h2.mv fun o e => e3 _ o D.i2z D.i12.symm D.TOi2.symm e) (q2.mv fun o e => e3 _ o D.l2z D.l2i1 D.l2TO e) hy fun g4 e hs4 he => ?_)
      obtain ⟨oe, ho, hc⟩ := he
      have z4 : ZipB false g4 z TI TO .ellipsis := hs4 _ _ D.i2z.symm (hs3.extBut _ _ D.TOz.symm (hs2.extBut _ _ D.i1z.symm hz1))
      have hez : e ≠ z := fun q => by subst q; have q := z4.symm.trans ho; cases q; simp [ZipO] at hc
      exact wpAny_setField_rec z4 (by simp) fun g5 _ hs5 => hE g5 e (fun c o a1 a2 a3 a4 q => hs5.extBut _ _ a1 (hs4 _ _ a4 (e3 c o a1 a3 a2 q))) ⟨oe, hs5.extBut _ _ hez ho, hc⟩
end
end LP
end
section
/-! LP, part x: zip as what is walked. -/
namespace LP
open PySem PySem.Spec PyProof.Rows L2

section
variable {prog : Program} {w : World} {A : Around} {E : Value → Shared → Prop} {s : Shared} {z TI TO i1 i2 l1 l2 : Addr} {n1 n2 : Nat} {xs ys : Array Value} {x y u v : Value} {k1 k2 b : Bool}
theorem pyNext_zipB {Q : Option Value → Shared → Prop} (D : ZipApart z TI TO i1 i2 l1 l2) (hz : ZipB b s.heap z TI TO .none) (hTI : IsPair s.heap TI (.ref i1) (.ref i2)) (hTO : IsPair s.heap TO u v)
    (h1 : IsIt k1 s.heap i1 l1 n1) (h2 : IsIt k2 s.heap i2 l2 n2) (q1 : IsSq k1 s.heap l1 xs) (q2 : IsSq k2 s.heap l2 ys) (hx : xs[n1]? = some x) (hy : ys[n2]? = some y)
    (hQ : ∀ h', ZipB b h' z TI TO (rawInt s.heap.objs.size) → IsPair h' TO x y → IsIt k1 h' i1 l1 (n1 + 1) → IsIt k2 h' i2 l2 (n2 + 1) → IsPair h' s.heap.objs.size x y → h'.objs.size = s.heap.objs.size + 1 →
      (∀ c o, c ≠ z → c ≠ TO → c ≠ i1 → c ≠ i2 → s.heap.get? c = some o → h'.get? c = some o) → Q (some (.ref s.heap.objs.size)) { s with heap := h' }) : wpAny (model prog w) A (pyNext (.ref z)) Q E s := by
  have hT : s.TypeIs (.ref z) "zip" := ⟨_, hz, rfl⟩
  unfold pyNext
  exact wpAny_bind (wpAny_attempt (wpAny_callSpecial?_slot (name := Str.ofString "__next__") hT F.slot_zip_next (wpAny_call_entry F.slot_zip_next hT F.entry_zip_next
    (zipB_item D hz hTI hTO h1 h2 q1 q2 hx hy fun h' a1 a2 a3 a4 a5 a6 a7 => wpAny_pure (hQ h' a1 a2 a3 a4 a5 a6 a7)) (F.args_zip_next_1 _))))
theorem pyStop_zipB {Q : Option Value → Shared → Prop} (hh : A.handled = none) (D : ZipApart z TI TO i1 i2 l1 l2) (hz : ZipB b s.heap z TI TO .none) (hTI : IsPair s.heap TI (.ref i1) (.ref i2)) (hTO : IsPair s.heap TO u v)
    (h1 : IsIt k1 s.heap i1 l1 n1) (h2 : IsIt k2 s.heap i2 l2 n2) (q1 : IsSq k1 s.heap l1 xs) (q2 : IsSq k2 s.heap l2 ys) (hend : xs[n1]? = none ∨ ys[n2]? = none) (hb : b = true → xs[n1]? = none ∧ ys[n2]? = none)
    (hQ : ∀ h', (∀ c o, c ≠ z → c ≠ TO → c ≠ i1 → c ≠ i2 → s.heap.get? c = some o → h'.get? c = some o) → Q none { s with heap := h' }) : wpAny (model prog w) A (pyNext (.ref z)) Q E s := by
  have hT : s.TypeIs (.ref z) "zip" := ⟨_, hz, rfl⟩
  unfold pyNext
  refine wpAny_bind (wpAny_attempt (wpAny_callSpecial?_slot (name := Str.ofString "__next__") hT F.slot_zip_next (wpAny_call_entry F.slot_zip_next hT F.entry_zip_next
    (zipB_end (A := A.in1) hh D hz hTI hTO h1 h2 q1 q2 hend hb fun h' e hk he => ?_) (F.args_zip_next_1 _))))
  obtain ⟨o, ho, hc⟩ := he
  exact wpAny_bind (wpAny_isInstance (T := "StopIteration") (b := true) ⟨o, ho, hc⟩ isSubtype_stop (wpAny_pure (hQ _ hk)))
theorem letGo_zipB {elts : List Expr} {x1} {pos : Pos} {T : Addr} {Q : Unit → Shared → Prop} (hz : ZipB b s.heap z TI TO (rawInt T)) (hQ : ∀ h', ZipB b h' z TI TO .none → Heap.SameBut z s.heap h' → Q () { s with heap := h' }) :
    wpAny (model prog w) A (letOwnedTupleGo (.Tuple elts x1 pos) (.ref z) (.ref T)) Q E s := by
  unfold letOwnedTupleGo
  refine wpAny_bind (wpAny_load hz ?_)
  show wpAny _ _ (if (["enumerate", "zip", "dict_itemiterator", "dict_reverseitemiterator", "odict_iterator", "itertools.zip_longest", "itertools.pairwise"].contains "zip" && (#[rawInt T, .bool false, .bool b, .ref TI, .ref TO] : Array Value)[0]? == some (rawInt T)) = true then _ else _) Q E s
  rw [if_pos (by simp)]
  refine wpAny_bind (wpAny_rule ?_)
  show wpAny _ _ (setField (.ref z) 0 .none) Q E s
  exact wpAny_setField_rec hz (by simp) fun h' z' s' => hQ h' z' s'
theorem pyIter_zipB {f0 : Value} {Q : Value → Shared → Prop} (hz : ZipB b s.heap z TI TO f0) (h : Q (.ref z) s) : wpAny (model prog w) A (pyIter (.ref z)) Q E s := by
  have hT : s.TypeIs (.ref z) "zip" := ⟨_, hz, rfl⟩
  refine wpAny_pyIter_slot hT F.slot_zip_iter (wpAny_call_entry F.slot_zip_iter hT F.entry_zip_iter ?_ (F.args_zip_iter_1 _))
  show wpAny _ _ (ret (.ref z)) _ _ s
  exact wpAny_pure ⟨_, rfl, "zip", _, hT, F.slot_zip_next.lookup, h⟩
end

/-! ### the call -/
def itObj (k : Bool) (l : Addr) : Obj := if k = true then { cls := .type "list_iterator", data := .fields #[.ref l, .int 0 0] } else { cls := .type "tuple_iterator", data := .fields #[.ref l, .int 0 0] }
theorem beginsB (k : Bool) (l : Addr) (xs : Array Value) : Begins (.ref l) (itObj k l) fun h => IsSq k h l xs := by
  cases k with
  | true => exact begins_list l xs
  | false => exact begins_tuple l xs
theorem itObj_is {k : Bool} {h : Heap} {it l : Addr} (e : h.get? it = some (itObj k l)) : IsIt k h it l 0 := by
  cases k with
  | true => exact ⟨_, e, rfl, rfl⟩
  | false => exact ⟨_, e, rfl, rfl⟩
abbrev zH2 (h : Heap) (o1 o2 : Obj) : Heap := (h.push o1).push o2
abbrev zH4 (h : Heap) (o1 o2 : Obj) : Heap := ((zH2 h o1 o2).push { cls := .type "tuple", data := .seq #[.ref h.objs.size, .ref (h.push o1).objs.size] }).push { cls := .type "tuple", data := .seq #[.none, .none] }
abbrev zH5 (b : Bool) (h : Heap) (o1 o2 : Obj) : Heap := (zH4 h o1 o2).push (ZipO b (zH2 h o1 o2).objs.size ((zH2 h o1 o2).push { cls := .type "tuple", data := .seq #[.ref h.objs.size, .ref (h.push o1).objs.size] }).objs.size .none)
theorem meets_zipB {v1 v2 : Value} {o1 o2 : Obj} {P1 P2 : Heap → Prop} (B1 : Begins v1 o1 P1) (B2 : Begins v2 o2 P2) (b : Bool) :
    Meets (Builtin.«zip.__new__» ⟨[.type "zip", v1, v2], [(Str.ofString "strict", .bool b)]⟩) (fun _ R s => P1 s.heap ∧ P2 s.heap ∧ R (.ok (.ret (.ref (zH4 s.heap o1 o2).objs.size))) { s with heap := zH5 b s.heap o1 o2 }) :=
  .of_wp fun prog w A R s h => by
    obtain ⟨hp, g, d, tk, os⟩ := s; obtain ⟨h1, h2, h⟩ := h
    have hsub := sub_zip
    have q1 : ∀ {A' : Around} {E : Value → Shared → Prop} {Q : Value → Shared → Prop}, Q (.ref hp.objs.size) ⟨hp.push o1, g, d, tk, os⟩ → wpAny (model prog w) A' (pyIter v1) Q E ⟨hp, g, d, tk, os⟩ :=
      fun q => B1.iter prog w _ _ ⟨hp, g, d, tk, os⟩ _ h1 q
    have q2 : ∀ {A' : Around} {E : Value → Shared → Prop} {Q : Value → Shared → Prop}, Q (.ref (hp.push o1).objs.size) ⟨(hp.push o1).push o2, g, d, tk, os⟩ → wpAny (model prog w) A' (pyIter v2) Q E ⟨hp.push o1, g, d, tk, os⟩ :=
      fun q => B2.iter prog w _ _ ⟨hp.push o1, g, d, tk, os⟩ _ (B2.keeps _ _ h2 fun c o' e => Heap.get?_push_of_some _ e) q
    have e2 : (Str.ofString "strict" != ("strict" : Str)) = false := by decide +kernel
    wp_walk using q1, q2
    exact ⟨_, rfl, h⟩
theorem typeCall_zipS (a b v : Value) : checkTypeCall "zip" ⟨[a, b], [(Str.ofString "strict", v)]⟩ = pure () := by kernel_rfl
theorem newCall_zipS (a b v : Value) : checkBuiltinCall "zip.__new__" ⟨[.type "zip", a, b], [(Str.ofString "strict", v)]⟩ = pure () := by kernel_rfl
theorem args_initS (o a b v : Value) : argsOk "object.__init__" ⟨[o, a, b], [(Str.ofString "strict", v)]⟩ := by unfold argsOk; kernel_rfl
section
variable {prog : Program} {w : World} {A : Around} {E : Value → Shared → Prop} {s : Shared} {l1 l2 : Addr} {xs ys : Array Value} {k1 k2 : Bool}
theorem call_zipB (b : Bool) {Q : Value → Shared → Prop} (q1 : IsSq k1 s.heap l1 xs) (q2 : IsSq k2 s.heap l2 ys)
    (h : ∀ h', ZipB b h' (s.heap.objs.size + 4) (s.heap.objs.size + 2) (s.heap.objs.size + 3) .none → IsPair h' (s.heap.objs.size + 2) (.ref s.heap.objs.size) (.ref (s.heap.objs.size + 1)) → IsPair h' (s.heap.objs.size + 3) .none .none →
      IsIt k1 h' s.heap.objs.size l1 0 → IsIt k2 h' (s.heap.objs.size + 1) l2 0 → h'.objs.size = s.heap.objs.size + 5 → (∀ c o, s.heap.get? c = some o → h'.get? c = some o) → Q (.ref (s.heap.objs.size + 4)) { s with heap := h' }) :
    wpAny (model prog w) A (call (.type "zip") [.ref l1, .ref l2] [(Str.ofString "strict", .bool b)]) Q E s := by
  refine callType_newKw F.called_zip (by decide) (typeCall_zipS _ _ _) (newCall_zipS _ _ _) (fun o => args_initS o _ _ _) F.entry_zip_new (meets_zipB (beginsB k1 l1 xs) (beginsB k2 l2 ys) b) ⟨q1, q2, ?_⟩
  have a1 : (s.heap.push (itObj k1 l1)).objs.size = s.heap.objs.size + 1 := Heap.size_push ..
  have a2 : (zH2 s.heap (itObj k1 l1) (itObj k2 l2)).objs.size = s.heap.objs.size + 2 := by rw [Heap.size_push, a1]
  have a3 : ((zH2 s.heap (itObj k1 l1) (itObj k2 l2)).push { cls := .type "tuple", data := .seq #[.ref s.heap.objs.size, .ref (s.heap.push (itObj k1 l1)).objs.size] }).objs.size = s.heap.objs.size + 3 := by rw [Heap.size_push, a2]
  have a4 : (zH4 s.heap (itObj k1 l1) (itObj k2 l2)).objs.size = s.heap.objs.size + 4 := by rw [Heap.size_push, a3]
  have a5 : (zH5 b s.heap (itObj k1 l1) (itObj k2 l2)).objs.size = s.heap.objs.size + 5 := by rw [Heap.size_push, a4]
  have f1 : (itObj k1 l1).isFreed = false := (beginsB k1 l1 xs).free
  have f2 : (itObj k2 l2).isFreed = false := (beginsB k2 l2 ys).free
  have g5 : (zH5 b s.heap (itObj k1 l1) (itObj k2 l2)).get? (zH4 s.heap (itObj k1 l1) (itObj k2 l2)).objs.size = some _ := Heap.get?_push_size _ rfl
  have g4 : (zH5 b s.heap (itObj k1 l1) (itObj k2 l2)).get? ((zH2 s.heap (itObj k1 l1) (itObj k2 l2)).push { cls := .type "tuple", data := .seq #[.ref s.heap.objs.size, .ref (s.heap.push (itObj k1 l1)).objs.size] }).objs.size = some _ := Heap.get?_push_of_some _ (Heap.get?_push_size _ rfl)
  have g3 : (zH5 b s.heap (itObj k1 l1) (itObj k2 l2)).get? (zH2 s.heap (itObj k1 l1) (itObj k2 l2)).objs.size = some _ := Heap.get?_push_of_some _ (Heap.get?_push_of_some _ (Heap.get?_push_size _ rfl))
  have g2 : (zH5 b s.heap (itObj k1 l1) (itObj k2 l2)).get? (s.heap.push (itObj k1 l1)).objs.size = some _ := Heap.get?_push_of_some _ (Heap.get?_push_of_some _ (Heap.get?_push_of_some _ (Heap.get?_push_size _ f2)))
  have g1 : (zH5 b s.heap (itObj k1 l1) (itObj k2 l2)).get? s.heap.objs.size = some _ := Heap.get?_push_of_some _ (Heap.get?_push_of_some _ (Heap.get?_push_of_some _ (Heap.get?_push_of_some _ (Heap.get?_push_size _ f1))))
  rw [a2, a3, a4] at g5
  rw [a3] at g4
  rw [a1, a2] at g3
  rw [a1] at g2
  rw [a4]
  exact ⟨⟨_, g5, rfl⟩, h _ g5 g3 g4 (itObj_is g1) (itObj_is g2) a5 fun c o e => Heap.get?_push_of_some _ (Heap.get?_push_of_some _ (Heap.get?_push_of_some _ (Heap.get?_push_of_some _ (Heap.get?_push_of_some _ e))))⟩
end
/-- a built-in class called with keywords -/
theorem callWith_tyK {M : Model} {A : Around} {E : Value → Shared → Prop} {s : Shared} {env : Env} {pos : Pos} {T : String} {e : Expr} {es : List Expr} {kws : List Keyword} {Q : Value → Shared → Prop}
    (h : wpAny M A (spliced (backTo pos (starEach (e :: es) env))) (fun vs s1 => wpAny M A (evalAll ((backToKw pos (keywordEach kws env)).map (·.2))) (fun ks s2 => wpAny M A (call (.type T) vs (((backToKw pos (keywordEach kws env)).filterMap (·.1)).zip ks)) Q E s2) E s1) E s)
    (he : backTo pos (starEach (e :: es) env) = (false, eval e env) :: backTo pos (starEach es env)) (hpl : (backTo pos (starEach (e :: es) env)).any (·.1) = false) (hall : (backToKw pos (keywordEach kws env)).all (·.1.isSome) = true)
    (hkw : (backToKw pos (keywordEach kws env)).any (·.1.isNone) = false) : wpAny M A (callWith pos (.type T) [] (backTo pos (starEach (e :: es) env)) (backToKw pos (keywordEach kws env))) Q E s := by
  have h2 : wpAny M A (evalArgs (.type T) true (backTo pos (starEach (e :: es) env)) (backToKw pos (keywordEach kws env))) (fun a s1 => wpAny M A (call (.type T) ([] ++ a.pos) a.kw) Q E s1) E s := by
    rw [he] at h ⊢
    exact PyProof.Rows.evalArgs_kwB hall h
  unfold callWith
  refine wpAny_bind (wpAny_holding (wpAny_mono h2 (fun a s1 k => wpAny_bind (wpAny_standAt ?_)) fun _ _ x => x))
  simp only [hpl, hkw, Bool.or_false]
  exact wpAny_bind (wpAny_pure (wpAny_bind (wpAny_mono k (fun r s2 q => wpAny_bind (wpAny_holding (wpAny_point (wpAny_pure q)))) fun _ _ x => x)))

/-! ### the turns -/
def Sq (K : PySem.W.Frag) (k : Bool) (H : Hp) (a : Addr) (xs : List V) : Prop := if k = true then SqL K H a xs else SqT K H a xs
def ItzB (K : PySem.W.Frag) (b k1 k2 : Bool) (a c : Addr) : It :=
  ⟨fun i H => ∃ (xs ys : List V) (x y : V), Sq K k1 H a xs ∧ Sq K k2 H c ys ∧ xs[i]? = some x ∧ ys[i]? = some y,
    fun i H v H' => ∃ T x y, v = .ref T ∧ H T = none ∧ H' = upd H T (.tup [x, y]) ∧ (∀ xs, Sq K k1 H a xs → xs[i]? = some x) ∧ ∀ ys, Sq K k2 H c ys → ys[i]? = some y,
    fun i H => ∃ xs ys : List V, Sq K k1 H a xs ∧ Sq K k2 H c ys ∧ (xs.length ≤ i ∨ ys.length ≤ i) ∧ (b = true → xs.length ≤ i ∧ ys.length ≤ i)⟩
section
variable {X : Cx} {pins : List (Addr × Obj)} {σ : L2.St} {H : Hp} {s : Shared} {k : Bool} {a : Addr} {xs ys : List V}
theorem Sq.get (I : Inv X pins σ H s) (h : Sq X.K k H a xs) : ∃ its : List Value, Vals xs its ∧ IsSq k s.heap a its.toArray ∧ a < s.heap.objs.size := by
  cases k with
  | true =>
    obtain ⟨its, rv, p, _⟩ := I.list (show SqL X.K H a xs from h)
    exact ⟨its, rv, p.isList, p.lt⟩
  | false =>
    obtain ⟨its, rv, p, _⟩ := I.tuple (show SqT X.K H a xs from h)
    obtain ⟨o, ho, _⟩ := id p
    exact ⟨its, rv, p, Heap.lt_size ho⟩
theorem Sq.inj (I : Inv X pins σ H s) (h : Sq X.K k H a xs) (h' : Sq X.K k H a ys) : xs = ys := by
  cases k with
  | true => exact I.list_inj h h'
  | false => exact I.tuple_inj h h'
end
theorem turn_zipB {P : Program} {w : World} {K : PySem.W.Frag} {elts : List Expr} {kk : Nat} {tpos : Pos} {b k1 k2 : Bool} {a c z TI TO i1 i2 : Addr} (D : ZipApart z TI TO i1 i2 a c) :
    Turn P w K (.Tuple elts kk tpos) (ItzB K b k1 k2 a c) [z, TI, TO, i1, i2] z (fun i h => ZipB b h z TI TO .none ∧ IsPair h TI (.ref i1) (.ref i2) ∧ (∃ x y, IsPair h TO x y) ∧ IsIt k1 h i1 a i ∧ IsIt k2 h i2 c i) where
  mem := by simp
  obj := fun i h st q hq => by
    obtain ⟨hz, hTI, ⟨x, y, hTO⟩, h1, h2⟩ := st
    obtain ⟨o1, v1, e1, d1⟩ := h1.obj
    obtain ⟨o2, v2, e2, d2⟩ := h2.obj
    have e' : q = z ∨ q = TI ∨ q = TO ∨ q = i1 ∨ q = i2 := by simpa using hq
    rcases e' with r | r | r | r | r
    · rw [r]; exact ⟨_, hz, fun v n => nomatch n⟩
    · rw [r]; exact ⟨_, hTI, fun v n => nomatch n⟩
    · rw [r]; exact ⟨_, hTO, fun v n => nomatch n⟩
    · rw [r]; exact ⟨o1, e1, fun v n => by rw [d1] at n; cases n⟩
    · rw [r]; exact ⟨o2, e2, fun v n => by rw [d2] at n; cases n⟩
  keep := fun i h h' st k => by
    obtain ⟨hz, hTI, ⟨x, y, hTO⟩, h1, h2⟩ := st
    exact ⟨k z (by simp) _ hz, k TI (by simp) _ hTI, ⟨x, y, k TO (by simp) _ hTO⟩, h1.mv fun o q => k i1 (by simp) o q, h2.mv fun o q => k i2 (by simp) o q⟩
  item := by
    intro X hP hw hK hc i pins s σ H E I hf st hg
    subst hP hw hK
    obtain ⟨hz, hTI, ⟨x0, y0, hTO⟩, h1, h2⟩ := st
    obtain ⟨xs, ys, x, y, hqx, hqy, hx, hy⟩ := hg
    obtain ⟨its, rv, p, _⟩ := hqx.get I
    obtain ⟨its2, rv2, p2, _⟩ := hqy.get I
    obtain ⟨u, hu, ru⟩ := rv.get hx
    obtain ⟨u2, hu2, ru2⟩ := rv2.get hy
    have zl : z < s.heap.objs.size := Heap.lt_size hz
    refine pyNext_zipB D hz hTI hTO h1 h2 p p2 (x := u) (y := u2) (by simpa using hu) (by simpa using hu2) fun h' z' t' j1 j2 hT hsz hk => ⟨_, rfl, letGo_zipB (s := { s with heap := h' }) z' fun h'' z'' sb => ?_⟩
    have hT2 : h''.get? s.heap.objs.size = some { cls := .type "tuple", data := .seq #[u, u2] } := (sb.2 _ (Nat.ne_of_gt zl)).trans hT
    have keep2 : ∀ q o, q ∉ [z, TI, TO, i1, i2] → s.heap.get? q = some o → h''.get? q = some o := fun q o n e => by
      simp only [List.mem_cons, List.not_mem_nil, or_false, not_or] at n
      exact (sb.2 q n.1).trans (hk q o n.1 n.2.2.1 n.2.2.2.1 n.2.2.2.2 e)
    have I1 : Inv X pins σ (upd H s.heap.objs.size (.tup [x, y])) { s with heap := h'' } :=
      I.turnedNew (t' := s.toks) keep2 hf (Nat.le_refl _) ⟨by show 2 ≤ sizeLine; decide, [u, u2], .cons ru (.cons ru2 .nil), ⟨_, hT2, rfl, _, rfl⟩⟩
    refine ⟨.ref s.heap.objs.size, _, I1, rfl, ⟨_, x, y, rfl, I.hok.fresh (Nat.le_refl _), rfl, fun l hl => by rw [hl.inj I hqx]; exact hx, fun l hl => by rw [hl.inj I hqy]; exact hy⟩, ⟨z'', ?_, ⟨u, u2, ?_⟩, ?_, ?_⟩, fun q hq => ?_⟩
    · exact (sb.2 _ D.TIz).trans (hk _ _ D.TIz D.TITO D.TIi1 D.TIi2 hTI)
    · exact (sb.2 _ D.TOz).trans t'
    · exact j1.mv fun o e => (sb.2 _ D.i1z).trans e
    · exact j2.mv fun o e => (sb.2 _ D.i2z).trans e
    · have hlt : q < s.heap.objs.size := by
        obtain ⟨_, _, e1, _⟩ := h1.obj
        obtain ⟨_, _, e2, _⟩ := h2.obj
        have e' : q = z ∨ q = TI ∨ q = TO ∨ q = i1 ∨ q = i2 := by simpa using hq
        rcases e' with r | r | r | r | r
        · rw [r]; exact zl
        · rw [r]; exact Heap.lt_size hTI
        · rw [r]; exact Heap.lt_size hTO
        · rw [r]; exact Heap.lt_size e1
        · rw [r]; exact Heap.lt_size e2
      rw [upd_ne (Nat.ne_of_lt hlt)]
      exact (hf q hq).1
  done := by
    intro X hP hw hK hc i pins s σ H E I hf st hg
    subst hP hw hK
    obtain ⟨hz, hTI, ⟨x0, y0, hTO⟩, h1, h2⟩ := st
    obtain ⟨xs, ys, hqx, hqy, hend, hb⟩ := hg
    obtain ⟨its, rv, p, _⟩ := hqx.get I
    obtain ⟨its2, rv2, p2, _⟩ := hqy.get I
    have l1 := rv.length
    have l2 := rv2.length
    refine pyStop_zipB (I.ok.hd hc) D hz hTI hTO h1 h2 p p2 ?_ (fun q => ?_) fun h' hk => ⟨rfl, I.turnedL (t' := s.toks) (ch := [z, TI, TO, i1, i2]) (fun q o n e => ?_) hf⟩
    · rcases hend with q | q
      · exact .inl (by simp; omega)
      · exact .inr (by simp; omega)
    · have := hb q
      exact ⟨by simp; omega, by simp; omega⟩
    · simp only [List.mem_cons, List.not_mem_nil, or_false, not_or] at n
      exact hk q o n.1 n.2.2.1 n.2.2.2.1 n.2.2.2.2 e
  self := fun A i s Q E st h => pyIter_zipB st.1 h
end LP
end
section
/-! LP, part y: zip(.., strict=..), enumerate(..) as what is walked. -/
namespace LP
open PySem PySem.Spec PyProof.Rows L2

def iZipB (K : PySem.W.Frag) (b : Bool) (ta : TA) : TI := fun σ H R => ta σ H fun vs H1 => ∃ a c k1 k2 xs ys, vs = [.ref a, .ref c] ∧ Sq K k1 H1 a xs ∧ Sq K k2 H1 c ys ∧ R (ItzB K b k1 k2 a c) H1
theorem pi_zipB {X : Cx} {e e2 : Expr} {ta : TA} {p pos tpos cp kp : Pos} {elts : List Expr} {kk : Nat} {b : Bool} {j} (hg : Gl X "zip") (hm : X.mg "zip" = none) (ha : PA X [e, e2] ta)
    (he : backTo pos (starEach [e, e2] X.env) = (false, eval e X.env) :: backTo pos (starEach [e2] X.env)) (hpl : (backTo pos (starEach [e, e2] X.env)).any (·.1) = false)
    (hall : (backToKw pos (keywordEach [⟨some (Str.ofString "strict"), .Constant (.bool b) j cp, kp⟩] X.env)).all (·.1.isSome) = true) (hkw : (backToKw pos (keywordEach [⟨some (Str.ofString "strict"), .Constant (.bool b) j cp, kp⟩] X.env)).any (·.1.isNone) = false)
    (hks : (backToKw pos (keywordEach [⟨some (Str.ofString "strict"), .Constant (.bool b) j cp, kp⟩] X.env)).filterMap (·.1) = [Str.ofString "strict"]) :
    PI X (.Tuple elts kk tpos) (.Call (.Name "zip" p) [e, e2] [⟨some (Str.ofString "strict"), .Constant (.bool b) j cp, kp⟩] pos) (iZipB X.K b ta) := by
  refine ⟨fun pins s σ H R I h => wpAny_Call_Name_kw (ld_blt I hg hm PyProof.Rows.boot_zip (callWith_tyK (thn (ha.run pos pins s σ H _ I h) fun us s1 ⟨vs, H1, I1, r1, q1⟩ => ?_) he hpl hall hkw))⟩
  refine thn ((pk_cons (nm := some (Str.ofString "strict")) (kpos := kp) (pe_bl (X := X) (b := b)) pk_nil).run pos pins s1 σ H1 (fun ws H2 => ws = [.bl b] ∧ H2 = H1) I1 ⟨rfl, rfl⟩) fun ws s2 ⟨zs, H2, I2, r2, ez, eh⟩ => ?_
  subst ez eh
  rw [hks]
  obtain ⟨w1, rfl, rw1⟩ := vals1 r2
  obtain rfl : w1 = Value.bool b := rw1
  obtain ⟨a, c, k1, k2, xs, ys, ex, hqx, hqy, q⟩ := q1
  subst ex
  obtain ⟨u1, u2, rfl, ra, rc⟩ := vals2 r1
  cases ra
  cases rc
  obtain ⟨its, rv, p1, la⟩ := hqx.get I2
  obtain ⟨its2, rv2, p2, lc⟩ := hqy.get I2
  show wpAny _ _ (call (.type "zip") [.ref a, .ref c] [(Str.ofString "strict", .bool b)]) _ _ _
  refine call_zipB b p1 p2 fun h' hz hTI hTO h1 h2 hsz hk => pyIter_zipB hz ?_
  have I3 : Inv X pins σ H2 { s2 with heap := h' } := I2.kept (t' := s2.toks) hk
  refine ⟨s2.heap.objs.size + 4, [s2.heap.objs.size + 4, s2.heap.objs.size + 2, s2.heap.objs.size + 3, s2.heap.objs.size, s2.heap.objs.size + 1], _, _, H2, rfl, I3, turn_zipB (PySem.W.ktu_apart s2.heap.objs.size a c la lc), ⟨hz, hTI, ⟨_, _, hTO⟩, h1, h2⟩, fun q hq => ?_, q⟩
  have hle : s2.heap.objs.size ≤ q := by
    have e' : q = s2.heap.objs.size + 4 ∨ q = s2.heap.objs.size + 2 ∨ q = s2.heap.objs.size + 3 ∨ q = s2.heap.objs.size ∨ q = s2.heap.objs.size + 1 := by simpa using hq
    rcases e' with z | z | z | z | z <;> rw [z] <;> first | exact Nat.le_refl _ | exact Nat.le_add_right _ _
  exact I2.fpOk hle (I2.hok.fresh hle)

/-! ### enumerate -/
def IteB (K : PySem.W.Frag) (k : Bool) (a : Addr) : It :=
  ⟨fun i H => ∃ (xs : List V) (x : V), Sq K k H a xs ∧ xs[i]? = some x, fun i H v H' => ∃ T x, v = .ref T ∧ H T = none ∧ H' = upd H T (.tup [.int (i : Nat), x]) ∧ ∀ xs, Sq K k H a xs → xs[i]? = some x, fun i H => ∃ xs : List V, Sq K k H a xs ∧ xs.length = i⟩
theorem drawsB {prog : Program} {w : World} {A : Around} (hh : A.handled = none) (k : Bool) (it l : Addr) (hne : l ≠ it) (xs : Array Value) : Draws prog w A it [it, l] xs.size (fun i v => xs[i]? = some v) (fun i h => IsIt k h it l i ∧ IsSq k h l xs) := by
  cases k with
  | true => exact Draws.list hh it l hne xs
  | false => exact Draws.tuple hh it l hne xs
theorem turn_enumB {P : Program} {w : World} {K : PySem.W.Frag} {elts : List Expr} {kk : Nat} {tpos : Pos} {k : Bool} (a e it : Addr) (hae : a ≠ e) (hai : a ≠ it) :
    Turn P w K (.Tuple elts kk tpos) (IteB K k a) [e, it] e (fun i h => (∃ old, IsEnum h e it ((i : Nat) : Int) old) ∧ IsIt k h it a i ∧ e ≠ it) where
  mem := by simp
  obj := fun i h st b hb => by
    obtain ⟨⟨old, he⟩, hi, _⟩ := st
    obtain ⟨o1, v1, e1, d1⟩ := hi.obj
    have e' : b = e ∨ b = it := by simpa using hb
    rcases e' with z | z
    · rw [z]; exact ⟨_, he, fun v q => nomatch q⟩
    · rw [z]; exact ⟨o1, e1, fun v q => by rw [d1] at q; cases q⟩
  keep := fun i h h' st k => let ⟨⟨old, he⟩, hi, hne⟩ := st; ⟨⟨old, k e (by simp) _ he⟩, hi.mv fun o q => k it (by simp) o q, hne⟩
  item := by
    intro X hP hw hK hc i pins s σ H E I hf st hg
    subst hP hw hK
    obtain ⟨⟨old, he⟩, hit, hne⟩ := st
    obtain ⟨xs, x, hq, hx⟩ := hg
    obtain ⟨its, rv, p, _⟩ := hq.get I
    obtain ⟨u, hu, ru⟩ := rv.get hx
    have hel : e < s.heap.objs.size := Heap.lt_size he
    have hil : it < s.heap.objs.size := by obtain ⟨_, _, q, _⟩ := hit.obj; exact Heap.lt_size q
    have hil2 : i < its.toArray.size := by have := (List.getElem?_eq_some_iff.mp hu).1; simpa using this
    refine wpAny_pyNext_enum_itemC (drawsB (A := X.A.in1) (I.ok.hd hc) k it a hai its.toArray) he ⟨hit, p⟩ hil2 hne (by simp only [List.mem_cons, List.not_mem_nil, or_false, not_or]; exact ⟨hne, hae.symm⟩) fun y h' tk hy ho st' hT hsz hk => ?_
    have hy' : y = u := by
      have : its[i]? = some y := by simpa using hy
      rw [hu] at this
      exact (Option.some.inj this).symm
    subst hy'
    refine ⟨_, rfl, wpAny_letOwnedTupleGo_enum (s := { s with heap := h', toks := tk + 1 }) ho fun h'' he' sb => ?_⟩
    have hT2 : h''.get? s.heap.objs.size = some { cls := .type "tuple", data := .seq #[.int i tk, y] } := (sb.2 _ (Nat.ne_of_gt hel)).trans hT
    have keep2 : ∀ q o, q ∉ [e, it] → s.heap.get? q = some o → h''.get? q = some o := fun q o n m => by
      simp only [List.mem_cons, List.not_mem_nil, or_false, not_or] at n
      exact (sb.2 q n.1).trans (hk q o n.1 n.2 m)
    have I1 : Inv X pins σ (upd H s.heap.objs.size (.tup [.int (i : Nat), x])) { s with heap := h'', toks := tk + 1 } :=
      I.turnedNew keep2 hf (Nat.le_refl _) ⟨by show 2 ≤ sizeLine; decide, [.int i tk, y], .cons ⟨_, rfl⟩ (.cons ru .nil), ⟨_, hT2, rfl, _, rfl⟩⟩
    refine ⟨.ref s.heap.objs.size, _, I1, rfl, ⟨_, x, rfl, I.hok.fresh (Nat.le_refl _), rfl, fun ys hy => by rw [hy.inj I hq]; exact hx⟩, ⟨⟨y, ?_⟩, st'.1.mv fun o q => (sb.2 it (Ne.symm hne)).trans q, hne⟩, fun b hb => ?_⟩
    · have e1 : ((i + 1 : Nat) : Int) = (i : Int) + 1 := by omega
      rw [e1]; exact he'
    · have hb' : b < s.heap.objs.size := by
        have e' : b = e ∨ b = it := by simpa using hb
        rcases e' with z | z
        · rw [z]; exact hel
        · rw [z]; exact hil
      rw [upd_ne (Nat.ne_of_lt hb')]
      exact (hf b hb).1
  done := by
    intro X hP hw hK hc i pins s σ H E I hf st hg
    subst hP hw hK
    obtain ⟨⟨old, he⟩, hit, hne⟩ := st
    obtain ⟨xs, hq, hx⟩ := hg
    obtain ⟨its, rv, p, _⟩ := hq.get I
    obtain ⟨f0, f1, f2, f3, f4, f5⟩ := hf it (by simp)
    have hl := rv.length
    have hsz : its.toArray.size = i := by simp; omega
    refine wpAny_pyNext_enum_endD (drawsB (A := X.A.in1) (I.ok.hd hc) k it a hai its.toArray) he (by rw [hsz]; exact ⟨hit, p⟩) fun h' eb => ⟨rfl, I.turned (t' := s.toks) (fun b o hb q => eb b o hb q) f0 f1 f3 f4 f5⟩
  self := fun A i s Q E st h => let ⟨⟨_, he⟩, _⟩ := st; wpAny_pyIter_enum he h
theorem meets_enumB {v : Value} {o : Obj} {P : Heap → Prop} (B : Begins v o P) :
    Meets (Builtin.«enumerate.__new__» ⟨[.type "enumerate", v], []⟩) (fun _ R s => P s.heap ∧
      R (.ok (.ret (.ref (s.heap.push o).objs.size))) { s with heap := (s.heap.push o).push { cls := .type "enumerate", data := .fields #[.none, .bool false, .ref s.heap.objs.size, rawInt 0, .none, .none] } }) :=
  .of_wp fun prog w A R s h => by
    obtain ⟨hp, g, d, tk, os⟩ := s; obtain ⟨h1, h⟩ := h
    have hsub := sub_enumerate
    have q1 : ∀ {A' : Around} {E : Value → Shared → Prop} {Q : Value → Shared → Prop}, Q (.ref hp.objs.size) ⟨hp.push o, g, d, tk, os⟩ → wpAny (model prog w) A' (pyIter v) Q E ⟨hp, g, d, tk, os⟩ := fun q => B.iter prog w _ _ ⟨hp, g, d, tk, os⟩ _ h1 q
    wp_walk using q1
    refine wpAny_stack_any fun st => wpAny_pure ?_
    split
    · rename_i c _ _ _ _ _
      cases (c == Value.type "enumerate") <;> (wp_walk using q1; exact ⟨_, rfl, h⟩)
    · wp_walk using q1
      exact ⟨_, rfl, h⟩
theorem typeCall_enum1 (a : Value) : checkTypeCall "enumerate" ⟨[a], []⟩ = pure () := by kernel_rfl
theorem newCall_enum1 (a : Value) : checkBuiltinCall "enumerate.__new__" ⟨[.type "enumerate", a], []⟩ = pure () := by kernel_rfl
theorem args_init2 (o a : Value) : argsOk "object.__init__" ⟨[o, a], []⟩ := by unfold argsOk; kernel_rfl
theorem call_enumB {prog : Program} {w : World} {A : Around} {E : Value → Shared → Prop} {s : Shared} {k : Bool} {l : Addr} {xs : Array Value} {Q : Value → Shared → Prop} (q1 : IsSq k s.heap l xs)
    (h : ∀ h', IsEnum h' (s.heap.objs.size + 1) s.heap.objs.size 0 .none → IsIt k h' s.heap.objs.size l 0 → h'.objs.size = s.heap.objs.size + 2 → (∀ b o, s.heap.get? b = some o → h'.get? b = some o) → Q (.ref (s.heap.objs.size + 1)) { s with heap := h' }) :
    wpAny (model prog w) A (call (.type "enumerate") [.ref l]) Q E s := by
  refine callType_new F.called_enumerate (by decide) (typeCall_enum1 _) (newCall_enum1 _) (fun o => args_init2 o _) F.entry_enumerate_new (meets_enumB (beginsB k l xs)) ⟨q1, ?_⟩
  have hz : (s.heap.push (itObj k l)).objs.size = s.heap.objs.size + 1 := Heap.size_push ..
  have he := Heap.get?_push_size (s.heap.push (itObj k l)) (o := { cls := .type "enumerate", data := .fields #[.none, .bool false, .ref s.heap.objs.size, rawInt 0, .none, .none] }) rfl
  show _ ∧ _
  rw [hz] at he ⊢
  exact ⟨⟨_, he, rfl⟩, h _ he (itObj_is (Heap.get?_push_of_some _ (Heap.get?_push_size _ (beginsB k l xs).free))) (by rw [Heap.size_push, hz]) fun b o x => Heap.get?_push_of_some _ (Heap.get?_push_of_some _ x)⟩
def iEnumB (K : PySem.W.Frag) (ta : TA) : TI := fun σ H R => ta σ H fun vs H1 => ∃ a k xs, vs = [.ref a] ∧ Sq K k H1 a xs ∧ R (IteB K k a) H1
theorem pi_enumB {X : Cx} {e : Expr} {ta : TA} {p pos tpos : Pos} {elts : List Expr} {kk : Nat} (hg : Gl X "enumerate") (hm : X.mg "enumerate" = none) (ha : PA X [e] ta) (hs : starEach [e] X.env = [(false, eval e X.env)]) :
    PI X (.Tuple elts kk tpos) (.Call (.Name "enumerate" p) [e] [] pos) (iEnumB X.K ta) := by
  refine ⟨fun pins s σ H R I h => Call_ (ld_blt I hg hm boot_enumerate (PyProof.Rows.callWith_type1 (thn (ha.run pos pins s σ H _ I h) fun us s1 ⟨vs, H1, I1, r1, q1⟩ => ?_) hs rfl))⟩
  obtain ⟨a, k, xs, ex, hq, q⟩ := q1
  subst ex
  obtain ⟨u1, rfl, ra⟩ := vals1 r1
  cases ra
  obtain ⟨its, rv, p', la⟩ := hq.get I1
  refine call_enumB p' fun h' he hit hsz hk => wpAny_pyIter_enum he ?_
  have I2 : Inv X pins σ H1 { s1 with heap := h' } := I1.kept (t' := s1.toks) hk
  refine ⟨s1.heap.objs.size + 1, [s1.heap.objs.size + 1, s1.heap.objs.size], _, _, H1, rfl, I2, turn_enumB a (s1.heap.objs.size + 1) s1.heap.objs.size (Nat.ne_of_lt (Nat.lt_succ_of_lt la)) (Nat.ne_of_lt la), ⟨⟨.none, he⟩, hit, Nat.succ_ne_self _⟩, fun b hb => ?_, q⟩
  have hle : s1.heap.objs.size ≤ b := by
    have e' : b = s1.heap.objs.size + 1 ∨ b = s1.heap.objs.size := by simpa using hb
    rcases e' with z | z <;> rw [z] <;> first | exact Nat.le_refl _ | exact Nat.le_add_right _ _
  exact I1.fpOk hle (I1.hok.fresh hle)
end LP
end
section
/-! LP, part z: zip, enumerate as what is walked: the entries. -/
namespace LP
open PySem PySem.Spec PyProof.Rows L2

def kindD : D → Bool
  | .tup _ => false
  | _ => true
theorem Sq.same {K : PySem.W.Frag} {k : Bool} {H H' : Hp} {a : Addr} {xs : List V} (e : Same H H') (h : Sq K k H a xs) : Sq K k H' a xs := by
  cases k with
  | true =>
    rcases sqTL_same (K := K) e (.inl (show SqL K H a xs from h)) with q | q
    · exact q
    · rcases (show SqL K H a xs from h) with (h | ⟨o, h⟩) | h
      · exact .inl (.inl (e _ _ h))
      · exact .inl (.inr ⟨o, e _ _ h⟩)
      · exact .inr h
  | false => exact sqT_same e h
theorem Rp.sq {K : PySem.W.Frag} {G : Hp} {v : V} {d : D} {xs : List D} (r : Rp K G [v] [d]) (h : seqD d = some xs) : ∃ a us, v = .ref a ∧ Sq K (kindD d) G a us ∧ Rp K G us xs := by
  cases r with
  | tup q1 q2 _ => cases h; exact ⟨_, _, rfl, q1, q2⟩
  | lst q1 q2 _ => cases h; exact ⟨_, _, rfl, SqL.of q1, q2⟩
  | scr q1 q2 _ => cases h; exact ⟨_, _, rfl, q1.sq, q2⟩
  | _ => cases h
/-- two entries in a new pair -/
def pairE (e1 e2 : E) : E := match frAll [e1, e2] with
  | some ds => .o .v (.tup ds)
  | none => (match e1.rd, e2.rd with | some d1, some d2 => .b (.tup [d1, d2]) | _, _ => .x)
section
variable {K : PySem.W.Frag} {H0 H : Hp} {M0 : Bs} {σ : L2.St} {τ : List E} {tv : List V} {ρ : Rho} {e e1 e2 : E} {x y : V} {T : Addr}
theorem Cfg.pair (c : Cfg K H0 M0 H σ (τ ++ [e1, e2]) (tv ++ [x, y]) ρ) (hT : H T = none) : Cfg K H0 M0 (upd H T (.tup [x, y])) σ (τ ++ [pairE e1 e2]) (tv ++ [.ref T]) ρ := by
  unfold pairE
  cases h : frAll [e1, e2] with
  | some ds =>
    obtain ⟨zs, cz, fl⟩ := c.open_ (us := [x, y]) (es := [e1, e2]) rfl
    exact cz.newT hT (fl.fr h)
  | none =>
    have sm : Same H (upd H T (.tup [x, y])) := same_new hT
    have c1 : Cfg K H0 M0 (upd H T (.tup [x, y])) σ τ tv ρ := (c.drop (us := [x, y]) (es := [e1, e2]) rfl).grow sm
    cases h1 : e1.rd with
    | none => exact c1.pushX
    | some d1 =>
      cases h2 : e2.rd with
      | none => exact c1.pushX
      | some d2 =>
        have r := (c.reads (us := [x, y]) (es := [e1, e2]) (ds := [d1, d2]) rfl (by simp [h1, h2])).same sm
        exact c1.pushB (.tup (.inl (.inl upd_same)) r .nil)
theorem Cfg.elt {a : Addr} {d d' : D} {xs : List D} {i : Nat} (c : Cfg K H0 M0 H σ (τ ++ [srcE e]) (tv ++ [.ref a]) ρ) (hd : e.rd = some d') (hs : seqD d' = some xs) (hi : xs[i]? = some d) (hx : ∀ us, Sq K (kindD d') H a us → us[i]? = some x) :
    Cfg K H0 M0 H σ ((τ ++ [srcE e]) ++ [itE e d]) ((tv ++ [.ref a]) ++ [x]) ρ :=
  it_entry c hd hi fun G sg r => by
    obtain ⟨a', us, e0, q1, q2⟩ := r.sq hs
    cases e0
    exact ⟨us, hx us (q1.same sg), q2⟩
end
theorem walk_z {K : PySem.W.Frag} {b : Bool} {e1 e2 : E} {a c : Addr} {d1 d2 : D} {xs ys : List D} (h1 : e1.rd = some d1) (h2 : e2.rd = some d2) (s1 : seqD d1 = some xs) (s2 : seqD d2 = some ys) (hb : b = true → xs.length = ys.length) :
    WalkD K (ItzB K b (kindD d1) (kindD d2) a c) [srcE e1, srcE e2] [.ref a, .ref c] ((xs.zip ys).map fun p => pairE (itE e1 p.1) (itE e2 p.2)) := by
  have rdg : ∀ {H0 M0 H σ τ tv ρ}, Cfg K H0 M0 H σ (τ ++ [srcE e1, srcE e2]) (tv ++ [.ref a, .ref c]) ρ → ∃ us vs, Sq K (kindD d1) H a us ∧ Sq K (kindD d2) H c vs ∧ us.length = xs.length ∧ vs.length = ys.length := by
    intro H0 M0 H σ τ tv ρ cc
    have r := cc.reads (us := [.ref a, .ref c]) (es := [srcE e1, srcE e2]) (ds := [d1, d2]) rfl (by simp [srcE_rd, h1, h2])
    obtain ⟨r1, r2⟩ := r.uncons
    obtain ⟨_, us, z1, q1, p1⟩ := r1.sq s1
    obtain ⟨_, vs, z2, q2, p2⟩ := r2.sq s2
    cases z1
    cases z2
    exact ⟨us, vs, q1, q2, p1.length, p2.length⟩
  refine ⟨fun {H0 M0 H σ τ tv ρ i} cc hi => ?_, fun cc => ?_, fun {H0 M0 H σ τ tv ρ i x H'} cc hi hy => ?_⟩
  · obtain ⟨us, vs, q1, q2, l1, l2⟩ := rdg cc
    simp only [List.length_map, List.length_zip] at hi
    exact ⟨us, vs, us[i]'(by omega), vs[i]'(by omega), q1, q2, List.getElem?_eq_getElem (by omega), List.getElem?_eq_getElem (by omega)⟩
  · obtain ⟨us, vs, q1, q2, l1, l2⟩ := rdg cc
    refine ⟨us, vs, q1, q2, ?_, fun z => ?_⟩
    · simp only [List.length_map, List.length_zip]; omega
    · have := hb z
      simp only [List.length_map, List.length_zip]; omega
  · obtain ⟨T, u, v, rfl, hT, rfl, f1, f2⟩ := hy
    simp only [List.length_map, List.length_zip] at hi
    have hx : i < xs.length := by omega
    have hy : i < ys.length := by omega
    refine ⟨pairE (itE e1 xs[i]) (itE e2 ys[i]), by rw [List.getElem?_map, List.getElem?_eq_getElem (by rw [List.length_zip]; omega), List.getElem_zip]; rfl, ?_, same_new hT⟩
    have l0 : tv.length = τ.length := by have := cc.len; simp at this; omega
    have c0 : Cfg K H0 M0 H σ ((τ ++ [srcE e1]) ++ [srcE e2]) ((tv ++ [.ref a]) ++ [.ref c]) ρ := by simpa using cc
    have c1 := c0.elt h2 s2 (List.getElem?_eq_getElem hy) f2
    have c2 : Cfg K H0 M0 H σ (τ ++ ([srcE e1] ++ [srcE e2, itE e2 ys[i]])) (tv ++ ([.ref a] ++ [.ref c, v])) ρ := by simpa using c1
    have c3 : Cfg K H0 M0 H σ ((τ ++ [srcE e2, itE e2 ys[i]]) ++ [srcE e1]) ((tv ++ [.ref c, v]) ++ [.ref a]) ρ := by simpa using c2.swap l0 rfl
    have c4 := c3.elt h1 s1 (List.getElem?_eq_getElem hx) f1
    have c5 : Cfg K H0 M0 H σ ((τ ++ [srcE e2]) ++ ([itE e2 ys[i]] ++ [srcE e1, itE e1 xs[i]])) ((tv ++ [.ref c]) ++ ([v] ++ [.ref a, u])) ρ := by simpa using c4
    have c6 : Cfg K H0 M0 H σ (τ ++ ([srcE e2] ++ [srcE e1, itE e1 xs[i], itE e2 ys[i]])) (tv ++ ([.ref c] ++ [.ref a, u, v])) ρ := by simpa using c5.swap (by simp [l0]) rfl
    have c7 : Cfg K H0 M0 H σ ((τ ++ [srcE e1]) ++ ([itE e1 xs[i], itE e2 ys[i]] ++ [srcE e2])) ((tv ++ [.ref a]) ++ ([u, v] ++ [.ref c])) ρ := by simpa using c6.swap l0 rfl
    have c8 : Cfg K H0 M0 H σ ((τ ++ [srcE e1, srcE e2]) ++ [itE e1 xs[i], itE e2 ys[i]]) ((tv ++ [.ref a, .ref c]) ++ [u, v]) ρ := by simpa using c7.swap (by simp [l0]) rfl
    exact c8.pair hT
theorem walk_e {K : PySem.W.Frag} {e : E} {a : Addr} {d : D} {xs : List D} (h : e.rd = some d) (s : seqD d = some xs) :
    WalkD K (IteB K (kindD d) a) [srcE e] [.ref a] (xs.zipIdx.map fun p => pairE (.o .v (.int (p.2 : Nat))) (itE e p.1)) := by
  have rdg : ∀ {H0 M0 H σ τ tv ρ}, Cfg K H0 M0 H σ (τ ++ [srcE e]) (tv ++ [.ref a]) ρ → ∃ us, Sq K (kindD d) H a us ∧ us.length = xs.length := by
    intro H0 M0 H σ τ tv ρ cc
    obtain ⟨_, us, z1, q1, p1⟩ := (cc.last ((srcE_rd e).trans h)).sq s
    cases z1
    exact ⟨us, q1, p1.length⟩
  refine ⟨fun {H0 M0 H σ τ tv ρ i} cc hi => ?_, fun cc => ?_, fun {H0 M0 H σ τ tv ρ i x H'} cc hi hy => ?_⟩
  · obtain ⟨us, q1, l1⟩ := rdg cc
    simp only [List.length_map, List.length_zipIdx] at hi
    exact ⟨us, us[i]'(by omega), q1, List.getElem?_eq_getElem (by omega)⟩
  · obtain ⟨us, q1, l1⟩ := rdg cc
    exact ⟨us, q1, by simp [l1]⟩
  · obtain ⟨T, u, rfl, hT, rfl, f1⟩ := hy
    simp only [List.length_map, List.length_zipIdx] at hi
    refine ⟨pairE (.o .v (.int (i : Nat))) (itE e xs[i]), by simp [hi], ?_, same_new hT⟩
    have c1 := cc.elt h s (List.getElem?_eq_getElem hi) f1
    have c2 := c1.pushImm (d := .int (i : Nat)) (v := .int (i : Nat)) (.int _ .nil) rfl
    have l1 := cc.len
    have c3 : Cfg K H0 M0 H σ ((τ ++ [srcE e]) ++ ([itE e xs[i]] ++ [.o .v (.int (i : Nat))])) ((tv ++ [.ref a]) ++ ([u] ++ [.int (i : Nat)])) ρ := by simpa using c2
    have c4 : Cfg K H0 M0 H σ ((τ ++ [srcE e]) ++ [.o .v (.int (i : Nat)), itE e xs[i]]) ((tv ++ [.ref a]) ++ [.int (i : Nat), u]) ρ := by simpa using c3.swap l1 rfl
    exact c4.pair hT
/-- zip(a, b, strict=..) -/
def iZ (b : Bool) (ma mb : M) : MI := fun ρ => match a2 ma mb ρ with
  | .ok [e1, e2] p => (match e1.rd.bind seqD, e2.rd.bind seqD with
    | some xs, some ys => if b = true → xs.length = ys.length then .ok [srcE e1, srcE e2] ((xs.zip ys).map fun p => pairE (itE e1 p.1) (itE e2 p.2)) p else .st
    | _, _ => .st)
  | .ex C pl p => .ex C pl p
  | _ => .st
/-- enumerate(a) -/
def iEn (m : M) : MI := fun ρ => match m ρ with
  | .ok e p => (match e.rd.bind seqD with
    | some xs => .ok [srcE e] (xs.zipIdx.map fun p => pairE (.o .v (.int (p.2 : Nat))) (itE e p.1)) p
    | none => .st)
  | .ex C pl p => .ex C pl p
  | .st => .st
section
variable {K : PySem.W.Frag} {H0 H : Hp} {M0 : Bs} {σ : L2.St} {τ : List E} {tv : List V} {ρ : Rho} {e1 e2 : E} {x y : V}
theorem Cfg.src2 (c : Cfg K H0 M0 H σ (τ ++ [e1, e2]) (tv ++ [x, y]) ρ) : Cfg K H0 M0 H σ (τ ++ [srcE e1, srcE e2]) (tv ++ [x, y]) ρ := by
  have l0 : tv.length = τ.length := by have := c.len; simp at this; omega
  have c1 : Cfg K H0 M0 H σ ((τ ++ [e1]) ++ [e2]) ((tv ++ [x]) ++ [y]) ρ := by simpa using c
  have c2 : Cfg K H0 M0 H σ (τ ++ ([e1] ++ [srcE e2])) (tv ++ ([x] ++ [y])) ρ := by simpa using c1.src
  have c3 : Cfg K H0 M0 H σ ((τ ++ [srcE e2]) ++ [e1]) ((tv ++ [y]) ++ [x]) ρ := by simpa using c2.swap l0 rfl
  have c4 : Cfg K H0 M0 H σ (τ ++ ([srcE e2] ++ [srcE e1])) (tv ++ ([y] ++ [x])) ρ := by simpa using c3.src
  simpa using c4.swap l0 rfl
end
section
variable {X : Cx} {W : WX} {e e2 : Expr} {m ma mb : M} {p pos tpos cp kp : Pos} {elts : List Expr} {kk : Nat} {b : Bool}
theorem vi_zip {j} (hg : Gl X "zip") (hm : X.mg "zip" = none) (ha : VE X W e ma) (hb : VE X W e2 mb) (hs : starEach [e, e2] X.env = (false, eval e X.env) :: starEach [e2] X.env := by rfl) (hs2 : starEach [e2] X.env = (false, eval e2 X.env) :: starEach [] X.env := by rfl)
    (he : backTo pos (starEach [e, e2] X.env) = (false, eval e X.env) :: backTo pos (starEach [e2] X.env) := by rfl) (hpl : (backTo pos (starEach [e, e2] X.env)).any (·.1) = false := by rfl)
    (hall : (backToKw pos (keywordEach [⟨some (Str.ofString "strict"), .Constant (.bool b) j cp, kp⟩] X.env)).all (·.1.isSome) = true := by rfl) (hkw : (backToKw pos (keywordEach [⟨some (Str.ofString "strict"), .Constant (.bool b) j cp, kp⟩] X.env)).any (·.1.isNone) = false := by rfl)
    (hks : (backToKw pos (keywordEach [⟨some (Str.ofString "strict"), .Constant (.bool b) j cp, kp⟩] X.env)).filterMap (·.1) = [Str.ofString "strict"] := by rfl) :
    VI X W (.Tuple elts kk tpos) (.Call (.Name "zip" p) [e, e2] [⟨some (Str.ofString "strict"), .Constant (.bool b) j cp, kp⟩] pos) (iZ b ma mb) := by
  refine ⟨(pi_zipB hg hm (va_cons ha (va_cons hb va_nil hs2) hs).pa he hpl hall hkw hks).weak fun σ H R ⟨H0, M0, τ, tv, ρ, c, q⟩ => ?_⟩
  unfold iZ at q
  refine ⟨H0, M0, τ, tv, ρ, c, ?_⟩
  have eq : aCons ma (aCons mb aNil) ρ = a2 ma mb ρ := rfl
  rw [eq]
  cases hm : a2 ma mb ρ with
  | st => rw [hm] at q; exact q
  | ex C pl p => rw [hm] at q; exact q
  | ok es p =>
    rw [hm] at q
    intro vs H1 hl c1 s1
    match es, vs, hl, c1, q with
    | [e1, e2], [v1, v2], _, c1, q =>
      simp only at q
      cases h1 : e1.rd with
      | none => rw [h1] at q; exact q.elim
      | some d1 =>
        cases h2 : e2.rd with
        | none => rw [h1, h2] at q; simp only [Option.bind] at q; split at q <;> first | exact q.elim | (rename_i z; cases z)
        | some d2 =>
          rw [h1, h2] at q
          simp only [Option.bind] at q
          split at q
          · rename_i xs ys s1' s2'
            split at q
            · rename_i hb'
              have r := c1.reads (us := [v1, v2]) (es := [e1, e2]) (ds := [d1, d2]) rfl (by simp [h1, h2])
              obtain ⟨a, us, z1, q1, p1⟩ := r.uncons.1.sq s1'
              obtain ⟨c', vs', z2, q2, p2⟩ := r.uncons.2.sq s2'
              subst z1 z2
              exact ⟨a, c', _, _, us, vs', rfl, q1, q2, q _ _ H1 rfl (walk_z h1 h2 s1' s2' hb') c1.src2 s1⟩
            · exact q.elim
          · exact q.elim
    | [], _, _, _, q => exact q.elim
    | [_], _, _, _, q => exact q.elim
    | _ :: _ :: _ :: _, _, _, _, q => exact q.elim
theorem vi_enum (hg : Gl X "enumerate") (hm : X.mg "enumerate" = none) (ha : VE X W e m) (hs : starEach [e] X.env = (false, eval e X.env) :: starEach [] X.env := by rfl) (hs2 : starEach [e] X.env = [(false, eval e X.env)] := by rfl) : VI X W (.Tuple elts kk tpos) (.Call (.Name "enumerate" p) [e] [] pos) (iEn m) := by
  refine ⟨(pi_enumB hg hm (va_cons ha va_nil hs).pa hs2).weak fun σ H R ⟨H0, M0, τ, tv, ρ, c, q⟩ => ?_⟩
  unfold iEn at q
  refine ⟨H0, M0, τ, tv, ρ, c, ?_⟩
  unfold aCons aNil
  cases hm : m ρ with
  | st => rw [hm] at q; exact q
  | ex C pl p => rw [hm] at q; exact q
  | ok e p =>
    rw [hm] at q
    simp only [kq, por]
    have goal : RunA X.K W H0 M0 τ tv σ ρ H (fun vs H1 => ∃ a k xs, vs = [.ref a] ∧ Sq X.K k H1 a xs ∧ R (IteB X.K k a) H1) (.ok [e] p) := by
      intro vs H1 hl c1 s1
      match vs, hl with
      | [v], _ =>
        simp only at q
        cases h1 : e.rd with
        | none => rw [h1] at q; exact q.elim
        | some d1 =>
          rw [h1] at q
          simp only [Option.bind] at q
          cases h2 : seqD d1 with
          | none => rw [h2] at q; exact q.elim
          | some xs =>
            rw [h2] at q
            obtain ⟨a, us, z1, q1, p1⟩ := (c1.last h1).sq h2
            subst z1
            exact ⟨a, _, us, rfl, q1, q _ _ H1 rfl (walk_e h1 h2) c1.src s1⟩
    cases p <;> exact goal
end
end LP
end
section
/-! LP, part Qa: chains of comparisons, name += e, a, b = e, bit_length, index, count. -/
namespace LP
open PySem PySem.Spec PyProof.Rows L2

/-- a op1 b op2 c -/
def mChain (f g : D → D → Option D) (ma mb mc : M) : M := fun ρ => match a2 ma mb ρ with
  | .ok [e1, e2] p => (match e1.rd, e2.rd with
    | some d1, some d2 => (match f d1 d2 with
      | some (.bl true) => (match (aCons (fun _ => .ok e2 none) (aCons mc aNil)) (p.getD ρ) with
        | .ok [e3, e4] q => (match e3.rd, e4.rd with
          | some d3, some d4 => (match g d3 d4 with | some d => .ok (.o .v d) (por p q) | none => .st)
          | _, _ => .st)
        | .ex C pl q => .ex C pl (por p q)
        | _ => .st)
      | some (.bl false) => .ok (.o .v (.bl false)) p
      | _ => .st)
    | _, _ => .st)
  | .ex C pl p => .ex C pl p
  | _ => .st
section
variable {K : PySem.W.Frag} {W : WX} {H0 H : Hp} {M0 : Bs} {σ : L2.St} {τ : List E} {tv : List V} {ρ : Rho} {ma mb mc m : M} {f g : D → D → Option D} {r r' : R2}
theorem run_chain {Q : VK} (hf : Pure2 K r f) (hg : Pure2 K r' g) (c : Cfg K H0 M0 H σ τ tv ρ) (q : Run K W H0 M0 τ tv σ ρ H Q (mChain f g ma mb mc ρ)) : tChain r r' (tV K W ma) (tV K W mb) (tV K W mc) σ H Q := by
  unfold mChain at q
  refine run2 c ?_
  cases h : a2 ma mb ρ with
  | st => rw [h] at q; exact q
  | ex C pl p => rw [h] at q; exact q
  | ok es p =>
    rw [h] at q
    intro vs H1 hl c1 s1 x y hv
    subst hv
    match es, hl, c1, q with
    | [e1, e2], _, c1, q =>
      simp only at q
      cases h1 : e1.rd with
      | none => rw [h1] at q; exact q.elim
      | some d1 =>
        cases h2 : e2.rd with
        | none => rw [h1, h2] at q; exact q.elim
        | some d2 =>
          rw [h1, h2] at q
          simp only at q
          have rr := c1.reads (us := [x, y]) (es := [e1, e2]) (ds := [d1, d2]) rfl (by simp [h1, h2])
          have l0 : tv.length = (kp p τ).length := by rw [kp_length]; exact c.len
          cases h3 : f d1 d2 with
          | none => rw [h3] at q; exact q.elim
          | some d =>
            rw [h3] at q
            refine hf H1 x y d1 d2 d _ rr.uncons.1 rr.uncons.2 h3 fun v rv hi => ?_
            split at q
            · rename_i hb
              cases hb
              refine ⟨true, rv.bl1, ?_⟩
              rw [if_pos rfl]
              have c2 : Cfg K H0 M0 H1 σ (kp p τ ++ [e2]) (tv ++ [y]) (p.getD ρ) := by
                have c3 : Cfg K H0 M0 H1 σ (kp p τ ++ ([e1] ++ [e2])) (tv ++ ([x] ++ [y])) (p.getD ρ) := by simpa using c1
                have c4 : Cfg K H0 M0 H1 σ ((kp p τ ++ [e2]) ++ [e1]) ((tv ++ [y]) ++ [x]) (p.getD ρ) := by simpa using c3.swap l0 rfl
                exact c4.drop1
              refine ⟨H0, M0, kp p τ ++ [e2], tv ++ [y], _, c2, ?_⟩
              unfold aCons aNil at q
              simp only [Option.getD_none, kq, por] at q
              cases hm : mc (p.getD ρ) with
              | st => rw [hm] at q; exact q.elim
              | ex C pl p2 =>
                rw [hm] at q
                intro dO H' c5 pay
                cases p2 with
                | none =>
                  rw [kp_app] at c5
                  exact q dO H' (by simpa [por, kp] using c5.drop1) pay
                | some r2 =>
                  rw [kp_app] at c5
                  have : Cfg K H0 M0 H' σ (kp (some r2) (kp p τ)) tv ((some r2).getD (p.getD ρ)) := by
                    have := c5.drop (us := [y]) (es := kp (some r2) [e2]) (by simp [kp])
                    exact this
                  rw [kp_por, getD_por] at this
                  exact q dO H' this pay
              | ok e4 p2 =>
                rw [hm] at q
                intro w H2 c5 s2
                have c6 : Cfg K H0 M0 H2 σ (kp (por p p2) τ ++ [kq p2 e2, e4]) (tv ++ [y, w]) ((por p p2).getD ρ) := by
                  rw [kp_app, kp_one, kp_por, getD_por] at c5
                  simpa using c5
                cases p2 with
                | none =>
                  simp only at q
                  cases h4 : (kq none e2).rd with
                  | none => rw [show kq none e2 = e2 from rfl] at h4; rw [h4] at q; exact q.elim
                  | some d3 =>
                    have h4' : e2.rd = some d3 := h4
                    cases h5 : e4.rd with
                    | none => rw [h4', h5] at q; exact q.elim
                    | some d4 =>
                      rw [h4', h5] at q
                      simp only at q
                      cases h6 : g d3 d4 with
                      | none => rw [h6] at q; exact q.elim
                      | some d =>
                        rw [h6] at q
                        have r2 := c6.reads (us := [y, w]) (es := [kq none e2, e4]) (ds := [d3, d4]) rfl (by simp [h4, h5])
                        refine hg H2 y w d3 d4 d _ r2.uncons.1 r2.uncons.2 h6 fun v' rv' hi' => ?_
                        exact q v' H2 ((c6.drop (us := [y, w]) (es := [kq none e2, e4]) rfl).pushImm rv' hi') (por_same s1 s2)
                | some r2 =>
                  simp only at q
                  cases h4 : (kill e2).rd with
                  | none => rw [h4] at q; exact q.elim
                  | some d3 =>
                    cases h5 : e4.rd with
                    | none => rw [h4, h5] at q; exact q.elim
                    | some d4 =>
                      rw [h4, h5] at q
                      simp only at q
                      cases h6 : g d3 d4 with
                      | none => rw [h6] at q; exact q.elim
                      | some d =>
                        rw [h6] at q
                        have r2' := c6.reads (us := [y, w]) (es := [kq (some r2) e2, e4]) (ds := [d3, d4]) rfl (by simp [kq, h4, h5])
                        refine hg H2 y w d3 d4 d _ r2'.uncons.1 r2'.uncons.2 h6 fun v' rv' hi' => ?_
                        exact q v' H2 ((c6.drop (us := [y, w]) (es := [kq (some r2) e2, e4]) rfl).pushImm rv' hi') (por_same s1 s2)
            · rename_i hb
              cases hb
              refine ⟨false, rv.bl1, ?_⟩
              rw [if_neg (by decide)]
              have e0 := rv.bl1
              exact q (.bl false) H1 ((c1.drop (us := [x, y]) (es := [e1, e2]) rfl).pushImm (.bl _ .nil) rfl) s1
            · exact q.elim
end
/-- a comparison of data -/
structure CO (X : Cx) (op : CmpOp) (f : D → D → Option D) : Prop where
  ex : ∃ r, OpR X (compareOp op) r ∧ Pure2 X.K r f
section
variable {X : Cx} {W : WX} {a b c e o : Expr} {ma mb mc m : M} {pos apos cpos : Pos} {k : Nat} {f g : D → D → Option D} {op op' : CmpOp}
theorem co_eq (hr : Room k X.A) : CO X .Eq gEq := ⟨_, op_eqD hr.units, p2_eq⟩
theorem co_ne (hr : Room k X.A) : CO X .NotEq gNe := ⟨_, op_neD hr.units, p2_ne⟩
theorem co_lt : CO X .Lt gLt := ⟨_, op_lt, p2_cmp⟩
theorem co_le : CO X .LtE gLe := ⟨_, op_le, p2_cmp⟩
theorem co_gt : CO X .Gt gGt := ⟨_, op_gt, p2_cmp⟩
theorem co_ge : CO X .GtE gGe := ⟨_, op_ge, p2_cmp⟩
theorem ve_chain (h1 : CO X op f) (h2 : CO X op' g) (ha : VE X W a ma) (hb : VE X W b mb) (hc : VE X W c mc) (hm : lastMarks [op, op'] [b, c] = false := by with_unfolding_all rfl) : VE X W (.Compare a [op, op'] [b, c] pos) (mChain f g ma mb mc) := by
  obtain ⟨r, o1, p1⟩ := h1.ex
  obtain ⟨r', o2, p2⟩ := h2.ex
  exact ⟨(pe_chain o1 o2 ha.pe hb.pe hc.pe hm).weak fun σ H Q ⟨H0, M0, τ, tv, ρ, c, q⟩ => run_chain p1 p2 c q⟩
theorem vt_chain (h1 : CO X op f) (h2 : CO X op' g) (ha : VE X W a ma) (hb : VE X W b mb) (hc : VE X W c mc) (hm : lastMarks [op, op'] [b, c] = false := by with_unfolding_all rfl) : VT X W (.Compare a [op, op'] [b, c] pos) (mChain f g ma mb mc) := by
  obtain ⟨r, o1, p1⟩ := h1.ex
  obtain ⟨r', o2, p2⟩ := h2.ex
  exact ⟨(pt_chain o1 o2 ha.pe hb.pe hc.pe hm).weak fun σ H Q ⟨H0, M0, τ, tv, ρ, c, q⟩ => run_chain (W := W) p1 p2 c q⟩

/-! ### name op= e, of ints -/
def sAug (i : Nat) (f : Int → Int → Option Int) (m : M) : MS := fun ρ => match ρ[i]? with
  | some e0 => (match e0.rd, isP e0, m ρ with
    | some (.int x), false, .ok e p => (match e.rd with
      | some (.int y) => (match f x y with | some z => if i < (p.getD ρ).length then .nx ((p.getD ρ).set i (.o .v (.int z))) p.isSome else .st | none => .st)
      | _ => .st)
    | some (.int _), false, .ex C pl p => .ex C pl (p.getD ρ) p.isSome
    | _, _, _ => .st)
  | none => .st
/-- an in-place operator of ints -/
structure IpI (X : Cx) (op : Operator) (f : Int → Int → Option Int) : Prop where
  ex : ∃ t : TIp, PIp X op t ∧ ∀ (x y z : Int) (H : Hp) (Q : VK), f x y = some z → Q (.int z) H → t (.int x) (.int y) H Q
theorem ia_add : IpI X .Add (fun x y => some (x + y)) := ⟨_, ip_add, fun x y z H Q h q => by cases h; exact ⟨x, y, rfl, rfl, q⟩⟩
theorem ia_sub : IpI X .Sub (fun x y => some (x - y)) := ⟨_, ip_sub, fun x y z H Q h q => by cases h; exact ⟨x, y, rfl, rfl, q⟩⟩
theorem run_aug {K : PySem.W.Frag} {H0 H : Hp} {M0 : Bs} {σ : L2.St} {τ : List E} {tv : List V} {ρ : Rho} {i : Nat} {f : Int → Int → Option Int} {t : TIp} {Dn : Ends} (ht : ∀ (x y z : Int) (H : Hp) (Q : VK), f x y = some z → Q (.int z) H → t (.int x) (.int y) H Q)
    (c : Cfg K H0 M0 H σ τ tv ρ) (q : RunS K W H0 M0 τ tv Dn (sAug i f m ρ)) : tAug i (tV K W m) t Dn σ H := by
  unfold sAug at q
  cases h0 : ρ[i]? with
  | none => rw [h0] at q; exact q.elim
  | some e0 =>
    rw [h0] at q
    simp only at q
    cases hd : e0.rd with
    | none => rw [hd] at q; exact q.elim
    | some d =>
      obtain ⟨v, h1, r1, _⟩ := c.slot h0 hd
      refine ⟨v, h1, H0, M0, τ, tv, ρ, c, ?_⟩
      rw [hd] at q
      cases d with
      | int x =>
        cases hp : isP e0 with
        | true => rw [hp] at q; exact q.elim
        | false =>
          rw [hp] at q
          cases hm : m ρ with
          | st => rw [hm] at q; exact q.elim
          | ex C pl p =>
            rw [hm] at q
            intro dO H' c' pay
            rw [kk_kp] at c'
            exact q dO σ H' c' pay
          | ok e p =>
            rw [hm] at q
            simp only at q
            intro w H1 c1 s1
            split at q
            · rename_i y hy
              have r2 := (c1.last hy).int1
              have r3 := r1.int1
              subst r2 r3
              cases hf : f x y with
              | none => rw [hf] at q; exact q.elim
              | some z =>
                rw [hf] at q
                simp only at q
                split at q
                · rename_i hl
                  refine ht x y z _ _ hf ?_
                  have c2 := c1.drop1.pushImm (d := .int z) (v := .int z) (.int _ .nil) rfl
                  have c3 := c2.put hl rfl
                  rw [kk_kp] at c3
                  exact q _ _ c3
                · exact q.elim
            · exact q.elim
      | _ => exact q.elim
theorem vs_aug {i : Nat} {x : Str} {op : Operator} {pos' : Pos} {f : Int → Int → Option Int} (h : IpI X op f) (hN : X.N.Nodup) (hi : X.N[i]? = some x) (hx : Loc X.env.scope x) (he : VE X W e m) (hf : X.fn x = true ∨ X.env.scope.names.lookup x = some .local := by first | exact .inl rfl | exact .inr rfl | assumption) :
    VS X W (.AugAssign (.Name x pos') op e pos) (sAug i f m) := by
  obtain ⟨t, h1, h2⟩ := h.ex
  exact ⟨(ps_aug hN hi hx he.pe h1 hf).weak fun D σ H ⟨H0, M0, τ, tv, ρ, c, q⟩ => run_aug h2 c q⟩

/-! ### a, b = e -/
def sAsg (g : E → Rho → Option Rho) (m : M) : MS := fun ρ => match m ρ with
  | .ok e p => (match g e (p.getD ρ) with | some ρ' => .nx ρ' p.isSome | none => .st)
  | .ex C pl p => .ex C pl (p.getD ρ) p.isSome
  | .st => .st
theorem vs_asg {tg : Expr} {g : E → Rho → Option Rho} {is : List Nat} (he : VE X W e m) (hg : VG X tg g is) (hs : swapsWithSole [tg] e pos.line X.env = pure false := by rfl) (hw : swappedStores [tg] e X.env = pure none := by rfl)
    (h1 : (assignEach [tg] X.env).map (·.2) = [assign tg X.env] := by rfl) : VS X W (.Assign [tg] e pos) (sAsg g m) := by
  refine ⟨(ps_asg he.pe hg.pg hs hw h1).weak fun Dn σ H ⟨H0, M0, τ, tv, ρ, c, q⟩ => ?_⟩
  unfold sAsg at q
  refine run_sb (R := fun x H1 => tGv X.K g is x σ H1 Dn.nx) (f := fun e p => match g e (p.getD ρ) with | some ρ' => .nx ρ' p.isSome | none => .st) c q fun e p v H' _ c' r => ?_
  cases hgg : g e (p.getD ρ) with
  | none => rw [hgg] at r; exact r.elim
  | some ρ' =>
    rw [hgg] at r
    exact ⟨H0, M0, _, _, _, e, ρ', c', hgg, fun σ' c2 _ _ => r σ' H' c2⟩
end
end LP
end
section
/-! LP, part Qb: methods of objects, new objects. -/
namespace LP
open PySem PySem.Spec PyProof.Rows L2

theorem idxOf_none {f : Str} : ∀ {ns : List Str} {us : List V}, idxOf f ns = none → (ns.zip us).lookup f = none
  | [], _, _ => by simp
  | n :: ns, [], _ => by simp
  | n :: ns, u :: us, h => by
    unfold idxOf at h
    split at h
    · cases h
    · rename_i e
      cases hj : idxOf f ns with
      | some k => rw [hj] at h; cases h
      | none =>
        rw [List.zip_cons_cons, List.lookup_cons]
        have : (f == n) = false := by simpa using fun q : f = n => e q.symm
        rw [this]
        exact idxOf_none hj
def isOb (C : Addr) (nm : Str) : D → Bool
  | .ob C' ns _ => decide (C' = C) && (idxOf nm ns).isNone
  | _ => false
theorem isOb_v {K : PySem.W.Frag} {H : Hp} {C : Addr} {nm : Str} {d : D} {v : V} (h : isOb C nm d = true) (r : Rp K H [v] [d]) : ∃ a dx fs, v = .ref a ∧ H a = some (.ins C dx fs) ∧ fs.lookup nm = none := by
  cases r with
  | ob ha hl _ _ =>
    simp only [isOb, Bool.and_eq_true, decide_eq_true_eq, Option.isNone_iff_eq_none] at h
    rw [h.1] at ha
    exact ⟨_, _, _, rfl, ha, idxOf_none h.2⟩
  | _ => simp [isOb] at h
section
variable {K : PySem.W.Frag} {W : WX} {H0 H : Hp} {M0 : Bs} {σ : L2.St} {τ : List E} {tv : List V} {ρ : Rho} {m mo : M} {ms : Rho → AO}
theorem aCons_rest {R : List V → Hp → Prop} {e : E} {p : Option Rho} {v : V} {H1 : Hp} (hm : mo ρ = .ok e p) (r : RunA K W H0 M0 τ tv σ ρ H R (aCons mo ms ρ)) (c1 : Cfg K H0 M0 H1 σ (kp p τ ++ [e]) (tv ++ [v]) (p.getD ρ)) (s1 : p = none → Same H H1) :
    tVa K W ms σ H1 fun xs H2 => R (v :: xs) H2 := by
  unfold aCons at r
  rw [hm] at r
  refine ⟨H0, M0, _, _, _, c1, ?_⟩
  cases h2 : ms (p.getD ρ) with
  | st => simp only [h2] at r; exact r
  | ex C pl q =>
    simp only [h2] at r
    exact RunX.seq r
  | ok es q =>
    simp only [h2] at r
    intro vs H2 hl c2 s2
    refine r (v :: vs) H2 (by simp [hl]) ?_ (por_same s1 s2)
    rw [kp_app, kp_por, kp_one, getD_por, List.append_assoc, List.append_assoc] at c2
    exact c2
/-- the receiver is an object of the class C that has no field of that name -/
def mMeth (C : Addr) (nm : Str) (m : List E → FO) (mo : M) (ms : Rho → AO) : M := fun ρ => match mo ρ with
  | .ok e _ => (match e.rd with
    | some d => if isOb C nm d = true then mCall m (aCons mo ms) ρ else .st
    | none => .st)
  | .ex C' pl p => .ex C' pl p
  | .st => .st
theorem run_meth {C : Addr} {nm : Str} {n : Nat} {f : List E → FO} {Q : VK} (c : Cfg K H0 M0 H σ τ tv ρ) (q : Run K W H0 M0 τ tv σ ρ H Q (mMeth C nm f mo ms ρ)) (hn : ∀ es p, aCons mo ms ρ = .ok es p → es.length = n) :
    tMeth C nm (SpV K n f) [] (fun cls d H' => W cls d σ H') (tV K W mo) (tVa K W ms) σ H Q := by
  unfold mMeth at q
  refine ⟨H0, M0, τ, tv, ρ, c, ?_⟩
  cases hm : mo ρ with
  | st => rw [hm] at q; exact q
  | ex C' pl p => rw [hm] at q; exact q
  | ok e p =>
    rw [hm] at q
    simp only at q
    cases hd : e.rd with
    | none => rw [hd] at q; exact q.elim
    | some d =>
      rw [hd] at q
      simp only at q
      split at q
      rotate_left
      · exact q.elim
      rename_i hob
      intro v H1 c1 s1
      obtain ⟨a, dx, fs, e1, e2, e3⟩ := isOb_v hob (c1.last hd)
      refine ⟨a, dx, fs, e1, e2, e3, ?_⟩
      -- the call, from the state at the start
      have key : RunA K W H0 M0 τ tv σ ρ H (fun vs H1 => SpV K n f vs H1 Q (fun cls d H' => W cls d σ H')) (aCons mo ms ρ) := run_callA c q hn
      have := aCons_rest hm key c1 s1
      simpa using this
end

/-! ### the walk's rules, the wish at the caller's slots -/
section
variable {X : Cx} {CX : CXT} {k : Nat} {f C : Addr} {fd : FuncData} {ps : List Str} {sp : Sp} {E : L2.St → XK} {x nm : Str} {p pos apos : Pos} {e o : Expr} {es : List Expr} {ta : TE} {t : TA}
def tMethD (C : Addr) (nm : Str) (sp : Sp) (E : L2.St → XK) (ta : TE) (t : TA) : TE := fun σ H Q => tMeth C nm sp [] (E σ) ta t σ H Q
theorem pe_methD {pl : Sem Bool} (he : PE X o ta) (c : Cls X.K C) (hm : Meth X.K C nm f) (F : FnOk X.prog X.w X.K X.mg X.base CX k f fd ps sp) (hr : Room k X.A) (hb : Binds X.K fd ps []) (hx : ∀ σ, PassesAt CX X σ (E σ)) (ha : PA X (e :: es) t)
    (hst : starEach (e :: es) X.env = (false, eval e X.env) :: starEach es X.env) (hpl : (backTo pos (starEach es X.env)).any (·.1) = false)
    (ht : eval (.Call (.Attribute o nm apos) (e :: es) [] pos) X.env = (do
      let ov ← eval o X.env
      standAt apos.atName
      let (g, first) ← holding [ov] (getMethod ov nm pl)
      callWith pos g first (backTo pos (starEach (e :: es) X.env)) (backToKw pos (keywordEach [] X.env)))) : PE X (.Call (.Attribute o nm apos) (e :: es) [] pos) (tMethD C nm sp E ta t) := by
  refine ⟨fun pins s σ H Q I h => PySem.W.methodCall_KW (pl := pl) (thn (he.run pins s σ H _ I h) fun u s1 ⟨x, H1, I1, rx, a, dx, fs, ex, ea, l, q⟩ => ?_) ht⟩
  subst ex
  obtain rfl : u = Value.ref a := rx
  refine getmeth_ok I1 ea c hm l (PySem.W.callWith_K (first := [.ref a]) (h₀ := X.base) I.ok.mod.kin hm.kp (thn (ha.run pos pins s1 σ H1 _ I1 q) fun us s2 ⟨vs, H2, I2, r, q2⟩ => ⟨I2.kIn, ?_⟩) hst hpl)
  exact run_fnSD (us := .ref a :: us) (vs := .ref a :: vs) (dvs := []) (ds := []) F hr hb .nil (hx σ) I2 (.cons rfl r) q2
theorem pe_methD0 {pl : Sem Bool} (he : PE X o ta) (c : Cls X.K C) (hm : Meth X.K C nm f) (F : FnOk X.prog X.w X.K X.mg X.base CX k f fd ps sp) (hr : Room k X.A) (hb : Binds X.K fd ps []) (hx : ∀ σ, PassesAt CX X σ (E σ))
    (ht : eval (.Call (.Attribute o nm apos) [] [] pos) X.env = (do
      let ov ← eval o X.env
      standAt apos.atName
      let (g, first) ← holding [ov] (getMethod ov nm pl)
      callWith pos g first (backTo pos (starEach [] X.env)) (backToKw pos (keywordEach [] X.env)))) : PE X (.Call (.Attribute o nm apos) [] [] pos) (tMethD C nm sp E ta tNil) := by
  refine ⟨fun pins s σ H Q I h => PySem.W.methodCall_KW (pl := pl) (thn (he.run pins s σ H _ I h) fun u s1 ⟨x, H1, I1, rx, a, dx, fs, ex, ea, l, q⟩ => ?_) ht⟩
  subst ex
  obtain rfl : u = Value.ref a := rx
  exact getmeth_ok I1 ea c hm l (PySem.W.callWith_K0 (first := [.ref a]) I1.kIn hm.kp (run_fnSD (us := [.ref a]) (vs := [.ref a]) (dvs := []) (ds := []) F hr hb .nil (hx σ) I1 (.cons rfl .nil) q))
def tMakeD (C : Addr) (sp : Sp) (E : L2.St → XK) (t : TA) : TE := fun σ H Q => tMake C sp [] (E σ) t σ H Q
theorem run_makeD {pins : List (Addr × Obj)} {σ : L2.St} {H : Hp} {s : Shared} {Q : VK} {us : List Value} {vs : List V} (M : Mk X.K C f) (F : FnOk X.prog X.w X.K X.mg X.base CX k f fd ps sp) (hr : Room (k + 1) X.A) (hb : Binds X.K fd ps []) (hx : PassesAt CX X σ (E σ)) (I : Inv X pins σ H s) (r : Vals vs us)
    (h : ∀ x dx, H x = none → H dx = none → dx ≠ x → sp (.ref x :: vs) (upd (upd H dx (.own x)) x (.ins C dx [])) (fun v H2 => v = .non ∧ Q (.ref x) H2) (E σ)) : wpAny (model X.prog X.w) X.A (call (.ref C) us) (EP X pins σ Q) X.xe s := by
  have q0 := h (s.heap.objs.size + 1) s.heap.objs.size (I.hok.fresh (Nat.le_succ _)) (I.hok.fresh (Nat.le_refl _)) (Nat.ne_of_lt (Nat.lt_succ_self _))
  have I2 := Inv.made (C := C) I
  have r2 : Vals (V.ref (s.heap.objs.size + 1) :: vs) (Value.ref (s.heap.objs.size + 1) :: us) := .cons rfl r
  have hl : (Value.ref (s.heap.objs.size + 1) :: us).length = ps.length := r2.length.symm.trans (F.len _ _ _ _ q0)
  have hbb := hb _ (Value.ref (s.heap.objs.size + 1) :: us) I2.kIn (by rw [List.append_nil]; exact hl)
  rw [List.append_nil] at hbb
  refine wpAny_call (make_map (f := f) I.kIn M.makes M.init (beq_iff_eq.mp M.fn) (codeAny_mono (F.run _ X.stack _ _ ⟨Value.ref (s.heap.objs.size + 1) :: us, []⟩ (Value.ref (s.heap.objs.size + 1) :: us) _ _ (E σ) (hr.make C us []) (I2.env0.make C us []) hbb r2 q0) fun r s' hq => ?_))
  cases r with
  | error e => exact hx pins _ _ e s' I2 hq
  | ok fl =>
    cases fl with
    | ret u =>
      obtain ⟨v, H', I3, rv, ev, q3⟩ := I2.after hq
      subst ev
      exact ⟨rv, V.ref (s.heap.objs.size + 1), H', I3, rfl, q3⟩
    | next => exact False.elim hq
    | brk => exact False.elim hq
    | cont => exact False.elim hq
theorem pe_makeD (M : Mk X.K C f) (F : FnOk X.prog X.w X.K X.mg X.base CX k f fd ps sp) (hr : Room (k + 1) X.A) (hg : Gl X x) (hm : X.mg x = some (.ref C)) (hb : Binds X.K fd ps []) (hx : ∀ σ, PassesAt CX X σ (E σ)) (ha : PA X (e :: es) t) (hdb : (x == ("__debug__" : Str)) = false)
    (he : starEach (e :: es) X.env = (false, eval e X.env) :: starEach es X.env) (hpl : (backTo pos (starEach es X.env)).any (·.1) = false) : PE X (.Call (.Name x p) (e :: es) [] pos) (tMakeD C sp E t) := by
  refine ⟨fun pins s σ H Q I h => wpAny_Call_Name_kw (ld_glob I hg hm (PySem.W.callWith_K (h₀ := X.base) I.ok.mod.kin M.kp (thn (ha.run pos pins s σ H _ I h) fun us s1 ⟨vs, H1, I1, r, q⟩ => ⟨I1.kIn, ?_⟩) he hpl) hdb)⟩
  exact run_makeD M F hr hb (hx σ) I1 r fun x dx a b c => by have := q x dx a b c; rwa [List.append_nil] at this
end
section
variable {X : Cx} {W : WX} {k n : Nat} {f C : Addr} {fd : FuncData} {ps : List Str} {m : List E → FO} {x nm : Str} {p pos apos : Pos} {e o : Expr} {es : List Expr} {mo : M}
theorem ve_meth {l : List M} {pl : Sem Bool} (ho : VE X W o mo) (c : Cls X.K C) (hm : Meth X.K C nm f) (F : FnOk X.prog X.w X.K X.mg X.base (L2.CX X.prog X.w) k f fd ps (SpV X.K n m)) (hr : Room k X.A) (hb : Binds X.K fd ps []) (tk : Takes X W)
    (ha : VA X W (e :: es) (l.foldr aCons aNil)) (hn : l.length + 1 = n := by rfl) (hst : starEach (e :: es) X.env = (false, eval e X.env) :: starEach es X.env := by rfl) (hpl : (backTo pos (starEach es X.env)).any (·.1) = false := by rfl)
    (ht : eval (.Call (.Attribute o nm apos) (e :: es) [] pos) X.env = (do
      let ov ← eval o X.env
      standAt apos.atName
      let (g, first) ← holding [ov] (getMethod ov nm pl)
      callWith pos g first (backTo pos (starEach (e :: es) X.env)) (backToKw pos (keywordEach [] X.env))) := by rfl) : VE X W (.Call (.Attribute o nm apos) (e :: es) [] pos) (mMeth C nm m mo (l.foldr aCons aNil)) :=
  ⟨(pe_methD ho.pe c hm F hr hb (fun σ => passAt tk σ) ha.pa hst hpl ht).weak fun σ H Q ⟨H0, M0, τ, tv, ρ, c, q⟩ => run_meth c q fun es p h => (aLen (l := mo :: l) h).trans hn⟩
theorem ve_meth0 {pl : Sem Bool} (ho : VE X W o mo) (c : Cls X.K C) (hm : Meth X.K C nm f) (F : FnOk X.prog X.w X.K X.mg X.base (L2.CX X.prog X.w) k f fd ps (SpV X.K 1 m)) (hr : Room k X.A) (hb : Binds X.K fd ps []) (tk : Takes X W)
    (ht : eval (.Call (.Attribute o nm apos) [] [] pos) X.env = (do
      let ov ← eval o X.env
      standAt apos.atName
      let (g, first) ← holding [ov] (getMethod ov nm pl)
      callWith pos g first (backTo pos (starEach [] X.env)) (backToKw pos (keywordEach [] X.env))) := by rfl) : VE X W (.Call (.Attribute o nm apos) [] [] pos) (mMeth C nm m mo aNil) := by
  refine ⟨(pe_methD0 ho.pe c hm F hr hb (fun σ => passAt tk σ) ht).weak fun σ H Q ⟨H0, M0, τ, tv, ρ, c, q⟩ => ?_⟩
  refine tV_mono (run_meth c q fun es p h => aLen (l := [mo]) h) fun x H1 ⟨a, dx, fs, e1, e2, e3, r⟩ => ⟨a, dx, fs, e1, e2, e3, tVa_nil1 r⟩
end
end LP
end
section
/-! LP, part Qc: methods that change their object; new objects. -/
namespace LP
open PySem PySem.Spec PyProof.Rows L2

section
variable {K : PySem.W.Frag} {W : WX} {H0 H H' : Hp} {M0 : Bs} {σ : L2.St} {τ : List E} {tv : List V} {ρ : Rho} {s : Sh} {d : D} {v : V} {zn : List Addr}
theorem Cfg.fresh (c : Cfg K H0 M0 H σ τ tv ρ) (sm : Same H H') (hn : ∀ z ∈ zn, H z = none) (hnd : ∀ a, zn.count a ≤ 1) (own : ∀ G, Own K G H' [s] [v] [d] zn) : Cfg K H0 M0 H' σ (τ ++ [.o s d]) (tv ++ [v]) ρ := by
  obtain ⟨⟨zs, l, sl, r, n, f⟩, fr, go⟩ := c
  obtain ⟨za, zb, e1, ra, rb⟩ := r.split l.symm
  have dis : ∀ z ∈ zn, z ∉ zs := fun z hz m => by
    have := r.mine z m
    rw [hn z hz] at this
    exact this
  have sg : Same (hid H zs) (hid H' (za ++ (zn ++ zb))) := fun a o q => by
    obtain ⟨q1, q2⟩ := hid_some q
    rw [hid_out (fun m => ?_)]
    · exact sm a o q2
    · simp only [List.mem_append] at m
      rcases m with m | m | m
      · exact q1 (by rw [e1]; simp [m])
      · rw [hn a m] at q2; cases q2
      · exact q1 (by rw [e1]; simp [m])
  refine ⟨⟨za ++ (zn ++ zb), by simp [l], sl, ?_, fun a => ?_, fun z m => ?_⟩, fun a o h1 h2 => sm a o (fr a o h1 h2), fun a q => go a (sm.free q)⟩
  · have := (ra.grow sg sm).app ((own _).ent.app (rb.grow sg sm))
    simpa using this
  · have h1 := n a
    have h2 := hnd a
    rw [e1, List.count_append] at h1
    simp only [List.count_append]
    by_cases hz : a ∈ zn
    · have h3 : zs.count a = 0 := List.count_eq_zero.mpr (dis a hz)
      rw [e1, List.count_append] at h3
      omega
    · have h3 : zn.count a = 0 := List.count_eq_zero.mpr hz
      omega
  · simp only [List.mem_append] at m
    rcases m with m | m | m
    · exact f z (by rw [e1]; simp [m])
    · exact .inl (go z (hn z m))
    · exact f z (by rw [e1]; simp [m])
/-- an object without fields -/
theorem Cfg.newO {x dx C : Addr} (c : Cfg K H0 M0 H σ τ tv ρ) (hx : H x = none) (hd : H dx = none) (hne : dx ≠ x) :
    Cfg K H0 M0 (upd (upd H dx (.own x)) x (.ins C dx [])) σ (τ ++ [.o (.ob []) (.ob C [] [])]) (tv ++ [.ref x]) ρ := by
  refine c.fresh (zn := [x, dx]) (fun a o q => ?_) (fun z m => ?_) (fun a => ?_) fun G => ?_
  · rw [upd_ne (ne_of_none q hx), upd_ne (ne_of_none q hd)]
    exact q
  · simp only [List.mem_cons, List.not_mem_nil, or_false] at m
    rcases m with m | m
    · rw [m]; exact hx
    · rw [m]; exact hd
  · simp only [List.count_cons, List.count_nil]
    by_cases h1 : x = a
    · have h2 : dx ≠ a := fun q => hne (q.trans h1.symm)
      simp [h1, h2]
    · by_cases h2 : dx = a <;> simp [h1, h2]
  · have h1 : upd (upd H dx (.own x)) x (.ins C dx []) x = some (.ins C dx []) := upd_same
    have h2 : upd (upd H dx (.own x)) x (.ins C dx []) dx = some (.own x) := by rw [upd_ne hne]; exact upd_same
    simpa using Own.ob (ns := []) (us := []) (xs := []) (sf := []) (by simpa using h1) h2 rfl Own.nil Own.nil
end

/-! ### C(..) -/
def isNonE : E → Bool
  | .o _ .non => true
  | _ => false
def mMake (C : Addr) (n : Nat) (m : List E → FO) (ms : Rho → AO) : M := fun ρ => match ms ρ with
  | .ok es p => (match cvt true (true :: List.replicate n false) (.o (.ob []) (.ob C [] []) :: es) with
    | some cs => (match m cs with
      | .rt e (.o s d :: _) => if isNonE e = true then .ok (.o s d) (some ((p.getD ρ).map kill)) else .st
      | .ex C' pl _ => .ex C' pl (some ((p.getD ρ).map kill))
      | _ => .st)
    | none => .st)
  | .ex C' pl p => .ex C' pl p
  | .st => .st
section
variable {K : PySem.W.Frag} {W : WX} {H0 H : Hp} {M0 : Bs} {σ : L2.St} {τ : List E} {tv : List V} {ρ : Rho} {C : Addr} {n : Nat} {m : List E → FO} {ms : Rho → AO}
theorem run_make {Q : VK} (c : Cfg K H0 M0 H σ τ tv ρ) (q : Run K W H0 M0 τ tv σ ρ H Q (mMake C n m ms ρ)) (hn : ∀ es p, ms ρ = .ok es p → es.length = n) :
    tMakeD C (SpV K (n + 1) m) (fun σ cls d H' => W cls d σ H') (tVa K W ms) σ H Q := by
  unfold mMake at q
  refine ⟨H0, M0, τ, tv, ρ, c, ?_⟩
  cases h1 : ms ρ with
  | st => rw [h1] at q; exact q
  | ex C' pl p => rw [h1] at q; exact q
  | ok es p =>
    rw [h1] at q
    intro vs H1 hl c1 s1 x dx hx hd hne
    simp only at q
    have hes := hn es p h1
    have l0 : tv.length = (kp p τ).length := by rw [kp_length]; exact c.len
    have c2 := c1.newO (C := C) hx hd hne
    have c3 : Cfg K H0 M0 (upd (upd H1 dx (.own x)) x (.ins C dx [])) σ (kp p τ ++ (es ++ [.o (.ob []) (.ob C [] [])])) (tv ++ (vs ++ [.ref x])) (p.getD ρ) := by simpa using c2
    have c4 : Cfg K H0 M0 (upd (upd H1 dx (.own x)) x (.ins C dx [])) σ (kp p τ ++ (.o (.ob []) (.ob C [] []) :: es)) (tv ++ (.ref x :: vs)) (p.getD ρ) := c3.swap l0 hl
    cases h2 : cvt true (true :: List.replicate n false) (.o (.ob []) (.ob C [] []) :: es) with
    | none => rw [h2] at q; exact q.elim
    | some cs =>
      rw [h2] at q
      simp only at q
      have hany : (true :: List.replicate n false).any id = true := rfl
      have hvs : (.ref x :: vs).length = n + 1 := by simp [hl, hes]
      rw [List.append_nil]
      refine call_core (mt := true :: List.replicate n false) c4 l0 hvs (by rw [hany]; exact h2) ?_
      rw [hany]
      have hkk : km true (kp p τ) = kp (some ρ) τ := by cases p <;> first | rfl | exact map_kill_kill τ
      have hre : rdEs (true :: List.replicate n false) (.o (.ob []) (.ob C [] []) :: es) = .x :: rdEs (List.replicate n false) es := rfl
      cases h3 : m cs with
      | st => rw [h3] at q; exact q
      | ex C' pl es' =>
        rw [h3] at q
        intro dO H' c5 pay
        rw [hkk] at c5
        have l5 := c5.len
        have l1 : tv.length = (kp (some ρ) τ).length := by rw [kp_length]; exact c.len
        have c6 : Cfg K H0 M0 H' σ (kp (some ρ) τ) tv (km true (p.getD ρ)) := c5.drop (by simp at l5 ⊢; omega)
        exact q dO H' c6 pay
      | rt e es' =>
        rw [h3] at q
        intro v H' ho _ c5
        rw [hkk, hre] at c5
        match es', q with
        | .o s d :: es'', q =>
          simp only at q
          split at q
          rotate_left
          · exact q.elim
          rename_i hne2
          have l1 : tv.length = (kp (some ρ) τ).length := by rw [kp_length]; exact c.len
          have hev : e.rd = some .non := by
            cases e with
            | o s0 d0 => cases d0 <;> first | rfl | (simp [isNonE] at hne2)
            | _ => simp [isNonE] at hne2
          have c6 : Cfg K H0 M0 H' σ ((kp (some ρ) τ ++ mrg (.o s d :: es'') (km true (.x :: rdEs (List.replicate n false) es))) ++ [e]) ((tv ++ (.ref x :: vs)) ++ [v]) (km true (p.getD ρ)) := by simpa using c5
          have hv : v = .non := by
            have := c6.last hev
            cases this
            rfl
          have c7 := c6.drop1
          have hm : mrg (.o s d :: es'') (km true (.x :: rdEs (List.replicate n false) es)) = .o s d :: mrg es'' ((rdEs (List.replicate n false) es).map kill) := rfl
          rw [hm] at c7
          have l7 := c7.len
          have c8 : Cfg K H0 M0 H' σ ((kp (some ρ) τ ++ [.o s d]) ++ mrg es'' ((rdEs (List.replicate n false) es).map kill)) ((tv ++ [.ref x]) ++ vs) (km true (p.getD ρ)) := by simpa using c7
          have c9 := c8.drop (by simp at l7 ⊢; omega)
          exact ⟨hv, q (.ref x) H' c9 fun z => by cases z⟩
        | [], q => exact q.elim
        | .x :: _, q => exact q.elim
        | .b _ :: _, q => exact q.elim
        | .p _ _ :: _, q => exact q.elim
end
section
variable {X : Cx} {W : WX} {k n : Nat} {f C : Addr} {fd : FuncData} {ps : List Str} {m : List E → FO} {x : Str} {p pos : Pos} {e : Expr} {es : List Expr}
theorem ve_make {l : List M} (MK : Mk X.K C f) (F : FnOk X.prog X.w X.K X.mg X.base (L2.CX X.prog X.w) k f fd ps (SpV X.K (n + 1) m)) (hr : Room (k + 1) X.A) (hg : Gl X x) (hm : X.mg x = some (.ref C)) (hb : Binds X.K fd ps []) (tk : Takes X W)
    (ha : VA X W (e :: es) (l.foldr aCons aNil)) (hn : l.length = n := by rfl) (hdb : (x == ("__debug__" : Str)) = false := by decide) (he : starEach (e :: es) X.env = (false, eval e X.env) :: starEach es X.env := by rfl) (hpl : (backTo pos (starEach es X.env)).any (·.1) = false := by rfl) :
    VE X W (.Call (.Name x p) (e :: es) [] pos) (mMake C n m (l.foldr aCons aNil)) :=
  ⟨(pe_makeD MK F hr hg hm hb (fun σ => passAt tk σ) ha.pa hdb he hpl).weak fun σ H Q ⟨H0, M0, τ, tv, ρ, c, q⟩ => run_make c q fun es p h => (aLen h).trans hn⟩
end
end LP
end
section
/-! LP, part Qd: methods that change their object. -/
namespace LP
open PySem PySem.Spec PyProof.Rows L2

/-- the object stands in the slot i -/
def mMethR (C : Addr) (nm : Str) (mt : List Bool) (m : List E → FO) (i : Nat) (as : List Ar) : M := fun ρ => match ρ[i]? with
  | some e => (match e.rd with
    | some d => if isOb C nm d = true ∧ (subO [] e).isSome = true then mCallM mt m (.ref i :: as) ρ else .st
    | none => .st)
  | none => .st
/-- the object is at hand alone -/
def mMethT (C : Addr) (nm : Str) (mt : List Bool) (m : List E → FO) (mo : M) (as : List Ar) : M := fun ρ => match mo ρ with
  | .ok e _ => (match e.rd with
    | some d => if isOb C nm d = true then mCallM mt m (.ev mo :: as) ρ else .st
    | none => .st)
  | .ex C' pl p => .ex C' pl p
  | .st => .st
section
variable {K : PySem.W.Frag} {W : WX} {H0 H : Hp} {M0 : Bs} {σ : L2.St} {τ : List E} {tv : List V} {ρ : Rho} {C : Addr} {nm : Str} {mt : List Bool} {n : Nat} {m : List E → FO} {as : List Ar} {mo : M}
theorem evs_ref {i : Nat} {e : E} (h : ρ[i]? = some e) (hs : (subO [] e).isSome = true) : evs (.ref i :: as) ρ = evs as ρ := by
  cases e with
  | o s d => simp only [evs, h]
  | p s d => simp only [evs, h]
  | x => simp [subO] at hs
  | b d => simp [subO] at hs
theorem run_methR {i : Nat} {Q : VK} (c : Cfg K H0 M0 H σ τ tv ρ) (q : Run K W H0 M0 τ tv σ ρ H Q (mMethR C nm mt m i as ρ)) (hn : as.length + 1 = n) (ha : mt.any id = true) :
    ∃ v, σ[i]? = some (some v) ∧ ∃ a dx fs, v = .ref a ∧ H a = some (.ins C dx fs) ∧ fs.lookup nm = none ∧ tVb K W as σ H fun vs H1 => SpV K n m (v :: (vs ++ [])) H1 Q (fun cls d H' => W cls d σ H') := by
  unfold mMethR at q
  cases h : ρ[i]? with
  | none => rw [h] at q; exact q.elim
  | some e =>
    rw [h] at q
    simp only at q
    cases hd : e.rd with
    | none => rw [hd] at q; exact q.elim
    | some d =>
      rw [hd] at q
      simp only at q
      split at q
      rotate_left
      · exact q.elim
      rename_i hob
      obtain ⟨v, h1, r1, _⟩ := c.slot h hd
      obtain ⟨a, dx, fs, e1, e2, e3⟩ := isOb_v hob.1 r1
      refine ⟨v, h1, a, dx, fs, e1, e2, e3, H0, M0, τ, tv, ρ, c, ?_⟩
      have key := run_callMB (n := n) c q (by simpa using hn) ha
      rw [evs_ref h hob.2] at key
      cases h2 : evs as ρ with
      | st => rw [h2] at key; exact key
      | ex C' pl p => rw [h2] at key; exact key
      | ok es p =>
        rw [h2] at key
        intro us vs H' hl mx c2 s2
        rw [List.append_nil]
        exact key us (v :: vs) H' hl (.ref h1 mx) c2 s2
theorem run_methT {Q : VK} (c : Cfg K H0 M0 H σ τ tv ρ) (q : Run K W H0 M0 τ tv σ ρ H Q (mMethT C nm mt m mo as ρ)) (hn : as.length + 1 = n) (ha : mt.any id = true) :
    tMeth C nm (SpV K n m) [] (fun cls d H' => W cls d σ H') (tV K W mo) (tVb K W as) σ H Q := by
  unfold mMethT at q
  refine ⟨H0, M0, τ, tv, ρ, c, ?_⟩
  cases hm : mo ρ with
  | st => rw [hm] at q; exact q
  | ex C' pl p => rw [hm] at q; exact q
  | ok e p =>
    rw [hm] at q
    simp only at q
    cases hd : e.rd with
    | none => rw [hd] at q; exact q.elim
    | some d =>
      rw [hd] at q
      simp only at q
      split at q
      rotate_left
      · exact q.elim
      rename_i hob
      intro v H1 c1 s1
      obtain ⟨a, dx, fs, e1, e2, e3⟩ := isOb_v hob (c1.last hd)
      refine ⟨a, dx, fs, e1, e2, e3, H0, M0, _, _, _, c1, ?_⟩
      have key := run_callMB (n := n) c q (by simpa using hn) ha
      unfold evs aCons at key
      rw [hm] at key
      simp only at key
      cases h2 : evs as (p.getD ρ) with
      | st => rw [h2] at key; exact key
      | ex C' pl p2 =>
        rw [h2] at key
        exact RunX.seq key
      | ok es p2 =>
        rw [h2] at key
        intro us vs H2 hl mx c2 s2
        rw [List.append_nil]
        refine key (v :: us) (v :: vs) H2 (by simp [hl]) (.ev mx) ?_ (por_same s1 s2)
        rw [kp_app, kp_por, kp_one, getD_por, List.append_assoc, List.append_assoc] at c2
        exact c2
end
section
variable {X : Cx} {W : WX} {k n : Nat} {f C : Addr} {fd : FuncData} {ps : List Str} {m : List E → FO} {x nm : Str} {p pos apos : Pos} {e o : Expr} {es : List Expr} {mo : M} {mt : List Bool} {as : List Ar}
theorem tVb_nil {R : List V → Hp → Prop} {K : PySem.W.Frag} {σ : L2.St} {H : Hp} (h : tVb K W [] σ H R) : R [] H := by
  obtain ⟨H0, M0, τ, tv, ρ, c, r⟩ := h
  exact r [] [] H rfl .nil (by simpa [kp] using c) fun _ => Same.refl _
theorem ve_methR {i : Nat} {pl : Sem Bool} (hN : X.N[i]? = some x) (hv : Vis X.env.scope x) (c : Cls X.K C) (hm : Meth X.K C nm f) (F : FnOk X.prog X.w X.K X.mg X.base (L2.CX X.prog X.w) k f fd ps (SpV X.K n m)) (hr : Room k X.A) (hb : Binds X.K fd ps []) (tk : Takes X W)
    (ha : VR X W (e :: es) as) (hn : as.length + 1 = n := by rfl) (hmt : mt.any id = true := by rfl) (hd : (x == ("__debug__" : Str)) = false := by decide) (hcd : (x == ("__classdict__" : Str)) = false := by decide)
    (hst : starEach (e :: es) X.env = (false, eval e X.env) :: starEach es X.env := by rfl) (hpl : (backTo pos (starEach es X.env)).any (·.1) = false := by rfl)
    (ht : eval (.Call (.Attribute (.Name x p) nm apos) (e :: es) [] pos) X.env = (do
      let ov ← eval (.Name x p) X.env
      standAt apos.atName
      let (g, first) ← holding [ov] (getMethod ov nm pl)
      callWith pos g first (backTo pos (starEach (e :: es) X.env)) (backToKw pos (keywordEach [] X.env))) := by rfl) : VE X W (.Call (.Attribute (.Name x p) nm apos) (e :: es) [] pos) (mMethR C nm mt m i as) :=
  ⟨(pe_methD (pe_var hN hv hd hcd) c hm F hr hb (fun σ => passAt tk σ) ha.pa hst hpl ht).weak fun σ H Q ⟨H0, M0, τ, tv, ρ, c, q⟩ => run_methR c q hn hmt⟩
theorem ve_methR0 {i : Nat} {pl : Sem Bool} (hN : X.N[i]? = some x) (hv : Vis X.env.scope x) (c : Cls X.K C) (hm : Meth X.K C nm f) (F : FnOk X.prog X.w X.K X.mg X.base (L2.CX X.prog X.w) k f fd ps (SpV X.K 1 m)) (hr : Room k X.A) (hb : Binds X.K fd ps []) (tk : Takes X W)
    (hmt : mt.any id = true := by rfl) (hd : (x == ("__debug__" : Str)) = false := by decide) (hcd : (x == ("__classdict__" : Str)) = false := by decide)
    (ht : eval (.Call (.Attribute (.Name x p) nm apos) [] [] pos) X.env = (do
      let ov ← eval (.Name x p) X.env
      standAt apos.atName
      let (g, first) ← holding [ov] (getMethod ov nm pl)
      callWith pos g first (backTo pos (starEach [] X.env)) (backToKw pos (keywordEach [] X.env))) := by rfl) : VE X W (.Call (.Attribute (.Name x p) nm apos) [] [] pos) (mMethR C nm mt m i []) := by
  refine ⟨(pe_methD0 (pe_var hN hv hd hcd) c hm F hr hb (fun σ => passAt tk σ) ht).weak fun σ H Q ⟨H0, M0, τ, tv, ρ, c, q⟩ => ?_⟩
  obtain ⟨v, h1, a, dx, fs, e1, e2, e3, r⟩ := run_methR (n := 1) c q rfl hmt
  exact ⟨v, h1, a, dx, fs, e1, e2, e3, tVb_nil r⟩
theorem ve_methT {pl : Sem Bool} (ho : VE X W o mo) (c : Cls X.K C) (hm : Meth X.K C nm f) (F : FnOk X.prog X.w X.K X.mg X.base (L2.CX X.prog X.w) k f fd ps (SpV X.K n m)) (hr : Room k X.A) (hb : Binds X.K fd ps []) (tk : Takes X W)
    (ha : VR X W (e :: es) as) (hn : as.length + 1 = n := by rfl) (hmt : mt.any id = true := by rfl) (hst : starEach (e :: es) X.env = (false, eval e X.env) :: starEach es X.env := by rfl) (hpl : (backTo pos (starEach es X.env)).any (·.1) = false := by rfl)
    (ht : eval (.Call (.Attribute o nm apos) (e :: es) [] pos) X.env = (do
      let ov ← eval o X.env
      standAt apos.atName
      let (g, first) ← holding [ov] (getMethod ov nm pl)
      callWith pos g first (backTo pos (starEach (e :: es) X.env)) (backToKw pos (keywordEach [] X.env))) := by rfl) : VE X W (.Call (.Attribute o nm apos) (e :: es) [] pos) (mMethT C nm mt m mo as) :=
  ⟨(pe_methD ho.pe c hm F hr hb (fun σ => passAt tk σ) ha.pa hst hpl ht).weak fun σ H Q ⟨H0, M0, τ, tv, ρ, c, q⟩ => run_methT c q hn hmt⟩
theorem ve_methT0 {pl : Sem Bool} (ho : VE X W o mo) (c : Cls X.K C) (hm : Meth X.K C nm f) (F : FnOk X.prog X.w X.K X.mg X.base (L2.CX X.prog X.w) k f fd ps (SpV X.K 1 m)) (hr : Room k X.A) (hb : Binds X.K fd ps []) (tk : Takes X W) (hmt : mt.any id = true := by rfl)
    (ht : eval (.Call (.Attribute o nm apos) [] [] pos) X.env = (do
      let ov ← eval o X.env
      standAt apos.atName
      let (g, first) ← holding [ov] (getMethod ov nm pl)
      callWith pos g first (backTo pos (starEach [] X.env)) (backToKw pos (keywordEach [] X.env))) := by rfl) : VE X W (.Call (.Attribute o nm apos) [] [] pos) (mMethT C nm mt m mo []) := by
  refine ⟨(pe_methD0 ho.pe c hm F hr hb (fun σ => passAt tk σ) ht).weak fun σ H Q ⟨H0, M0, τ, tv, ρ, c, q⟩ => ?_⟩
  exact tV_mono (run_methT (n := 1) c q rfl hmt) fun x H1 ⟨a, dx, fs, e1, e2, e3, r⟩ => ⟨a, dx, fs, e1, e2, e3, tVb_nil r⟩
end
end LP
end
section
/-! LP, part Qe: dicts with int and text keys. -/
namespace LP
open PySem PySem.Spec PyProof.Rows L2

def keyD : D → Option Key
  | .int i => some (.inl i)
  | .str x => some (.inr x)
  | _ => none
theorem keyD_v {K : PySem.W.Frag} {H : Hp} {v : V} {d : D} {k : Key} (r : Rp K H [v] [d]) (h : keyD d = some k) : v = kV k := by
  cases r with
  | int i _ => cases h; rfl
  | str x _ => cases h; rfl
  | _ => cases h
/-- in its place, or at the end -/
def putG {α : Type} (kvs : List (Key × α)) (k : Key) (v : α) : List (Key × α) := if (kvs.any fun kv => decide (kv.1 = k)) = true then kvs.map (fun kv => if kv.1 = k then (kv.1, v) else kv) else kvs ++ [(k, v)]
def getG {α : Type} (kvs : List (Key × α)) (k : Key) : Option α := (kvs.find? fun kv => decide (kv.1 = k)).map (·.2)
def mergeG {α : Type} (kvs more : List (Key × α)) : List (Key × α) := more.foldl (fun acc kv => putG acc kv.1 kv.2) kvs
/-- two dicts, key by key -/
def RpK (K : PySem.W.Frag) (G : Hp) (a : List (Key × V)) (b : List (Key × D)) : Prop := a.map (·.1) = b.map (·.1) ∧ Rp K G (a.map (·.2)) (b.map (·.2))
section
variable {K : PySem.W.Frag} {G : Hp}
theorem RpK.nil : RpK K G [] [] := ⟨rfl, .nil⟩
theorem RpK.cons {k : Key} {v : V} {d : D} {a b} (h : Rp K G [v] [d]) (r : RpK K G a b) : RpK K G ((k, v) :: a) ((k, d) :: b) := ⟨congrArg (k :: ·) r.1, h.cons1 r.2⟩
theorem RpK.un : ∀ {a : List (Key × V)} {b : List (Key × D)}, RpK K G a b → (a = [] ∧ b = []) ∨ ∃ k v d a' b', a = (k, v) :: a' ∧ b = (k, d) :: b' ∧ Rp K G [v] [d] ∧ RpK K G a' b'
  | [], [], _ => .inl ⟨rfl, rfl⟩
  | [], _ :: _, r => by have := r.1; simp at this
  | _ :: _, [], r => by have := r.1; simp at this
  | (k, v) :: a, (k', d) :: b, r => by
    have h1 := r.1
    simp only [List.map_cons, List.cons.injEq] at h1
    obtain ⟨e, e2⟩ := h1
    subst e
    exact .inr ⟨k, v, d, a, b, rfl, rfl, r.2.uncons.1, e2, r.2.uncons.2⟩
theorem RpK.any (k : Key) : ∀ {a : List (Key × V)} {b : List (Key × D)}, RpK K G a b → (a.any fun kv => decide (kv.1 = k)) = b.any fun kv => decide (kv.1 = k) := by
  intro a
  induction a with
  | nil =>
    intro b r
    rcases r.un with ⟨_, e⟩ | ⟨_, _, _, _, _, e, _⟩
    · rw [e]; rfl
    · cases e
  | cons p a ih =>
    intro b r
    rcases r.un with ⟨e, _⟩ | ⟨k', v, d, a', b', e1, e2, h, r'⟩
    · cases e
    · cases e1
      subst e2
      simp only [List.any_cons]
      rw [ih r']
theorem RpK.app {a a2 : List (Key × V)} {b b2 : List (Key × D)} (r : RpK K G a b) (s : RpK K G a2 b2) : RpK K G (a ++ a2) (b ++ b2) := by
  refine ⟨?_, ?_⟩
  · rw [List.map_append, List.map_append, r.1, s.1]
  · rw [List.map_append, List.map_append]
    exact r.2.app s.2
theorem RpK.map (k : Key) {v : V} {d : D} (hv : Rp K G [v] [d]) : ∀ {a : List (Key × V)} {b : List (Key × D)}, RpK K G a b → RpK K G (a.map fun kv => if kv.1 = k then (kv.1, v) else kv) (b.map fun kv => if kv.1 = k then (kv.1, d) else kv) := by
  intro a
  induction a with
  | nil =>
    intro b r
    rcases r.un with ⟨_, e⟩ | ⟨_, _, _, _, _, e, _⟩
    · rw [e]; exact .nil
    · cases e
  | cons p a ih =>
    intro b r
    rcases r.un with ⟨e, _⟩ | ⟨k', w, d', a', b', e1, e2, h, r'⟩
    · cases e
    · cases e1
      subst e2
      simp only [List.map_cons]
      by_cases hk : k' = k
      · rw [if_pos hk, if_pos hk]; exact .cons hv (ih r')
      · rw [if_neg hk, if_neg hk]; exact .cons h (ih r')
theorem RpK.put {k : Key} {v : V} {d : D} {a : List (Key × V)} {b : List (Key × D)} (r : RpK K G a b) (hv : Rp K G [v] [d]) : RpK K G (putK a k v) (putG b k d) := by
  unfold putK putG
  rw [r.any k]
  split
  · exact r.map k hv
  · exact r.app (.cons hv .nil)
theorem RpK.merge : ∀ {m : List (Key × V)} {n : List (Key × D)} {a : List (Key × V)} {b : List (Key × D)}, RpK K G m n → RpK K G a b → RpK K G (mergeK a m) (mergeG b n) := by
  intro m
  induction m with
  | nil =>
    intro n a b r s
    rcases r.un with ⟨_, e⟩ | ⟨_, _, _, _, _, e, _⟩
    · rw [e]; exact s
    · cases e
  | cons p m ih =>
    intro n a b r s
    rcases r.un with ⟨e, _⟩ | ⟨k', w, d', a', b', e1, e2, h, r'⟩
    · cases e
    · cases e1
      subst e2
      have q := ih r' (s.put (k := k') h)
      exact q
theorem RpK.get (k : Key) : ∀ {a : List (Key × V)} {b : List (Key × D)}, RpK K G a b → (∀ d, getG b k = some d → ∃ v, valV a k = some v ∧ Rp K G [v] [d]) ∧ (getG b k = none → valV a k = none) := by
  intro a
  induction a with
  | nil =>
    intro b r
    rcases r.un with ⟨_, e⟩ | ⟨_, _, _, _, _, e, _⟩
    · subst e
      exact ⟨fun d h => by simp [getG] at h, fun _ => rfl⟩
    · cases e
  | cons p a ih =>
    intro b r
    rcases r.un with ⟨e, _⟩ | ⟨k', w, d', a', b', e1, e2, h, r'⟩
    · cases e
    · cases e1
      subst e2
      by_cases hk : k' = k
      · refine ⟨fun d hd => ⟨w, valV_pos hk, ?_⟩, fun hd => ?_⟩
        · simp [getG, List.find?_cons, hk] at hd
          subst hd
          exact h
        · simp [getG, List.find?_cons, hk] at hd
      · obtain ⟨i1, i2⟩ := ih r'
        refine ⟨fun d hd => ?_, fun hd => ?_⟩
        · have : getG b' k = some d := by simpa [getG, List.find?_cons, hk] using hd
          obtain ⟨v, h1, h2⟩ := i1 d this
          exact ⟨v, by rw [valV_neg hk]; exact h1, h2⟩
        · have : getG b' k = none := by simpa [getG, List.find?_cons, hk] using hd
          rw [valV_neg hk]
          exact i2 this
theorem RpK.of {ks : List Key} {us : List V} {xs : List D} (hl : ks.length = us.length) (r : Rp K G us xs) : RpK K G (ks.zip us) (ks.zip xs) := by
  have := r.length
  exact ⟨by rw [List.map_fst_zip (by omega), List.map_fst_zip (by omega)], by rw [List.map_snd_zip (by omega), List.map_snd_zip (by omega)]; exact r⟩
end
/-- a dict of pairs -/
def dkD (kvs : List (Key × D)) : D := .dk (kvs.map (·.1)) (kvs.map (·.2))
theorem zip_un {α β : Type} (l : List (α × β)) : (l.map (·.1)).zip (l.map (·.2)) = l := by
  induction l with
  | nil => rfl
  | cons p l ih => simp [ih]
theorem RpK.rp {K : PySem.W.Frag} {G : Hp} {a : Addr} {kvs : List (Key × V)} {ds : List (Key × D)} (h : G a = some (.dK kvs)) (r : RpK K G kvs ds) : Rp K G [.ref a] [dkD ds] := by
  refine .dk (us := kvs.map (·.2)) ?_ ?_ r.2 .nil
  · rw [← r.1, zip_un]; exact h
  · rw [← r.1]; simp
theorem own_dk {K : PySem.W.Frag} {G H : Hp} {a : Addr} {kvs : List (Key × V)} {ds : List (Key × D)} (h : H a = some (.dK kvs)) (r : RpK K G kvs ds) : Own K G H [.dk .v] [.ref a] [dkD ds] [a] := by
  have := Own.dk (K := K) (G := G) (H := H) (a := a) (s := .v) (ks := ds.map (·.1)) (us := kvs.map (·.2)) (xs := ds.map (·.2)) (by rw [← r.1, zip_un]; exact h) (by rw [← r.1]; simp) (vOwn r.2) Own.nil
  simpa [dkD] using this
/-! ### reading -/
def gDin (neg : Bool) (d e : D) : Option D := match e with
  | .dk ks xs => (match keyD d with | some k => some (.bl (if neg = true then !(getG (ks.zip xs) k).isSome else (getG (ks.zip xs) k).isSome)) | none => none)
  | _ => none
section
variable {X : Cx}
theorem op_din (hu : X.A.units + 1 < cLine) : OpR X (compareOp .In) (fun x y H Q => ∃ a o, y = .ref a ∧ DGet H a x o ∧ Q (.bl o.isSome) H) := by
  intro pins s σ H x y v u Q I rx ry h
  obtain ⟨a, o, rfl, g, q⟩ := h
  obtain rfl : u = Value.ref a := ry
  exact d_in hu I g rx fun s' I' => ⟨.bl _, H, I', rfl, q⟩
theorem op_dnotin (hu : X.A.units + 1 < cLine) : OpR X (compareOp .NotIn) (fun x y H Q => ∃ a o, y = .ref a ∧ DGet H a x o ∧ Q (.bl (!o.isSome)) H) := by
  intro pins s σ H x y v u Q I rx ry h
  obtain ⟨a, o, rfl, g, q⟩ := h
  obtain rfl : u = Value.ref a := ry
  exact d_notIn hu I g rx fun s' I' => ⟨.bl _, H, I', rfl, q⟩
theorem dk_get {K : PySem.W.Frag} {H : Hp} {v : V} {ks : List Key} {xs : List D} (r : Rp K H [v] [.dk ks xs]) (k : Key) : ∃ a o, v = .ref a ∧ DGet H a (kV k) o ∧ o.isSome = (getG (ks.zip xs) k).isSome ∧ ∀ d, getG (ks.zip xs) k = some d → ∃ w, o = some w ∧ Rp K H [w] [d] := by
  cases r with
  | dk h hl ru _ =>
    obtain ⟨i1, i2⟩ := (RpK.of hl ru).get k
    refine ⟨_, _, rfl, .k h, ?_, fun d hd => ?_⟩
    · cases hg : getG (ks.zip xs) k with
      | none => rw [i2 hg]; rfl
      | some d => obtain ⟨w, e, _⟩ := i1 d hg; rw [e]; rfl
    · obtain ⟨w, e, rw'⟩ := i1 d hd
      exact ⟨w, e, rw'⟩
theorem p2_din {K : PySem.W.Frag} : Pure2 K (fun x y H Q => ∃ a o, y = .ref a ∧ DGet H a x o ∧ Q (.bl o.isSome) H) (gDin false) := by
  intro H x y d1 d2 d Q r1 r2 h q
  unfold gDin at h
  split at h
  rotate_left
  · cases h
  cases hk : keyD d1 with
  | none => rw [hk] at h; cases h
  | some k =>
    rw [hk] at h
    cases h
    obtain ⟨a, o, e, g, e2, _⟩ := dk_get r2 k
    rw [keyD_v r1 hk]
    refine ⟨a, o, e, g, q _ ?_ rfl⟩
    rw [e2]
    exact .bl _ .nil
theorem p2_dnotin {K : PySem.W.Frag} : Pure2 K (fun x y H Q => ∃ a o, y = .ref a ∧ DGet H a x o ∧ Q (.bl (!o.isSome)) H) (gDin true) := by
  intro H x y d1 d2 d Q r1 r2 h q
  unfold gDin at h
  split at h
  rotate_left
  · cases h
  cases hk : keyD d1 with
  | none => rw [hk] at h; cases h
  | some k =>
    rw [hk] at h
    cases h
    obtain ⟨a, o, e, g, e2, _⟩ := dk_get r2 k
    rw [keyD_v r1 hk]
    refine ⟨a, o, e, g, q _ ?_ rfl⟩
    rw [e2]
    exact .bl _ .nil
/-- d[k] read -/
theorem ix_dict (hu : X.A.units + 1 < cLine) : IxR X (fun x y H Q => ∃ a w, x = .ref a ∧ DGet H a y (some w) ∧ Q w H) := by
  intro value slice pins s σ H x y v u Q I rx ry h hs
  obtain ⟨a, w, rfl, g, q⟩ := h
  obtain rfl : v = Value.ref a := rx
  exact tail_any (dict_typeIs I g) PySem.F.slot_dict_getitem.lookup (d_getItem hu I g ry fun w' s' I' r' => ⟨w, H, I', r', q⟩) hs
def fDix (es : List E) : Option Rs := match es with
  | [e1, e2] => (match e1.rd, e2.rd.bind keyD with
    | some (.dk ks xs), some k => (match getG (ks.zip xs) k with | some d => some (fromE e1 d) | none => none)
    | _, _ => none)
  | _ => none
theorem hid_dk {K : PySem.W.Frag} {H : Hp} {zs : List Addr} {v w : V} {ks : List Key} {xs : List D} {d : D} {k : Key} {a : Addr} (r1 : Rp K H [v] [.dk ks xs]) (r2 : Rp K (hid H zs) [v] [.dk ks xs]) (hd : getG (ks.zip xs) k = some d) (e : v = .ref a) (g : DGet H a (kV k) (some w)) : Rp K (hid H zs) [w] [d] := by
  cases r2 with
  | @dk a' _ us _ _ _ h hl ru _ =>
    cases e
    obtain ⟨i1, _⟩ := (RpK.of hl ru).get k
    obtain ⟨w', e1, r'⟩ := i1 d hd
    have hH : H a = some (.dK (ks.zip us)) := hid_sub _ _ _ _ h
    have : w = w' := by
      rcases g with ⟨kvs, k', h1, h2, h3⟩ | ⟨kvs, k', b, h1, h2, _⟩
      · have ek := kV_inj h2
        subst ek
        rcases h1 with h1 | ⟨o, h1⟩
        · rw [hH] at h1
          cases h1
          rw [e1] at h3
          cases h3
          rfl
        · rw [hH] at h1; cases h1
      · cases k <;> cases h2
    rw [this]
    exact r'
theorem pf_dix {K : PySem.W.Frag} : PureF K (r2L fun x y H Q => ∃ a w, x = .ref a ∧ DGet H a y (some w) ∧ Q w H) fDix := by
  intro H zs es us R Q hm fl h dl
  unfold fDix at h
  split at h
  rotate_left
  · cases h
  rename_i e1 e2
  split at h
  rotate_left
  · cases h
  rename_i ks xs k h1 h2
  cases h3 : getG (ks.zip xs) k with
  | none => rw [h3] at h; cases h
  | some d =>
    rw [h3] at h
    cases h
    cases hk : e2.rd with
    | none => rw [hk] at h2; cases h2
    | some dk =>
      rw [hk] at h2
      obtain ⟨v, us', rfl, r1, r1', f1⟩ := fl.head h1
      obtain ⟨y, us'', rfl, r2, f2⟩ := f1.rd1 hk
      have := f2.one
      subst this
      obtain ⟨a, o, e, g, _, q⟩ := dk_get r1 k
      obtain ⟨w, e3, rw'⟩ := q d h3
      subst e3
      rw [keyD_v r2 h2]
      exact ⟨_, _, rfl, a, w, e, g, fromE_deliver dl rw' fun z => hid_dk r1 (r1' z) h3 e g⟩
end
section
variable {X : Cx} {W : WX} {a b o e : Expr} {ma mb m : M} {P : Path} {pos apos cpos : Pos} {k : Nat}
theorem hu1 (hr : Room k X.A) : X.A.units + 1 < cLine := by have := hr.un; omega
theorem ve_din (hr : Room k X.A) (ha : VE X W a ma) (hb : VE X W b mb) (hm : behindInMarks .In b = false := by with_unfolding_all rfl) : VE X W (.Compare a [.In] [b] pos) (mOp (gDin false) ma mb) := ve_cmp (op_din (hu1 hr)) p2_din ha hb hm
theorem vt_din (hr : Room k X.A) (ha : VE X W a ma) (hb : VE X W b mb) (hm : behindInMarks .In b = false := by with_unfolding_all rfl) : VT X W (.Compare a [.In] [b] pos) (mOp (gDin false) ma mb) := vt_cmp (op_din (hu1 hr)) p2_din ha hb hm
theorem ve_dnotin (hr : Room k X.A) (ha : VE X W a ma) (hb : VE X W b mb) (hm : behindInMarks .NotIn b = false := by with_unfolding_all rfl) : VE X W (.Compare a [.NotIn] [b] pos) (mOp (gDin true) ma mb) := ve_cmp (op_dnotin (hu1 hr)) p2_dnotin ha hb hm
theorem vt_dnotin (hr : Room k X.A) (ha : VE X W a ma) (hb : VE X W b mb) (hm : behindInMarks .NotIn b = false := by with_unfolding_all rfl) : VT X W (.Compare a [.NotIn] [b] pos) (mOp (gDin true) ma mb) := vt_cmp (op_dnotin (hu1 hr)) p2_dnotin ha hb hm
theorem ve_dix (hr : Room k X.A) (ha : VE X W a ma) (hb : VE X W b mb) (hs : PlainIx b := by exact fun _ _ => rfl) : VE X W (.Subscript a b pos) (mF fDix (a2 ma mb)) := ve_ixF pf_dix (ix_dict (hu1 hr)) ha hb hs
/-- {} -/
def mDnew : M := fun _ => .ok (.o (.dk .v) (.dk [] [])) none
theorem ve_dnew : VE X W (.Dict [] [] pos) mDnew := by
  refine ⟨pe_dnewK.weak fun σ H Q ⟨H0, M0, τ, tv, ρ, c, q⟩ => fun p hp => ?_⟩
  refine q (.ref p) _ (c.fresh (zn := [p]) (same_new hp) (fun z m => by rw [List.mem_singleton.mp m]; exact hp) (fun a => ?_) fun G => ?_) fun _ => same_new hp
  · simp only [List.count_cons, List.count_nil]
    split <;> omega
  · exact own_dk (ds := []) upd_same .nil
/-- d.update(e) -/
def rUpd : V → List V → Hp → VK → Prop := fun x xs H Q => ∃ d o kvs more, x = .ref d ∧ xs = [.ref o] ∧ d ≠ o ∧ H d = some (.dK kvs) ∧ H o = some (.dK more) ∧ kvs.length + more.length ≤ sizeLine ∧ Q .non (upd H d (.dK (mergeK kvs more)))
theorem mt_update : MtR X "dict.update" rUpd := by
  intro pins s σ H x xs v us Q I rx rv h
  obtain ⟨d, o, kvs, more, rfl, rfl, hne, hd, ho, hz, q⟩ := h
  obtain rfl : v = Value.ref d := rx
  obtain ⟨u, rfl, ru⟩ := rv.one
  obtain rfl : u = Value.ref o := ru
  obtain ⟨z, hs, vs, rel, dd⟩ := dk_of I.hok hd
  obtain ⟨z2, hs2, ws, rel2, dd2⟩ := dk_of I.hok ho
  refine call_meetsIn PySem.F.slot_dict_update dd.typeIs PySem.F.entry_dict_update (PySem.F.args_dict_update_2 _ _) (meets_dict_update (mixKind X.prog X.w) d o hne hs2) ⟨vs, ws, dd, dd2, by rw [← rel.length, ← rel2.length]; exact hz, fun h' d1 _ sb => ?_⟩
  have he : ∃ q, h'.get? d = some q := let ⟨q, _, _, hq, _⟩ := d1; ⟨q, hq⟩
  exact ⟨.non, _, d_write (t' := s.toks) I (by rw [hd]; trivial) sb he (dk_new (Nat.le_trans (length_mergeK _ _) hz) hs (KV.merge rel2 rel) d1), rfl, q⟩
def fUpd : Sh → D → E → Option (D × E)
  | .dk .v, .dk ks xs, .o .v (.dk ks2 xs2) => if xs.length + xs2.length ≤ 16777216 then some (dkD (mergeG (ks.zip xs) (ks2.zip xs2)), .o .v .non) else none
  | _, _, _ => none
theorem mu_update {K : PySem.W.Frag} : MutR K rUpd fUpd := by
  intro H G v' y zm ze s1 d1 n e res Q own ent cnt sg hz h q
  unfold fUpd at h
  split at h
  rotate_left
  · cases h
  rename_i ks xs ks2 xs2
  split at h
  rotate_left
  · cases h
  rename_i hc
  cases h
  cases own with
  | @dk a _ _ us _ z1 _ _ _ z2 ha hl inner rest =>
    cases rest
    obtain ⟨e0, rp⟩ := own_v inner
    subst e0
    obtain ⟨_, ry⟩ := ent.o1.v0
    cases ry with
    | @dk b _ ws _ _ _ hb hl2 rws _ =>
      have hbH := sg _ _ hb
      have l1 := rp.length
      have l2 := rws.length
      have hne : a ≠ b := by
        intro e1
        subst e1
        have := hz a (by simp)
        rw [hb] at this
        cases this
      have r := RpK.merge (RpK.of hl2 rws) (RpK.of hl rp)
      refine ⟨a, b, _, _, rfl, rfl, hne, ha, hbH, by rw [List.length_zip, List.length_zip, sizeLine_eq]; omega, q _ .non [a] [] (own_dk upd_same r) non_ent (fun c => ?_) (upd_frame (by simp)) upd_gone⟩
      simp only [List.count_append, List.count_cons, List.count_nil]
      omega
theorem ve_update (ho : VP X o P) (he : VE X W e m) (hbase : attributeBase o "update" X.env (eval o X.env) = eval o X.env := by rfl)
    (hfew : ((backTo cpos (starEach [e] X.env)).all (fun x => !x.1) && (backToKw cpos (keywordEach [] X.env)).all (fun x => x.1.isSome) && decide (([e] : List Expr).length + ([] : List Keyword).length + (if ([] : List Keyword).isEmpty then 0 else 1) < 30)) = true := by rfl)
    (hline : (apos.endLine == cpos.line) = true := by rfl) (hs : starEach [e] X.env = (false, eval e X.env) :: starEach [] X.env := by rfl) : VE X W (.Call (.Attribute o "update" apos) [e] [] cpos) (mMut "dict" kFz fUpd P m) :=
  ⟨(pe_bm PySem.F.plainAttrs_dict PySem.F.slot_dict_update PySem.F.type_dict_update mt_update ho.pe (va_cons he va_nil hs).pa hbase hfew hline hs).weak fun σ H Q ⟨H0, M0, τ, tv, ρ, c, q⟩ => run_mut mu_update c q⟩
end
end LP
end
section
/-! LP, part Qf: dict comprehensions. -/
namespace LP
open PySem PySem.Spec PyProof.Rows L2

section
variable {K : PySem.W.Frag} {W : WX} {H0 H : Hp} {M0 : Bs} {σ : L2.St} {τ es : List E} {tv us : List V} {ρ : Rho} {s : Sh} {d : D} {v : V}
/-- an owned temp changes -/
theorem Cfg.tempFocus (c : Cfg K H0 M0 H σ ((τ ++ [.o s d]) ++ es) ((tv ++ [v]) ++ us) ρ) (hl : us.length = es.length) :
    ∃ G zm ze, Own K G H [s] [v] [d] zm ∧ Ents K G H es us ze ∧ (∀ a, zm.count a + ze.count a ≤ 1) ∧ Same G H ∧ (∀ z ∈ zm, G z = none) ∧
      ∀ (H' : Hp) (s2 : Sh) (n : D) (zm' : List Addr), Own K G H' [s2] [v] [n] zm' → (∀ a, zm'.count a ≤ zm.count a + ze.count a + (if H a = none then 1 else 0)) → (∀ a o, H a = some o → a ∉ zm → H' a = some o) → (∀ a, H' a = none → H a = none) →
        Cfg K H0 M0 H' σ (τ.map kill ++ [.o s2 n]) (tv ++ [v]) (ρ.map kill) := by
  have hk := c.killT
  obtain ⟨zsk, _, slk, _⟩ := hk.ex
  obtain ⟨⟨zs, l, sl, r, n, f⟩, fr, go⟩ := c
  have l' : tv.length = τ.length := by simp at l; omega
  rw [List.append_assoc, List.append_assoc, List.append_assoc, List.append_assoc] at r
  obtain ⟨za, zb, e1, ra, rb⟩ := r.split l'.symm
  obtain ⟨zm, zc, e2, rm, rc⟩ := rb.split (e1 := [.o s d]) (v1 := [v]) rfl
  obtain ⟨ze, zr, e3, re, rr⟩ := rc.split hl.symm
  have cnt : ∀ a, zs.count a = za.count a + (zm.count a + (ze.count a + zr.count a)) := fun a => by
    rw [e1, e2, e3]
    simp only [List.count_append]
  refine ⟨hid H zs, zm, ze, rm.o1, re, fun a => ?_, hid_sub _ _, fun z m => hid_in (by rw [e1, e2]; simp [m]), fun H' s2 nd zm' hown hcnt hfr hgo => ?_⟩
  · have h2 := n a
    have h3 := cnt a
    omega
  · have zz : ∃ zs', zs' = za ++ (zm' ++ zr) := ⟨_, rfl⟩
    obtain ⟨zs', ez⟩ := zz
    have cnt' : ∀ a, zs'.count a = za.count a + (zm'.count a + zr.count a) := fun a => by
      rw [ez]
      simp only [List.count_append]
    have sub : ∀ a, zs'.count a ≤ zs.count a + (if H a = none then 1 else 0) := fun a => by
      have h2 := cnt a
      have h3 := cnt' a
      have h4 := hcnt a
      omega
    have zin : ∀ a, H a = none → zs.count a = 0 := fun a ha => by
      refine List.count_eq_zero.mpr fun m => ?_
      have := r.mine a m
      rw [ha] at this
      exact this
    have mem : ∀ a, a ∈ zs' → a ∈ zs ∨ H a = none := fun a m => by
      have h2 := List.count_pos_iff.mpr m
      have h3 := sub a
      by_cases ha : H a = none
      · exact .inr ha
      · left
        rw [if_neg ha] at h3
        exact List.count_pos_iff.mp (by omega)
    have ne : ∀ (ws : List Addr), (∀ a, ws.count a + zm.count a ≤ zs.count a) → ∀ z ∈ ws, ∀ o, H z = some o → H' z = some o := fun ws h z hz o q => by
      refine hfr z o q fun m => ?_
      have h2 := h z
      have h3 := n z
      have h4 := List.count_pos_iff.mpr hz
      have h5 := List.count_pos_iff.mpr m
      omega
    have sg : Same (hid H zs) (hid H' zs') := fun a o q => by
      obtain ⟨q5, q6⟩ := hid_some q
      rw [hid_out (fun m => ?_)]
      · exact hfr a o q6 fun m => q5 (List.count_pos_iff.mp (by have := cnt a; have := List.count_pos_iff.mpr m; omega))
      · rcases mem a m with z | z
        · exact q5 z
        · rw [z] at q6; cases q6
    have a1 := ra.step sg (ne za fun a => by have := cnt a; omega)
    have a2 := hown.step sg fun _ _ _ q => q
    have a3 := rr.step sg (ne zr fun a => by have := cnt a; omega)
    have fin := a1.app (a2.ent.app a3)
    refine Cfg.re (zs := zs') (zs' := zs') (fun a => ?_) (fun z m => ?_) (fun a o g1 g2 => ?_) (fun a g => go a (hgo a g)) (by simp; omega) slk (by rw [← ez] at fin; simpa using fin) fun a => Nat.le_refl _
    · have h2 := sub a
      have h3 := n a
      by_cases ha : H a = none
      · have := zin a ha
        rw [if_pos ha] at h2
        omega
      · rw [if_neg ha] at h2
        omega
    · rcases mem z m with q | q
      · exact f z q
      · exact .inl (go z q)
    · have g3 := fr a o g1 g2
      refine hfr a o g3 fun m => ?_
      have hz : a ∈ zs := List.count_pos_iff.mp (by have := cnt a; have := List.count_pos_iff.mpr m; omega)
      rcases f a hz with g | g
      · rw [g1] at g; cases g
      · exact g2 g
/-- a key and a value go into the dict at hand -/
theorem Cfg.putD {kvs0 : List (Key × D)} {dz : D} {z : V} {Da : Addr} {k : Key} (c : Cfg K H0 M0 H σ ((τ ++ [.o (.dk .v) (dkD kvs0)]) ++ [.o .v dz]) ((tv ++ [.ref Da]) ++ [z]) ρ) :
    ∃ kvs, H Da = some (.dK kvs) ∧ kvs.length = kvs0.length ∧ Cfg K H0 M0 (upd H Da (.dK (putK kvs k z))) σ (τ.map kill ++ [.o (.dk .v) (dkD (putG kvs0 k dz))]) (tv ++ [.ref Da]) (ρ.map kill) := by
  obtain ⟨G, zm, ze, own, ent, f5, sg, hz, f8⟩ := c.tempFocus rfl
  obtain ⟨_, rz⟩ := ent.o1.v0
  unfold dkD at own
  cases own with
  | @dk a _ _ us _ z1 _ _ _ z2 ha hl inner rest =>
    cases rest
    obtain ⟨e0, rp⟩ := own_v inner
    subst e0
    have r0 : RpK K G ((kvs0.map (·.1)).zip us) kvs0 := by
      have := RpK.of hl rp
      rw [zip_un] at this
      exact this
    have hlen : ((kvs0.map (·.1)).zip us).length = kvs0.length := by
      have := rp.length
      rw [List.length_zip]
      simp at hl this ⊢
      omega
    refine ⟨_, ha, hlen, f8 _ (.dk .v) _ [Da] (own_dk upd_same (r0.put rz)) (fun b => ?_) (upd_frame (by simp)) upd_gone⟩
    simp only [List.count_append, List.count_cons, List.count_nil]
    omega
end

/-! ### {k: v for g in it if tst}, nothing changed by the parts -/
def dcTurn (g : E → Rho → Option Rho) (tst mk mv : M) (e : E) (ρ : Rho) : Option (Option (Key × D)) := match g e ρ with
  | none => none
  | some ρ2 => (match tst ρ2 with
    | .ok t none => (match blE t with
      | some true => (match mk ρ2, mv ρ2 with
        | .ok ek none, .ok ev none => (match ek.rd.bind keyD, frS .v ev with | some k, some d => some (some (k, d)) | _, _ => none)
        | _, _ => none)
      | some false => some none
      | none => none)
    | _ => none)
def dcRun (g : E → Rho → Option Rho) (tst mk mv : M) (ρ : Rho) : List E → List (Key × D) → Option (List (Key × D))
  | [], acc => some acc
  | e :: es, acc => match dcTurn g tst mk mv e ρ with
    | none => none
    | some none => dcRun g tst mk mv ρ es acc
    | some (some (k, d)) => dcRun g tst mk mv ρ es (putG acc k d)
def mDc (is : List Nat) (it : MI) (g : E → Rho → Option Rho) (tst mk mv : M) : M := fun ρ => match it ρ with
  | .ok srcs items p => if allX is (p.getD ρ) = true ∧ items.length ≤ 16777215 then
      (match dcRun g tst mk mv (p.getD ρ) items [] with
      | some acc => .ok (.o (.dk .v) (dkD acc)) p
      | none => .st)
    else .st
  | .ex C pl p => .ex C pl p
  | .st => .st
theorem putG_len {α : Type} (kvs : List (Key × α)) (k : Key) (v : α) : (putG kvs k v).length ≤ kvs.length + 1 := by
  unfold putG
  split
  · rw [List.length_map]; omega
  · rw [List.length_append]; exact Nat.le_refl _
section
variable {K : PySem.W.Frag} {W : WX} {H0 H H5 : Hp} {M0 : Bs} {σ σ2 : L2.St} {τ T : List E} {tv tT : List V} {ρ ρ2 : Rho} {is js : List Nat}
theorem back_slots (c7 : Cfg K H0 M0 H5 σ2 T tT (ρ2.map kill)) (hlen2 : ρ2.length = ρ.length) (hout2 : ∀ (j : Nat), j ∉ is → ρ2[j]? = ρ[j]?) (hx : ∀ j ∈ is, ρ[j]? = some .x) (hl : σ2.length = σ.length) (hj : ∀ (j : Nat), j ∉ is → σ2[j]? = (wipe σ is)[j]?) : Cfg K H0 M0 H5 (wipe σ is) T tT (ρ.map kill) := by
  have c8 : Cfg K H0 M0 H5 σ2 T tT (ρ.map kill) := c7.wk (by simpa using hlen2.symm) fun j a b ha hb => by
    by_cases hm : j ∈ is
    · rw [List.getElem?_map, hx j hm] at hb
      cases hb
      exact .inl rfl
    · rw [List.getElem?_map, ← hout2 j hm, ← List.getElem?_map, ha] at hb
      exact .inr (Option.some.inj hb).symm
  refine c8.resig (by rw [wipe_length]; exact hl.symm) fun j hne => ?_
  by_cases hm : j ∈ is
  · rw [List.getElem?_map, hx j hm] at hne
    exact absurd rfl hne
  · exact (hj j hm).symm
theorem run_dc {it : MI} {g : E → Rho → Option Rho} {tst mk mv : M} {Q : VK} (hout : ∀ (e : E) (ρ ρ' : Rho), g e ρ = some ρ' → ρ'.length = ρ.length ∧ ∀ (j : Nat), j ∉ js → ρ'[j]? = ρ[j]?) (hjs : ∀ j ∈ js, j ∈ is)
    (c : Cfg K H0 M0 H σ τ tv ρ) (q : Run K W H0 M0 τ tv σ ρ H Q (mDc is it g tst mk mv ρ)) :
    tDc (tVi K W it) (tGv K g js) (tVt K (fun _ _ _ _ => False) tst) (tV K (fun _ _ _ _ => False) mk) (tV K (fun _ _ _ _ => False) mv) is σ H Q := by
  unfold mDc at q
  refine ⟨H0, M0, τ, tv, ρ, c, ?_⟩
  cases hi : it ρ with
  | st => rw [hi] at q; exact q
  | ex C pl p => rw [hi] at q; exact q
  | ok srcs items p =>
    rw [hi] at q
    intro J us H1 hlu wd c1 s1 Da hD
    simp only at q
    split at q
    rotate_left
    · exact q.elim
    rename_i hcond
    obtain ⟨hx, hlen⟩ := hcond
    cases hrun : dcRun g tst mk mv (p.getD ρ) items [] with
    | none => rw [hrun] at q; exact q.elim
    | some accF =>
      rw [hrun] at q
      simp only at q
      have hσ : σ.length = (p.getD ρ).length := c1.slen
      have hat := allX_at hx
      have l0 : tv.length = (kp p τ).length := by rw [kp_length]; exact c.len
      have c1w : Cfg K H0 M0 H1 (wipe σ is) (kp p τ ++ srcs) (tv ++ us) (p.getD ρ) := c1.resig (wipe_length σ is) fun i hne => wipe_out fun m => hne (hat i m)
      have sD : Same H1 (upd H1 Da (.dK [])) := same_new hD
      have c2 : Cfg K H0 M0 (upd H1 Da (.dK [])) (wipe σ is) ((kp p τ ++ srcs) ++ [.o (.dk .v) (dkD [])]) ((tv ++ us) ++ [.ref Da]) (p.getD ρ) :=
        c1w.fresh (zn := [Da]) sD (fun z m => by rw [List.mem_singleton.mp m]; exact hD) (fun a => by simp only [List.count_cons, List.count_nil]; split <;> omega) fun G => own_dk (ds := []) upd_same .nil
      refine ⟨fun i m H => m = items.length - i ∧ i ≤ items.length ∧ ∃ acc, dcRun g tst mk mv (p.getD ρ) (items.drop i) acc = some accF ∧ acc.length ≤ i ∧
          Cfg K H0 M0 H (wipe σ is) ((kp p τ ++ srcs) ++ [.o (.dk .v) (dkD acc)]) ((tv ++ us) ++ [.ref Da]) (p.getD ρ) ∧ Same H1 H, ⟨items.length, by simp, Nat.zero_le _, [], by simpa using hrun, by simp, c2, sD⟩, ?_⟩
      rintro i m H2 ⟨rfl, hle, acc, hrun2, hacc, c3, hsame⟩
      have cf2 : Cfg K H0 M0 H2 (wipe σ is) ((kp p τ ++ [.o (.dk .v) (dkD acc)]) ++ srcs) ((tv ++ [.ref Da]) ++ us) (p.getD ρ) := by
        have c3' : Cfg K H0 M0 H2 (wipe σ is) (kp p τ ++ (srcs ++ [.o (.dk .v) (dkD acc)])) (tv ++ (us ++ [.ref Da])) (p.getD ρ) := by simpa using c3
        simpa using c3'.swap l0 hlu
      by_cases hlt : i < items.length
      · refine .inr ⟨wd.go cf2 hlt, fun H => ∃ acc, dcRun g tst mk mv (p.getD ρ) (items.drop (i + 1)) acc = some accF ∧ acc.length ≤ i + 1 ∧
          Cfg K H0 M0 H (wipe σ is) ((kp p τ ++ srcs) ++ [.o (.dk .v) (dkD acc)]) ((tv ++ us) ++ [.ref Da]) (p.getD ρ) ∧ Same H1 H, fun H h => ⟨items.length - (i + 1), by omega, rfl, hlt, h⟩, fun x H3 hy => ?_⟩
        obtain ⟨e, he, c4, s4⟩ := wd.yld cf2 hlt hy
        have ed : items.drop i = e :: items.drop (i + 1) := by
          have he' := he
          rw [List.getElem?_eq_getElem hlt] at he'
          cases he'
          exact List.drop_eq_getElem_cons hlt
        rw [ed, dcRun] at hrun2
        cases htn : dcTurn g tst mk mv e (p.getD ρ) with
        | none => rw [htn] at hrun2; cases hrun2
        | some od =>
          rw [htn] at hrun2
          unfold dcTurn at htn
          cases hg : g e (p.getD ρ) with
          | none => rw [hg] at htn; cases htn
          | some ρ2 =>
            rw [hg] at htn
            simp only at htn
            obtain ⟨hlen2, hout2⟩ := hout _ _ _ hg
            refine ⟨H0, M0, _, _, _, e, ρ2, c4, hg, fun σ2 c6 hσ2 hj2 => ?_⟩
            have hwl : σ2.length = σ.length := by rw [hσ2, wipe_length]
            have hw : wipe σ2 is = wipe σ is := wipe_eq hwl fun j hj => hj2 j fun m => hj (hjs j m)
            refine ⟨hw, H0, M0, _, _, ρ2, c6, ?_⟩
            -- back to the state between the turns
            have close : ∀ {H5 : Hp} {acc' : List (Key × D)}, Cfg K H0 M0 H5 σ2 ((kp p τ ++ srcs).map kill ++ [.o (.dk .v) (dkD acc')]) ((tv ++ us) ++ [.ref Da]) (ρ2.map kill) → Same H1 H5 →
                Cfg K H0 M0 H5 (wipe σ is) ((kp p τ ++ srcs) ++ [.o (.dk .v) (dkD acc')]) ((tv ++ us) ++ [.ref Da]) (p.getD ρ) := fun {H5 acc'} c7 sm =>
              (back_slots c7 hlen2 (fun j hj => hout2 j fun m => hj (hjs j m)) hat hwl (fun j hj => hj2 j fun m => hj (hjs j m))).revive (c1w.grow sm)
            cases ht : tst ρ2 with
            | st => rw [ht] at htn; cases htn
            | ex C pl p' => rw [ht] at htn; cases htn
            | ok t pt =>
              rw [ht] at htn
              cases pt with
              | some _ => cases htn
              | none =>
                simp only at htn
                intro v H4 c7 s7
                cases hb : blE t with
                | none => rw [hb] at htn; cases htn
                | some kb =>
                  have e1 := (c7.last (blE_rd hb)).bl1
                  refine ⟨kb, e1, ?_⟩
                  have c8 : Cfg K H0 M0 H4 σ2 ((kp p τ ++ [.o (.dk .v) (dkD acc)]) ++ srcs) ((tv ++ [.ref Da]) ++ us) ρ2 := c7.drop1
                  have sm4 : Same H1 H4 := hsame.trans (s4.trans (s7 rfl))
                  rw [hb] at htn
                  cases kb with
                  | false =>
                    simp only at htn
                    cases htn
                    refine iteF ?_
                    refine ⟨acc, hrun2, by omega, close (acc' := acc) ?_ sm4, sm4⟩
                    have c9 : Cfg K H0 M0 H4 σ2 (kp p τ ++ ([.o (.dk .v) (dkD acc)] ++ srcs)) (tv ++ ([.ref Da] ++ us)) ρ2 := by simpa using c8
                    have c10 : Cfg K H0 M0 H4 σ2 ((kp p τ ++ srcs) ++ [.o (.dk .v) (dkD acc)]) ((tv ++ us) ++ [.ref Da]) ρ2 := by simpa using c9.swap l0 rfl
                    have c11 := c10.killT
                    simpa [kill] using c11
                  | true =>
                    simp only at htn
                    refine iteT ?_
                    refine ⟨H0, M0, _, _, ρ2, c8, ?_⟩
                    cases hmk : mk ρ2 with
                    | st => rw [hmk] at htn; cases htn
                    | ex C pl p' => rw [hmk] at htn; cases htn
                    | ok ek pk =>
                      rw [hmk] at htn
                      cases pk with
                      | some _ => cases htn
                      | none =>
                        intro y H5 c9 s9
                        refine ⟨H0, M0, _, _, ρ2, c9, ?_⟩
                        cases hmv : mv ρ2 with
                        | st => rw [hmv] at htn; cases htn
                        | ex C pl p' => rw [hmv] at htn; cases htn
                        | ok ev pv =>
                          rw [hmv] at htn
                          cases pv with
                          | some _ => cases htn
                          | none =>
                            simp only at htn
                            intro z H6 c12 s12
                            cases hky : ek.rd with
                            | none => rw [hky] at htn; cases htn
                            | some dk' =>
                              rw [hky] at htn
                              simp only [Option.bind] at htn
                              split at htn
                              rotate_left
                              · cases htn
                              rename_i k d hk hfr
                              cases htn
                              have hyk : y = kV k := keyD_v (c9.last hky) hk
                              have c13 := c12.keep hfr
                              have sm6 : Same H1 H6 := sm4.trans ((s9 rfl).trans (s12 rfl))
                              have l1 : (us ++ [y]).length = (srcs ++ [ek]).length := by simp [hlu]
                              have c14 : Cfg K H0 M0 H6 σ2 (kp p τ ++ (([.o (.dk .v) (dkD acc)] ++ (srcs ++ [ek])) ++ [.o .v d])) (tv ++ (([.ref Da] ++ (us ++ [y])) ++ [z])) ρ2 := by simpa [kp] using c13
                              have c15 : Cfg K H0 M0 H6 σ2 (kp p τ ++ (([.o .v d] ++ [.o (.dk .v) (dkD acc)]) ++ (srcs ++ [ek]))) (tv ++ (([z] ++ [.ref Da]) ++ (us ++ [y]))) ρ2 := by simpa using c14.swap l0 (by simp [hlu])
                              have c16 : Cfg K H0 M0 H6 σ2 ((kp p τ ++ (srcs ++ [ek])) ++ ([.o .v d] ++ [.o (.dk .v) (dkD acc)])) ((tv ++ (us ++ [y])) ++ ([z] ++ [.ref Da])) ρ2 := by simpa using c15.swap l0 rfl
                              have c17 : Cfg K H0 M0 H6 σ2 (((kp p τ ++ (srcs ++ [ek])) ++ [.o (.dk .v) (dkD acc)]) ++ [.o .v d]) (((tv ++ (us ++ [y])) ++ [.ref Da]) ++ [z]) ρ2 := by simpa using c16.swap (by simp [hlu, l0]) rfl
                              obtain ⟨kvs, hDa, hla, c18⟩ := c17.putD (k := k)
                              refine ⟨kvs, k, hyk, hDa, by rw [hla, sizeLine_eq]; omega, putG acc k d, hrun2, Nat.le_trans (putG_len _ _ _) (by omega), close ?_ ?_, ?_⟩
                              · have c19 : Cfg K H0 M0 (upd H6 Da (.dK (putK kvs k z))) σ2 ((kp p τ ++ srcs).map kill ++ ([kill ek] ++ [.o (.dk .v) (dkD (putG acc k d))])) ((tv ++ us) ++ ([y] ++ [.ref Da])) (ρ2.map kill) := by simpa using c18
                                have c20 : Cfg K H0 M0 (upd H6 Da (.dK (putK kvs k z))) σ2 (((kp p τ ++ srcs).map kill ++ [.o (.dk .v) (dkD (putG acc k d))]) ++ [kill ek]) (((tv ++ us) ++ [.ref Da]) ++ [y]) (ρ2.map kill) := by simpa using c19.swap (by simp [hlu, l0]) rfl
                                exact c20.drop1
                              · intro a o ha
                                rw [upd_ne (ne_of_none ha hD)]
                                exact sm6 a o ha
                              · intro a o ha
                                rw [upd_ne (ne_of_none ha hD)]
                                exact sm6 a o ha
      · have ei : i = items.length := by omega
        subst ei
        rw [List.drop_length, dcRun] at hrun2
        have eacc : acc = accF := Option.some.inj hrun2
        rw [eacc] at cf2
        refine .inl ⟨wd.stop cf2, ?_⟩
        have c20 : Cfg K H0 M0 H2 (wipe σ is) (kp p τ ++ [.o (.dk .v) (dkD accF)]) (tv ++ [.ref Da]) (p.getD ρ) := cf2.drop hlu
        have c21 : Cfg K H0 M0 H2 σ (kp p τ ++ [.o (.dk .v) (dkD accF)]) (tv ++ [.ref Da]) (p.getD ρ) := c20.resig (wipe_length σ is).symm fun i hne => (wipe_out fun m => hne (hat i m)).symm
        exact q (.ref Da) H2 c21 fun z => (s1 z).trans hsame
end
section
variable {X : Cx} {W : WX} {kx vx tg iter : Expr} {ifs : List Expr} {scope : Scope} {own : List (Str × Nat)} {pos : Pos} {it : MI} {g : E → Rho → Option Rho} {js : List Nat} {tst mk mv : M}
theorem ve_dc (hc : X.calm = true) (hN : X.N.Nodup) (hi : VI X W tg iter it) (ok : BlkOk X.N X.env.scope scope own)
    (hg : ∀ (s : Shared) (H : Hp) (C : Addr) (cl : List (Str × Addr)) (fp : List Addr), VG (X.blk s H scope (compEnvC scope cl C X.env) fp) tg g js)
    (ht : ∀ (s : Shared) (H : Hp) (C : Addr) (cl : List (Str × Addr)) (fp : List Addr), VTs (X.blk s H scope (compEnvC scope cl C X.env) fp) ifs tst)
    (hk : ∀ (s : Shared) (H : Hp) (C : Addr) (cl : List (Str × Addr)) (fp : List Addr), VE (X.blk s H scope (compEnvC scope cl C X.env) fp) W0 kx mk)
    (hv : ∀ (s : Shared) (H : Hp) (C : Addr) (cl : List (Str × Addr)) (fp : List Addr), VE (X.blk s H scope (compEnvC scope cl C X.env) fp) W0 vx mv) (hjs : ∀ j ∈ js, j ∈ own.map (·.2) := by decide) (hs : ∀ x, foldedSetIterable iter X.env x = pure x := by intro _; rfl) :
    VE X W (.DictComp kx vx [⟨tg, iter, ifs, 0⟩] scope pos) (mDc (own.map (·.2)) it g tst mk mv) :=
  ⟨⟨fun pins s0 σ H Q I ⟨H0, M0, τ, tv, ρ, c, q⟩ => (pe_dc (wi := tVi X.K W it) (g := tGv X.K g js) (tt := tVt X.K W0 tst) (tk := tV X.K W0 mk) (tv := tV X.K W0 mv) hc hN hi.pi ok (fun s H C cl fp => (hg s H C cl fp).pg) (fun s H C cl fp => (ht s H C cl fp).pts)
    (fun s H C cl fp => (hk s H C cl fp).pe) (fun s H C cl fp => (hv s H C cl fp).pe) hs).run pins s0 σ H Q I (run_dc (hg s0 H 0 [] []).out hjs c q)⟩⟩
end
end LP
end
section
/-! LP, part Qg: a, b = x, y; index, count, bit_length; d[k] = v. -/
namespace LP
open PySem PySem.Spec PyProof.Rows L2

/-! ### a, b = x, y -/
def sPar (i j : Nat) (ma mb : M) : MS := fun ρ => match a2 ma mb ρ with
  | .ok [e1, e2] p => if i < (p.getD ρ).length ∧ j < (p.getD ρ).length ∧ isP e1 = false ∧ isP e2 = false then .nx (((p.getD ρ).set j e2).set i e1) p.isSome else .st
  | .ex C pl p => .ex C pl (p.getD ρ) p.isSome
  | _ => .st
theorem run_par {K : PySem.W.Frag} {W : WX} {H0 H : Hp} {M0 : Bs} {σ : L2.St} {τ : List E} {tv : List V} {ρ : Rho} {i j : Nat} {ma mb : M} {Dn : Ends} (hij : i ≠ j) (c : Cfg K H0 M0 H σ τ tv ρ) (q : RunS K W H0 M0 τ tv Dn (sPar i j ma mb ρ)) :
    tPar i j (tVa K W (aCons ma (aCons mb aNil))) Dn σ H := by
  unfold sPar at q
  refine ⟨H0, M0, τ, tv, ρ, c, ?_⟩
  have ea : aCons ma (aCons mb aNil) ρ = a2 ma mb ρ := rfl
  rw [ea]
  cases h : a2 ma mb ρ with
  | st => rw [h] at q; exact q
  | ex C pl p =>
    rw [h] at q
    intro dO H' c' pay
    rw [kk_kp] at c'
    exact q dO σ H' c' pay
  | ok es p =>
    rw [h] at q
    intro vs H1 hl c1 _
    match es, vs, hl, c1, q with
    | [e1, e2], [v, w], _, c1, q =>
      simp only at q
      split at q
      rotate_left
      · exact q.elim
      rename_i hc
      refine ⟨v, w, rfl, ?_⟩
      have c2 : Cfg K H0 M0 H1 σ ((kp p τ ++ [e1]) ++ [e2]) ((tv ++ [v]) ++ [w]) (p.getD ρ) := by simpa using c1
      have c3 := (c2.put hc.2.1 hc.2.2.2).put (by simpa using hc.1) hc.2.2.1
      rw [kk_kp] at c3
      have : (σ.set i (some v)).set j (some w) = (σ.set j (some w)).set i (some v) := List.set_comm _ _ hij
      rw [this]
      exact q _ H1 c3
    | [], _, _, _, q => exact q.elim
    | [_], _, _, _, q => exact q.elim
    | _ :: _ :: _ :: _, _, _, _, q => exact q.elim
section
variable {X : Cx} {W : WX} {a b o e : Expr} {ma mb m mi : M} {P : Path} {pos apos cpos pos' : Pos} {k : Nat}
theorem vs_par {i j : Nat} {x y : Str} {px py pt : Pos} {kt k2 pt2} (hc : X.calm = true) (hN : X.N.Nodup) (hi : X.N[i]? = some x) (hj : X.N[j]? = some y) (hij : i ≠ j) (hx : X.env.scope.names.lookup x = some .local) (hy : X.env.scope.names.lookup y = some .local) (ha : VE X W a ma) (hb : VE X W b mb)
    (hw : swappedStores [.Tuple [.Name x px, .Name y py] kt pt] (.Tuple [a, b] k2 pt2) X.env = pure (some [x, y])) (hs : swapsWithSole [.Tuple [.Name x px, .Name y py] kt pt] (.Tuple [a, b] k2 pt2) pos.line X.env = pure false := by rfl)
    (h1 : starEach [a, b] X.env = (false, eval a X.env) :: starEach [b] X.env := by rfl) (h2 : starEach [b] X.env = (false, eval b X.env) :: starEach [] X.env := by rfl) : VS X W (.Assign [.Tuple [.Name x px, .Name y py] kt pt] (.Tuple [a, b] k2 pt2) pos) (sPar i j ma mb) :=
  ⟨(ps_par hc hN hi hj hij hx hy (va_cons ha (va_cons hb va_nil h2) h1).pa hw hs).weak fun D σ H ⟨H0, M0, τ, tv, ρ, c, q⟩ => run_par hij c q⟩

/-! ### methods that only read: one argument -/
def tyR (T : String) : D → Bool
  | .lst _ => T == "list"
  | .scr _ => T == "list"
  | .dk _ _ => T == "dict"
  | _ => false
theorem tyR_V {K : PySem.W.Frag} {H : Hp} {T : String} {v : V} {d : D} (r : Rp K H [v] [d]) (h : tyR T d = true) : (T = "list" → tyV K T v H) := by
  intro hT
  cases r with
  | lst ha _ _ => exact .inl ⟨hT, _, SqL.of ha⟩
  | scr ha _ _ => exact .inl ⟨hT, _, ha.sq⟩
  | dk ha _ _ _ => subst hT; simp [tyR] at h
  | _ => simp [tyR] at h
def mBM (T : String) (f : List E → Option Rs) (ma mb : M) : M := fun ρ => match ma ρ with
  | .ok e _ => (match e.rd with
    | some d => if tyR T d = true then mF f (a2 ma mb) ρ else .st
    | none => .st)
  | .ex C pl p => .ex C pl p
  | .st => .st
theorem run_bm {K : PySem.W.Frag} {H0 H : Hp} {M0 : Bs} {σ : L2.St} {τ : List E} {tv : List V} {ρ : Rho} {f : List E → Option Rs} {r : V → List V → Hp → VK → Prop} {Q : VK} (hf : PureF K (fun us H Q => ∃ x y, us = [x, y] ∧ r x [y] H Q) f) (c : Cfg K H0 M0 H σ τ tv ρ)
    (q : Run K W H0 M0 τ tv σ ρ H Q (mBM "list" f ma mb ρ)) : tBM K "list" r (tV K W ma) (tVa K W (aCons mb aNil)) σ H Q := by
  unfold mBM at q
  refine ⟨H0, M0, τ, tv, ρ, c, ?_⟩
  cases hm : ma ρ with
  | st => rw [hm] at q; exact q
  | ex C' pl p => rw [hm] at q; exact q
  | ok e p =>
    rw [hm] at q
    simp only at q
    cases hd : e.rd with
    | none => rw [hd] at q; exact q.elim
    | some d =>
      rw [hd] at q
      simp only at q
      split at q
      rotate_left
      · exact q.elim
      rename_i ht
      intro v H1 c1 s1
      refine ⟨tyR_V (c1.last hd) ht rfl, ?_⟩
      have key : RunA K W H0 M0 τ tv σ ρ H (fun us H1 => ∃ x y, us = [x, y] ∧ r x [y] H1 Q) (aCons ma (aCons mb aNil) ρ) := by
        have ea : aCons ma (aCons mb aNil) ρ = a2 ma mb ρ := rfl
        rw [ea]
        unfold mF at q
        cases h : a2 ma mb ρ with
        | st => rw [h] at q; exact q
        | ex C pl p => rw [h] at q; exact q
        | ok es p' =>
          rw [h] at q
          intro us H2 hl c2 s2
          simp only at q
          cases h2 : f es with
          | none => rw [h2] at q; exact q.elim
          | some R =>
            rw [h2] at q
            obtain ⟨zs, cz, fl⟩ := c2.open_ hl
            refine hf H2 zs es us R Q cz.mine fl h2 ?_
            cases R with
            | f d => exact fun v rv => q v H2 (cz.pushV rv) s2
            | r d => exact fun v rv => q v H2 (cz.pushR rv) s2
            | nl xs => exact fun p us hp rv => q _ _ (cz.newL hp rv) fun z => (s2 z).trans (same_new hp)
            | nt xs => exact fun p us hp rv => q _ _ (cz.newT hp rv) fun z => (s2 z).trans (same_new hp)
            | t xs => exact ⟨fun v rv => q v H2 (cz.pushV rv) s2, fun p us hp rv => q _ _ (cz.newT hp rv) fun z => (s2 z).trans (same_new hp)⟩
      obtain ⟨H0', M0', τ', tv', ρ', c', r'⟩ := aCons_rest hm key c1 s1
      refine ⟨H0', M0', τ', tv', ρ', c', ?_⟩
      cases h : aCons mb aNil ρ' with
      | st => rw [h] at r'; exact r'
      | ex C pl p => rw [h] at r'; exact r'
      | ok es p' =>
        rw [h] at r'
        intro us H2 hl c2 s2
        obtain ⟨x', y', e1, q1⟩ := r' us H2 hl c2 s2
        cases e1
        exact q1
/-- the first place of an equal one -/
def idxD (d : D) : List D → Option Nat
  | [] => none
  | x :: xs => if deq x d = true then some 0 else (idxD d xs).map (· + 1)
theorem idxD_some {d : D} : ∀ {xs : List D} {j : Nat}, idxD d xs = some j → ∃ x, xs[j]? = some x ∧ deq x d = true ∧ ∀ (m : Nat) (y : D), m < j → xs[m]? = some y → deq y d = false
  | [], _, h => by cases h
  | x :: xs, j, h => by
    unfold idxD at h
    split at h
    · rename_i hx
      cases h
      exact ⟨x, rfl, hx, fun m y hm _ => absurd hm (Nat.not_lt_zero _)⟩
    · rename_i hx
      cases hj : idxD d xs with
      | none => rw [hj] at h; cases h
      | some k =>
        rw [hj] at h
        cases h
        obtain ⟨y, h1, h2, h3⟩ := idxD_some hj
        refine ⟨y, by simpa using h1, h2, fun m z hm hz => ?_⟩
        cases m with
        | zero => simp at hz; subst hz; simpa using hx
        | succ m => exact h3 m z (Nat.lt_of_succ_lt_succ hm) (by simpa using hz)
def fIndex (es : List E) : Option Rs := match es with
  | [e1, e2] => (match e1.rd, e2.rd with
    | some (.lst xs), some d => if okDs 63 xs = true ∧ okD 64 d = true then (match idxD d xs with | some j => some (.f (.int (j : Nat))) | none => none) else none
    | _, _ => none)
  | _ => none
theorem pf_index {K : PySem.W.Frag} : PureF K (fun us H Q => ∃ x y, us = [x, y] ∧ rIndexD K x [y] H Q) fIndex := by
  intro H zs es us R Q hm fl h dl
  unfold fIndex at h
  split at h
  rotate_left
  · cases h
  rename_i e1 e2
  split at h
  rotate_left
  · cases h
  rename_i xs d h1 h2
  split at h
  rotate_left
  · cases h
  rename_i hok
  cases h3 : idxD d xs with
  | none => rw [h3] at h; cases h
  | some j =>
    rw [h3] at h
    cases h
    obtain ⟨v, us', rfl, r1, f1⟩ := fl.rd1 h1
    obtain ⟨y, us'', rfl, r2, f2⟩ := f1.rd1 h2
    have := f2.one
    subst this
    have okl : okD 64 (.lst xs) = true := by simpa [okD] using hok.1
    have ok2 : okD 64 d = true := hok.2
    obtain ⟨p1, q1⟩ := r1.dp1 okl
    obtain ⟨p2, q2⟩ := r2.dp1 ok2
    obtain ⟨x, hx, hxd, hno⟩ := idxD_some h3
    cases r1 with
    | @lst a us _ _ _ ha rus _ =>
      refine ⟨_, _, rfl, a, y, pyT d, pyTs xs, j, pyT x, rfl, rfl, p1, p2, q1, q2, by rw [pyTs_map, List.getElem?_map, hx]; rfl, hxd, fun m z hm hz => ?_, dl _ (.int _ .nil)⟩
      rw [pyTs_map, List.getElem?_map] at hz
      cases hy : xs[m]? with
      | none => rw [hy] at hz; cases hz
      | some w =>
        rw [hy] at hz
        cases hz
        exact hno m w hm hy
theorem ve_index (hr : Room k X.A) (ho : VE X W o ma) (he : VE X W e mb) (hbase : attributeBase o "index" X.env (eval o X.env) = eval o X.env := by rfl)
    (hfew : ((backTo cpos (starEach [e] X.env)).all (fun x => !x.1) && (backToKw cpos (keywordEach [] X.env)).all (fun x => x.1.isSome) && decide (([e] : List Expr).length + ([] : List Keyword).length + (if ([] : List Keyword).isEmpty then 0 else 1) < 30)) = true := by rfl)
    (hline : (apos.endLine == cpos.line) = true := by rfl) (hs : starEach [e] X.env = (false, eval e X.env) :: starEach [] X.env := by rfl) : VE X W (.Call (.Attribute o "index" apos) [e] [] cpos) (mBM "list" fIndex ma mb) :=
  ⟨(pe_bm PySem.F.plainAttrs_list PySem.F.slot_list_index PySem.F.type_list_index (mt_indexD (units65 hr)) ho.pe (va_cons he va_nil hs).pa hbase hfew hline hs).weak fun σ H Q ⟨H0, M0, τ, tv, ρ, c, q⟩ => run_bm pf_index c q⟩
def fCount (es : List E) : Option Rs := match es with
  | [e1, e2] => (match e1.rd, e2.rd with
    | some (.lst xs), some (.int i) => (match intsD xs with | some ns => some (.f (.int (ns.count i : Nat))) | none => none)
    | _, _ => none)
  | _ => none
theorem pf_count {K : PySem.W.Frag} : PureF K (fun us H Q => ∃ x y, us = [x, y] ∧ rCntI K x [y] H Q) fCount := by
  intro H zs es us R Q hm fl h dl
  unfold fCount at h
  split at h
  rotate_left
  · cases h
  rename_i e1 e2
  split at h
  rotate_left
  · cases h
  rename_i xs i h1 h2
  cases h3 : intsD xs with
  | none => rw [h3] at h; cases h
  | some ns =>
    rw [h3] at h
    cases h
    obtain ⟨v, us', rfl, r1, f1⟩ := fl.rd1 h1
    obtain ⟨y, us'', rfl, r2, f2⟩ := f1.rd1 h2
    have := f2.one
    subst this
    rw [intsD_eq h3] at r1
    cases r1 with
    | @lst a us _ _ _ ha rus _ =>
      rw [rus.ints] at ha
      exact ⟨_, _, rfl, a, ns, i, rfl, by rw [r2.int1], SqL.of ha, dl _ (.int _ .nil)⟩
theorem ve_count (ho : VE X W o ma) (he : VE X W e mb) (hbase : attributeBase o "count" X.env (eval o X.env) = eval o X.env := by rfl)
    (hfew : ((backTo cpos (starEach [e] X.env)).all (fun x => !x.1) && (backToKw cpos (keywordEach [] X.env)).all (fun x => x.1.isSome) && decide (([e] : List Expr).length + ([] : List Keyword).length + (if ([] : List Keyword).isEmpty then 0 else 1) < 30)) = true := by rfl)
    (hline : (apos.endLine == cpos.line) = true := by rfl) (hs : starEach [e] X.env = (false, eval e X.env) :: starEach [] X.env := by rfl) : VE X W (.Call (.Attribute o "count" apos) [e] [] cpos) (mBM "list" fCount ma mb) :=
  ⟨(pe_bm PySem.F.plainAttrs_list PySem.F.slot_list_count PySem.F.type_list_count mt_lcount ho.pe (va_cons he va_nil hs).pa hbase hfew hline hs).weak fun σ H Q ⟨H0, M0, τ, tv, ρ, c, q⟩ => run_bm pf_count c q⟩
def fBits (es : List E) : Option Rs := match es with
  | [e] => (match e.rd with | some (.int i) => some (.f (.int (Builtin.Int.intBits i : Nat))) | _ => none)
  | _ => none
theorem pf_bits {K : PySem.W.Frag} : PureF K (r1L fun x H Q => ∃ i, x = .int i ∧ Q (.int (Builtin.Int.intBits i : Nat)) H) fBits := by
  intro H zs es us R Q hm fl h dl
  unfold fBits at h
  split at h
  rotate_left
  · cases h
  split at h
  rotate_left
  · cases h
  rename_i i hd
  cases h
  obtain ⟨v, rfl, r1, _⟩ := fl1 fl hd
  exact ⟨_, rfl, i, r1.int1, dl _ (.int _ .nil)⟩
theorem ve_bits (ho : VE X W o m) (hbase : attributeBase o "bit_length" X.env (eval o X.env) = eval o X.env := by rfl) (hline : (apos.endLine == cpos.line) = true := by rfl) : VE X W (.Call (.Attribute o "bit_length" apos) [] [] cpos) (mF fBits (aCons m aNil)) := by
  refine ⟨(pe_bits ho.pe hbase hline).weak fun σ H Q ⟨H0, M0, τ, tv, ρ, c, q⟩ => ?_⟩
  refine tV_mono (tVa_cons1 (run_F pf_bits c q)) fun x H1 h1 => ?_
  obtain ⟨y, e1, h⟩ := tVa_nil1 h1
  cases e1
  exact h
end
end LP
end
section
/-! LP, part Qh: an exception leaves a def's body. -/
namespace LP
open PySem PySem.Spec PyProof.Rows L2
section
variable {P : Program} {w : World} {K : PySem.W.Frag} {mg : Str → Option Value} {base : Heap}
theorem own_E {qual : Str} {scope : Scope} {f : Addr} {cd : Value} {A : Around} {outer : List Env} {s : Shared} {H : Hp} {N : List Str} {Ew : XK} :
    PassesOwn (model P w) (cxOf (L2.CX P w) P w K mg base N qual scope f cd A outer s H Ew).A (cxOf (L2.CX P w) P w K mg base N qual scope f cd A outer s H Ew).env (cxOf (L2.CX P w) P w K mg base N qual scope f cd A outer s H Ew).xe :=
  passes_of (X := cxOf (L2.CX P w) P w K mg base N qual scope f cd A outer s H Ew) rfl
end
end LP
end
section
/-! LP, part Qi: list(range(..)), tuple(range(..)). -/
namespace LP
open PySem PySem.Spec PyProof.Rows L2
def rgD (a b : Int) : List D := (List.range (b - a).toNat).map fun i => D.int (a + (i : Nat))
theorem rp_rgL {K : PySem.W.Frag} {G : Hp} (a : Int) : ∀ l : List Nat, Rp K G (l.map fun i => V.int (a + (i : Nat))) (l.map fun i => D.int (a + (i : Nat)))
  | [] => .nil
  | _ :: l => .int _ (rp_rgL a l)
theorem rp_rg {K : PySem.W.Frag} {G : Hp} (a b : Int) : Rp K G (rgV a b) (rgD a b) := rp_rgL a _
def rgOk (a b : Int) : Bool := decide (-(2 ^ 62) ≤ a) && decide (a < 2 ^ 62) && decide (-(2 ^ 62) ≤ b) && decide (b < 2 ^ 62) && decide ((b - a).toNat ≤ 2 ^ 24)
theorem rgOk_ok {a b : Int} (h : rgOk a b = true) : RgOk a b := by
  simp only [rgOk, Bool.and_eq_true, decide_eq_true_eq] at h
  exact ⟨h.1.1.1.1, h.1.1.1.2, h.1.1.2, h.1.2, h.2⟩
/-- t: a tuple; else a list -/
def fRg1 (t : Bool) (es : List E) : Option Rs := match es with
  | [e] => (match e.rd with | some (.int j) => if rgOk 0 j = true then some (if t = true then .nt (rgD 0 j) else .nl (rgD 0 j)) else none | _ => none)
  | _ => none
def fRg2 (t : Bool) (es : List E) : Option Rs := match es with
  | [e1, e2] => (match e1.rd, e2.rd with | some (.int i), some (.int j) => if rgOk i j = true then some (if t = true then .nt (rgD i j) else .nl (rgD i j)) else none | _, _ => none)
  | _ => none
def hoRg (t : Bool) (a b : Int) : HO := if t = true then .tup (rgV a b) else .lst (rgV a b)
theorem pf_rg1 {K : PySem.W.Frag} (t : Bool) : PureF K (fun us H Q => ∃ n, us = [V.int n] ∧ RgOk 0 n ∧ ∀ q, H q = none → Q (.ref q) (upd H q (hoRg t 0 n))) (fRg1 t) := by
  intro H zs es us R Q hm fl h dl
  unfold fRg1 at h
  split at h
  rotate_left
  · cases h
  split at h
  rotate_left
  · cases h
  rename_i j hd
  split at h
  rotate_left
  · cases h
  rename_i hok
  cases h
  obtain ⟨v, rfl, r1, _⟩ := fl1 fl hd
  refine ⟨j, by rw [r1.int1], rgOk_ok hok, fun q hq => ?_⟩
  cases t with
  | true => exact dl q (rgV 0 j) hq (rp_rg 0 j)
  | false => exact dl q (rgV 0 j) hq (rp_rg 0 j)
theorem pf_rg2 {K : PySem.W.Frag} (t : Bool) : PureF K (fun us H Q => ∃ i j, us = [V.int i, V.int j] ∧ RgOk i j ∧ ∀ q, H q = none → Q (.ref q) (upd H q (hoRg t i j))) (fRg2 t) := by
  intro H zs es us R Q hm fl h dl
  unfold fRg2 at h
  split at h
  rotate_left
  · cases h
  rename_i e1 e2
  split at h
  rotate_left
  · cases h
  rename_i i j h1 h2
  split at h
  rotate_left
  · cases h
  rename_i hok
  cases h
  obtain ⟨v, us', rfl, r1, f1⟩ := fl.rd1 h1
  obtain ⟨y, us'', rfl, r2, f2⟩ := f1.rd1 h2
  have := f2.one
  subst this
  refine ⟨i, j, by rw [r1.int1, r2.int1], rgOk_ok hok, fun q hq => ?_⟩
  cases t with
  | true => exact dl q (rgV i j) hq (rp_rg i j)
  | false => exact dl q (rgV i j) hq (rp_rg i j)
section
variable {X : Cx} {W : WX} {a b : Expr} {m ma mb : M} {p p2 pos pos2 : Pos}
theorem run_rg1 {t : Bool} {K : PySem.W.Frag} {H0 H : Hp} {M0 : Bs} {τ ρ : List E} {tv : List V} {σ : L2.St} {Q : VK} (c : Cfg K H0 M0 H σ τ tv ρ) (q : Run K W H0 M0 τ tv σ ρ H Q (mF (fRg1 t) (aCons m aNil) ρ)) :
    tV K W m σ H fun x H1 => ∃ n, x = .int n ∧ RgOk 0 n ∧ ∀ q, H1 q = none → Q (.ref q) (upd H1 q (hoRg t 0 n)) := by
  refine tV_mono (tVa_cons1 (run_F (pf_rg1 t) c q)) fun x H1 h1 => ?_
  obtain ⟨n, e1, h⟩ := tVa_nil1 h1
  cases e1
  exact ⟨n, rfl, h⟩
theorem run_rg2 {t : Bool} {K : PySem.W.Frag} {H0 H : Hp} {M0 : Bs} {τ ρ : List E} {tv : List V} {σ : L2.St} {Q : VK} (c : Cfg K H0 M0 H σ τ tv ρ) (q : Run K W H0 M0 τ tv σ ρ H Q (mF (fRg2 t) (aCons ma (aCons mb aNil)) ρ)) :
    tV K W ma σ H fun x H1 => tV K W mb σ H1 fun y H2 => ∃ i j, x = .int i ∧ y = .int j ∧ RgOk i j ∧ ∀ q, H2 q = none → Q (.ref q) (upd H2 q (hoRg t i j)) := by
  refine tV_mono (tVa_cons1 (run_F (pf_rg2 t) c q)) fun x H1 h1 => ?_
  refine tV_mono (tVa_cons1 h1) fun y H2 h2 => ?_
  obtain ⟨i, j, e1, h⟩ := tVa_nil1 h2
  cases e1
  exact ⟨i, j, rfl, rfl, h⟩
theorem ve_listR (hc : X.calm = true) (hg : Gl X "list") (hm : X.mg "list" = none) (hg2 : Gl X "range") (hm2 : X.mg "range" = none) (ha : VE X W a m) (na : starEach [a] X.env = (false, eval a X.env) :: starEach [] X.env := by rfl)
    (nb : starEach [.Call (.Name "range" p2) [a] [] pos2] X.env = (false, eval (.Call (.Name "range" p2) [a] [] pos2) X.env) :: starEach [] X.env := by rfl) : VE X W (.Call (.Name "list" p) [.Call (.Name "range" p2) [a] [] pos2] [] pos) (mF (fRg1 false) (aCons m aNil)) :=
  ⟨(pe_listRg hc hg hm (prg_1 hg2 hm2 ha.pe na) nb).weak fun σ H Q ⟨H0, M0, τ, tv, ρ, c, q⟩ => run_rg1 c q⟩
theorem ve_tupleR (hc : X.calm = true) (hg : Gl X "tuple") (hm : X.mg "tuple" = none) (hg2 : Gl X "range") (hm2 : X.mg "range" = none) (ha : VE X W a m) (na : starEach [a] X.env = (false, eval a X.env) :: starEach [] X.env := by rfl)
    (nb : starEach [.Call (.Name "range" p2) [a] [] pos2] X.env = (false, eval (.Call (.Name "range" p2) [a] [] pos2) X.env) :: starEach [] X.env := by rfl) : VE X W (.Call (.Name "tuple" p) [.Call (.Name "range" p2) [a] [] pos2] [] pos) (mF (fRg1 true) (aCons m aNil)) :=
  ⟨(pe_tupRg hc hg hm (prg_1 hg2 hm2 ha.pe na) nb).weak fun σ H Q ⟨H0, M0, τ, tv, ρ, c, q⟩ => run_rg1 c q⟩
theorem ve_listR2 (hc : X.calm = true) (hg : Gl X "list") (hm : X.mg "list" = none) (hg2 : Gl X "range") (hm2 : X.mg "range" = none) (ha : VE X W a ma) (hb : VE X W b mb) (na : starEach [a, b] X.env = (false, eval a X.env) :: starEach [b] X.env := by rfl) (na2 : starEach [b] X.env = (false, eval b X.env) :: starEach [] X.env := by rfl)
    (hp : (backTo pos2 (starEach [b] X.env)).any (·.1) = false := by rfl)
    (nb : starEach [.Call (.Name "range" p2) [a, b] [] pos2] X.env = (false, eval (.Call (.Name "range" p2) [a, b] [] pos2) X.env) :: starEach [] X.env := by rfl) : VE X W (.Call (.Name "list" p) [.Call (.Name "range" p2) [a, b] [] pos2] [] pos) (mF (fRg2 false) (aCons ma (aCons mb aNil))) :=
  ⟨(pe_listRg hc hg hm (prg_2 hg2 hm2 ha.pe hb.pe na na2 hp) nb).weak fun σ H Q ⟨H0, M0, τ, tv, ρ, c, q⟩ => run_rg2 c q⟩
theorem ve_tupleR2 (hc : X.calm = true) (hg : Gl X "tuple") (hm : X.mg "tuple" = none) (hg2 : Gl X "range") (hm2 : X.mg "range" = none) (ha : VE X W a ma) (hb : VE X W b mb) (na : starEach [a, b] X.env = (false, eval a X.env) :: starEach [b] X.env := by rfl) (na2 : starEach [b] X.env = (false, eval b X.env) :: starEach [] X.env := by rfl)
    (hp : (backTo pos2 (starEach [b] X.env)).any (·.1) = false := by rfl)
    (nb : starEach [.Call (.Name "range" p2) [a, b] [] pos2] X.env = (false, eval (.Call (.Name "range" p2) [a, b] [] pos2) X.env) :: starEach [] X.env := by rfl) : VE X W (.Call (.Name "tuple" p) [.Call (.Name "range" p2) [a, b] [] pos2] [] pos) (mF (fRg2 true) (aCons ma (aCons mb aNil))) :=
  ⟨(pe_tupRg hc hg hm (prg_2 hg2 hm2 ha.pe hb.pe na na2 hp) nb).weak fun σ H Q ⟨H0, M0, τ, tv, ρ, c, q⟩ => run_rg2 c q⟩
end
end LP
end
section
/-! LP, part Qj: xs[::-1] of a list. -/
namespace LP
open PySem PySem.Spec PyProof.Rows L2
def fRev (es : List E) : Option Rs := match es with
  | [e] => (match e.rd, itm e with | some (.lst _), some ys => some (.nl ys.reverse) | _, _ => none)
  | _ => none
theorem pf_rev {K : PySem.W.Frag} : PureF K (fun us H Q => ∃ a xs, us = [V.ref a] ∧ SqL K H a xs ∧ ∀ p, H p = none → Q (.ref p) (upd H p (.lst xs.reverse))) fRev := by
  intro H zs es us R Q hm fl h dl
  unfold fRev at h
  split at h
  rotate_left
  · cases h
  split at h
  rotate_left
  · cases h
  rename_i xs ys hd hi
  cases h
  obtain rfl := itm_lst hd hi
  obtain ⟨a, ws, us1, rfl, q1, q2, f1⟩ := fl.lstIt hm hd hi
  have := f1.one
  subst this
  exact ⟨a, ws, rfl, SqL.of q1, fun p hp => dl p ws.reverse hp q2.rev⟩
section
variable {X : Cx} {W : WX} {e : Expr} {m : M} {k : Nat} {p1 p2 p3 pos : Pos}
theorem ve_rev (he : VE X W e m) : VE X W (.Subscript e (.Slice none none (some (.UnaryOp .USub (.Constant (.int 1) k p1) p2)) p3) pos) (mF fRev (aCons m aNil)) := by
  refine ⟨(pe_revL he.pe).weak fun σ H Q ⟨H0, M0, τ, tv, ρ, c, q⟩ => ?_⟩
  refine tV_mono (tVa_cons1 (run_F pf_rev c q)) fun x H1 h1 => ?_
  obtain ⟨a, xs, e1, h⟩ := tVa_nil1 h1
  cases e1
  exact ⟨a, xs, rfl, h⟩
end
end LP
end
section
/-! LP, part Qk: zip(a, b) without a keyword, of two lists or two tuples. -/
namespace LP
open PySem PySem.Spec PyProof.Rows L2 RZ
theorem walk_zL {K : PySem.W.Frag} {e1 e2 : E} {a c : Addr} {d1 d2 : D} {xs ys : List D} (h1 : e1.rd = some d1) (h2 : e2.rd = some d2) (s1 : seqD d1 = some xs) (s2 : seqD d2 = some ys) (k1 : kindD d1 = true) (k2 : kindD d2 = true) :
    WalkD K (Itz K a c) [srcE e1, srcE e2] [.ref a, .ref c] ((xs.zip ys).map fun p => pairE (itE e1 p.1) (itE e2 p.2)) := by
  have w := walk_z (K := K) (b := false) (a := a) (c := c) h1 h2 s1 s2 (fun z => nomatch z)
  rw [k1, k2] at w
  obtain ⟨g, s, y⟩ := w
  exact ⟨fun cc hi => g cc hi, fun cc => let ⟨us, vs, q1, q2, q3, _⟩ := s cc; ⟨us, vs, q1, q2, q3⟩, fun cc hi hy => y cc hi hy⟩
theorem walk_zT {K : PySem.W.Frag} {e1 e2 : E} {a c : Addr} {d1 d2 : D} {xs ys : List D} (h1 : e1.rd = some d1) (h2 : e2.rd = some d2) (s1 : seqD d1 = some xs) (s2 : seqD d2 = some ys) (k1 : kindD d1 = false) (k2 : kindD d2 = false) :
    WalkD K (ItzT K a c) [srcE e1, srcE e2] [.ref a, .ref c] ((xs.zip ys).map fun p => pairE (itE e1 p.1) (itE e2 p.2)) := by
  have w := walk_z (K := K) (b := false) (a := a) (c := c) h1 h2 s1 s2 (fun z => nomatch z)
  rw [k1, k2] at w
  obtain ⟨g, s, y⟩ := w
  exact ⟨fun cc hi => g cc hi, fun cc => let ⟨us, vs, q1, q2, q3, _⟩ := s cc; ⟨us, vs, q1, q2, q3⟩, fun cc hi hy => y cc hi hy⟩
/-- zip(a, b): two of one kind -/
def iZ0 (ma mb : M) : MI := fun ρ => match a2 ma mb ρ with
  | .ok [e1, e2] p => (match e1.rd, e2.rd with
    | some d1, some d2 => (match seqD d1, seqD d2 with
      | some xs, some ys => if kindD d1 = kindD d2 then .ok [srcE e1, srcE e2] ((xs.zip ys).map fun p => pairE (itE e1 p.1) (itE e2 p.2)) p else .st
      | _, _ => .st)
    | _, _ => .st)
  | .ex C pl p => .ex C pl p
  | _ => .st
section
variable {X : Cx} {W : WX} {e e2 : Expr} {ma mb : M} {p pos tpos : Pos} {elts : List Expr} {kk : Nat}
theorem vi_zip0 (hg : Gl X "zip") (hm : X.mg "zip" = none) (ha : VE X W e ma) (hb : VE X W e2 mb) (hs : starEach [e, e2] X.env = (false, eval e X.env) :: starEach [e2] X.env := by rfl) (hs2 : starEach [e2] X.env = (false, eval e2 X.env) :: starEach [] X.env := by rfl)
    (hpl : (backTo pos (starEach [e2] X.env)).any (·.1) = false := by rfl) : VI X W (.Tuple elts kk tpos) (.Call (.Name "zip" p) [e, e2] [] pos) (iZ0 ma mb) := by
  refine ⟨(pi_zipA hg hm (va_cons ha (va_cons hb va_nil hs2) hs).pa hs hpl).weak fun σ H R ⟨H0, M0, τ, tv, ρ, c, q⟩ => ?_⟩
  unfold iZ0 at q
  refine ⟨H0, M0, τ, tv, ρ, c, ?_⟩
  have eq : aCons ma (aCons mb aNil) ρ = a2 ma mb ρ := rfl
  rw [eq]
  cases hm : a2 ma mb ρ with
  | st => rw [hm] at q; exact q
  | ex C pl p => rw [hm] at q; exact q
  | ok es p =>
    rw [hm] at q
    intro vs H1 hl c1 s1
    match es, vs, hl, c1, q with
    | [e1, e2], [v1, v2], _, c1, q =>
      simp only at q
      split at q
      rotate_left
      · exact q.elim
      rename_i d1 d2 h1 h2
      split at q
      rotate_left
      · exact q.elim
      rename_i xs ys s1' s2'
      split at q
      rotate_left
      · exact q.elim
      rename_i hk
      have r := c1.reads (us := [v1, v2]) (es := [e1, e2]) (ds := [d1, d2]) rfl (by simp [h1, h2])
      obtain ⟨a, us, z1, q1, p1⟩ := r.uncons.1.sq s1'
      obtain ⟨c', vs', z2, q2, p2⟩ := r.uncons.2.sq s2'
      subst z1 z2
      cases hd : kindD d1 with
      | true =>
        have hd2 : kindD d2 = true := hk ▸ hd
        rw [hd] at q1
        rw [hd2] at q2
        exact ⟨a, c', us, vs', rfl, .inl ⟨q1, q2, q _ _ H1 rfl (walk_zL h1 h2 s1' s2' hd hd2) c1.src2 s1⟩⟩
      | false =>
        have hd2 : kindD d2 = false := hk ▸ hd
        rw [hd] at q1
        rw [hd2] at q2
        exact ⟨a, c', us, vs', rfl, .inr ⟨q1, q2, q _ _ H1 rfl (walk_zT h1 h2 s1' s2' hd hd2) c1.src2 s1⟩⟩
    | [], _, _, _, q => exact q.elim
    | [_], _, _, _, q => exact q.elim
    | _ :: _ :: _ :: _, _, _, _, q => exact q.elim
end
end LP
end
section
/-! LP, part Ql: name *= e of ints. -/
namespace LP
open PySem PySem.Spec PyProof.Rows L2
def mulI (x y : Int) : Option Int := if mulOk x y = true then some (x * y) else none
section
variable {X : Cx}
theorem ip_mulC : PIp X .Mult (fun x y H Q => ∃ i j, x = .int i ∧ y = .int j ∧ CMul i j ∧ Q (.int (i * j)) H) := by
  intro pins s σ H x y v u Q I r1 r2 h
  obtain ⟨i, j, rfl, rfl, hc, q⟩ := h
  obtain ⟨t, rfl⟩ := r1
  obtain ⟨t', rfl⟩ := r2
  exact PySem.AutoIntOps.imul_0 ⟨.int _, H, I.tok _, ⟨_, rfl⟩, q⟩ hc.ok
theorem ia_mul : IpI X .Mult mulI := ⟨_, ip_mulC, fun x y z H Q h q => by
  unfold mulI at h
  split at h
  · rename_i hc
    cases h
    exact ⟨x, y, rfl, rfl, by simpa [mulOk, CMul] using hc, q⟩
  · cases h⟩
end
end LP
end
section
/-! LP, part Qm: sum(lists, []): the join. -/
namespace LP
open PySem PySem.Spec PyProof.Rows L2
def preCat (f : Nat → Array Value) : Nat → Array Value
  | 0 => #[]
  | j + 1 => preCat f j ++ f j
theorem preCat_le (f : Nat → Array Value) : ∀ {i n : Nat}, i ≤ n → (preCat f i).size ≤ (preCat f n).size
  | i, 0, h => by rw [Nat.le_zero.mp h]; exact Nat.le_refl _
  | i, n + 1, h => by
    rcases Nat.lt_or_ge i (n + 1) with q | q
    · have := preCat_le f (Nat.le_of_lt_succ q)
      simp only [preCat, Array.size_append]
      omega
    · have : i = n + 1 := by omega
      rw [this]
      exact Nat.le_refl _
def lstO (xs : Array Value) (d : Nat) : Obj := { cls := .type "list", dict := none, data := .seq xs d, slots := #[] }
section
variable {prog : Program} {w : World} {A : Around} {R : Result → Shared → Prop} {I S : Addr} {fp wr : List Addr} {n : Nat} {P : Nat → Value → Prop} {St : Nat → Heap → Prop} {h0 : Heap} {f : Nat → Array Value}
theorem code_sum_lists (W : Walks prog w A.in1 I fp wr n P St) (hval : ∀ i v, P i v → ∃ b c, v = .ref b ∧ b ∉ wr ∧ b ≠ S ∧ h0.get? b = some (lstO (f i) c)) (hz : (preCat f n).size ≤ sizeLine) (hSf : S ∉ fp) (hlive : ∀ i h, St i h → ∀ b ∈ wr, b < h.objs.size) (h0S : h0.objs.size ≤ S) :
    ∀ (k i : Nat) (s : Shared) (tot : Addr) (c d : Nat), n - i = k → i ≤ n → St i s.heap → s.heap.get? S = some (lstO #[.ref tot] c) → s.heap.get? tot = some (lstO (preCat f i) d) → tot ∉ wr → tot ≠ S → (0 < i → h0.objs.size ≤ tot) →
    (∀ b o, b ∉ wr → b ≠ S → h0.get? b = some o → s.heap.get? b = some o) →
    (∀ h' tk tot' d', (∀ b o, b ∉ wr → b ≠ S → h0.get? b = some o → h'.get? b = some o) → h'.get? tot' = some (lstO (preCat f n) d') → (0 < n → h0.objs.size ≤ tot') → R (.ok (.ret (.ref tot'))) { s with heap := h', toks := tk }) →
    codeAny (model prog w) A (.builtin "sum.loop" ⟨[.ref I, .ref S, rawInt 2, rawInt 0], []⟩) R s := by
  have hSw : S ∉ wr := fun h => hSf (W.sub _ h)
  intro k
  induction k with
  | zero =>
    intro i s tot c d hk hi hst hS hT hTw hTS hTn hkeep hR
    have hin : i = n := by omega
    subst hin
    refine codeAny_builtin F.entry_sum_loop ?_
    rw [Around.under_plainId F.plain_sum_loop _]
    show wpAny _ A.in1 (seqItems? (.ref S) >>= _) _ _ s
    refine wpAny_bind (wpAny_seqItems hS rfl ?_)
    show wpAny _ A.in1 (tryCatch (pyNext (.ref I)) _ >>= _) _ _ s
    refine wpAny_bind (wpAny_tryCatch (W.done s _ _ hst fun h' tk hk' => ?_))
    exact wpAny_pure (hR h' tk tot d (fun b o hbw hbS e => hk' b o hbw (hkeep b o hbw hbS e)) (hk' tot _ hTw hT) hTn)
  | succ k ih =>
    intro i s tot c d hk hi hst hS hT hTw hTS hTn hkeep hR
    have hlt : i < n := by omega
    refine codeAny_builtin F.entry_sum_loop ?_
    rw [Around.under_plainId F.plain_sum_loop _]
    show wpAny _ A.in1 (seqItems? (.ref S) >>= _) _ _ s
    refine wpAny_bind (wpAny_seqItems hS rfl ?_)
    show wpAny _ A.in1 (tryCatch (pyNext (.ref I)) _ >>= _) _ _ s
    refine wpAny_bind (wpAny_tryCatch (W.item i s _ _ hlt hst fun v h' tk hP hst' hk' => ?_))
    obtain ⟨b, cb, rfl, hbw, hbS, hb⟩ := hval i v hP
    have hS' := hk' S _ hSw hS
    have hT' := hk' tot _ hTw hT
    have hb' := hk' b _ hbw (hkeep b _ hbw hbS hb)
    have hsize : (preCat f i).size + (f i).size ≤ sizeLine := by
      have := preCat_le f (show i + 1 ≤ n by omega)
      simp only [preCat, Array.size_append] at this
      omega
    show wpAny _ A.in1 ((holding [Value.ref b] (binaryOp .Add (.ref tot) (.ref b))).attempt >>= _) _ _ _
    refine wpAny_bind (wpAny_attempt (wpAny_holding (PySem.P.add_list hT' hb' ?_ hsize)))
    have hSl : S < h'.objs.size := Heap.lt_size hS'
    have hpush : ∀ (c' : Addr) (o : Obj), h'.get? c' = some o → (h'.push { cls := .type "list", data := .seq (preCat f i ++ f i) }).get? c' = some o := fun c' o e => Heap.get?_push_of_some _ e
    have hS1 := hpush S _ hS'
    have hN1 : (h'.push { cls := .type "list", data := .seq (preCat f i ++ f i) }).get? h'.objs.size = some (lstO (preCat f (i + 1)) 0) := Heap.get?_push_size _ rfl
    show wpAny _ A.in1 (updateSeq S (fun _ => #[.ref h'.objs.size]) >>= _) _ _ _
    refine wpAny_bind (wpAny_updateSeq hS1 rfl ?_)
    have hS2 := Heap.get?_update_self (Obj.mapSeq fun _ => #[Value.ref h'.objs.size]) hS1 rfl
    refine wpAny_bind (wpAny_letGo ?_)
    have hne : S ≠ h'.objs.size := Nat.ne_of_lt hSl
    have oth : ∀ (c' : Addr) (o : Obj), c' ≠ S → (h'.push { cls := .type "list", data := .seq (preCat f i ++ f i) }).get? c' = some o → (((h'.push { cls := .type "list", data := .seq (preCat f i ++ f i) }).update S (Obj.mapSeq fun _ => #[Value.ref h'.objs.size])).update S (Obj.mapSeq fun _ => #[Value.ref h'.objs.size])).get? c' = some o := fun c' o z e =>
      (Heap.get?_update_other _ _ (Ne.symm z)).trans ((Heap.get?_update_other _ _ (Ne.symm z)).trans e)
    refine wpAny_bind (wpAny_updateSeq hS2 rfl (wpAny_pure ⟨plainId_quiet F.plain_sum_loop _, ih (i + 1) _ h'.objs.size _ 0 (by omega) hlt (W.frame _ _ _ hst' fun c' hc o e => ?_) (Heap.get?_update_self _ hS2 rfl) ?_ ?_ ?_ ?_ ?_ ?_⟩))
    · exact oth c' o (fun z => hSf (by rw [← z]; exact hc)) (hpush c' o e)
    · exact oth _ _ (Ne.symm hne) hN1
    · exact fun m => Nat.lt_irrefl _ (hlive _ _ hst' _ m)
    · exact Ne.symm hne
    · exact fun _ => Nat.le_of_lt (Nat.lt_of_le_of_lt h0S hSl)
    · exact fun c' o hcw hcS e => oth c' o hcS (hpush c' o (hk' c' o hcw (hkeep c' o hcw hcS e)))
    · exact fun h'' tk'' tot' d' q1 q2 q3 => hR h'' tk'' tot' d' q1 q2 q3
end
end LP
end
section
/-! LP, part Qn: sum(lists, []): the call. -/
namespace LP
open PySem PySem.Spec PyProof.Rows L2
theorem args_sum2 (a b : Value) : argsOk "sum" ⟨[a, b], []⟩ := by unfold argsOk; kernel_rfl
theorem sub_list_str : isSubtype (.type "list") (.type "str") = pure false := by rw [isSubtype_type]; kernel_rfl
theorem sub_list_bytes : isSubtype (.type "list") (.type "bytes") = pure false := by rw [isSubtype_type]; kernel_rfl
theorem sub_list_bytearray : isSubtype (.type "list") (.type "bytearray") = pure false := by rw [isSubtype_type]; kernel_rfl
section
variable {prog : Program} {w : World} {A : Around} {E : Value → Shared → Prop} {s : Shared} {ax st : Addr} {items : Array Value} {f : Nat → Array Value}
theorem call_sum_lists {d : Nat} {Q : Value → Shared → Prop} (hh : A.handled = none) (hl : s.heap.IsList ax items) (hs : s.heap.get? st = some (lstO #[] d)) (hne : 0 < items.size)
    (hf : ∀ i v, items[i]? = some v → ∃ b c, v = .ref b ∧ s.heap.get? b = some (lstO (f i) c)) (hz : (preCat f items.size).size ≤ sizeLine)
    (h : ∀ h' tk tot d', (∀ b o, s.heap.get? b = some o → h'.get? b = some o) → h'.get? tot = some (lstO (preCat f items.size) d') → s.heap.objs.size ≤ tot → Q (.ref tot) { s with heap := h', toks := tk }) :
    wpAny (model prog w) A (call (.builtin "sum") [.ref ax, .ref st]) Q E s := by
  refine call_function_tree F.kind_sum F.plain_sum F.entry_sum (args_sum2 _ _) ?_
  unfold Builtin.«sum»
  simp only [List.length_cons, List.length_nil]
  rw [if_neg (by decide)]
  refine wpAny_bind (wpAny_of_eq (show Builtin.Builtins.bindParams "sum" ["start"] 0 ⟨[.ref st], []⟩ = pure [some (.ref st)] from rfl) ?_)
  refine wpAny_bind (wpAny_pyIter_list hl ?_)
  refine wpAny_bind (wpAny_pure ?_)
  simp only [List.forIn_cons, List.forIn_nil]
  have hax : ax < s.heap.objs.size := let ⟨_, ho, _⟩ := hl; Heap.lt_size ho
  have hst : st < s.heap.objs.size := Heap.lt_size hs
  have hs1 : ∀ (b : Addr) (o : Obj), s.heap.get? b = some o → (s.heap.push { cls := .type "list_iterator", data := .fields #[.ref ax, .int 0 0] }).get? b = some o := fun b o e => Heap.get?_push_of_some _ e
  have tl : (⟨s.heap.push { cls := .type "list_iterator", data := .fields #[.ref ax, .int 0 0] }, s.gens, s.drawn, s.toks, s.os⟩ : Shared).TypeIs (.ref st) "list" := ⟨_, hs1 _ _ hs, rfl⟩
  refine wpAny_bind (wpAny_bind (wpAny_bind (wpAny_isInstance (T := "list") (b := false) tl sub_list_str ?_)))
  simp only [Bool.false_eq_true, if_false]
  refine wpAny_pure (wpAny_bind (wpAny_bind (wpAny_isInstance (T := "list") (b := false) tl sub_list_bytes ?_)))
  simp only [Bool.false_eq_true, if_false]
  refine wpAny_pure (wpAny_bind (wpAny_bind (wpAny_isInstance (T := "list") (b := false) tl sub_list_bytearray ?_)))
  simp only [Bool.false_eq_true, if_false]
  refine wpAny_pure (wpAny_pure ?_)
  refine wpAny_bind (wpAny_newObj_type ?_)
  have e1 : (s.heap.push { cls := .type "list_iterator", data := .fields #[.ref ax, .int 0 0] }).objs.size = s.heap.objs.size + 1 := Heap.size_push ..
  have hs2 : ∀ (b : Addr) (o o' : Obj), s.heap.get? b = some o → ((s.heap.push { cls := .type "list_iterator", data := .fields #[.ref ax, .int 0 0] }).push o').get? b = some o := fun b o o' e => Heap.get?_push_of_some _ (hs1 b o e)
  refine wpAny_pure ⟨plainId_quiet F.plain_sum_loop _, code_sum_lists (h0 := s.heap) (f := f) (Walks.list (A := A.in1) hh s.heap.objs.size ax (Nat.ne_of_lt hax) items) ?hval hz ?hSf ?hlive ?h0S items.size 0 _ st _ d rfl (Nat.zero_le _) ?st0 (Heap.get?_push_size _ rfl) ?hT ?hTw ?hTS ?hTn ?hkeep ?hR⟩
  case hval =>
    intro i v hv
    obtain ⟨b, c, rfl, hb⟩ := hf i v hv
    have := Heap.lt_size hb
    refine ⟨b, c, rfl, ?_, ?_, hb⟩
    · simp only [List.mem_singleton]; exact Nat.ne_of_lt this
    · exact Nat.ne_of_lt (by show b < (s.heap.push _).objs.size; rw [e1]; exact Nat.lt_succ_of_lt this)
  case hSf =>
    show (s.heap.push _).objs.size ∉ _
    rw [e1]
    simp only [List.mem_cons, List.not_mem_nil, or_false, not_or]
    exact ⟨Nat.succ_ne_self _, fun z => Nat.ne_of_lt (Nat.lt_succ_of_lt hax) z.symm⟩
  case hlive =>
    intro i h' hst' b hb
    rw [List.mem_singleton.mp hb]
    obtain ⟨⟨o, ho, _⟩, _⟩ := hst'
    exact Heap.lt_size ho
  case h0S =>
    show _ ≤ (s.heap.push _).objs.size
    rw [e1]
    exact Nat.le_succ _
  case st0 =>
    obtain ⟨o, ho, q⟩ := hl
    exact ⟨⟨_, Heap.get?_push_of_some _ (Heap.get?_push_size _ rfl), rfl, rfl⟩, o, hs2 _ _ _ ho, q⟩
  case hT => exact hs2 _ _ _ hs
  case hTw => simp only [List.mem_singleton]; exact Nat.ne_of_lt hst
  case hTS => exact Nat.ne_of_lt (by show st < (s.heap.push _).objs.size; rw [e1]; exact Nat.lt_succ_of_lt hst)
  case hTn => exact fun z => absurd z (Nat.lt_irrefl 0)
  case hkeep => exact fun b o _ _ e => hs2 b o _ e
  case hR =>
    intro h' tk tot' d' q1 q2 q3
    refine h h' tk tot' d' (fun b o e => q1 b o ?_ ?_ e) q2 (q3 hne)
    · simp only [List.mem_singleton]; exact Nat.ne_of_lt (Heap.lt_size e)
    · exact Nat.ne_of_lt (by show b < (s.heap.push _).objs.size; rw [e1]; exact Nat.lt_succ_of_lt (Heap.lt_size e))
end
end LP
end
section
/-! LP, part Qo: sum(lists, []) by values. -/
namespace LP
open PySem PySem.Spec PyProof.Rows L2
def rSumL (K : PySem.W.Frag) : List V → Hp → VK → Prop := fun us H Q => ∃ (a st : Addr) (ys : List V) (xss : List (List V)), us = [.ref a, .ref st] ∧ SqL K H a ys ∧ H st = some (.lst []) ∧ 0 < ys.length ∧ ys.length = xss.length ∧
  (∀ (i : Nat) (y : V), ys[i]? = some y → ∃ b xs, y = .ref b ∧ H b = some (.lst xs) ∧ xss[i]? = some xs) ∧ xss.flatten.length ≤ sizeLine ∧ ∀ p, H p = none → Q (.ref p) (upd H p (.lst xss.flatten))
/-- the items of the list at v -/
def itsAt (h : Heap) (items : Array Value) (i : Nat) : Array Value := match items[i]? with
  | some (.ref b) => (match h.get? b with
    | some o => (match o.data with
      | .seq xs _ => xs
      | _ => #[])
    | none => #[])
  | _ => #[]
theorem vals_cat {xss : List (List V)} {f : Nat → Array Value} (h : ∀ (i : Nat) (xs : List V), xss[i]? = some xs → Vals xs (f i).toList) : ∀ n, n ≤ xss.length → Vals (xss.take n).flatten (preCat f n).toList
  | 0, _ => (.nil : Vals [] [])
  | n + 1, hn => by
    have ih := vals_cat h n (by omega)
    have hx : xss[n]? = some xss[n] := List.getElem?_eq_getElem (by omega)
    rw [List.take_add_one, hx]
    simp only [preCat, Array.toList_append, Option.toList, List.flatten_append, List.flatten_cons, List.flatten_nil, List.append_nil]
    exact ih.append (h n _ hx)
theorem call_sumL {X : Cx} (hc : X.calm = true) : CallR X (.builtin "sum") (rSumL X.K) := by
  intro pins s σ H vs us Q I r h
  obtain ⟨a, st, ys, xss, rfl, hs, hst, hne, hlen, hin, hz, q⟩ := h
  obtain ⟨u1, u2, rfl, r1, r2⟩ := vals2 r
  obtain rfl : u1 = Value.ref a := r1
  obtain rfl : u2 = Value.ref st := r2
  obtain ⟨its, rv, hl, _⟩ := I.list hs
  obtain ⟨_, its0, n0, r0, l0, e0⟩ := I.lstM hst
  have h00 : its0 = [] := List.length_eq_zero_iff.mp l0.symm
  subst h00
  have ll := rv.length
  have key : ∀ (i : Nat) (xs : List V), xss[i]? = some xs → ∃ b c, its[i]? = some (.ref b) ∧ Vals xs (itsAt s.heap its.toArray i).toList ∧ s.heap.get? b = some (lstO (itsAt s.heap its.toArray i) c) := by
    intro i xs hx
    have hi : i < xss.length := (List.getElem?_eq_some_iff.mp hx).1
    obtain ⟨b, xs', ey, hb, hx'⟩ := hin i (ys[i]'(by omega)) (List.getElem?_eq_getElem (by omega))
    rw [hx] at hx'
    cases hx'
    obtain ⟨v, hv, rb⟩ := rv.get (List.getElem?_eq_getElem (show i < ys.length by omega))
    rw [ey] at rb
    obtain rfl : v = Value.ref b := rb
    obtain ⟨_, its2, n2, r3, _, e2⟩ := I.lstM hb
    have e3 : itsAt s.heap its.toArray i = its2.toArray := by
      unfold itsAt
      rw [List.getElem?_toArray, hv]
      simp only [e2]
    rw [e3]
    exact ⟨b, n2, hv, by simpa using r3, e2⟩
  have hcat := vals_cat (xss := xss) (f := itsAt s.heap its.toArray) (fun i xs hx => let ⟨_, _, _, q1, _⟩ := key i xs hx; q1) xss.length (Nat.le_refl _)
  rw [List.take_length] at hcat
  have hsz : its.toArray.size = xss.length := by simp; omega
  have hcl : xss.flatten.length = (preCat (itsAt s.heap its.toArray) xss.length).size := hcat.length
  refine call_sum_lists (f := itsAt s.heap its.toArray) (I.ok.hd hc) hl.isList e0 (by omega) (fun i v hv => ?_) (by rw [hsz, ← hcl]; exact hz) fun h' tk tot d' hk ht hle => ?_
  · rw [List.getElem?_toArray] at hv
    have hi : i < its.length := (List.getElem?_eq_some_iff.mp hv).1
    obtain ⟨b, c, h1, _, h2⟩ := key i (xss[i]'(by omega)) (List.getElem?_eq_getElem (by omega))
    rw [hv] at h1
    cases h1
    exact ⟨b, c, rfl, h2⟩
  · rw [hsz] at ht
    exact ⟨.ref tot, upd H tot (.lst xss.flatten), I.laid hk hle (show ObjOk X.prog X.w _ _ _ (.lst xss.flatten) from ⟨hz, _, d', hcat, by rw [Array.toArray_toList]; exact ht⟩), rfl, q tot (I.hok.fresh hle)⟩
end LP
end
section
/-! LP, part Qp: sum(lists, []). -/
namespace LP
open PySem PySem.Spec PyProof.Rows L2
def lstsD : List D → Option (List (List D))
  | [] => some []
  | .lst xs :: ds => (match lstsD ds with | some r => some (xs :: r) | none => none)
  | _ :: _ => none
theorem rp_lsts {K : PySem.W.Frag} {G : Hp} : ∀ {xs : List D} {ws : List V} {xss : List (List D)}, Rp K G ws xs → lstsD xs = some xss → ∃ vss : List (List V), ws.length = vss.length ∧ (∀ (i : Nat) (y : V), ws[i]? = some y → ∃ b vs, y = .ref b ∧ G b = some (.lst vs) ∧ vss[i]? = some vs) ∧ Rp K G vss.flatten xss.flatten
  | [], ws, xss, r, h => by
    cases h
    cases r
    exact ⟨[], rfl, fun i y q => by simp at q, .nil⟩
  | d :: xs, [], _, r, _ => nomatch r
  | d :: xs, w :: ws, xss, r, h => by
    obtain ⟨r1, r2⟩ := r.uncons
    cases r1 with
    | @lst a us _ ds _ ha rus _ =>
      simp only [lstsD] at h
      cases h2 : lstsD xs with
      | none => rw [h2] at h; cases h
      | some r' =>
        rw [h2] at h
        cases h
        obtain ⟨vss, e1, e2, e3⟩ := rp_lsts r2 h2
        refine ⟨us :: vss, by simp [e1], fun i y q => ?_, ?_⟩
        · cases i with
          | zero => simp at q; subst q; exact ⟨a, us, rfl, ha, rfl⟩
          | succ i => exact e2 i y (by simpa using q)
        · rw [List.flatten_cons, List.flatten_cons]
          exact rus.app e3
    | _ => cases h
def fSumL (es : List E) : Option Rs := match es with
  | [e1, e2] => (match e1.rd, itm e1, e2.rd with
    | some (.lst _), some xs, some (.lst []) => (match lstsD xs with
      | some xss => if 0 < xs.length ∧ xss.flatten.length ≤ sizeLine then some (.nl xss.flatten) else none
      | none => none)
    | _, _, _ => none)
  | _ => none
theorem pf_sumL {K : PySem.W.Frag} : PureF K (rSumL K) fSumL := by
  intro H zs es us R Q hm fl h dl
  unfold fSumL at h
  split at h
  rotate_left
  · cases h
  rename_i e1 e2
  split at h
  rotate_left
  · cases h
  rename_i xs0 xs hd hi hd2
  split at h
  rotate_left
  · cases h
  rename_i xss hx
  split at h
  rotate_left
  · cases h
  rename_i hb
  cases h
  obtain rfl := itm_lst hd hi
  obtain ⟨a, ws, us1, rfl, q1, q2, f1⟩ := fl.lstIt hm hd hi
  obtain ⟨y, us2, rfl, r2, f2⟩ := f1.rd1 hd2
  have := f2.one
  subst this
  obtain ⟨vss, e1', e2', e3⟩ := rp_lsts q2 hx
  cases r2 with
  | @lst st us0 _ _ _ ha rus _ =>
    cases rus
    refine ⟨a, st, ws, vss, rfl, SqL.of q1, ha, by rw [q2.length]; exact hb.1, e1', fun i y q => ?_, by rw [e3.length]; exact hb.2, fun p hp => dl p _ hp e3⟩
    obtain ⟨b, vs, z1, z2, z3⟩ := e2' i y q
    exact ⟨b, vs, z1, (hid_some z2).2, z3⟩
section
variable {X : Cx} {W : WX} {a b : Expr} {ma mb : M} {p pos : Pos}
theorem ve_sumL (hc : X.calm = true) (hg : Gl X "sum") (hm : X.mg "sum" = none) (ha : VE X W a ma) (hb : VE X W b mb) (he : starEach [a, b] X.env = (false, eval a X.env) :: starEach [b] X.env := by rfl) (he2 : starEach [b] X.env = (false, eval b X.env) :: starEach [] X.env := by rfl) :
    VE X W (.Call (.Name "sum" p) [a, b] [] pos) (mF fSumL (a2 ma mb)) := ve_callB pf_sumL (call_sumL hc) hg hm (by decide +kernel) (va_cons ha (va_cons hb va_nil he2) he) (he := he) (hpl := by rw [he2]; rfl)
end
end LP
end
section
/-! MQ, part a: reading denotations: comprehensions. -/
namespace LP
open PySem PySem.Spec PyProof.Rows L2
theorem lcRun_opt {is : List Nat} {g : E → Rho → Option Rho} {tst elt : M} {s : Sh} {nb : Bool} {ρ : Rho} {f : E → Option D} : ∀ (items : List E) (acc : List D), (∀ e ∈ items, lcTurn is g tst elt s e ρ = some (f e, none)) →
    lcRun is g tst elt s nb ρ items none acc = some (acc ++ items.filterMap f, none)
  | [], acc, _ => by simp [lcRun]
  | e :: es, acc, h => by
    have h1 := h e List.mem_cons_self
    show (match lcTurn is g tst elt s e ρ with
      | none => none
      | some (od, q) => if (q.isSome && nb) = true then none else lcRun is g tst elt s nb ρ es (por none q) (acc ++ od.toList)) = _
    rw [h1]
    show lcRun is g tst elt s nb ρ es none (acc ++ (f e).toList) = _
    rw [lcRun_opt es _ fun e' m => h e' (List.mem_cons_of_mem _ m)]
    cases hf : f e <;> simp [List.filterMap_cons, hf]
theorem lcRun_map {is : List Nat} {g : E → Rho → Option Rho} {tst elt : M} {s : Sh} {nb : Bool} {ρ : Rho} {f : E → D} {items : List E} {acc : List D} (h : ∀ e ∈ items, lcTurn is g tst elt s e ρ = some (some (f e), none)) :
    lcRun is g tst elt s nb ρ items none acc = some (acc ++ items.map f, none) := by
  rw [lcRun_opt (f := fun e => some (f e)) items acc h]
  congr 2
  induction items with
  | nil => rfl
  | cons e es ih => simp [List.filterMap_cons]
/-- the items of a frozen list of data -/
theorem lcRun_vals {is : List Nat} {g : E → Rho → Option Rho} {tst elt : M} {s : Sh} {nb : Bool} {ρ : Rho} {α : Type} {c : α → D} {f : α → D} {xs : List α} {acc : List D} (h : ∀ x ∈ xs, lcTurn is g tst elt s (.o .v (c x)) ρ = some (some (f x), none)) :
    lcRun is g tst elt s nb ρ (xs.map fun x => .o .v (c x)) none acc = some (acc ++ xs.map f, none) := by
  induction xs generalizing acc with
  | nil => simp [lcRun]
  | cons x xs ih =>
    show (match lcTurn is g tst elt s (.o .v (c x)) ρ with
      | none => none
      | some (od, q) => if (q.isSome && nb) = true then none else lcRun is g tst elt s nb ρ (xs.map fun x => .o .v (c x)) (por none q) (acc ++ od.toList)) = _
    rw [h x List.mem_cons_self]
    show lcRun is g tst elt s nb ρ (xs.map fun x => .o .v (c x)) none (acc ++ [f x]) = _
    rw [ih fun y m => h y (List.mem_cons_of_mem _ m)]
    simp
/-- a comprehension over frozen data, no test: every turn answers -/
theorem mLc_vals {is : List Nat} {it : MI} {g : E → Rho → Option Rho} {elt : M} {s : Sh} {ρ : Rho} {srcs : List E} {α : Type} {c f : α → D} {xs : List α} (hi : it ρ = .ok srcs (xs.map fun x => .o .v (c x)) none) (ha : allX is ρ = true) (hl : xs.length ≤ 16777215)
    (h : ∀ x ∈ xs, lcTurn is g (mC (.bl true)) elt s (.o .v (c x)) ρ = some (some (f x), none)) : mLc s is it g (mC (.bl true)) elt ρ = .ok (.o (.l s) (.lst (xs.map f))) none := by
  unfold mLc
  rw [hi]
  have hl' : (xs.map fun x => E.o .v (c x)).length ≤ 16777215 := by rw [List.length_map]; exact hl
  simp only [Option.getD]
  rw [if_pos ⟨ha, hl'⟩, lcRun_vals h]
  rfl
theorem iSeq_tup {m : M} {ρ : Rho} {α : Type} {c : α → D} {xs : List α} (h : m ρ = .ok (.o .v (.tup (xs.map c))) none) : iSeq m ρ = .ok [.o .v (.tup (xs.map c))] (xs.map fun x => .o .v (c x)) none := by
  simp [iSeq, h, E.rd, srcE, itE, Function.comp_def]
theorem iSeq_lst {m : M} {ρ : Rho} {α : Type} {c : α → D} {xs : List α} (h : m ρ = .ok (.o .v (.lst (xs.map c))) none) : iSeq m ρ = .ok [.o .v (.lst (xs.map c))] (xs.map fun x => .o .v (c x)) none := by
  simp [iSeq, h, E.rd, srcE, itE, Function.comp_def]
theorem blsD_of {α : Type} (p : α → Bool) : ∀ xs : List α, blsD (xs.map fun x => D.bl (p x)) = some (xs.map p)
  | [] => rfl
  | x :: xs => by
    show (match blsD (xs.map fun x => D.bl (p x)) with | some ns => some (p x :: ns) | none => none) = _
    rw [blsD_of p xs]
    rfl
theorem intsD_of {α : Type} (p : α → Int) : ∀ xs : List α, intsD (xs.map fun x => D.int (p x)) = some (xs.map p)
  | [] => rfl
  | x :: xs => by
    show (match intsD (xs.map fun x => D.int (p x)) with | some ns => some (p x :: ns) | none => none) = _
    rw [intsD_of p xs]
    rfl
theorem fAll_map {α : Type} (p : α → Bool) (xs : List α) : fAll [.o (.l .v) (.lst (xs.map fun x => D.bl (p x)))] = some (.f (.bl (xs.all p))) := by
  show (match blsD (xs.map fun x => D.bl (p x)) with | some ns => some (Rs.f (.bl (ns.all id))) | none => none) = _
  rw [blsD_of]
  simp [List.all_map, Function.comp_def]
theorem fAny_map {α : Type} (p : α → Bool) (xs : List α) : fAny [.o (.l .v) (.lst (xs.map fun x => D.bl (p x)))] = some (.f (.bl (xs.any p))) := by
  show (match blsD (xs.map fun x => D.bl (p x)) with | some ns => some (Rs.f (.bl (ns.any id))) | none => none) = _
  rw [blsD_of]
  simp [List.any_map, Function.comp_def]
end LP
end
section
/-! MQ, part b: reading denotations: single steps. -/
namespace LP
open PySem PySem.Spec PyProof.Rows L2
section
variable {m ma mb mc : M} {ms : Rho → AO} {ρ ρ1 : Rho} {e : E} {es : List E} {p : Option Rho} {b : Bool} {a c t : MS} {f : List E → Option Rs} {R : Rs}
theorem mIs_at {Ts : List String} (h : m ρ = .ok e p) (hb : e.rd.bind (isAny Ts) = some b) : mIs Ts m ρ = .ok (.o .v (.bl b)) p := by simp [mIs, h, hb]
theorem mTru_at (h : m ρ = .ok e p) (hb : e.rd.bind tru = some b) : mTru m ρ = .ok (.o .v (.bl b)) p := by simp [mTru, h, hb]
theorem mNotB_at (h : m ρ = .ok e p) (hb : blE e = some b) : mNotB m ρ = .ok (.o .v (.bl !b)) p := by simp [mNotB, h, hb]
theorem mOrB_t (h : ma ρ = .ok e p) (hb : blE e = some true) : mOrB ma mb ρ = .ok (.o .v (.bl true)) p := by simp [mOrB, h, hb]
theorem mOrB_f (h : ma ρ = .ok e none) (hb : blE e = some false) : mOrB ma mb ρ = mb ρ := by
  unfold mOrB
  rw [h]
  simp only [hb, Option.getD]
  show (mb ρ).after none = mb ρ
  cases mb ρ with
  | ok e q => cases q <;> rfl
  | ex C pl q => cases q <;> rfl
  | st => rfl
theorem mF_at (h : ms ρ = .ok es p) (hf : f es = some R) : mF f ms ρ = .ok (resE R) p := by simp [mF, h, hf]
theorem aCons1 (h : m ρ = .ok e none) : aCons m aNil ρ = .ok [e] none := by simp [aCons, aNil, h, kq, por]
theorem or_false (r : SO) : r.or false = r := by cases r <;> simp [SO.or]
theorem sIf_t (h : m ρ = .ok e none) (hb : blE e = some true) : sIf m a c ρ = a ρ := by
  unfold sIf
  rw [h]
  simp only [hb, Option.getD, Option.isSome]
  exact or_false _
theorem sIf_f (h : m ρ = .ok e none) (hb : blE e = some false) : sIf m a c ρ = c ρ := by
  unfold sIf
  rw [h]
  simp only [hb, Option.getD, Option.isSome]
  exact or_false _
theorem sSeq_nx {k : Bool} (h : a ρ = .nx ρ1 k) : sSeq a c ρ = (c ρ1).or k := by simp [sSeq, h]
theorem sSeq_n (h : a ρ = .nx ρ1 false) : sSeq a c ρ = c ρ1 := by rw [sSeq_nx h, or_false]
theorem sSeq_rt {k : Bool} (h : a ρ = .rt e ρ1 k) : sSeq a c ρ = .rt e ρ1 k := by simp [sSeq, h]
theorem sRet_at (h : m ρ = .ok e none) : sRet m ρ = .rt e ρ false := by simp [sRet, h]
theorem sSet_at {i : Nat} (h : m ρ = .ok e none) (hi : i < ρ.length ∧ isP e = false) : sSet i m ρ = .nx (ρ.set i e) false := by
  unfold sSet
  rw [h]
  simp only [Option.getD, Option.isSome]
  rw [if_pos hi]
/-- a def whose body returns a value -/
theorem fnM_rt {mt : List Bool} {N : Nat} {d : MS} {es es' : List E} {ρ' : Rho} {k : Bool} (ho : es.all isOV = true) (h : d (pinE mt es ++ List.replicate (N - mt.length) .x) = .rt e ρ' k) (hl : leafE e = true ∧ isOV e = true) (hk : keepE mt ρ' = some es') : fnM mt N d es = .rt e es' := by
  unfold fnM
  rw [if_pos ho, h]
  simp only
  rw [if_pos hl, hk]
end
end LP
end
section
/-! MR, part a: reading denotations: one lemma for each construct, to be found by its head. -/
namespace LP
open PySem PySem.Spec PyProof.Rows L2

abbrev eI (i : Int) : E := .o .v (.int i)
abbrev eB (b : Bool) : E := .o .v (.bl b)
abbrev eV (d : D) : E := .o .v d
abbrev eL (s : Sh) (xs : List D) : E := .o (.l s) (.lst xs)

section
variable {m ma mb mc mt_ : M} {ms : Rho → AO} {ρ ρ1 ρ2 : Rho} {e e1 e2 e3 : E} {es cs : List E} {p q : Option Rho} {b b1 b2 : Bool} {a c t : MS} {f : List E → Option Rs} {R : Rs} {i j : Nat} {d d1 d2 d3 : D} {s : Sh} {xs ys : List D} {C : Addr} {ns : List Str} {ss : List Sh} {x y z : Int}
/-! names -/
theorem mVar_v (h : ρ[i]? = some (.o .v d)) : mVar i ρ = .ok (.o .v d) none := by simp [mVar, h, rdE]
theorem mVar_l (h : ρ[i]? = some (.o (.l s) (.lst xs))) : mVar i ρ = .ok (.b (.lst xs)) none := by simp [mVar, h, rdE, mkR, imm]
theorem mVar_b (h : ρ[i]? = some (.b (.lst xs))) : mVar i ρ = .ok (.b (.lst xs)) none := by simp [mVar, h, mkR, imm]
theorem mVar_pl (h : ρ[i]? = some (.p s (.lst xs))) : mVar i ρ = .ok (.b (.lst xs)) none := by simp [mVar, h, rdE, mkR, imm]
theorem mVar_ob (h : ρ[i]? = some (.o (.ob ss) (.ob C ns xs))) : mVar i ρ = .ok (.b (.ob C ns xs)) none := by simp [mVar, h, rdE, mkR, imm]
theorem mVar_po (h : ρ[i]? = some (.p s (.ob C ns xs))) : mVar i ρ = .ok (.b (.ob C ns xs)) none := by simp [mVar, h, rdE, mkR, imm]
theorem mVar_dk {ks : List Key} (h : ρ[i]? = some (.o (.dk s) (.dk ks xs))) : mVar i ρ = .ok (.b (.dk ks xs)) none := by simp [mVar, h, rdE, mkR, imm]
theorem mC_at : mC d ρ = .ok (.o .v d) none := rfl
theorem mMv_at (h : ρ[i]? = some (.o s d)) : mMv i ρ = .ok (.o s d) (some (ρ.set i .x)) := by simp [mMv, h]
/-! argument lists -/
theorem aNil_at : aNil ρ = .ok [] none := rfl
theorem aCons_nn (h : m ρ = .ok e none) (h2 : ms ρ = .ok es none) : aCons m ms ρ = .ok (e :: es) none := by simp [aCons, h, h2, kq, por]
theorem aCons_ne (h : m ρ = .ok (.o s d) none) (h2 : ms ρ = .ok es (some ρ1)) : aCons m ms ρ = .ok (.o s d :: es) (some ρ1) := by simp [aCons, h, h2, kq, por, kill]
theorem aCons_en (h : m ρ = .ok e (some ρ1)) (h2 : ms ρ1 = .ok es none) : aCons m ms ρ = .ok (e :: es) (some ρ1) := by simp [aCons, h, h2, kq, por]
theorem aCons_ee (h : m ρ = .ok (.o s d) (some ρ1)) (h2 : ms ρ1 = .ok es (some ρ2)) : aCons m ms ρ = .ok (.o s d :: es) (some ρ2) := by simp [aCons, h, h2, kq, por, kill]
theorem a2_is (h : aCons ma (aCons mb aNil) ρ = .ok es p) : a2 ma mb ρ = .ok es p := h
theorem a1_is (h : aCons ma aNil ρ = .ok es p) : a1 ma ρ = .ok es p := h
theorem a3_is (h : aCons ma (aCons mb (aCons mc aNil)) ρ = .ok es p) : a3 ma mb mc ρ = .ok es p := h
/-! an operation by values: the value's form -/
theorem mF_i (h : ms ρ = .ok es p) (hf : f es = some (.r (.int x))) : mF f ms ρ = .ok (eI x) p := by simp [mF, h, hf, resE, mkR, imm]
theorem mF_f (h : ms ρ = .ok es p) (hf : f es = some (.f d)) : mF f ms ρ = .ok (.o .v d) p := by simp [mF, h, hf, resE]
theorem mF_nl (h : ms ρ = .ok es p) (hf : f es = some (.nl xs)) : mF f ms ρ = .ok (.o (.l .v) (.lst xs)) p := by simp [mF, h, hf, resE]
theorem mF_nt (h : ms ρ = .ok es p) (hf : f es = some (.nt xs)) : mF f ms ρ = .ok (.o .v (.tup xs)) p := by simp [mF, h, hf, resE]
theorem mF_t (h : ms ρ = .ok es p) (hf : f es = some (.t xs)) : mF f ms ρ = .ok (.o .v (.tup xs)) p := by simp [mF, h, hf, resE]
theorem mF_rl (h : ms ρ = .ok es p) (hf : f es = some (.r (.lst xs))) : mF f ms ρ = .ok (.b (.lst xs)) p := by simp [mF, h, hf, resE, mkR, imm]
theorem mF_ri (h : ms ρ = .ok es p) (hf : f es = some (.r d)) (hi : imm d = true) : mF f ms ρ = .ok (.o .v d) p := by simp [mF, h, hf, resE, mkR, hi]
/-! tests -/
theorem mOp_at {g : D → D → Option D} (h : a2 ma mb ρ = .ok [e1, e2] p) (h1 : e1.rd = some d1) (h2 : e2.rd = some d2) (hg : g d1 d2 = some d) : mOp g ma mb ρ = .ok (.o .v d) p := by simp [mOp, h, h1, h2, hg]
theorem mTru_b (h : m ρ = .ok (eB b) p) : mTru m ρ = .ok (eB b) p := by simp [mTru, h, E.rd, tru]
theorem mTru_i (h : m ρ = .ok (eI x) p) : mTru m ρ = .ok (eB (x != 0)) p := by simp [mTru, h, E.rd, tru]
theorem mTru_e (h : m ρ = .ok e p) (hb : e.rd.bind tru = some b) : mTru m ρ = .ok (eB b) p := by simp [mTru, h, hb]
theorem mNot_e (h : m ρ = .ok e p) (hb : e.rd.bind tru = some b) : mNot m ρ = .ok (eB (!b)) p := by simp [mNot, h, hb]
theorem mNotB_b (h : m ρ = .ok (eB b) p) : mNotB m ρ = .ok (eB (!b)) p := by simp [mNotB, h, blE, E.rd]
theorem mAndB_b (h : ma ρ = .ok (eB b1) none) (h2 : b1 = true → mb ρ = .ok (eB b2) none) : mAndB ma mb ρ = .ok (eB (b1 && b2)) none := by
  cases b1 with
  | false => simp [mAndB, h, blE, E.rd]
  | true => simp [mAndB, h, blE, E.rd, h2 rfl, EO.after, por]
theorem mOrB_b (h : ma ρ = .ok (eB b1) none) (h2 : b1 = false → mb ρ = .ok (eB b2) none) : mOrB ma mb ρ = .ok (eB (b1 || b2)) none := by
  cases b1 with
  | true => simp [mOrB, h, blE, E.rd]
  | false => simp [mOrB, h, blE, E.rd, h2 rfl, EO.after, por]
theorem mAnd_t (h : ma ρ = .ok e none) (ht : e.rd.bind tru = some true) : mAnd ma mb ρ = mb ρ := by
  simp only [mAnd, h, ht, Option.getD]
  cases mb ρ with
  | ok e q => cases q <;> rfl
  | ex C pl q => cases q <;> rfl
  | st => rfl
theorem mAnd_f (h : ma ρ = .ok e p) (ht : e.rd.bind tru = some false) : mAnd ma mb ρ = .ok e p := by simp [mAnd, h, ht]
theorem mOr_t (h : ma ρ = .ok e p) (ht : e.rd.bind tru = some true) : mOr ma mb ρ = .ok e p := by simp [mOr, h, ht]
theorem mOr_f (h : ma ρ = .ok e none) (ht : e.rd.bind tru = some false) : mOr ma mb ρ = mb ρ := by
  simp only [mOr, h, ht, Option.getD]
  cases mb ρ with
  | ok e q => cases q <;> rfl
  | ex C pl q => cases q <;> rfl
  | st => rfl
/-- and, of bools -/
theorem mAnd_bb (h : ma ρ = .ok (eB b1) none) (h2 : b1 = true → mb ρ = .ok (eB b2) none) : mAnd ma mb ρ = .ok (eB (b1 && b2)) none := by
  cases b1 with
  | false => simp [mAnd, h, E.rd, tru]
  | true => rw [mAnd_t h rfl, h2 rfl]; rfl
theorem mOr_bb (h : ma ρ = .ok (eB b1) none) (h2 : b1 = false → mb ρ = .ok (eB b2) none) : mOr ma mb ρ = .ok (eB (b1 || b2)) none := by
  cases b1 with
  | true => simp [mOr, h, E.rd, tru]
  | false => rw [mOr_f h rfl, h2 rfl]; rfl
theorem mIfE_t (h : mc ρ = .ok (eB true) none) : mIfE mc ma mb ρ = ma ρ := by
  simp only [mIfE, h, blE, E.rd, Option.getD]
  cases ma ρ with
  | ok e q => cases q <;> rfl
  | ex C pl q => cases q <;> rfl
  | st => rfl
theorem mIfE_f (h : mc ρ = .ok (eB false) none) : mIfE mc ma mb ρ = mb ρ := by
  simp only [mIfE, h, blE, E.rd, Option.getD]
  cases mb ρ with
  | ok e q => cases q <;> rfl
  | ex C pl q => cases q <;> rfl
  | st => rfl
theorem mIs_v {Ts : List String} (h : m ρ = .ok e p) {dd : D} (hd : e.rd = some dd) (hb : isAny Ts dd = some b) : mIs Ts m ρ = .ok (eB b) p := by simp [mIs, h, hd, hb]

/-! calls -/
theorem mCall_at {g : List E → FO} {es' : List E} (h : ms ρ = .ok es p) (hf : frz es = some cs) (hm : g cs = .rt e es') : mCall g ms ρ = .ok e p := by simp [mCall, h, hf, hm]
end

/-! ### statements, up to the mark -/
def Nx (r : SO) (ρ : Rho) : Prop := ∃ k, r = .nx ρ k
def Rt (r : SO) (e : E) (ρ : Rho) : Prop := ∃ k, r = .rt e ρ k
section
variable {m ma mb mc : M} {ms : Rho → AO} {ρ ρ1 ρ2 : Rho} {e e1 e2 : E} {es cs : List E} {p q : Option Rho} {b k : Bool} {a c t : MS} {i j : Nat} {d : D} {s : Sh} {r : SO}
theorem Nx.or (h : Nx r ρ) : Nx (r.or k) ρ := by obtain ⟨k', rfl⟩ := h; exact ⟨_, rfl⟩
theorem Rt.or (h : Rt r e ρ) : Rt (r.or k) e ρ := by obtain ⟨k', rfl⟩ := h; exact ⟨_, rfl⟩
theorem nx_nx : Nx (sNx ρ) ρ := ⟨_, rfl⟩
theorem nx_seq (h : Nx (a ρ) ρ1) (h2 : Nx (c ρ1) ρ2) : Nx (sSeq a c ρ) ρ2 := by
  obtain ⟨k, h⟩ := h
  rw [show sSeq a c ρ = (c ρ1).or k by simp [sSeq, h]]
  exact h2.or
theorem rt_seq (h : Nx (a ρ) ρ1) (h2 : Rt (c ρ1) e ρ2) : Rt (sSeq a c ρ) e ρ2 := by
  obtain ⟨k, h⟩ := h
  rw [show sSeq a c ρ = (c ρ1).or k by simp [sSeq, h]]
  exact h2.or
theorem rt_seq1 (h : Rt (a ρ) e ρ1) : Rt (sSeq a c ρ) e ρ1 := by
  obtain ⟨k, h⟩ := h
  exact ⟨k, by simp [sSeq, h]⟩
theorem nx_set (h : m ρ = .ok e p) (hi : i < (p.getD ρ).length) (he : isP e = false) : Nx (sSet i m ρ) ((p.getD ρ).set i e) := ⟨p.isSome, by simp [sSet, h, hi, he]⟩
theorem nx_set0 (h : m ρ = .ok e none) (hi : i < ρ.length) (he : isP e = false) : Nx (sSet i m ρ) (ρ.set i e) := ⟨false, by simp [sSet, h, hi, he]⟩
theorem nx_set1 (h : m ρ = .ok e (some ρ1)) (hi : i < ρ1.length) (he : isP e = false) : Nx (sSet i m ρ) (ρ1.set i e) := ⟨true, by simp [sSet, h, hi, he]⟩
theorem nx_expr0 (h : m ρ = .ok e none) : Nx (sExpr m ρ) ρ := ⟨false, by simp [sExpr, h]⟩
theorem nx_expr1 (h : m ρ = .ok e (some ρ1)) : Nx (sExpr m ρ) ρ1 := ⟨true, by simp [sExpr, h]⟩
theorem rt_ret0 (h : m ρ = .ok e none) : Rt (sRet m ρ) e ρ := ⟨false, by simp [sRet, h]⟩
theorem rt_ret1 (h : m ρ = .ok e (some ρ1)) : Rt (sRet m ρ) e ρ1 := ⟨true, by simp [sRet, h]⟩
theorem rt_retN : Rt (sRetN ρ) (.o .v .non) ρ := ⟨_, rfl⟩
theorem nx_if_t (h : m ρ = .ok (eB b) none) (hb : b = true) (h2 : Nx (a ρ) ρ1) : Nx (sIf m a c ρ) ρ1 := by
  subst hb
  rw [show sIf m a c ρ = (a ρ).or false by simp [sIf, h, blE, E.rd]]
  exact h2.or
theorem nx_if_f (h : m ρ = .ok (eB b) none) (hb : b = false) (h2 : Nx (c ρ) ρ1) : Nx (sIf m a c ρ) ρ1 := by
  subst hb
  rw [show sIf m a c ρ = (c ρ).or false by simp [sIf, h, blE, E.rd]]
  exact h2.or
theorem rt_if_t (h : m ρ = .ok (eB b) none) (hb : b = true) (h2 : Rt (a ρ) e ρ1) : Rt (sIf m a c ρ) e ρ1 := by
  subst hb
  rw [show sIf m a c ρ = (a ρ).or false by simp [sIf, h, blE, E.rd]]
  exact h2.or
theorem rt_if_f (h : m ρ = .ok (eB b) none) (hb : b = false) (h2 : Rt (c ρ) e ρ1) : Rt (sIf m a c ρ) e ρ1 := by
  subst hb
  rw [show sIf m a c ρ = (c ρ).or false by simp [sIf, h, blE, E.rd]]
  exact h2.or
theorem nx_aug {x y z : Int} {f : Int → Int → Option Int} (h0 : ρ[i]? = some (eI x)) (h : m ρ = .ok (eI y) p) (hf : f x y = some z) (hi : i < (p.getD ρ).length) : Nx (sAug i f m ρ) ((p.getD ρ).set i (eI z)) := ⟨p.isSome, by simp [sAug, h0, E.rd, isP, h, hf, hi]⟩
theorem nx_asg {g : E → Rho → Option Rho} (h : m ρ = .ok e p) (hg : g e (p.getD ρ) = some ρ1) : Nx (sAsg g m ρ) ρ1 := ⟨p.isSome, by simp [sAsg, h, hg]⟩
theorem nx_par (h : a2 ma mb ρ = .ok [e1, e2] p) (hi : i < (p.getD ρ).length) (hj : j < (p.getD ρ).length) (h1 : isP e1 = false) (h2 : isP e2 = false) : Nx (sPar i j ma mb ρ) (((p.getD ρ).set j e2).set i e1) := ⟨p.isSome, by simp [sPar, h, hi, hj, h1, h2]⟩
theorem nx_fz {is : List Nat} (h : Nx (a (frzS is ρ)) ρ1) : Nx (sFz is a ρ) ρ1 := h
theorem rt_fz {is : List Nat} (h : Rt (a (frzS is ρ)) e ρ1) : Rt (sFz is a ρ) e ρ1 := h
/-- a def -/
theorem fn_rt {mt : List Bool} {N : Nat} {dd : MS} {es es' : List E} {ρ0 ρ' : Rho} (h : Rt (dd ρ0) e ρ') (h0 : pinE mt es ++ List.replicate (N - mt.length) .x = ρ0 := by rfl) (ho : es.all isOV = true := by rfl) (hl : leafE e = true ∧ isOV e = true) (hk : keepE mt ρ' = some es') : fnM mt N dd es = .rt e es' := by
  obtain ⟨k, h⟩ := h
  subst h0
  exact fnM_rt ho h hl hk
theorem fn_nx {mt : List Bool} {N : Nat} {dd : MS} {es es' : List E} {ρ0 ρ' : Rho} (h : Nx (dd ρ0) ρ') (h0 : pinE mt es ++ List.replicate (N - mt.length) .x = ρ0 := by rfl) (ho : es.all isOV = true := by rfl) (hk : keepE mt ρ' = some es') : fnM mt N dd es = .rt (.o .v .non) es' := by
  obtain ⟨k, h⟩ := h
  subst h0
  unfold fnM
  rw [if_pos ho, h]
  simp only
  rw [hk]
end
end LP
end
section
/-! MR, part b: loops and comprehensions. -/
namespace LP
open PySem PySem.Spec PyProof.Rows L2

section
variable {it : MI} {g : E → Rho → Option Rho} {b : MS} {srcs items : List E} {ρ ρ0 ρ' : Rho} {p : Option Rho} {e : E}
theorem kf_o {k : Bool} {s : Sh} {d : D} : kf k (.o s d) = .o s d := by cases k <;> rfl
def isOe : E → Bool
  | .o _ _ => true
  | _ => false
theorem kf_of {k : Bool} (h : isOe e = true) : kf k e = e := by cases e <;> simp [isOe] at h; exact kf_o
theorem forRun_inv {turn : E → Rho → SO} {nb : Bool} (hnb : nb = false) (P : Nat → Rho → Prop) (R : E → Rho → Prop) : ∀ (items : List E) (n : Nat) (ρ : Rho) (k : Bool), (∀ e ∈ items, isOe e = true) →
    (∀ i e ρ, items[i]? = some e → P (n + i) ρ → (∃ ρ', Nx (turn e ρ) ρ' ∧ P (n + i + 1) ρ') ∨ ∃ x ρ', Rt (turn e ρ) x ρ' ∧ R x ρ') → P n ρ →
    (∃ ρ', Nx (forRun nb turn items ρ k) ρ' ∧ P (n + items.length) ρ') ∨ ∃ x ρ', Rt (forRun nb turn items ρ k) x ρ' ∧ R x ρ'
  | [], n, ρ, k, _, _, h0 => .inl ⟨ρ, ⟨k, rfl⟩, h0⟩
  | e :: es, n, ρ, k, hb, ht, h0 => by
    subst hnb
    unfold forRun
    rw [kf_of (hb e List.mem_cons_self)]
    rcases ht 0 e ρ rfl h0 with ⟨ρ1, ⟨k1, h1⟩, h2⟩ | ⟨x, ρ1, ⟨k1, h1⟩, h2⟩
    · rw [h1]
      simp only [Bool.and_false, Bool.false_eq_true, if_false]
      have h3 := forRun_inv (nb := false) rfl P R es (n + 1) ρ1 (k || k1) (fun e he => hb e (List.mem_cons_of_mem _ he)) (fun i e' ρ2 hi hp => by
        have := ht (i + 1) e' ρ2 (by simpa using hi) (by rw [show n + (i + 1) = n + 1 + i by omega]; exact hp)
        rw [show n + (i + 1) + 1 = n + 1 + i + 1 by omega] at this
        exact this) h2
      rw [List.length_cons, show n + (es.length + 1) = n + 1 + es.length by omega]
      exact h3
    · rw [h1]
      exact .inr ⟨x, ρ1, ⟨_, rfl⟩, h2⟩
/-- a loop over frozen things: either it runs through, P behind, or it returns -/
theorem for_at (P : Nat → Rho → Prop) (R : E → Rho → Prop) (hi : it ρ = .ok srcs items p) (hn : noB srcs = true) (ho : ∀ e ∈ items, isOe e = true)
    (ht : ∀ i e ρ, items[i]? = some e → P i ρ → (∃ ρ', Nx (forTurn g b e ρ) ρ' ∧ P (i + 1) ρ') ∨ ∃ x ρ', Rt (forTurn g b e ρ) x ρ' ∧ R x ρ') (h0 : P 0 (p.getD ρ)) :
    (∃ ρ', Nx (sFor it g b ρ) ρ' ∧ P items.length ρ') ∨ ∃ x ρ', Rt (sFor it g b ρ) x ρ' ∧ R x ρ' := by
  have h := forRun_inv (turn := forTurn g b) (nb := !noB srcs) (by rw [hn]; rfl) P R items 0 (p.getD ρ) false ho (fun i e ρ h1 h2 => by simpa using ht i e ρ h1 (by simpa using h2)) h0
  unfold sFor
  rw [hi]
  simp only [Nat.zero_add] at h
  rcases h with ⟨ρ1, h1, h2⟩ | ⟨x, ρ1, h1, h2⟩
  · exact .inl ⟨ρ1, h1.or, h2⟩
  · exact .inr ⟨x, ρ1, h1.or, h2⟩
/-- .. that never returns -/
theorem for_nx (P : Nat → Rho → Prop) (hi : it ρ = .ok srcs items p) (hn : noB srcs = true) (ho : ∀ e ∈ items, isOe e = true)
    (ht : ∀ i e ρ, items[i]? = some e → P i ρ → ∃ ρ', Nx (forTurn g b e ρ) ρ' ∧ P (i + 1) ρ') (h0 : P 0 (p.getD ρ)) : ∃ ρ', Nx (sFor it g b ρ) ρ' ∧ P items.length ρ' := by
  rcases for_at P (fun _ _ => False) hi hn ho (fun i e ρ h1 h2 => .inl (ht i e ρ h1 h2)) h0 with h | ⟨_, _, _, h⟩
  · exact h
  · exact h.elim
theorem nx_turn {e : E} (hg : g e ρ = some ρ0) (h : Nx (b ρ0) ρ') : Nx (forTurn g b e ρ) ρ' := by
  unfold forTurn; rw [hg]; exact h
theorem rt_turn {e x : E} (hg : g e ρ = some ρ0) (h : Rt (b ρ0) x ρ') : Rt (forTurn g b e ρ) x ρ' := by
  unfold forTurn; rw [hg]; exact h
end
/-! ### comprehensions -/
section
variable {it : MI} {g : E → Rho → Option Rho} {tst elt : M} {srcs items : List E} {ρ ρ0 ρ2 : Rho} {p q : Option Rho} {e ee : E} {is : List Nat} {s : Sh} {d : D}
/-- a turn that changes nothing -/
theorem turn_p (hg : g e ρ = some ρ2) (ht : tst ρ2 = .ok (eB true) none) (he : elt ρ2 = .ok ee none) (hf : frS s ee = some d) : lcTurn is g tst elt s e ρ = some (some d, none) := by
  simp [lcTurn, hg, ht, blE, E.rd, he, hf, por, kR]
theorem turn_no (hg : g e ρ = some ρ2) (ht : tst ρ2 = .ok (eB false) none) : lcTurn is g tst elt s e ρ = some (none, none) := by
  simp [lcTurn, hg, ht, blE, E.rd, kR]
/-- a turn that draws -/
theorem turn_e {ρ3 : Rho} (hg : g e ρ = some ρ2) (ht : tst ρ2 = .ok (eB true) none) (he : elt ρ2 = .ok ee (some ρ3)) (hf : frS s ee = some d) : lcTurn is g tst elt s e ρ = some (some d, some ((rst is ρ3).map kill)) := by
  simp [lcTurn, hg, ht, blE, E.rd, he, hf, por, kR]
theorem kq_of (h : isOe e = true) : kq p e = e := by cases e <;> simp [isOe] at h; cases p <;> rfl
theorem lcRun_inv {α : Type} {c : α → D} (P : Nat → Rho → Prop) (R : Nat → α → Prop) : ∀ (items : List E) (n : Nat) (p : Option Rho) (acc : List D), (∀ e ∈ items, isOe e = true) →
    (∀ i e ρ, items[i]? = some e → P (n + i) ρ → ∃ x q, lcTurn is g tst elt s e ρ = some (some (c x), q) ∧ P (n + i + 1) (q.getD ρ) ∧ R (n + i) x) → P n (p.getD ρ) →
    ∃ (xs : List α) (q : Option Rho), lcRun is g tst elt s false ρ items p acc = some (acc ++ xs.map c, q) ∧ P (n + items.length) (q.getD ρ) ∧ xs.length = items.length ∧ ∀ i x, xs[i]? = some x → R (n + i) x
  | [], n, p, acc, _, _, h0 => ⟨[], p, by simp [lcRun], h0, rfl, fun i x h => by simp at h⟩
  | e :: es, n, p, acc, hb, ht, h0 => by
    obtain ⟨x, q, h1, h2, h3⟩ := ht 0 e (p.getD ρ) rfl h0
    have h4 : (por p q).getD ρ = q.getD (p.getD ρ) := by cases p <;> cases q <;> rfl
    obtain ⟨xs, q', g1, g2, g3, g4⟩ := lcRun_inv (c := c) P R es (n + 1) (por p q) (acc ++ [c x]) (fun e he => hb e (List.mem_cons_of_mem _ he)) (fun i e' ρ2 hi hp => by
      have := ht (i + 1) e' ρ2 (by simpa using hi) (by rw [show n + (i + 1) = n + 1 + i by omega]; exact hp)
      rw [show n + (i + 1) + 1 = n + 1 + i + 1 by omega, show n + (i + 1) = n + 1 + i by omega] at this
      exact this) (by rw [h4]; exact h2)
    refine ⟨x :: xs, q', ?_, by rw [List.length_cons, show n + (es.length + 1) = n + 1 + es.length by omega]; exact g2, by simp [g3], fun i y hy => ?_⟩
    · unfold lcRun
      rw [kq_of (hb e List.mem_cons_self), h1]
      simp only [Bool.and_false, Bool.false_eq_true, if_false, Option.toList]
      rw [g1]
      simp
    · cases i with
      | zero => simp at hy; subst hy; exact h3
      | succ i =>
        have := g4 i y (by simpa using hy)
        rw [show n + (i + 1) = n + 1 + i by omega]
        exact this
/-- a comprehension that draws: P over the slots, R of the elements -/
theorem lc_at {α : Type} {c : α → D} (P : Nat → Rho → Prop) (R : Nat → α → Prop) (hi : it ρ = .ok srcs items none) (hn : noB srcs = true) (ho : ∀ e ∈ items, isOe e = true) (hx : allX is ρ = true) (hl : items.length ≤ 16777215)
    (ht : ∀ i e ρ, items[i]? = some e → P i ρ → ∃ x q, lcTurn is g tst elt s e ρ = some (some (c x), q) ∧ P (i + 1) (q.getD ρ) ∧ R i x) (h0 : P 0 ρ) :
    ∃ (xs : List α) (q : Option Rho), mLc s is it g tst elt ρ = .ok (.o (.l s) (.lst (xs.map c))) q ∧ P items.length (q.getD ρ) ∧ xs.length = items.length ∧ ∀ i x, xs[i]? = some x → R i x := by
  obtain ⟨xs, q, h1, h2, h3, h4⟩ := lcRun_inv (c := c) (is := is) (g := g) (tst := tst) (elt := elt) (s := s) (ρ := ρ) P R items 0 none [] ho (fun i e ρ h1 h2 => by simpa using ht i e ρ h1 (by simpa using h2)) h0
  refine ⟨xs, q, ?_, by simpa using h2, h3, fun i x h => by simpa using h4 i x h⟩
  unfold mLc
  rw [hi]
  simp only [Option.getD, hn, Bool.not_true]
  rw [if_pos ⟨hx, hl⟩, h1]
  cases q <;> simp [por]
theorem lcRun_pure {α : Type} {ca : α → E} {f : α → Option D} {nb : Bool} : ∀ (xs : List α) (acc : List D), (∀ x ∈ xs, lcTurn is g tst elt s (ca x) ρ = some (f x, none)) → lcRun is g tst elt s nb ρ (xs.map ca) none acc = some (acc ++ xs.filterMap f, none)
  | [], acc, _ => by simp [lcRun]
  | x :: xs, acc, h => by
    rw [List.map_cons]
    unfold lcRun
    rw [show kq none (ca x) = ca x from rfl, show (none : Option Rho).getD ρ = ρ from rfl, h x List.mem_cons_self]
    simp only [Option.isSome_none, Bool.false_and, Bool.false_eq_true, if_false, por]
    rw [lcRun_pure xs _ fun y hy => h y (List.mem_cons_of_mem _ hy)]
    cases hf : f x <;> simp [hf, Option.toList]
/-- a comprehension that changes nothing, with a test -/
theorem lc_opt {α : Type} {ca : α → E} (f : α → Option D) {xs : List α} (hi : it ρ = .ok srcs (xs.map ca) none) (hx : allX is ρ = true) (hl : xs.length ≤ 16777215) (ht : ∀ x ∈ xs, lcTurn is g tst elt s (ca x) ρ = some (f x, none)) :
    mLc s is it g tst elt ρ = .ok (.o (.l s) (.lst (xs.filterMap f))) none := by
  unfold mLc
  rw [hi]
  simp only [Option.getD]
  rw [if_pos ⟨hx, by simpa using hl⟩, lcRun_pure xs [] ht]
  simp [por]
/-- .. without a test -/
theorem lc_map {α : Type} {ca : α → E} (f : α → D) {xs : List α} (hi : it ρ = .ok srcs (xs.map ca) none) (hx : allX is ρ = true) (hl : xs.length ≤ 16777215) (ht : ∀ x ∈ xs, lcTurn is g tst elt s (ca x) ρ = some (some (f x), none)) :
    mLc s is it g tst elt ρ = .ok (.o (.l s) (.lst (xs.map f))) none := by
  rw [lc_opt (fun x => some (f x)) hi hx hl ht]
  simp
end
/-! ### iterables -/
section
variable {m ma mb : M} {ρ : Rho} {e e1 e2 : E} {xs ys : List D} {s s1 s2 : Sh} {p : Option Rho}
theorem iSeq_o {d : D} (h : m ρ = .ok (.o s d) p) (hs : seqD d = some xs) : iSeq m ρ = .ok [.o .v d] (xs.map (.o .v)) p := by
  cases d <;> simp [seqD] at hs <;> subst hs <;> simp [iSeq, h, E.rd, srcE] <;> intros <;> rfl
theorem iRange_at {n : Nat} {i : Int} (h : m ρ = .ok (eI i) p) (hn : i = n) (hb : n < 2 ^ 62) : iRange m ρ = .ok [] ((List.range n).map fun (i : Nat) => .o .v (.int (i : Int))) p := by
  subst hn
  simp only [iRange, h, E.rd]
  rw [if_pos (by omega)]
  simp
theorem pairE_oo {d1 d2 : D} : pairE (.o s1 d1) (.o s2 d2) = .o .v (.tup [d1, d2]) := rfl
theorem iEn_o {d : D} (h : m ρ = .ok (.o s d) p) (hs : seqD d = some xs) : iEn m ρ = .ok [.o .v d] (xs.zipIdx.map fun q => .o .v (.tup [.int (q.2 : Nat), q.1])) p := by
  simp only [iEn, h, E.rd, Option.bind, hs, srcE]
  rfl
theorem iZ_oo {b : Bool} {d1 d2 : D} (h : a2 ma mb ρ = .ok [.o s1 d1, .o s2 d2] p) (h1 : seqD d1 = some xs) (h2 : seqD d2 = some ys) (hl : b = true → xs.length = ys.length) :
    iZ b ma mb ρ = .ok [.o .v d1, .o .v d2] ((xs.zip ys).map fun q => .o .v (.tup [q.1, q.2])) p := by
  simp only [iZ, h, E.rd, Option.bind, h1, h2, srcE]
  rw [if_pos hl]
  rfl
/-- of a list that stands in a slot -/
theorem iSeq_b (h : m ρ = .ok (.b (.lst xs)) p) (hi : imms xs = true) : iSeq m ρ = .ok [.b (.lst xs)] (xs.map (.o .v)) p := by
  simp only [iSeq, h, E.rd, srcE]
  congr 1
  rw [imms_all] at hi
  exact List.map_congr_left fun x hx => by
    have := (List.all_eq_true.mp hi) x hx
    simp [itE, mkR, this]
end
end LP
end
section
/-! MR, part c: operations on values; data. -/
namespace LP
open PySem PySem.Spec PyProof.Rows L2

/-! ### data by kinds -/
abbrev iN (n : Nat) : D := .int n
abbrev tI (xs : List Int) : D := .tup (xs.map D.int)
abbrev tN (xs : List Nat) : D := .tup (xs.map iN)
section
variable {α β : Type} {c : α → D} {xs ys : List α} {n : Nat}
theorem imms_map (h : ∀ x, imm (c x) = true) : imms (xs.map c) = true := by
  rw [imms_all, List.all_map]
  exact List.all_eq_true.mpr fun x _ => h x
theorem imm_int {i : Int} : imm (.int i) = true := rfl
theorem imm_iN {i : Nat} : imm (iN i) = true := rfl
theorem imm_tup {ds : List D} (h : imms ds = true) : imm (.tup ds) = true := h
theorem imm_tI {l : List Int} : imm (tI l) = true := imms_map fun _ => rfl
theorem imm_tN {l : List Nat} : imm (tN l) = true := imms_map fun _ => rfl
theorem okDs_map (h : ∀ x, okD n (c x) = true) : okDs n (xs.map c) = true := by
  rw [okDs_all, List.all_map]
  exact List.all_eq_true.mpr fun x _ => h x
theorem okD_int {i : Int} : okD n (.int i) = true := by cases n <;> rfl
theorem okD_bl {i : Bool} : okD n (.bl i) = true := by cases n <;> rfl
theorem okD_tup {ds : List D} (h : okDs n ds = true) : okD (n + 1) (.tup ds) = true := h
theorem okD_lst {ds : List D} (h : okDs n ds = true) : okD (n + 1) (.lst ds) = true := h
theorem okD_tI {l : List Int} : okD (n + 1) (tI l) = true := okDs_map fun _ => okD_int
theorem okD_tN {l : List Nat} : okD (n + 1) (tN l) = true := okDs_map fun _ => okD_int
theorem leaf_l (h : ∀ x, imm (c x) = true) : leaf (.l .v) (.lst (xs.map c)) = true := by
  rw [leaf, leafA_all, List.all_map]
  exact List.all_eq_true.mpr fun x _ => by simp [leaf, h x]
theorem seqD_lst {ds : List D} : seqD (.lst ds) = some ds := rfl
theorem seqD_tup {ds : List D} : seqD (.tup ds) = some ds := rfl
end
/-! ### == -/
theorem deq_int {a b : Int} : deq (.int a) (.int b) = decide (a = b) := by
  show (a == b) = _
  by_cases h : a = b <;> simp [h]
theorem deq_iN {a b : Nat} : deq (iN a) (iN b) = decide (a = b) := by
  rw [deq_int]
  by_cases h : a = b <;> simp [h]; omega
mutual
theorem deq_refl : ∀ (n : Nat) (d : D), okD n d = true → deq d d = true
  | _, .non, _ => rfl
  | _, .bl b, _ => by simp [deq, pyT, PyData.eqv]
  | _, .int i, _ => by simp [deq, pyT, PyData.eqv]
  | _, .str x, _ => by simp [deq, pyT, PyData.eqv]
  | n + 1, .tup xs, h => by
    have := deqs_refl n xs h
    simpa [deq, pyT, PyData.eqv] using this
  | n + 1, .lst xs, h => by
    have := deqs_refl n xs h
    simpa [deq, pyT, PyData.eqv] using this
  | n + 1, .scr xs, h => by
    have := deqs_refl n xs h
    simpa [deq, pyT, PyData.eqv] using this
  | 0, .tup _, h => by simp [okD] at h
  | 0, .lst _, h => by simp [okD] at h
  | 0, .scr _, h => by simp [okD] at h
  | _, .dk _ _, h => by simp [okD] at h
  | _, .dt _ _, h => by simp [okD] at h
  | _, .ob _ _ _, h => by simp [okD] at h
theorem deqs_refl : ∀ (n : Nat) (ds : List D), okDs n ds = true → PyData.eqvAll (pyTs ds) (pyTs ds) = true
  | _, [], _ => rfl
  | n, d :: ds, h => by
    rw [okDs, Bool.and_eq_true] at h
    have h1 := deq_refl n d h.1
    have h2 := deqs_refl n ds h.2
    unfold deq at h1
    simp [pyTs, PyData.eqvAll, h1, h2]
end
theorem gEq_self {d : D} (h : okD 64 d = true) : gEq d d = some (.bl true) := by simp [gEq, h, deq_refl 64 d h]
theorem gNe_self {d : D} (h : okD 64 d = true) : gNe d d = some (.bl false) := by simp [gNe, h, deq_refl 64 d h]
theorem gEq_ii {a b : Int} : gEq (.int a) (.int b) = some (.bl (decide (a = b))) := by
  unfold gEq; rw [if_pos ⟨rfl, rfl⟩, deq_int]
theorem gNe_ii {a b : Int} : gNe (.int a) (.int b) = some (.bl (!decide (a = b))) := by
  unfold gNe; rw [if_pos ⟨rfl, rfl⟩, deq_int]
theorem gGt_ii {a b : Int} : gGt (.int a) (.int b) = some (.bl (decide (b < a))) := rfl
theorem gLt_ii {a b : Int} : gLt (.int a) (.int b) = some (.bl (decide (a < b))) := rfl
theorem gLe_ii {a b : Int} : gLe (.int a) (.int b) = some (.bl (decide (a ≤ b))) := rfl
theorem gGe_ii {a b : Int} : gGe (.int a) (.int b) = some (.bl (decide (b ≤ a))) := rfl
theorem any_int {a : Int} {xs : List Int} : (xs.map D.int).any (deq · (.int a)) = decide (a ∈ xs) := by
  induction xs with
  | nil => simp
  | cons x xs ih =>
    rw [List.map_cons, List.any_cons, ih, deq_int]
    by_cases h : x = a
    · simp [h]
    · have : ¬ a = x := fun e => h e.symm
      simp [h, this]
theorem flat_ints {xs : List Int} : (xs.map D.int).all flatD = true := by
  rw [List.all_map]; exact List.all_eq_true.mpr fun _ _ => rfl
theorem in_tI {a : Int} {xs : List Int} : inD false (.int a) (tI xs) = some (.bl (decide (a ∈ xs))) := by
  simp only [inD, flatD, flat_ints, any_int]
  rfl
theorem in_lI {a : Int} {xs : List Int} : inD false (.int a) (.lst (xs.map D.int)) = some (.bl (decide (a ∈ xs))) := by
  simp only [inD]
  rw [if_pos ⟨rfl, okD_lst (n := 63) (okDs_map fun _ => okD_int)⟩, any_int]
  rfl
/-! ### ints -/
section
variable {a b : Int} {s s1 s2 : Sh} {xs ys : List D} {d x : D} {e : E} {k : Int} {n : Nat}
theorem fAdd_ii : fAdd [eI a, eI b] = some (.r (.int (a + b))) := rfl
theorem fSub_ii : fSub [eI a, eI b] = some (.r (.int (a - b))) := rfl
theorem fMod_ii (h : 0 < b) : fMod [eI a, eI b] = some (.r (.int (a % b))) := by simp [fInt2, E.rd, h]
theorem fDiv_ii (h : divOk b = true) : fDiv [eI a, eI b] = some (.r (.int (a / b))) := by simp [fInt2, E.rd, h]
theorem divOk_of (h : 0 < b) (h2 : b < 2 ^ 64) : divOk b = true := by
  simp only [divOk, decide_eq_true_eq]
  refine ⟨h, ?_⟩
  have : b.natAbs < 2 ^ 64 := by omega
  have := Nat.log2_lt (n := b.natAbs) (k := 64) (by omega) |>.mpr this
  omega
theorem fMul_ii (h : mulOk a b = true) : fMul [eI a, eI b] = some (.r (.int (a * b))) := by simp [fMul, E.rd, h]
theorem mulOk_l (h : -(2 ^ 64) < a ∧ a < 2 ^ 64) : mulOk a b = true := by simp only [mulOk, decide_eq_true_eq]; exact .inl h
theorem mulOk_r (h : -(2 ^ 64) < b ∧ b < 2 ^ 64) : mulOk a b = true := by simp only [mulOk, decide_eq_true_eq]; exact .inr h
theorem fPow_ii (h : powOk a b = true) : fPow [eI a, eI b] = some (.r (.int (a ^ b.toNat))) := by simp [fInt2, E.rd, h]
theorem fNeg_i : fNeg [eI a] = some (.r (.int (-a))) := rfl
theorem fMax2_ii : fMax2 [eI a, eI b] = some (.f (.int (max a b))) := by
  show some (Rs.f (.int (if b > a then b else a))) = _
  by_cases h : b > a
  · rw [if_pos h, Int.max_eq_right (by omega)]
  · rw [if_neg h, Int.max_eq_left (by omega)]
theorem fMin2_ii : fMin2 [eI a, eI b] = some (.f (.int (min a b))) := by
  show some (Rs.f (.int (if b < a then b else a))) = _
  by_cases h : b < a
  · rw [if_pos h, Int.min_eq_right (by omega)]
  · rw [if_neg h, Int.min_eq_left (by omega)]
theorem fInt_i : fInt [eI a] = some (.f (.int a)) := rfl
theorem fInt_b {q : Bool} : fInt [eB q] = some (.f (.int (if q then 1 else 0))) := rfl
theorem fBits_i : fBits [eI a] = some (.f (.int (Builtin.Int.intBits a : Nat))) := rfl
/-! ### rows -/
theorem fIx_o (hs : seqD d = some xs) (h : atI xs k = some x) : fIx [.o s d, eI k] = some (.f x) := by simp [fIx, E.rd, hs, h, fromE]
theorem fIx_b (hs : seqD d = some xs) (h : atI xs k = some x) : fIx [.b d, eI k] = some (.r x) := by simp [fIx, E.rd, hs, h, fromE]
theorem ixN_of {n j : Nat} (hj : j < n) : ixN n (j : Int) = some j := by
  unfold ixN
  rw [if_pos (by omega), if_pos (by omega)]
  simp
theorem atI_nat (h : xs[n]? = some x) (hk : k = (n : Nat)) : atI xs k = some x := by
  subst hk
  unfold atI
  rw [ixN_of (List.getElem?_eq_some_iff.mp h).1]
  exact h
theorem atI_map {α : Type} {c : α → D} {l : List α} {y : α} (h : l[n]? = some y) (hk : k = (n : Nat)) : atI (l.map c) k = some (c y) := atI_nat (n := n) (by rw [List.getElem?_map, h]; rfl) hk
theorem atI_last {α : Type} {c : α → D} {l : List α} {y : α} (h : l.getLast? = some y) : atI (l.map c) (-1) = some (c y) := by
  unfold atI ixN
  rw [List.getLast?_eq_getElem?] at h
  have hl := (List.getElem?_eq_some_iff.mp h).1
  rw [if_neg (by omega), if_pos (by rw [List.length_map]; omega)]
  show (l.map c)[_]? = _
  rw [List.getElem?_map, List.length_map, show (-1 + (l.length : Int)).toNat = l.length - 1 by omega, h]
  rfl
theorem fLen_o (hs : seqD d = some xs) : fLen [.o s d] = some (.f (.int (xs.length : Nat))) := by
  cases d <;> simp [seqD] at hs <;> subst hs <;> rfl
theorem fLen_bl : fLen [.b (.lst xs)] = some (.f (.int (xs.length : Nat))) := rfl
theorem fTup_1 {d1 : D} : fTup [.o s1 d1] = some (.nt [d1]) := rfl
theorem fTup_2 {d1 d2 : D} : fTup [.o s1 d1, .o s2 d2] = some (.nt [d1, d2]) := rfl
theorem fTup_3 {d1 d2 d3 : D} {s3 : Sh} : fTup [.o s1 d1, .o s2 d2, .o s3 d3] = some (.nt [d1, d2, d3]) := rfl
theorem fList_o (hs : seqD d = some xs) : fList [.o s d] = some (.nl xs) := by
  cases d <;> simp [seqD] at hs <;> subst hs <;> rfl
theorem fList_b (h : imms xs = true) : fList [.b (.lst xs)] = some (.nl xs) := by simp [fList, itm, h]
theorem fTuple_ol : fTuple [.o s (.lst xs)] = some (.nt xs) := rfl
theorem fTuple_ot : fTuple [.o s (.tup xs)] = some (.f (.tup xs)) := rfl
theorem fTuple_b (h : imms xs = true) : fTuple [.b (.lst xs)] = some (.nt xs) := by simp [fTuple, itm, h, E.rd]
theorem fAdd_ll (hl : xs.length + ys.length ≤ 16777216) : fAdd [.o s1 (.lst xs), .o s2 (.lst ys)] = some (.nl (xs ++ ys)) := by simp [fAdd, E.rd, itm, hl]
theorem fAdd_bl (hi : imms xs = true) (hl : xs.length + ys.length ≤ 16777216) : fAdd [.b (.lst xs), .o s2 (.lst ys)] = some (.nl (xs ++ ys)) := by simp [fAdd, E.rd, itm, hl, hi]
theorem fAdd_lb (hi : imms ys = true) (hl : xs.length + ys.length ≤ 16777216) : fAdd [.o s1 (.lst xs), .b (.lst ys)] = some (.nl (xs ++ ys)) := by simp [fAdd, E.rd, itm, hl, hi]
theorem fAdd_bb (hi : imms xs = true) (hj : imms ys = true) (hl : xs.length + ys.length ≤ 16777216) : fAdd [.b (.lst xs), .b (.lst ys)] = some (.nl (xs ++ ys)) := by simp [fAdd, E.rd, itm, hl, hi, hj]
theorem fAdd_tt (hl : xs.length + ys.length ≤ 16777216) : fAdd [.o s1 (.tup xs), .o s2 (.tup ys)] = some (.t (xs ++ ys)) := by simp [fAdd, E.rd, itm, hl]
theorem fMul_l1 (hn : k = (n : Nat)) (hl : n ≤ 16777216) (hx : xs.length = 1) : fMul [.o s1 (.lst xs), eI k] = some (.nl (List.replicate n xs).flatten) := by
  subst hn
  simp only [fMul, E.rd, itm]
  rw [if_pos ⟨by omega, by omega, by simp [hx, hl]⟩]
  simp
/-- a slice -/
theorem cut_none_some {l : List D} : cut l none (some (n : Int)) = l.take n := by
  simp only [cut, HT.sIx_nat, HT.sIx_none, List.drop_zero, Nat.sub_zero]
  rw [show min n l.length = min l.length n from Nat.min_comm _ _]
  rcases Nat.le_total n l.length with h | h
  · rw [Nat.min_eq_right h]
  · rw [Nat.min_eq_left h, List.take_length, List.take_of_length_le h]
theorem cut_some_none {l : List D} : cut l (some (n : Int)) none = l.drop n := by
  simp only [cut, HT.sIx_nat, HT.sIx_none]
  rcases Nat.le_total n l.length with h | h
  · rw [Nat.min_eq_left h, List.take_of_length_le (by simp)]
  · rw [Nat.min_eq_right h, List.drop_length, List.take_nil, List.drop_of_length_le h]
theorem fSl_to {α : Type} {c : α → D} {l : List α} (hd : d = .tup (l.map c)) (hk : k = (n : Nat)) : fSl [.o s d, .o .v .non, eI k] = some (.t ((l.take n).map c)) := by
  subst hd hk
  simp only [fSl, itm, E.rd, Option.bind, prt]
  rw [cut_none_some, List.map_take]
theorem fSl_from {α : Type} {c : α → D} {l : List α} (hd : d = .tup (l.map c)) (hk : k = (n : Nat)) : fSl [.o s d, eI k, .o .v .non] = some (.t ((l.drop n).map c)) := by
  subst hd hk
  simp only [fSl, itm, E.rd, Option.bind, prt]
  rw [cut_some_none, List.map_drop]
theorem fSlL_to {α : Type} {c : α → D} {l : List α} (hd : d = .lst (l.map c)) (hk : k = (n : Nat)) : fSl [.o s d, .o .v .non, eI k] = some (.nl ((l.take n).map c)) := by
  subst hd hk
  simp only [fSl, itm, E.rd, Option.bind, prt]
  rw [cut_none_some, List.map_take]
theorem fSlL_from {α : Type} {c : α → D} {l : List α} (hd : d = .lst (l.map c)) (hk : k = (n : Nat)) : fSl [.o s d, eI k, .o .v .non] = some (.nl ((l.drop n).map c)) := by
  subst hd hk
  simp only [fSl, itm, E.rd, Option.bind, prt]
  rw [cut_some_none, List.map_drop]
theorem mInt_at {m : M} {ρ : Rho} {p : Option Rho} (h : m ρ = .ok (eI a) p) : mInt m ρ = .ok (eI a) p := by simp [mInt, h, E.rd]
end
/-! ### sorted, of ints -/
def srt (xs : List Int) : List Int := xs.mergeSort fun a b => decide (a ≤ b)
theorem leD_int {a b : Int} : leD (.int a) (.int b) = decide (a ≤ b) := by
  show (!W.dataLt (.int b) (.int a)) = _
  rw [W.dataLt_int]
  by_cases h : a ≤ b
  · simp [h, Int.not_lt.mpr h]
  · simp [h, Int.not_le.mp h]
theorem sortD_ints (xs : List Int) : sortD (xs.map D.int) = (srt xs).map D.int := by
  unfold sortD srt
  rw [← List.map_mergeSort]
  intro a _ b _
  exact (leD_int).symm
theorem srt_perm (xs : List Int) : (srt xs).Perm xs := List.mergeSort_perm _ _
theorem srt_sorted (xs : List Int) : (srt xs).Pairwise (· ≤ ·) := by
  have := List.pairwise_mergeSort (le := fun a b : Int => decide (a ≤ b)) (fun a b c h1 h2 => by simp at *; omega) (fun a b => by simp; omega) xs
  exact this.imp fun h => by simpa using h
theorem srt_eq {xs ys : List Int} (p : xs.Perm ys) (h : ys.Pairwise (· ≤ ·)) : srt xs = ys :=
  List.Perm.eq_of_pairwise (le := (· ≤ ·)) (fun a b _ _ h1 h2 => by omega) (srt_sorted xs) h ((srt_perm xs).trans p)
theorem srt_congr {xs ys : List Int} (p : xs.Perm ys) : srt xs = srt ys := srt_eq (p.trans (srt_perm ys).symm) (srt_sorted ys)
theorem srt_len (xs : List Int) : (srt xs).length = xs.length := (srt_perm xs).length_eq
theorem alikeD_int {a b : Int} : alikeD (.int a) (.int b) = true := rfl
theorem sortOk_ints (xs : List Int) : sortOk (xs.map D.int) = true := by
  simp only [sortOk, Bool.and_eq_true, Bool.or_eq_true]
  refine ⟨⟨okDs_map fun _ => okD_int, ?_⟩, .inr ?_⟩
  · rw [List.all_map]
    refine List.all_eq_true.mpr fun a _ => ?_
    show ((xs.map D.int).all fun b => alikeD (.int a) b) = true
    rw [List.all_map]
    exact List.all_eq_true.mpr fun _ _ => rfl
  · rw [List.all_map]
    exact List.all_eq_true.mpr fun _ _ => rfl
theorem fSorted_o {s : Sh} {d : D} {xs : List Int} (hs : seqD d = some (xs.map D.int)) : fSorted [.o s d] = some (.nl ((srt xs).map D.int)) := by
  have : itm (.o s d) = some (xs.map D.int) := by
    cases d <;> simp [seqD] at hs <;> subst hs <;> rfl
  simp [fSorted, this, sortOk_ints, sortD_ints]
end LP
end
section
/-! MR, part d: the forms that the reader tactic applies. -/
namespace LP
open PySem PySem.Spec PyProof.Rows L2
section
variable {m ma mb mc : M} {ms : Rho → AO} {ρ ρ1 ρ2 : Rho} {e e1 e2 e' : E} {es cs : List E} {p q r : Option Rho} {b b1 b2 : Bool} {f : List E → Option Rs} {R : Rs} {i j : Nat} {d d1 d2 : D} {s : Sh} {xs ys : List D} {x : Int} {ro : AO} {l : List M}
def aRest (p : Option Rho) (e : E) (ms : Rho → AO) (ρ : Rho) : AO := match ms (p.getD ρ) with
  | .ok es q => .ok (kq q e :: es) (por p q)
  | .ex C pl q => .ex C pl (por p q)
  | .st => .st
theorem aCons_c (h : m ρ = .ok e p) (h2 : aRest p e ms ρ = ro) : aCons m ms ρ = ro := by rw [← h2]; simp only [aCons, h]; rfl
theorem aRest_n (h : ms ρ = .ok es q) (hk : kq q e = e') : aRest none e ms ρ = .ok (e' :: es) q := by subst hk; simp only [aRest, Option.getD, h]; cases q <;> rfl
theorem aRest_s (h : ms ρ1 = .ok es q) (hk : kq q e = e') (hp : por (some ρ1) q = r) : aRest (some ρ1) e ms ρ = .ok (e' :: es) r := by subst hk hp; simp only [aRest, Option.getD, h]
theorem kq_n : kq none e = e := rfl
theorem kq_o : kq p (.o s d) = .o s d := by cases p <;> rfl
theorem por_sn : por (some ρ1) none = some ρ1 := rfl
theorem por_ss : por (some ρ1) (some ρ2) = some ρ2 := rfl
theorem fold_c (h : aCons m (l.foldr aCons aNil) ρ = ro) : (m :: l).foldr aCons aNil ρ = ro := h
theorem fold_n : ([] : List M).foldr aCons aNil ρ = .ok [] none := rfl
theorem mF_R (h : ms ρ = .ok es p) (hf : f es = some R) (hr : resE R = e) : mF f ms ρ = .ok e p := by simp [mF, h, hf, hr]
theorem resE_i : resE (.r (.int x)) = eI x := rfl
theorem resE_f : resE (.f d) = .o .v d := rfl
theorem resE_nl : resE (.nl xs) = .o (.l .v) (.lst xs) := rfl
theorem resE_nt : resE (.nt xs) = .o .v (.tup xs) := rfl
theorem resE_t : resE (.t xs) = .o .v (.tup xs) := rfl
theorem resE_rl : resE (.r (.lst xs)) = .b (.lst xs) := rfl
theorem resE_ri (h : imm d = true) : resE (.r d) = .o .v d := by simp [resE, mkR, h]
theorem rd_o : (E.o s d).rd = some d := rfl
theorem rd_b : (E.b d).rd = some d := rfl
theorem rd_p : (E.p s d).rd = some d := rfl
theorem tru_bl : (E.o s (.bl b)).rd.bind tru = some b := rfl
theorem tru_in : (E.o s (.int x)).rd.bind tru = some (x != 0) := rfl
theorem tru_ol : (E.o s (.lst xs)).rd.bind tru = some (!xs.isEmpty) := rfl
theorem tru_bl' : (E.b (.lst xs)).rd.bind tru = some (!xs.isEmpty) := rfl
theorem tru_ot : (E.o s (.tup xs)).rd.bind tru = some (!xs.isEmpty) := rfl
theorem tru_non : (E.o s .non).rd.bind tru = some false := rfl
theorem getD_n : (none : Option Rho).getD ρ = ρ := rfl
theorem getD_s : (some ρ1 : Option Rho).getD ρ = ρ1 := rfl
theorem nx_setR (h : m ρ = .ok e p) (hp : p.getD ρ = ρ1) (hi : i < ρ1.length) (he : isP e = false) : Nx (sSet i m ρ) (ρ1.set i e) := by subst hp; exact nx_set h hi he
theorem rt_retR (h : m ρ = .ok e p) (hp : p.getD ρ = ρ1) : Rt (sRet m ρ) e ρ1 := by subst hp; exact ⟨p.isSome, by simp [sRet, h]⟩
theorem nx_exprR (h : m ρ = .ok e p) (hp : p.getD ρ = ρ1) : Nx (sExpr m ρ) ρ1 := by subst hp; exact ⟨p.isSome, by simp [sExpr, h]⟩
theorem nx_asgR {g : E → Rho → Option Rho} (h : m ρ = .ok e p) (hp : p.getD ρ = ρ1) (hg : g e ρ1 = some ρ2) : Nx (sAsg g m ρ) ρ2 := by subst hp; exact nx_asg h hg
theorem is_int_int : isAny ["int"] (.int x) = some true := rfl
theorem is_bool_int : isAny ["bool"] (.int x) = some false := rfl
theorem is_int_bl : isAny ["int"] (.bl b) = some true := rfl
theorem is_bool_bl : isAny ["bool"] (.bl b) = some true := rfl
theorem is_tup_tup : isAny ["tuple"] (.tup xs) = some true := rfl
theorem is_list_lst : isAny ["list"] (.lst xs) = some true := rfl
end
end LP
end
section
/-! MR, part e: what changes a place; calls that change an argument. -/
namespace LP
open PySem PySem.Spec PyProof.Rows L2
section
variable {m ma mb mc mi : M} {ms : Rho → AO} {ρ ρ1 ρ2 ρb : Rho} {e e1 e2 e' : E} {es cs args es' : List E} {p q r : Option Rho} {b b1 b2 : Bool} {i j : Nat} {d d1 d2 : D} {s s1 s2 : Sh} {xs ys : List D} {k x : Int} {P : Path} {pp : List Nat} {as : List Ar} {g : List E → FO} {mt : List Bool}
theorem nx_itm (hm : m ρ = .ok e q) (hq : q.getD ρ = ρ1) (hP : P ρ1 = some (i, pp)) (hs : sub ρ1 i pp = some (.l s, .lst xs)) (hi : mi ρ1 = .ok (eI k) none) (hf : frS s e = some d) (hk : ixN xs.length k = some j) (hu : ups i pp (.l s) (.lst (xs.set j d)) ρ1 = ρ2) : Nx (sItem P mi m ρ) ρ2 := by
  subst hq hu
  exact ⟨true, by simp [sItem, hm, hP, hs, hi, E.rd, hf, hk]⟩
theorem nx_fldS {C : Addr} {f : Str} {ss : List Sh} {ns : List Str} (hm : m ρ = .ok (.o s d) q) (hq : q.getD ρ = ρ1) (hP : P ρ1 = some (i, [])) (hs : sub ρ1 i [] = some (.ob ss, .ob C ns xs)) (hl : ns.length < 900) (hj : idxOf f ns = none) (hu : ups i [] (.ob (ss ++ [s])) (.ob C (ns ++ [f]) (xs ++ [d])) ρ1 = ρ2) : Nx (sFldS C f P m ρ) ρ2 := by
  subst hq hu
  exact ⟨true, by simp [sFldS, hm, hP, hs, hl, hj]⟩
theorem mMut_append (hP : P ρ = some (i, pp)) (hs : sub ρ i pp = some (.l s, .lst xs)) (hm : m ρ = .ok e q) (ho : okPath pp q = true) (hq : q.getD ρ = ρ1) (hs2 : sub ρ1 i pp = some (.l s, .lst ys)) (hf : frS s e = some d) (hsh : shEq s s = true) (hl : ys.length < 16777216) (hu : ups i pp (.l s) (.lst (ys ++ [d])) ρ1 = ρ2) :
    mMut "list" kElt fAppend P m ρ = .ok (.o .v .non) (some ρ2) := by
  subst hq hu
  simp [mMut, hP, hs, hm, tyS, ho, hs2, cvA, kElt, hf, fAppend, hsh, hl]
theorem mMut_popAt (hP : P ρ = some (i, pp)) (hs : sub ρ i pp = some (.l s, .lst xs)) (hm : m ρ = .ok (eI k) q) (ho : okPath pp q = true) (hq : q.getD ρ = ρ1) (hs2 : sub ρ1 i pp = some (.l s, .lst ys)) (hk : ixN ys.length k = some j) (hd : ys[j]? = some d) (hb : -(2 ^ 62) ≤ k ∧ k < 2 ^ 62) (hu : ups i pp (.l s) (.lst (ys.eraseIdx j)) ρ1 = ρ2) :
    mMut "list" kNo fPopAt P m ρ = .ok (.o s d) (some ρ2) := by
  subst hq hu
  simp only [mMut, hP, hs, hm, tyS, beq_self_eq_true, if_true, ho, hs2, cvA, kNo, fPopAt, rd_o, hk, hd]
  rw [if_pos hb]
theorem evs_nil : evs [] ρ = .ok [] none := rfl
theorem evs_ev {a : AO} (h : aCons m (evs as) ρ = a) : evs (.ev m :: as) ρ = a := h
theorem evs_o {a : AO} (h : ρ[i]? = some (.o s d)) (h2 : evs as ρ = a) : evs (.ref i :: as) ρ = a := by simp [evs, h, h2]
theorem evs_p {a : AO} (h : ρ[i]? = some (.p s d)) (h2 : evs as ρ = a) : evs (.ref i :: as) ρ = a := by simp [evs, h, h2]
theorem mCallM_at (h : evs as ρ = .ok es p) (hp : p.getD ρ = ρ1) (ho : outE as es ρ1 = some (args, ρb)) (hc : cvt true mt args = some cs) (hm : g cs = .rt e es') (hr : backE as ρ1 (mrg es' ((rdEs mt args).map kill)) (ρb.map kill) = ρ2) : mCallM mt g as ρ = .ok e (some ρ2) := by
  subst hp hr
  simp [mCallM, h, ho, hc, hm]
theorem mMethR_at {C : Addr} {nm : Str} (h : ρ[i]? = some e1) (hd : e1.rd = some d) (ho : isOb C nm d = true ∧ (subO [] e1).isSome = true) {R : EO} (hm : mCallM mt g (.ref i :: as) ρ = R) : mMethR C nm mt g i as ρ = R := by
  simp only [mMethR, h, hd]
  rw [if_pos ho, hm]
theorem mMeth_at {C : Addr} {nm : Str} (h : ma ρ = .ok e1 p) (hd : e1.rd = some d) (ho : isOb C nm d = true) {R : EO} (hm : mCall g (aCons ma ms) ρ = R) : mMeth C nm g ma ms ρ = R := by
  simp only [mMeth, h, hd]
  rw [if_pos ho, hm]
theorem mMake_at {C : Addr} {n : Nat} (h : ms ρ = .ok es p) (hp : p.getD ρ = ρ1) (hc : cvt true (true :: List.replicate n false) (.o (.ob []) (.ob C [] []) :: es) = some cs) (hm : g cs = .rt (.o .v .non) (.o s d :: es')) (hr : ρ1.map kill = ρ2) : mMake C n g ms ρ = .ok (.o s d) (some ρ2) := by
  subst hp hr
  simp [mMake, h, hc, hm, isNonE]
theorem mBM_index {l : List Int} {x : Int} (h : ma ρ = .ok e1 none) (hd : e1.rd = some (.lst (l.map D.int))) (h2 : mb ρ = .ok (eI x) none) (hj : l.findIdx? (· == x) = some j) (hk : kq none e1 = e1 := by rfl) : mBM "list" fIndex ma mb ρ = .ok (eI (j : Nat)) none := by
  have hx : ∀ (l : List Int) (j : Nat), l.findIdx? (· == x) = some j → idxD (.int x) (l.map D.int) = some j := by
    intro l
    induction l with
    | nil => intro j h; simp at h
    | cons y ys ih =>
      intro j h
      rw [List.map_cons, idxD, deq_int]
      rw [List.findIdx?_cons] at h
      by_cases q : y = x
      · subst q; simp at h ⊢; exact h
      · have q2 : (y == x) = false := by simp [q]
        simp only [q2] at h
        simp only [q, decide_false, Bool.false_eq_true, if_false] at h ⊢
        cases hh : ys.findIdx? (· == x) with
        | none => rw [hh] at h; simp at h
        | some k => rw [hh] at h; rw [ih k hh]; exact h
  have h1 : okDs 63 (l.map D.int) = true ∧ okD 64 (.int x) = true := ⟨okDs_map fun _ => okD_int, rfl⟩
  simp only [mBM, h, hd, tyR, beq_self_eq_true, if_true, mF, a2, aCons, aNil, h2, Option.getD, kq, por, fIndex, rd_o]
  rw [if_pos h1, hx l j hj]
  rfl
theorem map_kill_noB (h : noB ρ = true) : ρ.map kill = ρ := noB_kill h
end

/-! ### the drawn numbers' state -/
structure Gn where
  a : Int
  b : Int
  c : Int
def gD (g : Gn) : D := .lst [.int g.a, .int g.b, .int g.c]
abbrev gE (g : Gn) : E := .o (.l .v) (gD g)
abbrev gP (g : Gn) : E := .p (.l .v) (gD g)
structure GOk (n : Nat) (g : Gn) : Prop where
  a0 : 0 ≤ g.a
  b0 : 0 ≤ g.b
  b1 : g.b < 2147483647
  c0 : 0 ≤ g.c
  c1 : g.c ≤ n
theorem GOk.mono {n k : Nat} {g : Gn} (h : GOk n g) (hk : n ≤ k) : GOk k g := ⟨h.a0, h.b0, h.b1, h.c0, by have := h.c1; omega⟩
theorem leaf_g {g : Gn} : leaf (.l .v) (gD g) = true := rfl
end LP
end
section
/-! MR, part f: what is wanted behind a statement, read forwards. -/
namespace LP
open PySem PySem.Spec PyProof.Rows L2
/-- the statement goes on with N, or returns with R -/
def SQ (r : SO) (N : Rho → Prop) (R : E → Rho → Prop) : Prop := (∃ ρ, Nx r ρ ∧ N ρ) ∨ ∃ e ρ, Rt r e ρ ∧ R e ρ
def EQ (r : EO) (Q : E → Option Rho → Prop) : Prop := ∃ e p, r = .ok e p ∧ Q e p
def FQ (r : FO) (Q : E → List E → Prop) : Prop := ∃ e es, r = .rt e es ∧ Q e es
section
variable {m ma mb mc mi : M} {ρ ρ0 ρ1 ρ2 : Rho} {e e1 e2 : E} {p q : Option Rho} {b k : Bool} {a c : MS} {i j : Nat} {r : SO} {N N' : Rho → Prop} {R R' : E → Rho → Prop} {Q : E → Option Rho → Prop} {it : MI} {g : E → Rho → Option Rho} {srcs items : List E} {is : List Nat}
theorem SQ.or (h : SQ r N R) : SQ (r.or k) N R := by
  rcases h with ⟨ρ, h, h2⟩ | ⟨e, ρ, h, h2⟩
  · exact .inl ⟨ρ, h.or, h2⟩
  · exact .inr ⟨e, ρ, h.or, h2⟩
theorem SQ.mono (h : SQ r N R) (hn : ∀ ρ, N ρ → N' ρ) (hr : ∀ e ρ, R e ρ → R' e ρ) : SQ r N' R' := by
  rcases h with ⟨ρ, h, h2⟩ | ⟨e, ρ, h, h2⟩
  · exact .inl ⟨ρ, h, hn _ h2⟩
  · exact .inr ⟨e, ρ, h, hr _ _ h2⟩
theorem sq_seq (h : SQ (a ρ) (fun ρ1 => SQ (c ρ1) N R) R) : SQ (sSeq a c ρ) N R := by
  rcases h with ⟨ρ1, ⟨k, h⟩, h2⟩ | ⟨e, ρ1, ⟨k, h⟩, h2⟩
  · rw [show sSeq a c ρ = (c ρ1).or k by simp [sSeq, h]]
    exact h2.or
  · exact .inr ⟨e, ρ1, ⟨k, by simp [sSeq, h]⟩, h2⟩
theorem sq_nx (h : Nx r ρ1) (h2 : N ρ1) : SQ r N R := .inl ⟨ρ1, h, h2⟩
theorem sq_rt (h : Rt r e ρ1) (h2 : R e ρ1) : SQ r N R := .inr ⟨e, ρ1, h, h2⟩
theorem sq_skip (h : N ρ) : SQ (sNx ρ) N R := .inl ⟨ρ, nx_nx, h⟩
theorem sq_if (h : m ρ = .ok (eB b) none) (ht : b = true → SQ (a ρ) N R) (hf : b = false → SQ (c ρ) N R) : SQ (sIf m a c ρ) N R := by
  cases b with
  | true =>
    rw [show sIf m a c ρ = (a ρ).or false by simp [sIf, h, blE, E.rd]]
    exact (ht rfl).or
  | false =>
    rw [show sIf m a c ρ = (c ρ).or false by simp [sIf, h, blE, E.rd]]
    exact (hf rfl).or
theorem sq_ifE (h : EQ (m ρ) fun e p => ∃ b, e = eB b ∧ (b = true → SQ (a (p.getD ρ)) N R) ∧ (b = false → SQ (c (p.getD ρ)) N R)) : SQ (sIf m a c ρ) N R := by
  obtain ⟨e, p, h, b, rfl, ht, hf⟩ := h
  cases b with
  | true =>
    rw [show sIf m a c ρ = (a (p.getD ρ)).or p.isSome by simp [sIf, h, blE, E.rd]]
    exact (ht rfl).or
  | false =>
    rw [show sIf m a c ρ = (c (p.getD ρ)).or p.isSome by simp [sIf, h, blE, E.rd]]
    exact (hf rfl).or
theorem sq_set (h : m ρ = .ok e p) (hp : p.getD ρ = ρ1) (hi : i < ρ1.length) (he : isP e = false) (h2 : N (ρ1.set i e)) : SQ (sSet i m ρ) N R := .inl ⟨_, nx_setR h hp hi he, h2⟩
theorem sq_setE (h : EQ (m ρ) fun e p => i < (p.getD ρ).length ∧ isP e = false ∧ N ((p.getD ρ).set i e)) : SQ (sSet i m ρ) N R := by
  obtain ⟨e, p, h, h1, h2, h3⟩ := h
  exact .inl ⟨_, nx_set h h1 h2, h3⟩
theorem sq_ret (h : m ρ = .ok e p) (hp : p.getD ρ = ρ1) (h2 : R e ρ1) : SQ (sRet m ρ) N R := .inr ⟨_, _, rt_retR h hp, h2⟩
theorem sq_retE (h : EQ (m ρ) fun e p => R e (p.getD ρ)) : SQ (sRet m ρ) N R := by
  obtain ⟨e, p, h, h1⟩ := h
  exact .inr ⟨_, _, rt_retR h rfl, h1⟩
theorem sq_expr (h : m ρ = .ok e p) (hp : p.getD ρ = ρ1) (h2 : N ρ1) : SQ (sExpr m ρ) N R := .inl ⟨_, nx_exprR h hp, h2⟩
theorem sq_exprE (h : EQ (m ρ) fun e p => N (p.getD ρ)) : SQ (sExpr m ρ) N R := by
  obtain ⟨e, p, h, h1⟩ := h
  exact .inl ⟨_, nx_exprR h rfl, h1⟩
theorem sq_asg (h : m ρ = .ok e p) (hp : p.getD ρ = ρ1) (hg : g e ρ1 = some ρ2) (h2 : N ρ2) : SQ (sAsg g m ρ) N R := .inl ⟨_, nx_asgR h hp hg, h2⟩
theorem sq_fz (h : SQ (a (frzS is ρ)) N R) : SQ (sFz is a ρ) N R := h
theorem sq_fg (h : SQ (a (is.foldl (fun r i => r.set i .x) ρ)) N R) : SQ (sFg is a ρ) N R := h
theorem sq_at (h : ρ = ρ1) (h2 : SQ (a ρ1) N R) : SQ (a ρ) N R := h ▸ h2
theorem sq_turn (hg : g e ρ = some ρ1) (h : SQ (a ρ1) N R) : SQ (forTurn g a e ρ) N R := by unfold forTurn; rw [hg]; exact h
/-- a loop by its invariant P (turns done, slots) -/
theorem sq_for (P : Nat → Rho → Prop) (hi : it ρ = .ok srcs items p) (hn : noB srcs = true) (ho : ∀ e ∈ items, isOe e = true) (h0 : P 0 (p.getD ρ))
    (ht : ∀ i e ρ, items[i]? = some e → P i ρ → SQ (forTurn g a e ρ) (P (i + 1)) R) (hN : ∀ ρ, P items.length ρ → N ρ) : SQ (sFor it g a ρ) N R := by
  rcases for_at P R hi hn ho ht h0 with ⟨ρ1, h1, h2⟩ | ⟨x, ρ1, h1, h2⟩
  · exact .inl ⟨ρ1, h1, hN _ h2⟩
  · exact .inr ⟨x, ρ1, h1, h2⟩
theorem eq_ok (h : ma ρ = .ok e p) (h2 : Q e p) : EQ (ma ρ) Q := ⟨e, p, h, h2⟩
/-- a def -/
theorem fnq {mt : List Bool} {n : Nat} {dd : MS} {es : List E} {QQ : E → List E → Prop} (ρ0 : Rho) (h0 : pinE mt es ++ List.replicate (n - mt.length) .x = ρ0 := by rfl) (ho : es.all isOV = true := by rfl)
    (h : SQ (dd ρ0) (fun ρ' => ∃ es', keepE mt ρ' = some es' ∧ QQ (.o .v .non) es') (fun e ρ' => ∃ es', leafE e = true ∧ isOV e = true ∧ keepE mt ρ' = some es' ∧ QQ e es')) : FQ (fnM mt n dd es) QQ := by
  rcases h with ⟨ρ', h, es', h1, h2⟩ | ⟨e, ρ', h, es', h1, h2, h3, h4⟩
  · exact ⟨_, es', fn_nx h h0 ho h1, h2⟩
  · exact ⟨e, es', fn_rt h h0 ho ⟨h1, h2⟩ h3, h4⟩
theorem fq_is {r : FO} {e : E} {es : List E} (h : FQ r fun e' es' => e' = e ∧ es' = es) : r = .rt e es := by
  obtain ⟨e', es', h, rfl, rfl⟩ := h
  exact h
end
end LP
end
section
/-! MR, part g: calls that change their first argument. -/
namespace LP
open PySem PySem.Spec PyProof.Rows L2
section
variable {b : Bool} {m ma mb mc mi : M} {ρ ρ0 ρ1 ρ2 : Rho} {e e1 e2 e3 : E} {p q : Option Rho} {i j : Nat} {g : List E → FO} {s s' s0 s2 s3 : Sh} {d d' d0 d2 d3 : D} {es' : List E}
theorem set_set (ρ : Rho) (i : Nat) (a b : E) : (ρ.set i a).set i b = ρ.set i b := List.set_set ..
theorem kill_set (h : noB ρ = true) : ((ρ.set i .x).map kill) = ρ.set i .x := by
  rw [List.map_set, noB_kill h]; rfl
theorem cons1 (hb : mb ρ = .ok (.o s2 d2) p) : aCons mb aNil ρ = .ok [.o s2 d2] p := by
  cases p <;> simp [aCons, aNil, hb, kq, por]
theorem cons2 (hb : mb ρ = .ok (.o s2 d2) p) (hc : mc (p.getD ρ) = .ok (.o s3 d3) none) : aCons mb (aCons mc aNil) ρ = .ok [.o s2 d2, .o s3 d3] p := by
  have h := cons1 (ρ := p.getD ρ) hc
  refine aCons_c hb ?_
  simp only [aRest, h]
  cases p <;> rfl
theorem back_at {x : E} (h1 : ρ1[i]? = some x) (hx : isP x = b) {es : List E} {as : List Ar} (hk : noB ρ1 = true) (ha : ∀ r, backE as ρ1 es r = r) : backE (.ref i :: as) ρ1 (.o s' d' :: es) ((ρ1.set i .x).map kill) = ρ1.set i (if b = true then .p s' d' else .o s' d') := by
  have hg : ρ1.getD i .x = x := by simp [List.getD, h1]
  rw [kill_set hk]
  simp only [backE, hg, hx, ha]
  exact set_set ..
theorem back1 {a : Ar} {m : M} : backE [.ev m] ρ1 [e] ρ = ρ := rfl
theorem callM_p2 (h0 : ρ[i]? = some (.p s0 d0)) (hb : mb ρ = .ok (.o s2 d2) p) (hp : p.getD ρ = ρ1) (h1 : ρ1[i]? = some (.p s d)) (hm : g [.o s d, .o .v d2] = .rt e [.o s' d', .x]) (hk : noB ρ1 = true) :
    mCallM [true, false] g [.ref i, .ev mb] ρ = .ok e (some (ρ1.set i (.p s' d'))) := by
  subst hp
  refine mCallM_at (es := [.o s2 d2]) (args := .o s d :: [.o s2 d2]) (ρb := (p.getD ρ).set i .x) (cs := [.o s d, .o .v d2]) (evs_p h0 (cons1 hb)) rfl ?_ rfl hm ?_
  · simp [outE, h1]
  · exact back_at (b := true) h1 rfl hk fun _ => rfl
theorem callM_o2 (h0 : ρ[i]? = some (.o s0 d0)) (hb : mb ρ = .ok (.o s2 d2) p) (hp : p.getD ρ = ρ1) (h1 : ρ1[i]? = some (.o s d)) (hm : g [.o s d, .o .v d2] = .rt e [.o s' d', .x]) (hk : noB ρ1 = true) :
    mCallM [true, false] g [.ref i, .ev mb] ρ = .ok e (some (ρ1.set i (.o s' d'))) := by
  subst hp
  refine mCallM_at (es := [.o s2 d2]) (args := .o s d :: [.o s2 d2]) (ρb := (p.getD ρ).set i .x) (cs := [.o s d, .o .v d2]) (evs_o h0 (cons1 hb)) rfl ?_ rfl hm ?_
  · simp [outE, h1]
  · exact back_at (b := false) h1 rfl hk fun _ => rfl
theorem callM_p3 (h0 : ρ[i]? = some (.p s0 d0)) (hb : mb ρ = .ok (.o s2 d2) p) (hp : p.getD ρ = ρ1) (hc : mc ρ1 = .ok (.o s3 d3) none) (h1 : ρ1[i]? = some (.p s d)) (hm : g [.o s d, .o .v d2, .o .v d3] = .rt e [.o s' d', .x, .x]) (hk : noB ρ1 = true) :
    mCallM [true, false, false] g [.ref i, .ev mb, .ev mc] ρ = .ok e (some (ρ1.set i (.p s' d'))) := by
  subst hp
  refine mCallM_at (es := [.o s2 d2, .o s3 d3]) (args := .o s d :: [.o s2 d2, .o s3 d3]) (ρb := (p.getD ρ).set i .x) (cs := [.o s d, .o .v d2, .o .v d3]) (evs_p h0 (cons2 hb hc)) rfl ?_ rfl hm ?_
  · simp [outE, h1]
  · exact back_at (b := true) h1 rfl hk fun _ => rfl
theorem callM_o3 (h0 : ρ[i]? = some (.o s0 d0)) (hb : mb ρ = .ok (.o s2 d2) p) (hp : p.getD ρ = ρ1) (hc : mc ρ1 = .ok (.o s3 d3) none) (h1 : ρ1[i]? = some (.o s d)) (hm : g [.o s d, .o .v d2, .o .v d3] = .rt e [.o s' d', .x, .x]) (hk : noB ρ1 = true) :
    mCallM [true, false, false] g [.ref i, .ev mb, .ev mc] ρ = .ok e (some (ρ1.set i (.o s' d'))) := by
  subst hp
  refine mCallM_at (es := [.o s2 d2, .o s3 d3]) (args := .o s d :: [.o s2 d2, .o s3 d3]) (ρb := (p.getD ρ).set i .x) (cs := [.o s d, .o .v d2, .o .v d3]) (evs_o h0 (cons2 hb hc)) rfl ?_ rfl hm ?_
  · simp [outE, h1]
  · exact back_at (b := false) h1 rfl hk fun _ => rfl
theorem callM_p1 (h1 : ρ[i]? = some (.p s d)) (hm : g [.o s d] = .rt e [.o s' d']) (hk : noB ρ = true) : mCallM [true] g [.ref i] ρ = .ok e (some (ρ.set i (.p s' d'))) := by
  refine mCallM_at (es := []) (args := [.o s d]) (ρb := ρ.set i .x) (cs := [.o s d]) (p := none) (evs_p h1 rfl) rfl ?_ rfl hm ?_
  · simp [outE, h1]
  · exact back_at (b := true) h1 rfl hk fun _ => rfl
theorem callM_o1 (h1 : ρ[i]? = some (.o s d)) (hm : g [.o s d] = .rt e [.o s' d']) (hk : noB ρ = true) : mCallM [true] g [.ref i] ρ = .ok e (some (ρ.set i (.o s' d'))) := by
  refine mCallM_at (es := []) (args := [.o s d]) (ρb := ρ.set i .x) (cs := [.o s d]) (p := none) (evs_o h1 rfl) rfl ?_ rfl hm ?_
  · simp [outE, h1]
  · exact back_at (b := false) h1 rfl hk fun _ => rfl
end
end LP
end
section
/-! MR, part h: comprehensions by what stands so far. -/
namespace LP
open PySem PySem.Spec PyProof.Rows L2
section
variable {it : MI} {g : E → Rho → Option Rho} {tst elt : M} {srcs items : List E} {ρ ρ0 ρ2 : Rho} {p q : Option Rho} {e ee : E} {is : List Nat} {s : Sh} {d : D} {Q : E → Option Rho → Prop}
theorem lcRun_acc {α : Type} {c : α → D} (P : List α → Rho → Prop) : ∀ (items : List E) (xs : List α) (p : Option Rho), (∀ e ∈ items, isOe e = true) →
    (∀ i e xs' ρ, items[i]? = some e → xs'.length = xs.length + i → P xs' ρ → ∃ x q, lcTurn is g tst elt s e ρ = some (some (c x), q) ∧ P (xs' ++ [x]) (q.getD ρ)) → P xs (p.getD ρ) →
    ∃ (ys : List α) (q : Option Rho), lcRun is g tst elt s false ρ items p (xs.map c) = some (ys.map c, q) ∧ P ys (q.getD ρ) ∧ ys.length = xs.length + items.length
  | [], xs, p, _, _, h0 => ⟨xs, p, by simp [lcRun], h0, by simp⟩
  | e :: es, xs, p, hb, ht, h0 => by
    obtain ⟨x, q, h1, h2⟩ := ht 0 e xs (p.getD ρ) rfl rfl h0
    have h4 : (por p q).getD ρ = q.getD (p.getD ρ) := by cases p <;> cases q <;> rfl
    obtain ⟨ys, q', g1, g2, g3⟩ := lcRun_acc (c := c) P es (xs ++ [x]) (por p q) (fun e he => hb e (List.mem_cons_of_mem _ he)) (fun i e' xs' ρ2 hi hl hp => ht (i + 1) e' xs' ρ2 (by simpa using hi) (by rw [hl]; simp; omega) hp) (by rw [h4]; exact h2)
    refine ⟨ys, q', ?_, g2, by rw [g3]; simp; omega⟩
    unfold lcRun
    rw [kq_of (hb e List.mem_cons_self), h1]
    simp only [Bool.and_false, Bool.false_eq_true, if_false, Option.toList]
    rw [← g1]
    simp
/-- a comprehension that draws: P of the values so far and the slots -/
theorem eq_lc {α : Type} {c : α → D} (P : List α → Rho → Prop) (hi : it ρ = .ok srcs items none) (hn : noB srcs = true) (ho : ∀ e ∈ items, isOe e = true) (hx : allX is ρ = true) (hl : items.length ≤ 16777215)
    (h0 : P [] ρ) (ht : ∀ i e xs ρ, items[i]? = some e → xs.length = i → P xs ρ → ∃ x q, lcTurn is g tst elt s e ρ = some (some (c x), q) ∧ P (xs ++ [x]) (q.getD ρ))
    (hQ : ∀ xs q, xs.length = items.length → P xs (q.getD ρ) → Q (.o (.l s) (.lst (xs.map c))) q) : EQ (mLc s is it g tst elt ρ) Q := by
  obtain ⟨xs, q, h1, h2, h3⟩ := lcRun_acc (c := c) (is := is) (g := g) (tst := tst) (elt := elt) (s := s) (ρ := ρ) P items [] none ho (fun i e xs ρ h1 h2 h3 => ht i e xs ρ h1 (by simpa using h2) h3) h0
  refine ⟨_, q, ?_, hQ xs q (by simpa using h3) h2⟩
  unfold mLc
  rw [hi]
  simp only [Option.getD, hn, Bool.not_true]
  rw [if_pos ⟨hx, hl⟩]
  simp only [List.map_nil] at h1
  rw [h1]
  cases q <;> simp [por]
/-- .. iSeq over frozen data -/
theorem iSeq_of {m : M} {d : D} {α : Type} {c : α → D} {xs : List α} {s : Sh} (h : m ρ = .ok (.o s d) p) (hs : seqD d = some (xs.map c)) : iSeq m ρ = .ok [.o .v d] (xs.map fun x => .o .v (c x)) p := by
  rw [iSeq_o h hs, List.map_map]; rfl
theorem isOe_map {α : Type} {f : α → D} {xs : List α} {s : Sh} : ∀ e ∈ xs.map (fun x => E.o s (f x)), isOe e = true := by
  intro e he
  obtain ⟨x, _, rfl⟩ := List.mem_map.mp he
  rfl
theorem turn_eR {ρ3 : Rho} (hg : g e ρ = some ρ2) (ht : tst ρ2 = .ok (eB true) none) (he : elt ρ2 = .ok ee (some ρ3)) (hf : frS s ee = some d) (hr : (rst is ρ3).map kill = ρ0) : lcTurn is g tst elt s e ρ = some (some d, some ρ0) := by
  subst hr; exact turn_e hg ht he hf
end
end LP
end
section
/-! MR, part i: ranges, copies of a row. -/
namespace LP
open PySem PySem.Spec PyProof.Rows L2
section
variable {n : Nat} {k : Int} {s s1 : Sh} {α : Type} {c : α → D} {l : List α} {d : D}
theorem rgD_nat : rgD 0 (n : Int) = (List.range n).map iN := by
  unfold rgD
  simp only [Int.sub_zero, Int.toNat_natCast]
  exact List.map_congr_left fun i _ => by simp [iN]
theorem rgOk_nat (h : n ≤ 2 ^ 24) : rgOk 0 (n : Int) = true := by
  simp only [rgOk, Bool.and_eq_true, decide_eq_true_eq]
  omega
theorem fRg1_l (hk : k = (n : Nat)) (h : n ≤ 2 ^ 24) : fRg1 false [eI k] = some (.nl ((List.range n).map iN)) := by
  subst hk
  simp only [fRg1, E.rd]
  rw [if_pos (rgOk_nat h), rgD_nat]; rfl
theorem fRg1_t (hk : k = (n : Nat)) (h : n ≤ 2 ^ 24) : fRg1 true [eI k] = some (.nt ((List.range n).map iN)) := by
  subst hk
  simp only [fRg1, E.rd]
  rw [if_pos (rgOk_nat h), rgD_nat]; rfl
theorem fRev_o : fRev [.o s (.lst (l.map c))] = some (.nl (l.reverse.map c)) := by
  simp [fRev, E.rd, itm, List.map_reverse]
theorem fRev_b (h : ∀ x, imm (c x) = true) : fRev [.b (.lst (l.map c))] = some (.nl (l.reverse.map c)) := by
  simp [fRev, E.rd, itm, imms_map h, List.map_reverse]
theorem fSlB_to (h : ∀ x, imm (c x) = true) (hk : k = (n : Nat)) : fSl [.b (.lst (l.map c)), .o .v .non, eI k] = some (.nl ((l.take n).map c)) := by
  subst hk
  simp only [fSl, itm, imms_map h, if_true, E.rd, Option.bind, prt]
  rw [cut_none_some, List.map_take]
theorem fSlB_from (h : ∀ x, imm (c x) = true) (hk : k = (n : Nat)) : fSl [.b (.lst (l.map c)), eI k, .o .v .non] = some (.nl ((l.drop n).map c)) := by
  subst hk
  simp only [fSl, itm, imms_map h, if_true, E.rd, Option.bind, prt]
  rw [cut_some_none, List.map_drop]
theorem fSlB_last (h : ∀ x, imm (c x) = true) : fSl [.b (.lst (l.map c)), eI (-1), .o .v .non] = some (.nl ((l.drop (l.length - 1)).map c)) := by
  simp only [fSl, itm, imms_map h, if_true, E.rd, Option.bind, prt, cut]
  have : HT.sIx (l.map c).length 0 (some (-1)) = l.length - 1 := by
    simp [HT.sIx]
    omega
  rw [this, HT.sIx_none, List.map_drop, List.take_of_length_le (by simp)]
theorem fSlL_last : fSl [.o s (.lst (l.map c)), eI (-1), .o .v .non] = some (.nl ((l.drop (l.length - 1)).map c)) := by
  simp only [fSl, itm, E.rd, Option.bind, prt, cut]
  have : HT.sIx (l.map c).length 0 (some (-1)) = l.length - 1 := by
    simp [HT.sIx]
    omega
  rw [this, HT.sIx_none, List.map_drop, List.take_of_length_le (by simp)]
theorem fAdd_llm {l2 : List α} {s2 : Sh} (hl : l.length + l2.length ≤ 16777216) : fAdd [.o s1 (.lst (l.map c)), .o s2 (.lst (l2.map c))] = some (.nl ((l ++ l2).map c)) := by
  rw [fAdd_ll (by simpa using hl), List.map_append]
theorem fAdd_blm {l2 : List α} {s2 : Sh} (hi : ∀ x, imm (c x) = true) (hl : l.length + l2.length ≤ 16777216) : fAdd [.b (.lst (l.map c)), .o s2 (.lst (l2.map c))] = some (.nl ((l ++ l2).map c)) := by
  rw [fAdd_bl (imms_map hi) (by simpa using hl), List.map_append]
theorem fAdd_lbm {l2 : List α} (hi : ∀ x, imm (c x) = true) (hl : l.length + l2.length ≤ 16777216) : fAdd [.o s1 (.lst (l.map c)), .b (.lst (l2.map c))] = some (.nl ((l ++ l2).map c)) := by
  rw [fAdd_lb (imms_map hi) (by simpa using hl), List.map_append]
theorem fAdd_bbm {l2 : List α} (hi : ∀ x, imm (c x) = true) (hl : l.length + l2.length ≤ 16777216) : fAdd [.b (.lst (l.map c)), .b (.lst (l2.map c))] = some (.nl ((l ++ l2).map c)) := by
  rw [fAdd_bb (imms_map hi) (imms_map hi) (by simpa using hl), List.map_append]
theorem fAdd_ttm {l2 : List α} {s2 : Sh} (hl : l.length + l2.length ≤ 16777216) : fAdd [.o s1 (.tup (l.map c)), .o s2 (.tup (l2.map c))] = some (.t ((l ++ l2).map c)) := by
  rw [fAdd_tt (by simpa using hl), List.map_append]
theorem fLst_of {es : List E} {ds : List D} (h : frAll es = some ds) (hl : es.length ≤ 1000) : fLst es = some (.nl ds) := by simp [fLst, h, hl]
theorem fTup_of {es : List E} {ds : List D} (h : frAll es = some ds) (hl : es.length ≤ 1000) : fTup es = some (.nt ds) := by simp [fTup, h, hl]
theorem fMul_one {x : D} (hk : k = (n : Nat)) (hl : n ≤ 16777216) : fMul [.o s1 (.lst [x]), eI k] = some (.nl (List.replicate n x)) := by
  rw [fMul_l1 hk hl rfl]
  congr 2
  clear hk hl
  induction n with
  | zero => rfl
  | succ n ih => rw [List.replicate_succ, List.flatten_cons, ih, List.replicate_succ]; rfl
theorem fMul_b01 {b : Int} (hb : b = 0 ∨ b = 1) (hl : l.length ≤ 1000) : fMul [.o s1 (.lst (l.map c)), eI b] = some (.nl ((if b = 1 then l else []).map c)) := by
  rcases hb with rfl | rfl
  · simp [fMul, E.rd, itm]
  · simp [fMul, E.rd, itm, hl]; omega
end
/-- a slot that a change leaves alone -/
def isOe' (e : E) : Prop := noB [e] = true
theorem noB_c {e : E} {es : List E} (h1 : isOe' e) (h2 : noB es = true) : noB (e :: es) = true := by
  cases e <;> simp_all [noB, isOe']
theorem noB_all : ∀ {es : List E}, (∀ e ∈ es, isOe' e) → noB es = true
  | [], _ => rfl
  | e :: es, h => by
    have h1 := h e List.mem_cons_self
    have h2 := noB_all fun e he => h e (List.mem_cons_of_mem _ he)
    cases e <;> simp_all [noB, isOe']
end LP
end
section
/-! MR, part j: places within places; boards. -/
namespace LP
open PySem PySem.Spec PyProof.Rows L2
section
variable {m : M} {ρ ρ1 : Rho} {i j : Nat} {pp : List Nat} {s s1 s2 : Sh} {xs : List D} {k : Int} {P : Path} {d n : D} {ss : List Sh} {C : Addr} {ns : List Str} {f : Str}
theorem pIx_at (hP : P ρ = some (i, pp)) (hs : sub ρ i pp = some (.l s, .lst xs)) (hm : m ρ = .ok (eI k) none) (hk : ixN xs.length k = some j) : pIx P m ρ = some (i, pp ++ [j]) := by
  simp [pIx, hP, hs, hm, E.rd, hk]
theorem pName_o (h : ρ[i]? = some (.o s d)) : pName i ρ = some (i, []) := by simp [pName, h]
theorem pName_p (h : ρ[i]? = some (.p s d)) : pName i ρ = some (i, []) := by simp [pName, h]
theorem pFld_at (hP : P ρ = some (i, pp)) (hs : sub ρ i pp = some (.ob ss, .ob C ns xs)) (hk : idxOf f ns = some j) : pFld C f P ρ = some (i, pp ++ [j]) := by
  simp [pFld, hP, hs, hk]
theorem sub_o0 (h : ρ[i]? = some (.o s d)) : sub ρ i [] = some (s, d) := by simp [sub, h, subO, foc]
theorem sub_p0 (h : ρ[i]? = some (.p s d)) : sub ρ i [] = some (s, d) := by simp [sub, h, subO, foc]
theorem sub_l1 (h : ρ[i]? = some (.o (.l s) (.lst xs))) (hj : xs[j]? = some d) : sub ρ i [j] = some (s, d) := by simp [sub, h, subO, foc, hj]
theorem ups_l1 (h : ρ[i]? = some (.o (.l s) (.lst xs))) (hj : xs[j]? = some d) (hk : noB ρ = true) : ups i [j] s2 n ρ = ρ.set i (.o (.l s) (.lst (xs.set j n))) := by
  simp [ups, h, noB_kill hk, newD, shAt, E.sh, setAt, E.dt, hj]
theorem ups_o0 (h : ρ[i]? = some (.o s d)) (hk : noB ρ = true) : ups i [] s2 n ρ = ρ.set i (.o s2 n) := by
  simp [ups, h, noB_kill hk, newD, shAt, setAt]
theorem ups_p0 (h : ρ[i]? = some (.p s d)) (hk : noB ρ = true) : ups i [] s2 n ρ = ρ.set i (.p s2 n) := by
  simp [ups, h, noB_kill hk, newD, shAt, setAt]
theorem sub_ob1 (h : ρ[i]? = some (.p (.ob ss) (.ob C ns xs))) (hs : ss[j]? = some s) (hj : xs[j]? = some d) : sub ρ i [j] = some (s, d) := by simp [sub, h, subO, foc, hs, hj]
theorem ups_ob1 (h : ρ[i]? = some (.p (.ob ss) (.ob C ns xs))) (hj : xs[j]? = some d) (hk : noB ρ = true) : ups i [j] s2 n ρ = ρ.set i (.p (.ob ss) (.ob C ns (xs.set j n))) := by
  simp [ups, h, noB_kill hk, newD, shAt, E.sh, setAt, E.dt, hj]
end
/-- a choice among written numbers -/
theorem pick_at (L : List Int) {r : Int} (h0 : 0 ≤ r) (h1 : r < L.length) : ∃ v ∈ L, atI (L.map D.int) r = some (.int v) := by
  obtain ⟨j, rfl⟩ : ∃ j : Nat, r = j := ⟨r.toNat, by omega⟩
  have hj : j < L.length := by omega
  exact ⟨L[j], List.getElem_mem hj, atI_map (List.getElem?_eq_getElem hj) rfl⟩
theorem atI_two {a b : D} {q : Bool} : atI [a, b] (if q = true then 1 else 0) = some (if q = true then b else a) := by cases q <;> rfl
abbrev lI (xs : List Int) : D := .lst (xs.map D.int)
abbrev hD (hs : List (List Int)) : D := .tup (hs.map tI)
abbrev bD (lots : List Nat) (hs : List (List Int)) : D := .tup [tN lots, hD hs]
theorem imm_hD {hs : List (List Int)} : imm (hD hs) = true := imms_map fun _ => imm_tI
theorem imm_bD {lots : List Nat} {hs : List (List Int)} : imm (bD lots hs) = true := by
  have h1 : imm (tN lots) = true := imm_tN
  have h2 : imm (hD hs) = true := imm_hD
  simp only [bD, imm, imms, Bool.and_true, Bool.and_eq_true] at *
  exact ⟨h1, h2⟩
theorem fMul_one2 {x : D} {n1 n2 : Nat} {s1 : Sh} (hl : n1 + n2 ≤ 16777216) : fMul [.o s1 (.lst [x]), .o .v (.int ((n1 : Int) + (n2 : Int)))] = some (.nl (List.replicate (n1 + n2) x)) :=
  fMul_one (n := n1 + n2) (by omega) hl
theorem iSeq_bm {m : M} {ρ : Rho} {p : Option Rho} {α : Type} {c : α → D} {ca : α → E} {l : List α} (h : m ρ = .ok (.b (.lst (l.map c))) p) (hc : ∀ x, mkR (c x) = ca x) : iSeq m ρ = .ok [.b (.lst (l.map c))] (l.map ca) p := by
  simp only [iSeq, h, E.rd, srcE, List.map_map]
  congr 1
  exact List.map_congr_left fun x _ => hc x
/-! rows -/
theorem set_app_perm {α : Type} {v : α} : ∀ {hs : List (List α)} {j : Nat} {h : List α}, hs[j]? = some h → (hs.set j (h ++ [v])).flatten.Perm (v :: hs.flatten)
  | [], _, _, e => by simp at e
  | a :: hs, 0, h, e => by
    simp at e; subst e
    show (a ++ [v] ++ hs.flatten).Perm _
    rw [List.append_assoc]
    exact List.perm_middle
  | a :: hs, j + 1, h, e => by
    have ih := set_app_perm (v := v) (hs := hs) (j := j) (h := h) (by simpa using e)
    show (a ++ (hs.set j (h ++ [v])).flatten).Perm (v :: (a ++ hs.flatten))
    exact (ih.append_left a).trans List.perm_middle
theorem mem_flat {α : Type} {v : α} {hs : List (List α)} {P : α → Prop} (h : ∀ x ∈ hs, ∀ c ∈ x, P c) (hv : v ∈ hs.flatten) : P v := by
  obtain ⟨x, hx, hc⟩ := List.mem_flatten.mp hv
  exact h x hx v hc
/-- a board -/
structure BOk (lots : List Nat) (hs : List (List Int)) : Prop where
  len : lots.length = hs.length
  pos : 0 < hs.length
  asc : ∀ h ∈ hs, h.Pairwise (· < ·)
  nn : ∀ h ∈ hs, ∀ c ∈ h, 0 ≤ c
  fits : ∀ (i l : Nat) (h : List Int), lots[i]? = some l → hs[i]? = some h → l ≤ h.length
  nd : hs.flatten.Nodup
end LP
end
section
/-! MR, part k: iterables by kinds; bools in a row. -/
namespace LP
open PySem PySem.Spec PyProof.Rows L2
section
variable {m ma mb mc : M} {ρ : Rho} {s s1 s2 : Sh} {d d1 d2 d3 : D} {p : Option Rho} {α β : Type} {c : α → D} {c1 : α → D} {c2 : β → D} {l l1 : List α} {l2 : List β} {e1 e2 e3 : E} {b b1 b2 : Bool}
theorem iEn_m (h : m ρ = .ok (.o s d) p) (hs : seqD d = some (l.map c)) : iEn m ρ = .ok [.o .v d] (l.zipIdx.map fun q => .o .v (.tup [.int (q.2 : Nat), c q.1])) p := by
  rw [iEn_o h hs, List.zipIdx_map, List.map_map]; rfl
theorem iEn_bm (h : m ρ = .ok (.b (.lst (l.map c))) p) (hc : ∀ x, imm (c x) = true) : iEn m ρ = .ok [.b (.lst (l.map c))] (l.zipIdx.map fun q => .o .v (.tup [.int (q.2 : Nat), c q.1])) p := by
  simp only [iEn, h, E.rd, Option.bind, seqD, srcE]
  rw [List.zipIdx_map, List.map_map]
  congr 1
  exact List.map_congr_left fun q _ => by simp [pairE, itE, mkR, hc, frAll]
theorem iEn_ll (h : m ρ = .ok (.b (.lst (l.map c))) p) (hc : ∀ x, mkR (c x) = .b (c x)) : iEn m ρ = .ok [.b (.lst (l.map c))] (l.zipIdx.map fun q => .b (.tup [.int (q.2 : Nat), c q.1])) p := by
  simp only [iEn, h, E.rd, Option.bind, seqD, srcE]
  rw [List.zipIdx_map, List.map_map]
  congr 1
  exact List.map_congr_left fun q _ => by simp [pairE, itE, hc, frAll, E.rd]
theorem iZ_m {q : Bool} (h : a2 ma mb ρ = .ok [.o s1 d1, .o s2 d2] p) (h1 : seqD d1 = some (l1.map c1)) (h2 : seqD d2 = some (l2.map c2)) (hl : q = true → l1.length = l2.length) :
    iZ q ma mb ρ = .ok [.o .v d1, .o .v d2] ((l1.zip l2).map fun q => .o .v (.tup [c1 q.1, c2 q.2])) p := by
  rw [iZ_oo h h1 h2 (by simpa using hl), List.zip_map, List.map_map]; rfl
theorem iSeq_bi (h : m ρ = .ok (.b (.lst (l.map c))) p) (hc : ∀ x, imm (c x) = true) : iSeq m ρ = .ok [.b (.lst (l.map c))] (l.map fun x => .o .v (c x)) p :=
  iSeq_bm h fun x => by simp [mkR, hc]
theorem fAll_o {f : α → Bool} : fAll [.o s (.lst (l.map fun x => D.bl (f x)))] = some (.f (.bl (l.all f))) := by
  show (match blsD (l.map fun x => D.bl (f x)) with | some ns => some (Rs.f (.bl (ns.all id))) | none => none) = _
  rw [blsD_of]
  simp [List.all_map, Function.comp_def]
theorem fAny_o {f : α → Bool} : fAny [.o s (.lst (l.map fun x => D.bl (f x)))] = some (.f (.bl (l.any f))) := by
  show (match blsD (l.map fun x => D.bl (f x)) with | some ns => some (Rs.f (.bl (ns.any id))) | none => none) = _
  rw [blsD_of]
  simp [List.any_map, Function.comp_def]
theorem fAll_of {f : α → Bool} {ds : List D} (h : ds = l.map fun x => D.bl (f x)) : fAll [.o s (.lst ds)] = some (.f (.bl (l.all f))) := by subst h; exact fAll_o
theorem mChain_t {g1 g2 : D → D → Option D} (h : a2 ma mb ρ = .ok [e1, e2] none) (h1 : e1.rd = some d1) (h2 : e2.rd = some d2) (hg : g1 d1 d2 = some (.bl true)) (hc : mc ρ = .ok e3 none) (h3 : e3.rd = some d3) (hg2 : g2 d2 d3 = some (.bl b)) : mChain g1 g2 ma mb mc ρ = .ok (eB b) none := by
  have h' : aCons (fun _ => EO.ok e2 none) (aCons mc aNil) ρ = .ok [e2, e3] none := aCons_nn rfl (aCons_nn hc rfl)
  simp only [mChain, h, h1, h2, hg, Option.getD, h', h3, hg2]
  rfl
theorem gIsN_non : gIsN .non .non = some (.bl false) := rfl
end
end LP
end
section
/-! MR, part l: dicts with int keys, by their keys; sorted rows of places. -/
namespace LP
open PySem PySem.Spec PyProof.Rows L2
abbrev keysG {α : Type} (kvs : List (Key × α)) : List Key := kvs.map (·.1)
section
variable {α : Type} {kvs more : List (Key × α)} {k k' : Key} {v : α}
theorem putG_keys : k' ∈ (putG kvs k v).map (·.1) ↔ k' = k ∨ k' ∈ kvs.map (·.1) := by
  unfold putG
  by_cases h : (kvs.any fun kv => decide (kv.1 = k)) = true
  · rw [if_pos h]
    have e : (kvs.map fun kv => if kv.1 = k then (kv.1, v) else kv).map (·.1) = kvs.map (·.1) := by
      rw [List.map_map]
      refine List.map_congr_left fun x _ => ?_
      show (if x.1 = k then (x.1, v) else x).1 = x.1
      split <;> rfl
    rw [e]
    refine ⟨.inr, ?_⟩
    rintro (rfl | h2)
    · obtain ⟨x, hx, hk⟩ := List.any_eq_true.mp h
      exact List.mem_map.mpr ⟨x, hx, by simpa using hk⟩
    · exact h2
  · rw [if_neg h]
    simp only [List.map_append, List.mem_append, List.map_cons, List.map_nil, List.mem_singleton]
    exact Or.comm
theorem mergeG_keys : k' ∈ (mergeG kvs more).map (·.1) ↔ k' ∈ kvs.map (·.1) ∨ k' ∈ more.map (·.1) := by
  unfold mergeG
  induction more generalizing kvs with
  | nil => simp
  | cons x xs ih =>
    rw [List.foldl_cons, ih, putG_keys, List.map_cons, List.mem_cons]
    exact ⟨fun h => by rcases h with (h | h) | h; exact .inr (.inl h); exact .inl h; exact .inr (.inr h), fun h => by rcases h with h | h | h; exact .inl (.inr h); exact .inl (.inl h); exact .inr h⟩
theorem mergeG_len : (mergeG kvs more).length ≤ kvs.length + more.length := by
  unfold mergeG
  induction more generalizing kvs with
  | nil => simp
  | cons x xs ih =>
    rw [List.foldl_cons]
    have h1 := ih (kvs := putG kvs x.1 x.2)
    have h2 := putG_len kvs x.1 x.2
    simp only [List.length_cons]
    omega
def hasG (kvs : List (Key × α)) (k : Key) : Bool := kvs.any fun kv => decide (kv.1 = k)
theorem hasG_iff : hasG kvs k = true ↔ k ∈ kvs.map (·.1) := by
  unfold hasG
  rw [List.any_eq_true, List.mem_map]
  exact ⟨fun ⟨x, hx, h⟩ => ⟨x, hx, by simpa using h⟩, fun ⟨x, hx, h⟩ => ⟨x, hx, by simpa using h⟩⟩
theorem hasG_no (h : k ∉ kvs.map (·.1)) : hasG kvs k = false := by
  cases e : hasG kvs k with
  | false => rfl
  | true => exact absurd (hasG_iff.mp e) h
theorem getG_some : (getG kvs k).isSome = hasG kvs k := by
  unfold getG hasG
  rw [Option.isSome_map]
  induction kvs with
  | nil => rfl
  | cons x xs ih =>
    rw [List.any_cons, List.find?_cons]
    by_cases h : x.1 = k
    · simp [h]
    · simp only [h, decide_false, Bool.false_or]
      exact ih
end
theorem zip_dk (kvs : List (Key × D)) : (kvs.map (·.1)).zip (kvs.map (·.2)) = kvs := zip_un kvs
theorem gDin_i {kvs : List (Key × D)} {c : Int} : gDin false (.int c) (dkD kvs) = some (.bl (hasG kvs (.inl c))) := by
  simp only [gDin, dkD, keyD, zip_dk, getG_some]
  rfl
theorem dcRun_keys {g : E → Rho → Option Rho} {tst mk mv : M} {ρ : Rho} {α : Type} {ca : α → E} {kf : α → Int} {vf : α → D} : ∀ (xs : List α) (acc : List (Key × D)), (∀ x ∈ xs, dcTurn g tst mk mv (ca x) ρ = some (some (.inl (kf x), vf x))) →
    ∃ r, dcRun g tst mk mv ρ (xs.map ca) acc = some r ∧ (∀ k, k ∈ r.map (·.1) ↔ k ∈ acc.map (·.1) ∨ ∃ x ∈ xs, k = .inl (kf x)) ∧ r.length ≤ acc.length + xs.length
  | [], acc, _ => ⟨acc, rfl, fun k => by simp, by simp⟩
  | x :: xs, acc, h => by
    obtain ⟨r, h1, h2, h3⟩ := dcRun_keys xs (putG acc (.inl (kf x)) (vf x)) fun y hy => h y (List.mem_cons_of_mem _ hy)
    refine ⟨r, ?_, fun k => ?_, ?_⟩
    · rw [List.map_cons]
      unfold dcRun
      rw [h x List.mem_cons_self]
      exact h1
    · rw [h2, putG_keys]
      simp only [List.mem_cons, exists_eq_or_imp]
      exact ⟨fun h => by rcases h with (h | h) | h; exact .inr (.inl h); exact .inl h; exact .inr (.inr h), fun h => by rcases h with h | h | h; exact .inl (.inr h); exact .inl (.inl h); exact .inr h⟩
    · have := putG_len acc (.inl (kf x)) (vf x)
      simp only [List.length_cons]
      omega
theorem dc_at {is : List Nat} {it : MI} {srcs : List E} {g : E → Rho → Option Rho} {tst mk mv : M} {ρ : Rho} {α : Type} {ca : α → E} (kf : α → Int) (vf : α → D) {xs : List α} (hi : it ρ = .ok srcs (xs.map ca) none) (hx : allX is ρ = true) (hl : xs.length ≤ 16777215)
    (ht : ∀ x ∈ xs, dcTurn g tst mk mv (ca x) ρ = some (some (.inl (kf x), vf x))) : ∃ r, mDc is it g tst mk mv ρ = .ok (.o (.dk .v) (dkD r)) none ∧ (∀ k, k ∈ r.map (·.1) ↔ ∃ x ∈ xs, k = .inl (kf x)) ∧ r.length ≤ xs.length := by
  obtain ⟨r, h1, h2, h3⟩ := dcRun_keys xs [] ht
  refine ⟨r, ?_, fun k => by simpa using h2 k, by simpa using h3⟩
  unfold mDc
  rw [hi]
  simp only [Option.getD]
  rw [if_pos ⟨hx, by simpa using hl⟩, h1]
theorem dturn_p {g : E → Rho → Option Rho} {tst mk mv : M} {ρ ρ2 : Rho} {e ev : E} {k : Int} {d : D} (hg : g e ρ = some ρ2) (ht : tst ρ2 = .ok (eB true) none) (hk : mk ρ2 = .ok (eI k) none) (hv : mv ρ2 = .ok ev none) (hf : frS .v ev = some d) : dcTurn g tst mk mv e ρ = some (some (.inl k, d)) := by
  simp [dcTurn, hg, ht, blE, E.rd, hk, hv, hf, keyD]
theorem mMut_upd {P : Path} {m : M} {ρ ρ1 ρ2 : Rho} {i : Nat} {kvs more : List (Key × D)} {s : Sh} {p : Option Rho} (hP : P ρ = some (i, [])) (hs : sub ρ i [] = some (.dk .v, dkD kvs)) (hm : m ρ = .ok (.o s (dkD more)) p) (hq : p.getD ρ = ρ1) (hs2 : sub ρ1 i [] = some (.dk .v, dkD kvs)) (hl : kvs.length + more.length ≤ 16777216) (hu : ups i [] (.dk .v) (dkD (mergeG kvs more)) ρ1 = ρ2) :
    mMut "dict" kFz fUpd P m ρ = .ok (.o .v .non) (some ρ2) := by
  subst hq hu
  have h1 : frS .v (.o s (dkD more)) = some (dkD more) := rfl
  have h2 : fUpd (.dk .v) (dkD kvs) (.o .v (dkD more)) = some (dkD (mergeG kvs more), .o .v .non) := by
    simp only [fUpd, dkD, zip_dk, List.length_map]
    rw [if_pos hl]
  have h3 : tyS "dict" (.dk .v) (dkD kvs) = true := rfl
  simp only [mMut, hP, hs, h3, if_true, hm, okPath, List.isEmpty_nil, Bool.true_or, hs2, cvA, kFz, h1, Option.map_some, h2]
theorem mVar_dk' {i : Nat} {ρ : Rho} {s : Sh} {kvs : List (Key × D)} (h : ρ[i]? = some (.o s (dkD kvs))) (hs : s = .dk .v) : mVar i ρ = .ok (.b (dkD kvs)) none := by subst hs; simp [mVar, h, rdE, mkR, imm, dkD]
/-! sorted places -/
theorem iN_ints (p : List Nat) : p.map iN = (p.map Int.ofNat).map D.int := by rw [List.map_map]; rfl
theorem fSorted_R {s : Sh} {p : List Nat} {n : Nat} (h : p.Perm (List.range n)) : fSorted [.o s (.tup (p.map iN))] = some (.nl ((List.range n).map iN)) := by
  rw [fSorted_o (xs := p.map Int.ofNat) (by rw [← iN_ints]; rfl), iN_ints (List.range n)]
  have h1 : srt (p.map Int.ofNat) = (List.range n).map Int.ofNat := srt_eq (h.map _) (by
    rw [List.pairwise_map]
    refine List.pairwise_lt_range.imp fun {a b} hab => ?_
    show (a : Int) ≤ b
    omega)
  rw [h1]
end LP
end
section
/-! MR, part m: objects and their fields. -/
namespace LP
open PySem PySem.Spec PyProof.Rows L2
section
variable {m mi : M} {ρ ρ1 : Rho} {i j kk : Nat} {s : Sh} {ss : List Sh} {xs ys : List D} {k : Int} {d : D} {C : Addr} {ns : List Str} {f : Str} {e : E} {p : Option Rho}
theorem fFld_b (hj : idxOf f ns = some j) (hx : xs[j]? = some d) : fFld C f [.b (.ob C ns xs)] = some (.r d) := by simp [fFld, E.rd, hj, hx, fromE]
theorem fFld_o (hj : idxOf f ns = some j) (hx : xs[j]? = some d) : fFld C f [.o s (.ob C ns xs)] = some (.f d) := by simp [fFld, E.rd, hj, hx, fromE]
theorem nx_itm_ob (hm : m ρ = .ok e none) (h : ρ[i]? = some (.p (.ob ss) (.ob C ns xs))) (hj : idxOf f ns = some j) (hs : ss[j]? = some (.l s)) (hx : xs[j]? = some (.lst ys)) (hi : mi ρ = .ok (eI k) none) (hf : frS s e = some d) (hk : k = (kk : Nat)) (hkl : kk < ys.length) (hb : noB ρ = true) :
    Nx (sItem (pFld C f (pName i)) mi m ρ) (ρ.set i (.p (.ob ss) (.ob C ns (xs.set j (.lst (ys.set kk d)))))) := by
  subst hk
  exact nx_itm hm rfl (pFld_at (pName_p h) (sub_p0 h) hj) (sub_ob1 h hs hx) hi hf (ixN_of hkl) (ups_ob1 h hx hb)
theorem nx_fld_new (hm : m ρ = .ok (.o s d) none) (h : ρ[i]? = some (.p (.ob ss) (.ob C ns xs))) (hl : ns.length < 900) (hj : idxOf f ns = none) (hb : noB ρ = true) :
    Nx (sFldS C f (pName i) m ρ) (ρ.set i (.p (.ob (ss ++ [s])) (.ob C (ns ++ [f]) (xs ++ [d])))) :=
  nx_fldS hm rfl (pName_p h) (sub_p0 h) hl hj (ups_p0 h hb)
theorem kill_id {e : E} (h : noB [e] = true) : kill e = e := by cases e <;> simp_all [noB, kill]
theorem sum_len {α : Type} {h : α → List Int} : ∀ (l : List α), lstsD (l.map fun x => lI (h x)) = some (l.map fun x => (h x).map D.int)
  | [] => rfl
  | x :: l => by simp [lstsD, sum_len l]
theorem fSumL_m {α : Type} {l : List α} {h : α → List Int} {s : Sh} (h0 : 0 < l.length) (hl : (l.map h).flatten.length ≤ 10000) : fSumL [.o s (.lst (l.map fun x => lI (h x))), .o (.l .v) (.lst [])] = some (.nl ((l.map h).flatten.map D.int)) := by
  have hz : 10000 ≤ sizeLine := by rw [sizeLine_eq]; decide
  have e1 : (l.map fun x => (h x).map D.int).flatten = (l.map h).flatten.map D.int := by
    rw [List.map_flatten, List.map_map]; rfl
  simp only [fSumL, E.rd, itm, sum_len, e1, List.length_map]
  rw [if_pos ⟨h0, by omega⟩]
end
end LP
end
section
/-! MR, part n: the first place of a thing. -/
namespace LP
open PySem PySem.Spec PyProof.Rows L2
section
variable {g : E → Rho → Option Rho} {tst elt : M} {ρ ρ2 : Rho} {e ee : E} {is : List Nat} {s : Sh} {d : D} {b : Bool}
theorem turn_t (hg : g e ρ = some ρ2) (ht : tst ρ2 = .ok (eB b) none) (he : elt ρ2 = .ok ee none) (hf : frS s ee = some d) : lcTurn is g tst elt s e ρ = some (if b = true then some d else none, none) := by
  cases b with
  | true => exact turn_p hg ht he hf
  | false => exact turn_no hg ht
end
theorem first_place {card : Int} : ∀ (hs : List (List Int)) (n k : Nat) (h : List Int), hs[k]? = some h → card ∈ h → (∀ (j : Nat) (x : List Int), j < k → hs[j]? = some x → card ∉ x) →
    ((hs.zipIdx n).filterMap fun q => if decide (card ∈ q.1) = true then some (D.int (q.2 : Nat)) else none).head? = some (.int ((n + k : Nat) : Int))
  | [], _, _, _, h, _, _ => by simp at h
  | x :: hs, n, 0, h, hh, hc, _ => by
    simp at hh; subst hh
    rw [List.zipIdx_cons, List.filterMap_cons]
    simp [hc]
  | x :: hs, n, k + 1, h, hh, hc, hno => by
    have h0 := hno 0 x (by omega) rfl
    have ih := first_place hs (n + 1) k h (by simpa using hh) hc fun j y hj hy => hno (j + 1) y (by omega) (by simpa using hy)
    rw [List.zipIdx_cons, List.filterMap_cons]
    simp only [h0, decide_false, Bool.false_eq_true, if_false]
    rw [ih]
    congr 3
    omega
theorem atI_head {l : List D} {x : D} (h : l.head? = some x) : atI l 0 = some x := by
  cases l with
  | nil => cases h
  | cons a l => exact atI_nat (n := 0) (by simpa using h) rfl
theorem findFirst {P : List Int → Prop} (hP : ∀ x, P x ∨ ¬ P x) : ∀ (hs : List (List Int)), (∃ x ∈ hs, P x) → ∃ (k : Nat) (h : List Int), hs[k]? = some h ∧ P h ∧ ∀ (j : Nat) (x : List Int), j < k → hs[j]? = some x → ¬ P x
  | [], h => by obtain ⟨x, hx, _⟩ := h; cases hx
  | a :: hs, h => by
    rcases hP a with ha | ha
    · exact ⟨0, a, rfl, ha, fun j x hj _ => absurd hj (Nat.not_lt_zero _)⟩
    · obtain ⟨x, hx, hp⟩ := h
      have : ∃ x ∈ hs, P x := by
        rcases List.mem_cons.mp hx with rfl | hx
        · exact absurd hp ha
        · exact ⟨x, hx, hp⟩
      obtain ⟨k, h, h1, h2, h3⟩ := findFirst hP hs this
      refine ⟨k + 1, h, by simpa using h1, h2, fun j x hj hx => ?_⟩
      cases j with
      | zero => simp at hx; subst hx; exact ha
      | succ j => exact h3 j x (by omega) (by simpa using hx)
theorem mIfE_b {mc ma mb : M} {ρ : Rho} {b : Bool} {r : EO} (h : mc ρ = .ok (eB b) none) (ht : b = true → ma ρ = r) (hf : b = false → mb ρ = r) : mIfE mc ma mb ρ = r := by
  cases b with
  | true => rw [mIfE_t h, ht rfl]
  | false => rw [mIfE_f h, hf rfl]
end LP
end
section
/-! MR, part o: a place of a list that stands in a slot; rows with their numbers. -/
namespace LP
open PySem PySem.Spec PyProof.Rows L2
section
variable {m mi : M} {ρ ρ1 : Rho} {i j kk : Nat} {s : Sh} {xs ys : List D} {k : Int} {d : D} {e : E} {p : Option Rho}
theorem nx_itm_o (hm : m ρ = .ok e none) (h : ρ[i]? = some (.o (.l s) (.lst ys))) (hi : mi ρ = .ok (eI k) none) (hf : frS s e = some d) (hk : k = (kk : Nat)) (hkl : kk < ys.length) (hb : noB ρ = true) :
    Nx (sItem (pName i) mi m ρ) (ρ.set i (.o (.l s) (.lst (ys.set kk d)))) := by
  subst hk
  exact nx_itm hm rfl (pName_o h) (sub_o0 h) hi hf (ixN_of hkl) (ups_o0 h hb)
end
theorem fSorted_b {xs : List Int} : fSorted [.b (.lst (xs.map D.int))] = some (.nl ((srt xs).map D.int)) := by
  have h : itm (.b (.lst (xs.map D.int))) = some (xs.map D.int) := by
    simp only [itm]; rw [if_pos (imms_map fun _ => rfl)]
  simp [fSorted, h, sortOk_ints, sortD_ints]
theorem zip_item {α : Type} {f : α → Nat → D} {l : List α} {i : Nat} {e : E} (hi : (l.zipIdx.map fun q => E.o .v (f q.1 q.2))[i]? = some e) : ∃ x, l[i]? = some x ∧ e = .o .v (f x i) := by
  rw [List.getElem?_map] at hi
  cases hh : l.zipIdx[i]? with
  | none => rw [hh] at hi; cases hi
  | some y =>
    rw [hh] at hi
    rw [List.getElem?_zipIdx] at hh
    cases h3 : l[i]? with
    | none => rw [h3] at hh; cases hh
    | some h =>
      rw [h3] at hh
      cases hh
      exact ⟨h, rfl, by simpa using (Option.some.inj hi).symm⟩
theorem map_item {α : Type} {f : α → D} {l : List α} {i : Nat} {e : E} (hi : (l.map fun q => E.o .v (f q))[i]? = some e) : ∃ x, l[i]? = some x ∧ e = .o .v (f x) := by
  rw [List.getElem?_map] at hi
  cases hh : l[i]? with
  | none => rw [hh] at hi; cases hi
  | some y => rw [hh] at hi; exact ⟨y, rfl, (Option.some.inj hi).symm⟩
theorem zipIdx_get {α : Type} {l : List α} {q : α × Nat} (h : q ∈ l.zipIdx) : l[q.2]? = some q.1 := by
  have := List.mem_zipIdx h
  obtain ⟨_, h2, h3⟩ := this
  simp only [Nat.sub_zero, Nat.zero_add] at h2 h3
  rw [List.getElem?_eq_getElem h2, h3]
end LP
end
section
/-! MR, part z: the law's promise, and what its denotation gives. -/
namespace LP
open PySem PySem.Spec PyProof.Rows L2
/-- a list of ints is handed in, True comes out -/
def spLaw (K : PySem.W.Frag) : Sp := fun vs H Q _ => Only H ∧ ∃ (a : Addr) (ns : List Int), vs = [.ref a] ∧ SqL K H a (ns.map V.int) ∧ ∀ H', Q (.bl true) H'
theorem rp_ints {K : PySem.W.Frag} {G : Hp} : ∀ ns : List Int, Rp K G (ns.map V.int) (ns.map D.int)
  | [] => .nil
  | n :: ns => .int n (rp_ints ns)
theorem law_end {P : Program} {w : World} {K : PySem.W.Frag} {mg : Str → Option Value} {base : Heap} {k : Nat} {f : Addr} {fd : FuncData} {m : List E → FO} (F : FnOk P w K mg base (L2.CX P w) k f fd ["script"] (SpV K 1 m))
    (hm : ∀ ns : List Int, m [eV (.scr (ns.map D.int))] = .rt (eB true) [.x]) : FnOk P w K mg base (L2.CX P w) k f fd ["script"] (spLaw K) := by
  refine F.imp fun vs H Q Ew h => ?_
  obtain ⟨hO, a, ns, rfl, hS, q⟩ := h
  have hF : SqF K (hid H []) a (ns.map V.int) := by
    have e : hid H [] = H := by funext b; exact hid_out (by simp)
    rw [e]
    rcases hS with (h | ⟨o, h⟩) | h
    · rcases hO a with g | ⟨o, xs, g⟩
      · rw [g] at h; cases h
      · rw [g] at h; cases h
    · exact .inl ⟨o, h⟩
    · exact .inr (.inr h)
  refine ⟨rfl, [eV (.scr (ns.map D.int))], [], ?_, fun a => by simp, ?_⟩
  · have := Ents.o (es := []) (vs := []) (zs := []) (Own.v (G := hid H []) (H := H) (.scr hF (rp_ints ns) .nil) .nil) .nil
    simpa using this
  · rw [hm ns]
    intro v H' zs' ents _ _ _ _ _ _
    have : v = .bl true := by
      cases ents with
      | x r =>
        generalize hz : zs' = z at r
        cases r with
        | o r1 r2 =>
          cases r1 with
          | v r3 r4 =>
            cases r3 with
            | bl b r5 => rfl
    subst this
    exact q H'
end LP
end
section
/-! the walks of law_k11_tracking_cards; printed by gen.py -/
namespace W_k11
open PySem PySem.Spec PyProof.Rows L2 LP
def topS (i : Nat) : Stmt := PySem.Challenge.pw_leastpass_k11_tracking_cards.main.body.getD i (.Pass ⟨0, 0, 0, 0⟩)
abbrev s_is_integer : Stmt := topS 8
theorem sc_is_integer : FnScope ["value"] ["value"] (defScope s_is_integer) := ⟨rfl, rfl, rfl, by decide +kernel, rfl, by decide +kernel, by decide +kernel⟩
abbrev s_is_pair_of_tuples : Stmt := topS 11
theorem sc_is_pair_of_tuples : FnScope ["value", "part"] ["value"] (defScope s_is_pair_of_tuples) := ⟨rfl, rfl, rfl, by decide +kernel, rfl, by decide +kernel, by decide +kernel⟩
abbrev s_first_failure : Stmt := topS 12
theorem sc_first_failure : FnScope ["word", "results", "index", "result"] ["word", "results"] (defScope s_first_failure) := ⟨rfl, rfl, rfl, by decide +kernel, rfl, by decide +kernel, by decide +kernel⟩
abbrev s_Simulation___init__ : Stmt := inClass (topS 21) 0
theorem sc_Simulation___init__ : FnScope ["self", "board", "lot", "hand"] ["self", "board"] (defScope s_Simulation___init__) := ⟨rfl, rfl, rfl, by decide +kernel, rfl, by decide +kernel, by decide +kernel⟩
abbrev s_Simulation_apply_round : Stmt := inClass (topS 21) 1
theorem sc_Simulation_apply_round : FnScope ["self", "permutation", "load", "place", "target", "cards"] ["self", "permutation"] (defScope s_Simulation_apply_round) := ⟨rfl, rfl, rfl, by decide +kernel, rfl, by decide +kernel, by decide +kernel⟩
abbrev s_Simulation_holder : Stmt := inClass (topS 21) 7
theorem sc_Simulation_holder : FnScope ["self", "card", "load", "cards", "place"] ["self", "card"] (defScope s_Simulation_holder) := ⟨rfl, rfl, rfl, by decide +kernel, rfl, by decide +kernel, by decide +kernel⟩
abbrev s__law_cell : Stmt := topS 25
theorem sc__law_cell : FnScope ["script", "index"] ["script", "index"] (defScope s__law_cell) := ⟨rfl, rfl, rfl, by decide +kernel, rfl, by decide +kernel, by decide +kernel⟩
abbrev s__law_hash : Stmt := topS 26
theorem sc__law_hash : FnScope ["seed", "index", "mixed"] ["seed", "index"] (defScope s__law_hash) := ⟨rfl, rfl, rfl, by decide +kernel, rfl, by decide +kernel, by decide +kernel⟩
abbrev s__law_all_cards : Stmt := topS 33
theorem sc__law_all_cards : FnScope ["board", "hand"] ["board"] (defScope s__law_all_cards) := ⟨rfl, rfl, rfl, by decide +kernel, rfl, by decide +kernel, by decide +kernel⟩
abbrev s__law_play_round : Stmt := topS 34
theorem sc__law_play_round : FnScope ["board", "permutation", "lots", "hands", "new_lots", "place", "new_hands", "target", "hand"] ["board", "permutation"] (defScope s__law_play_round) := ⟨rfl, rfl, rfl, by decide +kernel, rfl, by decide +kernel, by decide +kernel⟩
abbrev s__law_location : Stmt := topS 36
theorem sc__law_location : FnScope ["board", "card", "place", "in_load", "index", "hand"] ["board", "card"] (defScope s__law_location) := ⟨rfl, rfl, rfl, by decide +kernel, rfl, by decide +kernel, by decide +kernel⟩
abbrev s_is_at_least : Stmt := topS 9
theorem sc_is_at_least : FnScope ["value", "minimum"] ["value", "minimum"] (defScope s_is_at_least) := ⟨rfl, rfl, rfl, by decide +kernel, rfl, by decide +kernel, by decide +kernel⟩
abbrev s_is_round : Stmt := topS 14
theorem sc_is_round : FnScope ["places", "value", "place"] ["places", "value"] (defScope s_is_round) := ⟨rfl, rfl, rfl, by decide +kernel, rfl, by decide +kernel, by decide +kernel⟩
abbrev s_require_card : Stmt := topS 19
theorem sc_require_card : FnScope ["board", "value", "hand"] ["board", "value"] (defScope s_require_card) := ⟨rfl, rfl, rfl, by decide +kernel, rfl, by decide +kernel, by decide +kernel⟩
abbrev s_Simulation_location : Stmt := inClass (topS 21) 8
theorem sc_Simulation_location : FnScope ["self", "card", "kind", "index"] ["self", "card"] (defScope s_Simulation_location) := ⟨rfl, rfl, rfl, by decide +kernel, rfl, by decide +kernel, by decide +kernel⟩
abbrev s__law_generator : Stmt := topS 27
theorem sc__law_generator : FnScope ["script", "index", "seed"] ["script", "index"] (defScope s__law_generator) := ⟨rfl, rfl, rfl, by decide +kernel, rfl, by decide +kernel, by decide +kernel⟩
abbrev s__law_random : Stmt := topS 28
theorem sc__law_random : FnScope ["generator", "bound", "drawn", "part"] ["generator", "bound"] (defScope s__law_random) := ⟨rfl, rfl, rfl, by decide +kernel, rfl, by decide +kernel, by decide +kernel⟩
abbrev s__law_play : Stmt := topS 35
theorem sc__law_play : FnScope ["board", "moves", "permutation"] ["board", "moves"] (defScope s__law_play) := ⟨rfl, rfl, rfl, by decide +kernel, rfl, by decide +kernel, by decide +kernel⟩
abbrev s_is_hand : Stmt := topS 10
theorem sc_is_hand : FnScope ["value", "low", "high", "card"] ["value"] (defScope s_is_hand) := ⟨rfl, rfl, rfl, by decide +kernel, rfl, by decide +kernel, by decide +kernel⟩
abbrev s_require_place_count : Stmt := topS 15
theorem sc_require_place_count : FnScope ["places"] ["places"] (defScope s_require_place_count) := ⟨rfl, rfl, rfl, by decide +kernel, rfl, by decide +kernel, by decide +kernel⟩
abbrev s__law_shuffled : Stmt := topS 29
theorem sc__law_shuffled : FnScope ["generator", "items", "pool", "item"] ["generator", "items"] (defScope s__law_shuffled) := ⟨rfl, rfl, rfl, by decide +kernel, rfl, by decide +kernel, by decide +kernel⟩
abbrev s_check_board : Stmt := topS 13
theorem sc_check_board : FnScope ["value", "lots", "hands", "bad_lot", "hand", "bad_hand", "seen", "unique", "place", "short", "lot", "card"] ["value"] (defScope s_check_board) := ⟨rfl, rfl, rfl, by decide +kernel, rfl, by decide +kernel, by decide +kernel⟩
abbrev s_check_plan : Stmt := topS 16
theorem sc_check_plan : FnScope ["places", "value", "permutation"] ["places", "value"] (defScope s_check_plan) := ⟨rfl, rfl, rfl, by decide +kernel, rfl, by decide +kernel, by decide +kernel⟩
abbrev s__law_random_round : Stmt := topS 30
theorem sc__law_random_round : FnScope ["generator", "size", "kind", "identity"] ["generator", "size"] (defScope s__law_random_round) := ⟨rfl, rfl, rfl, by decide +kernel, rfl, by decide +kernel, by decide +kernel⟩
abbrev s__law_random_board : Stmt := topS 32
theorem sc__law_random_board : FnScope ["generator", "size", "largest_base", "equal_lots", "place", "lots", "bases", "holders", "hands", "number", "holder", "gap", "hand"] ["generator", "size", "largest_base"] (defScope s__law_random_board) := ⟨rfl, rfl, rfl, by decide +kernel, rfl, by decide +kernel, by decide +kernel⟩
abbrev s_require_board : Stmt := topS 17
theorem sc_require_board : FnScope ["value", "reason"] ["value"] (defScope s_require_board) := ⟨rfl, rfl, rfl, by decide +kernel, rfl, by decide +kernel, by decide +kernel⟩
abbrev s_require_plan : Stmt := topS 18
theorem sc_require_plan : FnScope ["places", "value", "reason"] ["places", "value"] (defScope s_require_plan) := ⟨rfl, rfl, rfl, by decide +kernel, rfl, by decide +kernel, by decide +kernel⟩
abbrev s__law_random_plan : Stmt := topS 31
theorem sc__law_random_plan : FnScope ["generator", "size", "longest", "moves", "step", "repeated"] ["generator", "size", "longest"] (defScope s__law_random_plan) := ⟨rfl, rfl, rfl, by decide +kernel, rfl, by decide +kernel, by decide +kernel⟩
abbrev s_track_card : Stmt := topS 23
theorem sc_track_card : FnScope ["board", "plan", "card", "simulation", "locations", "permutation"] ["board", "plan", "card"] (defScope s_track_card) := ⟨rfl, rfl, rfl, by decide +kernel, rfl, by decide +kernel, by decide +kernel⟩
abbrev s_law : Stmt := topS 37
theorem sc_law : FnScope ["script", "index", "generator", "board", "moves", "boards", "before", "card", "expected", "attempt", "result", "count", "current"] ["script"] (defScope s_law) := ⟨rfl, rfl, rfl, by decide +kernel, rfl, by decide +kernel, by decide +kernel⟩
/-- the places of the defs -/
structure Ad where
  c_Simulation : Addr
  f_is_integer : Addr
  fd_is_integer : FuncData
  f_is_pair_of_tuples : Addr
  fd_is_pair_of_tuples : FuncData
  f_first_failure : Addr
  fd_first_failure : FuncData
  f_Simulation___init__ : Addr
  fd_Simulation___init__ : FuncData
  f_Simulation_apply_round : Addr
  fd_Simulation_apply_round : FuncData
  f_Simulation_holder : Addr
  fd_Simulation_holder : FuncData
  f__law_cell : Addr
  fd__law_cell : FuncData
  f__law_hash : Addr
  fd__law_hash : FuncData
  f__law_all_cards : Addr
  fd__law_all_cards : FuncData
  f__law_play_round : Addr
  fd__law_play_round : FuncData
  f__law_location : Addr
  fd__law_location : FuncData
  f_is_at_least : Addr
  fd_is_at_least : FuncData
  f_is_round : Addr
  fd_is_round : FuncData
  f_require_card : Addr
  fd_require_card : FuncData
  f_Simulation_location : Addr
  fd_Simulation_location : FuncData
  f__law_generator : Addr
  fd__law_generator : FuncData
  f__law_random : Addr
  fd__law_random : FuncData
  f__law_play : Addr
  fd__law_play : FuncData
  f_is_hand : Addr
  fd_is_hand : FuncData
  f_require_place_count : Addr
  fd_require_place_count : FuncData
  f__law_shuffled : Addr
  fd__law_shuffled : FuncData
  f_check_board : Addr
  fd_check_board : FuncData
  f_check_plan : Addr
  fd_check_plan : FuncData
  f__law_random_round : Addr
  fd__law_random_round : FuncData
  f__law_random_board : Addr
  fd__law_random_board : FuncData
  f_require_board : Addr
  fd_require_board : FuncData
  f_require_plan : Addr
  fd_require_plan : FuncData
  f__law_random_plan : Addr
  fd__law_random_plan : FuncData
  f_track_card : Addr
  fd_track_card : FuncData
  f_law : Addr
  fd_law : FuncData
/-- what the top has written -/
structure Fx (K : PySem.W.Frag) (mg : Str → Option Value) (A : Ad) : Prop where
  cl_Simulation : Cls K A.c_Simulation
  m_Simulation : mg "Simulation" = some (.ref A.c_Simulation)
  mk_Simulation : Mk K A.c_Simulation A.f_Simulation___init__
  nf_Simulation_heaps : NoAttr K A.c_Simulation "heaps"
  nf_Simulation_loads : NoAttr K A.c_Simulation "loads"
  nf_Simulation_lots : NoAttr K A.c_Simulation "lots"
  nf_Simulation_places : NoAttr K A.c_Simulation "places"
  F_is_integer : Fun K "is_integer" "is_integer" s_is_integer A.f_is_integer A.fd_is_integer
  b_is_integer : Binds K A.fd_is_integer ["value"] []
  m_is_integer : mg "is_integer" = some (.ref A.f_is_integer)
  F_is_pair_of_tuples : Fun K "is_pair_of_tuples" "is_pair_of_tuples" s_is_pair_of_tuples A.f_is_pair_of_tuples A.fd_is_pair_of_tuples
  b_is_pair_of_tuples : Binds K A.fd_is_pair_of_tuples ["value"] []
  m_is_pair_of_tuples : mg "is_pair_of_tuples" = some (.ref A.f_is_pair_of_tuples)
  F_first_failure : Fun K "first_failure" "first_failure" s_first_failure A.f_first_failure A.fd_first_failure
  b_first_failure : Binds K A.fd_first_failure ["word", "results"] []
  m_first_failure : mg "first_failure" = some (.ref A.f_first_failure)
  F_Simulation___init__ : Fun K "__init__" "Simulation.__init__" s_Simulation___init__ A.f_Simulation___init__ A.fd_Simulation___init__
  b_Simulation___init__ : Binds K A.fd_Simulation___init__ ["self", "board"] []
  F_Simulation_apply_round : Fun K "apply_round" "Simulation.apply_round" s_Simulation_apply_round A.f_Simulation_apply_round A.fd_Simulation_apply_round
  b_Simulation_apply_round : Binds K A.fd_Simulation_apply_round ["self", "permutation"] []
  mt_Simulation_apply_round : Meth K A.c_Simulation "apply_round" A.f_Simulation_apply_round
  F_Simulation_holder : Fun K "holder" "Simulation.holder" s_Simulation_holder A.f_Simulation_holder A.fd_Simulation_holder
  b_Simulation_holder : Binds K A.fd_Simulation_holder ["self", "card"] []
  mt_Simulation_holder : Meth K A.c_Simulation "holder" A.f_Simulation_holder
  F__law_cell : Fun K "_law_cell" "_law_cell" s__law_cell A.f__law_cell A.fd__law_cell
  b__law_cell : Binds K A.fd__law_cell ["script", "index"] []
  m__law_cell : mg "_law_cell" = some (.ref A.f__law_cell)
  F__law_hash : Fun K "_law_hash" "_law_hash" s__law_hash A.f__law_hash A.fd__law_hash
  b__law_hash : Binds K A.fd__law_hash ["seed", "index"] []
  m__law_hash : mg "_law_hash" = some (.ref A.f__law_hash)
  F__law_all_cards : Fun K "_law_all_cards" "_law_all_cards" s__law_all_cards A.f__law_all_cards A.fd__law_all_cards
  b__law_all_cards : Binds K A.fd__law_all_cards ["board"] []
  m__law_all_cards : mg "_law_all_cards" = some (.ref A.f__law_all_cards)
  F__law_play_round : Fun K "_law_play_round" "_law_play_round" s__law_play_round A.f__law_play_round A.fd__law_play_round
  b__law_play_round : Binds K A.fd__law_play_round ["board", "permutation"] []
  m__law_play_round : mg "_law_play_round" = some (.ref A.f__law_play_round)
  F__law_location : Fun K "_law_location" "_law_location" s__law_location A.f__law_location A.fd__law_location
  b__law_location : Binds K A.fd__law_location ["board", "card"] []
  m__law_location : mg "_law_location" = some (.ref A.f__law_location)
  F_is_at_least : Fun K "is_at_least" "is_at_least" s_is_at_least A.f_is_at_least A.fd_is_at_least
  b_is_at_least : Binds K A.fd_is_at_least ["value", "minimum"] []
  m_is_at_least : mg "is_at_least" = some (.ref A.f_is_at_least)
  F_is_round : Fun K "is_round" "is_round" s_is_round A.f_is_round A.fd_is_round
  b_is_round : Binds K A.fd_is_round ["places", "value"] []
  m_is_round : mg "is_round" = some (.ref A.f_is_round)
  F_require_card : Fun K "require_card" "require_card" s_require_card A.f_require_card A.fd_require_card
  b_require_card : Binds K A.fd_require_card ["board", "value"] []
  m_require_card : mg "require_card" = some (.ref A.f_require_card)
  F_Simulation_location : Fun K "location" "Simulation.location" s_Simulation_location A.f_Simulation_location A.fd_Simulation_location
  b_Simulation_location : Binds K A.fd_Simulation_location ["self", "card"] []
  mt_Simulation_location : Meth K A.c_Simulation "location" A.f_Simulation_location
  F__law_generator : Fun K "_law_generator" "_law_generator" s__law_generator A.f__law_generator A.fd__law_generator
  b__law_generator : Binds K A.fd__law_generator ["script", "index"] []
  m__law_generator : mg "_law_generator" = some (.ref A.f__law_generator)
  F__law_random : Fun K "_law_random" "_law_random" s__law_random A.f__law_random A.fd__law_random
  b__law_random : Binds K A.fd__law_random ["generator", "bound"] []
  m__law_random : mg "_law_random" = some (.ref A.f__law_random)
  F__law_play : Fun K "_law_play" "_law_play" s__law_play A.f__law_play A.fd__law_play
  b__law_play : Binds K A.fd__law_play ["board", "moves"] []
  m__law_play : mg "_law_play" = some (.ref A.f__law_play)
  F_is_hand : Fun K "is_hand" "is_hand" s_is_hand A.f_is_hand A.fd_is_hand
  b_is_hand : Binds K A.fd_is_hand ["value"] []
  m_is_hand : mg "is_hand" = some (.ref A.f_is_hand)
  F_require_place_count : Fun K "require_place_count" "require_place_count" s_require_place_count A.f_require_place_count A.fd_require_place_count
  b_require_place_count : Binds K A.fd_require_place_count ["places"] []
  m_require_place_count : mg "require_place_count" = some (.ref A.f_require_place_count)
  F__law_shuffled : Fun K "_law_shuffled" "_law_shuffled" s__law_shuffled A.f__law_shuffled A.fd__law_shuffled
  b__law_shuffled : Binds K A.fd__law_shuffled ["generator", "items"] []
  m__law_shuffled : mg "_law_shuffled" = some (.ref A.f__law_shuffled)
  F_check_board : Fun K "check_board" "check_board" s_check_board A.f_check_board A.fd_check_board
  b_check_board : Binds K A.fd_check_board ["value"] []
  m_check_board : mg "check_board" = some (.ref A.f_check_board)
  F_check_plan : Fun K "check_plan" "check_plan" s_check_plan A.f_check_plan A.fd_check_plan
  b_check_plan : Binds K A.fd_check_plan ["places", "value"] []
  m_check_plan : mg "check_plan" = some (.ref A.f_check_plan)
  F__law_random_round : Fun K "_law_random_round" "_law_random_round" s__law_random_round A.f__law_random_round A.fd__law_random_round
  b__law_random_round : Binds K A.fd__law_random_round ["generator", "size"] []
  m__law_random_round : mg "_law_random_round" = some (.ref A.f__law_random_round)
  F__law_random_board : Fun K "_law_random_board" "_law_random_board" s__law_random_board A.f__law_random_board A.fd__law_random_board
  b__law_random_board : Binds K A.fd__law_random_board ["generator", "size", "largest_base"] []
  m__law_random_board : mg "_law_random_board" = some (.ref A.f__law_random_board)
  F_require_board : Fun K "require_board" "require_board" s_require_board A.f_require_board A.fd_require_board
  b_require_board : Binds K A.fd_require_board ["value"] []
  m_require_board : mg "require_board" = some (.ref A.f_require_board)
  F_require_plan : Fun K "require_plan" "require_plan" s_require_plan A.f_require_plan A.fd_require_plan
  b_require_plan : Binds K A.fd_require_plan ["places", "value"] []
  m_require_plan : mg "require_plan" = some (.ref A.f_require_plan)
  F__law_random_plan : Fun K "_law_random_plan" "_law_random_plan" s__law_random_plan A.f__law_random_plan A.fd__law_random_plan
  b__law_random_plan : Binds K A.fd__law_random_plan ["generator", "size", "longest"] []
  m__law_random_plan : mg "_law_random_plan" = some (.ref A.f__law_random_plan)
  F_track_card : Fun K "track_card" "track_card" s_track_card A.f_track_card A.fd_track_card
  b_track_card : Binds K A.fd_track_card ["board", "plan", "card"] []
  m_track_card : mg "track_card" = some (.ref A.f_track_card)
  F_law : Fun K "law" "law" s_law A.f_law A.fd_law
  b_law : Binds K A.fd_law ["script"] []
  m_law : mg "law" = some (.ref A.f_law)
  z_all : mg "all" = none
  z_any : mg "any" = none
  z_bool : mg "bool" = none
  z_enumerate : mg "enumerate" = none
  z_int : mg "int" = none
  z_isinstance : mg "isinstance" = none
  z_len : mg "len" = none
  z_list : mg "list" = none
  z_max : mg "max" = none
  z_range : mg "range" = none
  z_sorted : mg "sorted" = none
  z_sum : mg "sum" = none
  z_tuple : mg "tuple" = none
  z_zip : mg "zip" = none
noncomputable section
variable {P : Program} {w : World} {K : PySem.W.Frag} {mg : Str → Option Value} {base : Heap} {A : Ad}
def d_is_integer : MS := sRet (mAnd (mIs ["int"] (mVar 0)) (mNot (mIs ["bool"] (mVar 0))))
abbrev m_is_integer : List E → FO := fnM [false] 1 d_is_integer
theorem ok_is_integer {k : Nat} (X : Fx K mg A) : FnOk P w K mg base (L2.CX P w) (k + 1) A.f_is_integer A.fd_is_integer ["value"] (SpV K 1 m_is_integer) :=
  fn_v X.F_is_integer sc_is_integer [false] d_is_integer rfl (by decide) fun cdv B outer s H Ew hr => vb_one (vs_ret (ve_and (ve_is1 (by rfl) X.z_isinstance (ve_var rfl (.inl rfl)) (.cons (by rfl) X.z_int rfl (by decide) (by decide) rfl .nil)) (ve_bo1 (ve_not (ve_is1 (by rfl) X.z_isinstance (ve_var rfl (.inl rfl)) (.cons (by rfl) X.z_bool rfl (by decide) (by decide) rfl .nil))))))
theorem bk_is_pair_of_tuples_34_67 : BlkOk ["value", "part"] (defScope s_is_pair_of_tuples) ⟨.function, [(".0", .local), ("part", .local), ("isinstance", .globalImplicit), ("tuple", .globalImplicit)], false, false, []⟩ [("part", 1)] := ⟨rfl, by decide +kernel, by decide +kernel, by decide +kernel, by decide +kernel⟩
def d_is_pair_of_tuples : MS := sSeq (sIf (mOrB (mNotB (mTru (mIs ["tuple"] (mVar 0)))) (mOrB (mOp gNe (mF fLen (aCons (mVar 0) aNil)) (mC (.int 2))) (mNotB (mTru (mF fAll (aCons (mLc .v [1] (iSeq (mVar 0)) (gN 1) (mC (.bl true)) (mIs ["tuple"] (mVar 1))) aNil)))))) (sRet (mC (.bl false))) sNx)
    (sRet (mChain gLt gEq (mC (.int 0)) (mF fLen (aCons (mF fIx (a2 (mVar 0) (mC (.int 0)))) aNil)) (mF fLen (aCons (mF fIx (a2 (mVar 0) (mC (.int 1)))) aNil))))
abbrev m_is_pair_of_tuples : List E → FO := fnM [false] 2 d_is_pair_of_tuples
theorem ok_is_pair_of_tuples {k : Nat} (X : Fx K mg A) : FnOk P w K mg base (L2.CX P w) (k + 1) A.f_is_pair_of_tuples A.fd_is_pair_of_tuples ["value"] (SpV K 1 m_is_pair_of_tuples) :=
  fn_v X.F_is_pair_of_tuples sc_is_pair_of_tuples [false] d_is_pair_of_tuples rfl (by decide) fun cdv B outer s H Ew hr => vb_cons (vs_if (VW.vt (vw_or (vt_not (vt_tru (ve_is1 (by rfl) X.z_isinstance (ve_var rfl (.inl rfl)) (.cons (by rfl) X.z_tuple rfl (by decide) (by decide) rfl .nil)))) (vw_or (vt_ne hr (ve_len (by rfl) X.z_len (ve_var rfl (.inl rfl))) ve_int) (vw_or1 (vt_not (vt_tru (ve_all rfl (by rfl) X.z_all (ve_lc (own := [("part", 1)]) .v rfl sc_is_pair_of_tuples.nd (vi_seq (ve_var rfl (.inl rfl))) bk_is_pair_of_tuples_34_67 (fun _ _ _ _ _ => vg_name sc_is_pair_of_tuples.nd rfl (.inl rfl)) (fun _ _ _ _ _ => vts_nil) (fun _ _ _ _ _ => ve_is1 (by rfl) X.z_isinstance (ve_var rfl (.inl rfl)) (.cons (by rfl) X.z_tuple rfl (by decide) (by decide) rfl .nil)))))))))) (vb_one (vs_ret ve_bl)) vb_nil)
    (vb_one (vs_ret (ve_chain co_lt (co_eq hr) ve_int (ve_len (by rfl) X.z_len (ve_ix (ve_var rfl (.inl rfl)) ve_int)) (ve_len (by rfl) X.z_len (ve_ix (ve_var rfl (.inl rfl)) ve_int)))))
def d_first_failure : MS := sSeq (sFor (iEn (mVar 1)) (gT [gN 2, gN 3]) (sIf (mNotB (mTru (mVar 3))) (sRet (mF fTup (aCons (mVar 0) (aCons (mVar 2) aNil)))) sNx))
    (sRet (mC .non))
abbrev m_first_failure : List E → FO := fnM [false, false] 4 d_first_failure
theorem ok_first_failure {k : Nat} (X : Fx K mg A) : FnOk P w K mg base (L2.CX P w) (k + 1) A.f_first_failure A.fd_first_failure ["word", "results"] (SpV K 2 m_first_failure) :=
  fn_v X.F_first_failure sc_first_failure [false, false] d_first_failure rfl (by decide) fun cdv B outer s H Ew hr => vb_cons (vs_for own_E rfl (vi_enum (by rfl) X.z_enumerate (ve_var rfl (.inl rfl))) (vg_tup rfl (vgs_cons (vg_name sc_first_failure.nd rfl (.inl rfl)) (vgs_cons (vg_name sc_first_failure.nd rfl (.inl rfl)) vgs_nil))) (vb_one (vs_if (vt_not (vt_tru (ve_var rfl (.inl rfl)))) (vb_one (vs_ret (ve_tup (va_cons (ve_var rfl (.inl rfl)) (va_cons (ve_var rfl (.inl rfl)) va_nil))))) vb_nil)))
    (vb_one (vs_ret ve_non))
theorem bk_Simulation___init___87_21 : BlkOk ["self", "board", "lot", "hand"] (defScope s_Simulation___init__) ⟨.function, [(".0", .local), ("lot", .local), ("hand", .local), ("list", .globalImplicit)], false, false, []⟩ [("lot", 2), ("hand", 3)] := ⟨rfl, by decide +kernel, by decide +kernel, by decide +kernel, by decide +kernel⟩
theorem bk_Simulation___init___88_21 : BlkOk ["self", "board", "lot", "hand"] (defScope s_Simulation___init__) ⟨.function, [(".0", .local), ("lot", .local), ("hand", .local), ("list", .globalImplicit)], false, false, []⟩ [("lot", 2), ("hand", 3)] := ⟨rfl, by decide +kernel, by decide +kernel, by decide +kernel, by decide +kernel⟩
def d_Simulation___init__ (c_Simulation : Addr) : MS := sSeq (sFldS c_Simulation "lots" (pName 0) (mF fList (aCons (mF fIx (a2 (mVar 1) (mC (.int 0)))) aNil)))
    (sSeq (sFldS c_Simulation "loads" (pName 0) (mLc (.l .v) [2, 3] (iZ true (mF fIx (a2 (mVar 1) (mC (.int 0)))) (mF fIx (a2 (mVar 1) (mC (.int 1))))) (gT [gN 2, gN 3]) (mC (.bl true)) (mF fList (aCons (mF fSl (a3 (mVar 3) (mC .non) (mInt (mVar 2)))) aNil))))
    (sSeq (sFldS c_Simulation "heaps" (pName 0) (mLc (.l .v) [2, 3] (iZ true (mF fIx (a2 (mVar 1) (mC (.int 0)))) (mF fIx (a2 (mVar 1) (mC (.int 1))))) (gT [gN 2, gN 3]) (mC (.bl true)) (mF fList (aCons (mF fSl (a3 (mVar 3) (mInt (mVar 2)) (mC .non))) aNil))))
    (sFldS c_Simulation "places" (pName 0) (mF (fRg1 false) (aCons (mF fLen (aCons (mF fIx (a2 (mVar 1) (mC (.int 0)))) aNil)) aNil)))))
abbrev m_Simulation___init__ (c_Simulation : Addr) : List E → FO := fnM [true, false] 4 (d_Simulation___init__ c_Simulation)
theorem ok_Simulation___init__ {k : Nat} (X : Fx K mg A) : FnOk P w K mg base (L2.CX P w) (k + 1) A.f_Simulation___init__ A.fd_Simulation___init__ ["self", "board"] (SpV K 2 (m_Simulation___init__ A.c_Simulation)) :=
  fn_v X.F_Simulation___init__ sc_Simulation___init__ [true, false] (d_Simulation___init__ A.c_Simulation) rfl (by decide) fun cdv B outer s H Ew hr => vb_cons (vs_fld (ve_list (by rfl) X.z_list (ve_ix (ve_var rfl (.inl rfl)) ve_int)) (vp_name rfl (.inl rfl)) X.cl_Simulation X.nf_Simulation_lots)
    (vb_cons (vs_fld (ve_lc (own := [("lot", 2), ("hand", 3)]) (.l .v) rfl sc_Simulation___init__.nd (vi_zip (by rfl) X.z_zip (ve_ix (ve_var rfl (.inl rfl)) ve_int) (ve_ix (ve_var rfl (.inl rfl)) ve_int)) bk_Simulation___init___87_21 (fun _ _ _ _ _ => vg_tup rfl (vgs_cons (vg_name sc_Simulation___init__.nd rfl (.inl rfl)) (vgs_cons (vg_name sc_Simulation___init__.nd rfl (.inl rfl)) vgs_nil))) (fun _ _ _ _ _ => vts_nil) (fun _ _ _ _ _ => ve_list (by rfl) X.z_list (ve_sl (ve_var rfl (.inl rfl)) vo_none (vo_some (ve_var rfl (.inl rfl)))))) (vp_name rfl (.inl rfl)) X.cl_Simulation X.nf_Simulation_loads)
    (vb_cons (vs_fld (ve_lc (own := [("lot", 2), ("hand", 3)]) (.l .v) rfl sc_Simulation___init__.nd (vi_zip (by rfl) X.z_zip (ve_ix (ve_var rfl (.inl rfl)) ve_int) (ve_ix (ve_var rfl (.inl rfl)) ve_int)) bk_Simulation___init___88_21 (fun _ _ _ _ _ => vg_tup rfl (vgs_cons (vg_name sc_Simulation___init__.nd rfl (.inl rfl)) (vgs_cons (vg_name sc_Simulation___init__.nd rfl (.inl rfl)) vgs_nil))) (fun _ _ _ _ _ => vts_nil) (fun _ _ _ _ _ => ve_list (by rfl) X.z_list (ve_sl (ve_var rfl (.inl rfl)) (vo_some (ve_var rfl (.inl rfl))) vo_none))) (vp_name rfl (.inl rfl)) X.cl_Simulation X.nf_Simulation_heaps)
    (vb_one (vs_fld (ve_listR rfl (by rfl) X.z_list (by rfl) X.z_range (ve_len (by rfl) X.z_len (ve_ix (ve_var rfl (.inl rfl)) ve_int))) (vp_name rfl (.inl rfl)) X.cl_Simulation X.nf_Simulation_places))))
def d_Simulation_apply_round (c_Simulation : Addr) : MS := sFor (iEn (mF fList (aCons (mF (fFld c_Simulation "places") (aCons (mVar 0) aNil)) aNil))) (gT [gN 2, gN 3]) (sSeq (sSet 4 (mF fIx (a2 (mVar 1) (mVar 3))))
    (sSeq (sSet 5 (mF fSorted (aCons (mF fAdd (a2 (mF fIx (a2 (mF (fFld c_Simulation "loads") (aCons (mVar 0) aNil)) (mVar 2))) (mF fIx (a2 (mF (fFld c_Simulation "heaps") (aCons (mVar 0) aNil)) (mVar 4))))) aNil)))
    (sSeq (sItem (pFld c_Simulation "places" (pName 0)) (mVar 2) (mVar 4))
    (sSeq (sFz [5] (sItem (pFld c_Simulation "loads" (pName 0)) (mVar 2) (mF fSl (a3 (mVar 5) (mC .non) (mInt (mF fIx (a2 (mF (fFld c_Simulation "lots") (aCons (mVar 0) aNil)) (mVar 2))))))))
    (sFz [5] (sItem (pFld c_Simulation "heaps" (pName 0)) (mVar 4) (mF fSl (a3 (mVar 5) (mInt (mF fIx (a2 (mF (fFld c_Simulation "lots") (aCons (mVar 0) aNil)) (mVar 2)))) (mC .non)))))))))
abbrev m_Simulation_apply_round (c_Simulation : Addr) : List E → FO := fnM [true, false] 6 (d_Simulation_apply_round c_Simulation)
theorem ok_Simulation_apply_round {k : Nat} (X : Fx K mg A) : FnOk P w K mg base (L2.CX P w) (k + 1) A.f_Simulation_apply_round A.fd_Simulation_apply_round ["self", "permutation"] (SpV K 2 (m_Simulation_apply_round A.c_Simulation)) :=
  fn_v X.F_Simulation_apply_round sc_Simulation_apply_round [true, false] (d_Simulation_apply_round A.c_Simulation) rfl (by decide) fun cdv B outer s H Ew hr => vb_one (vs_for own_E rfl (vi_enum (by rfl) X.z_enumerate (ve_list (by rfl) X.z_list (ve_fld (ve_var rfl (.inl rfl)) X.cl_Simulation X.nf_Simulation_places))) (vg_tup rfl (vgs_cons (vg_name sc_Simulation_apply_round.nd rfl (.inl rfl)) (vgs_cons (vg_name sc_Simulation_apply_round.nd rfl (.inl rfl)) vgs_nil))) (vb_cons (vs_set sc_Simulation_apply_round.nd rfl (.inl rfl) (ve_ix (ve_var rfl (.inl rfl)) (ve_var rfl (.inl rfl))))
    (vb_cons (vs_set sc_Simulation_apply_round.nd rfl (.inl rfl) (ve_sorted hr (by rfl) X.z_sorted (ve_add (ve_ix (ve_fld (ve_var rfl (.inl rfl)) X.cl_Simulation X.nf_Simulation_loads) (ve_var rfl (.inl rfl))) (ve_ix (ve_fld (ve_var rfl (.inl rfl)) X.cl_Simulation X.nf_Simulation_heaps) (ve_var rfl (.inl rfl))))))
    (vb_cons (vs_item (ve_var rfl (.inl rfl)) (vp_fld (vp_name rfl (.inl rfl)) X.cl_Simulation X.nf_Simulation_places) (ve_var rfl (.inl rfl)))
    (vb_cons (vs_fz [5] (vs_item (ve_sl (ve_var rfl (.inl rfl)) vo_none (vo_some (ve_ix (ve_fld (ve_var rfl (.inl rfl)) X.cl_Simulation X.nf_Simulation_lots) (ve_var rfl (.inl rfl))))) (vp_fld (vp_name rfl (.inl rfl)) X.cl_Simulation X.nf_Simulation_loads) (ve_var rfl (.inl rfl))))
    (vb_one (vs_fz [5] (vs_item (ve_sl (ve_var rfl (.inl rfl)) (vo_some (ve_ix (ve_fld (ve_var rfl (.inl rfl)) X.cl_Simulation X.nf_Simulation_lots) (ve_var rfl (.inl rfl)))) vo_none) (vp_fld (vp_name rfl (.inl rfl)) X.cl_Simulation X.nf_Simulation_heaps) (ve_var rfl (.inl rfl))))))))))
theorem bk_Simulation_holder_120_24 : BlkOk ["self", "card", "load", "cards", "place"] (defScope s_Simulation_holder) ⟨.function, [(".0", .local), ("place", .local), ("cards", .local), ("card", .free)], false, false, []⟩ [("place", 4), ("cards", 3)] := ⟨rfl, by decide +kernel, by decide +kernel, by decide +kernel, by decide +kernel⟩
def d_Simulation_holder (c_Simulation : Addr) : MS := sSeq (sFor (iEn (mF (fFld c_Simulation "loads") (aCons (mVar 0) aNil))) (gT [gN 2, gN 3]) (sIf (mOp (inD false) (mVar 1) (mVar 3)) (sRet (mF fTup (aCons (mC (.str "load")) (aCons (mVar 2) aNil)))) sNx))
    (sFg [3] (sRet (mF fTup (aCons (mC (.str "heap")) (aCons (mF fIx (a2 (mLc .v [4, 3] (iEn (mF (fFld c_Simulation "heaps") (aCons (mVar 0) aNil))) (gT [gN 4, gN 3]) (mOp (inD false) (mVar 1) (mVar 3)) (mVar 4)) (mC (.int 0)))) aNil)))))
abbrev m_Simulation_holder (c_Simulation : Addr) : List E → FO := fnM [false, false] 5 (d_Simulation_holder c_Simulation)
theorem ok_Simulation_holder {k : Nat} (X : Fx K mg A) : FnOk P w K mg base (L2.CX P w) (k + 1) A.f_Simulation_holder A.fd_Simulation_holder ["self", "card"] (SpV K 2 (m_Simulation_holder A.c_Simulation)) :=
  fn_v X.F_Simulation_holder sc_Simulation_holder [false, false] (d_Simulation_holder A.c_Simulation) rfl (by decide) fun cdv B outer s H Ew hr => vb_cons (vs_for own_E rfl (vi_enum (by rfl) X.z_enumerate (ve_fld (ve_var rfl (.inl rfl)) X.cl_Simulation X.nf_Simulation_loads)) (vg_tup rfl (vgs_cons (vg_name sc_Simulation_holder.nd rfl (.inl rfl)) (vgs_cons (vg_name sc_Simulation_holder.nd rfl (.inl rfl)) vgs_nil))) (vb_one (vs_if (vt_in hr (ve_var rfl (.inr (.inl rfl))) (ve_var rfl (.inl rfl))) (vb_one (vs_ret (ve_tup (va_cons ve_str (va_cons (ve_var rfl (.inl rfl)) va_nil))))) vb_nil)))
    (vb_one (vs_fg [3] (vs_ret (ve_tup (va_cons ve_str (va_cons (ve_ix (ve_lc (own := [("place", 4), ("cards", 3)]) .v rfl sc_Simulation_holder.nd (vi_enum (by rfl) X.z_enumerate (ve_fld (ve_var rfl (.inl rfl)) X.cl_Simulation X.nf_Simulation_heaps)) bk_Simulation_holder_120_24 (fun _ _ _ _ _ => vg_tup rfl (vgs_cons (vg_name sc_Simulation_holder.nd rfl (.inl rfl)) (vgs_cons (vg_name sc_Simulation_holder.nd rfl (.inl rfl)) vgs_nil))) (fun _ _ _ _ _ => vts_one (vt_in hr (ve_var rfl (.inr (.inl (by rfl)))) (ve_var rfl (.inl rfl)))) (fun _ _ _ _ _ => ve_var rfl (.inl rfl))) ve_int) va_nil))))))
def d__law_cell : MS := sSeq (sIf (mOp gLt (mVar 1) (mF fLen (aCons (mVar 0) aNil))) (sRet (mF fIx (a2 (mVar 0) (mVar 1)))) sNx)
    (sRet (mC (.int 0)))
abbrev m__law_cell : List E → FO := fnM [false, false] 2 d__law_cell
theorem ok__law_cell {k : Nat} (X : Fx K mg A) : FnOk P w K mg base (L2.CX P w) (k + 1) A.f__law_cell A.fd__law_cell ["script", "index"] (SpV K 2 m__law_cell) :=
  fn_v X.F__law_cell sc__law_cell [false, false] d__law_cell rfl (by decide) fun cdv B outer s H Ew hr => vb_cons (vs_if (vt_lt (ve_var rfl (.inl rfl)) (ve_len (by rfl) X.z_len (ve_var rfl (.inl rfl)))) (vb_one (vs_ret (ve_ix (ve_var rfl (.inl rfl)) (ve_var rfl (.inl rfl))))) vb_nil)
    (vb_one (vs_ret ve_int))
def d__law_hash : MS := sSeq (sSet 2 (mF fMod (a2 (mF fAdd (a2 (mF fAdd (a2 (mF fAdd (a2 (mF fMul (a2 (mVar 0) (mC (.int 1103515245)))) (mF fMul (a2 (mF fMul (a2 (mC (.int 7919)) (mVar 1))) (mVar 1))))) (mVar 1))) (mC (.int 1)))) (mC (.int 2147483647)))))
    (sSeq (sSet 2 (mF fMod (a2 (mF fAdd (a2 (mF fMul (a2 (mVar 2) (mVar 2))) (mC (.int 69621)))) (mC (.int 2147483629)))))
    (sRet (mF fMod (a2 (mF fMul (a2 (mVar 2) (mC (.int 48271)))) (mC (.int 2147483587))))))
abbrev m__law_hash : List E → FO := fnM [false, false] 3 d__law_hash
theorem ok__law_hash {k : Nat} (X : Fx K mg A) : FnOk P w K mg base (L2.CX P w) (k + 1) A.f__law_hash A.fd__law_hash ["seed", "index"] (SpV K 2 m__law_hash) :=
  fn_v X.F__law_hash sc__law_hash [false, false] d__law_hash rfl (by decide) fun cdv B outer s H Ew hr => vb_cons (vs_set sc__law_hash.nd rfl (.inl rfl) (ve_mod (ve_add (ve_add (ve_add (ve_mul (ve_var rfl (.inl rfl)) ve_int) (ve_mul (ve_mul ve_int (ve_var rfl (.inl rfl))) (ve_var rfl (.inl rfl)))) (ve_var rfl (.inl rfl))) ve_int) ve_int))
    (vb_cons (vs_set sc__law_hash.nd rfl (.inl rfl) (ve_mod (ve_add (ve_mul (ve_var rfl (.inl rfl)) (ve_var rfl (.inl rfl))) ve_int) ve_int))
    (vb_one (vs_ret (ve_mod (ve_mul (ve_var rfl (.inl rfl)) ve_int) ve_int))))
theorem bk__law_all_cards_192_22 : BlkOk ["board", "hand"] (defScope s__law_all_cards) ⟨.function, [(".0", .local), ("hand", .local), ("list", .globalImplicit)], false, false, []⟩ [("hand", 1)] := ⟨rfl, by decide +kernel, by decide +kernel, by decide +kernel, by decide +kernel⟩
def d__law_all_cards : MS := sRet (mF fSorted (aCons (mF fSumL (a2 (mLc .v [1] (iSeq (mF fIx (a2 (mVar 0) (mC (.int 1))))) (gN 1) (mC (.bl true)) (mF fList (aCons (mVar 1) aNil))) (mF fLst aNil))) aNil))
abbrev m__law_all_cards : List E → FO := fnM [false] 2 d__law_all_cards
theorem ok__law_all_cards {k : Nat} (X : Fx K mg A) : FnOk P w K mg base (L2.CX P w) (k + 1) A.f__law_all_cards A.fd__law_all_cards ["board"] (SpV K 1 m__law_all_cards) :=
  fn_v X.F__law_all_cards sc__law_all_cards [false] d__law_all_cards rfl (by decide) fun cdv B outer s H Ew hr => vb_one (vs_ret (ve_sorted hr (by rfl) X.z_sorted (ve_sumL rfl (by rfl) X.z_sum (ve_lc (own := [("hand", 1)]) .v rfl sc__law_all_cards.nd (vi_seq (ve_ix (ve_var rfl (.inl rfl)) ve_int)) bk__law_all_cards_192_22 (fun _ _ _ _ _ => vg_name sc__law_all_cards.nd rfl (.inl rfl)) (fun _ _ _ _ _ => vts_nil) (fun _ _ _ _ _ => ve_list (by rfl) X.z_list (ve_var rfl (.inl rfl)))) (ve_lst va_nil))))
theorem bk__law_play_round_196_16 : BlkOk ["board", "permutation", "lots", "hands", "new_lots", "place", "new_hands", "target", "hand"] (defScope s__law_play_round) ⟨.function, [(".0", .local), ("place", .local), ("hand", .local), ("list", .globalImplicit), ("lots", .free)], false, false, []⟩ [("place", 5), ("hand", 8)] := ⟨rfl, by decide +kernel, by decide +kernel, by decide +kernel, by decide +kernel⟩
theorem bk__law_play_round_200_35 : BlkOk ["board", "permutation", "lots", "hands", "new_lots", "place", "new_hands", "target", "hand"] (defScope s__law_play_round) ⟨.function, [(".0", .local), ("hand", .local), ("tuple", .globalImplicit), ("sorted", .globalImplicit)], false, false, []⟩ [("hand", 8)] := ⟨rfl, by decide +kernel, by decide +kernel, by decide +kernel, by decide +kernel⟩
def d__law_play_round : MS := sSeq (sAsg (gT [gN 2, gN 3]) (mVar 0))
    (sSeq (sSet 4 (mF fMul (a2 (mF fLst (aCons (mC (.int 0)) aNil)) (mF fLen (aCons (mVar 2) aNil)))))
    (sSeq (sFg [5] (sSet 6 (mLc .v [5, 8] (iEn (mVar 3)) (gT [gN 5, gN 8]) (mC (.bl true)) (mF fList (aCons (mF fSl (a3 (mVar 8) (mInt (mF fIx (a2 (mVar 2) (mVar 5)))) (mC .non))) aNil)))))
    (sSeq (sFor (iEn (mVar 1)) (gT [gN 5, gN 7]) (sSeq (sItem (pName 4) (mVar 7) (mF fIx (a2 (mVar 2) (mVar 5))))
    (sItem (pName 6) (mVar 7) (mF fAdd (a2 (mF fIx (a2 (mVar 6) (mVar 7))) (mF fList (aCons (mF fSl (a3 (mF fIx (a2 (mVar 3) (mVar 5))) (mC .non) (mInt (mF fIx (a2 (mVar 2) (mVar 5)))))) aNil)))))))
    (sRet (mF fTup (aCons (mF fTuple (aCons (mVar 4) aNil)) (aCons (mF fTuple (aCons (mLc .v [8] (iSeq (mVar 6)) (gN 8) (mC (.bl true)) (mF fTuple (aCons (mF fSorted (aCons (mVar 8) aNil)) aNil))) aNil)) aNil)))))))
abbrev m__law_play_round : List E → FO := fnM [false, false] 9 d__law_play_round
theorem ok__law_play_round {k : Nat} (X : Fx K mg A) : FnOk P w K mg base (L2.CX P w) (k + 1) A.f__law_play_round A.fd__law_play_round ["board", "permutation"] (SpV K 2 m__law_play_round) :=
  fn_v X.F__law_play_round sc__law_play_round [false, false] d__law_play_round rfl (by decide) fun cdv B outer s H Ew hr => vb_cons (vs_asg (ve_var rfl (.inl rfl)) (vg_tup rfl (vgs_cons (vg_name sc__law_play_round.nd rfl (.inr rfl)) (vgs_cons (vg_name sc__law_play_round.nd rfl (.inl rfl)) vgs_nil))))
    (vb_cons (vs_set sc__law_play_round.nd rfl (.inl rfl) (ve_mul (ve_lst (va_cons ve_int va_nil)) (ve_len (by rfl) X.z_len (ve_var rfl (.inr (.inl rfl))))))
    (vb_cons (vs_fg [5] (vs_setLc (own := [("place", 5), ("hand", 8)]) .v rfl sc__law_play_round.nd rfl rfl (by rfl) (vi_enum (by rfl) X.z_enumerate (ve_var rfl (.inl rfl))) bk__law_play_round_196_16 (fun _ _ _ _ _ => vg_tup rfl (vgs_cons (vg_name sc__law_play_round.nd rfl (.inl rfl)) (vgs_cons (vg_name sc__law_play_round.nd rfl (.inl rfl)) vgs_nil))) (fun _ _ _ _ _ => vts_nil) (fun _ _ _ _ _ => ve_list (by rfl) X.z_list (ve_sl (ve_var rfl (.inl rfl)) (vo_some (ve_ix (ve_var rfl (.inr (.inl (by rfl)))) (ve_var rfl (.inl rfl)))) vo_none))))
    (vb_cons (vs_for own_E rfl (vi_enum (by rfl) X.z_enumerate (ve_var rfl (.inl rfl))) (vg_tup rfl (vgs_cons (vg_name sc__law_play_round.nd rfl (.inl rfl)) (vgs_cons (vg_name sc__law_play_round.nd rfl (.inl rfl)) vgs_nil))) (vb_cons (vs_item (ve_ix (ve_var rfl (.inr (.inl rfl))) (ve_var rfl (.inl rfl))) (vp_name rfl (.inl rfl)) (ve_var rfl (.inl rfl)))
    (vb_one (vs_item (ve_add (ve_ix (ve_var rfl (.inl rfl)) (ve_var rfl (.inl rfl))) (ve_list (by rfl) X.z_list (ve_sl (ve_ix (ve_var rfl (.inl rfl)) (ve_var rfl (.inl rfl))) vo_none (vo_some (ve_ix (ve_var rfl (.inr (.inl rfl))) (ve_var rfl (.inl rfl))))))) (vp_name rfl (.inl rfl)) (ve_var rfl (.inl rfl))))))
    (vb_one (vs_ret (ve_tup (va_cons (ve_tuple (by rfl) X.z_tuple (ve_var rfl (.inl rfl))) (va_cons (ve_tuple (by rfl) X.z_tuple (ve_lc (own := [("hand", 8)]) .v rfl sc__law_play_round.nd (vi_seq (ve_var rfl (.inl rfl))) bk__law_play_round_200_35 (fun _ _ _ _ _ => vg_name sc__law_play_round.nd rfl (.inl rfl)) (fun _ _ _ _ _ => vts_nil) (fun _ _ _ _ _ => ve_tuple (by rfl) X.z_tuple (ve_sorted hr (by rfl) X.z_sorted (ve_var rfl (.inl rfl)))))) va_nil))))))))
theorem bk__law_location_206_12 : BlkOk ["board", "card", "place", "in_load", "index", "hand"] (defScope s__law_location) ⟨.function, [(".0", .local), ("index", .local), ("hand", .local), ("card", .free)], false, false, []⟩ [("index", 4), ("hand", 5)] := ⟨rfl, by decide +kernel, by decide +kernel, by decide +kernel, by decide +kernel⟩
def d__law_location : MS := sSeq (sSet 2 (mF fIx (a2 (mLc .v [4, 5] (iEn (mF fIx (a2 (mVar 0) (mC (.int 1))))) (gT [gN 4, gN 5]) (mOp (inD false) (mVar 1) (mVar 5)) (mVar 4)) (mC (.int 0)))))
    (sSeq (sSet 3 (mOp (inD false) (mVar 1) (mF fSl (a3 (mF fIx (a2 (mF fIx (a2 (mVar 0) (mC (.int 1)))) (mVar 2))) (mC .non) (mInt (mF fIx (a2 (mF fIx (a2 (mVar 0) (mC (.int 0)))) (mVar 2))))))))
    (sRet (mF fTup (aCons (mF fIx (a2 (mF fLst (aCons (mC (.str "heap")) (aCons (mC (.str "load")) aNil))) (mF fInt (aCons (mVar 3) aNil)))) (aCons (mVar 2) aNil)))))
abbrev m__law_location : List E → FO := fnM [false, false] 6 d__law_location
theorem ok__law_location {k : Nat} (X : Fx K mg A) : FnOk P w K mg base (L2.CX P w) (k + 1) A.f__law_location A.fd__law_location ["board", "card"] (SpV K 2 m__law_location) :=
  fn_v X.F__law_location sc__law_location [false, false] d__law_location rfl (by decide) fun cdv B outer s H Ew hr => vb_cons (vs_set sc__law_location.nd rfl (.inl rfl) (ve_ix (ve_lc (own := [("index", 4), ("hand", 5)]) .v rfl sc__law_location.nd (vi_enum (by rfl) X.z_enumerate (ve_ix (ve_var rfl (.inl rfl)) ve_int)) bk__law_location_206_12 (fun _ _ _ _ _ => vg_tup rfl (vgs_cons (vg_name sc__law_location.nd rfl (.inl rfl)) (vgs_cons (vg_name sc__law_location.nd rfl (.inl rfl)) vgs_nil))) (fun _ _ _ _ _ => vts_one (vt_in hr (ve_var rfl (.inr (.inl (by rfl)))) (ve_var rfl (.inl rfl)))) (fun _ _ _ _ _ => ve_var rfl (.inl rfl))) ve_int))
    (vb_cons (vs_set sc__law_location.nd rfl (.inl rfl) (ve_in hr (ve_var rfl (.inr (.inl rfl))) (ve_sl (ve_ix (ve_ix (ve_var rfl (.inl rfl)) ve_int) (ve_var rfl (.inl rfl))) vo_none (vo_some (ve_ix (ve_ix (ve_var rfl (.inl rfl)) ve_int) (ve_var rfl (.inl rfl)))))))
    (vb_one (vs_ret (ve_tup (va_cons (ve_ix (ve_lst (va_cons ve_str (va_cons ve_str va_nil))) (ve_intc (by rfl) X.z_int (ve_var rfl (.inl rfl)))) (va_cons (ve_var rfl (.inl rfl)) va_nil))))))
def d_is_at_least : MS := sRet (mAnd (mCall m_is_integer ([mVar 0].foldr aCons aNil)) (mOp gGe (mVar 0) (mVar 1)))
abbrev m_is_at_least : List E → FO := fnM [false, false] 2 d_is_at_least
theorem ok_is_at_least {k : Nat} (X : Fx K mg A) : FnOk P w K mg base (L2.CX P w) (k + 2) A.f_is_at_least A.fd_is_at_least ["value", "minimum"] (SpV K 2 m_is_at_least) :=
  fn_v X.F_is_at_least sc_is_at_least [false, false] d_is_at_least rfl (by decide) fun cdv B outer s H Ew hr => vb_one (vs_ret (ve_and (ve_call (ok_is_integer (k := k) X) hr (by rfl) X.m_is_integer X.F_is_integer.kp X.b_is_integer take_E (va_cons (ve_var rfl (.inl rfl)) va_nil)) (ve_bo1 (ve_ge (ve_var rfl (.inl rfl)) (ve_var rfl (.inl rfl))))))
theorem bk_is_round_60_47 : BlkOk ["places", "value", "place"] (defScope s_is_round) ⟨.function, [(".0", .local), ("place", .local), ("is_integer", .globalImplicit)], false, false, []⟩ [("place", 2)] := ⟨rfl, by decide +kernel, by decide +kernel, by decide +kernel, by decide +kernel⟩
def d_is_round : MS := sSeq (sIf (mOrB (mNotB (mTru (mIs ["tuple"] (mVar 1)))) (mNotB (mTru (mF fAll (aCons (mLc .v [2] (iSeq (mVar 1)) (gN 2) (mC (.bl true)) (mCall m_is_integer ([mVar 2].foldr aCons aNil))) aNil))))) (sRet (mC (.bl false))) sNx)
    (sRet (mOp gEq (mF fSorted (aCons (mVar 1) aNil)) (mF (fRg1 false) (aCons (mVar 0) aNil))))
abbrev m_is_round : List E → FO := fnM [false, false] 3 d_is_round
theorem ok_is_round {k : Nat} (X : Fx K mg A) : FnOk P w K mg base (L2.CX P w) (k + 2) A.f_is_round A.fd_is_round ["places", "value"] (SpV K 2 m_is_round) :=
  fn_v X.F_is_round sc_is_round [false, false] d_is_round rfl (by decide) fun cdv B outer s H Ew hr => vb_cons (vs_if (VW.vt (vw_or (vt_not (vt_tru (ve_is1 (by rfl) X.z_isinstance (ve_var rfl (.inl rfl)) (.cons (by rfl) X.z_tuple rfl (by decide) (by decide) rfl .nil)))) (vw_or1 (vt_not (vt_tru (ve_all rfl (by rfl) X.z_all (ve_lc (own := [("place", 2)]) .v rfl sc_is_round.nd (vi_seq (ve_var rfl (.inl rfl))) bk_is_round_60_47 (fun _ _ _ _ _ => vg_name sc_is_round.nd rfl (.inl rfl)) (fun _ _ _ _ _ => vts_nil) (fun _ _ _ _ _ => ve_call (ok_is_integer (k := k) X) hr (by rfl) X.m_is_integer X.F_is_integer.kp X.b_is_integer takes0 (va_cons (ve_var rfl (.inl rfl)) va_nil))))))))) (vb_one (vs_ret ve_bl)) vb_nil)
    (vb_one (vs_ret (ve_eq hr (ve_sorted hr (by rfl) X.z_sorted (ve_var rfl (.inl rfl))) (ve_listR rfl (by rfl) X.z_list (by rfl) X.z_range (ve_var rfl (.inl rfl))))))
theorem bk_require_card_80_40 : BlkOk ["board", "value", "hand"] (defScope s_require_card) ⟨.function, [(".0", .local), ("hand", .local), ("value", .free)], false, false, []⟩ [("hand", 2)] := ⟨rfl, by decide +kernel, by decide +kernel, by decide +kernel, by decide +kernel⟩
def d_require_card : MS := sIf (mOrB (mNotB (mTru (mCall m_is_integer ([mVar 1].foldr aCons aNil)))) (mNotB (mTru (mF fAny (aCons (mLc .v [2] (iSeq (mF fIx (a2 (mVar 0) (mC (.int 1))))) (gN 2) (mC (.bl true)) (mOp (inD false) (mVar 1) (mVar 2))) aNil))))) sSt sNx
abbrev m_require_card : List E → FO := fnM [false, false] 3 d_require_card
theorem ok_require_card {k : Nat} (X : Fx K mg A) : FnOk P w K mg base (L2.CX P w) (k + 2) A.f_require_card A.fd_require_card ["board", "value"] (SpV K 2 m_require_card) :=
  fn_v X.F_require_card sc_require_card [false, false] d_require_card rfl (by decide) fun cdv B outer s H Ew hr => vb_one (vs_if (VW.vt (vw_or (vt_not (vt_tru (ve_call (ok_is_integer (k := k) X) hr (by rfl) X.m_is_integer X.F_is_integer.kp X.b_is_integer take_E (va_cons (ve_var rfl (.inr (.inl rfl))) va_nil)))) (vw_or1 (vt_not (vt_tru (ve_any rfl (by rfl) X.z_any (ve_lc (own := [("hand", 2)]) .v rfl sc_require_card.nd (vi_seq (ve_ix (ve_var rfl (.inl rfl)) ve_int)) bk_require_card_80_40 (fun _ _ _ _ _ => vg_name sc_require_card.nd rfl (.inl rfl)) (fun _ _ _ _ _ => vts_nil) (fun _ _ _ _ _ => ve_in hr (ve_var rfl (.inr (.inl (by rfl)))) (ve_var rfl (.inl rfl)))))))))) (vb_one vs_st) vb_nil)
def d_Simulation_location (c_Simulation : Addr) : MS := sSeq (sAsg (gT [gN 2, gN 3]) (mMeth c_Simulation "holder" (m_Simulation_holder c_Simulation) (mVar 0) ([mVar 1].foldr aCons aNil)))
    (sRet (mF fTup (aCons (mVar 2) (aCons (mIfE (mOp gEq (mVar 2) (mC (.str "load"))) (mF fIx (a2 (mF (fFld c_Simulation "places") (aCons (mVar 0) aNil)) (mVar 3))) (mVar 3)) aNil))))
abbrev m_Simulation_location (c_Simulation : Addr) : List E → FO := fnM [false, false] 4 (d_Simulation_location c_Simulation)
theorem ok_Simulation_location {k : Nat} (X : Fx K mg A) : FnOk P w K mg base (L2.CX P w) (k + 2) A.f_Simulation_location A.fd_Simulation_location ["self", "card"] (SpV K 2 (m_Simulation_location A.c_Simulation)) :=
  fn_v X.F_Simulation_location sc_Simulation_location [false, false] (d_Simulation_location A.c_Simulation) rfl (by decide) fun cdv B outer s H Ew hr => vb_cons (vs_asg (ve_meth (ve_var rfl (.inl rfl)) X.cl_Simulation X.mt_Simulation_holder (ok_Simulation_holder (k := k) X) hr X.b_Simulation_holder take_E (va_cons (ve_var rfl (.inl rfl)) va_nil)) (vg_tup rfl (vgs_cons (vg_name sc_Simulation_location.nd rfl (.inl rfl)) (vgs_cons (vg_name sc_Simulation_location.nd rfl (.inl rfl)) vgs_nil))))
    (vb_one (vs_ret (ve_tup (va_cons (ve_var rfl (.inl rfl)) (va_cons (ve_ifE (vt_eq hr (ve_var rfl (.inl rfl)) ve_str) (ve_ix (ve_fld (ve_var rfl (.inl rfl)) X.cl_Simulation X.nf_Simulation_places) (ve_var rfl (.inl rfl))) (ve_var rfl (.inl rfl))) va_nil)))))
def d__law_generator : MS := sSeq (sSet 2 (mCall m__law_cell ([mVar 0, mVar 1].foldr aCons aNil)))
    (sRet (mF fLst (aCons (mF fMod (a2 (mF fMax2 (a2 (mF fSub (a2 (mVar 2) (mF fPow (a2 (mC (.int 10)) (mC (.int 18)))))) (mC (.int 0)))) (mF fPow (a2 (mF fPow (a2 (mC (.int 10)) (mC (.int 60)))) (mC (.int 10)))))) (aCons (mF fMod (a2 (mVar 2) (mC (.int 2147483647)))) (aCons (mF fMul (a2 (mC (.int 1000)) (mVar 1))) aNil)))))
abbrev m__law_generator : List E → FO := fnM [false, false] 3 d__law_generator
theorem ok__law_generator {k : Nat} (X : Fx K mg A) : FnOk P w K mg base (L2.CX P w) (k + 2) A.f__law_generator A.fd__law_generator ["script", "index"] (SpV K 2 m__law_generator) :=
  fn_v X.F__law_generator sc__law_generator [false, false] d__law_generator rfl (by decide) fun cdv B outer s H Ew hr => vb_cons (vs_set sc__law_generator.nd rfl (.inl rfl) (ve_call (ok__law_cell (k := k) X) hr (by rfl) X.m__law_cell X.F__law_cell.kp X.b__law_cell take_E (va_cons (ve_var rfl (.inl rfl)) (va_cons (ve_var rfl (.inl rfl)) va_nil))))
    (vb_one (vs_ret (ve_lst (va_cons (ve_mod (ve_max2 rfl (by rfl) X.z_max (ve_sub (ve_var rfl (.inl rfl)) (ve_pow ve_int ve_int)) ve_int) (ve_pow (ve_pow ve_int ve_int) ve_int)) (va_cons (ve_mod (ve_var rfl (.inl rfl)) ve_int) (va_cons (ve_mul ve_int (ve_var rfl (.inl rfl))) va_nil))))))
def d__law_random : MS := sSeq (sIf (mOp gGt (mF fIx (a2 (mVar 0) (mC (.int 0)))) (mC (.int 0))) (sSeq (sSet 2 (mF fMod (a2 (mF fIx (a2 (mVar 0) (mC (.int 0)))) (mVar 1))))
    (sSeq (sItem (pName 0) (mC (.int 0)) (mF fDiv (a2 (mF fIx (a2 (mVar 0) (mC (.int 0)))) (mVar 1))))
    (sRet (mMv 2)))) sNx)
    (sSeq (sSet 2 (mC (.int 0)))
    (sSeq (sFor (iRange (mF fAdd (a2 (mC (.int 1)) (mF fDiv (a2 (mF fBits (aCons (mVar 1) aNil)) (mC (.int 30))))))) (gN 3) (sSeq (sItem (pName 0) (mC (.int 2)) (mF fAdd (a2 (mF fIx (a2 (mVar 0) (mC (.int 2)))) (mC (.int 1)))))
    (sSet 2 (mF fAdd (a2 (mF fMul (a2 (mVar 2) (mC (.int 2147483587)))) (mCall m__law_hash ([mF fIx (a2 (mVar 0) (mC (.int 1))), mF fIx (a2 (mVar 0) (mC (.int 2)))].foldr aCons aNil)))))))
    (sRet (mF fMod (a2 (mVar 2) (mVar 1))))))
abbrev m__law_random : List E → FO := fnM [true, false] 4 d__law_random
theorem ok__law_random {k : Nat} (X : Fx K mg A) : FnOk P w K mg base (L2.CX P w) (k + 2) A.f__law_random A.fd__law_random ["generator", "bound"] (SpV K 2 m__law_random) :=
  fn_v X.F__law_random sc__law_random [true, false] d__law_random rfl (by decide) fun cdv B outer s H Ew hr => vb_cons (vs_if (vt_gt (ve_ix (ve_var rfl (.inl rfl)) ve_int) ve_int) (vb_cons (vs_set sc__law_random.nd rfl (.inl rfl) (ve_mod (ve_ix (ve_var rfl (.inl rfl)) ve_int) (ve_var rfl (.inl rfl))))
    (vb_cons (vs_item (ve_div (ve_ix (ve_var rfl (.inl rfl)) ve_int) (ve_var rfl (.inl rfl))) (vp_name rfl (.inl rfl)) ve_int)
    (vb_one (vs_ret (ve_mv rfl (.inl rfl)))))) vb_nil)
    (vb_cons (vs_set sc__law_random.nd rfl (.inl rfl) ve_int)
    (vb_cons (vs_for own_E rfl (vi_range (by rfl) X.z_range (ve_add ve_int (ve_div (ve_bits (ve_var rfl (.inl rfl))) ve_int))) (vg_name sc__law_random.nd rfl (.inl rfl)) (vb_cons (vs_item (ve_add (ve_ix (ve_var rfl (.inl rfl)) ve_int) ve_int) (vp_name rfl (.inl rfl)) ve_int)
    (vb_one (vs_set sc__law_random.nd rfl (.inl rfl) (ve_add (ve_mul (ve_var rfl (.inl rfl)) ve_int) (ve_call (ok__law_hash (k := k) X) hr (by rfl) X.m__law_hash X.F__law_hash.kp X.b__law_hash take_E (va_cons (ve_ix (ve_var rfl (.inl rfl)) ve_int) (va_cons (ve_ix (ve_var rfl (.inl rfl)) ve_int) va_nil))))))))
    (vb_one (vs_ret (ve_mod (ve_var rfl (.inl rfl)) (ve_var rfl (.inl rfl)))))))
def d__law_play : MS := sSeq (sFor (iSeq (mVar 1)) (gN 2) (sSet 0 (mCall m__law_play_round ([mVar 0, mVar 2].foldr aCons aNil))))
    (sRet (mVar 0))
abbrev m__law_play : List E → FO := fnM [false, false] 3 d__law_play
theorem ok__law_play {k : Nat} (X : Fx K mg A) : FnOk P w K mg base (L2.CX P w) (k + 2) A.f__law_play A.fd__law_play ["board", "moves"] (SpV K 2 m__law_play) :=
  fn_v X.F__law_play sc__law_play [false, false] d__law_play rfl (by decide) fun cdv B outer s H Ew hr => vb_cons (vs_for own_E rfl (vi_seq (ve_var rfl (.inl rfl))) (vg_name sc__law_play.nd rfl (.inl rfl)) (vb_one (vs_set sc__law_play.nd rfl (.inl rfl) (ve_call (ok__law_play_round (k := k) X) hr (by rfl) X.m__law_play_round X.F__law_play_round.kp X.b__law_play_round take_E (va_cons (ve_var rfl (.inl rfl)) (va_cons (ve_var rfl (.inl rfl)) va_nil))))))
    (vb_one (vs_ret (ve_var rfl (.inl rfl))))
theorem bk_is_hand_30_47 : BlkOk ["value", "low", "high", "card"] (defScope s_is_hand) ⟨.function, [(".0", .local), ("card", .local), ("is_at_least", .globalImplicit)], false, false, []⟩ [("card", 3)] := ⟨rfl, by decide +kernel, by decide +kernel, by decide +kernel, by decide +kernel⟩
theorem bk_is_hand_32_15 : BlkOk ["value", "low", "high", "card"] (defScope s_is_hand) ⟨.function, [(".0", .local), ("low", .local), ("high", .local)], false, false, []⟩ [("low", 1), ("high", 2)] := ⟨rfl, by decide +kernel, by decide +kernel, by decide +kernel, by decide +kernel⟩
def d_is_hand : MS := sSeq (sIf (mOrB (mNotB (mTru (mIs ["tuple"] (mVar 0)))) (mNotB (mTru (mF fAll (aCons (mLc .v [3] (iSeq (mVar 0)) (gN 3) (mC (.bl true)) (mCall m_is_at_least ([mVar 3, mC (.int 0)].foldr aCons aNil))) aNil))))) (sRet (mC (.bl false))) sNx)
    (sRet (mF fAll (aCons (mLc .v [1, 2] (iZ false (mVar 0) (mF fSl (a3 (mVar 0) (mInt (mC (.int 1))) (mC .non)))) (gT [gN 1, gN 2]) (mC (.bl true)) (mOp gLt (mVar 1) (mVar 2))) aNil)))
abbrev m_is_hand : List E → FO := fnM [false] 4 d_is_hand
theorem ok_is_hand {k : Nat} (X : Fx K mg A) : FnOk P w K mg base (L2.CX P w) (k + 3) A.f_is_hand A.fd_is_hand ["value"] (SpV K 1 m_is_hand) :=
  fn_v X.F_is_hand sc_is_hand [false] d_is_hand rfl (by decide) fun cdv B outer s H Ew hr => vb_cons (vs_if (VW.vt (vw_or (vt_not (vt_tru (ve_is1 (by rfl) X.z_isinstance (ve_var rfl (.inl rfl)) (.cons (by rfl) X.z_tuple rfl (by decide) (by decide) rfl .nil)))) (vw_or1 (vt_not (vt_tru (ve_all rfl (by rfl) X.z_all (ve_lc (own := [("card", 3)]) .v rfl sc_is_hand.nd (vi_seq (ve_var rfl (.inl rfl))) bk_is_hand_30_47 (fun _ _ _ _ _ => vg_name sc_is_hand.nd rfl (.inl rfl)) (fun _ _ _ _ _ => vts_nil) (fun _ _ _ _ _ => ve_call (ok_is_at_least (k := k) X) hr (by rfl) X.m_is_at_least X.F_is_at_least.kp X.b_is_at_least takes0 (va_cons (ve_var rfl (.inl rfl)) (va_cons ve_int va_nil)))))))))) (vb_one (vs_ret ve_bl)) vb_nil)
    (vb_one (vs_ret (ve_all rfl (by rfl) X.z_all (ve_lc (own := [("low", 1), ("high", 2)]) .v rfl sc_is_hand.nd (vi_zip (by rfl) X.z_zip (ve_var rfl (.inl rfl)) (ve_sl (ve_var rfl (.inl rfl)) (vo_some ve_int) vo_none)) bk_is_hand_32_15 (fun _ _ _ _ _ => vg_tup rfl (vgs_cons (vg_name sc_is_hand.nd rfl (.inl rfl)) (vgs_cons (vg_name sc_is_hand.nd rfl (.inl rfl)) vgs_nil))) (fun _ _ _ _ _ => vts_nil) (fun _ _ _ _ _ => ve_lt (ve_var rfl (.inl rfl)) (ve_var rfl (.inl rfl)))))))
def d_require_place_count : MS := sIf (mNotB (mTru (mCall m_is_at_least ([mVar 0, mC (.int 1)].foldr aCons aNil)))) sSt sNx
abbrev m_require_place_count : List E → FO := fnM [false] 1 d_require_place_count
theorem ok_require_place_count {k : Nat} (X : Fx K mg A) : FnOk P w K mg base (L2.CX P w) (k + 3) A.f_require_place_count A.fd_require_place_count ["places"] (SpV K 1 m_require_place_count) :=
  fn_v X.F_require_place_count sc_require_place_count [false] d_require_place_count rfl (by decide) fun cdv B outer s H Ew hr => vb_one (vs_if (vt_not (vt_tru (ve_call (ok_is_at_least (k := k) X) hr (by rfl) X.m_is_at_least X.F_is_at_least.kp X.b_is_at_least take_E (va_cons (ve_var rfl (.inl rfl)) (va_cons ve_int va_nil))))) (vb_one vs_st) vb_nil)
theorem bk__law_shuffled_160_11 : BlkOk ["generator", "items", "pool", "item"] (defScope s__law_shuffled) ⟨.function, [(".0", .local), ("item", .local), ("_law_random", .globalImplicit), ("len", .globalImplicit), ("generator", .free), ("pool", .free)], false, false, []⟩ [("item", 3)] := ⟨rfl, by decide +kernel, by decide +kernel, by decide +kernel, by decide +kernel⟩
def d__law_shuffled : MS := sSeq (sSet 2 (mF fList (aCons (mVar 1) aNil)))
    (sRet (mLc .v [3] (iSeq (mVar 1)) (gN 3) (mC (.bl true)) (mMut "list" kNo fPopAt (pName 2) (mCallM [true, false] m__law_random [.ref 0, .ev (mF fLen (aCons (mVar 2) aNil))]))))
abbrev m__law_shuffled : List E → FO := fnM [true, false] 4 d__law_shuffled
theorem ok__law_shuffled {k : Nat} (X : Fx K mg A) : FnOk P w K mg base (L2.CX P w) (k + 3) A.f__law_shuffled A.fd__law_shuffled ["generator", "items"] (SpV K 2 m__law_shuffled) :=
  fn_v X.F__law_shuffled sc__law_shuffled [true, false] d__law_shuffled rfl (by decide) fun cdv B outer s H Ew hr => vb_cons (vs_set sc__law_shuffled.nd rfl (.inr rfl) (ve_list (by rfl) X.z_list (ve_var rfl (.inl rfl))))
    (vb_one (vs_ret (ve_lc (own := [("item", 3)]) .v rfl sc__law_shuffled.nd (vi_seq (ve_var rfl (.inl rfl))) bk__law_shuffled_160_11 (fun _ _ _ _ _ => vg_name sc__law_shuffled.nd rfl (.inl rfl)) (fun _ _ _ _ _ => vts_nil) (fun _ _ _ _ _ => ve_popAt (vp_name rfl (.inr (.inl (by rfl)))) (ve_callM (mt := [true, false]) (ok__law_random (k := k) X) hr (by rfl) X.m__law_random X.F__law_random.kp X.b__law_random takes0 (vr_ref rfl (.inr (.inl (by rfl))) (vr_ev (ve_len (by rfl) X.z_len (ve_var rfl (.inr (.inl (by rfl))))) vr_nil)))))))
theorem bk_check_board_46_35 : BlkOk ["value", "lots", "hands", "bad_lot", "hand", "bad_hand", "seen", "unique", "place", "short", "lot", "card"] (defScope s_check_board) ⟨.function, [(".0", .local), ("lot", .local), ("is_at_least", .globalImplicit)], false, false, []⟩ [("lot", 10)] := ⟨rfl, by decide +kernel, by decide +kernel, by decide +kernel, by decide +kernel⟩
theorem bk_check_board_49_37 : BlkOk ["value", "lots", "hands", "bad_lot", "hand", "bad_hand", "seen", "unique", "place", "short", "lot", "card"] (defScope s_check_board) ⟨.function, [(".0", .local), ("hand", .local), ("is_hand", .globalImplicit)], false, false, []⟩ [("hand", 4)] := ⟨rfl, by decide +kernel, by decide +kernel, by decide +kernel, by decide +kernel⟩
theorem bk_check_board_55_30 : BlkOk ["value", "lots", "hands", "bad_lot", "hand", "bad_hand", "seen", "unique", "place", "short", "lot", "card"] (defScope s_check_board) ⟨.function, [(".0", .local), ("card", .local), ("seen", .free)], false, false, []⟩ [("card", 11)] := ⟨rfl, by decide +kernel, by decide +kernel, by decide +kernel, by decide +kernel⟩
theorem bk_check_board_56_20 : BlkOk ["value", "lots", "hands", "bad_lot", "hand", "bad_hand", "seen", "unique", "place", "short", "lot", "card"] (defScope s_check_board) ⟨.function, [(".0", .local), ("card", .local), ("place", .free)], false, false, []⟩ [("card", 11)] := ⟨rfl, by decide +kernel, by decide +kernel, by decide +kernel, by decide +kernel⟩
theorem bk_check_board_57_35 : BlkOk ["value", "lots", "hands", "bad_lot", "hand", "bad_hand", "seen", "unique", "place", "short", "lot", "card"] (defScope s_check_board) ⟨.function, [(".0", .local), ("lot", .local), ("hand", .local), ("len", .globalImplicit)], false, false, []⟩ [("lot", 10), ("hand", 4)] := ⟨rfl, by decide +kernel, by decide +kernel, by decide +kernel, by decide +kernel⟩
def d_check_board : MS := sSeq (sIf (mNotB (mTru (mCall m_is_pair_of_tuples ([mVar 0].foldr aCons aNil)))) (sRet (mF fTup (aCons (mC (.str "shape")) aNil))) sNx)
    (sSeq (sAsg (gT [gN 1, gN 2]) (mVar 0))
    (sSeq (sSet 3 (mCall m_first_failure ([mC (.str "lot"), mLc .v [10] (iSeq (mVar 1)) (gN 10) (mC (.bl true)) (mCall m_is_at_least ([mVar 10, mC (.int 0)].foldr aCons aNil))].foldr aCons aNil)))
    (sSeq (sIf (mOp gIsN (mVar 3) (mC .non)) (sRet (mMv 3)) sNx)
    (sSeq (sFg [4] (sSet 5 (mCall m_first_failure ([mC (.str "hand"), mLc .v [4] (iSeq (mVar 2)) (gN 4) (mC (.bl true)) (mCall m_is_hand ([mVar 4].foldr aCons aNil))].foldr aCons aNil))))
    (sSeq (sIf (mOp gIsN (mVar 5) (mC .non)) (sRet (mMv 5)) sNx)
    (sSeq (sSet 6 mDnew)
    (sSeq (sSet 7 (mF fLst aNil))
    (sSeq (sFor (iEn (mVar 2)) (gT [gN 8, gN 4]) (sSeq (sExpr (mMut "list" kElt fAppend (pName 7) (mNot (mF fAny (aCons (mLc .v [11] (iSeq (mVar 4)) (gN 11) (mC (.bl true)) (mOp (gDin false) (mVar 11) (mVar 6))) aNil)))))
    (sExpr (mMut "dict" kFz fUpd (pName 6) (mDc [11] (iSeq (mVar 4)) (gN 11) (mC (.bl true)) (mVar 11) (mVar 8))))))
    (sSeq (sFg [4] (sSet 9 (mCall m_first_failure ([mC (.str "short"), mLc .v [10, 4] (iZ true (mVar 1) (mVar 2)) (gT [gN 10, gN 4]) (mC (.bl true)) (mOp gGe (mF fLen (aCons (mVar 4) aNil)) (mVar 10))].foldr aCons aNil))))
    (sRet (mOr (mVar 9) (mCall m_first_failure ([mC (.str "duplicate"), mVar 7].foldr aCons aNil)))))))))))))
abbrev m_check_board : List E → FO := fnM [false] 12 d_check_board
theorem ok_check_board {k : Nat} (X : Fx K mg A) : FnOk P w K mg base (L2.CX P w) (k + 4) A.f_check_board A.fd_check_board ["value"] (SpV K 1 m_check_board) :=
  fn_v X.F_check_board sc_check_board [false] d_check_board rfl (by decide) fun cdv B outer s H Ew hr => vb_cons (vs_if (vt_not (vt_tru (ve_call (ok_is_pair_of_tuples (k := k + 2) X) hr (by rfl) X.m_is_pair_of_tuples X.F_is_pair_of_tuples.kp X.b_is_pair_of_tuples take_E (va_cons (ve_var rfl (.inl rfl)) va_nil)))) (vb_one (vs_ret (ve_tup (va_cons ve_str va_nil)))) vb_nil)
    (vb_cons (vs_asg (ve_var rfl (.inl rfl)) (vg_tup rfl (vgs_cons (vg_name sc_check_board.nd rfl (.inl rfl)) (vgs_cons (vg_name sc_check_board.nd rfl (.inl rfl)) vgs_nil))))
    (vb_cons (vs_set sc_check_board.nd rfl (.inl rfl) (ve_call (ok_first_failure (k := k + 2) X) hr (by rfl) X.m_first_failure X.F_first_failure.kp X.b_first_failure take_E (va_cons ve_str (va_cons (ve_lc (own := [("lot", 10)]) .v rfl sc_check_board.nd (vi_seq (ve_var rfl (.inl rfl))) bk_check_board_46_35 (fun _ _ _ _ _ => vg_name sc_check_board.nd rfl (.inl rfl)) (fun _ _ _ _ _ => vts_nil) (fun _ _ _ _ _ => ve_call (ok_is_at_least (k := k + 1) X) hr (by rfl) X.m_is_at_least X.F_is_at_least.kp X.b_is_at_least takes0 (va_cons (ve_var rfl (.inl rfl)) (va_cons ve_int va_nil)))) va_nil))))
    (vb_cons (vs_if (vt_isN (ve_var rfl (.inl rfl)) ve_non) (vb_one (vs_ret (ve_mv rfl (.inl rfl)))) vb_nil)
    (vb_cons (vs_fg [4] (vs_set sc_check_board.nd rfl (.inl rfl) (ve_call (ok_first_failure (k := k + 2) X) hr (by rfl) X.m_first_failure X.F_first_failure.kp X.b_first_failure take_E (va_cons ve_str (va_cons (ve_lc (own := [("hand", 4)]) .v rfl sc_check_board.nd (vi_seq (ve_var rfl (.inl rfl))) bk_check_board_49_37 (fun _ _ _ _ _ => vg_name sc_check_board.nd rfl (.inl rfl)) (fun _ _ _ _ _ => vts_nil) (fun _ _ _ _ _ => ve_call (ok_is_hand (k := k) X) hr (by rfl) X.m_is_hand X.F_is_hand.kp X.b_is_hand takes0 (va_cons (ve_var rfl (.inl rfl)) va_nil))) va_nil)))))
    (vb_cons (vs_if (vt_isN (ve_var rfl (.inl rfl)) ve_non) (vb_one (vs_ret (ve_mv rfl (.inl rfl)))) vb_nil)
    (vb_cons (vs_set sc_check_board.nd rfl (.inr rfl) ve_dnew)
    (vb_cons (vs_set sc_check_board.nd rfl (.inl rfl) (ve_lst va_nil))
    (vb_cons (vs_for own_E rfl (vi_enum (by rfl) X.z_enumerate (ve_var rfl (.inl rfl))) (vg_tup rfl (vgs_cons (vg_name sc_check_board.nd rfl (.inr rfl)) (vgs_cons (vg_name sc_check_board.nd rfl (.inl rfl)) vgs_nil))) (vb_cons (vs_expr (ve_append (vp_name rfl (.inl rfl)) (ve_not (ve_any rfl (by rfl) X.z_any (ve_lc (own := [("card", 11)]) .v rfl sc_check_board.nd (vi_seq (ve_var rfl (.inl rfl))) bk_check_board_55_30 (fun _ _ _ _ _ => vg_name sc_check_board.nd rfl (.inl rfl)) (fun _ _ _ _ _ => vts_nil) (fun _ _ _ _ _ => ve_din hr (ve_var rfl (.inl rfl)) (ve_var rfl (.inr (.inl (by rfl))))))))))
    (vb_one (vs_expr (ve_update (vp_name rfl (.inr (.inl rfl))) (ve_dc (own := [("card", 11)]) rfl sc_check_board.nd (vi_seq (ve_var rfl (.inl rfl))) bk_check_board_56_20 (fun _ _ _ _ _ => vg_name sc_check_board.nd rfl (.inl rfl)) (fun _ _ _ _ _ => vts_nil) (fun _ _ _ _ _ => ve_var rfl (.inl rfl)) (fun _ _ _ _ _ => ve_var rfl (.inr (.inl (by rfl))))))))))
    (vb_cons (vs_fg [4] (vs_set sc_check_board.nd rfl (.inl rfl) (ve_call (ok_first_failure (k := k + 2) X) hr (by rfl) X.m_first_failure X.F_first_failure.kp X.b_first_failure take_E (va_cons ve_str (va_cons (ve_lc (own := [("lot", 10), ("hand", 4)]) .v rfl sc_check_board.nd (vi_zip (by rfl) X.z_zip (ve_var rfl (.inl rfl)) (ve_var rfl (.inl rfl))) bk_check_board_57_35 (fun _ _ _ _ _ => vg_tup rfl (vgs_cons (vg_name sc_check_board.nd rfl (.inl rfl)) (vgs_cons (vg_name sc_check_board.nd rfl (.inl rfl)) vgs_nil))) (fun _ _ _ _ _ => vts_nil) (fun _ _ _ _ _ => ve_ge (ve_len (by rfl) X.z_len (ve_var rfl (.inl rfl))) (ve_var rfl (.inl rfl)))) va_nil)))))
    (vb_one (vs_ret (ve_or (ve_var rfl (.inl rfl)) (ve_bo1 (ve_call (ok_first_failure (k := k + 2) X) hr (by rfl) X.m_first_failure X.F_first_failure.kp X.b_first_failure take_E (va_cons ve_str (va_cons (ve_var rfl (.inl rfl)) va_nil))))))))))))))))
theorem bk_check_plan_70_34 : BlkOk ["places", "value", "permutation"] (defScope s_check_plan) ⟨.function, [(".0", .local), ("permutation", .local), ("is_round", .globalImplicit), ("places", .free)], false, false, []⟩ [("permutation", 2)] := ⟨rfl, by decide +kernel, by decide +kernel, by decide +kernel, by decide +kernel⟩
def d_check_plan : MS := sSeq (sExpr (mCall m_require_place_count ([mVar 0].foldr aCons aNil)))
    (sSeq (sIf (mNotB (mTru (mIs ["list"] (mVar 1)))) (sRet (mF fTup (aCons (mC (.str "plan")) aNil))) sNx)
    (sRet (mCall m_first_failure ([mC (.str "round"), mLc .v [2] (iSeq (mVar 1)) (gN 2) (mC (.bl true)) (mCall m_is_round ([mVar 0, mVar 2].foldr aCons aNil))].foldr aCons aNil))))
abbrev m_check_plan : List E → FO := fnM [false, false] 3 d_check_plan
theorem ok_check_plan {k : Nat} (X : Fx K mg A) : FnOk P w K mg base (L2.CX P w) (k + 4) A.f_check_plan A.fd_check_plan ["places", "value"] (SpV K 2 m_check_plan) :=
  fn_v X.F_check_plan sc_check_plan [false, false] d_check_plan rfl (by decide) fun cdv B outer s H Ew hr => vb_cons (vs_expr (ve_call (ok_require_place_count (k := k) X) hr (by rfl) X.m_require_place_count X.F_require_place_count.kp X.b_require_place_count take_E (va_cons (ve_var rfl (.inr (.inl rfl))) va_nil)))
    (vb_cons (vs_if (vt_not (vt_tru (ve_is1 (by rfl) X.z_isinstance (ve_var rfl (.inl rfl)) (.cons (by rfl) X.z_list rfl (by decide) (by decide) rfl .nil)))) (vb_one (vs_ret (ve_tup (va_cons ve_str va_nil)))) vb_nil)
    (vb_one (vs_ret (ve_call (ok_first_failure (k := k + 2) X) hr (by rfl) X.m_first_failure X.F_first_failure.kp X.b_first_failure take_E (va_cons ve_str (va_cons (ve_lc (own := [("permutation", 2)]) .v rfl sc_check_plan.nd (vi_seq (ve_var rfl (.inl rfl))) bk_check_plan_70_34 (fun _ _ _ _ _ => vg_name sc_check_plan.nd rfl (.inl rfl)) (fun _ _ _ _ _ => vts_nil) (fun _ _ _ _ _ => ve_call (ok_is_round (k := k + 1) X) hr (by rfl) X.m_is_round X.F_is_round.kp X.b_is_round takes0 (va_cons (ve_var rfl (.inr (.inl (by rfl)))) (va_cons (ve_var rfl (.inl rfl)) va_nil)))) va_nil))))))
def d__law_random_round : MS := sSeq (sSet 2 (mCallM [true, false] m__law_random [.ref 0, .ev (mC (.int 8))]))
    (sSeq (sSet 3 (mF (fRg1 false) (aCons (mVar 1) aNil)))
    (sSeq (sIf (mOp gEq (mVar 2) (mC (.int 0))) (sRet (mF fTuple (aCons (mVar 3) aNil))) sNx)
    (sSeq (sIf (mOp gEq (mVar 2) (mC (.int 1))) (sRet (mF fTuple (aCons (mF fAdd (a2 (mF fSl (a3 (mVar 3) (mInt (mC (.int 1))) (mC .non))) (mF fSl (a3 (mVar 3) (mC .non) (mInt (mC (.int 1))))))) aNil))) sNx)
    (sSeq (sIf (mOp gEq (mVar 2) (mC (.int 2))) (sRet (mF fTuple (aCons (mF fRev (aCons (mVar 3) aNil)) aNil))) sNx)
    (sFz [3] (sRet (mF fTuple (aCons (mCallM [true, false] m__law_shuffled [.ref 0, .ev (mVar 3)]) aNil))))))))
abbrev m__law_random_round : List E → FO := fnM [true, false] 4 d__law_random_round
theorem ok__law_random_round {k : Nat} (X : Fx K mg A) : FnOk P w K mg base (L2.CX P w) (k + 4) A.f__law_random_round A.fd__law_random_round ["generator", "size"] (SpV K 2 m__law_random_round) :=
  fn_v X.F__law_random_round sc__law_random_round [true, false] d__law_random_round rfl (by decide) fun cdv B outer s H Ew hr => vb_cons (vs_set sc__law_random_round.nd rfl (.inl rfl) (ve_callM (mt := [true, false]) (ok__law_random (k := k + 1) X) hr (by rfl) X.m__law_random X.F__law_random.kp X.b__law_random take_E (vr_ref rfl (.inl rfl) (vr_ev ve_int vr_nil))))
    (vb_cons (vs_set sc__law_random_round.nd rfl (.inl rfl) (ve_listR rfl (by rfl) X.z_list (by rfl) X.z_range (ve_var rfl (.inl rfl))))
    (vb_cons (vs_if (vt_eq hr (ve_var rfl (.inl rfl)) ve_int) (vb_one (vs_ret (ve_tuple (by rfl) X.z_tuple (ve_var rfl (.inl rfl))))) vb_nil)
    (vb_cons (vs_if (vt_eq hr (ve_var rfl (.inl rfl)) ve_int) (vb_one (vs_ret (ve_tuple (by rfl) X.z_tuple (ve_add (ve_sl (ve_var rfl (.inl rfl)) (vo_some ve_int) vo_none) (ve_sl (ve_var rfl (.inl rfl)) vo_none (vo_some ve_int)))))) vb_nil)
    (vb_cons (vs_if (vt_eq hr (ve_var rfl (.inl rfl)) ve_int) (vb_one (vs_ret (ve_tuple (by rfl) X.z_tuple (ve_rev (ve_var rfl (.inl rfl)))))) vb_nil)
    (vb_one (vs_fz [3] (vs_ret (ve_tuple (by rfl) X.z_tuple (ve_callM (mt := [true, false]) (ok__law_shuffled (k := k) X) hr (by rfl) X.m__law_shuffled X.F__law_shuffled.kp X.b__law_shuffled take_E (vr_ref rfl (.inl rfl) (vr_ev (ve_var rfl (.inl rfl)) vr_nil)))))))))))
theorem bk__law_random_board_179_11 : BlkOk ["generator", "size", "largest_base", "equal_lots", "place", "lots", "bases", "holders", "hands", "number", "holder", "gap", "hand"] (defScope s__law_random_board) ⟨.function, [(".0", .local), ("place", .local), ("_law_random", .globalImplicit), ("int", .globalImplicit), ("equal_lots", .free), ("generator", .free)], false, false, []⟩ [("place", 4)] := ⟨rfl, by decide +kernel, by decide +kernel, by decide +kernel, by decide +kernel⟩
theorem bk__law_random_board_180_12 : BlkOk ["generator", "size", "largest_base", "equal_lots", "place", "lots", "bases", "holders", "hands", "number", "holder", "gap", "hand"] (defScope s__law_random_board) ⟨.function, [(".0", .local), ("place", .local), ("_law_random", .globalImplicit), ("generator", .free), ("largest_base", .free)], false, false, []⟩ [("place", 4)] := ⟨rfl, by decide +kernel, by decide +kernel, by decide +kernel, by decide +kernel⟩
theorem bk__law_random_board_184_12 : BlkOk ["generator", "size", "largest_base", "equal_lots", "place", "lots", "bases", "holders", "hands", "number", "holder", "gap", "hand"] (defScope s__law_random_board) ⟨.function, [(".0", .local), ("place", .local)], false, false, []⟩ [("place", 4)] := ⟨rfl, by decide +kernel, by decide +kernel, by decide +kernel, by decide +kernel⟩
theorem bk__law_random_board_190_31 : BlkOk ["generator", "size", "largest_base", "equal_lots", "place", "lots", "bases", "holders", "hands", "number", "holder", "gap", "hand"] (defScope s__law_random_board) ⟨.function, [(".0", .local), ("hand", .local), ("tuple", .globalImplicit)], false, false, []⟩ [("hand", 12)] := ⟨rfl, by decide +kernel, by decide +kernel, by decide +kernel, by decide +kernel⟩
def d__law_random_board : MS := sSeq (sSet 3 (mOp gEq (mCallM [true, false] m__law_random [.ref 0, .ev (mC (.int 4))]) (mC (.int 0))))
    (sSeq (sFg [4] (sSet 5 (mLc .v [4] (iRange (mVar 1)) (gN 4) (mC (.bl true)) (mF fIx (a2 (mF fLst (aCons (mF fIx (a2 (mF fLst (aCons (mC (.int 0)) (aCons (mC (.int 1)) (aCons (mC (.int 1)) (aCons (mC (.int 2)) (aCons (mC (.int 3)) aNil)))))) (mCallM [true, false] m__law_random [.ref 0, .ev (mC (.int 5))]))) (aCons (mC (.int 1)) aNil))) (mF fInt (aCons (mVar 3) aNil)))))))
    (sSeq (sFg [4] (sSet 6 (mLc .v [4] (iRange (mVar 1)) (gN 4) (mC (.bl true)) (mF fIx (a2 (mF fLst (aCons (mC (.int 0)) (aCons (mC (.int 1)) (aCons (mC (.int 1)) (aCons (mC (.int 2)) (aCons (mC (.int 2)) (aCons (mVar 2) aNil))))))) (mCallM [true, false] m__law_random [.ref 0, .ev (mC (.int 6))]))))))
    (sSeq (sSet 7 (mF fLst aNil))
    (sSeq (sFor (iRange (mVar 1)) (gN 4) (sSet 7 (mF fAdd (a2 (mVar 7) (mF fMul (a2 (mF fLst (aCons (mVar 4) aNil)) (mF fAdd (a2 (mF fIx (a2 (mVar 5) (mVar 4))) (mF fIx (a2 (mVar 6) (mVar 4)))))))))))
    (sSeq (sFg [4] (sSet 8 (mLc (.l .v) [4] (iRange (mVar 1)) (gN 4) (mC (.bl true)) (mF fLst aNil))))
    (sSeq (sSet 9 (mF fNeg (a1 (mC (.int 1)))))
    (sSeq (sFz [7] (sFor (iSeq (mCallM [true, false] m__law_shuffled [.ref 0, .ev (mVar 7)])) (gN 10) (sSeq (sSet 11 (mF fIx (a2 (mF fLst (aCons (mC (.int 1)) (aCons (mC (.int 1)) (aCons (mC (.int 3)) (aCons (mF fPow (a2 (mC (.int 10)) (mC (.int 6)))) aNil))))) (mCallM [true, false] m__law_random [.ref 0, .ev (mC (.int 4))]))))
    (sSeq (sSet 9 (mF fAdd (a2 (mF fAdd (a2 (mVar 9) (mC (.int 1)))) (mCallM [true, false] m__law_random [.ref 0, .ev (mVar 11)]))))
    (sExpr (mMut "list" kElt fAppend (pIx (pName 8) (mVar 10)) (mVar 9)))))))
    (sRet (mF fTup (aCons (mF fTuple (aCons (mVar 5) aNil)) (aCons (mF fTuple (aCons (mLc .v [12] (iSeq (mVar 8)) (gN 12) (mC (.bl true)) (mF fTuple (aCons (mVar 12) aNil))) aNil)) aNil)))))))))))
abbrev m__law_random_board : List E → FO := fnM [true, false, false] 13 d__law_random_board
theorem ok__law_random_board {k : Nat} (X : Fx K mg A) : FnOk P w K mg base (L2.CX P w) (k + 4) A.f__law_random_board A.fd__law_random_board ["generator", "size", "largest_base"] (SpV K 3 m__law_random_board) :=
  fn_v X.F__law_random_board sc__law_random_board [true, false, false] d__law_random_board rfl (by decide) fun cdv B outer s H Ew hr => vb_cons (vs_set sc__law_random_board.nd rfl (.inr rfl) (ve_eq hr (ve_callM (mt := [true, false]) (ok__law_random (k := k + 1) X) hr (by rfl) X.m__law_random X.F__law_random.kp X.b__law_random take_E (vr_ref rfl (.inr (.inl rfl)) (vr_ev ve_int vr_nil))) ve_int))
    (vb_cons (vs_fg [4] (vs_setLc (own := [("place", 4)]) .v rfl sc__law_random_board.nd rfl rfl (by rfl) (vi_range (by rfl) X.z_range (ve_var rfl (.inl rfl))) bk__law_random_board_179_11 (fun _ _ _ _ _ => vg_name sc__law_random_board.nd rfl (.inl rfl)) (fun _ _ _ _ _ => vts_nil) (fun _ _ _ _ _ => ve_ix (ve_lst (va_cons (ve_ix (ve_lst (va_cons ve_int (va_cons ve_int (va_cons ve_int (va_cons ve_int (va_cons ve_int va_nil)))))) (ve_callM (mt := [true, false]) (ok__law_random (k := k + 1) X) hr (by rfl) X.m__law_random X.F__law_random.kp X.b__law_random takes0 (vr_ref rfl (.inr (.inl (by rfl))) (vr_ev ve_int vr_nil)))) (va_cons ve_int va_nil))) (ve_intc (by rfl) X.z_int (ve_var rfl (.inr (.inl (by rfl))))))))
    (vb_cons (vs_fg [4] (vs_setLc (own := [("place", 4)]) .v rfl sc__law_random_board.nd rfl rfl (by rfl) (vi_range (by rfl) X.z_range (ve_var rfl (.inl rfl))) bk__law_random_board_180_12 (fun _ _ _ _ _ => vg_name sc__law_random_board.nd rfl (.inl rfl)) (fun _ _ _ _ _ => vts_nil) (fun _ _ _ _ _ => ve_ix (ve_lst (va_cons ve_int (va_cons ve_int (va_cons ve_int (va_cons ve_int (va_cons ve_int (va_cons (ve_var rfl (.inr (.inl (by rfl)))) va_nil))))))) (ve_callM (mt := [true, false]) (ok__law_random (k := k + 1) X) hr (by rfl) X.m__law_random X.F__law_random.kp X.b__law_random takes0 (vr_ref rfl (.inr (.inl (by rfl))) (vr_ev ve_int vr_nil))))))
    (vb_cons (vs_set sc__law_random_board.nd rfl (.inl rfl) (ve_lst va_nil))
    (vb_cons (vs_for own_E rfl (vi_range (by rfl) X.z_range (ve_var rfl (.inl rfl))) (vg_name sc__law_random_board.nd rfl (.inl rfl)) (vb_one (vs_set sc__law_random_board.nd rfl (.inl rfl) (ve_add (ve_var rfl (.inl rfl)) (ve_mul (ve_lst (va_cons (ve_var rfl (.inl rfl)) va_nil)) (ve_add (ve_ix (ve_var rfl (.inl rfl)) (ve_var rfl (.inl rfl))) (ve_ix (ve_var rfl (.inl rfl)) (ve_var rfl (.inl rfl)))))))))
    (vb_cons (vs_fg [4] (vs_setLc (own := [("place", 4)]) (.l .v) rfl sc__law_random_board.nd rfl rfl (by rfl) (vi_range (by rfl) X.z_range (ve_var rfl (.inl rfl))) bk__law_random_board_184_12 (fun _ _ _ _ _ => vg_name sc__law_random_board.nd rfl (.inl rfl)) (fun _ _ _ _ _ => vts_nil) (fun _ _ _ _ _ => ve_lst va_nil)))
    (vb_cons (vs_set sc__law_random_board.nd rfl (.inl rfl) (ve_neg ve_int))
    (vb_cons (vs_fz [7] (vs_for own_E rfl (vi_seq (ve_callM (mt := [true, false]) (ok__law_shuffled (k := k) X) hr (by rfl) X.m__law_shuffled X.F__law_shuffled.kp X.b__law_shuffled take_E (vr_ref rfl (.inr (.inl rfl)) (vr_ev (ve_var rfl (.inl rfl)) vr_nil)))) (vg_name sc__law_random_board.nd rfl (.inl rfl)) (vb_cons (vs_set sc__law_random_board.nd rfl (.inl rfl) (ve_ix (ve_lst (va_cons ve_int (va_cons ve_int (va_cons ve_int (va_cons (ve_pow ve_int ve_int) va_nil))))) (ve_callM (mt := [true, false]) (ok__law_random (k := k + 1) X) hr (by rfl) X.m__law_random X.F__law_random.kp X.b__law_random take_E (vr_ref rfl (.inr (.inl rfl)) (vr_ev ve_int vr_nil)))))
    (vb_cons (vs_set sc__law_random_board.nd rfl (.inl rfl) (ve_add (ve_add (ve_var rfl (.inl rfl)) ve_int) (ve_callM (mt := [true, false]) (ok__law_random (k := k + 1) X) hr (by rfl) X.m__law_random X.F__law_random.kp X.b__law_random take_E (vr_ref rfl (.inr (.inl rfl)) (vr_ev (ve_var rfl (.inl rfl)) vr_nil)))))
    (vb_one (vs_expr (ve_append (vp_ix (W := W0) (vp_name rfl (.inl rfl)) (ve_var rfl (.inl rfl))) (ve_var rfl (.inl rfl)))))))))
    (vb_one (vs_ret (ve_tup (va_cons (ve_tuple (by rfl) X.z_tuple (ve_var rfl (.inl rfl))) (va_cons (ve_tuple (by rfl) X.z_tuple (ve_lc (own := [("hand", 12)]) .v rfl sc__law_random_board.nd (vi_seq (ve_var rfl (.inl rfl))) bk__law_random_board_190_31 (fun _ _ _ _ _ => vg_name sc__law_random_board.nd rfl (.inl rfl)) (fun _ _ _ _ _ => vts_nil) (fun _ _ _ _ _ => ve_tuple (by rfl) X.z_tuple (ve_var rfl (.inl rfl))))) va_nil))))))))))))
def d_require_board : MS := sSeq (sSet 1 (mCall m_check_board ([mVar 0].foldr aCons aNil)))
    (sIf (mOp gIsN (mVar 1) (mC .non)) sSt sNx)
abbrev m_require_board : List E → FO := fnM [false] 2 d_require_board
theorem ok_require_board {k : Nat} (X : Fx K mg A) : FnOk P w K mg base (L2.CX P w) (k + 5) A.f_require_board A.fd_require_board ["value"] (SpV K 1 m_require_board) :=
  fn_v X.F_require_board sc_require_board [false] d_require_board rfl (by decide) fun cdv B outer s H Ew hr => vb_cons (vs_set sc_require_board.nd rfl (.inl rfl) (ve_call (ok_check_board (k := k) X) hr (by rfl) X.m_check_board X.F_check_board.kp X.b_check_board take_E (va_cons (ve_var rfl (.inl rfl)) va_nil)))
    (vb_one (vs_if (vt_isN (ve_var rfl (.inl rfl)) ve_non) (vb_one vs_st) vb_nil))
def d_require_plan : MS := sSeq (sSet 2 (mCall m_check_plan ([mVar 0, mVar 1].foldr aCons aNil)))
    (sIf (mOp gIsN (mVar 2) (mC .non)) sSt sNx)
abbrev m_require_plan : List E → FO := fnM [false, false] 3 d_require_plan
theorem ok_require_plan {k : Nat} (X : Fx K mg A) : FnOk P w K mg base (L2.CX P w) (k + 5) A.f_require_plan A.fd_require_plan ["places", "value"] (SpV K 2 m_require_plan) :=
  fn_v X.F_require_plan sc_require_plan [false, false] d_require_plan rfl (by decide) fun cdv B outer s H Ew hr => vb_cons (vs_set sc_require_plan.nd rfl (.inl rfl) (ve_call (ok_check_plan (k := k) X) hr (by rfl) X.m_check_plan X.F_check_plan.kp X.b_check_plan take_E (va_cons (ve_var rfl (.inl rfl)) (va_cons (ve_var rfl (.inl rfl)) va_nil))))
    (vb_one (vs_if (vt_isN (ve_var rfl (.inl rfl)) ve_non) (vb_one vs_st) vb_nil))
def d__law_random_plan : MS := sSeq (sSet 3 (mF fLst aNil))
    (sSeq (sFor (iRange (mCallM [true, false] m__law_random [.ref 0, .ev (mF fAdd (a2 (mVar 2) (mC (.int 1))))])) (gN 4) (sSeq (sSet 5 (mF fMul (a2 (mF fSl (a3 (mVar 3) (mInt (mF fNeg (a1 (mC (.int 1))))) (mC .non))) (mF fInt (aCons (mOp gEq (mCallM [true, false] m__law_random [.ref 0, .ev (mC (.int 6))]) (mC (.int 0))) aNil)))))
    (sFz [3, 5] (sSet 3 (mF fAdd (a2 (mVar 3) (mOr (mVar 5) (mF fLst (aCons (mCallM [true, false] m__law_random_round [.ref 0, .ev (mVar 1)]) aNil)))))))))
    (sRet (mMv 3)))
abbrev m__law_random_plan : List E → FO := fnM [true, false, false] 6 d__law_random_plan
theorem ok__law_random_plan {k : Nat} (X : Fx K mg A) : FnOk P w K mg base (L2.CX P w) (k + 5) A.f__law_random_plan A.fd__law_random_plan ["generator", "size", "longest"] (SpV K 3 m__law_random_plan) :=
  fn_v X.F__law_random_plan sc__law_random_plan [true, false, false] d__law_random_plan rfl (by decide) fun cdv B outer s H Ew hr => vb_cons (vs_set sc__law_random_plan.nd rfl (.inl rfl) (ve_lst va_nil))
    (vb_cons (vs_for own_E rfl (vi_range (by rfl) X.z_range (ve_callM (mt := [true, false]) (ok__law_random (k := k + 2) X) hr (by rfl) X.m__law_random X.F__law_random.kp X.b__law_random take_E (vr_ref rfl (.inl rfl) (vr_ev (ve_add (ve_var rfl (.inl rfl)) ve_int) vr_nil)))) (vg_name sc__law_random_plan.nd rfl (.inl rfl)) (vb_cons (vs_set sc__law_random_plan.nd rfl (.inl rfl) (ve_mul (ve_sl (ve_var rfl (.inl rfl)) (vo_some (ve_neg ve_int)) vo_none) (ve_intc (by rfl) X.z_int (ve_eq hr (ve_callM (mt := [true, false]) (ok__law_random (k := k + 2) X) hr (by rfl) X.m__law_random X.F__law_random.kp X.b__law_random take_E (vr_ref rfl (.inl rfl) (vr_ev ve_int vr_nil))) ve_int))))
    (vb_one (vs_fz [3, 5] (vs_set sc__law_random_plan.nd rfl (.inl rfl) (ve_add (ve_var rfl (.inl rfl)) (ve_or (ve_var rfl (.inl rfl)) (ve_bo1 (ve_lst (va_cons (ve_callM (mt := [true, false]) (ok__law_random_round (k := k) X) hr (by rfl) X.m__law_random_round X.F__law_random_round.kp X.b__law_random_round take_E (vr_ref rfl (.inl rfl) (vr_ev (ve_var rfl (.inl rfl)) vr_nil))) va_nil))))))))))
    (vb_one (vs_ret (ve_mv rfl (.inl rfl)))))
def d_track_card (c_Simulation : Addr) : MS := sSeq (sExpr (mCall m_require_board ([mVar 0].foldr aCons aNil)))
    (sSeq (sExpr (mCall m_require_plan ([mF fLen (aCons (mF fIx (a2 (mVar 0) (mC (.int 0)))) aNil), mVar 1].foldr aCons aNil)))
    (sSeq (sExpr (mCall m_require_card ([mVar 0, mVar 2].foldr aCons aNil)))
    (sSeq (sSet 3 (mMake c_Simulation 1 (m_Simulation___init__ c_Simulation) ([mVar 0].foldr aCons aNil)))
    (sSeq (sSet 4 (mF fLst (aCons (mMeth c_Simulation "location" (m_Simulation_location c_Simulation) (mVar 3) ([mVar 2].foldr aCons aNil)) aNil)))
    (sSeq (sFor (iSeq (mVar 1)) (gN 5) (sSeq (sExpr (mMethR c_Simulation "apply_round" [true, false] (m_Simulation_apply_round c_Simulation) 3 [.ev (mVar 5)]))
    (sExpr (mMut "list" kElt fAppend (pName 4) (mMeth c_Simulation "location" (m_Simulation_location c_Simulation) (mVar 3) ([mVar 2].foldr aCons aNil))))))
    (sRet (mMv 4)))))))
abbrev m_track_card (c_Simulation : Addr) : List E → FO := fnM [false, false, false] 6 (d_track_card c_Simulation)
theorem ok_track_card {k : Nat} (X : Fx K mg A) : FnOk P w K mg base (L2.CX P w) (k + 6) A.f_track_card A.fd_track_card ["board", "plan", "card"] (SpV K 3 (m_track_card A.c_Simulation)) :=
  fn_v X.F_track_card sc_track_card [false, false, false] (d_track_card A.c_Simulation) rfl (by decide) fun cdv B outer s H Ew hr => vb_cons (vs_expr (ve_call (ok_require_board (k := k) X) hr (by rfl) X.m_require_board X.F_require_board.kp X.b_require_board take_E (va_cons (ve_var rfl (.inl rfl)) va_nil)))
    (vb_cons (vs_expr (ve_call (ok_require_plan (k := k) X) hr (by rfl) X.m_require_plan X.F_require_plan.kp X.b_require_plan take_E (va_cons (ve_len (by rfl) X.z_len (ve_ix (ve_var rfl (.inl rfl)) ve_int)) (va_cons (ve_var rfl (.inl rfl)) va_nil))))
    (vb_cons (vs_expr (ve_call (ok_require_card (k := k + 3) X) hr (by rfl) X.m_require_card X.F_require_card.kp X.b_require_card take_E (va_cons (ve_var rfl (.inl rfl)) (va_cons (ve_var rfl (.inl rfl)) va_nil))))
    (vb_cons (vs_set sc_track_card.nd rfl (.inl rfl) (ve_make X.mk_Simulation (ok_Simulation___init__ (k := k + 3) X) hr (by rfl) X.m_Simulation X.b_Simulation___init__ take_E (va_cons (ve_var rfl (.inl rfl)) va_nil)))
    (vb_cons (vs_set sc_track_card.nd rfl (.inl rfl) (ve_lst (va_cons (ve_meth (ve_var rfl (.inl rfl)) X.cl_Simulation X.mt_Simulation_location (ok_Simulation_location (k := k + 3) X) hr X.b_Simulation_location take_E (va_cons (ve_var rfl (.inl rfl)) va_nil)) va_nil)))
    (vb_cons (vs_for own_E rfl (vi_seq (ve_var rfl (.inl rfl))) (vg_name sc_track_card.nd rfl (.inl rfl)) (vb_cons (vs_expr (ve_methR (mt := [true, false]) rfl (.inl rfl) X.cl_Simulation X.mt_Simulation_apply_round (ok_Simulation_apply_round (k := k + 4) X) hr X.b_Simulation_apply_round take_E (vr_ev (ve_var rfl (.inl rfl)) vr_nil)))
    (vb_one (vs_expr (ve_append (vp_name rfl (.inl rfl)) (ve_meth (ve_var rfl (.inl rfl)) X.cl_Simulation X.mt_Simulation_location (ok_Simulation_location (k := k + 3) X) hr X.b_Simulation_location take_E (va_cons (ve_var rfl (.inl rfl)) va_nil)))))))
    (vb_one (vs_ret (ve_mv rfl (.inl rfl)))))))))
theorem bk_law_214_17 : BlkOk ["script", "index", "generator", "board", "moves", "boards", "before", "card", "expected", "attempt", "result", "count", "current"] (defScope s_law) ⟨.function, [(".0", .local), ("count", .local), ("_law_play", .globalImplicit), ("board", .free), ("moves", .free)], false, false, []⟩ [("count", 11)] := ⟨rfl, by decide +kernel, by decide +kernel, by decide +kernel, by decide +kernel⟩
theorem bk_law_217_23 : BlkOk ["script", "index", "generator", "board", "moves", "boards", "before", "card", "expected", "attempt", "result", "count", "current"] (defScope s_law) ⟨.function, [(".0", .local), ("current", .local), ("_law_location", .globalImplicit), ("card", .free)], false, false, []⟩ [("current", 12)] := ⟨rfl, by decide +kernel, by decide +kernel, by decide +kernel, by decide +kernel⟩
def d_law (c_Simulation : Addr) : MS := sSeq (sFor (iRange (mC (.int 3))) (gN 1) (sSeq (sSet 2 (mCall m__law_generator ([mVar 0, mVar 1].foldr aCons aNil)))
    (sSeq (sSet 3 (mCallM [true, false, false] m__law_random_board [.ref 2, .ev (mF fAdd (a2 (mC (.int 1)) (mCallM [true, false] m__law_random [.ref 2, .ev (mC (.int 6))]))), .ev (mC (.int 5))]))
    (sSeq (sSet 4 (mCallM [true, false, false] m__law_random_plan [.ref 2, .ev (mF fLen (aCons (mF fIx (a2 (mVar 3) (mC (.int 0)))) aNil)), .ev (mC (.int 9))]))
    (sSeq (sSet 5 (mLc .v [11] (iRange (mF fAdd (a2 (mF fLen (aCons (mVar 4) aNil)) (mC (.int 1))))) (gN 11) (mC (.bl true)) (mCall m__law_play ([mVar 3, mF fSl (a3 (mVar 4) (mC .non) (mInt (mVar 11)))].foldr aCons aNil))))
    (sSeq (sSet 6 (mF fList (aCons (mVar 4) aNil)))
    (sFor (iSeq (mCall m__law_all_cards ([mVar 3].foldr aCons aNil))) (gN 7) (sSeq (sSet 8 (mLc .v [12] (iSeq (mVar 5)) (gN 12) (mC (.bl true)) (mCall m__law_location ([mVar 12, mVar 7].foldr aCons aNil))))
    (sFor (iRange (mC (.int 2))) (gN 9) (sSeq (sSet 10 (mCall (m_track_card c_Simulation) ([mVar 3, mVar 4, mVar 7].foldr aCons aNil)))
    (sSeq (sIf (mOrB (mOp gNe (mVar 10) (mVar 8)) (mOp gNe (mVar 4) (mVar 6))) (sRet (mC (.bl false))) sNx)
    (sExpr (mMut "list" kElt fAppend (pName 10) (mF fTup (aCons (mC (.str "load")) (aCons (mC (.int 0)) aNil))))))))))))))))
    (sRet (mC (.bl true)))
abbrev m_law (c_Simulation : Addr) : List E → FO := fnM [false] 13 (d_law c_Simulation)
theorem ok_law {k : Nat} (X : Fx K mg A) : FnOk P w K mg base (L2.CX P w) (k + 7) A.f_law A.fd_law ["script"] (SpV K 1 (m_law A.c_Simulation)) :=
  fn_v X.F_law sc_law [false] (d_law A.c_Simulation) rfl (by decide) fun cdv B outer s H Ew hr => vb_cons (vs_for own_E rfl (vi_range (by rfl) X.z_range ve_int) (vg_name sc_law.nd rfl (.inl rfl)) (vb_cons (vs_set sc_law.nd rfl (.inl rfl) (ve_call (ok__law_generator (k := k + 4) X) hr (by rfl) X.m__law_generator X.F__law_generator.kp X.b__law_generator take_E (va_cons (ve_var rfl (.inl rfl)) (va_cons (ve_var rfl (.inl rfl)) va_nil))))
    (vb_cons (vs_set sc_law.nd rfl (.inr rfl) (ve_callM (mt := [true, false, false]) (ok__law_random_board (k := k + 2) X) hr (by rfl) X.m__law_random_board X.F__law_random_board.kp X.b__law_random_board take_E (vr_ref rfl (.inl rfl) (vr_ev (ve_add ve_int (ve_callM (mt := [true, false]) (ok__law_random (k := k + 4) X) hr (by rfl) X.m__law_random X.F__law_random.kp X.b__law_random take_E (vr_ref rfl (.inl rfl) (vr_ev ve_int vr_nil)))) (vr_ev ve_int vr_nil)))))
    (vb_cons (vs_set sc_law.nd rfl (.inr rfl) (ve_callM (mt := [true, false, false]) (ok__law_random_plan (k := k + 1) X) hr (by rfl) X.m__law_random_plan X.F__law_random_plan.kp X.b__law_random_plan take_E (vr_ref rfl (.inl rfl) (vr_ev (ve_len (by rfl) X.z_len (ve_ix (ve_var rfl (.inr (.inl rfl))) ve_int)) (vr_ev ve_int vr_nil)))))
    (vb_cons (vs_setLc (own := [("count", 11)]) .v rfl sc_law.nd rfl rfl (by rfl) (vi_range (by rfl) X.z_range (ve_add (ve_len (by rfl) X.z_len (ve_var rfl (.inr (.inl rfl)))) ve_int)) bk_law_214_17 (fun _ _ _ _ _ => vg_name sc_law.nd rfl (.inl rfl)) (fun _ _ _ _ _ => vts_nil) (fun _ _ _ _ _ => ve_call (ok__law_play (k := k + 4) X) hr (by rfl) X.m__law_play X.F__law_play.kp X.b__law_play takes0 (va_cons (ve_var rfl (.inr (.inl (by rfl)))) (va_cons (ve_sl (ve_var rfl (.inr (.inl (by rfl)))) vo_none (vo_some (ve_var rfl (.inl rfl)))) va_nil))))
    (vb_cons (vs_set sc_law.nd rfl (.inl rfl) (ve_list (by rfl) X.z_list (ve_var rfl (.inr (.inl rfl)))))
    (vb_one (vs_for own_E rfl (vi_seq (ve_call (ok__law_all_cards (k := k + 5) X) hr (by rfl) X.m__law_all_cards X.F__law_all_cards.kp X.b__law_all_cards take_E (va_cons (ve_var rfl (.inr (.inl rfl))) va_nil))) (vg_name sc_law.nd rfl (.inr rfl)) (vb_cons (vs_setLc (own := [("current", 12)]) .v rfl sc_law.nd rfl rfl (by rfl) (vi_seq (ve_var rfl (.inl rfl))) bk_law_217_23 (fun _ _ _ _ _ => vg_name sc_law.nd rfl (.inl rfl)) (fun _ _ _ _ _ => vts_nil) (fun _ _ _ _ _ => ve_call (ok__law_location (k := k + 5) X) hr (by rfl) X.m__law_location X.F__law_location.kp X.b__law_location takes0 (va_cons (ve_var rfl (.inl rfl)) (va_cons (ve_var rfl (.inr (.inl (by rfl)))) va_nil))))
    (vb_one (vs_for own_E rfl (vi_range (by rfl) X.z_range ve_int) (vg_name sc_law.nd rfl (.inl rfl)) (vb_cons (vs_set sc_law.nd rfl (.inl rfl) (ve_call (ok_track_card (k := k) X) hr (by rfl) X.m_track_card X.F_track_card.kp X.b_track_card take_E (va_cons (ve_var rfl (.inr (.inl rfl))) (va_cons (ve_var rfl (.inr (.inl rfl))) (va_cons (ve_var rfl (.inr (.inl rfl))) va_nil)))))
    (vb_cons (vs_if (VW.vt (vw_or (vt_ne hr (ve_var rfl (.inl rfl)) (ve_var rfl (.inl rfl))) (vw_or1 (vt_ne hr (ve_var rfl (.inr (.inl rfl))) (ve_var rfl (.inl rfl)))))) (vb_one (vs_ret ve_bl)) vb_nil)
    (vb_one (vs_expr (ve_append (vp_name rfl (.inl rfl)) (ve_tup (va_cons ve_str (va_cons ve_int va_nil)))))))))))))))))))
    (vb_one (vs_ret ve_bl))
end
end W_k11
end
section
open PySem PySem.Spec PyProof.Rows L2 LP
local macro_rules | `(tactic| walk_at "rfl") => `(tactic| rfl)
local macro_rules | `(tactic| walk_at "var") => `(tactic| first | ((with_reducible apply mVar_v); rfl) | ((with_reducible apply mVar_l); rfl) | ((with_reducible apply mVar_pl); rfl) | ((with_reducible apply mVar_b); rfl) | ((with_reducible apply mVar_ob); rfl) | ((with_reducible apply mVar_po); rfl) | ((with_reducible apply mVar_dk'); (rfl); rfl) | ((with_reducible apply mVar_dk); rfl))
local macro_rules | `(tactic| walk_at "res") => `(tactic| first | with_reducible exact resE_i | with_reducible exact resE_f | with_reducible exact resE_nl | with_reducible exact resE_nt | with_reducible exact resE_t | with_reducible exact resE_rl | exact resE_ri imm_tI | exact resE_ri imm_tN | exact resE_ri rfl)
local macro_rules | `(tactic| walk_at "rd") => `(tactic| first | with_reducible exact rd_o | with_reducible exact rd_b | with_reducible exact rd_p)
local macro_rules | `(tactic| walk_at "tru") => `(tactic| first | with_reducible exact tru_bl | with_reducible exact tru_in | with_reducible exact tru_ol | with_reducible exact tru_bl' | with_reducible exact tru_ot | with_reducible exact tru_non)
local macro_rules | `(tactic| walk_at "isa") => `(tactic| first | with_reducible exact is_int_int | with_reducible exact is_bool_int | with_reducible exact is_tup_tup | with_reducible exact is_list_lst | with_reducible exact is_int_bl | with_reducible exact is_bool_bl)
local macro_rules | `(tactic| walk_at "arith") => `(tactic| first | assumption | decide | omega)
local macro_rules | `(tactic| walk_at "mulok") => `(tactic| first | exact mulOk_r (by decide) | exact mulOk_l (by decide) | exact mulOk_r (by omega) | exact mulOk_l (by omega))
local macro_rules | `(tactic| walk_at "seq") => `(tactic| first | exact seqD_tup | exact seqD_lst | rfl)
local macro_rules | `(tactic| walk_at "imm") => `(tactic| first | exact fun _ => imm_tN | exact fun _ => imm_tI | (intro _; rfl) | assumption)
local macro_rules | `(tactic| walk_at "imms") => `(tactic| first | (apply imms_map; walk_at "imm") | assumption | rfl)
local macro_rules | `(tactic| walk_at "fx") => `(tactic| first
  | (with_reducible exact fAdd_ii)
  | (with_reducible exact fSub_ii)
  | ((with_reducible apply fMod_ii); (walk_at "arith"))
  | ((with_reducible apply fMul_ii); (walk_at "mulok"))
  | ((with_reducible apply fDiv_ii); (first | decide | exact divOk_of (by omega) (by omega)))
  | (with_reducible exact fNeg_i)
  | (with_reducible exact fMax2_ii)
  | (with_reducible exact fMin2_ii)
  | (with_reducible exact fInt_i)
  | (with_reducible exact fInt_b)
  | (with_reducible exact fBits_i)
  | ((with_reducible apply fPow_ii); (decide))
  | ((with_reducible apply fLen_o); (first | rfl | assumption))
  | (with_reducible exact fLen_bl)
  | ((with_reducible apply fLst_of); (rfl); (first | decide | simp))
  | (with_reducible exact fTup_2)
  | (with_reducible exact fTup_1)
  | (with_reducible exact fTup_3)
  | ((with_reducible apply fTup_of); (rfl); (first | decide | simp))
  | ((with_reducible apply fList_o); (first | rfl | assumption))
  | ((with_reducible apply fList_b); (walk_at "imms"))
  | (with_reducible exact fTuple_ol)
  | (with_reducible exact fTuple_ot)
  | ((with_reducible apply fTuple_b); (walk_at "imms"))
  | ((with_reducible apply fRg1_l); (rfl); (first | omega | (simp; omega) | simp))
  | ((with_reducible apply fRg1_t); (rfl); (first | omega | (simp; omega) | simp))
  | (with_reducible exact fRev_o)
  | ((with_reducible apply fRev_b); (walk_at "imm"))
  | ((with_reducible apply fSlB_last); (walk_at "imm"))
  | (with_reducible exact fSlL_last)
  | ((with_reducible apply fSlB_to); (walk_at "imm"); (rfl))
  | ((with_reducible apply fSlB_from); (walk_at "imm"); (rfl))
  | ((with_reducible apply fSl_to); (rfl); (rfl))
  | ((with_reducible apply fSl_from); (rfl); (rfl))
  | ((with_reducible apply fSlL_to); (rfl); (rfl))
  | ((with_reducible apply fSlL_from); (rfl); (rfl))
  | ((with_reducible apply fAdd_llm); (first | omega | (simp; omega) | simp))
  | ((with_reducible apply fAdd_blm); (walk_at "imm"); (first | omega | (simp; omega) | simp))
  | ((with_reducible apply fAdd_lbm); (walk_at "imm"); (first | omega | (simp; omega) | simp))
  | ((with_reducible apply fAdd_bbm); (walk_at "imm"); (first | omega | (simp; omega) | simp))
  | ((with_reducible apply fAdd_ttm); (first | omega | (simp; omega) | simp))
  | ((with_reducible apply fAdd_ll); (first | omega | (simp; omega) | simp))
  | ((with_reducible apply fAdd_bl); (walk_at "imms"); (first | omega | (simp; omega) | simp))
  | ((with_reducible apply fAdd_lb); (walk_at "imms"); (first | omega | (simp; omega) | simp))
  | ((with_reducible apply fAdd_bb); (walk_at "imms"); (walk_at "imms"); (first | omega | (simp; omega) | simp))
  | ((with_reducible apply fAdd_tt); (first | omega | (simp; omega) | simp))
  | ((with_reducible apply fMul_one2); (first | omega | (simp; omega)))
  | ((with_reducible apply fMul_one); (rfl); (first | omega | (simp; omega) | simp))
  | ((with_reducible apply fMul_b01); (first | (split <;> simp) | omega); (first | omega | (simp; omega)))
  | (with_reducible exact fAll_o) | (with_reducible exact fAny_o)
  | ((with_reducible apply fFld_b); (walk_at "fld"); rfl) | ((with_reducible apply fFld_o); (walk_at "fld"); rfl)
  | ((with_reducible apply fSorted_R); assumption)
  | (with_reducible exact fSorted_b)
  | ((with_reducible apply fSorted_o); (rfl))
  | ((with_reducible apply fIx_o); (rfl); ((with_reducible apply atI_map); (assumption); rfl))
  | ((with_reducible apply fIx_b); (rfl); ((with_reducible apply atI_map); (assumption); rfl))
  | ((with_reducible apply fIx_o); (rfl); (assumption))
  | ((with_reducible apply fIx_o); (rfl); (exact atI_two))
  | ((with_reducible apply fIx_o); (rfl); (rfl))
  | ((with_reducible apply fIx_b); (rfl); (rfl)))
local macro_rules | `(tactic| walk_at "gx") => `(tactic| first
  | (with_reducible exact gGt_ii)
  | (with_reducible exact gLt_ii)
  | (with_reducible exact gLe_ii)
  | (with_reducible exact gGe_ii)
  | (with_reducible exact gEq_ii)
  | (with_reducible exact gNe_ii)
  | (with_reducible exact in_tI)
  | (with_reducible exact in_lI) | (with_reducible exact gIsN_non) | (with_reducible exact gDin_i))
local macro_rules | `(tactic| walk_at "call") => `(tactic| first | (with_reducible assumption) | assumption)
local macro_rules | `(tactic| walk_at "nob") => `(tactic| first | rfl | (apply noB_c; (first | assumption | rfl); walk_at "nob"))
local macro_rules | `(tactic| walk_at "args") => `(tactic| first
  | with_reducible exact aNil_at
  | ((with_reducible apply a2_is); walk_at "args")
  | ((with_reducible apply a1_is); walk_at "args")
  | ((with_reducible apply a3_is); walk_at "args")
  | ((with_reducible apply fold_c); walk_at "args")
  | with_reducible exact fold_n
  | ((with_reducible apply aCons_c); (walk_at "ev"); first
     | ((with_reducible apply aRest_n); (walk_at "args"); first | (with_reducible exact kq_n) | (with_reducible exact kq_o))
     | ((with_reducible apply aRest_s); (walk_at "args"); (first | (with_reducible exact kq_n) | (with_reducible exact kq_o)); first | (with_reducible exact por_sn) | (with_reducible exact por_ss))))
local macro_rules | `(tactic| walk_at "it") => `(tactic| first
  | ((with_reducible apply iSeq_of); (walk_at "ev"); (rfl))
  | ((with_reducible apply iSeq_bi); (walk_at "ev"); (walk_at "imm"))
  | ((with_reducible apply iSeq_bm); (walk_at "ev"); (intro _; rfl))
  | ((with_reducible apply iRange_at); (walk_at "ev"); (rfl); (first | omega | (simp; omega) | simp))
  | ((with_reducible apply iEn_m); (walk_at "ev"); (rfl))
  | ((with_reducible apply iEn_bm); (walk_at "ev"); (walk_at "imm"))
  | ((with_reducible apply iEn_ll); (walk_at "ev"); (intro _; rfl))
  | ((with_reducible apply iZ_m); (walk_at "args"); (rfl); (rfl); (first | (exact fun h => absurd h Bool.false_ne_true) | (intro _; first | assumption | omega | (simp; omega) | simp))))
local macro_rules | `(tactic| walk_at "ev") => `(tactic| first
  | ((with_reducible apply lc_map); (walk_at "it"); (rfl); (first | omega | (simp; omega) | simp); (intro x hx; apply turn_p; (rfl); (first | rfl | walk_at "ev"); (walk_at "ev"); (rfl)))
  | (with_reducible exact mC_at)
  | ((with_reducible apply mMv_at); rfl)
  | ((with_reducible apply mF_R); (walk_at "args"); (walk_at "fx"); walk_at "res")
  | ((with_reducible apply mOp_at); (walk_at "args"); (walk_at "rd"); (walk_at "rd"); walk_at "gx")
  | ((with_reducible apply mCall_at); (walk_at "args"); (rfl); walk_at "call")
  | (first
      | ((with_reducible apply callM_p2); (rfl); (walk_at "ev"); (walk_at "gd"); (rfl); (walk_at "call"); walk_at "nob")
      | ((with_reducible apply callM_o2); (rfl); (walk_at "ev"); (walk_at "gd"); (rfl); (walk_at "call"); walk_at "nob")
      | ((with_reducible apply callM_p3); (rfl); (walk_at "ev"); (walk_at "gd"); (walk_at "ev"); (rfl); (walk_at "call"); walk_at "nob")
      | ((with_reducible apply callM_o3); (rfl); (walk_at "ev"); (walk_at "gd"); (walk_at "ev"); (rfl); (walk_at "call"); walk_at "nob")
      | ((with_reducible apply callM_p1); (rfl); (walk_at "call"); walk_at "nob")
      | ((with_reducible apply callM_o1); (rfl); (walk_at "call"); walk_at "nob"))
  | ((with_reducible apply mMeth_at); (walk_at "ev"); (rfl); (walk_at "ob"); (walk_at "ev"))
  | ((with_reducible apply mMethR_at); (rfl); (rfl); (refine ⟨?_, rfl⟩; walk_at "ob"); (walk_at "ev"))
  | ((with_reducible apply mMake_at); (walk_at "args"); (walk_at "gd"); (rfl); (walk_at "call"); rfl)
  | ((with_reducible apply mTru_e); (walk_at "ev"); walk_at "tru")
  | ((with_reducible apply mNot_e); (walk_at "ev"); walk_at "tru")
  | ((with_reducible apply mNotB_b); walk_at "ev")
  | ((with_reducible apply mAndB_b); (walk_at "ev"); (intro _; walk_at "ev"))
  | ((with_reducible apply mOrB_b); (walk_at "ev"); (intro _; walk_at "ev"))
  | ((with_reducible apply mAnd_bb); (walk_at "ev"); (intro _; walk_at "ev"))
  | ((with_reducible apply mOr_bb); (walk_at "ev"); (intro _; walk_at "ev"))
  | ((with_reducible apply mIs_v); (walk_at "ev"); (walk_at "rd"); walk_at "isa")
  | ((with_reducible apply mInt_at); walk_at "ev")
  | with_reducible assumption
  | walk_at "var")
local macro_rules | `(tactic| walk_at "gd") => `(tactic| first | with_reducible exact getD_n | with_reducible exact getD_s)
local macro_rules | `(tactic| walk_at "nx") => `(tactic| first
  | with_reducible exact nx_nx
  | ((with_reducible apply nx_seq); (walk_at "nx"); walk_at "nx")
  | ((with_reducible apply nx_setR); (walk_at "ev"); (walk_at "gd"); (first | decide | simp); rfl)
  | ((with_reducible apply nx_exprR); (walk_at "ev"); walk_at "gd")
  | ((with_reducible apply nx_asgR); (walk_at "ev"); (walk_at "gd"); rfl)
  | ((with_reducible apply nx_fz); walk_at "nx"))
local macro_rules | `(tactic| walk_at "rt") => `(tactic| ((with_reducible apply rt_retR); (walk_at "ev"); walk_at "gd"))
local macro_rules | `(tactic| walk_at "len") => `(tactic| first | decide | simp)
local macro_rules | `(tactic| walk_at "go") => `(tactic| ((try dsimp only); walk_at "go1"))
local macro_rules | `(tactic| walk_at "go1") => `(tactic| first
  | ((with_reducible apply sq_seq); try walk_at "go")
  | ((with_reducible apply sq_skip); try walk_at "go")
  | ((with_reducible apply sq_set); (walk_at "ev"); (walk_at "gd"); (walk_at "len"); (rfl); try walk_at "go")
  | ((with_reducible apply sq_ret); (walk_at "ev"); (walk_at "gd"))
  | ((with_reducible apply sq_expr); (walk_at "ev"); (walk_at "gd"); try walk_at "go")
  | ((with_reducible apply sq_asg); (walk_at "ev"); (walk_at "gd"); (rfl); try walk_at "go")
  | ((with_reducible apply sq_fz); try walk_at "go")
  | ((with_reducible apply sq_fg); try walk_at "go")
  | ((with_reducible apply sq_if); (walk_at "ev"))
  | ((with_reducible apply sq_turn); (rfl); try walk_at "go")
  | ((with_reducible apply sq_nx); (walk_at "nx"); try walk_at "go"))
local macro_rules | `(tactic| walk_at "itm") => `(tactic| (apply nx_itm; (walk_at "ev"); (walk_at "gd"); (rfl); (rfl); (walk_at "ev"); (rfl); (rfl); rfl))
local macro_rules | `(tactic| walk_at "sk") => `(tactic| ((with_reducible apply sq_skip); (try dsimp only); try (with_reducible apply sq_seq)))
namespace W_k11
theorem h_cell (ns : List Int) (i : Nat) : m__law_cell [eV (.scr (ns.map D.int)), eI i] = .rt (eI (ns.getD i 0)) [.x, .x] := by
  by_cases h : i < ns.length
  · have hx : ns[i]? = some (ns.getD i 0) := by simp [List.getElem?_eq_getElem h, List.getD]
    refine' fn_rt (ρ0 := [eV (.scr (ns.map D.int)), eI i]) (ρ' := [eV (.scr (ns.map D.int)), eI i]) ?h rfl rfl ⟨rfl, rfl⟩ rfl
    unfold d__law_cell
    apply rt_seq1
    apply rt_if_t
    · walk_at "ev"
    · simp [h]
    · walk_at "rt"
  · have hx : ns.getD i 0 = 0 := by simp [List.getD, List.getElem?_eq_none (Nat.le_of_not_lt h)]
    rw [hx]
    refine' fn_rt (ρ0 := [eV (.scr (ns.map D.int)), eI i]) (ρ' := [eV (.scr (ns.map D.int)), eI i]) ?h rfl rfl ⟨rfl, rfl⟩ rfl
    unfold d__law_cell
    apply rt_seq
    · apply nx_if_f
      · walk_at "ev"
      · simp [h]
      · walk_at "nx"
    · walk_at "rt"
theorem h_hash (a b : Int) (hb : 0 ≤ b) (hb2 : b < 2 ^ 60) : ∃ r, m__law_hash [eI a, eI b] = .rt (eI r) [.x, .x] ∧ 0 ≤ r ∧ r < 2147483587 := by
  refine' ⟨_, fn_rt (ρ0 := [eI a, eI b, .x]) ?h rfl rfl ?hl ?hk, ?g1, ?g2⟩
  case h =>
    unfold d__law_hash
    apply rt_seq
    walk_at "nx"
    apply rt_seq
    walk_at "nx"
    walk_at "rt"
  case hl => exact ⟨rfl, rfl⟩
  case hk => rfl
  case g1 => omega
  case g2 => omega
theorem h_generator (ns : List Int) (i : Nat) (hi : i ≤ 10) : ∃ g, m__law_generator [eV (.scr (ns.map D.int)), eI i] = .rt (gE g) [.x, .x] ∧ GOk 10000 g := by
  have hc := h_cell ns i
  have hp : (0:Int) < (10 ^ 60) ^ 10 := by decide
  refine' ⟨⟨(max (ns.getD i 0 - 10 ^ 18) 0) % (10 ^ 60) ^ 10, ns.getD i 0 % 2147483647, 1000 * i⟩, fn_rt (ρ0 := [eV (.scr (ns.map D.int)), eI i, .x]) (ρ' := [eV (.scr (ns.map D.int)), eI i, eI (ns.getD i 0)]) ?h rfl rfl ⟨rfl, rfl⟩ rfl, ?g1⟩
  case h =>
    unfold d__law_generator
    apply rt_seq
    walk_at "nx"
    apply rt_retR
    · apply mF_R
      · walk_at "args"
      · walk_at "fx"
      · exact resE_nl
    · rfl
  case g1 => exact ⟨Int.emod_nonneg _ (by omega), Int.emod_nonneg _ (by decide), Int.emod_lt_of_pos _ (by decide), by show (0:Int) ≤ 1000 * i; omega, by show (1000 * i : Int) ≤ (10000 : Nat); omega⟩
theorem bits_small {b : Int} (hb : 0 < b) (hb2 : b < 2 ^ 29) : (Builtin.Int.intBits b : Nat) < 30 := by
  have := PySem.intBits_le_iff (m := 29) (x := b)
  have h2 : b.natAbs < 2 ^ 29 := by omega
  have := this.mpr h2
  omega
theorem h_random {g : Gn} {b : Int} {n : Nat} (hg : GOk n g) (hn : n < 2 ^ 50) (hb : 0 < b) (hb2 : b < 2 ^ 29) :
    ∃ r g', m__law_random [gE g, eI b] = .rt (eI r) [gE g', .x] ∧ 0 ≤ r ∧ r < b ∧ GOk (n + 1) g' := by
  obtain ⟨h1, h2, h3, h4, h5⟩ := hg
  have hq : FQ (m__law_random [gE g, eI b]) fun e es => ∃ r g', e = eI r ∧ es = [gE g', .x] ∧ 0 ≤ r ∧ r < b ∧ GOk (n + 1) g' := by
    apply fnq [gP g, eI b, .x, .x]
    unfold d__law_random
    walk_at "go"
    · intro ha
      have ha : 0 < g.a := by simpa using ha
      walk_at "go"
      apply sq_nx (ρ1 := [gP ⟨g.a / b, g.b, g.c⟩, eI b, eI (g.a % b), .x])
      · walk_at "itm"
      walk_at "go"
      exact ⟨_, rfl, rfl, rfl, _, _, rfl, rfl, Int.emod_nonneg _ (by omega), Int.emod_lt_of_pos _ hb, ⟨Int.ediv_nonneg h1 (by omega), h2, h3, h4, by show g.c ≤ (n + 1 : Nat); omega⟩⟩
    · intro ha
      have ha : ¬ 0 < g.a := by simpa using ha
      have hbits := bits_small hb hb2
      obtain ⟨r, hr, hr0, hr1⟩ := h_hash g.b (g.c + 1) (by omega) (by omega)
      walk_at "go"
      apply sq_for (fun i ρ => ρ = if i = 0 then [gP g, eI b, eI 0, .x] else [gP ⟨g.a, g.b, g.c + 1⟩, eI b, eI (0 * 2147483587 + r), eI 0])
      · apply iRange_at (n := 1)
        · walk_at "ev"
        · omega
        · decide
      · rfl
      · intro e he; simp at he; subst he; rfl
      · rfl
      · intro i e ρ hi hρ
        obtain ⟨rfl, rfl⟩ : i = 0 ∧ e = eI 0 := by
          cases i with
          | zero => simpa using hi.symm
          | succ i => simp at hi
        subst hρ
        walk_at "go"
        apply sq_nx (ρ1 := [gP ⟨g.a, g.b, g.c + 1⟩, eI b, eI 0, eI 0])
        · walk_at "itm"
        walk_at "go"
        rfl
      · intro ρ hρ
        subst hρ
        walk_at "go"
        exact ⟨_, rfl, rfl, rfl, _, _, rfl, rfl, Int.emod_nonneg _ (by omega), Int.emod_lt_of_pos _ hb, ⟨h1, h2, h3, by show 0 ≤ g.c + 1; omega, by show g.c + 1 ≤ (n + 1 : Nat); omega⟩⟩
  obtain ⟨e, es, h, r, g', rfl, rfl, h6, h7, h8⟩ := hq
  exact ⟨r, g', h, h6, h7, h8⟩
end W_k11
namespace W_k11
theorem getElem_cons_eraseIdx_perm {α : Type} : ∀ {l : List α} {j : Nat} (h : j < l.length), (([l[j]] ++ l.eraseIdx j) : List α).Perm l
  | a :: l, 0, _ => .refl _
  | a :: l, j + 1, h => by
    have h2 : j < l.length := by simpa using h
    have := getElem_cons_eraseIdx_perm h2
    show (l[j] :: a :: l.eraseIdx j).Perm (a :: l)
    exact (List.Perm.swap _ _ _).trans (this.cons a)
theorem erase_map {α β : Type} {f : α → β} : ∀ (l : List α) (j : Nat), (l.map f).eraseIdx j = (l.eraseIdx j).map f
  | [], _ => rfl
  | a :: l, 0 => rfl
  | a :: l, j + 1 => by
    show f a :: (l.map f).eraseIdx j = _
    rw [erase_map l j]
    rfl
theorem h_shuffled {α : Type} {c : α → D} {g : Gn} {n : Nat} {xs : List α} {d : D} (hg : GOk n g) (hn : n + xs.length < 2 ^ 50) (hx : xs.length < 10000) (hd : seqD d = some (xs.map c)) (hc : ∀ x, imm (c x) = true) :
    ∃ (ys : List α) (g' : Gn), m__law_shuffled [gE g, eV d] = .rt (.o (.l .v) (.lst (ys.map c))) [gE g', .x] ∧ ys.Perm xs ∧ GOk (n + xs.length) g' := by
  have hq : FQ (m__law_shuffled [gE g, eV d]) fun e es => ∃ (ys : List α) (g' : Gn), e = .o (.l .v) (.lst (ys.map c)) ∧ es = [gE g', .x] ∧ ys.Perm xs ∧ GOk (n + xs.length) g' := by
    apply fnq [gP g, eV d, .x, .x]
    unfold d__law_shuffled
    walk_at "go"
    apply sq_at (ρ1 := [gP g, eV d, .o (.l .v) (.lst (xs.map c)), .x]) rfl
    apply sq_retE
    apply eq_lc (c := c) (items := xs.map fun x => .o .v (c x)) (fun ys ρ => ∃ (pool : List α) (g' : Gn), ρ = [gP g', eV d, .o (.l .v) (.lst (pool.map c)), .x] ∧ (ys ++ pool).Perm xs ∧ GOk (n + ys.length) g')
    · apply iSeq_of
      · walk_at "var"
      · exact hd
    · rfl
    · exact isOe_map
    · rfl
    · simp; omega
    · exact ⟨xs, g, rfl, .refl _, hg⟩
    · rintro i e ys ρ hi hl ⟨pool, g1, rfl, hp, hg1⟩
      have hil : i < xs.length := by
        have := (List.getElem?_eq_some_iff.mp hi).1
        simpa using this
      have hpl := hp.length_eq
      rw [List.length_append] at hpl
      obtain ⟨r, g2, hr, h0, h1, hg2⟩ := h_random (b := (pool.length : Nat)) hg1 (by omega) (by omega) (by omega)
      obtain ⟨j, rfl⟩ : ∃ j : Nat, r = j := ⟨r.toNat, by omega⟩
      have hj : j < pool.length := by omega
      refine ⟨pool[j], some [gP g2, eV d, .o (.l .v) (.lst ((pool.eraseIdx j).map c)), .x], ?_, pool.eraseIdx j, g2, rfl, ?_, ?_⟩
      · obtain ⟨y, rfl⟩ : ∃ y, e = .o .v (c y) := by
          rw [List.getElem?_map] at hi
          cases hh : xs[i]? with
          | none => rw [hh] at hi; cases hi
          | some y => rw [hh] at hi; exact ⟨y, (Option.some.inj hi).symm⟩
        apply turn_eR (ρ2 := [gP g1, eV d, .o (.l .v) (.lst (pool.map c)), .o .v (c y)])
        · rfl
        · rfl
        · apply mMut_popAt (j := j) (ys := pool.map c)
          · rfl
          · rfl
          · have hr' : m__law_random [gE g1, eI ((pool.map c).length : Nat)] = .rt (eI j) [gE g2, .x] := by rw [List.length_map]; exact hr
            walk_at "ev"
          · rfl
          · rfl
          · rfl
          · exact ixN_of (by simpa using hj)
          · rw [List.getElem?_map, List.getElem?_eq_getElem hj]; rfl
          · omega
          · rfl
        · rfl
        · rw [erase_map]; rfl
      · refine List.Perm.trans ?_ hp
        rw [List.append_assoc]
        exact List.Perm.append_left _ (getElem_cons_eraseIdx_perm hj)
      · rw [List.length_append, show n + (ys.length + [pool[j]].length) = n + ys.length + 1 by simp; omega]; exact hg2
    · rintro ys q hl ⟨pool, g', h1, h2, h3⟩
      rw [h1]
      have hpl := h2.length_eq
      rw [List.length_map] at hl
      rw [List.length_append] at hpl
      have : pool = [] := List.eq_nil_of_length_eq_zero (by omega)
      subst this
      refine ⟨_, leaf_l hc, rfl, rfl, ys, g', rfl, rfl, by simpa using h2, by rw [← hl]; exact h3⟩
  obtain ⟨e, es, h, ys, g', rfl, rfl, h1, h2⟩ := hq
  exact ⟨ys, g', h, h1, h2⟩
end W_k11
namespace W_k11
/-- a row of places: each once -/
def IsR (n : Nat) (p : List Nat) : Prop := p.Perm (List.range n)
theorem h_round {g : Gn} {n m : Nat} (hg : GOk n g) (hn : n < 2 ^ 45) (hm : m < 1000) :
    ∃ (p : List Nat) (g' : Gn), m__law_random_round [gE g, eI m] = .rt (eV (tN p)) [gE g', .x] ∧ IsR m p ∧ GOk (n + 1 + m) g' := by
  have hq : FQ (m__law_random_round [gE g, eI m]) fun e es => ∃ (p : List Nat) (g' : Gn), e = eV (tN p) ∧ es = [gE g', .x] ∧ IsR m p ∧ GOk (n + 1 + m) g' := by
    obtain ⟨k, g1, hk, hk0, hk1, hg1⟩ := h_random (b := 8) hg (by omega) (by decide) (by decide)
    have hg1' := hg1.mono (Nat.le_add_right (n + 1) m)
    obtain ⟨ys, g2, h2, h3, h4⟩ := h_shuffled (c := iN) (xs := List.range m) (d := .lst ((List.range m).map iN)) hg1 (by simp; omega) (by simp; omega) rfl (fun _ => rfl)
    apply fnq [gP g, eI m, .x, .x]
    unfold d__law_random_round
    walk_at "go"
    · intro hb
      walk_at "go"
      exact ⟨_, imm_tN (l := List.range m), rfl, rfl, _, g1, rfl, rfl, .refl _, hg1'⟩
    · intro _
      walk_at "go"
      · intro hb
        walk_at "go"
        refine ⟨_, imm_tN, rfl, rfl, _, g1, rfl, rfl, ?_, hg1'⟩
        have := List.perm_append_comm (l₁ := (List.range m).drop 1) (l₂ := (List.range m).take 1)
        rw [List.take_append_drop] at this
        exact this
      · intro _
        walk_at "go"
        · intro hb
          walk_at "go"
          exact ⟨_, imm_tN, rfl, rfl, _, g1, rfl, rfl, List.reverse_perm _, hg1'⟩
        · intro _
          walk_at "go"
          exact ⟨_, imm_tN, rfl, rfl, ys, g2, rfl, rfl, h3, by simpa using h4⟩
  obtain ⟨e, es, h, p, g', rfl, rfl, h1, h2⟩ := hq
  exact ⟨p, g', h, h1, h2⟩
end W_k11
namespace W_k11
theorem h_plan {g : Gn} {n m k : Nat} (hg : GOk n g) (hn : n < 2 ^ 40) (hm : m < 1000) (hk : k ≤ 100) :
    ∃ (pl : List (List Nat)) (g' : Gn), m__law_random_plan [gE g, eI m, eI k] = .rt (.o (.l .v) (.lst (pl.map tN))) [gE g', .x, .x] ∧ pl.length ≤ k ∧ (∀ p ∈ pl, IsR m p) ∧ GOk (n + 1 + 100 * (m + 2)) g' := by
  have hq : FQ (m__law_random_plan [gE g, eI m, eI k]) fun e es => ∃ (pl : List (List Nat)) (g' : Gn), e = .o (.l .v) (.lst (pl.map tN)) ∧ es = [gE g', .x, .x] ∧ pl.length ≤ k ∧ (∀ p ∈ pl, IsR m p) ∧ GOk (n + 1 + 100 * (m + 2)) g' := by
    obtain ⟨r, g1, hr, hr0, hr1, hg1⟩ := h_random (b := (k : Int) + 1) hg (by omega) (by omega) (by omega)
    obtain ⟨t, rfl⟩ : ∃ t : Nat, r = t := ⟨r.toNat, by omega⟩
    apply fnq [gP g, eI m, eI k, .x, .x, .x]
    unfold d__law_random_plan
    walk_at "go"
    apply sq_for (fun i ρ => ∃ (pl : List (List Nat)) (g' : Gn) (a b : E), ρ = [gP g', eI m, eI k, .o (.l .v) (.lst (pl.map tN)), a, b] ∧ isOe' a ∧ isOe' b ∧ pl.length ≤ i ∧ (∀ p ∈ pl, IsR m p) ∧ GOk (n + 1 + i * (m + 2)) g')
    · apply iRange_at (n := t)
      · walk_at "ev"
      · rfl
      · omega
    · rfl
    · exact isOe_map
    · exact ⟨[], g1, .x, .x, rfl, rfl, rfl, Nat.le_refl _, by simp, by simpa using hg1⟩
    · rintro i e ρ hi ⟨pl, g2, a, b, rfl, ha, hb, hl, hp, hg2⟩
      obtain ⟨hit, rfl⟩ : i < t ∧ e = eI i := by
        rw [List.getElem?_map] at hi
        cases hh : (List.range t)[i]? with
        | none => rw [hh] at hi; cases hi
        | some y =>
          rw [hh] at hi
          have h1 := (List.getElem?_eq_some_iff.mp hh).1
          have h2 := (List.getElem?_eq_some_iff.mp hh).2
          simp at h1 h2
          subst h2
          exact ⟨h1, (Option.some.inj hi).symm⟩
      have him : i * (m + 2) < 2 ^ 20 := by
        have : i * (m + 2) ≤ 100 * (m + 2) := Nat.mul_le_mul_right _ (by omega)
        omega
      obtain ⟨r6, g3, hr6, h60, h61, hg3⟩ := h_random (b := 6) hg2 (by omega) (by decide) (by decide)
      obtain ⟨p, g4, hp4, hp5, hg4⟩ := h_round (m := m) hg3 (by omega) hm
      walk_at "go"
      apply sq_at (ρ1 := [gP g3, eI m, eI k, .o .v (.lst (pl.map tN)), eI i, .o .v (.lst ((if (if decide (r6 = 0) = true then (1:Int) else 0) = 1 then pl.drop (pl.length - 1) else []).map tN))]) rfl
      generalize hq : (if (if decide (r6 = 0) = true then (1:Int) else 0) = 1 then pl.drop (pl.length - 1) else []) = q
      have hq2 : q.length ≤ 1 ∧ ∀ p ∈ q, IsR m p := by
        subst hq
        split
        · exact ⟨by simp; omega, fun p hpm => hp p (List.mem_of_mem_drop hpm)⟩
        · simp
      by_cases hqe : q = []
      · subst hqe
        apply sq_set
        · apply mF_R
          · (with_reducible apply a2_is)
            apply aCons_c
            · walk_at "var"
            · apply aRest_n
              · apply aCons_c
                · apply (mOr_f (by walk_at "var") rfl).trans
                  walk_at "ev"
                · apply aRest_s
                  · exact aNil_at
                  · exact kq_o
                  · exact por_sn
              · exact kq_o
          · apply fAdd_llm (c := tN) (l2 := [p])
            simp; omega
          · exact resE_nl
        · walk_at "gd"
        · walk_at "len"
        · rfl
        refine ⟨pl ++ [p], g4, _, _, rfl, rfl, rfl, by simp; omega, ?_, hg4.mono ?_⟩
        · intro p' hp'
          rcases List.mem_append.mp hp' with h | h
          · exact hp p' h
          · simp at h; subst h; exact hp5
        · rw [Nat.add_mul]; omega
      · have hne : (!q.isEmpty) = true := by cases q <;> simp at hqe ⊢
        apply sq_set
        · apply mF_R
          · (with_reducible apply a2_is)
            apply aCons_c
            · walk_at "var"
            · apply aRest_n
              · apply aCons_c
                · exact mOr_t (by walk_at "var") (by rw [tru_ol]; simpa using hqe)
                · apply aRest_n
                  · exact aNil_at
                  · exact kq_n
              · exact kq_n
          · apply fAdd_llm (c := tN) (l2 := q)
            omega
          · exact resE_nl
        · walk_at "gd"
        · walk_at "len"
        · rfl
        refine ⟨pl ++ q, g3, _, _, rfl, rfl, rfl, by simp; omega, ?_, hg3.mono ?_⟩
        · intro p' hp'
          rcases List.mem_append.mp hp' with h | h
          · exact hp p' h
          · exact hq2.2 p' h
        · rw [Nat.add_mul]; omega
    · rintro ρ ⟨pl, g2, a, b, rfl, ha, hb, hl, hp, hg2⟩
      rw [List.length_map, List.length_range] at hl hg2
      walk_at "go"
      refine ⟨_, leaf_l fun _ => imm_tN, rfl, rfl, pl, g2, rfl, rfl, by omega, hp, hg2.mono ?_⟩
      have : t * (m + 2) ≤ 100 * (m + 2) := Nat.mul_le_mul_right _ (by omega)
      omega
  obtain ⟨e, es, h, p, g', rfl, rfl, h1, h2, h3⟩ := hq
  exact ⟨p, g', h, h1, h2, h3⟩
end W_k11
namespace W_k11
/-- pull the item of a range -/
theorem rg_item {t i : Nat} {e : E} (hi : ((List.range t).map fun (i : Nat) => E.o .v (.int (i : Int)))[i]? = some e) : i < t ∧ e = eI i := by
  rw [List.getElem?_map] at hi
  cases hh : (List.range t)[i]? with
  | none => rw [hh] at hi; cases hi
  | some y =>
    rw [hh] at hi
    have h1 := (List.getElem?_eq_some_iff.mp hh).1
    have h2 := (List.getElem?_eq_some_iff.mp hh).2
    simp at h1 h2
    subst h2
    exact ⟨h1, (Option.some.inj hi).symm⟩
/-- the places of the cards -/
def hold (lots bases : List Nat) (i : Nat) : List Nat := ((List.range i).map fun p => List.replicate (lots.getD p 0 + bases.getD p 0) p).flatten
theorem hold_succ {lots bases : List Nat} {i l c : Nat} (hl : lots[i]? = some l) (hc : bases[i]? = some c) : hold lots bases (i + 1) = hold lots bases i ++ List.replicate (l + c) i := by
  simp [hold, List.range_succ, List.getD, hl, hc]
theorem hold_len {lots bases : List Nat} (h1 : ∀ (i l : Nat), lots[i]? = some l → l ≤ 3) (h2 : ∀ (i l : Nat), bases[i]? = some l → l ≤ 24) : ∀ i : Nat, (hold lots bases i).length ≤ i * 27
  | 0 => by simp [hold]
  | i + 1 => by
    have ih := hold_len h1 h2 i
    have e : hold lots bases (i + 1) = hold lots bases i ++ List.replicate (lots.getD i 0 + bases.getD i 0) i := by simp [hold, List.range_succ]
    have a1 : lots.getD i 0 ≤ 3 := by
      cases hh : lots[i]? with
      | none => simp [List.getD, hh]
      | some l => simpa [List.getD, hh] using h1 i l hh
    have a2 : bases.getD i 0 ≤ 24 := by
      cases hh : bases[i]? with
      | none => simp [List.getD, hh]
      | some l => simpa [List.getD, hh] using h2 i l hh
    rw [e, List.length_append, List.length_replicate]
    omega
theorem count_hold {lots bases : List Nat} (p : Nat) : ∀ i : Nat, (hold lots bases i).count p = if p < i then lots.getD p 0 + bases.getD p 0 else 0
  | 0 => by simp [hold]
  | i + 1 => by
    have e : hold lots bases (i + 1) = hold lots bases i ++ List.replicate (lots.getD i 0 + bases.getD i 0) i := by simp [hold, List.range_succ]
    rw [e, List.count_append, count_hold p i, List.count_replicate]
    by_cases h : p = i
    · subst h; simp
    · have : (i == p) = false := by simpa using fun q : i = p => h q.symm
      rw [this]
      by_cases h2 : p < i
      · simp [h2, Nat.lt_succ_of_lt h2]
      · have : ¬ p < i + 1 := by omega
        simp [h2, this]
/-- the hands while they grow -/
structure Hs (hs : List (List Int)) (num : Int) (m : Nat) (done : List Nat) : Prop where
  len : hs.length = m
  num0 : -1 ≤ num
  asc : ∀ h ∈ hs, h.Pairwise (· < ·)
  nn : ∀ h ∈ hs, ∀ c ∈ h, 0 ≤ c ∧ c ≤ num
  nd : hs.flatten.Nodup
  cnt : ∀ (p : Nat) (h : List Int), hs[p]? = some h → h.length = done.count p
  tot : hs.flatten.length = done.length
theorem Hs.start {m : Nat} {ys : List Nat} : Hs (List.replicate m []) (-1) m (ys.take 0) := by
  refine ⟨by simp, by decide, ?_, ?_, by simp, ?_, by simp⟩
  · intro h hh; rw [(List.mem_replicate.mp hh).2]; exact .nil
  · intro h hh; rw [(List.mem_replicate.mp hh).2]; simp
  · intro p h hh
    rw [(List.mem_replicate.mp (List.mem_of_getElem? hh)).2]; simp
theorem Hs.step {hs : List (List Int)} {num r : Int} {m : Nat} {done : List Nat} {y : Nat} {h : List Int} (H : Hs hs num m done) (hr : 0 ≤ r) (hh : hs[y]? = some h) : Hs (hs.set y (h ++ [num + 1 + r])) (num + 1 + r) m (done ++ [y]) := by
  obtain ⟨h1, h2, h3, h4, h5, h6, h7⟩ := H
  have hm := List.mem_of_getElem? hh
  have hy : y < hs.length := (List.getElem?_eq_some_iff.mp hh).1
  have hp := set_app_perm (v := num + 1 + r) hh
  refine ⟨by simpa using h1, by omega, ?_, ?_, ?_, ?_, ?_⟩
  · intro x hx
    rcases List.mem_or_eq_of_mem_set hx with h' | rfl
    · exact h3 x h'
    · rw [List.pairwise_append]
      refine ⟨h3 h hm, List.pairwise_singleton .., fun a ha b hb => ?_⟩
      have := h4 h hm a ha
      simp at hb
      omega
  · intro x hx c hc
    rcases List.mem_or_eq_of_mem_set hx with h' | rfl
    · have := h4 x h' c hc; omega
    · rcases List.mem_append.mp hc with h' | h'
      · have := h4 h hm c h'; omega
      · simp at h'; omega
  · refine (hp.nodup_iff).mpr (List.nodup_cons.mpr ⟨fun hmem => ?_, h5⟩)
    have := mem_flat (P := fun c => c ≤ num) (fun x hx c hc => (h4 x hx c hc).2) hmem
    omega
  · intro p x hx
    rw [List.count_append]
    by_cases hpy : y = p
    · subst hpy
      rw [List.getElem?_set_self hy] at hx
      cases hx
      simp [h6 y h hh]
    · rw [List.getElem?_set_ne hpy] at hx
      rw [h6 p x hx]
      simp [hpy]
  · rw [hp.length_eq]; simp [h7]
theorem Hs.small {hs : List (List Int)} {num : Int} {m : Nat} {done : List Nat} (H : Hs hs num m done) : ∀ h ∈ hs, h.length ≤ done.length := by
  intro h hh
  obtain ⟨p, hp⟩ := List.getElem?_of_mem hh
  rw [H.cnt p h hp]
  exact List.count_le_length ..
theorem h_board {g : Gn} {n m b : Nat} (hg : GOk n g) (hn : n < 2 ^ 40) (hm : m ≤ 12) (hm0 : 0 < m) (hb : b ≤ 24) :
    ∃ (lots : List Nat) (hs : List (List Int)) (g' : Gn), m__law_random_board [gE g, eI m, eI b] = .rt (eV (bD lots hs)) [gE g', .x, .x] ∧ BOk lots hs ∧ hs.length = m ∧ hs.flatten.length ≤ m * 27 ∧ GOk (n + 5000) g' := by
  have hq : FQ (m__law_random_board [gE g, eI m, eI b]) fun e es => ∃ (lots : List Nat) (hs : List (List Int)) (g' : Gn), e = eV (bD lots hs) ∧ es = [gE g', .x, .x] ∧ BOk lots hs ∧ hs.length = m ∧ hs.flatten.length ≤ m * 27 ∧ GOk (n + 5000) g' := by
    obtain ⟨r, g1, hr, hr0, hr1, hg1⟩ := h_random (b := 4) hg (by omega) (by decide) (by decide)
    apply fnq [gP g, eI m, eI b, .x, .x, .x, .x, .x, .x, .x, .x, .x, .x]
    unfold d__law_random_board
    walk_at "go"
    apply sq_setE
    apply eq_lc (c := iN) (fun xs ρ => ∃ g', ρ = [gP g', eI m, eI b, eB (decide (r = 0)), .x, .x, .x, .x, .x, .x, .x, .x, .x] ∧ (∀ x ∈ xs, x ≤ 3) ∧ GOk (n + 1 + xs.length) g')
    · apply iRange_at (n := m)
      · walk_at "ev"
      · rfl
      · omega
    · rfl
    · exact isOe_map
    · rfl
    · simp; omega
    · exact ⟨g1, rfl, by simp, by simpa using hg1⟩
    · rintro i e xs ρ hi hl ⟨g2, rfl, hx, hg2⟩
      obtain ⟨him, rfl⟩ := rg_item hi
      obtain ⟨r5, g3, hr5, h50, h51, hg3⟩ := h_random (b := 5) hg2 (by omega) (by decide) (by decide)
      obtain ⟨v, hv, hv2⟩ := pick_at [0, 1, 1, 2, 3] h50 h51
      have hv3 : atI [D.int 0, D.int 1, D.int 1, D.int 2, D.int 3] r5 = some (.int v) := hv2
      obtain ⟨w, rfl⟩ : ∃ w : Nat, v = w := ⟨v.toNat, by simp at hv; omega⟩
      refine ⟨if decide (r = 0) = true then 1 else w, some [gP g3, eI m, eI b, eB (decide (r = 0)), .x, .x, .x, .x, .x, .x, .x, .x, .x], ?_, g3, rfl, ?_, ?_⟩
      · apply turn_eR
        · rfl
        · rfl
        · walk_at "ev"
        · split <;> rfl
        · rfl
      · intro x hx'
        rcases List.mem_append.mp hx' with h | h
        · exact hx x h
        · simp at h; subst h; split <;> simp at hv <;> omega
      · rw [List.length_append]; exact hg3
    rintro lots q hll ⟨g2, h1, hl3, hg2⟩
    rw [List.length_map, List.length_range] at hll
    rw [h1]
    refine ⟨by simp, rfl, ?_⟩
    walk_at "go"
    apply sq_setE
    apply eq_lc (c := iN) (fun xs ρ => ∃ g', ρ = [gP g', eI m, eI b, eB (decide (r = 0)), .x, .o (.l .v) (.lst (lots.map iN)), .x, .x, .x, .x, .x, .x, .x] ∧ (∀ x ∈ xs, x ≤ 24) ∧ GOk (n + 1 + m + xs.length) g')
    · apply iRange_at (n := m)
      · walk_at "ev"
      · rfl
      · omega
    · rfl
    · exact isOe_map
    · rfl
    · simp; omega
    · exact ⟨g2, rfl, by simp, by rw [← hll]; simpa using hg2⟩
    · rintro i e xs ρ hi hl ⟨g2, rfl, hx, hg2⟩
      obtain ⟨him, rfl⟩ := rg_item hi
      obtain ⟨r5, g3, hr5, h50, h51, hg3⟩ := h_random (b := 6) hg2 (by omega) (by decide) (by decide)
      obtain ⟨v, hv, hv2⟩ := pick_at [0, 1, 1, 2, 2, (b : Int)] h50 h51
      have hv3 : atI [D.int 0, D.int 1, D.int 1, D.int 2, D.int 2, D.int b] r5 = some (.int v) := hv2
      obtain ⟨w, rfl⟩ : ∃ w : Nat, v = w := ⟨v.toNat, by simp at hv; omega⟩
      refine ⟨w, some [gP g3, eI m, eI b, eB (decide (r = 0)), .x, .o (.l .v) (.lst (lots.map iN)), .x, .x, .x, .x, .x, .x, .x], ?_, g3, rfl, ?_, ?_⟩
      · apply turn_eR
        · rfl
        · rfl
        · walk_at "ev"
        · rfl
        · rfl
      · intro x hx'
        rcases List.mem_append.mp hx' with h | h
        · exact hx x h
        · simp at h; subst h; simp at hv; omega
      · rw [List.length_append]; exact hg3
    rintro bases q hbl ⟨g3, h1, hb24, hg3⟩
    rw [List.length_map, List.length_range] at hbl
    rw [h1]
    refine ⟨by simp, rfl, ?_⟩
    walk_at "go"
    have hl3' : ∀ (i l : Nat), lots[i]? = some l → l ≤ 3 := fun i l h => hl3 l (List.mem_of_getElem? h)
    have hb24' : ∀ (i l : Nat), bases[i]? = some l → l ≤ 24 := fun i l h => hb24 l (List.mem_of_getElem? h)
    apply sq_for (fun i ρ => ∃ a, ρ = [gP g3, eI m, eI b, eB (decide (r = 0)), a, .o (.l .v) (.lst (lots.map iN)), .o (.l .v) (.lst (bases.map iN)), .o (.l .v) (.lst ((hold lots bases i).map iN)), .x, .x, .x, .x, .x] ∧ isOe' a)
    · apply iRange_at (n := m)
      · walk_at "ev"
      · rfl
      · omega
    · rfl
    · exact isOe_map
    · exact ⟨.x, rfl, rfl⟩
    · rintro i e ρ hi ⟨a, rfl, ha⟩
      obtain ⟨him, rfl⟩ := rg_item hi
      obtain ⟨l, hl⟩ : ∃ l, lots[i]? = some l := ⟨_, List.getElem?_eq_getElem (by omega)⟩
      obtain ⟨c, hc⟩ : ∃ l, bases[i]? = some l := ⟨_, List.getElem?_eq_getElem (by omega)⟩
      have h1 := hl3' i l hl
      have h2 := hb24' i c hc
      have h3 := hold_len (lots := lots) (bases := bases) hl3' hb24' i
      have hAB : (hold lots bases i).map iN ++ List.replicate (l + c) (D.int (i : Nat)) = (hold lots bases (i + 1)).map iN := by
        rw [hold_succ hl hc, List.map_append, List.map_replicate]
      walk_at "go"
      exact ⟨eI i, by rw [← hAB]; rfl, rfl⟩
    rintro ρ ⟨a, rfl, ha⟩
    rw [List.length_map, List.length_range]
    have hh := hold_len (lots := lots) (bases := bases) hl3' hb24' m
    obtain ⟨ys, g4, hs1, hs2, hs3⟩ := h_shuffled (c := iN) (xs := hold lots bases m) (d := .lst ((hold lots bases m).map iN)) hg3 (by omega) (by omega) rfl (fun _ => rfl)
    walk_at "go"
    have hrep : (List.range m).map (fun _ => D.lst []) = (List.replicate m ([] : List Int)).map lI := by
      rw [List.map_replicate]
      rw [List.map_const', List.length_range]
      rfl
    rw [hrep]
    apply sq_at (ρ1 := [gP g3, eI m, eI b, eB (decide (r = 0)), .x, .o (.l .v) (.lst (lots.map iN)), .o (.l .v) (.lst (bases.map iN)), .o .v (.lst ((hold lots bases m).map iN)), .o (.l (.l .v)) (.lst ((List.replicate m ([] : List Int)).map lI)), eI (-1), .x, .x, .x]) rfl
    apply sq_for (fun i ρ => ∃ g' hs num a b', ρ = [gP g', eI m, eI b, eB (decide (r = 0)), .x, .o (.l .v) (.lst (lots.map iN)), .o (.l .v) (.lst (bases.map iN)), .o .v (.lst ((hold lots bases m).map iN)), .o (.l (.l .v)) (.lst (hs.map lI)), eI num, a, b', .x] ∧ isOe' a ∧ isOe' b' ∧ Hs hs num m (ys.take i) ∧ GOk (n + 1000 + i * 2) g')
    · apply iSeq_of (c := iN) (xs := ys)
      · walk_at "ev"
      · rfl
    · rfl
    · exact isOe_map
    · exact ⟨g4, _, _, .x, .x, rfl, rfl, rfl, Hs.start, hs3.mono (by omega)⟩
    · rintro i e ρ hi ⟨g5, hs, num, a1, b1, rfl, ha1, hb1, H, hg5⟩
      obtain ⟨y, hy, rfl⟩ : ∃ y, ys[i]? = some y ∧ e = .o .v (iN y) := by
        rw [List.getElem?_map] at hi
        cases hh : ys[i]? with
        | none => rw [hh] at hi; cases hi
        | some y => rw [hh] at hi; exact ⟨y, rfl, (Option.some.inj hi).symm⟩
      have hil : i < ys.length := (List.getElem?_eq_some_iff.mp hy).1
      have hyl := hs2.length_eq
      have hym : y < m := by
        have := hs2.mem_iff.mp (List.mem_of_getElem? hy)
        obtain ⟨z, h1, h2⟩ := List.mem_flatten.mp this
        obtain ⟨p, h3, rfl⟩ := List.mem_map.mp h1
        rw [(List.mem_replicate.mp h2).2]
        simpa using h3
      obtain ⟨r4, g6, hr4, h40, h41, hg6⟩ := h_random (b := 4) hg5 (by omega) (by decide) (by decide)
      obtain ⟨v, hv, hv2⟩ := pick_at [1, 1, 3, 1000000] h40 h41
      have hv3 : atI [D.int 1, D.int 1, D.int 3, D.int (10 ^ (6 : Int).toNat)] r4 = some (.int v) := hv2
      have hv4 : 0 < v ∧ v < 2 ^ 29 := by simp at hv; omega
      obtain ⟨r7, g7, hr7, h70, h71, hg7⟩ := h_random (b := v) hg6 (by omega) hv4.1 hv4.2
      have hyh : y < hs.length := by rw [H.len]; exact hym
      obtain ⟨h, hh⟩ : ∃ h, hs[y]? = some h := ⟨_, List.getElem?_eq_getElem hyh⟩
      have hhm : (hs.map lI)[y]? = some (lI h) := by rw [List.getElem?_map, hh]; rfl
      have hhl := H.small h (List.mem_of_getElem? hh)
      walk_at "go"
      apply sq_expr
      · apply mMut_append (i := 8) (pp := [y]) (s := .v) (d := .int (num + 1 + r7))
        · apply pIx_at (pp := []) (j := y)
          · rfl
          · rfl
          · walk_at "var"
          · exact ixN_of (by simpa using hyh)
        · exact sub_l1 rfl hhm
        · walk_at "ev"
        · rfl
        · rfl
        · exact sub_l1 rfl hhm
        · rfl
        · rfl
        · rw [List.length_take] at hhl
          rw [List.length_map]
          omega
        · exact ups_l1 rfl hhm (by walk_at "nob")
      · rfl
      · refine ⟨g7, hs.set y (h ++ [num + 1 + r7]), num + 1 + r7, .o .v (iN y), .o .v (.int v), ?_, rfl, rfl, ?_, hg7.mono (by omega)⟩
        · rw [List.map_set]
          show _ = [gP g7, eI m, eI b, eB (decide (r = 0)), .x, .o (.l .v) (.lst (lots.map iN)), .o (.l .v) (.lst (bases.map iN)), .o .v (.lst ((hold lots bases m).map iN)), .o (.l (.l .v)) (.lst ((hs.map lI).set y (.lst ((h ++ [num + 1 + r7]).map D.int)))), eI (num + 1 + r7), .o .v (iN y), .o .v (.int v), .x]
          rw [List.map_append]
          rfl
        · rw [List.take_add_one, hy]
          exact H.step h70 hh
    · rintro ρ ⟨g5, hs, num, a1, b1, rfl, ha1, hb1, H, hg5⟩
      rw [List.length_map] at H hg5
      rw [List.take_length] at H
      have hyl := hs2.length_eq
      have hmap : mLc .v [12] (iSeq (mVar 8)) (gN 12) (mC (.bl true)) (mF fTuple (aCons (mVar 12) aNil)) [gP g5, eI m, eI b, eB (decide (r = 0)), .x, .o (.l .v) (.lst (lots.map iN)), .o (.l .v) (.lst (bases.map iN)), .o .v (.lst ((hold lots bases m).map iN)), .o (.l (.l .v)) (.lst (hs.map lI)), eI num, a1, b1, .x] = .ok (.o (.l .v) (.lst (hs.map tI))) none := by
        apply lc_map (ca := fun h => E.b (lI h)) (f := tI)
        · apply iSeq_bm
          · walk_at "var"
          · intro x; rfl
        · rfl
        · rw [H.len]; omega
        · intro x hx
          apply turn_p
          · rfl
          · rfl
          · walk_at "ev"
          · rfl
      walk_at "go"
      refine ⟨_, imm_bD (lots := lots) (hs := hs), rfl, rfl, lots, hs, g5, rfl, rfl, ⟨by rw [hll, H.len], by rw [H.len]; exact hm0, H.asc, fun h hh c hc => (H.nn h hh c hc).1, ?_, H.nd⟩, H.len, by rw [H.tot]; omega, hg5.mono (by omega)⟩
      intro i l h hl hh
      rw [H.cnt i h hh, hs2.count_eq, count_hold, if_pos (by rw [← hll]; exact (List.getElem?_eq_some_iff.mp hl).1)]
      simp [List.getD, hl]
  obtain ⟨e, es, h, lots, hs, g', rfl, rfl, h1, h2, h3⟩ := hq
  exact ⟨lots, hs, g', h, h1, h2, h3⟩
end W_k11
namespace W_k11
theorem h_int (a : Int) : m_is_integer [eI a] = .rt (eB true) [.x] := by
  apply fq_is
  apply fnq [eI a]
  unfold d_is_integer
  walk_at "go"
  exact ⟨_, rfl, rfl, rfl, rfl, rfl⟩
theorem h_least (a b : Int) : m_is_at_least [eI a, eI b] = .rt (eB (decide (b ≤ a))) [.x, .x] := by
  have h1 := h_int a
  apply fq_is
  apply fnq [eI a, eI b]
  unfold d_is_at_least
  walk_at "go"
  exact ⟨_, rfl, rfl, rfl, rfl, rfl⟩
local macro_rules | `(tactic| walk_at "call") => `(tactic| first | (with_reducible exact h_int _) | (with_reducible exact h_least _ _))
theorem h_first {α : Type} {w : Str} {l : List α} {f : α → Bool} (h : ∀ x ∈ l, f x = true) : m_first_failure [eV (.str w), eV (.lst (l.map fun x => .bl (f x)))] = .rt (eV .non) [.x, .x] := by
  apply fq_is
  apply fnq [eV (.str w), eV (.lst (l.map fun x => .bl (f x))), .x, .x]
  unfold d_first_failure
  walk_at "go"
  apply sq_for (fun i ρ => ∃ a b, ρ = [eV (.str w), eV (.lst (l.map fun x => .bl (f x))), a, b] ∧ isOe' a ∧ isOe' b)
  · walk_at "it"
  · rfl
  · exact isOe_map
  · exact ⟨_, _, rfl, rfl, rfl⟩
  · rintro i e ρ hi ⟨a, b, rfl, ha, hb⟩
    obtain ⟨q, hq, rfl⟩ : ∃ q, l.zipIdx[i]? = some q ∧ e = .o .v (.tup [.int (q.2 : Nat), .bl (f q.1)]) := by
      rw [List.getElem?_map] at hi
      cases hh : l.zipIdx[i]? with
      | none => rw [hh] at hi; cases hi
      | some y => rw [hh] at hi; exact ⟨y, rfl, (Option.some.inj hi).symm⟩
    have hm : q.1 ∈ l := by
      obtain ⟨q1, q2⟩ := q
      exact List.fst_mem_of_mem_zipIdx (List.mem_of_getElem? hq)
    have hf := h _ hm
    walk_at "go"
    · intro hb; rw [hf] at hb; cases hb
    · intro _
      walk_at "go"
      exact ⟨_, _, rfl, rfl, rfl⟩
  · rintro ρ ⟨a, b, rfl, ha, hb⟩
    walk_at "go"
    exact ⟨_, rfl, rfl, rfl, rfl, rfl⟩
theorem h_pair {lots : List Nat} {hs : List (List Int)} (h : lots.length = hs.length) (h0 : 0 < hs.length) : m_is_pair_of_tuples [eV (bD lots hs)] = .rt (eB true) [.x] := by
  apply fq_is
  apply fnq [eV (bD lots hs), .x]
  unfold d_is_pair_of_tuples
  have hc : mLc .v [1] (iSeq (mVar 0)) (gN 1) (mC (.bl true)) (mIs ["tuple"] (mVar 1)) [eV (bD lots hs), .x] = .ok (.o (.l .v) (.lst [.bl true, .bl true])) none := by
    apply lc_map (ca := E.o .v) (xs := [tN lots, hD hs]) (f := fun _ => D.bl true)
    · exact iSeq_o (by walk_at "var") rfl
    · rfl
    · simp
    · intro x hx
      apply turn_p
      · rfl
      · rfl
      · rcases List.mem_cons.mp hx with rfl | hx
        · walk_at "ev"
        · simp at hx; subst hx; walk_at "ev"
      · rfl
  have hd : mF fAll (aCons (mLc .v [1] (iSeq (mVar 0)) (gN 1) (mC (.bl true)) (mIs ["tuple"] (mVar 1))) aNil) [eV (bD lots hs), .x] = .ok (eB true) none := mF_R (aCons_nn hc rfl) rfl rfl
  walk_at "go"
  · intro hb; simp at hb
  · intro _
    walk_at "go"
    have hm : mChain gLt gEq (mC (.int 0)) (mF fLen (aCons (mF fIx (a2 (mVar 0) (mC (.int 0)))) aNil)) (mF fLen (aCons (mF fIx (a2 (mVar 0) (mC (.int 1)))) aNil)) [eV (bD lots hs), .x] = .ok (eB true) none := by
      apply mChain_t
      · walk_at "args"
      · rfl
      · rfl
      · rw [gLt_ii]; simp; omega
      · walk_at "ev"
      · rfl
      · rw [gEq_ii]; simp [h]
    walk_at "go"
    exact ⟨_, rfl, rfl, rfl, rfl, rfl⟩
local macro_rules | `(tactic| walk_at "call") => `(tactic| first | (with_reducible exact h_int _) | (with_reducible exact h_least _ _) | ((with_reducible apply h_first); assumption) | ((with_reducible apply h_pair); (assumption); assumption) | assumption)
theorem zip_tail_lt : ∀ {h : List Int}, h.Pairwise (· < ·) → (h.zip h.tail).all (fun q => decide (q.1 < q.2)) = true
  | [], _ => rfl
  | [a], _ => rfl
  | a :: b :: h, hp => by
    have h1 : a < b := (List.pairwise_cons.mp hp).1 b List.mem_cons_self
    have h2 := zip_tail_lt (List.pairwise_cons.mp hp).2
    show (decide (a < b) && ((b :: h).zip h).all _) = true
    rw [decide_eq_true h1, Bool.true_and]
    exact h2
theorem h_hand {h : List Int} (hl : h.length ≤ 10000) (hp : h.Pairwise (· < ·)) (hn : ∀ c ∈ h, 0 ≤ c) : m_is_hand [eV (tI h)] = .rt (eB true) [.x] := by
  apply fq_is
  apply fnq [eV (tI h), .x, .x, .x]
  unfold d_is_hand
  have h1 : (h.all fun x => decide (0 ≤ x)) = true := List.all_eq_true.mpr fun x hx => by simpa using hn x hx
  have h2 := zip_tail_lt hp
  rw [← List.drop_one] at h2
  walk_at "go"
  · intro hb; rw [h1] at hb; simp at hb
  · intro _
    walk_at "go"
    refine ⟨_, rfl, rfl, rfl, ?_, rfl⟩
    rw [h2]
local macro_rules | `(tactic| walk_at "call") => `(tactic| first | (with_reducible exact h_int _) | (with_reducible exact h_least _ _) | ((with_reducible apply h_first); (first | assumption | (intro x hx; simp))) | ((with_reducible apply h_pair); (assumption); assumption) | assumption)
theorem h_isround {n : Nat} {p : List Nat} (hp : IsR n p) (hn : n ≤ 1000) : m_is_round [eI n, eV (tN p)] = .rt (eB true) [.x, .x] := by
  have hl := hp.length_eq
  rw [List.length_range] at hl
  have hp' : p.Perm (List.range n) := hp
  apply fq_is
  apply fnq [eI n, eV (tN p), .x]
  unfold d_is_round
  walk_at "go"
  · intro hb; simp at hb
  · intro _
    walk_at "go"
    apply sq_ret
    · apply mOp_at
      · walk_at "args"
      · rfl
      · rfl
      · exact gEq_self (okD_lst (okDs_map fun _ => okD_int))
    · rfl
    · exact ⟨_, rfl, rfl, rfl, rfl, rfl⟩
theorem h_count {n : Nat} (hn : 0 < n) : m_require_place_count [eI n] = .rt (eV .non) [.x] := by
  apply fq_is
  apply fnq [eI n]
  unfold d_require_place_count
  walk_at "go"
  · intro hb; simp at hb; omega
  · intro _
    walk_at "go"
    exact ⟨_, rfl, rfl, rfl⟩
theorem h_cplan {n : Nat} {pl : List (List Nat)} (hn : 0 < n) (hn2 : n ≤ 1000) (hl : pl.length ≤ 10000) (hp : ∀ p ∈ pl, IsR n p) : m_check_plan [eI n, eV (.lst (pl.map tN))] = .rt (eV .non) [.x, .x] := by
  have h1 := h_count hn
  apply fq_is
  apply fnq [eI n, eV (.lst (pl.map tN)), .x]
  unfold d_check_plan
  walk_at "go"
  · intro hb; simp at hb
  · intro _
    have hr : ∀ p ∈ pl, m_is_round [eI n, eV (tN p)] = .rt (eB true) [.x, .x] := fun p hpm => h_isround (hp p hpm) hn2
    have hlc : mLc .v [2] (iSeq (mVar 1)) (gN 2) (mC (.bl true)) (mCall m_is_round ([mVar 0, mVar 2].foldr aCons aNil)) [eI n, eV (.lst (pl.map tN)), .x] = .ok (.o (.l .v) (.lst (pl.map fun _ => .bl true))) none := by
      apply lc_map (ca := fun p => .o .v (tN p)) (f := fun _ => D.bl true)
      · walk_at "it"
      · rfl
      · omega
      · intro p hpm
        have := hr p hpm
        apply turn_p
        · rfl
        · rfl
        · walk_at "ev"
        · rfl
    walk_at "go"
    exact ⟨_, rfl, rfl, rfl, rfl, rfl⟩
theorem h_rplan {n : Nat} {pl : List (List Nat)} (hn : 0 < n) (hn2 : n ≤ 1000) (hl : pl.length ≤ 10000) (hp : ∀ p ∈ pl, IsR n p) : m_require_plan [eI n, eV (.lst (pl.map tN))] = .rt (eV .non) [.x, .x] := by
  have h1 := h_cplan hn hn2 hl hp
  apply fq_is
  apply fnq [eI n, eV (.lst (pl.map tN)), .x]
  unfold d_require_plan
  walk_at "go"
  · intro hb; simp at hb
  · intro _
    walk_at "go"
    exact ⟨_, rfl, rfl, rfl⟩
end W_k11
namespace W_k11
local macro_rules | `(tactic| walk_at "call") => `(tactic| first | (with_reducible exact h_int _) | (with_reducible exact h_least _ _) | ((with_reducible apply h_first); (first | assumption | (focus (intro x hx; simp; done)) | (focus (intro x hx; simp; solve_by_elim)))) | ((with_reducible apply h_pair); (assumption); assumption) | assumption)
theorem h_cboard {lots : List Nat} {hs : List (List Int)} (B : BOk lots hs) (hh : hs.flatten.length ≤ 10000) (hl : hs.length ≤ 1000) : m_check_board [eV (bD lots hs)] = .rt (eV .non) [.x] := by
  have h1 := B.len
  have h2 := B.pos
  have hsm : ∀ h ∈ hs, h.length ≤ 10000 := fun h hm => Nat.le_trans (List.Sublist.length_le (List.sublist_flatten_of_mem hm)) hh
  have hhand : ∀ h ∈ hs, m_is_hand [eV (tI h)] = .rt (eB true) [.x] := fun h hm => h_hand (hsm h hm) (B.asc h hm) (B.nn h hm)
  have hzip : ∀ x ∈ lots.zip hs, x.1 ≤ x.2.length := by
    intro x hx
    obtain ⟨i, hi⟩ := List.getElem?_of_mem hx
    rw [List.getElem?_zip_eq_some] at hi
    exact B.fits i x.1 x.2 hi.1 hi.2
  apply fq_is
  apply fnq [eV (bD lots hs), .x, .x, .x, .x, .x, .x, .x, .x, .x, .x, .x]
  unfold d_check_board
  walk_at "go"
  · intro hb; simp at hb
  intro _
  walk_at "go"
  · intro hb; simp at hb
  intro _
  have hlc : mLc .v [4] (iSeq (mVar 2)) (gN 4) (mC (.bl true)) (mCall m_is_hand ([mVar 4].foldr aCons aNil)) [eV (bD lots hs), eV (tN lots), eV (hD hs), eV .non, .x, .x, .x, .x, .x, .x, .x, .x] = .ok (.o (.l .v) (.lst (hs.map fun _ => .bl true))) none := by
    apply lc_map (ca := fun h => .o .v (tI h)) (f := fun _ => D.bl true)
    · walk_at "it"
    · rfl
    · omega
    · intro p hpm
      have := hhand p hpm
      apply turn_p
      · rfl
      · rfl
      · walk_at "ev"
      · rfl
  walk_at "sk"
  apply sq_fg
  apply sq_at (ρ1 := [eV (bD lots hs), eV (tN lots), eV (hD hs), eV .non, .x, .x, .x, .x, .x, .x, .x, .x]) rfl
  walk_at "go"
  · intro hb; simp at hb
  intro _
  walk_at "sk"
  apply sq_nx (ρ1 := [eV (bD lots hs), eV (tN lots), eV (hD hs), eV .non, .x, eV .non, .o (.dk .v) (dkD []), .x, .x, .x, .x, .x]) ⟨_, rfl⟩
  walk_at "go"
  apply sq_for (fun i ρ => ∃ (kvs : List (Key × D)) (a b : E), ρ = [eV (bD lots hs), eV (tN lots), eV (hD hs), eV .non, a, eV .non, .o (.dk .v) (dkD kvs), .o (.l .v) (.lst ((List.range i).map fun _ => .bl true)), b, .x, .x, .x] ∧ isOe' a ∧ isOe' b ∧ (∀ k, k ∈ kvs.map (·.1) ↔ ∃ c ∈ (hs.take i).flatten, k = .inl c) ∧ kvs.length ≤ (hs.take i).flatten.length)
  · walk_at "it"
  · rfl
  · exact isOe_map
  · exact ⟨[], .x, .x, rfl, rfl, rfl, by simp, by simp⟩
  · rintro i e ρ hi ⟨kvs, a, b, rfl, ha, hb, hk, hkl⟩
    obtain ⟨h, hih, rfl⟩ : ∃ h, hs[i]? = some h ∧ e = .o .v (.tup [.int (i : Nat), tI h]) := by
      rw [List.getElem?_map] at hi
      cases hh : hs.zipIdx[i]? with
      | none => rw [hh] at hi; cases hi
      | some y =>
        rw [hh] at hi
        rw [List.getElem?_zipIdx] at hh
        cases h3 : hs[i]? with
        | none => rw [h3] at hh; cases hh
        | some h =>
          rw [h3] at hh
          cases hh
          exact ⟨h, rfl, by simpa using (Option.some.inj hi).symm⟩
    have hm := List.mem_of_getElem? hih
    have hil : i < hs.length := (List.getElem?_eq_some_iff.mp hih).1
    have hsm' := hsm h hm
    have htk : (hs.take (i + 1)).flatten = (hs.take i).flatten ++ h := by
      rw [List.take_add_one, hih]; simp
    have hnd : ((hs.take i).flatten ++ h).Nodup := by
      rw [← htk]
      refine List.Nodup.sublist ?_ B.nd
      conv => rhs; rw [← List.take_append_drop (i + 1) hs]
      rw [List.flatten_append]
      exact List.sublist_append_left ..
    have hno : ∀ c ∈ h, hasG kvs (.inl c) = false := by
      intro c hc
      refine hasG_no fun hmem => ?_
      obtain ⟨c', hc', he⟩ := (hk _).mp hmem
      cases he
      exact (List.nodup_append.mp hnd).2.2 c hc' c hc rfl
    have hany : (h.any fun c => hasG kvs (.inl c)) = false := List.any_eq_false.mpr fun c hc => by rw [hno c hc]; simp
    walk_at "go"
    apply sq_at (ρ1 := [eV (bD lots hs), eV (tN lots), eV (hD hs), eV .non, eV (tI h), eV .non, .o (.dk .v) (dkD kvs), .o (.l .v) (.lst ((List.range i).map fun _ => .bl true)), eI i, .x, .x, .x]) rfl
    have he : mNot (mF fAny (aCons (mLc .v [11] (iSeq (mVar 4)) (gN 11) (mC (.bl true)) (mOp (gDin false) (mVar 11) (mVar 6))) aNil)) [eV (bD lots hs), eV (tN lots), eV (hD hs), eV .non, eV (tI h), eV .non, .o (.dk .v) (dkD kvs), .o (.l .v) (.lst ((List.range i).map fun _ => .bl true)), eI i, .x, .x, .x] = .ok (eB (!(h.any fun c => hasG kvs (.inl c)))) none := by
      walk_at "ev"
    rw [hany] at he
    have happ : ((List.range i).map fun _ => D.bl true) ++ [D.bl true] = (List.range (i + 1)).map fun _ => D.bl true := by
      rw [List.range_succ, List.map_append]; rfl
    apply sq_expr
    · apply mMut_append (i := 7) (pp := []) (s := .v) (d := .bl true) (ρ2 := [eV (bD lots hs), eV (tN lots), eV (hD hs), eV .non, eV (tI h), eV .non, .o (.dk .v) (dkD kvs), .o (.l .v) (.lst ((List.range (i + 1)).map fun _ => .bl true)), eI i, .x, .x, .x])
      · rfl
      · rfl
      · exact he
      · rfl
      · rfl
      · rfl
      · rfl
      · rfl
      · simp; omega
      · rw [happ]; rfl
    · rfl
    obtain ⟨more, hd1, hd2, hd3⟩ := dc_at (is := [11]) (it := iSeq (mVar 4)) (g := gN 11) (tst := mC (.bl true)) (mk := mVar 11) (mv := mVar 8) (ρ := [eV (bD lots hs), eV (tN lots), eV (hD hs), eV .non, eV (tI h), eV .non, .o (.dk .v) (dkD kvs), .o (.l .v) (.lst ((List.range (i + 1)).map fun _ => .bl true)), eI i, .x, .x, .x]) (ca := fun c : Int => .o .v (.int c)) (xs := h) (fun c => c) (fun _ => .int i) (srcs := [eV (tI h)]) (by walk_at "it") rfl (by omega) fun c hc => by
        apply dturn_p
        · rfl
        · rfl
        · walk_at "var"
        · walk_at "var"
        · rfl
    have hfl : (hs.take (i + 1)).flatten.length ≤ 10000 := Nat.le_trans (List.Sublist.length_le (by
      conv => rhs; rw [← List.take_append_drop (i + 1) hs]
      rw [List.flatten_append]
      exact List.sublist_append_left ..)) hh
    rw [htk, List.length_append] at hfl
    apply sq_expr
    · apply mMut_upd (i := 6) (kvs := kvs) (more := more)
      · rfl
      · rfl
      · exact hd1
      · rfl
      · rfl
      · omega
      · exact ups_o0 rfl rfl
    · rfl
    refine ⟨mergeG kvs more, eV (tI h), eI i, rfl, rfl, rfl, fun k => ?_, ?_⟩
    · rw [mergeG_keys, hk, hd2, htk]
      simp only [List.mem_append]
      exact ⟨fun h => by rcases h with ⟨c, h1, h2⟩ | ⟨c, h1, h2⟩; exact ⟨c, .inl h1, h2⟩; exact ⟨c, .inr h1, h2⟩, fun ⟨c, h1, h2⟩ => by rcases h1 with h1 | h1; exact .inl ⟨c, h1, h2⟩; exact .inr ⟨c, h1, h2⟩⟩
    · have := mergeG_len (kvs := kvs) (more := more)
      rw [htk, List.length_append]
      omega
  · rintro ρ ⟨kvs, a, b, rfl, ha, hb, hk, hkl⟩
    apply sq_seq
    apply sq_fg
    generalize hn : (hs.zipIdx.map fun q => E.o .v (.tup [.int (q.2 : Nat), tI q.1])).length = nn
    apply sq_at (ρ1 := [eV (bD lots hs), eV (tN lots), eV (hD hs), eV .non, .x, eV .non, .o (.dk .v) (dkD kvs), .o (.l .v) (.lst ((List.range nn).map fun _ => .bl true)), b, .x, .x, .x]) rfl
    walk_at "go"
    apply sq_ret
    · exact (mOr_f (by walk_at "var") rfl).trans (by walk_at "ev")
    · rfl
    · exact ⟨_, rfl, rfl, rfl, rfl, rfl⟩
theorem h_rboard {lots : List Nat} {hs : List (List Int)} (B : BOk lots hs) (hh : hs.flatten.length ≤ 10000) (hl : hs.length ≤ 1000) : m_require_board [eV (bD lots hs)] = .rt (eV .non) [.x] := by
  have h1 := h_cboard B hh hl
  apply fq_is
  apply fnq [eV (bD lots hs), .x]
  unfold d_require_board
  walk_at "go"
  · intro hb; simp at hb
  · intro _
    walk_at "go"
    exact ⟨_, rfl, rfl, rfl⟩
theorem h_rcard {lots : List Nat} {hs : List (List Int)} {c : Int} (hc : c ∈ hs.flatten) (hl : hs.length ≤ 1000) : m_require_card [eV (bD lots hs), eI c] = .rt (eV .non) [.x, .x] := by
  have h2 : (hs.any fun h => decide (c ∈ h)) = true := by
    obtain ⟨h, hm, hc⟩ := List.mem_flatten.mp hc
    exact List.any_eq_true.mpr ⟨h, hm, by simpa using hc⟩
  apply fq_is
  apply fnq [eV (bD lots hs), eI c, .x]
  unfold d_require_card
  walk_at "go"
  · intro hb; rw [h2] at hb; simp at hb
  · intro _
    walk_at "go"
    exact ⟨_, rfl, rfl, rfl⟩
end W_k11
namespace W_k11
local macro_rules | `(tactic| walk_at "call") => `(tactic| first | (with_reducible assumption) | assumption)
/-- the state of a simulation -/
structure Sm where
  lots : List Nat
  loads : List (List Int)
  heaps : List (List Int)
  places : List Nat
abbrev smN : List Str := ["lots", "loads", "heaps", "places"]
abbrev smS : Sh := .ob [.l .v, .l (.l .v), .l (.l .v), .l .v]
def smX (S : Sm) : List D := [.lst (S.lots.map iN), .lst (S.loads.map lI), .lst (S.heaps.map lI), .lst (S.places.map iN)]
abbrev smD (c : Addr) (S : Sm) : D := .ob c smN (smX S)
theorem ix0 : idxOf "lots" smN = some 0 := by decide +kernel
theorem ix1 : idxOf "loads" smN = some 1 := by decide +kernel
theorem ix2 : idxOf "heaps" smN = some 2 := by decide +kernel
theorem ix3 : idxOf "places" smN = some 3 := by decide +kernel
structure SOk (n : Nat) (S : Sm) : Prop where
  l1 : S.lots.length = n
  l2 : S.loads.length = n
  l3 : S.heaps.length = n
  l4 : S.places.length = n
  ll : ∀ (i l : Nat) (x : List Int), S.lots[i]? = some l → S.loads[i]? = some x → x.length = l
  lb : ∀ l ∈ S.lots, l ≤ 10000
  hb : ∀ h ∈ S.heaps, h.length ≤ 10000
  pb : ∀ p ∈ S.places, p < n
local macro_rules | `(tactic| walk_at "fld") => `(tactic| first | (with_reducible exact ix0) | (with_reducible exact ix1) | (with_reducible exact ix2) | (with_reducible exact ix3))
/-- one load moves -/
def stepL (perm : List Nat) (S : Sm) (q : Nat × Nat) : Sm :=
  let t := perm.getD q.1 0
  let cards := srt (S.loads.getD q.2 [] ++ S.heaps.getD t [])
  ⟨S.lots, S.loads.set q.2 (cards.take (S.lots.getD q.2 0)), S.heaps.set t (cards.drop (S.lots.getD q.2 0)), S.places.set q.2 t⟩
def roundS (S : Sm) (perm : List Nat) : Sm := S.places.zipIdx.foldl (stepL perm) S
theorem getD_of {α : Type} {l : List α} {i : Nat} {x d : α} (h : l[i]? = some x) : l.getD i d = x := by simp [List.getD, h]
theorem SOk.step {n : Nat} {S : Sm} {perm : List Nat} {p l : Nat} (H : SOk n S) (hp : IsR n perm) (h1 : p < n) (h2 : l < n) : SOk n (stepL perm S (p, l)) := by
  obtain ⟨a1, a2, a3, a4, a5, a6, a7, a8⟩ := H
  have hpl : perm.length = n := by have := hp.length_eq; simpa using this
  obtain ⟨t, ht⟩ : ∃ t, perm[p]? = some t := ⟨_, List.getElem?_eq_getElem (by omega)⟩
  have htn : t < n := by simpa using hp.mem_iff.mp (List.mem_of_getElem? ht)
  obtain ⟨x, hx⟩ : ∃ t, S.loads[l]? = some t := ⟨_, List.getElem?_eq_getElem (by omega)⟩
  obtain ⟨y, hy⟩ : ∃ y, S.heaps[t]? = some y := ⟨_, List.getElem?_eq_getElem (by omega)⟩
  obtain ⟨z, hz⟩ : ∃ z, S.lots[l]? = some z := ⟨_, List.getElem?_eq_getElem (by omega)⟩
  have hxl := a5 l z x hz hx
  have hyl := a7 y (List.mem_of_getElem? hy)
  have e : stepL perm S (p, l) = ⟨S.lots, S.loads.set l ((srt (x ++ y)).take z), S.heaps.set t ((srt (x ++ y)).drop z), S.places.set l t⟩ := by
    simp only [stepL, getD_of ht, getD_of hx, getD_of hy, getD_of hz]
  rw [e]
  have hs : (srt (x ++ y)).length = z + y.length := by rw [srt_len, List.length_append, hxl]
  refine ⟨a1, by simpa using a2, by simpa using a3, by simpa using a4, ?_, a6, ?_, ?_⟩
  · intro i m w h3 h4
    by_cases hil : l = i
    · subst hil
      rw [List.getElem?_set_self (by omega)] at h4
      cases h4
      rw [hz] at h3; cases h3
      rw [List.length_take, hs]; omega
    · rw [List.getElem?_set_ne hil] at h4
      exact a5 i m w h3 h4
  · intro w hw
    rcases List.mem_or_eq_of_mem_set hw with h | rfl
    · exact a7 w h
    · rw [List.length_drop, hs]; omega
  · intro w hw
    rcases List.mem_or_eq_of_mem_set hw with h | rfl
    · exact a8 w h
    · exact htn
theorem leaf_sm {c : Addr} {S : Sm} : leaf smS (smD c S) = true := by
  have h1 : ∀ l : List Nat, leaf (.l .v) (.lst (l.map iN)) = true := fun l => leaf_l fun _ => rfl
  have h2 : ∀ l : List (List Int), leaf (.l (.l .v)) (.lst (l.map lI)) = true := by
    intro l
    rw [leaf, leafA_all, List.all_map]
    exact List.all_eq_true.mpr fun x _ => leaf_l fun _ => rfl
  simp only [smS, smD, smX, leaf, leafs] at *
  simp only [h1, h2, Bool.and_self]
theorem keep_sm {c : Addr} {S : Sm} {a b d e f : E} : keepE [true, false] [.p smS (smD c S), a, b, d, e, f] = some [.o smS (smD c S), .x] := by
  simp only [keepE]
  rw [if_pos leaf_sm]
  rfl
theorem h_apply {c : Addr} {n : Nat} {S : Sm} {perm : List Nat} (H : SOk n S) (hp : IsR n perm) (hn : n ≤ 1000) :
    m_Simulation_apply_round c [.o smS (smD c S), eV (tN perm)] = .rt (eV .non) [.o smS (smD c (roundS S perm)), .x] := by
  have hpl : perm.length = n := by have := hp.length_eq; simpa using this
  apply fq_is
  apply fnq [.p smS (smD c S), eV (tN perm), .x, .x, .x, .x]
  unfold d_Simulation_apply_round
  apply sq_for (fun i ρ => ∃ a b d e, ρ = [.p smS (smD c ((S.places.zipIdx.take i).foldl (stepL perm) S)), eV (tN perm), a, b, d, e] ∧ isOe' a ∧ isOe' b ∧ isOe' d ∧ isOe' e ∧ SOk n ((S.places.zipIdx.take i).foldl (stepL perm) S))
  · walk_at "it"
  · rfl
  · exact isOe_map
  · exact ⟨.x, .x, .x, .x, rfl, rfl, rfl, rfl, rfl, H⟩
  · rintro i e ρ hi ⟨a, b, d, e', rfl, ha, hb, hd, he, H2⟩
    obtain ⟨p, hpi, rfl⟩ : ∃ p, S.places[i]? = some p ∧ e = .o .v (.tup [.int (i : Nat), iN p]) := by
      rw [List.getElem?_map] at hi
      cases hh : S.places.zipIdx[i]? with
      | none => rw [hh] at hi; cases hi
      | some y =>
        rw [hh] at hi
        rw [List.getElem?_zipIdx] at hh
        cases h3 : S.places[i]? with
        | none => rw [h3] at hh; cases hh
        | some h =>
          rw [h3] at hh
          cases hh
          exact ⟨h, rfl, by simpa using (Option.some.inj hi).symm⟩
    have hpn : p < n := H.pb p (List.mem_of_getElem? hpi)
    have hin : i < n := by rw [← H.l4]; exact (List.getElem?_eq_some_iff.mp hpi).1
    have htk : (S.places.zipIdx.take (i + 1)).foldl (stepL perm) S = stepL perm ((S.places.zipIdx.take i).foldl (stepL perm) S) (p, i) := by
      have : S.places.zipIdx[i]? = some (p, i) := by rw [List.getElem?_zipIdx, hpi]; simp
      rw [List.take_add_one, this, List.foldl_append]
      rfl
    rw [htk]
    generalize (S.places.zipIdx.take i).foldl (stepL perm) S = T at H2
    have H3 := H2.step hp hpn hin
    obtain ⟨t, ht⟩ : ∃ t, perm[p]? = some t := ⟨_, List.getElem?_eq_getElem (by omega)⟩
    have htn : t < n := by simpa using hp.mem_iff.mp (List.mem_of_getElem? ht)
    obtain ⟨x, hx⟩ : ∃ t, T.loads[i]? = some t := ⟨_, List.getElem?_eq_getElem (by rw [H2.l2]; exact hin)⟩
    obtain ⟨y, hy⟩ : ∃ y, T.heaps[t]? = some y := ⟨_, List.getElem?_eq_getElem (by rw [H2.l3]; exact htn)⟩
    obtain ⟨z, hz⟩ : ∃ z, T.lots[i]? = some z := ⟨_, List.getElem?_eq_getElem (by rw [H2.l1]; exact hin)⟩
    have hxl := H2.ll i z x hz hx
    have hzb := H2.lb z (List.mem_of_getElem? hz)
    have hyb := H2.hb y (List.mem_of_getElem? hy)
    walk_at "go"
    apply sq_nx
    · apply nx_itm_ob (j := 3) (kk := i)
      · walk_at "ev"
      · rfl
      · exact ix3
      · rfl
      · rfl
      · walk_at "var"
      · rfl
      · rfl
      · rw [List.length_map, H2.l4]; exact hin
      · walk_at "nob"
    rw [← List.map_set]
    walk_at "go"
    apply sq_at (ρ1 := [.p smS (smD c ⟨T.lots, T.loads, T.heaps, T.places.set i t⟩), eV (tN perm), eI i, eI p, eI t, .o .v (.lst ((srt (x ++ y)).map D.int))]) rfl
    apply sq_nx
    · apply nx_itm_ob (j := 1) (kk := i)
      · walk_at "ev"
      · rfl
      · exact ix1
      · rfl
      · rfl
      · walk_at "var"
      · rfl
      · rfl
      · rw [List.length_map, H2.l2]; exact hin
      · walk_at "nob"
    rw [← List.map_set (f := lI)]
    dsimp only
    apply sq_fz
    apply sq_at (ρ1 := [.p smS (smD c ⟨T.lots, T.loads.set i ((srt (x ++ y)).take z), T.heaps, T.places.set i t⟩), eV (tN perm), eI i, eI p, eI t, .o .v (.lst ((srt (x ++ y)).map D.int))]) rfl
    apply sq_nx
    · apply nx_itm_ob (j := 2) (kk := t)
      · walk_at "ev"
      · rfl
      · exact ix2
      · rfl
      · rfl
      · walk_at "var"
      · rfl
      · rfl
      · rw [List.length_map, H2.l3]; exact htn
      · walk_at "nob"
    rw [← List.map_set (f := lI)]
    refine ⟨eI i, eI p, eI t, .o .v (.lst ((srt (x ++ y)).map D.int)), ?_, rfl, rfl, rfl, rfl, H3⟩
    have e : stepL perm T (p, i) = ⟨T.lots, T.loads.set i ((srt (x ++ y)).take z), T.heaps.set t ((srt (x ++ y)).drop z), T.places.set i t⟩ := by
      simp only [stepL, getD_of ht, getD_of hx, getD_of hy, getD_of hz]
    rw [e]
    rfl
  · rintro ρ ⟨a, b, d, e, rfl, ha, hb, hd, he, H2⟩
    refine ⟨[.o smS (smD c (roundS S perm)), .x], ?_, rfl, rfl⟩
    have e1 : S.places.zipIdx.take (S.places.zipIdx.map fun q => E.o .v (.tup [.int (q.2 : Nat), iN q.1])).length = S.places.zipIdx := by
      rw [List.length_map, List.take_length]
    rw [e1]
    exact keep_sm
end W_k11
namespace W_k11
local macro_rules | `(tactic| walk_at "call") => `(tactic| first | (with_reducible assumption) | assumption)
local macro_rules | `(tactic| walk_at "fld") => `(tactic| first | (with_reducible exact ix0) | (with_reducible exact ix1) | (with_reducible exact ix2) | (with_reducible exact ix3))
def initS (lots : List Nat) (hs : List (List Int)) : Sm := ⟨lots, (lots.zip hs).map fun q => q.2.take q.1, (lots.zip hs).map fun q => q.2.drop q.1, List.range lots.length⟩
theorem keep_sm4 {c : Addr} {S : Sm} {a b d : E} : keepE [true, false] [.p smS (smD c S), a, b, d] = some [.o smS (smD c S), .x] := by
  simp only [keepE]
  rw [if_pos leaf_sm]
  rfl
theorem h_init {c : Addr} {lots : List Nat} {hs : List (List Int)} (h : lots.length = hs.length) (hl : hs.length ≤ 1000) :
    m_Simulation___init__ c [.o (.ob []) (.ob c [] []), eV (bD lots hs)] = .rt (eV .non) [.o smS (smD c (initS lots hs)), .x] := by
  apply fq_is
  apply fnq [.p (.ob []) (.ob c [] []), eV (bD lots hs), .x, .x]
  unfold d_Simulation___init__
  walk_at "go"
  apply sq_nx
  · apply nx_fld_new
    · walk_at "ev"
    · rfl
    · decide
    · rfl
    · rfl
  walk_at "go"
  apply sq_at (ρ1 := [.p (.ob [.l .v]) (.ob c ["lots"] [.lst (lots.map iN)]), eV (bD lots hs), .x, .x]) rfl
  have e1 : mLc (.l .v) [2, 3] (iZ true (mF fIx (a2 (mVar 1) (mC (.int 0)))) (mF fIx (a2 (mVar 1) (mC (.int 1))))) (gT [gN 2, gN 3]) (mC (.bl true)) (mF fList (aCons (mF fSl (a3 (mVar 3) (mC .non) (mInt (mVar 2)))) aNil)) [.p (.ob [.l .v]) (.ob c ["lots"] [.lst (lots.map iN)]), eV (bD lots hs), .x, .x]
      = .ok (.o (.l (.l .v)) (.lst ((lots.zip hs).map fun q => lI (q.2.take q.1)))) none := by
    walk_at "ev"
  have e2 : mLc (.l .v) [2, 3] (iZ true (mF fIx (a2 (mVar 1) (mC (.int 0)))) (mF fIx (a2 (mVar 1) (mC (.int 1))))) (gT [gN 2, gN 3]) (mC (.bl true)) (mF fList (aCons (mF fSl (a3 (mVar 3) (mInt (mVar 2)) (mC .non))) aNil)) [.p (.ob [.l .v, .l (.l .v)]) (.ob c ["lots", "loads"] [.lst (lots.map iN), .lst ((lots.zip hs).map fun q => lI (q.2.take q.1))]), eV (bD lots hs), .x, .x]
      = .ok (.o (.l (.l .v)) (.lst ((lots.zip hs).map fun q => lI (q.2.drop q.1)))) none := by
    walk_at "ev"
  apply sq_nx
  · apply nx_fld_new
    · exact e1
    · rfl
    · decide
    · decide +kernel
    · rfl
  walk_at "go"
  apply sq_at (ρ1 := [.p (.ob [.l .v, .l (.l .v)]) (.ob c ["lots", "loads"] [.lst (lots.map iN), .lst ((lots.zip hs).map fun q => lI (q.2.take q.1))]), eV (bD lots hs), .x, .x]) rfl
  apply sq_nx
  · apply nx_fld_new
    · exact e2
    · rfl
    · decide
    · decide +kernel
    · rfl
  apply sq_at (ρ1 := [.p (.ob [.l .v, .l (.l .v), .l (.l .v)]) (.ob c ["lots", "loads", "heaps"] [.lst (lots.map iN), .lst ((lots.zip hs).map fun q => lI (q.2.take q.1)), .lst ((lots.zip hs).map fun q => lI (q.2.drop q.1))]), eV (bD lots hs), .x, .x]) rfl
  apply sq_nx
  · apply nx_fld_new
    · apply mF_R
      · walk_at "args"
      · apply fRg1_l (n := lots.length)
        · rw [List.length_map]
        · omega
      · exact resE_nl
    · rfl
    · decide
    · decide +kernel
    · rfl
  refine ⟨[.o smS (smD c (initS lots hs)), .x], ?_, rfl, rfl⟩
  have e3 : smD c (initS lots hs) = .ob c ["lots", "loads", "heaps", "places"] [.lst (lots.map iN), .lst ((lots.zip hs).map fun q => lI (q.2.take q.1)), .lst ((lots.zip hs).map fun q => lI (q.2.drop q.1)), .lst ((List.range lots.length).map iN)] := by
    simp only [smD, smX, initS, List.map_map]; rfl
  have := keep_sm4 (c := c) (S := initS lots hs) (a := eV (bD lots hs)) (b := .x) (d := .x)
  rw [e3] at this ⊢
  exact this
theorem h_hold_load {c : Addr} {S : Sm} {card : Int} {l : Nat} {x : List Int} (hl : S.loads[l]? = some x) (hc : card ∈ x) (hno : ∀ (j : Nat) (y : List Int), j < l → S.loads[j]? = some y → card ∉ y) :
    m_Simulation_holder c [eV (smD c S), eI card] = .rt (eV (.tup [.str "load", iN l])) [.x, .x] := by
  apply fq_is
  apply fnq [eV (smD c S), eI card, .x, .x, .x]
  unfold d_Simulation_holder
  walk_at "go"
  apply sq_for (fun i ρ => i ≤ l ∧ ∃ a b, ρ = [eV (smD c S), eI card, a, b, .x] ∧ isOe' a ∧ isOe' b)
  · walk_at "it"
  · rfl
  · exact isOe_map
  · exact ⟨Nat.zero_le _, .x, .x, rfl, rfl, rfl⟩
  · rintro i e ρ hi ⟨hil, a, b, rfl, ha, hb⟩
    obtain ⟨y, hy, rfl⟩ : ∃ y, S.loads[i]? = some y ∧ e = .o .v (.tup [.int (i : Nat), lI y]) := by
      rw [List.getElem?_map] at hi
      cases hh : S.loads.zipIdx[i]? with
      | none => rw [hh] at hi; cases hi
      | some y =>
        rw [hh] at hi
        rw [List.getElem?_zipIdx] at hh
        cases h3 : S.loads[i]? with
        | none => rw [h3] at hh; cases hh
        | some h =>
          rw [h3] at hh
          cases hh
          exact ⟨h, rfl, by simpa using (Option.some.inj hi).symm⟩
    walk_at "go"
    · intro hb
      have hb : card ∈ y := by simpa using hb
      obtain rfl : i = l := by
        rcases Nat.lt_or_eq_of_le hil with h | h
        · exact absurd hb (hno i y h hy)
        · exact h
      walk_at "go"
      exact ⟨_, rfl, rfl, rfl, rfl, rfl⟩
    · intro hb
      have hb : card ∉ y := by simpa using hb
      walk_at "go"
      refine ⟨?_, _, _, rfl, rfl, rfl⟩
      rcases Nat.lt_or_eq_of_le hil with h | rfl
      · exact h
      · rw [hl] at hy; cases hy; exact absurd hc hb
  · rintro ρ ⟨hil, _⟩
    have := (List.getElem?_eq_some_iff.mp hl).1
    rw [List.length_map, List.length_zipIdx] at hil
    omega
theorem h_hold_heap {c : Addr} {S : Sm} {card : Int} {k : Nat} {x : List Int} (hl : ∀ y ∈ S.loads, card ∉ y) (hk : S.heaps[k]? = some x) (hc : card ∈ x) (hno : ∀ (j : Nat) (y : List Int), j < k → S.heaps[j]? = some y → card ∉ y) (hs : S.heaps.length ≤ 1000) :
    m_Simulation_holder c [eV (smD c S), eI card] = .rt (eV (.tup [.str "heap", iN k])) [.x, .x] := by
  have hf := atI_head (first_place S.heaps 0 k x hk hc hno)
  rw [Nat.zero_add] at hf
  apply fq_is
  apply fnq [eV (smD c S), eI card, .x, .x, .x]
  unfold d_Simulation_holder
  walk_at "go"
  apply sq_for (fun i ρ => ∃ a b, ρ = [eV (smD c S), eI card, a, b, .x] ∧ isOe' a ∧ isOe' b)
  · walk_at "it"
  · rfl
  · exact isOe_map
  · exact ⟨.x, .x, rfl, rfl, rfl⟩
  · rintro i e ρ hi ⟨a, b, rfl, ha, hb⟩
    obtain ⟨y, hy, rfl⟩ : ∃ y, S.loads[i]? = some y ∧ e = .o .v (.tup [.int (i : Nat), lI y]) := by
      rw [List.getElem?_map] at hi
      cases hh : S.loads.zipIdx[i]? with
      | none => rw [hh] at hi; cases hi
      | some y =>
        rw [hh] at hi
        rw [List.getElem?_zipIdx] at hh
        cases h3 : S.loads[i]? with
        | none => rw [h3] at hh; cases hh
        | some h =>
          rw [h3] at hh
          cases hh
          exact ⟨h, rfl, by simpa using (Option.some.inj hi).symm⟩
    have hny := hl y (List.mem_of_getElem? hy)
    walk_at "go"
    · intro hb
      exact absurd (by simpa using hb) hny
    · intro _
      walk_at "go"
      exact ⟨_, _, rfl, rfl, rfl⟩
  · rintro ρ ⟨a, b, rfl, ha, hb⟩
    apply sq_fg
    apply sq_at (ρ1 := [eV (smD c S), eI card, a, .x, .x]) rfl
    have e1 : mLc .v [4, 3] (iEn (mF (fFld c "heaps") (aCons (mVar 0) aNil))) (gT [gN 4, gN 3]) (mOp (inD false) (mVar 1) (mVar 3)) (mVar 4) [eV (smD c S), eI card, a, .x, .x]
        = .ok (.o (.l .v) (.lst (S.heaps.zipIdx.filterMap fun q => if decide (card ∈ q.1) = true then some (D.int (q.2 : Nat)) else none))) none := by
      apply lc_opt
      · walk_at "it"
      · rfl
      · simp; omega
      · intro q hq
        apply turn_t
        · rfl
        · walk_at "ev"
        · walk_at "var"
        · rfl
    walk_at "go"
    exact ⟨_, rfl, rfl, rfl, rfl, rfl⟩
end W_k11
namespace W_k11
local macro_rules | `(tactic| walk_at "call") => `(tactic| first | (with_reducible assumption) | assumption)
local macro_rules | `(tactic| walk_at "fld") => `(tactic| first | (with_reducible exact ix0) | (with_reducible exact ix1) | (with_reducible exact ix2) | (with_reducible exact ix3))
theorem eq_load : gEq (.str "load") (.str "load") = some (.bl true) := gEq_self (by decide +kernel)
theorem eq_heap : gEq (.str "heap") (.str "load") = some (.bl false) := by
  have h1 : okD 64 (.str "heap") = true ∧ okD 64 (.str "load") = true := ⟨by decide +kernel, by decide +kernel⟩
  have h2 : deq (.str "heap") (.str "load") = false := by decide +kernel
  unfold gEq
  rw [if_pos h1, h2]
theorem no_holder {c : Addr} {S : Sm} : isOb c "holder" (smD c S) = true := by
  have : idxOf "holder" smN = none := by decide +kernel
  simp [isOb, this]
theorem h_loc_load {c : Addr} {S : Sm} {card : Int} {l p : Nat} {x : List Int} (hl : S.loads[l]? = some x) (hc : card ∈ x) (hno : ∀ (j : Nat) (y : List Int), j < l → S.loads[j]? = some y → card ∉ y) (hp : S.places[l]? = some p) :
    m_Simulation_location c [eV (smD c S), eI card] = .rt (eV (.tup [.str "load", iN p])) [.x, .x] := by
  have h1 := h_hold_load (c := c) hl hc hno
  apply fq_is
  apply fnq [eV (smD c S), eI card, .x, .x]
  unfold d_Simulation_location
  apply sq_seq
  apply sq_asg
  · apply mMeth_at
    · walk_at "var"
    · rfl
    · exact no_holder
    · walk_at "ev"
  · rfl
  · rfl
  dsimp only
  apply sq_at (ρ1 := [eV (smD c S), eI card, eV (.str "load"), eI l]) rfl
  have h2 : mIfE (mOp gEq (mVar 2) (mC (.str "load"))) (mF fIx (a2 (mF (fFld c "places") (aCons (mVar 0) aNil)) (mVar 3))) (mVar 3) [eV (smD c S), eI card, eV (.str "load"), eI l] = .ok (eI p) none := by
    apply mIfE_b (b := true)
    · apply mOp_at
      · walk_at "args"
      · rfl
      · rfl
      · exact eq_load
    · intro _; walk_at "ev"
    · intro h; cases h
  walk_at "go"
  exact ⟨_, rfl, rfl, rfl, rfl, rfl⟩
theorem h_loc_heap {c : Addr} {S : Sm} {card : Int} {k : Nat} {x : List Int} (hl : ∀ y ∈ S.loads, card ∉ y) (hk : S.heaps[k]? = some x) (hc : card ∈ x) (hno : ∀ (j : Nat) (y : List Int), j < k → S.heaps[j]? = some y → card ∉ y) (hs : S.heaps.length ≤ 1000) :
    m_Simulation_location c [eV (smD c S), eI card] = .rt (eV (.tup [.str "heap", iN k])) [.x, .x] := by
  have h1 := h_hold_heap (c := c) hl hk hc hno hs
  apply fq_is
  apply fnq [eV (smD c S), eI card, .x, .x]
  unfold d_Simulation_location
  apply sq_seq
  apply sq_asg
  · apply mMeth_at
    · walk_at "var"
    · rfl
    · exact no_holder
    · walk_at "ev"
  · rfl
  · rfl
  dsimp only
  apply sq_at (ρ1 := [eV (smD c S), eI card, eV (.str "heap"), eI k]) rfl
  have h2 : mIfE (mOp gEq (mVar 2) (mC (.str "load"))) (mF fIx (a2 (mF (fFld c "places") (aCons (mVar 0) aNil)) (mVar 3))) (mVar 3) [eV (smD c S), eI card, eV (.str "heap"), eI k] = .ok (eI k) none := by
    apply mIfE_b (b := false)
    · apply mOp_at
      · walk_at "args"
      · rfl
      · rfl
      · exact eq_heap
    · intro h; cases h
    · intro _; walk_at "ev"
  walk_at "go"
  exact ⟨_, rfl, rfl, rfl, rfl, rfl⟩
/-- what location answers, as a relation -/
inductive LocS (S : Sm) (card : Int) : D → Prop
  | load {l p : Nat} {x : List Int} (hl : S.loads[l]? = some x) (hc : card ∈ x) (hno : ∀ (j : Nat) (y : List Int), j < l → S.loads[j]? = some y → card ∉ y) (hp : S.places[l]? = some p) : LocS S card (.tup [.str "load", iN p])
  | heap {k : Nat} {x : List Int} (hl : ∀ y ∈ S.loads, card ∉ y) (hk : S.heaps[k]? = some x) (hc : card ∈ x) (hno : ∀ (j : Nat) (y : List Int), j < k → S.heaps[j]? = some y → card ∉ y) : LocS S card (.tup [.str "heap", iN k])
theorem h_loc {c : Addr} {S : Sm} {card : Int} {d : D} (h : LocS S card d) (hs : S.heaps.length ≤ 1000) : m_Simulation_location c [eV (smD c S), eI card] = .rt (eV d) [.x, .x] := by
  cases h with
  | load h1 h2 h3 h4 => exact h_loc_load h1 h2 h3 h4
  | heap h1 h2 h3 h4 => exact h_loc_heap h1 h2 h3 h4 hs
theorem LocS.imm {S : Sm} {card : Int} {d : D} (h : LocS S card d) : imm d = true := by cases h <;> rfl
theorem no_loc {c : Addr} {S : Sm} : isOb c "location" (smD c S) = true := by
  have : idxOf "location" smN = none := by decide +kernel
  simp [isOb, this]
theorem no_apr {c : Addr} {S : Sm} : isOb c "apply_round" (smD c S) = true := by
  have : idxOf "apply_round" smN = none := by decide +kernel
  simp [isOb, this]
theorem SOk.init {lots : List Nat} {hs : List (List Int)} (B : BOk lots hs) (hh : hs.flatten.length ≤ 10000) : SOk hs.length (initS lots hs) := by
  have hl := B.len
  have hsm : ∀ h ∈ hs, h.length ≤ 10000 := fun h hm => Nat.le_trans (List.Sublist.length_le (List.sublist_flatten_of_mem hm)) hh
  refine ⟨hl, by simp [initS, hl], by simp [initS, hl], by simp [initS, hl], ?_, ?_, ?_, by simp [initS, hl]⟩
  · intro i l x h1 h2
    simp only [initS, List.getElem?_map] at h2
    cases h3 : (lots.zip hs)[i]? with
    | none => rw [h3] at h2; cases h2
    | some q =>
      rw [h3] at h2
      cases h2
      rw [List.getElem?_zip_eq_some] at h3
      have h1' : lots[i]? = some l := h1
      rw [h3.1] at h1'
      cases h1'
      have := B.fits i _ _ h3.1 h3.2
      show (List.take q.1 q.2).length = q.1
      rw [List.length_take]; omega
  · intro l hm
    obtain ⟨i, hi⟩ := List.getElem?_of_mem hm
    have hi2 : i < hs.length := by rw [← hl]; exact (List.getElem?_eq_some_iff.mp hi).1
    have := B.fits i l _ hi (List.getElem?_eq_getElem hi2)
    have := hsm _ (List.getElem_mem hi2)
    omega
  · intro h hm
    simp only [initS] at hm
    obtain ⟨q, hq, rfl⟩ := List.mem_map.mp hm
    have := hsm _ (List.of_mem_zip hq).2
    rw [List.length_drop]; omega
local macro_rules | `(tactic| walk_at "ob") => `(tactic| first | (with_reducible exact no_holder) | (with_reducible exact no_loc) | (with_reducible exact no_apr))
theorem SOk.round {n : Nat} {S : Sm} {perm : List Nat} (H : SOk n S) (hp : IsR n perm) : SOk n (roundS S perm) := by
  have key : ∀ (l : List (Nat × Nat)) (T : Sm), (∀ q ∈ l, q.1 < n ∧ q.2 < n) → SOk n T → SOk n (l.foldl (stepL perm) T) := by
    intro l
    induction l with
    | nil => intro T _ hT; exact hT
    | cons q l ih =>
      intro T hq hT
      have := hq q List.mem_cons_self
      exact ih _ (fun q hm => hq q (List.mem_cons_of_mem _ hm)) (hT.step hp this.1 this.2)
  refine key _ _ (fun q hm => ?_) H
  have h1 := List.mem_zipIdx hm
  refine ⟨H.pb _ (List.fst_mem_of_mem_zipIdx hm), ?_⟩
  have := h1.2.1
  rw [H.l4] at this
  omega
theorem SOk.rounds {n : Nat} {pl : List (List Nat)} {S : Sm} (H : SOk n S) (hp : ∀ p ∈ pl, IsR n p) : SOk n (pl.foldl roundS S) := by
  induction pl generalizing S with
  | nil => exact H
  | cons p pl ih => exact ih (H.round (hp p List.mem_cons_self)) fun q hq => hp q (List.mem_cons_of_mem _ hq)
theorem leaf_locs {l : List Nat} {f : Nat → D} (h : ∀ i ∈ l, imm (f i) = true) : leaf (.l .v) (.lst (l.map f)) = true := by
  rw [leaf, leafA_all, List.all_map]
  exact List.all_eq_true.mpr fun x hx => by simp [leaf, h x hx]
/-- track_card -/
theorem h_track {c : Addr} {lots : List Nat} {hs : List (List Int)} {pl : List (List Nat)} {card : Int} {locs : Nat → D} (B : BOk lots hs) (hh : hs.flatten.length ≤ 10000) (hl : hs.length ≤ 1000) (hpl : pl.length ≤ 10000) (hp : ∀ p ∈ pl, IsR hs.length p) (hc : card ∈ hs.flatten)
    (hloc : ∀ i, i ≤ pl.length → LocS ((pl.take i).foldl roundS (initS lots hs)) card (locs i)) :
    m_track_card c [eV (bD lots hs), eV (.lst (pl.map tN)), eI card] = .rt (.o (.l .v) (.lst ((List.range (pl.length + 1)).map locs))) [.x, .x, .x] := by
  have h1 := h_rboard B hh hl
  have h2 : m_require_plan [eI ((lots.map iN).length : Nat), eV (.lst (pl.map tN))] = .rt (eV .non) [.x, .x] := by
    rw [List.length_map, B.len]
    exact h_rplan B.pos hl hpl hp
  have h3 := h_rcard (lots := lots) hc hl
  have h4 := h_init (c := c) B.len hl
  have hS : ∀ i, i ≤ pl.length → SOk hs.length ((pl.take i).foldl roundS (initS lots hs)) := by
    intro i _
    exact SOk.rounds (SOk.init B hh) fun p hm => hp p (List.mem_of_mem_take hm)
  have h5 := h_loc (c := c) (hloc 0 (Nat.zero_le _)) (by rw [(hS 0 (Nat.zero_le _)).l3]; exact hl)
  simp only [List.take_zero, List.foldl_nil] at h5
  apply fq_is
  apply fnq [eV (bD lots hs), eV (.lst (pl.map tN)), eI card, .x, .x, .x]
  unfold d_track_card
  walk_at "go"
  apply sq_at (ρ1 := [eV (bD lots hs), eV (.lst (pl.map tN)), eI card, .o smS (smD c (initS lots hs)), .o (.l .v) (.lst ((List.range (0 + 1)).map locs)), .x]) rfl
  apply sq_for (fun i ρ => ∃ a, ρ = [eV (bD lots hs), eV (.lst (pl.map tN)), eI card, .o smS (smD c ((pl.take i).foldl roundS (initS lots hs))), .o (.l .v) (.lst ((List.range (i + 1)).map locs)), a] ∧ isOe' a)
  · walk_at "it"
  · rfl
  · exact isOe_map
  · exact ⟨.x, rfl, rfl⟩
  · rintro i e ρ hi ⟨a, rfl, ha⟩
    obtain ⟨p, hpi, rfl⟩ : ∃ p, pl[i]? = some p ∧ e = .o .v (tN p) := by
      rw [List.getElem?_map] at hi
      cases hh : pl[i]? with
      | none => rw [hh] at hi; cases hi
      | some y => rw [hh] at hi; exact ⟨y, rfl, (Option.some.inj hi).symm⟩
    have hil : i < pl.length := (List.getElem?_eq_some_iff.mp hpi).1
    have hpR := hp p (List.mem_of_getElem? hpi)
    have htk : (pl.take (i + 1)).foldl roundS (initS lots hs) = roundS ((pl.take i).foldl roundS (initS lots hs)) p := by
      rw [List.take_add_one, hpi, List.foldl_append]; rfl
    have h6 := h_apply (c := c) (hS i (by omega)) hpR hl
    have hloc' := hloc (i + 1) (by omega)
    have h7 := h_loc (c := c) hloc' (by rw [(hS (i + 1) (by omega)).l3]; exact hl)
    rw [← htk] at h6
    generalize (pl.take i).foldl roundS (initS lots hs) = S at h6
    generalize (pl.take (i + 1)).foldl roundS (initS lots hs) = S' at h6 h7 hloc'
    walk_at "go"
    have happ : (List.range (i + 1)).map locs ++ [locs (i + 1)] = (List.range (i + 1 + 1)).map locs := by
      rw [List.range_succ (n := i + 1), List.map_append]; rfl
    apply sq_expr
    · apply mMut_append (i := 4) (pp := []) (s := .v) (d := locs (i + 1)) (ρ2 := [eV (bD lots hs), eV (.lst (pl.map tN)), eI card, .o smS (smD c S'), .o (.l .v) (.lst ((List.range (i + 1 + 1)).map locs)), eV (tN p)])
      · rfl
      · rfl
      · walk_at "ev"
      · rfl
      · rfl
      · rfl
      · rfl
      · rfl
      · simp; omega
      · rw [← happ]; rfl
    · rfl
    exact ⟨_, rfl, rfl⟩
  · rintro ρ ⟨a, rfl, ha⟩
    rw [List.length_map]
    walk_at "go"
    refine ⟨_, leaf_locs fun i hi => (hloc i (by simp at hi; omega)).imm, rfl, rfl, rfl, rfl⟩
end W_k11
namespace W_k11
local macro_rules | `(tactic| walk_at "call") => `(tactic| first | (with_reducible assumption) | assumption)
def playStep (lots : List Nat) (hs : List (List Int)) (acc : List Nat × List (List Int)) (q : Nat × Nat) : List Nat × List (List Int) :=
  (acc.1.set q.1 (lots.getD q.2 0), acc.2.set q.1 (acc.2.getD q.1 [] ++ (hs.getD q.2 []).take (lots.getD q.2 0)))
def play0 (lots : List Nat) (hs : List (List Int)) : List Nat × List (List Int) := (List.replicate lots.length 0, hs.zipIdx.map fun q => q.1.drop (lots.getD q.2 0))
def playF (lots : List Nat) (hs : List (List Int)) (perm : List Nat) : List Nat × List (List Int) := perm.zipIdx.foldl (playStep lots hs) (play0 lots hs)
def playR (b : List Nat × List (List Int)) (perm : List Nat) : List Nat × List (List Int) := ((playF b.1 b.2 perm).1, (playF b.1 b.2 perm).2.map srt)
theorem play_len {lots : List Nat} {hs : List (List Int)} : ∀ (l : List (Nat × Nat)) (acc : List Nat × List (List Int)), (l.foldl (playStep lots hs) acc).1.length = acc.1.length ∧ (l.foldl (playStep lots hs) acc).2.length = acc.2.length
  | [], acc => ⟨rfl, rfl⟩
  | q :: l, acc => by
    obtain ⟨h1, h2⟩ := play_len (lots := lots) (hs := hs) l (playStep lots hs acc q)
    rw [List.foldl_cons, h1, h2]
    simp [playStep]
theorem h_pround {lots : List Nat} {hs : List (List Int)} {perm : List Nat} (h : lots.length = hs.length) (hl : hs.length ≤ 1000) (hp : IsR hs.length perm) (hsm : ∀ h ∈ hs, h.length ≤ 10000) :
    m__law_play_round [eV (bD lots hs), eV (tN perm)] = .rt (eV (bD (playR (lots, hs) perm).1 (playR (lots, hs) perm).2)) [.x, .x] := by
  have hpl : perm.length = hs.length := by have := hp.length_eq; simpa using this
  apply fq_is
  apply fnq [eV (bD lots hs), eV (tN perm), .x, .x, .x, .x, .x, .x, .x]
  unfold d__law_play_round
  walk_at "go"
  have hrep : List.replicate (lots.map iN).length (D.int 0) = (List.replicate lots.length 0).map iN := by
    rw [List.length_map, List.map_replicate]; rfl
  rw [hrep]
  apply sq_at (ρ1 := [eV (bD lots hs), eV (tN perm), eV (tN lots), eV (hD hs), .o (.l .v) (.lst ((play0 lots hs).1.map iN)), .x, .x, .x, .x]) rfl
  have e1 : mLc .v [5, 8] (iEn (mVar 3)) (gT [gN 5, gN 8]) (mC (.bl true)) (mF fList (aCons (mF fSl (a3 (mVar 8) (mInt (mF fIx (a2 (mVar 2) (mVar 5)))) (mC .non))) aNil)) [eV (bD lots hs), eV (tN perm), eV (tN lots), eV (hD hs), .o (.l .v) (.lst ((play0 lots hs).1.map iN)), .x, .x, .x, .x]
      = .ok (.o (.l .v) (.lst ((play0 lots hs).2.map lI))) none := by
    have : (play0 lots hs).2.map lI = hs.zipIdx.map fun q => lI (q.1.drop (lots.getD q.2 0)) := by simp [play0, List.map_map]
    rw [this]
    apply lc_map
    · walk_at "it"
    · rfl
    · simp; omega
    · intro q hq
      have hq2 := zipIdx_get hq
      have hq3 : lots[q.2]? = some (lots.getD q.2 0) := by
        have : q.2 < lots.length := by rw [h]; exact (List.getElem?_eq_some_iff.mp hq2).1
        simp [List.getD, List.getElem?_eq_getElem this]
      apply turn_p
      · rfl
      · rfl
      · walk_at "ev"
      · rfl
  walk_at "go"
  apply sq_for (fun i ρ => ∃ a b, ρ = [eV (bD lots hs), eV (tN perm), eV (tN lots), eV (hD hs), .o (.l .v) (.lst (((perm.zipIdx.take i).foldl (playStep lots hs) (play0 lots hs)).1.map iN)), a, .o (.l .v) (.lst (((perm.zipIdx.take i).foldl (playStep lots hs) (play0 lots hs)).2.map lI)), b, .x] ∧ isOe' a ∧ isOe' b ∧ ∀ x ∈ ((perm.zipIdx.take i).foldl (playStep lots hs) (play0 lots hs)).2, x.length ≤ (i + 1) * 10000)
  · walk_at "it"
  · rfl
  · exact isOe_map
  · refine ⟨.x, .x, rfl, rfl, rfl, fun x hx => ?_⟩
    simp only [List.take_zero, List.foldl_nil, play0] at hx
    obtain ⟨q, hq, rfl⟩ := List.mem_map.mp hx
    have := hsm q.1 (List.fst_mem_of_mem_zipIdx hq)
    rw [List.length_drop]; omega
  · rintro i e ρ hi ⟨a, b, rfl, ha, hb, hx⟩
    obtain ⟨t, hti, rfl⟩ := zip_item (f := fun t i => .tup [.int (i : Nat), iN t]) hi
    have htn : t < hs.length := by simpa using hp.mem_iff.mp (List.mem_of_getElem? hti)
    have hin : i < hs.length := by rw [← hpl]; exact (List.getElem?_eq_some_iff.mp hti).1
    have hle := play_len (lots := lots) (hs := hs) (perm.zipIdx.take i) (play0 lots hs)
    have htk : (perm.zipIdx.take (i + 1)).foldl (playStep lots hs) (play0 lots hs) = playStep lots hs ((perm.zipIdx.take i).foldl (playStep lots hs) (play0 lots hs)) (t, i) := by
      have : perm.zipIdx[i]? = some (t, i) := by rw [List.getElem?_zipIdx, hti]; simp
      rw [List.take_add_one, this, List.foldl_append]; rfl
    rw [htk]
    generalize (perm.zipIdx.take i).foldl (playStep lots hs) (play0 lots hs) = acc at hx hle
    have hl1 : acc.1.length = hs.length := by rw [hle.1]; simp [play0, h]
    have hl2 : acc.2.length = hs.length := by rw [hle.2]; simp [play0]
    obtain ⟨l, hl'⟩ : ∃ l, lots[i]? = some l := ⟨_, List.getElem?_eq_getElem (by omega)⟩
    obtain ⟨x, hxt⟩ : ∃ x, acc.2[t]? = some x := ⟨_, List.getElem?_eq_getElem (by omega)⟩
    obtain ⟨y, hyi⟩ : ∃ y, hs[i]? = some y := ⟨_, List.getElem?_eq_getElem hin⟩
    have hyl := hsm y (List.mem_of_getElem? hyi)
    have hxl := hx x (List.mem_of_getElem? hxt)
    have hi1 : (i + 1) * 10000 ≤ 1000 * 10000 := Nat.mul_le_mul_right _ (by omega)
    have hst : playStep lots hs acc (t, i) = (acc.1.set t l, acc.2.set t (x ++ y.take l)) := by
      simp only [playStep, getD_of hl', getD_of hxt, getD_of hyi]
    rw [hst]
    walk_at "go"
    apply sq_nx
    · apply nx_itm_o (kk := t)
      · walk_at "ev"
      · rfl
      · walk_at "var"
      · rfl
      · rfl
      · rw [List.length_map]; omega
      · walk_at "nob"
    rw [← List.map_set (f := iN)]
    apply sq_nx
    · apply nx_itm_o (kk := t)
      · walk_at "ev"
      · rfl
      · walk_at "var"
      · rfl
      · rfl
      · rw [List.length_map]; omega
      · walk_at "nob"
    rw [← List.map_set (f := lI)]
    refine ⟨eI i, eI t, rfl, rfl, rfl, fun z hz => ?_⟩
    rcases List.mem_or_eq_of_mem_set hz with hz | rfl
    · exact Nat.le_trans (hx z hz) (Nat.mul_le_mul_right _ (Nat.le_succ _))
    · rw [List.length_append, List.length_take]
      have h1 : min l y.length ≤ 10000 := Nat.le_trans (Nat.min_le_right _ _) hyl
      have h2 := Nat.add_le_add hxl h1
      rw [Nat.succ_mul (i + 1)]
      exact h2
  · rintro ρ ⟨a, b, rfl, ha, hb, hx⟩
    have e2 : perm.zipIdx.take (perm.zipIdx.map fun q => E.o .v (.tup [.int (q.2 : Nat), iN q.1])).length = perm.zipIdx := by
      rw [List.length_map, List.take_length]
    rw [e2]
    have hle := play_len (lots := lots) (hs := hs) perm.zipIdx (play0 lots hs)
    have hl2 : (playF lots hs perm).2.length = hs.length := by unfold playF; rw [hle.2]; simp [play0]
    have e3 : mLc .v [8] (iSeq (mVar 6)) (gN 8) (mC (.bl true)) (mF fTuple (aCons (mF fSorted (aCons (mVar 8) aNil)) aNil)) [eV (bD lots hs), eV (tN perm), eV (tN lots), eV (hD hs), .o (.l .v) (.lst ((perm.zipIdx.foldl (playStep lots hs) (play0 lots hs)).1.map iN)), a, .o (.l .v) (.lst ((perm.zipIdx.foldl (playStep lots hs) (play0 lots hs)).2.map lI)), b, .x]
        = .ok (.o (.l .v) (.lst (((playF lots hs perm).2.map srt).map tI))) none := by
      rw [List.map_map]
      apply lc_map (ca := fun h => E.b (lI h)) (f := fun h => tI (srt h))
      · apply iSeq_bm
        · walk_at "var"
        · intro x; rfl
      · rfl
      · show (playF lots hs perm).2.length ≤ _
        omega
      · intro x hx
        apply turn_p
        · rfl
        · rfl
        · walk_at "ev"
        · rfl
    walk_at "go"
    exact ⟨_, imm_bD (lots := (playR (lots, hs) perm).1) (hs := (playR (lots, hs) perm).2), rfl, rfl, rfl, rfl⟩
abbrev bB (b : List Nat × List (List Int)) : D := bD b.1 b.2
/-- the boards of a play are boards -/
structure PlayOk (n : Nat) (b : List Nat × List (List Int)) : Prop where
  len : b.1.length = b.2.length
  n : b.2.length = n
  small : ∀ h ∈ b.2, h.length ≤ 10000
theorem h_play {n : Nat} {b : List Nat × List (List Int)} {pl : List (List Nat)} (hn : n ≤ 1000) (hp : ∀ p ∈ pl, IsR n p) (hok : ∀ i, i ≤ pl.length → PlayOk n ((pl.take i).foldl playR b)) :
    m__law_play [eV (bB b), eV (.lst (pl.map tN))] = .rt (eV (bB (pl.foldl playR b))) [.x, .x] := by
  apply fq_is
  apply fnq [eV (bB b), eV (.lst (pl.map tN)), .x]
  unfold d__law_play
  walk_at "go"
  apply sq_for (fun i ρ => ∃ a, ρ = [eV (bB ((pl.take i).foldl playR b)), eV (.lst (pl.map tN)), a] ∧ isOe' a)
  · walk_at "it"
  · rfl
  · exact isOe_map
  · exact ⟨.x, rfl, rfl⟩
  · rintro i e ρ hi ⟨a, rfl, ha⟩
    obtain ⟨p, hpi, rfl⟩ := map_item (f := tN) hi
    have hil : i < pl.length := (List.getElem?_eq_some_iff.mp hpi).1
    have hb := hok i (by omega)
    have h1 := h_pround (lots := ((pl.take i).foldl playR b).1) (hs := ((pl.take i).foldl playR b).2) (perm := p) hb.len (by rw [hb.n]; exact hn) (by rw [hb.n]; exact hp p (List.mem_of_getElem? hpi)) hb.small
    have htk : (pl.take (i + 1)).foldl playR b = playR ((pl.take i).foldl playR b) p := by
      rw [List.take_add_one, hpi, List.foldl_append]; rfl
    rw [htk]
    generalize (pl.take i).foldl playR b = B at h1
    generalize hB : playR B p = B' at h1
    have h2 : m__law_play_round [eV (bB B), eV (tN p)] = .rt (eV (bB B')) [.x, .x] := by rw [← hB] at h1 ⊢; exact h1
    clear h1 hB
    walk_at "go"
    exact ⟨_, rfl, rfl⟩
  · rintro ρ ⟨a, rfl, ha⟩
    rw [List.length_map, List.take_length]
    walk_at "go"
    exact ⟨_, imm_bD (lots := (pl.foldl playR b).1) (hs := (pl.foldl playR b).2), rfl, rfl, rfl, rfl⟩
/-- what the law's location answers -/
inductive LocL (b : List Nat × List (List Int)) (card : Int) : D → Prop
  | mk {k l : Nat} {x : List Int} (hk : b.2[k]? = some x) (hc : card ∈ x) (hno : ∀ (j : Nat) (y : List Int), j < k → b.2[j]? = some y → card ∉ y) (hl : b.1[k]? = some l) : LocL b card (.tup [.str (if card ∈ x.take l then "load" else "heap"), iN k])
theorem h_lloc {b : List Nat × List (List Int)} {card : Int} {d : D} (h : LocL b card d) (hs : b.2.length ≤ 1000) : m__law_location [eV (bB b), eI card] = .rt (eV d) [.x, .x] := by
  obtain ⟨hk, hc, hno, hl⟩ := h
  rename_i k l x
  have hf := atI_head (first_place b.2 0 k x hk hc hno)
  rw [Nat.zero_add] at hf
  apply fq_is
  apply fnq [eV (bB b), eI card, .x, .x, .x, .x]
  unfold d__law_location
  have e1 : mLc .v [4, 5] (iEn (mF fIx (a2 (mVar 0) (mC (.int 1))))) (gT [gN 4, gN 5]) (mOp (inD false) (mVar 1) (mVar 5)) (mVar 4) [eV (bB b), eI card, .x, .x, .x, .x]
      = .ok (.o (.l .v) (.lst (b.2.zipIdx.filterMap fun q => if decide (card ∈ q.1) = true then some (D.int (q.2 : Nat)) else none))) none := by
    apply lc_opt
    · walk_at "it"
    · rfl
    · simp; omega
    · intro q hq
      apply turn_t
      · rfl
      · walk_at "ev"
      · walk_at "var"
      · rfl
  walk_at "go"
  refine ⟨_, ?_, rfl, rfl, ?_, rfl⟩
  · split <;> rfl
  · by_cases hcl : card ∈ x.take l
    · simp [hcl]
    · simp [hcl]
theorem h_cards {b : List Nat × List (List Int)} (h0 : 0 < b.2.length) (hl : b.2.length ≤ 1000) (hf : b.2.flatten.length ≤ 10000) : m__law_all_cards [eV (bB b)] = .rt (.o (.l .v) (.lst ((srt b.2.flatten).map D.int))) [.x] := by
  apply fq_is
  apply fnq [eV (bB b), .x]
  unfold d__law_all_cards
  have e1 : mF fSumL (a2 (mLc .v [1] (iSeq (mF fIx (a2 (mVar 0) (mC (.int 1))))) (gN 1) (mC (.bl true)) (mF fList (aCons (mVar 1) aNil))) (mF fLst aNil)) [eV (bB b), .x] = .ok (.o (.l .v) (.lst (b.2.flatten.map D.int))) none := by
    apply mF_R
    · walk_at "args"
    · have := fSumL_m (l := b.2) (h := fun h => h) (s := .l .v) h0 (by simpa using hf)
      rw [List.map_id'] at this
      exact this
    · exact resE_nl
  walk_at "go"
  exact ⟨_, leaf_l fun _ => rfl, rfl, rfl, rfl, rfl⟩
end W_k11
namespace W_k11
/-! ### rows of places -/
theorem IsR.len {n : Nat} {p : List Nat} (h : IsR n p) : p.length = n := by have := h.length_eq; simpa using this
theorem IsR.lt {n i t : Nat} {p : List Nat} (h : IsR n p) (hi : p[i]? = some t) : t < n := by simpa using h.mem_iff.mp (List.mem_of_getElem? hi)
theorem IsR.inj {n i j t : Nat} {p : List Nat} (h : IsR n p) (hi : p[i]? = some t) (hj : p[j]? = some t) : i = j := by
  have hn : p.Nodup := (List.Perm.nodup_iff h).mpr List.nodup_range
  have h1 := (List.getElem?_eq_some_iff.mp hi)
  have h2 := (List.getElem?_eq_some_iff.mp hj)
  exact (List.getElem_inj hn).mp (h1.2.trans h2.2.symm)
theorem IsR.at {n : Nat} {p : List Nat} (h : IsR n p) {i : Nat} (hi : i < n) : ∃ t, p[i]? = some t := ⟨_, List.getElem?_eq_getElem (by rw [h.len]; exact hi)⟩
theorem IsR.find {n t : Nat} {p : List Nat} (h : IsR n p) (ht : t < n) : ∃ i, i < n ∧ p[i]? = some t := by
  have : t ∈ p := h.mem_iff.mpr (by simpa using ht)
  obtain ⟨i, hi⟩ := List.getElem?_of_mem this
  exact ⟨i, by rw [← h.len]; exact (List.getElem?_eq_some_iff.mp hi).1, hi⟩
theorem IsR.of_map {n : Nat} {p q : List Nat} (h1 : p.length = n) (h2 : q.length = n) (hp : IsR n p) (hq : IsR n q) {r : List Nat} (hr : r.length = n) (h : ∀ (i p' t : Nat), p[i]? = some p' → q[p']? = some t → r[i]? = some t) : IsR n r := by
  have e : r = p.map fun i => q.getD i 0 := by
    refine List.ext_getElem? fun i => ?_
    rw [List.getElem?_map]
    by_cases hi : i < n
    · obtain ⟨p', hp'⟩ := hp.at hi
      obtain ⟨t, ht⟩ := hq.at (hp.lt hp')
      rw [h i p' t hp' ht, hp']
      simp [List.getD, ht]
    · rw [List.getElem?_eq_none (by omega), List.getElem?_eq_none (by omega)]; rfl
  have e2 : q = (List.range n).map fun i => q.getD i 0 := by
    refine List.ext_getElem? fun i => ?_
    rw [List.getElem?_map]
    by_cases hi : i < n
    · rw [List.getElem?_range hi]
      obtain ⟨t, ht⟩ := hq.at hi
      simp [List.getD, ht]
    · rw [List.getElem?_eq_none (by omega), List.getElem?_eq_none (by simpa using hi)]; rfl
  have h3 : r.Perm q := by
    rw [e]
    conv => rhs; rw [e2]
    exact hp.map _
  exact h3.trans hq
/-! ### a round of the simulation, in closed form -/
structure RInv (S : Sm) (perm : List Nat) (i : Nat) (T : Sm) : Prop where
  lots : T.lots = S.lots
  done : ∀ l p t x y z, l < i → S.places[l]? = some p → perm[p]? = some t → S.loads[l]? = some x → S.heaps[t]? = some y → S.lots[l]? = some z →
    T.places[l]? = some t ∧ T.loads[l]? = some ((srt (x ++ y)).take z) ∧ T.heaps[t]? = some ((srt (x ++ y)).drop z)
  rest : ∀ l, i ≤ l → T.places[l]? = S.places[l]? ∧ T.loads[l]? = S.loads[l]?
  heap : ∀ t, (∀ l p, l < i → S.places[l]? = some p → perm[p]? ≠ some t) → T.heaps[t]? = S.heaps[t]?
theorem RInv.all {n : Nat} {S : Sm} {perm : List Nat} (H : SOk n S) (hpl : IsR n S.places) (hp : IsR n perm) : ∀ i, i ≤ n → SOk n ((S.places.zipIdx.take i).foldl (stepL perm) S) ∧ RInv S perm i ((S.places.zipIdx.take i).foldl (stepL perm) S)
  | 0, _ => ⟨H, rfl, fun l p t x y z h => absurd h (Nat.not_lt_zero _), fun l _ => ⟨rfl, rfl⟩, fun t _ => rfl⟩
  | i + 1, hi => by
    obtain ⟨K, R⟩ := RInv.all H hpl hp i (by omega)
    obtain ⟨p, hpi⟩ := hpl.at (show i < n by omega)
    obtain ⟨t, ht⟩ := hp.at (hpl.lt hpi)
    have htn := hp.lt ht
    obtain ⟨x, hx⟩ : ∃ x, S.loads[i]? = some x := ⟨_, List.getElem?_eq_getElem (by rw [H.l2]; omega)⟩
    obtain ⟨y, hy⟩ : ∃ y, S.heaps[t]? = some y := ⟨_, List.getElem?_eq_getElem (by rw [H.l3]; omega)⟩
    obtain ⟨z, hz⟩ : ∃ z, S.lots[i]? = some z := ⟨_, List.getElem?_eq_getElem (by rw [H.l1]; omega)⟩
    have htk : (S.places.zipIdx.take (i + 1)).foldl (stepL perm) S = stepL perm ((S.places.zipIdx.take i).foldl (stepL perm) S) (p, i) := by
      have : S.places.zipIdx[i]? = some (p, i) := by rw [List.getElem?_zipIdx, hpi]; simp
      rw [List.take_add_one, this, List.foldl_append]; rfl
    rw [htk]
    generalize (S.places.zipIdx.take i).foldl (stepL perm) S = T at K R
    refine ⟨K.step hp (hpl.lt hpi) (by omega), ?_⟩
    have hxT : T.loads[i]? = some x := by rw [(R.rest i (Nat.le_refl _)).2]; exact hx
    have hyT : T.heaps[t]? = some y := by
      rw [R.heap t fun l p' hl hp' hc => ?_]
      · exact hy
      · have := hp.inj hc ht
        subst this
        have := hpl.inj hp' hpi
        omega
    have hzT : T.lots[i]? = some z := by rw [R.lots]; exact hz
    have e : stepL perm T (p, i) = ⟨T.lots, T.loads.set i ((srt (x ++ y)).take z), T.heaps.set t ((srt (x ++ y)).drop z), T.places.set i t⟩ := by
      simp only [stepL, getD_of ht, getD_of hxT, getD_of hyT, getD_of hzT]
    rw [e]
    refine ⟨R.lots, ?_, ?_, ?_⟩
    · intro l p' t' x' y' z' hl h1 h2 h3 h4 h5
      by_cases hli : l = i
      · subst hli
        rw [hpi] at h1; cases h1
        rw [ht] at h2; cases h2
        rw [hx] at h3; cases h3
        rw [hy] at h4; cases h4
        rw [hz] at h5; cases h5
        exact ⟨List.getElem?_set_self (by rw [K.l4]; omega), List.getElem?_set_self (by rw [K.l2]; omega), List.getElem?_set_self (by rw [K.l3]; omega)⟩
      · have hne : t ≠ t' := by
          rintro rfl
          have := hp.inj h2 ht
          subst this
          exact hli (hpl.inj h1 hpi)
        obtain ⟨a, b, c⟩ := R.done l p' t' x' y' z' (by omega) h1 h2 h3 h4 h5
        exact ⟨by rw [List.getElem?_set_ne (Ne.symm hli)]; exact a, by rw [List.getElem?_set_ne (Ne.symm hli)]; exact b, by rw [List.getElem?_set_ne hne]; exact c⟩
    · intro l hl
      have := R.rest l (by omega)
      exact ⟨by rw [List.getElem?_set_ne (by omega)]; exact this.1, by rw [List.getElem?_set_ne (by omega)]; exact this.2⟩
    · intro t' ht'
      have hne : t ≠ t' := by
        rintro rfl
        exact ht' i p (by omega) hpi ht
      rw [List.getElem?_set_ne hne]
      exact R.heap t' fun l p' hl => ht' l p' (by omega)
/-! ### a round of the law, in closed form -/
structure PInv (lots : List Nat) (hs : List (List Int)) (perm : List Nat) (i : Nat) (acc : List Nat × List (List Int)) : Prop where
  l1 : acc.1.length = hs.length
  l2 : acc.2.length = hs.length
  done : ∀ p t l x k y, p < i → perm[p]? = some t → lots[p]? = some l → hs[p]? = some x → lots[t]? = some k → hs[t]? = some y → acc.1[t]? = some l ∧ acc.2[t]? = some (y.drop k ++ x.take l)
  rest : ∀ t k y, (∀ p, p < i → perm[p]? ≠ some t) → lots[t]? = some k → hs[t]? = some y → acc.2[t]? = some (y.drop k)
theorem PInv.all {lots : List Nat} {hs : List (List Int)} {perm : List Nat} (h : lots.length = hs.length) (hp : IsR hs.length perm) : ∀ i, i ≤ hs.length → PInv lots hs perm i ((perm.zipIdx.take i).foldl (playStep lots hs) (play0 lots hs))
  | 0, _ => ⟨by simp [play0, h], by simp [play0], fun p t l x k y h => absurd h (Nat.not_lt_zero _), fun t k y _ h1 h2 => by
      simp [play0, List.getElem?_zipIdx, h2, List.getD, h1]⟩
  | i + 1, hi => by
    have R := PInv.all h hp i (by omega)
    obtain ⟨t, ht⟩ := hp.at (show i < hs.length by omega)
    have htn := hp.lt ht
    obtain ⟨l, hl⟩ : ∃ x, lots[i]? = some x := ⟨_, List.getElem?_eq_getElem (by omega)⟩
    obtain ⟨x, hx⟩ : ∃ x, hs[i]? = some x := ⟨_, List.getElem?_eq_getElem (by omega)⟩
    obtain ⟨k, hk⟩ : ∃ x, lots[t]? = some x := ⟨_, List.getElem?_eq_getElem (by omega)⟩
    obtain ⟨y, hy⟩ : ∃ x, hs[t]? = some x := ⟨_, List.getElem?_eq_getElem (by omega)⟩
    have htk : (perm.zipIdx.take (i + 1)).foldl (playStep lots hs) (play0 lots hs) = playStep lots hs ((perm.zipIdx.take i).foldl (playStep lots hs) (play0 lots hs)) (t, i) := by
      have : perm.zipIdx[i]? = some (t, i) := by rw [List.getElem?_zipIdx, ht]; simp
      rw [List.take_add_one, this, List.foldl_append]; rfl
    rw [htk]
    generalize (perm.zipIdx.take i).foldl (playStep lots hs) (play0 lots hs) = acc at R
    have hy2 : acc.2[t]? = some (y.drop k) := R.rest t k y (fun p hpi hc => by have := hp.inj hc ht; omega) hk hy
    have e : playStep lots hs acc (t, i) = (acc.1.set t l, acc.2.set t (y.drop k ++ x.take l)) := by
      simp only [playStep, getD_of hl, getD_of hy2, getD_of hx]
    rw [e]
    refine ⟨by simpa using R.l1, by simpa using R.l2, ?_, ?_⟩
    · intro p t' l' x' k' y' hpl h1 h2 h3 h4 h5
      by_cases hpi : p = i
      · subst hpi
        rw [ht] at h1; cases h1
        rw [hl] at h2; cases h2
        rw [hx] at h3; cases h3
        rw [hk] at h4; cases h4
        rw [hy] at h5; cases h5
        exact ⟨List.getElem?_set_self (by rw [R.l1]; omega), List.getElem?_set_self (by rw [R.l2]; omega)⟩
      · have hne : t ≠ t' := by
          rintro rfl
          exact hpi (hp.inj h1 ht)
        obtain ⟨a, b⟩ := R.done p t' l' x' k' y' (by omega) h1 h2 h3 h4 h5
        exact ⟨by rw [List.getElem?_set_ne hne]; exact a, by rw [List.getElem?_set_ne hne]; exact b⟩
    · intro t' k' y' hno h1 h2
      have hne : t ≠ t' := by
        rintro rfl
        exact hno i (by omega) ht
      rw [List.getElem?_set_ne hne]
      exact R.rest t' k' y' (fun p hp => hno p (by omega)) h1 h2
theorem playR_at {b : List Nat × List (List Int)} {perm : List Nat} (h : b.1.length = b.2.length) (hp : IsR b.2.length perm) :
    (playR b perm).1.length = b.2.length ∧ (playR b perm).2.length = b.2.length ∧ ∀ (p t l : Nat) (x : List Int) (k : Nat) (y : List Int), perm[p]? = some t → b.1[p]? = some l → b.2[p]? = some x → b.1[t]? = some k → b.2[t]? = some y →
      (playR b perm).1[t]? = some l ∧ (playR b perm).2[t]? = some (srt (y.drop k ++ x.take l)) := by
  have R := PInv.all h hp b.2.length (Nat.le_refl _)
  have e : perm.zipIdx.take b.2.length = perm.zipIdx := List.take_of_length_le (by rw [List.length_zipIdx, hp.len]; exact Nat.le_refl _)
  rw [e] at R
  have hl2 : (playF b.1 b.2 perm).2.length = b.2.length := R.l2
  refine ⟨R.l1, by show ((playF b.1 b.2 perm).2.map srt).length = _; rw [List.length_map]; exact hl2, fun p t l x k y h1 h2 h3 h4 h5 => ?_⟩
  obtain ⟨a, c⟩ := R.done p t l x k y ((List.getElem?_eq_some_iff.mp h3).1) h1 h2 h3 h4 h5
  refine ⟨a, ?_⟩
  show ((playF b.1 b.2 perm).2.map srt)[t]? = _
  rw [List.getElem?_map, show (playF b.1 b.2 perm).2[t]? = some (y.drop k ++ x.take l) from c]
  rfl
/-! ### the cards stay -/
theorem set_get_perm {α : Type} {hs : List (List α)} {t : Nat} {x v : List α} (h : hs[t]? = some x) : (hs.set t (x ++ v)).flatten.Perm (hs.flatten ++ v) := by
  induction hs generalizing t with
  | nil => simp at h
  | cons a hs ih =>
    cases t with
    | zero =>
      simp at h; subst h
      show (a ++ v ++ hs.flatten).Perm (a ++ hs.flatten ++ v)
      rw [List.append_assoc, List.append_assoc]
      exact List.Perm.append_left _ List.perm_append_comm
    | succ t =>
      have := ih (t := t) (by simpa using h)
      show (a ++ (hs.set t (x ++ v)).flatten).Perm (a ++ hs.flatten ++ v)
      rw [List.append_assoc]
      exact this.append_left a
theorem play_flat {lots : List Nat} {hs : List (List Int)} {n : Nat} : ∀ (l : List (Nat × Nat)) (acc : List Nat × List (List Int)), acc.2.length = n → (∀ q ∈ l, q.1 < n) →
    (l.foldl (playStep lots hs) acc).2.flatten.Perm (acc.2.flatten ++ (l.map fun q => (hs.getD q.2 []).take (lots.getD q.2 0)).flatten)
  | [], acc, _, _ => by simp
  | q :: l, acc, ha, hq => by
    obtain ⟨x, hx⟩ : ∃ x, acc.2[q.1]? = some x := ⟨_, List.getElem?_eq_getElem (by rw [ha]; exact hq q List.mem_cons_self)⟩
    have h1 := play_flat (lots := lots) (hs := hs) l (playStep lots hs acc q) (by simpa [playStep] using ha) fun q h => hq q (List.mem_cons_of_mem _ h)
    rw [List.foldl_cons]
    refine h1.trans ?_
    rw [List.map_cons, List.flatten_cons, ← List.append_assoc]
    refine List.Perm.append_right _ ?_
    simp only [playStep, getD_of hx]
    exact set_get_perm hx
theorem split_flat {l : List (List Int × Nat)} {f : List Int × Nat → Nat} : ((l.map fun q => q.1.drop (f q)).flatten ++ (l.map fun q => q.1.take (f q)).flatten).Perm (l.map fun q => q.1).flatten := by
  induction l with
  | nil => exact .refl _
  | cons a l ih =>
    simp only [List.map_cons, List.flatten_cons]
    have h1 : (a.1.drop (f a) ++ (l.map fun q => q.1.drop (f q)).flatten ++ (a.1.take (f a) ++ (l.map fun q => q.1.take (f q)).flatten)).Perm (a.1.take (f a) ++ a.1.drop (f a) ++ ((l.map fun q => q.1.drop (f q)).flatten ++ (l.map fun q => q.1.take (f q)).flatten)) := by
      have e1 := List.perm_append_comm (l₁ := a.1.drop (f a) ++ (l.map fun q => q.1.drop (f q)).flatten) (l₂ := a.1.take (f a))
      rw [← List.append_assoc]
      have e2 := e1.append_right (l.map fun q => q.1.take (f q)).flatten
      refine e2.trans ?_
      simp only [List.append_assoc]
      exact .refl _
    refine h1.trans ?_
    rw [List.take_append_drop]
    exact ih.append_left _
theorem srt_flat : ∀ l : List (List Int), (l.map srt).flatten.Perm l.flatten
  | [] => .refl _
  | a :: l => by
    simp only [List.map_cons, List.flatten_cons]
    exact (srt_perm a).append (srt_flat l)
theorem playR_flat {b : List Nat × List (List Int)} {perm : List Nat} (h : b.1.length = b.2.length) (hp : IsR b.2.length perm) : (playR b perm).2.flatten.Perm b.2.flatten := by
  refine (srt_flat _).trans ?_
  have h1 := play_flat (lots := b.1) (hs := b.2) (n := b.2.length) perm.zipIdx (play0 b.1 b.2) (by simp [play0]) fun q hq => by
    have := zipIdx_get hq
    exact hp.lt this
  refine h1.trans ?_
  have e1 : (perm.zipIdx.map fun q => (b.2.getD q.2 []).take (b.1.getD q.2 0)) = b.2.zipIdx.map fun q => q.1.take (b.1.getD q.2 0) := by
    refine List.ext_getElem? fun i => ?_
    rw [List.getElem?_map, List.getElem?_map, List.getElem?_zipIdx, List.getElem?_zipIdx]
    by_cases hi : i < b.2.length
    · obtain ⟨t, ht⟩ := hp.at hi
      rw [ht, List.getElem?_eq_getElem hi]
      simp [List.getD, List.getElem?_eq_getElem hi]
    · rw [List.getElem?_eq_none (by rw [hp.len]; omega), List.getElem?_eq_none (by omega)]; rfl
  rw [e1]
  have e2 := split_flat (l := b.2.zipIdx) (f := fun q => b.1.getD q.2 0)
  have e3 : (b.2.zipIdx.map fun q => q.1) = b.2 := by simp
  rw [e3] at e2
  exact e2
/-! ### the two states -/
structure Rel (n : Nat) (S : Sm) (b : List Nat × List (List Int)) : Prop where
  ok : SOk n S
  pl : IsR n S.places
  len : b.1.length = b.2.length
  n : b.2.length = n
  lot : ∀ (l p z : Nat), S.places[l]? = some p → S.lots[l]? = some z → b.1[p]? = some z
  hand : ∀ (l p : Nat) (x y : List Int), S.places[l]? = some p → S.loads[l]? = some x → S.heaps[p]? = some y → b.2[p]? = some (x ++ y)
theorem Rel.round {n : Nat} {S : Sm} {b : List Nat × List (List Int)} {perm : List Nat} (R : Rel n S b) (hp : IsR n perm) : Rel n (roundS S perm) (playR b perm) := by
  have hpb : IsR b.2.length perm := by rw [R.n]; exact hp
  obtain ⟨g1, g2, g3⟩ := playR_at R.len hpb
  have A := RInv.all R.ok R.pl hp n (Nat.le_refl _)
  have e : S.places.zipIdx.take n = S.places.zipIdx := List.take_of_length_le (by rw [List.length_zipIdx, R.ok.l4]; exact Nat.le_refl _)
  rw [e] at A
  obtain ⟨K, I⟩ := A
  have K' : SOk n (roundS S perm) := K
  have I' : RInv S perm n (roundS S perm) := I
  clear K I e
  have full : ∀ l, l < n → ∃ (p t : Nat) (x y : List Int) (z : Nat), S.places[l]? = some p ∧ perm[p]? = some t ∧ S.loads[l]? = some x ∧ S.heaps[t]? = some y ∧ S.lots[l]? = some z := by
    intro l hl
    obtain ⟨p, hpi⟩ := R.pl.at hl
    obtain ⟨t, ht⟩ := hp.at (R.pl.lt hpi)
    exact ⟨p, t, _, _, _, hpi, ht, List.getElem?_eq_getElem (by rw [R.ok.l2]; omega), List.getElem?_eq_getElem (by rw [R.ok.l3]; exact hp.lt ht), List.getElem?_eq_getElem (by rw [R.ok.l1]; omega)⟩
  have lt4 : ∀ (l p : Nat), (roundS S perm).places[l]? = some p → l < n := fun l p h => by rw [← K'.l4]; exact (List.getElem?_eq_some_iff.mp h).1
  have board : ∀ (l p t : Nat) (x y : List Int) (z : Nat), S.places[l]? = some p → perm[p]? = some t → S.loads[l]? = some x → S.heaps[t]? = some y → S.lots[l]? = some z → (playR b perm).1[t]? = some z ∧ (playR b perm).2[t]? = some (srt (x ++ y)) := by
    intro l p t x y z h1 h2 h3 h4 h5
    obtain ⟨l', hl', hlt⟩ := R.pl.find (hp.lt h2)
    obtain ⟨_, _, x', _, z', q1, _, q3, _, q5⟩ := full l' hl'
    rw [hlt] at q1; cases q1
    obtain ⟨yp, hyp⟩ : ∃ yp, S.heaps[p]? = some yp := ⟨_, List.getElem?_eq_getElem (by rw [R.ok.l3]; exact R.pl.lt h1)⟩
    have a1 := R.lot l p z h1 h5
    have a2 := R.hand l p x yp h1 h3 hyp
    have a3 := R.lot l' t z' hlt q5
    have a4 := R.hand l' t x' y hlt q3 h4
    have lx := R.ok.ll l z x h5 h3
    have lx' := R.ok.ll l' z' x' q5 q3
    obtain ⟨c1, c2⟩ := g3 p t z (x ++ yp) z' (x' ++ y) h2 a1 a2 a3 a4
    refine ⟨c1, ?_⟩
    rw [c2, ← lx, ← lx', List.drop_left, List.take_left]
    exact congrArg some (srt_congr List.perm_append_comm)
  refine ⟨K', IsR.of_map R.ok.l4 hp.len R.pl hp K'.l4 (fun l p t h1 h2 => ?_), by rw [g1, g2], by rw [g2, R.n], ?_, ?_⟩
  · have hl : l < n := by rw [← R.ok.l4]; exact (List.getElem?_eq_some_iff.mp h1).1
    obtain ⟨p', t', x, y, z, q1, q2, q3, q4, q5⟩ := full l hl
    rw [h1] at q1; cases q1
    rw [h2] at q2; cases q2
    exact (I'.done l p t x y z hl h1 h2 q3 q4 q5).1
  · intro l t z h1 h2
    obtain ⟨p, t', x, y, z', q1, q2, q3, q4, q5⟩ := full l (lt4 l t h1)
    have d := I'.done l p t' x y z' (lt4 l t h1) q1 q2 q3 q4 q5
    rw [d.1] at h1; cases h1
    rw [I'.lots, q5] at h2; cases h2
    exact (board l p t x y z q1 q2 q3 q4 q5).1
  · intro l t x' y' h1 h2 h3
    obtain ⟨p, t', x, y, z, q1, q2, q3, q4, q5⟩ := full l (lt4 l t h1)
    have d := I'.done l p t' x y z (lt4 l t h1) q1 q2 q3 q4 q5
    rw [d.1] at h1; cases h1
    rw [d.2.1] at h2; cases h2
    rw [d.2.2] at h3; cases h3
    rw [List.take_append_drop]
    exact (board l p t x y z q1 q2 q3 q4 q5).2
theorem Rel.start {lots : List Nat} {hs : List (List Int)} (B : BOk lots hs) (hh : hs.flatten.length ≤ 10000) : Rel hs.length (initS lots hs) (lots, hs) := by
  refine ⟨SOk.init B hh, ?_, B.len, rfl, ?_, ?_⟩
  · show IsR hs.length (List.range lots.length)
    rw [B.len]; exact .refl _
  · intro l p z h1 h2
    have : p = l := by
      have h1' : (List.range lots.length)[l]? = some p := h1
      have := (List.getElem?_eq_some_iff.mp h1').2
      simpa using this.symm
    subst this
    exact h2
  · intro l p x y h1 h2 h3
    have : p = l := by
      have h1' : (List.range lots.length)[l]? = some p := h1
      have := (List.getElem?_eq_some_iff.mp h1').2
      simpa using this.symm
    subst this
    have h2' : ((lots.zip hs).map fun q => q.2.take q.1)[p]? = some x := h2
    have h3' : ((lots.zip hs).map fun q => q.2.drop q.1)[p]? = some y := h3
    rw [List.getElem?_map] at h2' h3'
    cases hq : (lots.zip hs)[p]? with
    | none => rw [hq] at h2'; cases h2'
    | some q =>
      rw [hq] at h2' h3'
      cases h2'; cases h3'
      rw [List.getElem?_zip_eq_some] at hq
      show hs[p]? = some (List.take q.1 q.2 ++ List.drop q.1 q.2)
      rw [List.take_append_drop]
      exact hq.2
theorem Rel.rounds {n : Nat} {pl : List (List Nat)} {S : Sm} {b : List Nat × List (List Int)} (R : Rel n S b) (hp : ∀ p ∈ pl, IsR n p) : Rel n (pl.foldl roundS S) (pl.foldl playR b) ∧ (pl.foldl playR b).2.flatten.Perm b.2.flatten := by
  induction pl generalizing S b with
  | nil => exact ⟨R, .refl _⟩
  | cons p pl ih =>
    have h1 := hp p List.mem_cons_self
    obtain ⟨a, c⟩ := ih (R.round h1) fun q hq => hp q (List.mem_cons_of_mem _ hq)
    exact ⟨a, c.trans (playR_flat R.len (by rw [R.n]; exact h1))⟩
/-! ### where a card is -/
theorem uniq {α : Type} {c : α} : ∀ {hs : List (List α)} {i j : Nat} {x y : List α}, hs.flatten.Nodup → hs[i]? = some x → hs[j]? = some y → c ∈ x → c ∈ y → i = j
  | [], i, _, _, _, _, h, _, _, _ => by simp at h
  | a :: hs, 0, 0, _, _, _, _, _, _, _ => rfl
  | a :: hs, 0, j + 1, x, y, hn, hi, hj, hx, hy => by
    simp at hi; subst hi
    rw [List.flatten_cons, List.nodup_append] at hn
    have hj' : hs[j]? = some y := by simpa using hj
    exact absurd rfl (hn.2.2 c hx c (List.mem_flatten.mpr ⟨y, List.mem_of_getElem? hj', hy⟩))
  | a :: hs, i + 1, 0, x, y, hn, hi, hj, hx, hy => by
    simp at hj; subst hj
    rw [List.flatten_cons, List.nodup_append] at hn
    have hi' : hs[i]? = some x := by simpa using hi
    exact absurd rfl (hn.2.2 c hy c (List.mem_flatten.mpr ⟨x, List.mem_of_getElem? hi', hx⟩))
  | a :: hs, i + 1, j + 1, x, y, hn, hi, hj, hx, hy => by
    rw [List.flatten_cons, List.nodup_append] at hn
    exact congrArg (· + 1) (uniq hn.2.1 (by simpa using hi) (by simpa using hj) hx hy)
theorem Rel.loc {n : Nat} {S : Sm} {b : List Nat × List (List Int)} {card : Int} (R : Rel n S b) (hn : b.2.flatten.Nodup) (hc : card ∈ b.2.flatten) : ∃ d, LocS S card d ∧ LocL b card d := by
  obtain ⟨h, hm, hch⟩ := List.mem_flatten.mp hc
  obtain ⟨k, hk⟩ := List.getElem?_of_mem hm
  have hkn : k < n := by rw [← R.n]; exact (List.getElem?_eq_some_iff.mp hk).1
  obtain ⟨l, hl, hlk⟩ := R.pl.find hkn
  obtain ⟨x, hx⟩ : ∃ x, S.loads[l]? = some x := ⟨_, List.getElem?_eq_getElem (by rw [R.ok.l2]; omega)⟩
  obtain ⟨y, hy⟩ : ∃ x, S.heaps[k]? = some x := ⟨_, List.getElem?_eq_getElem (by rw [R.ok.l3]; omega)⟩
  obtain ⟨z, hz⟩ : ∃ x, S.lots[l]? = some x := ⟨_, List.getElem?_eq_getElem (by rw [R.ok.l1]; omega)⟩
  have hb := R.hand l k x y hlk hx hy
  rw [hk] at hb
  have hb := Option.some.inj hb
  subst hb
  have hz1 := R.lot l k z hlk hz
  have hxz := R.ok.ll l z x hz hx
  have hnoL : ∀ (j : Nat) (w : List Int), b.2[j]? = some w → card ∈ w → j = k := fun j w hj hw => uniq hn hj hk hw hch
  have hload : ∀ (j : Nat) (w : List Int), S.loads[j]? = some w → card ∈ w → j = l := by
    intro j w hj hw
    have hjn : j < n := by rw [← R.ok.l2]; exact (List.getElem?_eq_some_iff.mp hj).1
    obtain ⟨p, hp⟩ := R.pl.at hjn
    obtain ⟨v, hv⟩ : ∃ x, S.heaps[p]? = some x := ⟨_, List.getElem?_eq_getElem (by rw [R.ok.l3]; exact R.pl.lt hp)⟩
    have := hnoL p (w ++ v) (R.hand j p w v hp hj hv) (List.mem_append_left _ hw)
    subst this
    exact R.pl.inj hp hlk
  have hheap : ∀ (j : Nat) (w : List Int), S.heaps[j]? = some w → card ∈ w → j = k := by
    intro j w hj hw
    have hjn : j < n := by rw [← R.ok.l3]; exact (List.getElem?_eq_some_iff.mp hj).1
    obtain ⟨l', hl', hlj⟩ := R.pl.find hjn
    obtain ⟨v, hv⟩ : ∃ x, S.loads[l']? = some x := ⟨_, List.getElem?_eq_getElem (by rw [R.ok.l2]; omega)⟩
    exact hnoL j (v ++ w) (R.hand l' j v w hlj hv hj) (List.mem_append_right _ hw)
  have hlaw := LocL.mk (b := b) (card := card) hk hch (fun j w hj hw hcw => by have := hnoL j w hw hcw; omega) hz1
  have htk : (x ++ y).take z = x := by rw [← hxz]; exact List.take_left
  rw [htk] at hlaw
  by_cases hcx : card ∈ x
  · rw [if_pos hcx] at hlaw
    exact ⟨_, .load hx hcx (fun j w hj hw hcw => by have := hload j w hw hcw; omega) hlk, hlaw⟩
  · rw [if_neg hcx] at hlaw
    have hcy : card ∈ y := by
      rcases List.mem_append.mp hch with h | h
      · exact absurd h hcx
      · exact h
    refine ⟨_, .heap (fun w hw hcw => ?_) hy hcy (fun j w hj hw hcw => by have := hheap j w hw hcw; omega), hlaw⟩
    obtain ⟨j, hj⟩ := List.getElem?_of_mem hw
    have := hload j w hj hcw
    subst this
    rw [hx] at hj; cases hj
    exact hcx hcw
end W_k11
namespace W_k11
local macro_rules | `(tactic| walk_at "call") => `(tactic| first | (with_reducible assumption) | assumption)
theorem imm_bB {b : List Nat × List (List Int)} : imm (bB b) = true := imm_bD
theorem okD_bB {b : List Nat × List (List Int)} {n : Nat} : okD (n + 3) (bB b) = true := by
  refine okD_tup ?_
  rw [okDs_all]
  have h1 : okD (n + 2) (tN b.1) = true := okD_tN
  have h2 : okD (n + 2) (hD b.2) = true := okD_tup (okDs_map fun _ => okD_tI)
  simp [h1, h2]
theorem ok_str {n : Nat} {x : Str} (h : PyData.strOk x = true) : okD n (.str x) = true := by cases n <;> exact h
theorem ok_loc {x : Str} {k : Nat} (h : PyData.strOk x = true) : okD 63 (.tup [.str x, iN k]) = true := by
  refine okD_tup (n := 62) ?_
  rw [okDs_all]
  simp [ok_str h, okD_int]
theorem str_load : PyData.strOk "load" = true := by decide +kernel
theorem str_heap : PyData.strOk "heap" = true := by decide +kernel
/-- one card: both calls answer what is expected -/
theorem h_card {c : Addr} {ns : List Int} {lots : List Nat} {hs : List (List Int)} {pl : List (List Nat)} {card : Int} {a1 a2 a8 a9 a10 : E} {N : Rho → Prop} {R : E → Rho → Prop} (B : BOk lots hs) (hh : hs.flatten.length ≤ 10000) (hl : hs.length ≤ 1000) (hpl : pl.length ≤ 9) (hp : ∀ p ∈ pl, IsR hs.length p) (hc : card ∈ hs.flatten)
    (h1 : isOe' a1) (h2 : isOe' a2) (h8 : isOe' a8) (h9 : isOe' a9) (h10 : isOe' a10)
    (hN : ∀ a8 a9 a10, isOe' a8 → isOe' a9 → isOe' a10 → N [eV (.scr (ns.map D.int)), a1, a2, eV (bD lots hs), .o (.l .v) (.lst (pl.map tN)), .o (.l .v) (.lst ((List.range (pl.length + 1)).map fun i => bB ((pl.take i).foldl playR (lots, hs)))), .o (.l .v) (.lst (pl.map tN)), eI card, a8, a9, a10, .x, .x]) :
    SQ (sSeq (sSet 8 (mLc .v [12] (iSeq (mVar 5)) (gN 12) (mC (.bl true)) (mCall m__law_location ([mVar 12, mVar 7].foldr aCons aNil))))
    (sFor (iRange (mC (.int 2))) (gN 9) (sSeq (sSet 10 (mCall (m_track_card c) ([mVar 3, mVar 4, mVar 7].foldr aCons aNil)))
    (sSeq (sIf (mOrB (mOp gNe (mVar 10) (mVar 8)) (mOp gNe (mVar 4) (mVar 6))) (sRet (mC (.bl false))) sNx)
    (sExpr (mMut "list" kElt fAppend (pName 10) (mF fTup (aCons (mC (.str "load")) (aCons (mC (.int 0)) aNil)))))))) [eV (.scr (ns.map D.int)), a1, a2, eV (bD lots hs), .o (.l .v) (.lst (pl.map tN)), .o (.l .v) (.lst ((List.range (pl.length + 1)).map fun i => bB ((pl.take i).foldl playR (lots, hs)))), .o (.l .v) (.lst (pl.map tN)), eI card, a8, a9, a10, .x, .x]) N R := by
  have hrel := fun i => Rel.rounds (pl := pl.take i) (Rel.start B hh) fun p hm => hp p (List.mem_of_mem_take hm)
  have hex : ∀ i, ∃ d, LocS ((pl.take i).foldl roundS (initS lots hs)) card d ∧ LocL ((pl.take i).foldl playR (lots, hs)) card d := fun i =>
    (hrel i).1.loc ((List.Perm.nodup_iff (hrel i).2).mpr B.nd) ((hrel i).2.mem_iff.mpr hc)
  have hd : ∃ locs : Nat → D, ∀ i, LocS ((pl.take i).foldl roundS (initS lots hs)) card (locs i) ∧ LocL ((pl.take i).foldl playR (lots, hs)) card (locs i) := ⟨fun i => Classical.choose (hex i), fun i => Classical.choose_spec (hex i)⟩
  obtain ⟨locs, hlocs⟩ := hd
  have ht := h_track (c := c) B hh hl (by omega) hp hc fun i _ => (hlocs i).1
  have hcomp : mLc .v [12] (iSeq (mVar 5)) (gN 12) (mC (.bl true)) (mCall m__law_location ([mVar 12, mVar 7].foldr aCons aNil)) [eV (.scr (ns.map D.int)), a1, a2, eV (bD lots hs), .o (.l .v) (.lst (pl.map tN)), .o (.l .v) (.lst ((List.range (pl.length + 1)).map fun i => bB ((pl.take i).foldl playR (lots, hs)))), .o (.l .v) (.lst (pl.map tN)), eI card, a8, a9, a10, .x, .x]
      = .ok (.o (.l .v) (.lst ((List.range (pl.length + 1)).map locs))) none := by
    apply lc_map (ca := fun i => E.o .v (bB ((pl.take i).foldl playR (lots, hs)))) (f := locs)
    · apply iSeq_bi
      · walk_at "var"
      · exact fun _ => imm_bB
    · rfl
    · simp; omega
    · intro i hi
      have h3 := h_lloc (hlocs i).2 (by rw [(hrel i).1.n]; exact hl)
      generalize (pl.take i).foldl playR (lots, hs) = b at h3
      apply turn_p
      · rfl
      · rfl
      · walk_at "ev"
      · rfl
  have himm : ∀ i, imm (locs i) = true := fun i => (hlocs i).1.imm
  have hokl : okD 64 (.lst ((List.range (pl.length + 1)).map locs)) = true := okD_lst (okDs_map fun i => by
    have := (hlocs i).1
    cases h : locs i with
    | tup xs =>
      rw [h] at this
      cases this with
      | load => exact ok_loc str_load
      | heap => exact ok_loc str_heap
    | _ => rw [h] at this; cases this)
  have hokp : okD 64 (.lst (pl.map tN)) = true := okD_lst (okDs_map fun _ => okD_tN)
  have hLl : ((List.range (pl.length + 1)).map locs).length ≤ 10 := by simp; omega
  generalize (List.range (pl.length + 1)).map locs = L at hcomp ht hokl hLl
  generalize hBs : (List.range (pl.length + 1)).map (fun i => bB ((pl.take i).foldl playR (lots, hs))) = Bs at hcomp hN
  walk_at "go"
  apply sq_for (fun i ρ => ∃ a9 a10, ρ = [eV (.scr (ns.map D.int)), a1, a2, eV (bD lots hs), .o (.l .v) (.lst (pl.map tN)), .o (.l .v) (.lst Bs), .o (.l .v) (.lst (pl.map tN)), eI card, .o (.l .v) (.lst L), a9, a10, .x, .x] ∧ isOe' a9 ∧ isOe' a10)
  · apply iRange_at (n := 2)
    · exact mC_at
    · rfl
    · decide
  · rfl
  · exact isOe_map
  · exact ⟨a9, a10, rfl, h9, h10⟩
  · rintro i e ρ hi ⟨b9, b10, rfl, g9, g10⟩
    obtain ⟨_, rfl⟩ := rg_item hi
    have hne1 : mOp gNe (mVar 10) (mVar 8) [eV (.scr (ns.map D.int)), a1, a2, eV (bD lots hs), .o (.l .v) (.lst (pl.map tN)), .o (.l .v) (.lst Bs), .o (.l .v) (.lst (pl.map tN)), eI card, .o (.l .v) (.lst L), eI i, .o (.l .v) (.lst L), .x, .x] = .ok (eB false) none := by
      apply mOp_at
      · walk_at "args"
      · rfl
      · rfl
      · exact gNe_self hokl
    have hne2 : mOp gNe (mVar 4) (mVar 6) [eV (.scr (ns.map D.int)), a1, a2, eV (bD lots hs), .o (.l .v) (.lst (pl.map tN)), .o (.l .v) (.lst Bs), .o (.l .v) (.lst (pl.map tN)), eI card, .o (.l .v) (.lst L), eI i, .o (.l .v) (.lst L), .x, .x] = .ok (eB false) none := by
      apply mOp_at
      · walk_at "args"
      · rfl
      · rfl
      · exact gNe_self hokp
    apply sq_turn (ρ1 := [eV (.scr (ns.map D.int)), a1, a2, eV (bD lots hs), .o (.l .v) (.lst (pl.map tN)), .o (.l .v) (.lst Bs), .o (.l .v) (.lst (pl.map tN)), eI card, .o (.l .v) (.lst L), eI i, b10, .x, .x])
    · rfl
    apply sq_seq
    apply sq_nx (ρ1 := [eV (.scr (ns.map D.int)), a1, a2, eV (bD lots hs), .o (.l .v) (.lst (pl.map tN)), .o (.l .v) (.lst Bs), .o (.l .v) (.lst (pl.map tN)), eI card, .o (.l .v) (.lst L), eI i, .o (.l .v) (.lst L), .x, .x])
    · apply nx_setR (ρ1 := [eV (.scr (ns.map D.int)), a1, a2, eV (bD lots hs), .o (.l .v) (.lst (pl.map tN)), .o (.l .v) (.lst Bs), .o (.l .v) (.lst (pl.map tN)), eI card, .o (.l .v) (.lst L), eI i, b10, .x, .x]) (e := .o (.l .v) (.lst L)) (p := none)
      · walk_at "ev"
      · rfl
      · simp
      · rfl
    apply sq_seq
    apply sq_if
    · exact mOrB_b hne1 fun _ => hne2
    · intro hb; cases hb
    · intro _
      apply sq_skip
      apply sq_expr
      · apply mMut_append (i := 10) (pp := []) (s := .v)
        · rfl
        · rfl
        · walk_at "ev"
        · rfl
        · rfl
        · rfl
        · rfl
        · rfl
        · omega
        · exact ups_o0 rfl (by walk_at "nob")
      · rfl
      exact ⟨_, _, rfl, rfl, rfl⟩
  · rintro ρ ⟨b9, b10, rfl, g9, g10⟩
    exact hN _ _ _ rfl g9 g10
end W_k11
namespace W_k11
local macro_rules | `(tactic| walk_at "call") => `(tactic| first | (with_reducible assumption) | assumption)
theorem h_law {c : Addr} (ns : List Int) : m_law c [eV (.scr (ns.map D.int))] = .rt (eB true) [.x] := by
  apply fq_is
  apply fnq [eV (.scr (ns.map D.int)), .x, .x, .x, .x, .x, .x, .x, .x, .x, .x, .x, .x]
  unfold d_law
  apply sq_seq
  apply sq_for (fun i ρ => ∃ a1 a2 a3 a4 a5 a6 a7 a8 a9 a10, ρ = [eV (.scr (ns.map D.int)), a1, a2, a3, a4, a5, a6, a7, a8, a9, a10, .x, .x] ∧ isOe' a1 ∧ isOe' a2 ∧ isOe' a3 ∧ isOe' a4 ∧ isOe' a5 ∧ isOe' a6 ∧ isOe' a7 ∧ isOe' a8 ∧ isOe' a9 ∧ isOe' a10)
  · apply iRange_at (n := 3)
    · exact mC_at
    · rfl
    · decide
  · rfl
  · exact isOe_map
  · refine ⟨.x, .x, .x, .x, .x, .x, .x, .x, .x, .x, rfl, ?_, ?_, ?_, ?_, ?_, ?_, ?_, ?_, ?_, ?_⟩ <;> rfl
  · rintro i e ρ hi ⟨a1, a2, a3, a4, a5, a6, a7, a8, a9, a10, rfl, o1, o2, o3, o4, o5, o6, o7, o8, o9, o10⟩
    obtain ⟨hi3, rfl⟩ := rg_item hi
    obtain ⟨g, hg, G⟩ := h_generator ns i (by omega)
    obtain ⟨r, g1, hr, hr0, hr1, G1⟩ := h_random (b := 6) G (by decide) (by decide) (by decide)
    obtain ⟨t, rfl⟩ : ∃ t : Nat, r = t := ⟨r.toNat, by omega⟩
    obtain ⟨lots, hs, g2, hb, B, hn, hfl, G2⟩ := h_board (m := 1 + t) (b := 5) G1 (by decide) (by omega) (by omega) (by omega)
    have e1 : ((1 + t : Nat) : Int) = 1 + (t : Int) := by omega
    have hb' : m__law_random_board [gE g1, eI (1 + (t : Int)), eI 5] = .rt (eV (bD lots hs)) [gE g2, .x, .x] := by rw [← e1]; exact hb
    have hfl' : hs.flatten.length ≤ 10000 := by have : (1 + t) * 27 ≤ 6 * 27 := Nat.mul_le_mul_right _ (by omega); omega
    have hl : hs.length ≤ 1000 := by omega
    obtain ⟨pl, g3, hp, hpl, hpR, G3⟩ := h_plan (m := hs.length) (k := 9) G2 (by decide) (by omega) (by decide)
    have hp' : m__law_random_plan [gE g2, eI ((lots.map iN).length : Nat), eI 9] = .rt (.o (.l .v) (.lst (pl.map tN))) [gE g3, .x, .x] := by rw [List.length_map, B.len]; exact hp
    have hcards := h_cards (b := (lots, hs)) B.pos hl hfl'
    have hcards' : m__law_all_cards [eV (bD lots hs)] = .rt (.o (.l .v) (.lst ((srt hs.flatten).map D.int))) [.x] := hcards
    have hplay : ∀ j, m__law_play [eV (bD lots hs), eV (.lst ((pl.take j).map tN))] = .rt (eV (bB ((pl.take j).foldl playR (lots, hs)))) [.x, .x] := fun j =>
      h_play (n := hs.length) (b := (lots, hs)) hl (fun p hm => hpR p (List.mem_of_mem_take hm)) fun k _ => by
        have := Rel.rounds (pl := (pl.take j).take k) (Rel.start B hfl') fun p hm => hpR p (List.mem_of_mem_take (List.mem_of_mem_take hm))
        refine ⟨this.1.len, this.1.n, fun h hm => ?_⟩
        have h1 := List.Sublist.length_le (List.sublist_flatten_of_mem hm)
        rw [this.2.length_eq] at h1
        exact Nat.le_trans h1 hfl'
    walk_at "go"
    apply sq_at (ρ1 := [eV (.scr (ns.map D.int)), eI i, gE g3, eV (bD lots hs), .o (.l .v) (.lst (pl.map tN)), a5, a6, a7, a8, a9, a10, .x, .x]) rfl
    have hcomp : mLc .v [11] (iRange (mF fAdd (LP.a2 (mF fLen (aCons (mVar 4) aNil)) (mC (.int 1))))) (gN 11) (mC (.bl true)) (mCall m__law_play ([mVar 3, mF fSl (LP.a3 (mVar 4) (mC .non) (mInt (mVar 11)))].foldr aCons aNil)) [eV (.scr (ns.map D.int)), eI i, gE g3, eV (bD lots hs), .o (.l .v) (.lst (pl.map tN)), a5, a6, a7, a8, a9, a10, .x, .x]
        = .ok (.o (.l .v) (.lst ((List.range (pl.length + 1)).map fun j => bB ((pl.take j).foldl playR (lots, hs))))) none := by
      apply lc_map (ca := fun (j : Nat) => E.o .v (.int (j : Int)))
      · apply iRange_at (n := pl.length + 1)
        · walk_at "ev"
        · rw [List.length_map]; rfl
        · omega
      · rfl
      · simp; omega
      · intro j hj
        have h1 := hplay j
        generalize (pl.take j).foldl playR (lots, hs) = b at h1
        apply turn_p
        · rfl
        · rfl
        · walk_at "ev"
        · rfl
    apply sq_set
    · exact hcomp
    · rfl
    · simp
    · rfl
    generalize hBs : (List.range (pl.length + 1)).map (fun j => bB ((pl.take j).foldl playR (lots, hs))) = Bs
    walk_at "go"
    apply sq_at (ρ1 := [eV (.scr (ns.map D.int)), eI i, gE g3, eV (bD lots hs), .o (.l .v) (.lst (pl.map tN)), .o (.l .v) (.lst Bs), .o (.l .v) (.lst (pl.map tN)), a7, a8, a9, a10, .x, .x]) rfl
    apply sq_for (fun i' ρ => ∃ b7 b8 b9 b10, ρ = [eV (.scr (ns.map D.int)), eI i, gE g3, eV (bD lots hs), .o (.l .v) (.lst (pl.map tN)), .o (.l .v) (.lst Bs), .o (.l .v) (.lst (pl.map tN)), b7, b8, b9, b10, .x, .x] ∧ isOe' b7 ∧ isOe' b8 ∧ isOe' b9 ∧ isOe' b10)
    · apply iSeq_of (c := D.int) (xs := srt hs.flatten)
      · walk_at "ev"
      · rfl
    · rfl
    · exact isOe_map
    · exact ⟨a7, a8, a9, a10, rfl, o7, o8, o9, o10⟩
    · rintro i' e ρ hi' ⟨b7, b8, b9, b10, rfl, q7, q8, q9, q10⟩
      obtain ⟨card, hcard, rfl⟩ := map_item (f := D.int) hi'
      have hc : card ∈ hs.flatten := (srt_perm _).mem_iff.mp (List.mem_of_getElem? hcard)
      apply sq_turn (ρ1 := [eV (.scr (ns.map D.int)), eI i, gE g3, eV (bD lots hs), .o (.l .v) (.lst (pl.map tN)), .o (.l .v) (.lst Bs), .o (.l .v) (.lst (pl.map tN)), eI card, b8, b9, b10, .x, .x])
      · rfl
      subst hBs
      refine h_card B hfl' hl hpl hpR hc (a1 := eI i) (a2 := gE g3) (by rfl) (by rfl) q8 q9 q10 ?_
      intro c8 c9 c10 r8 r9 r10
      exact ⟨eI card, c8, c9, c10, rfl, (by rfl), r8, r9, r10⟩
    · rintro ρ ⟨b7, b8, b9, b10, rfl, q7, q8, q9, q10⟩
      refine ⟨_, _, _, _, _, _, _, _, _, _, rfl, ?_, ?_, ?_, ?_, ?_, ?_, q7, q8, q9, q10⟩ <;> rfl
  · rintro ρ ⟨a1, a2, a3, a4, a5, a6, a7, a8, a9, a10, rfl, o1, o2, o3, o4, o5, o6, o7, o8, o9, o10⟩
    walk_at "go"
    exact ⟨_, rfl, rfl, rfl, rfl, rfl⟩
end W_k11
end
namespace W_k11
open PySem PySem.Spec PyProof.Rows L2 LP
theorem all_mk {l : PySem.W.OpenLaw} {w : World} {K : PySem.W.Frag} {h : Heap} {mg : Str → Option Value} {fa : Addr} (X : K.In h) (G : h.Ns mainGlobals mg) (hfa : mg "law" = some (.ref fa))
    {CSimulation : Addr} {fis_integer : Addr} {fis_pair_of_tuples : Addr} {ffirst_failure : Addr} {fSimulation___init__ : Addr} {fSimulation_apply_round : Addr} {fSimulation_holder : Addr} {f_law_cell : Addr} {f_law_hash : Addr} {f_law_all_cards : Addr} {f_law_play_round : Addr} {f_law_location : Addr} {fis_at_least : Addr} {fis_round : Addr} {frequire_card : Addr} {fSimulation_location : Addr} {f_law_generator : Addr} {f_law_random : Addr} {f_law_play : Addr} {fis_hand : Addr} {frequire_place_count : Addr} {f_law_shuffled : Addr} {fcheck_board : Addr} {fcheck_plan : Addr} {f_law_random_round : Addr} {f_law_random_board : Addr} {frequire_board : Addr} {frequire_plan : Addr} {f_law_random_plan : Addr} {ftrack_card : Addr} {flaw : Addr} {odis_integer anis_integer : Option Addr} {slis_integer : Array (Option Value)} {ocis_integer kVis_integer dcis_integer pmis_integer cdis_integer ctis_integer : Value} {odis_pair_of_tuples anis_pair_of_tuples : Option Addr} {slis_pair_of_tuples : Array (Option Value)} {ocis_pair_of_tuples kVis_pair_of_tuples dcis_pair_of_tuples pmis_pair_of_tuples cdis_pair_of_tuples ctis_pair_of_tuples : Value} {odfirst_failure anfirst_failure : Option Addr} {slfirst_failure : Array (Option Value)} {ocfirst_failure kVfirst_failure dcfirst_failure pmfirst_failure cdfirst_failure ctfirst_failure : Value} {odSimulation___init__ anSimulation___init__ : Option Addr} {slSimulation___init__ : Array (Option Value)} {ocSimulation___init__ kVSimulation___init__ dcSimulation___init__ pmSimulation___init__ cdSimulation___init__ ctSimulation___init__ : Value} {odSimulation_apply_round anSimulation_apply_round : Option Addr} {slSimulation_apply_round : Array (Option Value)} {ocSimulation_apply_round kVSimulation_apply_round dcSimulation_apply_round pmSimulation_apply_round cdSimulation_apply_round ctSimulation_apply_round : Value} {odSimulation_holder anSimulation_holder : Option Addr} {slSimulation_holder : Array (Option Value)} {ocSimulation_holder kVSimulation_holder dcSimulation_holder pmSimulation_holder cdSimulation_holder ctSimulation_holder : Value} {od_law_cell an_law_cell : Option Addr} {sl_law_cell : Array (Option Value)} {oc_law_cell kV_law_cell dc_law_cell pm_law_cell cd_law_cell ct_law_cell : Value} {od_law_hash an_law_hash : Option Addr} {sl_law_hash : Array (Option Value)} {oc_law_hash kV_law_hash dc_law_hash pm_law_hash cd_law_hash ct_law_hash : Value} {od_law_all_cards an_law_all_cards : Option Addr} {sl_law_all_cards : Array (Option Value)} {oc_law_all_cards kV_law_all_cards dc_law_all_cards pm_law_all_cards cd_law_all_cards ct_law_all_cards : Value} {od_law_play_round an_law_play_round : Option Addr} {sl_law_play_round : Array (Option Value)} {oc_law_play_round kV_law_play_round dc_law_play_round pm_law_play_round cd_law_play_round ct_law_play_round : Value} {od_law_location an_law_location : Option Addr} {sl_law_location : Array (Option Value)} {oc_law_location kV_law_location dc_law_location pm_law_location cd_law_location ct_law_location : Value} {odis_at_least anis_at_least : Option Addr} {slis_at_least : Array (Option Value)} {ocis_at_least kVis_at_least dcis_at_least pmis_at_least cdis_at_least ctis_at_least : Value} {odis_round anis_round : Option Addr} {slis_round : Array (Option Value)} {ocis_round kVis_round dcis_round pmis_round cdis_round ctis_round : Value} {odrequire_card anrequire_card : Option Addr} {slrequire_card : Array (Option Value)} {ocrequire_card kVrequire_card dcrequire_card pmrequire_card cdrequire_card ctrequire_card : Value} {odSimulation_location anSimulation_location : Option Addr} {slSimulation_location : Array (Option Value)} {ocSimulation_location kVSimulation_location dcSimulation_location pmSimulation_location cdSimulation_location ctSimulation_location : Value} {od_law_generator an_law_generator : Option Addr} {sl_law_generator : Array (Option Value)} {oc_law_generator kV_law_generator dc_law_generator pm_law_generator cd_law_generator ct_law_generator : Value} {od_law_random an_law_random : Option Addr} {sl_law_random : Array (Option Value)} {oc_law_random kV_law_random dc_law_random pm_law_random cd_law_random ct_law_random : Value} {od_law_play an_law_play : Option Addr} {sl_law_play : Array (Option Value)} {oc_law_play kV_law_play dc_law_play pm_law_play cd_law_play ct_law_play : Value} {odis_hand anis_hand : Option Addr} {slis_hand : Array (Option Value)} {ocis_hand kVis_hand dcis_hand pmis_hand cdis_hand ctis_hand : Value} {odrequire_place_count anrequire_place_count : Option Addr} {slrequire_place_count : Array (Option Value)} {ocrequire_place_count kVrequire_place_count dcrequire_place_count pmrequire_place_count cdrequire_place_count ctrequire_place_count : Value} {od_law_shuffled an_law_shuffled : Option Addr} {sl_law_shuffled : Array (Option Value)} {oc_law_shuffled kV_law_shuffled dc_law_shuffled pm_law_shuffled cd_law_shuffled ct_law_shuffled : Value} {odcheck_board ancheck_board : Option Addr} {slcheck_board : Array (Option Value)} {occheck_board kVcheck_board dccheck_board pmcheck_board cdcheck_board ctcheck_board : Value} {odcheck_plan ancheck_plan : Option Addr} {slcheck_plan : Array (Option Value)} {occheck_plan kVcheck_plan dccheck_plan pmcheck_plan cdcheck_plan ctcheck_plan : Value} {od_law_random_round an_law_random_round : Option Addr} {sl_law_random_round : Array (Option Value)} {oc_law_random_round kV_law_random_round dc_law_random_round pm_law_random_round cd_law_random_round ct_law_random_round : Value} {od_law_random_board an_law_random_board : Option Addr} {sl_law_random_board : Array (Option Value)} {oc_law_random_board kV_law_random_board dc_law_random_board pm_law_random_board cd_law_random_board ct_law_random_board : Value} {odrequire_board anrequire_board : Option Addr} {slrequire_board : Array (Option Value)} {ocrequire_board kVrequire_board dcrequire_board pmrequire_board cdrequire_board ctrequire_board : Value} {odrequire_plan anrequire_plan : Option Addr} {slrequire_plan : Array (Option Value)} {ocrequire_plan kVrequire_plan dcrequire_plan pmrequire_plan cdrequire_plan ctrequire_plan : Value} {od_law_random_plan an_law_random_plan : Option Addr} {sl_law_random_plan : Array (Option Value)} {oc_law_random_plan kV_law_random_plan dc_law_random_plan pm_law_random_plan cd_law_random_plan ct_law_random_plan : Value} {odtrack_card antrack_card : Option Addr} {sltrack_card : Array (Option Value)} {octrack_card kVtrack_card dctrack_card pmtrack_card cdtrack_card cttrack_card : Value} {odlaw anlaw : Option Addr} {sllaw : Array (Option Value)} {oclaw kVlaw dclaw pmlaw cdlaw ctlaw : Value}
    (aCSimulation : PySem.W.nsIn K mainGlobals "Simulation" = some (some (.ref CSimulation)))
    (ais_integer : PySem.W.nsIn K mainGlobals "is_integer" = some (some (.ref fis_integer)))
    (lis_integer : K.lookup fis_integer = some ⟨ocis_integer, odis_integer, .func (PySem.W.fnOf "is_integer" "is_integer" (defArgs s_is_integer) (defBody s_is_integer) (defScope s_is_integer) .none kVis_integer dcis_integer pmis_integer anis_integer cdis_integer ctis_integer), slis_integer⟩)
    (cis_integer : PySem.W.codeIn K cdis_integer "is_integer" = true)
    (kis_integer : PySem.W.keepIn K (.ref fis_integer) = true)
    (ais_pair_of_tuples : PySem.W.nsIn K mainGlobals "is_pair_of_tuples" = some (some (.ref fis_pair_of_tuples)))
    (lis_pair_of_tuples : K.lookup fis_pair_of_tuples = some ⟨ocis_pair_of_tuples, odis_pair_of_tuples, .func (PySem.W.fnOf "is_pair_of_tuples" "is_pair_of_tuples" (defArgs s_is_pair_of_tuples) (defBody s_is_pair_of_tuples) (defScope s_is_pair_of_tuples) .none kVis_pair_of_tuples dcis_pair_of_tuples pmis_pair_of_tuples anis_pair_of_tuples cdis_pair_of_tuples ctis_pair_of_tuples), slis_pair_of_tuples⟩)
    (cis_pair_of_tuples : PySem.W.codeIn K cdis_pair_of_tuples "is_pair_of_tuples" = true)
    (kis_pair_of_tuples : PySem.W.keepIn K (.ref fis_pair_of_tuples) = true)
    (afirst_failure : PySem.W.nsIn K mainGlobals "first_failure" = some (some (.ref ffirst_failure)))
    (lfirst_failure : K.lookup ffirst_failure = some ⟨ocfirst_failure, odfirst_failure, .func (PySem.W.fnOf "first_failure" "first_failure" (defArgs s_first_failure) (defBody s_first_failure) (defScope s_first_failure) .none kVfirst_failure dcfirst_failure pmfirst_failure anfirst_failure cdfirst_failure ctfirst_failure), slfirst_failure⟩)
    (cfirst_failure : PySem.W.codeIn K cdfirst_failure "first_failure" = true)
    (kfirst_failure : PySem.W.keepIn K (.ref ffirst_failure) = true)
    (aSimulation___init__ : PySem.W.findIn K (.ref CSimulation) "__init__" = some (some (.ref fSimulation___init__)))
    (iSimulation___init__ : PySem.W.isFn K (.ref fSimulation___init__) = true)
    (lSimulation___init__ : K.lookup fSimulation___init__ = some ⟨ocSimulation___init__, odSimulation___init__, .func (PySem.W.fnOf "__init__" "Simulation.__init__" (defArgs s_Simulation___init__) (defBody s_Simulation___init__) (defScope s_Simulation___init__) .none kVSimulation___init__ dcSimulation___init__ pmSimulation___init__ anSimulation___init__ cdSimulation___init__ ctSimulation___init__), slSimulation___init__⟩)
    (cSimulation___init__ : PySem.W.codeIn K cdSimulation___init__ "Simulation.__init__" = true)
    (kSimulation___init__ : PySem.W.keepIn K (.ref fSimulation___init__) = true)
    (aSimulation_apply_round : PySem.W.findIn K (.ref CSimulation) "apply_round" = some (some (.ref fSimulation_apply_round)))
    (iSimulation_apply_round : PySem.W.isFn K (.ref fSimulation_apply_round) = true)
    (lSimulation_apply_round : K.lookup fSimulation_apply_round = some ⟨ocSimulation_apply_round, odSimulation_apply_round, .func (PySem.W.fnOf "apply_round" "Simulation.apply_round" (defArgs s_Simulation_apply_round) (defBody s_Simulation_apply_round) (defScope s_Simulation_apply_round) .none kVSimulation_apply_round dcSimulation_apply_round pmSimulation_apply_round anSimulation_apply_round cdSimulation_apply_round ctSimulation_apply_round), slSimulation_apply_round⟩)
    (cSimulation_apply_round : PySem.W.codeIn K cdSimulation_apply_round "Simulation.apply_round" = true)
    (kSimulation_apply_round : PySem.W.keepIn K (.ref fSimulation_apply_round) = true)
    (aSimulation_holder : PySem.W.findIn K (.ref CSimulation) "holder" = some (some (.ref fSimulation_holder)))
    (iSimulation_holder : PySem.W.isFn K (.ref fSimulation_holder) = true)
    (lSimulation_holder : K.lookup fSimulation_holder = some ⟨ocSimulation_holder, odSimulation_holder, .func (PySem.W.fnOf "holder" "Simulation.holder" (defArgs s_Simulation_holder) (defBody s_Simulation_holder) (defScope s_Simulation_holder) .none kVSimulation_holder dcSimulation_holder pmSimulation_holder anSimulation_holder cdSimulation_holder ctSimulation_holder), slSimulation_holder⟩)
    (cSimulation_holder : PySem.W.codeIn K cdSimulation_holder "Simulation.holder" = true)
    (kSimulation_holder : PySem.W.keepIn K (.ref fSimulation_holder) = true)
    (a_law_cell : PySem.W.nsIn K mainGlobals "_law_cell" = some (some (.ref f_law_cell)))
    (l_law_cell : K.lookup f_law_cell = some ⟨oc_law_cell, od_law_cell, .func (PySem.W.fnOf "_law_cell" "_law_cell" (defArgs s__law_cell) (defBody s__law_cell) (defScope s__law_cell) .none kV_law_cell dc_law_cell pm_law_cell an_law_cell cd_law_cell ct_law_cell), sl_law_cell⟩)
    (c_law_cell : PySem.W.codeIn K cd_law_cell "_law_cell" = true)
    (k_law_cell : PySem.W.keepIn K (.ref f_law_cell) = true)
    (a_law_hash : PySem.W.nsIn K mainGlobals "_law_hash" = some (some (.ref f_law_hash)))
    (l_law_hash : K.lookup f_law_hash = some ⟨oc_law_hash, od_law_hash, .func (PySem.W.fnOf "_law_hash" "_law_hash" (defArgs s__law_hash) (defBody s__law_hash) (defScope s__law_hash) .none kV_law_hash dc_law_hash pm_law_hash an_law_hash cd_law_hash ct_law_hash), sl_law_hash⟩)
    (c_law_hash : PySem.W.codeIn K cd_law_hash "_law_hash" = true)
    (k_law_hash : PySem.W.keepIn K (.ref f_law_hash) = true)
    (a_law_all_cards : PySem.W.nsIn K mainGlobals "_law_all_cards" = some (some (.ref f_law_all_cards)))
    (l_law_all_cards : K.lookup f_law_all_cards = some ⟨oc_law_all_cards, od_law_all_cards, .func (PySem.W.fnOf "_law_all_cards" "_law_all_cards" (defArgs s__law_all_cards) (defBody s__law_all_cards) (defScope s__law_all_cards) .none kV_law_all_cards dc_law_all_cards pm_law_all_cards an_law_all_cards cd_law_all_cards ct_law_all_cards), sl_law_all_cards⟩)
    (c_law_all_cards : PySem.W.codeIn K cd_law_all_cards "_law_all_cards" = true)
    (k_law_all_cards : PySem.W.keepIn K (.ref f_law_all_cards) = true)
    (a_law_play_round : PySem.W.nsIn K mainGlobals "_law_play_round" = some (some (.ref f_law_play_round)))
    (l_law_play_round : K.lookup f_law_play_round = some ⟨oc_law_play_round, od_law_play_round, .func (PySem.W.fnOf "_law_play_round" "_law_play_round" (defArgs s__law_play_round) (defBody s__law_play_round) (defScope s__law_play_round) .none kV_law_play_round dc_law_play_round pm_law_play_round an_law_play_round cd_law_play_round ct_law_play_round), sl_law_play_round⟩)
    (c_law_play_round : PySem.W.codeIn K cd_law_play_round "_law_play_round" = true)
    (k_law_play_round : PySem.W.keepIn K (.ref f_law_play_round) = true)
    (a_law_location : PySem.W.nsIn K mainGlobals "_law_location" = some (some (.ref f_law_location)))
    (l_law_location : K.lookup f_law_location = some ⟨oc_law_location, od_law_location, .func (PySem.W.fnOf "_law_location" "_law_location" (defArgs s__law_location) (defBody s__law_location) (defScope s__law_location) .none kV_law_location dc_law_location pm_law_location an_law_location cd_law_location ct_law_location), sl_law_location⟩)
    (c_law_location : PySem.W.codeIn K cd_law_location "_law_location" = true)
    (k_law_location : PySem.W.keepIn K (.ref f_law_location) = true)
    (ais_at_least : PySem.W.nsIn K mainGlobals "is_at_least" = some (some (.ref fis_at_least)))
    (lis_at_least : K.lookup fis_at_least = some ⟨ocis_at_least, odis_at_least, .func (PySem.W.fnOf "is_at_least" "is_at_least" (defArgs s_is_at_least) (defBody s_is_at_least) (defScope s_is_at_least) .none kVis_at_least dcis_at_least pmis_at_least anis_at_least cdis_at_least ctis_at_least), slis_at_least⟩)
    (cis_at_least : PySem.W.codeIn K cdis_at_least "is_at_least" = true)
    (kis_at_least : PySem.W.keepIn K (.ref fis_at_least) = true)
    (ais_round : PySem.W.nsIn K mainGlobals "is_round" = some (some (.ref fis_round)))
    (lis_round : K.lookup fis_round = some ⟨ocis_round, odis_round, .func (PySem.W.fnOf "is_round" "is_round" (defArgs s_is_round) (defBody s_is_round) (defScope s_is_round) .none kVis_round dcis_round pmis_round anis_round cdis_round ctis_round), slis_round⟩)
    (cis_round : PySem.W.codeIn K cdis_round "is_round" = true)
    (kis_round : PySem.W.keepIn K (.ref fis_round) = true)
    (arequire_card : PySem.W.nsIn K mainGlobals "require_card" = some (some (.ref frequire_card)))
    (lrequire_card : K.lookup frequire_card = some ⟨ocrequire_card, odrequire_card, .func (PySem.W.fnOf "require_card" "require_card" (defArgs s_require_card) (defBody s_require_card) (defScope s_require_card) .none kVrequire_card dcrequire_card pmrequire_card anrequire_card cdrequire_card ctrequire_card), slrequire_card⟩)
    (crequire_card : PySem.W.codeIn K cdrequire_card "require_card" = true)
    (krequire_card : PySem.W.keepIn K (.ref frequire_card) = true)
    (aSimulation_location : PySem.W.findIn K (.ref CSimulation) "location" = some (some (.ref fSimulation_location)))
    (iSimulation_location : PySem.W.isFn K (.ref fSimulation_location) = true)
    (lSimulation_location : K.lookup fSimulation_location = some ⟨ocSimulation_location, odSimulation_location, .func (PySem.W.fnOf "location" "Simulation.location" (defArgs s_Simulation_location) (defBody s_Simulation_location) (defScope s_Simulation_location) .none kVSimulation_location dcSimulation_location pmSimulation_location anSimulation_location cdSimulation_location ctSimulation_location), slSimulation_location⟩)
    (cSimulation_location : PySem.W.codeIn K cdSimulation_location "Simulation.location" = true)
    (kSimulation_location : PySem.W.keepIn K (.ref fSimulation_location) = true)
    (a_law_generator : PySem.W.nsIn K mainGlobals "_law_generator" = some (some (.ref f_law_generator)))
    (l_law_generator : K.lookup f_law_generator = some ⟨oc_law_generator, od_law_generator, .func (PySem.W.fnOf "_law_generator" "_law_generator" (defArgs s__law_generator) (defBody s__law_generator) (defScope s__law_generator) .none kV_law_generator dc_law_generator pm_law_generator an_law_generator cd_law_generator ct_law_generator), sl_law_generator⟩)
    (c_law_generator : PySem.W.codeIn K cd_law_generator "_law_generator" = true)
    (k_law_generator : PySem.W.keepIn K (.ref f_law_generator) = true)
    (a_law_random : PySem.W.nsIn K mainGlobals "_law_random" = some (some (.ref f_law_random)))
    (l_law_random : K.lookup f_law_random = some ⟨oc_law_random, od_law_random, .func (PySem.W.fnOf "_law_random" "_law_random" (defArgs s__law_random) (defBody s__law_random) (defScope s__law_random) .none kV_law_random dc_law_random pm_law_random an_law_random cd_law_random ct_law_random), sl_law_random⟩)
    (c_law_random : PySem.W.codeIn K cd_law_random "_law_random" = true)
    (k_law_random : PySem.W.keepIn K (.ref f_law_random) = true)
    (a_law_play : PySem.W.nsIn K mainGlobals "_law_play" = some (some (.ref f_law_play)))
    (l_law_play : K.lookup f_law_play = some ⟨oc_law_play, od_law_play, .func (PySem.W.fnOf "_law_play" "_law_play" (defArgs s__law_play) (defBody s__law_play) (defScope s__law_play) .none kV_law_play dc_law_play pm_law_play an_law_play cd_law_play ct_law_play), sl_law_play⟩)
    (c_law_play : PySem.W.codeIn K cd_law_play "_law_play" = true)
    (k_law_play : PySem.W.keepIn K (.ref f_law_play) = true)
    (ais_hand : PySem.W.nsIn K mainGlobals "is_hand" = some (some (.ref fis_hand)))
    (lis_hand : K.lookup fis_hand = some ⟨ocis_hand, odis_hand, .func (PySem.W.fnOf "is_hand" "is_hand" (defArgs s_is_hand) (defBody s_is_hand) (defScope s_is_hand) .none kVis_hand dcis_hand pmis_hand anis_hand cdis_hand ctis_hand), slis_hand⟩)
    (cis_hand : PySem.W.codeIn K cdis_hand "is_hand" = true)
    (kis_hand : PySem.W.keepIn K (.ref fis_hand) = true)
    (arequire_place_count : PySem.W.nsIn K mainGlobals "require_place_count" = some (some (.ref frequire_place_count)))
    (lrequire_place_count : K.lookup frequire_place_count = some ⟨ocrequire_place_count, odrequire_place_count, .func (PySem.W.fnOf "require_place_count" "require_place_count" (defArgs s_require_place_count) (defBody s_require_place_count) (defScope s_require_place_count) .none kVrequire_place_count dcrequire_place_count pmrequire_place_count anrequire_place_count cdrequire_place_count ctrequire_place_count), slrequire_place_count⟩)
    (crequire_place_count : PySem.W.codeIn K cdrequire_place_count "require_place_count" = true)
    (krequire_place_count : PySem.W.keepIn K (.ref frequire_place_count) = true)
    (a_law_shuffled : PySem.W.nsIn K mainGlobals "_law_shuffled" = some (some (.ref f_law_shuffled)))
    (l_law_shuffled : K.lookup f_law_shuffled = some ⟨oc_law_shuffled, od_law_shuffled, .func (PySem.W.fnOf "_law_shuffled" "_law_shuffled" (defArgs s__law_shuffled) (defBody s__law_shuffled) (defScope s__law_shuffled) .none kV_law_shuffled dc_law_shuffled pm_law_shuffled an_law_shuffled cd_law_shuffled ct_law_shuffled), sl_law_shuffled⟩)
    (c_law_shuffled : PySem.W.codeIn K cd_law_shuffled "_law_shuffled" = true)
    (k_law_shuffled : PySem.W.keepIn K (.ref f_law_shuffled) = true)
    (acheck_board : PySem.W.nsIn K mainGlobals "check_board" = some (some (.ref fcheck_board)))
    (lcheck_board : K.lookup fcheck_board = some ⟨occheck_board, odcheck_board, .func (PySem.W.fnOf "check_board" "check_board" (defArgs s_check_board) (defBody s_check_board) (defScope s_check_board) .none kVcheck_board dccheck_board pmcheck_board ancheck_board cdcheck_board ctcheck_board), slcheck_board⟩)
    (ccheck_board : PySem.W.codeIn K cdcheck_board "check_board" = true)
    (kcheck_board : PySem.W.keepIn K (.ref fcheck_board) = true)
    (acheck_plan : PySem.W.nsIn K mainGlobals "check_plan" = some (some (.ref fcheck_plan)))
    (lcheck_plan : K.lookup fcheck_plan = some ⟨occheck_plan, odcheck_plan, .func (PySem.W.fnOf "check_plan" "check_plan" (defArgs s_check_plan) (defBody s_check_plan) (defScope s_check_plan) .none kVcheck_plan dccheck_plan pmcheck_plan ancheck_plan cdcheck_plan ctcheck_plan), slcheck_plan⟩)
    (ccheck_plan : PySem.W.codeIn K cdcheck_plan "check_plan" = true)
    (kcheck_plan : PySem.W.keepIn K (.ref fcheck_plan) = true)
    (a_law_random_round : PySem.W.nsIn K mainGlobals "_law_random_round" = some (some (.ref f_law_random_round)))
    (l_law_random_round : K.lookup f_law_random_round = some ⟨oc_law_random_round, od_law_random_round, .func (PySem.W.fnOf "_law_random_round" "_law_random_round" (defArgs s__law_random_round) (defBody s__law_random_round) (defScope s__law_random_round) .none kV_law_random_round dc_law_random_round pm_law_random_round an_law_random_round cd_law_random_round ct_law_random_round), sl_law_random_round⟩)
    (c_law_random_round : PySem.W.codeIn K cd_law_random_round "_law_random_round" = true)
    (k_law_random_round : PySem.W.keepIn K (.ref f_law_random_round) = true)
    (a_law_random_board : PySem.W.nsIn K mainGlobals "_law_random_board" = some (some (.ref f_law_random_board)))
    (l_law_random_board : K.lookup f_law_random_board = some ⟨oc_law_random_board, od_law_random_board, .func (PySem.W.fnOf "_law_random_board" "_law_random_board" (defArgs s__law_random_board) (defBody s__law_random_board) (defScope s__law_random_board) .none kV_law_random_board dc_law_random_board pm_law_random_board an_law_random_board cd_law_random_board ct_law_random_board), sl_law_random_board⟩)
    (c_law_random_board : PySem.W.codeIn K cd_law_random_board "_law_random_board" = true)
    (k_law_random_board : PySem.W.keepIn K (.ref f_law_random_board) = true)
    (arequire_board : PySem.W.nsIn K mainGlobals "require_board" = some (some (.ref frequire_board)))
    (lrequire_board : K.lookup frequire_board = some ⟨ocrequire_board, odrequire_board, .func (PySem.W.fnOf "require_board" "require_board" (defArgs s_require_board) (defBody s_require_board) (defScope s_require_board) .none kVrequire_board dcrequire_board pmrequire_board anrequire_board cdrequire_board ctrequire_board), slrequire_board⟩)
    (crequire_board : PySem.W.codeIn K cdrequire_board "require_board" = true)
    (krequire_board : PySem.W.keepIn K (.ref frequire_board) = true)
    (arequire_plan : PySem.W.nsIn K mainGlobals "require_plan" = some (some (.ref frequire_plan)))
    (lrequire_plan : K.lookup frequire_plan = some ⟨ocrequire_plan, odrequire_plan, .func (PySem.W.fnOf "require_plan" "require_plan" (defArgs s_require_plan) (defBody s_require_plan) (defScope s_require_plan) .none kVrequire_plan dcrequire_plan pmrequire_plan anrequire_plan cdrequire_plan ctrequire_plan), slrequire_plan⟩)
    (crequire_plan : PySem.W.codeIn K cdrequire_plan "require_plan" = true)
    (krequire_plan : PySem.W.keepIn K (.ref frequire_plan) = true)
    (a_law_random_plan : PySem.W.nsIn K mainGlobals "_law_random_plan" = some (some (.ref f_law_random_plan)))
    (l_law_random_plan : K.lookup f_law_random_plan = some ⟨oc_law_random_plan, od_law_random_plan, .func (PySem.W.fnOf "_law_random_plan" "_law_random_plan" (defArgs s__law_random_plan) (defBody s__law_random_plan) (defScope s__law_random_plan) .none kV_law_random_plan dc_law_random_plan pm_law_random_plan an_law_random_plan cd_law_random_plan ct_law_random_plan), sl_law_random_plan⟩)
    (c_law_random_plan : PySem.W.codeIn K cd_law_random_plan "_law_random_plan" = true)
    (k_law_random_plan : PySem.W.keepIn K (.ref f_law_random_plan) = true)
    (atrack_card : PySem.W.nsIn K mainGlobals "track_card" = some (some (.ref ftrack_card)))
    (ltrack_card : K.lookup ftrack_card = some ⟨octrack_card, odtrack_card, .func (PySem.W.fnOf "track_card" "track_card" (defArgs s_track_card) (defBody s_track_card) (defScope s_track_card) .none kVtrack_card dctrack_card pmtrack_card antrack_card cdtrack_card cttrack_card), sltrack_card⟩)
    (ctrack_card : PySem.W.codeIn K cdtrack_card "track_card" = true)
    (ktrack_card : PySem.W.keepIn K (.ref ftrack_card) = true)
    (alaw : PySem.W.nsIn K mainGlobals "law" = some (some (.ref flaw)))
    (llaw : K.lookup flaw = some ⟨oclaw, odlaw, .func (PySem.W.fnOf "law" "law" (defArgs s_law) (defBody s_law) (defScope s_law) .none kVlaw dclaw pmlaw anlaw cdlaw ctlaw), sllaw⟩)
    (claw : PySem.W.codeIn K cdlaw "law" = true)
    (klaw : PySem.W.keepIn K (.ref flaw) = true)
    (pgSimulation : PySem.W.plainGet K CSimulation Str.empty = true)
    (hdSimulation : PySem.W.hasDictIn K CSimulation = true)
    (poSimulation : PySem.W.plainOver K CSimulation = true)
    (saSimulation : PySem.W.findIn K (.ref CSimulation) "__setattr__" = some (some (.builtin "object.__setattr__")))
    (mkSimulation : PySem.W.makesIn K CSimulation = true)
    (kcSimulation : PySem.W.keepIn K (.ref CSimulation) = true)
    (nfSimulation_heaps : PySem.W.findIn K (.ref CSimulation) "heaps" = some none)
    (nfSimulation_loads : PySem.W.findIn K (.ref CSimulation) "loads" = some none)
    (nfSimulation_lots : PySem.W.findIn K (.ref CSimulation) "lots" = some none)
    (nfSimulation_places : PySem.W.findIn K (.ref CSimulation) "places" = some none)
    (zall : PySem.W.nsIn K mainGlobals "all" = some none)
    (zany : PySem.W.nsIn K mainGlobals "any" = some none)
    (zbool : PySem.W.nsIn K mainGlobals "bool" = some none)
    (zenumerate : PySem.W.nsIn K mainGlobals "enumerate" = some none)
    (zint : PySem.W.nsIn K mainGlobals "int" = some none)
    (zisinstance : PySem.W.nsIn K mainGlobals "isinstance" = some none)
    (zlen : PySem.W.nsIn K mainGlobals "len" = some none)
    (zlist : PySem.W.nsIn K mainGlobals "list" = some none)
    (zmax : PySem.W.nsIn K mainGlobals "max" = some none)
    (zrange : PySem.W.nsIn K mainGlobals "range" = some none)
    (zsorted : PySem.W.nsIn K mainGlobals "sorted" = some none)
    (zsum : PySem.W.nsIn K mainGlobals "sum" = some none)
    (ztuple : PySem.W.nsIn K mainGlobals "tuple" = some none)
    (zzip : PySem.W.nsIn K mainGlobals "zip" = some none) :
    ∃ fd : FuncData, (∀ (s : Shared) (v : Value), BindsTo s fd ⟨[v], []⟩ [("script", v)]) ∧ ∀ base : Heap, K.In base → base.Ns mainGlobals mg → FnOk l.prog w K mg base (L2.CX l.prog w) (0 + 7) fa fd ["script"] (spLaw K) := by
  have e := hfa.symm.trans (PySem.W.mg_of X G alaw)
  cases e
  have F : Fx K mg { c_Simulation := CSimulation, f_is_integer := fis_integer, fd_is_integer := PySem.W.fnOf "is_integer" "is_integer" (defArgs s_is_integer) (defBody s_is_integer) (defScope s_is_integer) .none kVis_integer dcis_integer pmis_integer anis_integer cdis_integer ctis_integer, f_is_pair_of_tuples := fis_pair_of_tuples, fd_is_pair_of_tuples := PySem.W.fnOf "is_pair_of_tuples" "is_pair_of_tuples" (defArgs s_is_pair_of_tuples) (defBody s_is_pair_of_tuples) (defScope s_is_pair_of_tuples) .none kVis_pair_of_tuples dcis_pair_of_tuples pmis_pair_of_tuples anis_pair_of_tuples cdis_pair_of_tuples ctis_pair_of_tuples, f_first_failure := ffirst_failure, fd_first_failure := PySem.W.fnOf "first_failure" "first_failure" (defArgs s_first_failure) (defBody s_first_failure) (defScope s_first_failure) .none kVfirst_failure dcfirst_failure pmfirst_failure anfirst_failure cdfirst_failure ctfirst_failure, f_Simulation___init__ := fSimulation___init__, fd_Simulation___init__ := PySem.W.fnOf "__init__" "Simulation.__init__" (defArgs s_Simulation___init__) (defBody s_Simulation___init__) (defScope s_Simulation___init__) .none kVSimulation___init__ dcSimulation___init__ pmSimulation___init__ anSimulation___init__ cdSimulation___init__ ctSimulation___init__, f_Simulation_apply_round := fSimulation_apply_round, fd_Simulation_apply_round := PySem.W.fnOf "apply_round" "Simulation.apply_round" (defArgs s_Simulation_apply_round) (defBody s_Simulation_apply_round) (defScope s_Simulation_apply_round) .none kVSimulation_apply_round dcSimulation_apply_round pmSimulation_apply_round anSimulation_apply_round cdSimulation_apply_round ctSimulation_apply_round, f_Simulation_holder := fSimulation_holder, fd_Simulation_holder := PySem.W.fnOf "holder" "Simulation.holder" (defArgs s_Simulation_holder) (defBody s_Simulation_holder) (defScope s_Simulation_holder) .none kVSimulation_holder dcSimulation_holder pmSimulation_holder anSimulation_holder cdSimulation_holder ctSimulation_holder, f__law_cell := f_law_cell, fd__law_cell := PySem.W.fnOf "_law_cell" "_law_cell" (defArgs s__law_cell) (defBody s__law_cell) (defScope s__law_cell) .none kV_law_cell dc_law_cell pm_law_cell an_law_cell cd_law_cell ct_law_cell, f__law_hash := f_law_hash, fd__law_hash := PySem.W.fnOf "_law_hash" "_law_hash" (defArgs s__law_hash) (defBody s__law_hash) (defScope s__law_hash) .none kV_law_hash dc_law_hash pm_law_hash an_law_hash cd_law_hash ct_law_hash, f__law_all_cards := f_law_all_cards, fd__law_all_cards := PySem.W.fnOf "_law_all_cards" "_law_all_cards" (defArgs s__law_all_cards) (defBody s__law_all_cards) (defScope s__law_all_cards) .none kV_law_all_cards dc_law_all_cards pm_law_all_cards an_law_all_cards cd_law_all_cards ct_law_all_cards, f__law_play_round := f_law_play_round, fd__law_play_round := PySem.W.fnOf "_law_play_round" "_law_play_round" (defArgs s__law_play_round) (defBody s__law_play_round) (defScope s__law_play_round) .none kV_law_play_round dc_law_play_round pm_law_play_round an_law_play_round cd_law_play_round ct_law_play_round, f__law_location := f_law_location, fd__law_location := PySem.W.fnOf "_law_location" "_law_location" (defArgs s__law_location) (defBody s__law_location) (defScope s__law_location) .none kV_law_location dc_law_location pm_law_location an_law_location cd_law_location ct_law_location, f_is_at_least := fis_at_least, fd_is_at_least := PySem.W.fnOf "is_at_least" "is_at_least" (defArgs s_is_at_least) (defBody s_is_at_least) (defScope s_is_at_least) .none kVis_at_least dcis_at_least pmis_at_least anis_at_least cdis_at_least ctis_at_least, f_is_round := fis_round, fd_is_round := PySem.W.fnOf "is_round" "is_round" (defArgs s_is_round) (defBody s_is_round) (defScope s_is_round) .none kVis_round dcis_round pmis_round anis_round cdis_round ctis_round, f_require_card := frequire_card, fd_require_card := PySem.W.fnOf "require_card" "require_card" (defArgs s_require_card) (defBody s_require_card) (defScope s_require_card) .none kVrequire_card dcrequire_card pmrequire_card anrequire_card cdrequire_card ctrequire_card, f_Simulation_location := fSimulation_location, fd_Simulation_location := PySem.W.fnOf "location" "Simulation.location" (defArgs s_Simulation_location) (defBody s_Simulation_location) (defScope s_Simulation_location) .none kVSimulation_location dcSimulation_location pmSimulation_location anSimulation_location cdSimulation_location ctSimulation_location, f__law_generator := f_law_generator, fd__law_generator := PySem.W.fnOf "_law_generator" "_law_generator" (defArgs s__law_generator) (defBody s__law_generator) (defScope s__law_generator) .none kV_law_generator dc_law_generator pm_law_generator an_law_generator cd_law_generator ct_law_generator, f__law_random := f_law_random, fd__law_random := PySem.W.fnOf "_law_random" "_law_random" (defArgs s__law_random) (defBody s__law_random) (defScope s__law_random) .none kV_law_random dc_law_random pm_law_random an_law_random cd_law_random ct_law_random, f__law_play := f_law_play, fd__law_play := PySem.W.fnOf "_law_play" "_law_play" (defArgs s__law_play) (defBody s__law_play) (defScope s__law_play) .none kV_law_play dc_law_play pm_law_play an_law_play cd_law_play ct_law_play, f_is_hand := fis_hand, fd_is_hand := PySem.W.fnOf "is_hand" "is_hand" (defArgs s_is_hand) (defBody s_is_hand) (defScope s_is_hand) .none kVis_hand dcis_hand pmis_hand anis_hand cdis_hand ctis_hand, f_require_place_count := frequire_place_count, fd_require_place_count := PySem.W.fnOf "require_place_count" "require_place_count" (defArgs s_require_place_count) (defBody s_require_place_count) (defScope s_require_place_count) .none kVrequire_place_count dcrequire_place_count pmrequire_place_count anrequire_place_count cdrequire_place_count ctrequire_place_count, f__law_shuffled := f_law_shuffled, fd__law_shuffled := PySem.W.fnOf "_law_shuffled" "_law_shuffled" (defArgs s__law_shuffled) (defBody s__law_shuffled) (defScope s__law_shuffled) .none kV_law_shuffled dc_law_shuffled pm_law_shuffled an_law_shuffled cd_law_shuffled ct_law_shuffled, f_check_board := fcheck_board, fd_check_board := PySem.W.fnOf "check_board" "check_board" (defArgs s_check_board) (defBody s_check_board) (defScope s_check_board) .none kVcheck_board dccheck_board pmcheck_board ancheck_board cdcheck_board ctcheck_board, f_check_plan := fcheck_plan, fd_check_plan := PySem.W.fnOf "check_plan" "check_plan" (defArgs s_check_plan) (defBody s_check_plan) (defScope s_check_plan) .none kVcheck_plan dccheck_plan pmcheck_plan ancheck_plan cdcheck_plan ctcheck_plan, f__law_random_round := f_law_random_round, fd__law_random_round := PySem.W.fnOf "_law_random_round" "_law_random_round" (defArgs s__law_random_round) (defBody s__law_random_round) (defScope s__law_random_round) .none kV_law_random_round dc_law_random_round pm_law_random_round an_law_random_round cd_law_random_round ct_law_random_round, f__law_random_board := f_law_random_board, fd__law_random_board := PySem.W.fnOf "_law_random_board" "_law_random_board" (defArgs s__law_random_board) (defBody s__law_random_board) (defScope s__law_random_board) .none kV_law_random_board dc_law_random_board pm_law_random_board an_law_random_board cd_law_random_board ct_law_random_board, f_require_board := frequire_board, fd_require_board := PySem.W.fnOf "require_board" "require_board" (defArgs s_require_board) (defBody s_require_board) (defScope s_require_board) .none kVrequire_board dcrequire_board pmrequire_board anrequire_board cdrequire_board ctrequire_board, f_require_plan := frequire_plan, fd_require_plan := PySem.W.fnOf "require_plan" "require_plan" (defArgs s_require_plan) (defBody s_require_plan) (defScope s_require_plan) .none kVrequire_plan dcrequire_plan pmrequire_plan anrequire_plan cdrequire_plan ctrequire_plan, f__law_random_plan := f_law_random_plan, fd__law_random_plan := PySem.W.fnOf "_law_random_plan" "_law_random_plan" (defArgs s__law_random_plan) (defBody s__law_random_plan) (defScope s__law_random_plan) .none kV_law_random_plan dc_law_random_plan pm_law_random_plan an_law_random_plan cd_law_random_plan ct_law_random_plan, f_track_card := ftrack_card, fd_track_card := PySem.W.fnOf "track_card" "track_card" (defArgs s_track_card) (defBody s_track_card) (defScope s_track_card) .none kVtrack_card dctrack_card pmtrack_card antrack_card cdtrack_card cttrack_card, f_law := fa, fd_law := PySem.W.fnOf "law" "law" (defArgs s_law) (defBody s_law) (defScope s_law) .none kVlaw dclaw pmlaw anlaw cdlaw ctlaw } :=
    { cl_Simulation := ⟨pgSimulation, hdSimulation, poSimulation, saSimulation⟩,
      m_Simulation := PySem.W.mg_of X G aCSimulation,
      mk_Simulation := ⟨mkSimulation, aSimulation___init__, iSimulation___init__, kcSimulation⟩,
      nf_Simulation_heaps := nfSimulation_heaps,
      nf_Simulation_loads := nfSimulation_loads,
      nf_Simulation_lots := nfSimulation_lots,
      nf_Simulation_places := nfSimulation_places,
      F_is_integer := fun_mk (st := s_is_integer) lis_integer cis_integer kis_integer,
      b_is_integer := (fun_mk (st := s_is_integer) lis_integer cis_integer kis_integer).binds (ps := ["value"]) fun _ _ _ _ _ _ us hl => match us, hl with | [_], _ => rfl,
      m_is_integer := PySem.W.mg_of X G ais_integer,
      F_is_pair_of_tuples := fun_mk (st := s_is_pair_of_tuples) lis_pair_of_tuples cis_pair_of_tuples kis_pair_of_tuples,
      b_is_pair_of_tuples := (fun_mk (st := s_is_pair_of_tuples) lis_pair_of_tuples cis_pair_of_tuples kis_pair_of_tuples).binds (ps := ["value"]) fun _ _ _ _ _ _ us hl => match us, hl with | [_], _ => rfl,
      m_is_pair_of_tuples := PySem.W.mg_of X G ais_pair_of_tuples,
      F_first_failure := fun_mk (st := s_first_failure) lfirst_failure cfirst_failure kfirst_failure,
      b_first_failure := (fun_mk (st := s_first_failure) lfirst_failure cfirst_failure kfirst_failure).binds (ps := ["word", "results"]) fun _ _ _ _ _ _ us hl => match us, hl with | [_, _], _ => rfl,
      m_first_failure := PySem.W.mg_of X G afirst_failure,
      F_Simulation___init__ := fun_mk (st := s_Simulation___init__) lSimulation___init__ cSimulation___init__ kSimulation___init__,
      b_Simulation___init__ := (fun_mk (st := s_Simulation___init__) lSimulation___init__ cSimulation___init__ kSimulation___init__).binds (ps := ["self", "board"]) fun _ _ _ _ _ _ us hl => match us, hl with | [_, _], _ => rfl,
      F_Simulation_apply_round := fun_mk (st := s_Simulation_apply_round) lSimulation_apply_round cSimulation_apply_round kSimulation_apply_round,
      b_Simulation_apply_round := (fun_mk (st := s_Simulation_apply_round) lSimulation_apply_round cSimulation_apply_round kSimulation_apply_round).binds (ps := ["self", "permutation"]) fun _ _ _ _ _ _ us hl => match us, hl with | [_, _], _ => rfl,
      mt_Simulation_apply_round := ⟨aSimulation_apply_round, iSimulation_apply_round, kSimulation_apply_round⟩,
      F_Simulation_holder := fun_mk (st := s_Simulation_holder) lSimulation_holder cSimulation_holder kSimulation_holder,
      b_Simulation_holder := (fun_mk (st := s_Simulation_holder) lSimulation_holder cSimulation_holder kSimulation_holder).binds (ps := ["self", "card"]) fun _ _ _ _ _ _ us hl => match us, hl with | [_, _], _ => rfl,
      mt_Simulation_holder := ⟨aSimulation_holder, iSimulation_holder, kSimulation_holder⟩,
      F__law_cell := fun_mk (st := s__law_cell) l_law_cell c_law_cell k_law_cell,
      b__law_cell := (fun_mk (st := s__law_cell) l_law_cell c_law_cell k_law_cell).binds (ps := ["script", "index"]) fun _ _ _ _ _ _ us hl => match us, hl with | [_, _], _ => rfl,
      m__law_cell := PySem.W.mg_of X G a_law_cell,
      F__law_hash := fun_mk (st := s__law_hash) l_law_hash c_law_hash k_law_hash,
      b__law_hash := (fun_mk (st := s__law_hash) l_law_hash c_law_hash k_law_hash).binds (ps := ["seed", "index"]) fun _ _ _ _ _ _ us hl => match us, hl with | [_, _], _ => rfl,
      m__law_hash := PySem.W.mg_of X G a_law_hash,
      F__law_all_cards := fun_mk (st := s__law_all_cards) l_law_all_cards c_law_all_cards k_law_all_cards,
      b__law_all_cards := (fun_mk (st := s__law_all_cards) l_law_all_cards c_law_all_cards k_law_all_cards).binds (ps := ["board"]) fun _ _ _ _ _ _ us hl => match us, hl with | [_], _ => rfl,
      m__law_all_cards := PySem.W.mg_of X G a_law_all_cards,
      F__law_play_round := fun_mk (st := s__law_play_round) l_law_play_round c_law_play_round k_law_play_round,
      b__law_play_round := (fun_mk (st := s__law_play_round) l_law_play_round c_law_play_round k_law_play_round).binds (ps := ["board", "permutation"]) fun _ _ _ _ _ _ us hl => match us, hl with | [_, _], _ => rfl,
      m__law_play_round := PySem.W.mg_of X G a_law_play_round,
      F__law_location := fun_mk (st := s__law_location) l_law_location c_law_location k_law_location,
      b__law_location := (fun_mk (st := s__law_location) l_law_location c_law_location k_law_location).binds (ps := ["board", "card"]) fun _ _ _ _ _ _ us hl => match us, hl with | [_, _], _ => rfl,
      m__law_location := PySem.W.mg_of X G a_law_location,
      F_is_at_least := fun_mk (st := s_is_at_least) lis_at_least cis_at_least kis_at_least,
      b_is_at_least := (fun_mk (st := s_is_at_least) lis_at_least cis_at_least kis_at_least).binds (ps := ["value", "minimum"]) fun _ _ _ _ _ _ us hl => match us, hl with | [_, _], _ => rfl,
      m_is_at_least := PySem.W.mg_of X G ais_at_least,
      F_is_round := fun_mk (st := s_is_round) lis_round cis_round kis_round,
      b_is_round := (fun_mk (st := s_is_round) lis_round cis_round kis_round).binds (ps := ["places", "value"]) fun _ _ _ _ _ _ us hl => match us, hl with | [_, _], _ => rfl,
      m_is_round := PySem.W.mg_of X G ais_round,
      F_require_card := fun_mk (st := s_require_card) lrequire_card crequire_card krequire_card,
      b_require_card := (fun_mk (st := s_require_card) lrequire_card crequire_card krequire_card).binds (ps := ["board", "value"]) fun _ _ _ _ _ _ us hl => match us, hl with | [_, _], _ => rfl,
      m_require_card := PySem.W.mg_of X G arequire_card,
      F_Simulation_location := fun_mk (st := s_Simulation_location) lSimulation_location cSimulation_location kSimulation_location,
      b_Simulation_location := (fun_mk (st := s_Simulation_location) lSimulation_location cSimulation_location kSimulation_location).binds (ps := ["self", "card"]) fun _ _ _ _ _ _ us hl => match us, hl with | [_, _], _ => rfl,
      mt_Simulation_location := ⟨aSimulation_location, iSimulation_location, kSimulation_location⟩,
      F__law_generator := fun_mk (st := s__law_generator) l_law_generator c_law_generator k_law_generator,
      b__law_generator := (fun_mk (st := s__law_generator) l_law_generator c_law_generator k_law_generator).binds (ps := ["script", "index"]) fun _ _ _ _ _ _ us hl => match us, hl with | [_, _], _ => rfl,
      m__law_generator := PySem.W.mg_of X G a_law_generator,
      F__law_random := fun_mk (st := s__law_random) l_law_random c_law_random k_law_random,
      b__law_random := (fun_mk (st := s__law_random) l_law_random c_law_random k_law_random).binds (ps := ["generator", "bound"]) fun _ _ _ _ _ _ us hl => match us, hl with | [_, _], _ => rfl,
      m__law_random := PySem.W.mg_of X G a_law_random,
      F__law_play := fun_mk (st := s__law_play) l_law_play c_law_play k_law_play,
      b__law_play := (fun_mk (st := s__law_play) l_law_play c_law_play k_law_play).binds (ps := ["board", "moves"]) fun _ _ _ _ _ _ us hl => match us, hl with | [_, _], _ => rfl,
      m__law_play := PySem.W.mg_of X G a_law_play,
      F_is_hand := fun_mk (st := s_is_hand) lis_hand cis_hand kis_hand,
      b_is_hand := (fun_mk (st := s_is_hand) lis_hand cis_hand kis_hand).binds (ps := ["value"]) fun _ _ _ _ _ _ us hl => match us, hl with | [_], _ => rfl,
      m_is_hand := PySem.W.mg_of X G ais_hand,
      F_require_place_count := fun_mk (st := s_require_place_count) lrequire_place_count crequire_place_count krequire_place_count,
      b_require_place_count := (fun_mk (st := s_require_place_count) lrequire_place_count crequire_place_count krequire_place_count).binds (ps := ["places"]) fun _ _ _ _ _ _ us hl => match us, hl with | [_], _ => rfl,
      m_require_place_count := PySem.W.mg_of X G arequire_place_count,
      F__law_shuffled := fun_mk (st := s__law_shuffled) l_law_shuffled c_law_shuffled k_law_shuffled,
      b__law_shuffled := (fun_mk (st := s__law_shuffled) l_law_shuffled c_law_shuffled k_law_shuffled).binds (ps := ["generator", "items"]) fun _ _ _ _ _ _ us hl => match us, hl with | [_, _], _ => rfl,
      m__law_shuffled := PySem.W.mg_of X G a_law_shuffled,
      F_check_board := fun_mk (st := s_check_board) lcheck_board ccheck_board kcheck_board,
      b_check_board := (fun_mk (st := s_check_board) lcheck_board ccheck_board kcheck_board).binds (ps := ["value"]) fun _ _ _ _ _ _ us hl => match us, hl with | [_], _ => rfl,
      m_check_board := PySem.W.mg_of X G acheck_board,
      F_check_plan := fun_mk (st := s_check_plan) lcheck_plan ccheck_plan kcheck_plan,
      b_check_plan := (fun_mk (st := s_check_plan) lcheck_plan ccheck_plan kcheck_plan).binds (ps := ["places", "value"]) fun _ _ _ _ _ _ us hl => match us, hl with | [_, _], _ => rfl,
      m_check_plan := PySem.W.mg_of X G acheck_plan,
      F__law_random_round := fun_mk (st := s__law_random_round) l_law_random_round c_law_random_round k_law_random_round,
      b__law_random_round := (fun_mk (st := s__law_random_round) l_law_random_round c_law_random_round k_law_random_round).binds (ps := ["generator", "size"]) fun _ _ _ _ _ _ us hl => match us, hl with | [_, _], _ => rfl,
      m__law_random_round := PySem.W.mg_of X G a_law_random_round,
      F__law_random_board := fun_mk (st := s__law_random_board) l_law_random_board c_law_random_board k_law_random_board,
      b__law_random_board := (fun_mk (st := s__law_random_board) l_law_random_board c_law_random_board k_law_random_board).binds (ps := ["generator", "size", "largest_base"]) fun _ _ _ _ _ _ us hl => match us, hl with | [_, _, _], _ => rfl,
      m__law_random_board := PySem.W.mg_of X G a_law_random_board,
      F_require_board := fun_mk (st := s_require_board) lrequire_board crequire_board krequire_board,
      b_require_board := (fun_mk (st := s_require_board) lrequire_board crequire_board krequire_board).binds (ps := ["value"]) fun _ _ _ _ _ _ us hl => match us, hl with | [_], _ => rfl,
      m_require_board := PySem.W.mg_of X G arequire_board,
      F_require_plan := fun_mk (st := s_require_plan) lrequire_plan crequire_plan krequire_plan,
      b_require_plan := (fun_mk (st := s_require_plan) lrequire_plan crequire_plan krequire_plan).binds (ps := ["places", "value"]) fun _ _ _ _ _ _ us hl => match us, hl with | [_, _], _ => rfl,
      m_require_plan := PySem.W.mg_of X G arequire_plan,
      F__law_random_plan := fun_mk (st := s__law_random_plan) l_law_random_plan c_law_random_plan k_law_random_plan,
      b__law_random_plan := (fun_mk (st := s__law_random_plan) l_law_random_plan c_law_random_plan k_law_random_plan).binds (ps := ["generator", "size", "longest"]) fun _ _ _ _ _ _ us hl => match us, hl with | [_, _, _], _ => rfl,
      m__law_random_plan := PySem.W.mg_of X G a_law_random_plan,
      F_track_card := fun_mk (st := s_track_card) ltrack_card ctrack_card ktrack_card,
      b_track_card := (fun_mk (st := s_track_card) ltrack_card ctrack_card ktrack_card).binds (ps := ["board", "plan", "card"]) fun _ _ _ _ _ _ us hl => match us, hl with | [_, _, _], _ => rfl,
      m_track_card := PySem.W.mg_of X G atrack_card,
      F_law := fun_mk (st := s_law) llaw claw klaw,
      b_law := (fun_mk (st := s_law) llaw claw klaw).binds (ps := ["script"]) fun _ _ _ _ _ _ us hl => match us, hl with | [_], _ => rfl,
      m_law := PySem.W.mg_of X G alaw,
      z_all := PySem.W.mg_none_of X G zall,
      z_any := PySem.W.mg_none_of X G zany,
      z_bool := PySem.W.mg_none_of X G zbool,
      z_enumerate := PySem.W.mg_none_of X G zenumerate,
      z_int := PySem.W.mg_none_of X G zint,
      z_isinstance := PySem.W.mg_none_of X G zisinstance,
      z_len := PySem.W.mg_none_of X G zlen,
      z_list := PySem.W.mg_none_of X G zlist,
      z_max := PySem.W.mg_none_of X G zmax,
      z_range := PySem.W.mg_none_of X G zrange,
      z_sorted := PySem.W.mg_none_of X G zsorted,
      z_sum := PySem.W.mg_none_of X G zsum,
      z_tuple := PySem.W.mg_none_of X G ztuple,
      z_zip := PySem.W.mg_none_of X G zzip }
  exact ⟨PySem.W.fnOf "law" "law" (defArgs s_law) (defBody s_law) (defScope s_law) .none kVlaw dclaw pmlaw anlaw cdlaw ctlaw, fun s v => .of_eq rfl, fun base _ _ => law_end (ok_law (k := 0) F) h_law⟩
theorem walk {l : PySem.W.OpenLaw} {q : Program} {loose : List Str} {XP : (Str → Option Value) → Heap → Prop} {YP : World → Heap → Prop} {d : DefRec} {K : Params → PySem.W.Frag} (hn : l.most = some 63) (hdf : d.params.defaults = [])
    (hY : ∀ (w : World) (h : Heap), YP w h → (K w.params).In h)
    (F : ∀ (w : World) (mg : Str → Option Value) (fa : Addr) (h : Heap), (K w.params).In h → h.Ns mainGlobals mg → mg d.name = some (.ref fa) →
      ∃ fd : FuncData, (∀ (s : Shared) (u : Value), BindsTo s fd ⟨[u], []⟩ [("script", u)]) ∧ ∀ base : Heap, (K w.params).In base → base.Ns mainGlobals mg → FnOk l.prog w (K w.params) mg base (L2.CX l.prog w) (0 + 7) fa fd ["script"] (spLaw (K w.params))) :
    PySem.W.WalkO q loose XP YP l.row.toRowW d [] (fun f vs => PySem.call f vs) :=
  L2.walk_of (n := 63) (k := 0 + 7) (x := "script") (CX := fun w => L2.CX l.prog w) (sp := fun w => spLaw (K w.params)) hn (by decide) hdf ⟨rfl, by decide, by decide⟩ hY F (fun _ _ a ns hl hO hS => ⟨hO, a, ns, rfl, hS, fun _ => rfl⟩) fun _ _ _ _ _ ⟨_, _, _, _, _, _, _, _, _, _, _, _, z⟩ => z
end W_k11
open PySem PySem.W PyProof.Rows
set_option maxRecDepth 100000 in
set_option maxHeartbeats 0 in
theorem PySem.Challenge.cw_leastpass_k11_tracking_cards_holds : PySem.Challenge.rw_leastpass_k11_tracking_cards.Holds := by
  w_on; o_law; k_head; (case hw => w_witness2)
  k_fill
  refine W_k11.walk (l := PySem.Challenge.rw_leastpass_k11_tracking_cards) rfl rfl (fun w h Y => PySem.W.kIn_of Y) ?F
  case F =>
    intro w mg fa h KX G hmg
    refine' W_k11.all_mk KX G hmg ?aCSimulation ?ais_integer ?lis_integer ?cis_integer ?kis_integer ?ais_pair_of_tuples ?lis_pair_of_tuples ?cis_pair_of_tuples ?kis_pair_of_tuples ?afirst_failure ?lfirst_failure ?cfirst_failure ?kfirst_failure ?aSimulation___init__ ?iSimulation___init__ ?lSimulation___init__ ?cSimulation___init__ ?kSimulation___init__ ?aSimulation_apply_round ?iSimulation_apply_round ?lSimulation_apply_round ?cSimulation_apply_round ?kSimulation_apply_round ?aSimulation_holder ?iSimulation_holder ?lSimulation_holder ?cSimulation_holder ?kSimulation_holder ?a_law_cell ?l_law_cell ?c_law_cell ?k_law_cell ?a_law_hash ?l_law_hash ?c_law_hash ?k_law_hash ?a_law_all_cards ?l_law_all_cards ?c_law_all_cards ?k_law_all_cards ?a_law_play_round ?l_law_play_round ?c_law_play_round ?k_law_play_round ?a_law_location ?l_law_location ?c_law_location ?k_law_location ?ais_at_least ?lis_at_least ?cis_at_least ?kis_at_least ?ais_round ?lis_round ?cis_round ?kis_round ?arequire_card ?lrequire_card ?crequire_card ?krequire_card ?aSimulation_location ?iSimulation_location ?lSimulation_location ?cSimulation_location ?kSimulation_location ?a_law_generator ?l_law_generator ?c_law_generator ?k_law_generator ?a_law_random ?l_law_random ?c_law_random ?k_law_random ?a_law_play ?l_law_play ?c_law_play ?k_law_play ?ais_hand ?lis_hand ?cis_hand ?kis_hand ?arequire_place_count ?lrequire_place_count ?crequire_place_count ?krequire_place_count ?a_law_shuffled ?l_law_shuffled ?c_law_shuffled ?k_law_shuffled ?acheck_board ?lcheck_board ?ccheck_board ?kcheck_board ?acheck_plan ?lcheck_plan ?ccheck_plan ?kcheck_plan ?a_law_random_round ?l_law_random_round ?c_law_random_round ?k_law_random_round ?a_law_random_board ?l_law_random_board ?c_law_random_board ?k_law_random_board ?arequire_board ?lrequire_board ?crequire_board ?krequire_board ?arequire_plan ?lrequire_plan ?crequire_plan ?krequire_plan ?a_law_random_plan ?l_law_random_plan ?c_law_random_plan ?k_law_random_plan ?atrack_card ?ltrack_card ?ctrack_card ?ktrack_card ?alaw ?llaw ?claw ?klaw ?pgSimulation ?hdSimulation ?poSimulation ?saSimulation ?mkSimulation ?kcSimulation ?nfSimulation_heaps ?nfSimulation_loads ?nfSimulation_lots ?nfSimulation_places ?zall ?zany ?zbool ?zenumerate ?zint ?zisinstance ?zlen ?zlist ?zmax ?zrange ?zsorted ?zsum ?ztuple ?zzip
    (case aCSimulation => k_is)
    (case ais_integer => k_is)
    (case lis_integer => k_is)
    (case cis_integer => k_is)
    (case kis_integer => k_is)
    (case ais_pair_of_tuples => k_is)
    (case lis_pair_of_tuples => k_is)
    (case cis_pair_of_tuples => k_is)
    (case kis_pair_of_tuples => k_is)
    (case afirst_failure => k_is)
    (case lfirst_failure => k_is)
    (case cfirst_failure => k_is)
    (case kfirst_failure => k_is)
    (case aSimulation___init__ => k_is)
    (case iSimulation___init__ => k_is)
    (case lSimulation___init__ => k_is)
    (case cSimulation___init__ => k_is)
    (case kSimulation___init__ => k_is)
    (case aSimulation_apply_round => k_is)
    (case iSimulation_apply_round => k_is)
    (case lSimulation_apply_round => k_is)
    (case cSimulation_apply_round => k_is)
    (case kSimulation_apply_round => k_is)
    (case aSimulation_holder => k_is)
    (case iSimulation_holder => k_is)
    (case lSimulation_holder => k_is)
    (case cSimulation_holder => k_is)
    (case kSimulation_holder => k_is)
    (case a_law_cell => k_is)
    (case l_law_cell => k_is)
    (case c_law_cell => k_is)
    (case k_law_cell => k_is)
    (case a_law_hash => k_is)
    (case l_law_hash => k_is)
    (case c_law_hash => k_is)
    (case k_law_hash => k_is)
    (case a_law_all_cards => k_is)
    (case l_law_all_cards => k_is)
    (case c_law_all_cards => k_is)
    (case k_law_all_cards => k_is)
    (case a_law_play_round => k_is)
    (case l_law_play_round => k_is)
    (case c_law_play_round => k_is)
    (case k_law_play_round => k_is)
    (case a_law_location => k_is)
    (case l_law_location => k_is)
    (case c_law_location => k_is)
    (case k_law_location => k_is)
    (case ais_at_least => k_is)
    (case lis_at_least => k_is)
    (case cis_at_least => k_is)
    (case kis_at_least => k_is)
    (case ais_round => k_is)
    (case lis_round => k_is)
    (case cis_round => k_is)
    (case kis_round => k_is)
    (case arequire_card => k_is)
    (case lrequire_card => k_is)
    (case crequire_card => k_is)
    (case krequire_card => k_is)
    (case aSimulation_location => k_is)
    (case iSimulation_location => k_is)
    (case lSimulation_location => k_is)
    (case cSimulation_location => k_is)
    (case kSimulation_location => k_is)
    (case a_law_generator => k_is)
    (case l_law_generator => k_is)
    (case c_law_generator => k_is)
    (case k_law_generator => k_is)
    (case a_law_random => k_is)
    (case l_law_random => k_is)
    (case c_law_random => k_is)
    (case k_law_random => k_is)
    (case a_law_play => k_is)
    (case l_law_play => k_is)
    (case c_law_play => k_is)
    (case k_law_play => k_is)
    (case ais_hand => k_is)
    (case lis_hand => k_is)
    (case cis_hand => k_is)
    (case kis_hand => k_is)
    (case arequire_place_count => k_is)
    (case lrequire_place_count => k_is)
    (case crequire_place_count => k_is)
    (case krequire_place_count => k_is)
    (case a_law_shuffled => k_is)
    (case l_law_shuffled => k_is)
    (case c_law_shuffled => k_is)
    (case k_law_shuffled => k_is)
    (case acheck_board => k_is)
    (case lcheck_board => k_is)
    (case ccheck_board => k_is)
    (case kcheck_board => k_is)
    (case acheck_plan => k_is)
    (case lcheck_plan => k_is)
    (case ccheck_plan => k_is)
    (case kcheck_plan => k_is)
    (case a_law_random_round => k_is)
    (case l_law_random_round => k_is)
    (case c_law_random_round => k_is)
    (case k_law_random_round => k_is)
    (case a_law_random_board => k_is)
    (case l_law_random_board => k_is)
    (case c_law_random_board => k_is)
    (case k_law_random_board => k_is)
    (case arequire_board => k_is)
    (case lrequire_board => k_is)
    (case crequire_board => k_is)
    (case krequire_board => k_is)
    (case arequire_plan => k_is)
    (case lrequire_plan => k_is)
    (case crequire_plan => k_is)
    (case krequire_plan => k_is)
    (case a_law_random_plan => k_is)
    (case l_law_random_plan => k_is)
    (case c_law_random_plan => k_is)
    (case k_law_random_plan => k_is)
    (case atrack_card => k_is)
    (case ltrack_card => k_is)
    (case ctrack_card => k_is)
    (case ktrack_card => k_is)
    (case alaw => k_is)
    (case llaw => k_is)
    (case claw => k_is)
    (case klaw => k_is)
    (case pgSimulation => k_is)
    (case hdSimulation => k_is)
    (case poSimulation => k_is)
    (case saSimulation => k_is)
    (case mkSimulation => k_is)
    (case kcSimulation => k_is)
    (case nfSimulation_heaps => k_is)
    (case nfSimulation_loads => k_is)
    (case nfSimulation_lots => k_is)
    (case nfSimulation_places => k_is)
    (case zall => k_is)
    (case zany => k_is)
    (case zbool => k_is)
    (case zenumerate => k_is)
    (case zint => k_is)
    (case zisinstance => k_is)
    (case zlen => k_is)
    (case zlist => k_is)
    (case zmax => k_is)
    (case zrange => k_is)
    (case zsorted => k_is)
    (case zsum => k_is)
    (case ztuple => k_is)
    (case zzip => k_is)
#print axioms PySem.Challenge.cw_leastpass_k11_tracking_cards_holds
