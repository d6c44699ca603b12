import PyProof.Rows.All
import Wide.All
import OpenK.AllK
import Wide.FinOn
import KE.KStateDown
import HandS.ForMost
import HandS.Exc
import HandS.ExcOwn
import HandS.TryMany
import HandS.ExcCtx
import HandS.Hot
import HandS.HotCalls
import HandS.ExcIs
import HandS.IsInst
import HandS.Wide
import HandS.WordsExc
import HandS.EndBits
import HandS.HeadHook1
import HandS.RaiseMore
import HandS.Defaults
import HandS.HeadHook2
import HandS.HeadEnd
import HandS.Head0
import HandS.Head1
import HandS.Head2
import HandS.Text
import HandS.SortRule
import HandS.Conv
import PySem.Challenge.RW_doubleledger_k09_sheets_and_worths
set_option Elab.async false
set_option linter.all false
set_option maxRecDepth 100000
set_option maxHeartbeats 4000000
/-! A functional layer over HandS: each expression, statement, def of the text has a function on plain data as its meaning. -/
namespace DL
open PySem PySem.Spec PyProof.Rows L2

/-! ## data -/
inductive D where
  | non | bl (b : Bool) | int (i : Int) | str (x : Str) | tup (ds : List D) | lst (ds : List D)
inductive Wv where
  | d (x : D) | ref (n : Nat) | scr (ns : List Int) | exc (c : Nat)
inductive O where
  | lst (ws : List Wv) | tup (ws : List Wv) | dK (kvs : List (Key × Wv)) | dT (kvs : List (List Key × Wv)) | ins (C : Nat) (ws : List Wv) | dead
abbrev Store := List O
abbrev Env := List (Option Wv)
inductive Res (α : Type) where
  | ok (a : α) (S : Store) | rz (c : Nat) (S : Store) | no
def Res.bind {α β : Type} : Res α → (α → Store → Res β) → Res β
  | .ok a S, k => k a S
  | .rz c S, _ => .rz c S
  | .no, _ => .no
abbrev St := L2.St
abbrev Ev := Env → Store → Res Wv

/-! ## pairs of lists -/
section
variable {α β : Type} {R : α → β → Prop}
theorem p2get : ∀ {xs : List α} {ys : List β} {i : Nat} {x : α}, Paired R xs ys → xs[i]? = some x → ∃ y, ys[i]? = some y ∧ R x y
  | _, _, _, _, .nil, e => by simp at e
  | _, _, 0, _, .cons r _, e => by simp at e; subst e; exact ⟨_, rfl, r⟩
  | _, _, i + 1, x, .cons _ t, e => by
    obtain ⟨u, h1, h2⟩ := p2get (i := i) (x := x) t (by simpa using e)
    exact ⟨u, by simpa using h1, h2⟩
theorem p2get' : ∀ {xs : List α} {ys : List β} {i : Nat} {y : β}, Paired R xs ys → ys[i]? = some y → ∃ x, xs[i]? = some x ∧ R x y
  | _, _, _, _, .nil, e => by simp at e
  | _, _, 0, _, .cons r _, e => by simp at e; subst e; exact ⟨_, rfl, r⟩
  | _, _, i + 1, x, .cons _ t, e => by
    obtain ⟨u, h1, h2⟩ := p2get' (i := i) (y := x) t (by simpa using e)
    exact ⟨u, by simpa using h1, h2⟩
theorem p2app : ∀ {xs xs' : List α} {ys ys' : List β}, Paired R xs ys → Paired R xs' ys' → Paired R (xs ++ xs') (ys ++ ys')
  | _, _, _, _, .nil, s => s
  | _, _, _, _, .cons r t, s => .cons r (p2app t s)
theorem p2set {x : α} {y : β} (r : R x y) : ∀ {xs : List α} {ys : List β} (i : Nat), Paired R xs ys → Paired R (xs.set i x) (ys.set i y)
  | _, _, _, .nil => .nil
  | _, _, 0, .cons _ t => .cons r t
  | _, _, i + 1, .cons q t => .cons q (p2set r i t)
theorem p2take : ∀ {xs : List α} {ys : List β} (n : Nat), Paired R xs ys → Paired R (xs.take n) (ys.take n)
  | _, _, 0, _ => .nil
  | _, _, _ + 1, .nil => .nil
  | _, _, n + 1, .cons r t => .cons r (p2take n t)
theorem p2drop : ∀ {xs : List α} {ys : List β} (n : Nat), Paired R xs ys → Paired R (xs.drop n) (ys.drop n)
  | _, _, 0, r => r
  | _, _, _ + 1, .nil => .nil
  | _, _, n + 1, .cons _ t => p2drop n t
theorem p2rep {x : α} {y : β} (r : R x y) : ∀ n : Nat, Paired R (List.replicate n x) (List.replicate n y)
  | 0 => .nil
  | n + 1 => .cons r (p2rep r n)
theorem p2flat {xs : List α} {ys : List β} (r : Paired R xs ys) : ∀ n : Nat, Paired R (List.replicate n xs).flatten (List.replicate n ys).flatten
  | 0 => .nil
  | n + 1 => by
    rw [List.replicate_succ, List.replicate_succ, List.flatten_cons, List.flatten_cons]
    exact p2app r (p2flat r n)
theorem p2map {α' β' : Type} {R' : α' → β' → Prop} {f : α → α'} {g : β → β'} (h : ∀ a b, R a b → R' (f a) (g b)) : ∀ {xs : List α} {ys : List β}, Paired R xs ys → Paired R' (xs.map f) (ys.map g)
  | _, _, .nil => .nil
  | _, _, .cons r t => .cons (h _ _ r) (p2map h t)
theorem p2mapL {α' : Type} {R' : α' → β → Prop} {f : α → α'} (h : ∀ a b, R a b → R' (f a) b) : ∀ {xs : List α} {ys : List β}, Paired R xs ys → Paired R' (xs.map f) ys
  | _, _, .nil => .nil
  | _, _, .cons r t => .cons (h _ _ r) (p2mapL h t)
theorem p2mapL' {α' : Type} {R' : α' → β → Prop} {f : α → α'} (h : ∀ a b, R' (f a) b → R a b) : ∀ {xs : List α} {ys : List β}, Paired R' (xs.map f) ys → Paired R xs ys
  | [], _, .nil => .nil
  | _ :: _, _, .cons r t => .cons (h _ _ r) (p2mapL' h t)
theorem p2imp {R' : α → β → Prop} (h : ∀ a b, R a b → R' a b) : ∀ {xs : List α} {ys : List β}, Paired R xs ys → Paired R' xs ys
  | _, _, .nil => .nil
  | _, _, .cons r t => .cons (h _ _ r) (p2imp h t)
theorem p2none {xs : List α} {ys : List β} {i : Nat} (r : Paired R xs ys) (e : xs[i]? = none) : ys[i]? = none := by
  have h1 := r.length
  have h2 : xs.length ≤ i := List.getElem?_eq_none_iff.mp e
  exact List.getElem?_eq_none_iff.mpr (by omega)
end

/-! ## what stands for what -/
mutual
def Rep (F : Hp) : D → V → Prop
  | .non, v => v = .non
  | .bl b, v => v = .bl b
  | .int i, v => v = .int i
  | .str x, v => v = .str x
  | .tup ds, v => ∃ a xs, v = .ref a ∧ F a = some (.tup xs) ∧ RepL F ds xs
  | .lst ds, v => ∃ a xs, v = .ref a ∧ F a = some (.lst xs) ∧ RepL F ds xs
def RepL (F : Hp) : List D → List V → Prop
  | [], xs => xs = []
  | d :: ds, xs => ∃ v vs, xs = v :: vs ∧ Rep F d v ∧ RepL F ds vs
end
theorem repL_iff {F : Hp} : ∀ {ds : List D} {xs : List V}, RepL F ds xs ↔ Paired (Rep F) ds xs
  | [], xs => by
    rw [RepL]
    exact ⟨fun h => by rw [h]; exact .nil, fun h => by cases h; rfl⟩
  | d :: ds, xs => by
    rw [RepL]
    refine ⟨fun ⟨v, vs, e, r, t⟩ => ?_, fun h => ?_⟩
    · rw [e]
      exact .cons r (repL_iff.mp t)
    · cases h with
      | cons r t => exact ⟨_, _, rfl, r, repL_iff.mpr t⟩
theorem rep_tup {F : Hp} {ds : List D} {v : V} : Rep F (.tup ds) v ↔ ∃ a xs, v = .ref a ∧ F a = some (.tup xs) ∧ Paired (Rep F) ds xs := by
  rw [Rep]
  exact ⟨fun ⟨a, xs, e, h, r⟩ => ⟨a, xs, e, h, repL_iff.mp r⟩, fun ⟨a, xs, e, h, r⟩ => ⟨a, xs, e, h, repL_iff.mpr r⟩⟩
theorem rep_lst {F : Hp} {ds : List D} {v : V} : Rep F (.lst ds) v ↔ ∃ a xs, v = .ref a ∧ F a = some (.lst xs) ∧ Paired (Rep F) ds xs := by
  rw [Rep]
  exact ⟨fun ⟨a, xs, e, h, r⟩ => ⟨a, xs, e, h, repL_iff.mp r⟩, fun ⟨a, xs, e, h, r⟩ => ⟨a, xs, e, h, repL_iff.mpr r⟩⟩
theorem rep_int {F : Hp} {i : Int} {v : V} : Rep F (.int i) v ↔ v = .int i := by rw [Rep]
theorem rep_bl {F : Hp} {i : Bool} {v : V} : Rep F (.bl i) v ↔ v = .bl i := by rw [Rep]
theorem rep_str {F : Hp} {i : Str} {v : V} : Rep F (.str i) v ↔ v = .str i := by rw [Rep]
theorem rep_non {F : Hp} {v : V} : Rep F .non v ↔ v = .non := by rw [Rep]
/-- what a representation leans on: lists and tuples -/
def FSub (F F' : Hp) : Prop := (∀ a xs, F a = some (.lst xs) → F' a = some (.lst xs)) ∧ (∀ a xs, F a = some (.tup xs) → F' a = some (.tup xs))
theorem FSub.of {F F' : Hp} (h : ∀ a o, F a = some o → F' a = some o) : FSub F F' := ⟨fun a xs => h a _, fun a xs => h a _⟩
mutual
theorem Rep.mono {F F' : Hp} (s : FSub F F') : ∀ {d : D} {v : V}, Rep F d v → Rep F' d v
  | .non, v, h => by rw [Rep] at h ⊢; exact h
  | .bl b, v, h => by rw [Rep] at h ⊢; exact h
  | .int i, v, h => by rw [Rep] at h ⊢; exact h
  | .str x, v, h => by rw [Rep] at h ⊢; exact h
  | .tup ds, v, h => by
    rw [Rep] at h ⊢
    obtain ⟨a, xs, e, h1, h2⟩ := h
    exact ⟨a, xs, e, s.2 _ _ h1, RepL.mono s h2⟩
  | .lst ds, v, h => by
    rw [Rep] at h ⊢
    obtain ⟨a, xs, e, h1, h2⟩ := h
    exact ⟨a, xs, e, s.1 _ _ h1, RepL.mono s h2⟩
theorem RepL.mono {F F' : Hp} (s : FSub F F') : ∀ {ds : List D} {xs : List V}, RepL F ds xs → RepL F' ds xs
  | [], xs, h => by rw [RepL] at h ⊢; exact h
  | d :: ds, xs, h => by
    rw [RepL] at h ⊢
    obtain ⟨v, vs, e, h1, h2⟩ := h
    exact ⟨v, vs, e, Rep.mono s h1, RepL.mono s h2⟩
end

/-- the surroundings: the written part, the module's names, the exception that an except suite holds -/
structure Gc where
  K : PySem.W.Frag
  xo : Option (Addr × Nat) := none
/-- the text's classes with their fields in the order in which they are stored; its exceptions, any refusal first -/
def clsTab : List (Str × List Str) := [("Book", ["home", "rates", "names", "entries", "ends", "backs", "deeds"]), ("Rates", ["home", "rows"])]
def excTab : List Str := ["LedgerError", "BadName", "BadCurrency", "BadAmount", "BadDay", "BadNote", "BadRate", "Unbalanced", "Closed", "Taken", "TakenBack", "NoAccount", "NoEntry", "NoRate", "NoPeriod", "TooSmall", "BadText"]
def Gc.cls (G : Gc) (n : Nat) : Option (Addr × List Str) := clsTab[n]?.map fun p => (He.ga G.K p.1, p.2)
def Gc.exc (G : Gc) (n : Nat) : Option Addr := excTab[n]?.map (He.ga G.K)
abbrev Gc.calm (G : Gc) : Gc := { G with xo := none }
def RepW (G : Gc) (F : Hp) (ι : List Addr) : Wv → V → Prop
  | .d x, v => Rep F x v
  | .ref n, v => ∃ a, ι[n]? = some a ∧ v = .ref a
  | .scr ns, v => ∃ a, v = .ref a ∧ SqL G.K F a (ns.map V.int)
  | .exc c, v => ∃ a, G.xo = some (a, c) ∧ v = .ref a
abbrev RepWs (G : Gc) (F : Hp) (ι : List Addr) : List Wv → List V → Prop := Paired (RepW G F ι)
def RepO (G : Gc) (F : Hp) (ι : List Addr) : O → HO → Prop
  | .lst ws, h => ∃ xs, h = .lst xs ∧ RepWs G.calm F ι ws xs
  | .tup ws, h => ∃ xs, h = .tup xs ∧ RepWs G.calm F ι ws xs
  | .dK kvs, h => ∃ l : List (Key × V), h = .dK l ∧ Paired (fun p q => p.1 = q.1 ∧ RepW G.calm F ι p.2 q.2) kvs l
  | .dT kvs, h => ∃ l : List (List Key × V), h = .dT l ∧ Paired (fun p q => p.1 = q.1 ∧ RepW G.calm F ι p.2 q.2) kvs l
  | .ins C ws, h => ∃ Ca fs dx l, h = .ins Ca dx l ∧ G.cls C = some (Ca, fs) ∧ l.map (·.1) = fs.take ws.length ∧ ws.length ≤ fs.length ∧ RepWs G.calm F ι ws (l.map (·.2))
  | .dead, _ => True
/-- the sequence of extensions: what is frozen stays, the addresses of the store's objects stay, what is not ours stays -/
structure Ext (F : Hp) (ι : List Addr) (H F' : Hp) (ι' : List Addr) (H' : Hp) : Prop where
  fz : ∀ a o, F a = some o → F' a = some o
  pre : ∃ t, ι' = ι ++ t
  fr : ∀ b o, H b = some o → b ∉ ι → b ∉ ι' ∧ H' b = some o
  fn : ∀ b o, H b = some o → b ∉ ι → F b = none → (∀ xs, o ≠ .tup xs) → F' b = none
theorem Ext.refl (F : Hp) (ι : List Addr) (H : Hp) : Ext F ι H F ι H := ⟨fun _ _ h => h, ⟨[], by simp⟩, fun _ _ h n => ⟨n, h⟩, fun _ _ _ _ h _ => h⟩
theorem Ext.trans {F F1 F2 : Hp} {ι ι1 ι2 : List Addr} {H H1 H2 : Hp} (a : Ext F ι H F1 ι1 H1) (b : Ext F1 ι1 H1 F2 ι2 H2) : Ext F ι H F2 ι2 H2 := by
  refine ⟨fun c o h => b.fz c o (a.fz c o h), ?_, fun c o h n => ?_, fun c o h n f g => ?_⟩
  rotate_right
  · obtain ⟨n1, h1⟩ := a.fr c o h n
    exact b.fn c o h1 n1 (a.fn c o h n f g) g
  · obtain ⟨t, e⟩ := a.pre
    obtain ⟨u, e'⟩ := b.pre
    exact ⟨t ++ u, by rw [e', e, List.append_assoc]⟩
  · obtain ⟨n1, h1⟩ := a.fr c o h n
    exact b.fr c o h1 n1
theorem ext_ix {ι ι' : List Addr} (h : ∃ t, ι' = ι ++ t) {n : Nat} {a : Addr} (e : ι[n]? = some a) : ι'[n]? = some a := by
  obtain ⟨t, rfl⟩ := h
  rw [List.getElem?_append_left (List.getElem?_eq_some_iff.mp e).1]
  exact e
theorem sqL_mono {K : PySem.W.Frag} {F F' : Hp} (s : ∀ a o, F a = some o → F' a = some o) {a : Addr} {xs : List V} (h : SqL K F a xs) : SqL K F' a xs := by
  rcases h with (h | ⟨o, h⟩) | h
  · exact .inl (.inl (s _ _ h))
  · exact .inl (.inr ⟨o, s _ _ h⟩)
  · exact .inr h
theorem RepW.mono {G : Gc} {F F' : Hp} {ι ι' : List Addr} (s : ∀ a o, F a = some o → F' a = some o) (p : ∃ t, ι' = ι ++ t) : ∀ {w : Wv} {v : V}, RepW G F ι w v → RepW G F' ι' w v
  | .d x, v, h => Rep.mono (.of s) h
  | .ref n, v, ⟨a, h, e⟩ => ⟨a, ext_ix p h, e⟩
  | .scr ns, v, ⟨a, e, h⟩ => ⟨a, e, sqL_mono s h⟩
  | .exc c, v, h => h
theorem RepO.mono {G : Gc} {F F' : Hp} {ι ι' : List Addr} (s : ∀ a o, F a = some o → F' a = some o) (p : ∃ t, ι' = ι ++ t) : ∀ {w : O} {v : HO}, RepO G F ι w v → RepO G F' ι' w v
  | .lst ws, v, ⟨xs, e, r⟩ => ⟨xs, e, p2imp (fun _ _ h => h.mono s p) r⟩
  | .tup ws, v, ⟨xs, e, r⟩ => ⟨xs, e, p2imp (fun _ _ h => h.mono s p) r⟩
  | .dK ws, v, ⟨xs, e, r⟩ => ⟨xs, e, p2imp (fun _ _ h => ⟨h.1, h.2.mono s p⟩) r⟩
  | .dT ws, v, ⟨xs, e, r⟩ => ⟨xs, e, p2imp (fun _ _ h => ⟨h.1, h.2.mono s p⟩) r⟩
  | .ins C ws, v, ⟨c, fs, dx, xs, e, m, k, z, r⟩ => ⟨c, fs, dx, xs, e, m, k, z, p2imp (fun _ _ h => h.mono s p) r⟩
  | .dead, v, _ => trivial
def Wv.isD : Wv → Bool
  | .d _ => true
  | _ => false
structure Real (G : Gc) (F : Hp) (ι : List Addr) (S : Store) (H : Hp) : Prop where
  len : ι.length = S.length
  frz : ∀ a o, F a = some o → H a = some o
  nd : ι.Nodup
  trk : ∀ a, a ∈ ι → ∃ o, H a = some o
  at_ : ∀ (n : Nat) (a : Addr) (o : O), ι[n]? = some a → S[n]? = some o → o ≠ .dead → F a = none ∧ ∃ h, H a = some h ∧ RepO G F ι o h
  tp : ∀ (n : Nat) (ws : List Wv), S[n]? = some (.tup ws) → ws.all Wv.isD = false
  dd : ∀ (n : Nat) (a : Addr), ι[n]? = some a → S[n]? = some .dead → ∃ o, F a = some o
theorem dd_app {F : Hp} {ι : List Addr} {S : Store} {q : O} {p : Addr} (hl : ι.length = S.length) (h : ∀ (n : Nat) (a : Addr), ι[n]? = some a → S[n]? = some .dead → ∃ o, F a = some o) (hd : q ≠ .dead) : ∀ (n : Nat) (a : Addr), (ι ++ [p])[n]? = some a → (S ++ [q])[n]? = some .dead → ∃ o, F a = some o := fun n a e1 e2 => by
  by_cases hn : n < S.length
  · rw [List.getElem?_append_left hn] at e2
    rw [List.getElem?_append_left (by omega)] at e1
    exact h n a e1 e2
  · have hl2 : n < (S ++ [q]).length := (List.getElem?_eq_some_iff.mp e2).1
    have en : n = S.length := by simp at hl2; omega
    subst en
    simp at e2
    exact absurd e2 hd
theorem dd_set {F : Hp} {ι : List Addr} {S : Store} {q : O} {m : Nat} (h : ∀ (n : Nat) (a : Addr), ι[n]? = some a → S[n]? = some .dead → ∃ o, F a = some o) (hd : q ≠ .dead) : ∀ (n : Nat) (a : Addr), ι[n]? = some a → (S.set m q)[n]? = some .dead → ∃ o, F a = some o := fun n a e1 e2 => by
  by_cases hn : n = m
  · subst hn
    have hl : n < (S.set n q).length := (List.getElem?_eq_some_iff.mp e2).1
    rw [List.getElem?_set_self (by simpa using hl)] at e2
    exact absurd (Option.some.inj e2) hd
  · rw [List.getElem?_set_ne (Ne.symm hn)] at e2
    exact h n a e1 e2
theorem dd_new {F : Hp} {ι : List Addr} {S : Store} {p : Addr} {o : HO} (h : ∀ (n : Nat) (a : Addr), ι[n]? = some a → S[n]? = some .dead → ∃ o, F a = some o) : ∀ (n : Nat) (a : Addr), ι[n]? = some a → S[n]? = some .dead → ∃ u, upd F p o a = some u := fun n a e1 e2 => by
  by_cases hp : a = p
  · exact ⟨o, by rw [hp, upd_same]⟩
  · rw [upd_ne hp]; exact h n a e1 e2
theorem dd_kill {F : Hp} {ι : List Addr} {S : Store} {m : Nat} {p : Addr} {o : HO} (hm : ι[m]? = some p) (h : ∀ (n : Nat) (a : Addr), ι[n]? = some a → S[n]? = some .dead → ∃ o, F a = some o) : ∀ (n : Nat) (a : Addr), ι[n]? = some a → (S.set m .dead)[n]? = some .dead → ∃ u, upd F p o a = some u := fun n a e1 e2 => by
  by_cases hp : a = p
  · exact ⟨o, by rw [hp, upd_same]⟩
  · have hn : m ≠ n := fun z => by subst z; rw [hm] at e1; exact hp (Option.some.inj e1).symm
    rw [List.getElem?_set_ne hn] at e2
    rw [upd_ne hp]; exact h n a e1 e2
theorem tp_app {S : Store} {q : O} (h : ∀ (n : Nat) (ws : List Wv), S[n]? = some (.tup ws) → ws.all Wv.isD = false) (ht : ∀ ws, q = .tup ws → ws.all Wv.isD = false) : ∀ (n : Nat) (ws : List Wv), (S ++ [q])[n]? = some (.tup ws) → ws.all Wv.isD = false := fun n ws e => by
  by_cases hn : n < S.length
  · rw [List.getElem?_append_left hn] at e
    exact h n ws e
  · have hl : n < (S ++ [q]).length := (List.getElem?_eq_some_iff.mp e).1
    have en : n = S.length := by simp at hl; omega
    subst en
    simp at e
    exact ht ws e
theorem tp_set {S : Store} {q : O} {m : Nat} (h : ∀ (n : Nat) (ws : List Wv), S[n]? = some (.tup ws) → ws.all Wv.isD = false) (ht : ∀ ws, q = .tup ws → ws.all Wv.isD = false) : ∀ (n : Nat) (ws : List Wv), (S.set m q)[n]? = some (.tup ws) → ws.all Wv.isD = false := fun n ws e => by
  by_cases hn : n = m
  · subst hn
    have hl : n < (S.set n q).length := (List.getElem?_eq_some_iff.mp e).1
    rw [List.getElem?_set_self (by simpa using hl)] at e
    exact ht ws (Option.some.inj e)
  · rw [List.getElem?_set_ne (Ne.symm hn)] at e
    exact h n ws e
theorem Real.calm {G : Gc} {F : Hp} {ι : List Addr} {S : Store} {H : Hp} (r : Real G F ι S H) : Real G.calm F ι S H :=
  ⟨r.len, r.frz, r.nd, r.trk, fun n a o h1 h2 h3 => by
    obtain ⟨x, h, y, z⟩ := r.at_ n a o h1 h2 h3
    exact ⟨x, h, y, by cases o <;> exact z⟩, r.tp, r.dd⟩
theorem Real.to {G G' : Gc} (hK : G.K = G'.K) {F : Hp} {ι : List Addr} {S : Store} {H : Hp} (r : Real G F ι S H) : Real G' F ι S H := by
  obtain ⟨K, xo⟩ := G
  obtain ⟨K', xo'⟩ := G'
  cases hK
  exact ⟨r.len, r.frz, r.nd, r.trk, fun n a o h1 h2 h3 => by
    obtain ⟨x, h, y, z⟩ := r.at_ n a o h1 h2 h3
    exact ⟨x, h, y, by cases o <;> exact z⟩, r.tp, r.dd⟩
section
variable {G : Gc} {F : Hp} {ι : List Addr} {S : Store} {H : Hp} {p : Addr} {o : HO}
theorem Real.fnone (r : Real G F ι S H) (h : H p = none) : F p = none := by
  cases e : F p with
  | none => rfl
  | some u => rw [r.frz _ _ e] at h; cases h
theorem fz_new (hF : F p = none) : ∀ a u, F a = some u → (upd F p o) a = some u := fun a u e => by
  rw [upd_ne (ne_of_none e hF)]; exact e
theorem Real.notin (r : Real G F ι S H) (h : H p = none) : p ∉ ι := fun hm => by
  obtain ⟨u, e⟩ := r.trk p hm
  rw [e] at h; cases h
/-- a new frozen object -/
theorem Real.newF (r : Real G F ι S H) (h : H p = none) : Real G (upd F p o) ι S (upd H p o) := by
  have hF := r.fnone h
  refine ⟨r.len, fun a u e => ?_, r.nd, fun a ha => ?_, fun n a u e1 e2 e3 => ?_, r.tp, dd_new r.dd⟩
  · by_cases hp : a = p
    · subst hp; rw [upd_same] at e ⊢; exact e
    · rw [upd_ne hp] at e ⊢; exact r.frz _ _ e
  · obtain ⟨u, e⟩ := r.trk a ha
    exact ⟨u, by rw [upd_ne (ne_of_none e h)]; exact e⟩
  · obtain ⟨x, hh, y, z⟩ := r.at_ n a u e1 e2 e3
    have np : a ≠ p := ne_of_none y h
    exact ⟨by rw [upd_ne np]; exact x, hh, by rw [upd_ne np]; exact y, z.mono (fz_new hF) ⟨[], by simp⟩⟩
theorem Ext.newF (r : Real G F ι S H) (h : H p = none) : Ext F ι H (upd F p o) ι (upd H p o) :=
  ⟨fz_new (r.fnone h), ⟨[], by simp⟩, fun b u e n => ⟨n, by rw [upd_ne (ne_of_none e h)]; exact e⟩, fun b u e n f _ => by rw [upd_ne (ne_of_none e h)]; exact f⟩
/-- a new object of the store -/
theorem Real.newS {q : O} (r : Real G F ι S H) (h : H p = none) (ro : RepO G F (ι ++ [p]) q o) (ht : ∀ ws, q = .tup ws → ws.all Wv.isD = false := by intro ws e; cases e) (hd : q ≠ .dead := by intro e; cases e) : Real G F (ι ++ [p]) (S ++ [q]) (upd H p o) := by
  have hF := r.fnone h
  have hni := r.notin h
  refine ⟨by simp [r.len], fun a u e => by rw [upd_ne (ne_of_none e hF)]; exact r.frz _ _ e, ?_, fun a ha => ?_, fun n a u e1 e2 e3 => ?_, tp_app r.tp ht, dd_app r.len r.dd hd⟩
  · rw [List.nodup_append]
    refine ⟨r.nd, by simp, fun a ha b hb => ?_⟩
    have hb' : b = p := by simpa using hb
    rw [hb']
    exact fun z => hni (z ▸ ha)
  · by_cases hp : a = p
    · exact ⟨o, by rw [hp, upd_same]⟩
    · have : a ∈ ι := by
        rcases List.mem_append.mp ha with z | z
        · exact z
        · exact absurd (by simpa using z) hp
      obtain ⟨u, e⟩ := r.trk a this
      exact ⟨u, by rw [upd_ne hp]; exact e⟩
  · by_cases hn : n < ι.length
    · rw [List.getElem?_append_left hn] at e1
      rw [List.getElem?_append_left (by rw [← r.len]; exact hn)] at e2
      obtain ⟨x, hh, y, z⟩ := r.at_ n a u e1 e2 e3
      exact ⟨x, hh, by rw [upd_ne (ne_of_none y h)]; exact y, z.mono (fun _ _ q => q) ⟨[p], rfl⟩⟩
    · have hl : n < (ι ++ [p]).length := (List.getElem?_eq_some_iff.mp e1).1
      have en : n = ι.length := by simp at hl; omega
      subst en
      rw [List.getElem?_append_right (Nat.le_refl _)] at e1
      rw [List.getElem?_append_right (by rw [r.len]; exact Nat.le_refl _)] at e2
      simp [r.len] at e1 e2
      subst e1 e2
      exact ⟨hF, o, upd_same, ro⟩
theorem Ext.newS (r : Real G F ι S H) (h : H p = none) : Ext F ι H F (ι ++ [p]) (upd H p o) :=
  ⟨fun _ _ e => e, ⟨[p], rfl⟩, fun b u e n => by
    have np := ne_of_none e h
    exact ⟨by simp [n, np], by rw [upd_ne np]; exact e⟩, fun _ _ _ _ f _ => f⟩
/-- an object of the store is written -/
theorem Real.put {n : Nat} {q q' : O} (r : Real G F ι S H) (e1 : ι[n]? = some p) (e2 : S[n]? = some q) (e3 : q ≠ .dead) (ro : RepO G F ι q' o) (ht : ∀ ws, q' = .tup ws → ws.all Wv.isD = false := by intro ws e; cases e) (hd : q' ≠ .dead := by intro e; cases e) : Real G F ι (S.set n q') (upd H p o) := by
  obtain ⟨hF, h0, hh, _⟩ := r.at_ n p q e1 e2 e3
  have hn : n < S.length := (List.getElem?_eq_some_iff.mp e2).1
  refine ⟨by simp [r.len], fun a u e => by rw [upd_ne (ne_of_none e hF)]; exact r.frz _ _ e, r.nd, fun a ha => ?_, fun m a u f1 f2 f3 => ?_, tp_set r.tp ht, dd_set r.dd hd⟩
  · by_cases hp : a = p
    · exact ⟨o, by rw [hp, upd_same]⟩
    · obtain ⟨u, e⟩ := r.trk a ha
      exact ⟨u, by rw [upd_ne hp]; exact e⟩
  · by_cases hm : m = n
    · subst hm
      rw [List.getElem?_set_self hn] at f2
      rw [e1] at f1
      cases f1; cases f2
      exact ⟨hF, o, upd_same, ro⟩
    · rw [List.getElem?_set_ne (Ne.symm hm)] at f2
      obtain ⟨x, h1, y, z⟩ := r.at_ m a u f1 f2 f3
      have np : a ≠ p := fun e => by
        subst e
        have l1 := (List.getElem?_eq_some_iff.mp f1)
        have l2 := (List.getElem?_eq_some_iff.mp e1)
        obtain ⟨l1, g1⟩ := l1
        obtain ⟨l2, g2⟩ := l2
        exact hm ((List.getElem_inj r.nd).mp (g1.trans g2.symm))
      exact ⟨x, h1, by rw [upd_ne np]; exact y, z⟩
theorem Ext.put {n : Nat} (e1 : ι[n]? = some p) : Ext F ι H F ι (upd H p o) :=
  ⟨fun _ _ e => e, ⟨[], by simp⟩, fun b u e n => ⟨n, by
    have : b ≠ p := fun z => n (by rw [z]; exact List.mem_of_getElem? e1)
    rw [upd_ne this]; exact e⟩, fun _ _ _ _ f _ => f⟩
/-- a list of the store is frozen -/
theorem Real.freeze {n : Nat} {q : O} (r : Real G F ι S H) (e1 : ι[n]? = some p) (e2 : S[n]? = some q) (e3 : q ≠ .dead) (hp : H p = some o) : Real G (upd F p o) ι (S.set n .dead) H := by
  obtain ⟨hF, h0, hh, _⟩ := r.at_ n p q e1 e2 e3
  have hn : n < S.length := (List.getElem?_eq_some_iff.mp e2).1
  refine ⟨by simp [r.len], fun a u e => ?_, r.nd, r.trk, fun m a u f1 f2 f3 => ?_, tp_set r.tp (fun _ e => nomatch e), dd_kill e1 r.dd⟩
  · by_cases ha : a = p
    · subst ha; rw [upd_same] at e; cases e; exact hp
    · rw [upd_ne ha] at e; exact r.frz _ _ e
  · by_cases hm : m = n
    · subst hm
      rw [List.getElem?_set_self hn] at f2
      cases f2
      exact absurd rfl f3
    · rw [List.getElem?_set_ne (Ne.symm hm)] at f2
      obtain ⟨x, h1, y, z⟩ := r.at_ m a u f1 f2 f3
      have np : a ≠ p := fun e => by
        subst e
        obtain ⟨l1, g1⟩ := List.getElem?_eq_some_iff.mp f1
        obtain ⟨l2, g2⟩ := List.getElem?_eq_some_iff.mp e1
        exact hm ((List.getElem_inj r.nd).mp (g1.trans g2.symm))
      exact ⟨by rw [upd_ne np]; exact x, h1, y, z.mono (fz_new hF) ⟨[], by simp⟩⟩
theorem Ext.freeze {n : Nat} {q : O} (r : Real G F ι S H) (e1 : ι[n]? = some p) (e2 : S[n]? = some q) (e3 : q ≠ .dead) : Ext F ι H (upd F p o) ι H :=
  ⟨fz_new (r.at_ n p q e1 e2 e3).1, ⟨[], by simp⟩, fun b u e n => ⟨n, e⟩, fun b u e n f _ => by
    have : b ≠ p := fun z => n (by rw [z]; exact List.mem_of_getElem? e1)
    rw [upd_ne this]; exact f⟩
/-- an object that is neither frozen nor the store's is written -/
theorem Real.other (r : Real G F ι S H) (hF : F p = none) (hi : p ∉ ι) : Real G F ι S (upd H p o) := by
  refine ⟨r.len, fun a u e => by rw [upd_ne (ne_of_none e hF)]; exact r.frz _ _ e, r.nd, fun a ha => ?_, fun n a u e1 e2 e3 => ?_, r.tp, r.dd⟩
  · have np : a ≠ p := fun z => hi (z ▸ ha)
    obtain ⟨u, e⟩ := r.trk a ha
    exact ⟨u, by rw [upd_ne np]; exact e⟩
  · have np : a ≠ p := fun z => hi (z ▸ List.mem_of_getElem? e1)
    obtain ⟨x, hh, y, z⟩ := r.at_ n a u e1 e2 e3
    exact ⟨x, hh, by rw [upd_ne np]; exact y, z⟩
/-- such an object is frozen -/
theorem Real.toF (r : Real G F ι S H) (hp : H p = some o) (hF : F p = none) (hi : p ∉ ι) : Real G (upd F p o) ι S H := by
  refine ⟨r.len, fun a u e => ?_, r.nd, r.trk, fun n a u e1 e2 e3 => ?_, r.tp, dd_new r.dd⟩
  · by_cases ha : a = p
    · subst ha; rw [upd_same] at e; cases e; exact hp
    · rw [upd_ne ha] at e; exact r.frz _ _ e
  · have np : a ≠ p := fun z => hi (z ▸ List.mem_of_getElem? e1)
    obtain ⟨x, hh, y, z⟩ := r.at_ n a u e1 e2 e3
    exact ⟨by rw [upd_ne np]; exact x, hh, y, z.mono (fz_new hF) ⟨[], by simp⟩⟩
/-- .. or joins the store -/
theorem Real.toS {q : O} (r : Real G F ι S H) (hp : H p = some o) (hF : F p = none) (hi : p ∉ ι) (ro : RepO G F (ι ++ [p]) q o) (ht : ∀ ws, q = .tup ws → ws.all Wv.isD = false := by intro ws e; cases e) (hd : q ≠ .dead := by intro e; cases e) : Real G F (ι ++ [p]) (S ++ [q]) H := by
  refine ⟨by simp [r.len], r.frz, ?_, fun a ha => ?_, fun n a u e1 e2 e3 => ?_, tp_app r.tp ht, dd_app r.len r.dd hd⟩
  · rw [List.nodup_append]
    refine ⟨r.nd, by simp, fun a ha b hb => ?_⟩
    have hb' : b = p := by simpa using hb
    rw [hb']
    exact fun z => hi (z ▸ ha)
  · rcases List.mem_append.mp ha with z | z
    · exact r.trk a z
    · have : a = p := by simpa using z
      exact ⟨o, by rw [this]; exact hp⟩
  · by_cases hn : n < ι.length
    · rw [List.getElem?_append_left hn] at e1
      rw [List.getElem?_append_left (by rw [← r.len]; exact hn)] at e2
      obtain ⟨x, hh, y, z⟩ := r.at_ n a u e1 e2 e3
      exact ⟨x, hh, y, z.mono (fun _ _ q => q) ⟨[p], rfl⟩⟩
    · have hl : n < (ι ++ [p]).length := (List.getElem?_eq_some_iff.mp e1).1
      have en : n = ι.length := by simp at hl; omega
      subst en
      rw [List.getElem?_append_right (Nat.le_refl _)] at e1
      rw [List.getElem?_append_right (by rw [r.len]; exact Nat.le_refl _)] at e2
      simp [r.len] at e1 e2
      subst e1 e2
      exact ⟨hF, o, hp, ro⟩
end

/-! ## the environment -/
structure REnv (G : Gc) (F : Hp) (ι : List Addr) (σ : St) (ρ : Env) : Prop where
  len : σ.length = ρ.length
  at_ : ∀ (i : Nat) (w : Wv), ρ[i]? = some (some w) → ∃ v, σ[i]? = some (some v) ∧ RepW G F ι w v
theorem REnv.mono {G : Gc} {F F' : Hp} {ι ι' : List Addr} {σ : St} {ρ : Env} (s : ∀ a o, F a = some o → F' a = some o) (p : ∃ t, ι' = ι ++ t) (r : REnv G F ι σ ρ) : REnv G F' ι' σ ρ :=
  ⟨r.len, fun i w e => by
    obtain ⟨v, h, q⟩ := r.at_ i w e
    exact ⟨v, h, q.mono s p⟩⟩
theorem REnv.ext {G : Gc} {F F' : Hp} {ι ι' : List Addr} {H H' : Hp} {σ : St} {ρ : Env} (r : REnv G F ι σ ρ) (x : Ext F ι H F' ι' H') : REnv G F' ι' σ ρ := r.mono x.fz x.pre
theorem RepW.ext {G : Gc} {F F' : Hp} {ι ι' : List Addr} {H H' : Hp} {w : Wv} {v : V} (r : RepW G F ι w v) (x : Ext F ι H F' ι' H') : RepW G F' ι' w v := r.mono x.fz x.pre
theorem REnv.set {G : Gc} {F : Hp} {ι : List Addr} {σ : St} {ρ : Env} {w : Wv} {v : V} (i : Nat) (r : REnv G F ι σ ρ) (q : RepW G F ι w v) : REnv G F ι (σ.set i (some v)) (ρ.set i (some w)) := by
  refine ⟨by simp [r.len], fun j u e => ?_⟩
  by_cases hj : i = j
  · subst hj
    have hi : i < (ρ.set i (some w)).length := (List.getElem?_eq_some_iff.mp e).1
    rw [List.length_set] at hi
    rw [List.getElem?_set_self hi] at e
    cases e
    exact ⟨v, List.getElem?_set_self (by rw [r.len]; exact hi), q⟩
  · rw [List.getElem?_set_ne hj] at e
    obtain ⟨x, h, y⟩ := r.at_ j u e
    exact ⟨x, by rw [List.getElem?_set_ne hj]; exact h, y⟩
theorem REnv.unset {G : Gc} {F : Hp} {ι : List Addr} {σ : St} {ρ : Env} (i : Nat) (r : REnv G F ι σ ρ) : REnv G F ι (σ.set i none) (ρ.set i none) := by
  refine ⟨by simp [r.len], fun j u e => ?_⟩
  by_cases hj : i = j
  · subst hj
    have hi : i < (ρ.set i none).length := (List.getElem?_eq_some_iff.mp e).1
    rw [List.length_set] at hi
    rw [List.getElem?_set_self hi] at e
    cases e
  · rw [List.getElem?_set_ne hj] at e
    obtain ⟨x, h, y⟩ := r.at_ j u e
    exact ⟨x, by rw [List.getElem?_set_ne hj]; exact h, y⟩

/-! ## what is wanted behind a result -/
def Post {α : Type} (G : Gc) (W : WX) (F : Hp) (ι : List Addr) (H : Hp) (σ : St) (r : Res α) (Q : Hp → List Addr → Hp → α → Store → Prop) : Prop :=
  match r with
  | .ok a S' => ∀ F' ι' H', Ext F ι H F' ι' H' → Real G F' ι' S' H' → Q F' ι' H' a S'
  | .rz c S' => ∀ F' ι' H' Ca, Ext F ι H F' ι' H' → Real G F' ι' S' H' → G.exc c = some Ca → W (.ref Ca) none σ H'
  | .no => False
theorem Post.ext {α : Type} {G : Gc} {W : WX} {F F1 : Hp} {ι ι1 : List Addr} {H H1 : Hp} {σ : St} {r : Res α} {Q : Hp → List Addr → Hp → α → Store → Prop} (x : Ext F ι H F1 ι1 H1) (h : Post G W F ι H σ r Q) : Post G W F1 ι1 H1 σ r Q := by
  cases r with
  | ok a S' => exact fun F' ι' H' y => h F' ι' H' (x.trans y)
  | rz c S' => exact fun F' ι' H' Ca y => h F' ι' H' Ca (x.trans y)
  | no => exact h
theorem Post.bind {α β : Type} {G : Gc} {W : WX} {F : Hp} {ι : List Addr} {H : Hp} {σ : St} {r : Res α} {k : α → Store → Res β} {Q : Hp → List Addr → Hp → β → Store → Prop} (h : Post G W F ι H σ (r.bind k) Q) :
    Post G W F ι H σ r fun F1 ι1 H1 a S1 => Post G W F1 ι1 H1 σ (k a S1) Q := by
  cases r with
  | ok a S' => exact fun F' ι' H' y _ => Post.ext y (show Post G W F ι H σ (k a S') Q from h)
  | rz c S' => exact h
  | no => exact h
theorem Post.mono {α : Type} {G : Gc} {W : WX} {F : Hp} {ι : List Addr} {H : Hp} {σ : St} {r : Res α} {Q Q' : Hp → List Addr → Hp → α → Store → Prop} (h : Post G W F ι H σ r Q)
    (hq : ∀ F' ι' H' a S', Ext F ι H F' ι' H' → Real G F' ι' S' H' → Q F' ι' H' a S' → Q' F' ι' H' a S') : Post G W F ι H σ r Q' := by
  cases r with
  | ok a S' => exact fun F' ι' H' y z => hq F' ι' H' a S' y z (h F' ι' H' y z)
  | rz c S' => exact h
  | no => exact h
/-- at an answer that is there -/
theorem Post.now {α : Type} {G : Gc} {W : WX} {F F' : Hp} {ι ι' : List Addr} {H H' : Hp} {σ : St} {a : α} {S' : Store} {Q : Hp → List Addr → Hp → α → Store → Prop} (h : Post G W F ι H σ (.ok a S') Q) (x : Ext F ι H F' ι' H') (r : Real G F' ι' S' H') :
    Q F' ι' H' a S' := h F' ι' H' x r

/-! ## judgements -/
abbrev PostE (G : Gc) (W : WX) (F : Hp) (ι : List Addr) (H : Hp) (σ : St) (r : Res Wv) (Q : VK) : Prop := Post G W F ι H σ r fun F' ι' H' w _ => ∀ v, RepW G F' ι' w v → Q v H'
def TEo (G : Gc) (W : WX) (f : Ev) : TE := fun σ H Q => ∃ F ι S ρ, Real G F ι S H ∧ REnv G F ι σ ρ ∧ PostE G W F ι H σ (f ρ S) Q
def TTo (G : Gc) (W : WX) (f : Env → Store → Res Bool) : TT := fun σ H Q => ∃ F ι S ρ, Real G F ι S H ∧ REnv G F ι σ ρ ∧ Post G W F ι H σ (f ρ S) fun _ _ H' b _ => Q b H'
def TAo (G : Gc) (W : WX) (f : Env → Store → Res (List Wv)) : TA := fun σ H Q => ∃ F ι S ρ, Real G F ι S H ∧ REnv G F ι σ ρ ∧ Post G W F ι H σ (f ρ S) fun F' ι' H' ws _ => ∀ vs, RepWs G F' ι' ws vs → Q vs H'
abbrev gc (X : Cx) (xo : Option (Addr × Nat)) : Gc := ⟨X.K, xo⟩
structure DE (X : Cx) (xo : Option (Addr × Nat)) (e : Expr) (f : Ev) : Prop where
  run : ∀ W, L2N.Takes X W → PE X e (TEo (gc X xo) W f)
structure DT (X : Cx) (xo : Option (Addr × Nat)) (e : Expr) (f : Env → Store → Res Bool) : Prop where
  run : ∀ W, L2N.Takes X W → PT X e (TTo (gc X xo) W f)
structure DW (X : Cx) (xo : Option (Addr × Nat)) (e : Expr) (f : Env → Store → Res Bool) : Prop where
  run : ∀ W, L2N.Takes X W → PW X e (TTo (gc X xo) W f)
structure DA (X : Cx) (xo : Option (Addr × Nat)) (es : List Expr) (f : Env → Store → Res (List Wv)) : Prop where
  run : ∀ W, L2N.Takes X W → PA X es (TAo (gc X xo) W f)
section
variable {X : Cx} {xo : Option (Addr × Nat)}
theorem pe_imp {e : Expr} {t t' : TE} (h : PE X e t) (i : ∀ σ H Q, t' σ H Q → t σ H Q) : PE X e t' := ⟨fun pins s σ H Q I q => h.run pins s σ H Q I (i σ H Q q)⟩
theorem pt_imp {e : Expr} {t t' : TT} (h : PT X e t) (i : ∀ σ H Q, t' σ H Q → t σ H Q) : PT X e t' := ⟨fun pins s σ H Q I q => h.run pins s σ H Q I (i σ H Q q)⟩
theorem pw_imp {e : Expr} {t t' : TT} (h : PW X e t) (i : ∀ σ H Q, t' σ H Q → t σ H Q) : PW X e t' := ⟨fun wh pins s σ H Q I q => h.run wh pins s σ H Q I (i σ H Q q)⟩
theorem pa_imp {e : List Expr} {t t' : TA} (h : PA X e t) (i : ∀ σ H Q, t' σ H Q → t σ H Q) : PA X e t' := ⟨fun po pins s σ H Q I q => h.run po pins s σ H Q I (i σ H Q q)⟩
theorem ps_imp {e : Stmt} {t t' : TS} (h : PS X e t) (i : ∀ D σ H, t' D σ H → t D σ H) : PS X e t' := ⟨fun pins s σ H D I q => h.run pins s σ H D I (i D σ H q)⟩
theorem pss_imp {e : List Stmt} {t t' : TS} (h : PSs X e t) (i : ∀ D σ H, t' D σ H → t D σ H) : PSs X e t' := ⟨fun pins s σ H D I q => h.run pins s σ H D I (i D σ H q)⟩

/-! ## names, constants -/
def evVar (i : Nat) : Ev := fun ρ S => match ρ[i]? with
  | some (some w) => .ok w S
  | _ => .no
def evC (x : D) : Ev := fun _ S => .ok (.d x) S
theorem de_var {i : Nat} {e : Expr} (h : PE X e (tVar i)) : DE X xo e (evVar i) := ⟨fun W tk => pe_imp h fun σ H Q ⟨F, ι, S, ρ, r, en, p⟩ => by
  unfold evVar at p
  split at p
  · rename_i w e1
    obtain ⟨v, e2, q⟩ := en.at_ i w e1
    exact ⟨v, e2, p.now (.refl _ _ _) r v q⟩
  · exact p.elim⟩
theorem de_c {e : Expr} {x : D} {v : V} (h : PE X e (tC v)) (hr : ∀ F, Rep F x v) : DE X xo e (evC x) := ⟨fun W tk => pe_imp h fun σ H Q ⟨F, ι, S, ρ, r, en, p⟩ => p.now (.refl _ _ _) r v (hr F)⟩
theorem de_int {i : Int} {j pos} : DE X xo (.Constant (.int i) j pos) (evC (.int i)) := de_c pe_int fun F => rep_int.mpr rfl
theorem de_bl {i : Bool} {j pos} : DE X xo (.Constant (.bool i) j pos) (evC (.bl i)) := de_c pe_bl fun F => rep_bl.mpr rfl
theorem de_non {j pos} : DE X xo (.Constant .none j pos) (evC .non) := de_c pe_non fun F => rep_non.mpr rfl
theorem de_str {i : Str} {j pos} : DE X xo (.Constant (.str i) j pos) (evC (.str i)) := de_c pe_str fun F => rep_str.mpr rfl
theorem de_gint {x : Str} {i : Int} {t : Tok} {pos : Pos} (hg : Gl X x) (hm : X.mg x = some (.int i t)) (hd : (x == ("__debug__" : Str)) = false := by decide) : DE X xo (.Name x pos) (evC (.int i)) := de_c (pe_glob (v := .int i) hg hm ⟨_, rfl⟩ hd) fun F => rep_int.mpr rfl
theorem de_gstr {x : Str} {i : Str} {t : Tok} {pos : Pos} (hg : Gl X x) (hm : X.mg x = some (.str i t)) (hd : (x == ("__debug__" : Str)) = false := by decide) : DE X xo (.Name x pos) (evC (.str i)) := de_c (pe_glob (v := .str i) hg hm ⟨_, rfl⟩ hd) fun F => rep_str.mpr rfl

/-! ## operators by values -/
def evBin (g : Wv → Wv → Store → Res Wv) (fa fb : Ev) : Ev := fun ρ S => (fa ρ S).bind fun x S1 => (fb ρ S1).bind fun y S2 => g x y S2
def evUn (g : Wv → Store → Res Wv) (fa : Ev) : Ev := fun ρ S => (fa ρ S).bind fun x S1 => g x S1
/-- an operator's rule gives what g says -/
def Op2 (G : Gc) (r : R2) (g : Wv → Wv → Store → Res Wv) : Prop :=
  ∀ (W : WX) (F : Hp) (ι : List Addr) (S : Store) (H : Hp) (σ : St) (x y : V) (w u : Wv) (Q : VK), Real G F ι S H → RepW G F ι w x → RepW G F ι u y → PostE G W F ι H σ (g w u S) Q → r x y H Q
def Op1 (G : Gc) (r : V → Hp → VK → Prop) (g : Wv → Store → Res Wv) : Prop :=
  ∀ (W : WX) (F : Hp) (ι : List Addr) (S : Store) (H : Hp) (σ : St) (x : V) (w : Wv) (Q : VK), Real G F ι S H → RepW G F ι w x → PostE G W F ι H σ (g w S) Q → r x H Q
def OpN (G : Gc) (r : List V → Hp → VK → Prop) (g : List Wv → Store → Res Wv) : Prop :=
  ∀ (W : WX) (F : Hp) (ι : List Addr) (S : Store) (H : Hp) (σ : St) (xs : List V) (ws : List Wv) (Q : VK), Real G F ι S H → RepWs G F ι ws xs → PostE G W F ι H σ (g ws S) Q → r xs H Q
/-- from the reading of one part to the next -/
theorem TEo.step {G : Gc} {W : WX} {f : Ev} {β : Type} {k : Wv → Store → Res β} {σ : St} {H : Hp} {F : Hp} {ι : List Addr} {S : Store} {ρ : Env} {Qb : Hp → List Addr → Hp → β → Store → Prop} {R : V → Hp → Prop} (r : Real G F ι S H) (en : REnv G F ι σ ρ)
    (p : Post G W F ι H σ ((f ρ S).bind k) Qb)
    (n : ∀ F1 ι1 S1 H1 w v, Ext F ι H F1 ι1 H1 → Real G F1 ι1 S1 H1 → REnv G F1 ι1 σ ρ → RepW G F1 ι1 w v → Post G W F1 ι1 H1 σ (k w S1) Qb → R v H1) : TEo G W f σ H R :=
  ⟨F, ι, S, ρ, r, en, p.bind.mono fun F1 ι1 H1 w S1 x r1 q v hv => n F1 ι1 S1 H1 w v x r1 (en.ext x) hv q⟩
theorem TTo.step {G : Gc} {W : WX} {f : Env → Store → Res Bool} {β : Type} {k : Bool → Store → Res β} {σ : St} {H : Hp} {F : Hp} {ι : List Addr} {S : Store} {ρ : Env} {Qb : Hp → List Addr → Hp → β → Store → Prop} {R : Bool → Hp → Prop} (r : Real G F ι S H) (en : REnv G F ι σ ρ)
    (p : Post G W F ι H σ ((f ρ S).bind k) Qb)
    (n : ∀ F1 ι1 S1 H1 b, Ext F ι H F1 ι1 H1 → Real G F1 ι1 S1 H1 → REnv G F1 ι1 σ ρ → Post G W F1 ι1 H1 σ (k b S1) Qb → R b H1) : TTo G W f σ H R :=
  ⟨F, ι, S, ρ, r, en, p.bind.mono fun F1 ι1 H1 w S1 x r1 q => n F1 ι1 S1 H1 w x r1 (en.ext x) q⟩
theorem TAo.step {G : Gc} {W : WX} {f : Env → Store → Res (List Wv)} {β : Type} {k : List Wv → Store → Res β} {σ : St} {H : Hp} {F : Hp} {ι : List Addr} {S : Store} {ρ : Env} {Qb : Hp → List Addr → Hp → β → Store → Prop} {R : List V → Hp → Prop} (r : Real G F ι S H) (en : REnv G F ι σ ρ)
    (p : Post G W F ι H σ ((f ρ S).bind k) Qb)
    (n : ∀ F1 ι1 S1 H1 ws vs, Ext F ι H F1 ι1 H1 → Real G F1 ι1 S1 H1 → REnv G F1 ι1 σ ρ → RepWs G F1 ι1 ws vs → Post G W F1 ι1 H1 σ (k ws S1) Qb → R vs H1) : TAo G W f σ H R :=
  ⟨F, ι, S, ρ, r, en, p.bind.mono fun F1 ι1 H1 w S1 x r1 q v hv => n F1 ι1 S1 H1 w v x r1 (en.ext x) hv q⟩
theorem de_op2 {e a b : Expr} {r : R2} {fa fb : Ev} {g : Wv → Wv → Store → Res Wv} (rule : ∀ {ta tb : TE}, PE X a ta → PE X b tb → PE X e (tOp r ta tb)) (o : Op2 (gc X xo) r g) (ha : DE X xo a fa) (hb : DE X xo b fb) : DE X xo e (evBin g fa fb) :=
  ⟨fun W tk => pe_imp (rule (ha.run W tk) (hb.run W tk)) fun σ H Q ⟨F, ι, S, ρ, rl, en, p⟩ =>
    TEo.step rl en p fun F1 ι1 S1 H1 w v x1 r1 en1 hv p1 => TEo.step r1 en1 p1 fun F2 ι2 S2 H2 u y x2 r2 en2 hy p2 => o W F2 ι2 S2 H2 σ v y w u Q r2 (hv.ext x2) hy p2⟩
theorem de_op1 {e a : Expr} {r : V → Hp → VK → Prop} {fa : Ev} {g : Wv → Store → Res Wv} (rule : ∀ {ta : TE}, PE X a ta → PE X e (tUn r ta)) (o : Op1 (gc X xo) r g) (ha : DE X xo a fa) : DE X xo e (evUn g fa) :=
  ⟨fun W tk => pe_imp (rule (ha.run W tk)) fun σ H Q ⟨F, ι, S, ρ, rl, en, p⟩ => TEo.step rl en p fun F1 ι1 S1 H1 w v x1 r1 en1 hv p1 => o W F1 ι1 S1 H1 σ v w Q r1 hv p1⟩
/-- arguments -/
def evNil : Env → Store → Res (List Wv) := fun _ S => .ok [] S
def evCons (fa : Ev) (fr : Env → Store → Res (List Wv)) : Env → Store → Res (List Wv) := fun ρ S => (fa ρ S).bind fun x S1 => (fr ρ S1).bind fun xs S2 => .ok (x :: xs) S2
theorem da_nil : DA X xo [] evNil := ⟨fun W tk => pa_imp pa_nil fun σ H Q ⟨F, ι, S, ρ, rl, en, p⟩ => p.now (.refl _ _ _) rl [] .nil⟩
theorem da_cons {e : Expr} {es : List Expr} {fa : Ev} {fr : Env → Store → Res (List Wv)} (ha : DE X xo e fa) (hr : DA X xo es fr) (hs : starEach (e :: es) X.env = (false, eval e X.env) :: starEach es X.env := by rfl) : DA X xo (e :: es) (evCons fa fr) :=
  ⟨fun W tk => pa_imp (pa_cons (ha.run W tk) (hr.run W tk) hs) fun σ H Q ⟨F, ι, S, ρ, rl, en, p⟩ =>
    TEo.step rl en p fun F1 ι1 S1 H1 w v x1 r1 en1 hv p1 => TAo.step r1 en1 p1 fun F2 ι2 S2 H2 u y x2 r2 en2 hy p2 => p2.now (.refl _ _ _) r2 _ (.cons (hv.ext x2) hy)⟩
end
end DL

/-! equality of plain data; printed by gen_eq.py -/
namespace DL
open PySem PySem.Spec PyProof.Rows L2
mutual
def D.dep : D → Nat
  | .tup ds => depAll ds + 1
  | .lst ds => depAll ds + 1
  | .non => 0
  | .bl _ => 0
  | .int _ => 0
  | .str _ => 0
def depAll : List D → Nat
  | [] => 0
  | d :: ds => max d.dep (depAll ds)
end
mutual
def eqD : D → D → Bool
  | .non, .non => true
  | .bl a, .bl b => a == b
  | .bl a, .int j => (if a then 1 else 0) == j
  | .int i, .bl b => i == (if b then 1 else 0)
  | .int i, .int j => i == j
  | .str x, .str y => x == y
  | .lst xs, .lst ys => eqDs xs ys
  | .tup xs, .tup ys => eqDs xs ys
  | _, _ => false
def eqDs : List D → List D → Bool
  | [], [] => true
  | x :: xs, y :: ys => eqD x y && eqDs xs ys
  | _, _ => false
end
mutual
theorem rep_inj {F : Hp} : ∀ {d e : D} {v : V}, Rep F d v → Rep F e v → d = e
  | .non, .non, v, h, g => by
    obtain rfl := rep_non.mp h
    have e := rep_non.mp g
    rfl
  | .non, .bl y, v, h, g => by
    obtain rfl := rep_non.mp h
    have e := rep_bl.mp g
    cases e
  | .non, .int y, v, h, g => by
    obtain rfl := rep_non.mp h
    have e := rep_int.mp g
    cases e
  | .non, .str y, v, h, g => by
    obtain rfl := rep_non.mp h
    have e := rep_str.mp g
    cases e
  | .non, .lst y, v, h, g => by
    obtain rfl := rep_non.mp h
    obtain ⟨l', ys, e, q', p'⟩ := rep_lst.mp g
    cases e
  | .non, .tup y, v, h, g => by
    obtain rfl := rep_non.mp h
    obtain ⟨l', ys, e, q', p'⟩ := rep_tup.mp g
    cases e
  | .bl x, .non, v, h, g => by
    obtain rfl := rep_bl.mp h
    have e := rep_non.mp g
    cases e
  | .bl x, .bl y, v, h, g => by
    obtain rfl := rep_bl.mp h
    have e := rep_bl.mp g
    cases e
    rfl
  | .bl x, .int y, v, h, g => by
    obtain rfl := rep_bl.mp h
    have e := rep_int.mp g
    cases e
  | .bl x, .str y, v, h, g => by
    obtain rfl := rep_bl.mp h
    have e := rep_str.mp g
    cases e
  | .bl x, .lst y, v, h, g => by
    obtain rfl := rep_bl.mp h
    obtain ⟨l', ys, e, q', p'⟩ := rep_lst.mp g
    cases e
  | .bl x, .tup y, v, h, g => by
    obtain rfl := rep_bl.mp h
    obtain ⟨l', ys, e, q', p'⟩ := rep_tup.mp g
    cases e
  | .int x, .non, v, h, g => by
    obtain rfl := rep_int.mp h
    have e := rep_non.mp g
    cases e
  | .int x, .bl y, v, h, g => by
    obtain rfl := rep_int.mp h
    have e := rep_bl.mp g
    cases e
  | .int x, .int y, v, h, g => by
    obtain rfl := rep_int.mp h
    have e := rep_int.mp g
    cases e
    rfl
  | .int x, .str y, v, h, g => by
    obtain rfl := rep_int.mp h
    have e := rep_str.mp g
    cases e
  | .int x, .lst y, v, h, g => by
    obtain rfl := rep_int.mp h
    obtain ⟨l', ys, e, q', p'⟩ := rep_lst.mp g
    cases e
  | .int x, .tup y, v, h, g => by
    obtain rfl := rep_int.mp h
    obtain ⟨l', ys, e, q', p'⟩ := rep_tup.mp g
    cases e
  | .str x, .non, v, h, g => by
    obtain rfl := rep_str.mp h
    have e := rep_non.mp g
    cases e
  | .str x, .bl y, v, h, g => by
    obtain rfl := rep_str.mp h
    have e := rep_bl.mp g
    cases e
  | .str x, .int y, v, h, g => by
    obtain rfl := rep_str.mp h
    have e := rep_int.mp g
    cases e
  | .str x, .str y, v, h, g => by
    obtain rfl := rep_str.mp h
    have e := rep_str.mp g
    cases e
    rfl
  | .str x, .lst y, v, h, g => by
    obtain rfl := rep_str.mp h
    obtain ⟨l', ys, e, q', p'⟩ := rep_lst.mp g
    cases e
  | .str x, .tup y, v, h, g => by
    obtain rfl := rep_str.mp h
    obtain ⟨l', ys, e, q', p'⟩ := rep_tup.mp g
    cases e
  | .lst x, .non, v, h, g => by
    obtain ⟨l, xs, rfl, q, p⟩ := rep_lst.mp h
    have e := rep_non.mp g
    cases e
  | .lst x, .bl y, v, h, g => by
    obtain ⟨l, xs, rfl, q, p⟩ := rep_lst.mp h
    have e := rep_bl.mp g
    cases e
  | .lst x, .int y, v, h, g => by
    obtain ⟨l, xs, rfl, q, p⟩ := rep_lst.mp h
    have e := rep_int.mp g
    cases e
  | .lst x, .str y, v, h, g => by
    obtain ⟨l, xs, rfl, q, p⟩ := rep_lst.mp h
    have e := rep_str.mp g
    cases e
  | .lst x, .lst y, v, h, g => by
    obtain ⟨l, xs, rfl, q, p⟩ := rep_lst.mp h
    obtain ⟨l', ys, e, q', p'⟩ := rep_lst.mp g
    cases e
    have e2 := q.symm.trans q'
    cases e2
    rw [repL_inj (repL_iff.mpr p) (repL_iff.mpr p')]
  | .lst x, .tup y, v, h, g => by
    obtain ⟨l, xs, rfl, q, p⟩ := rep_lst.mp h
    obtain ⟨l', ys, e, q', p'⟩ := rep_tup.mp g
    cases e
    have e2 := q.symm.trans q'
    cases e2
  | .tup x, .non, v, h, g => by
    obtain ⟨l, xs, rfl, q, p⟩ := rep_tup.mp h
    have e := rep_non.mp g
    cases e
  | .tup x, .bl y, v, h, g => by
    obtain ⟨l, xs, rfl, q, p⟩ := rep_tup.mp h
    have e := rep_bl.mp g
    cases e
  | .tup x, .int y, v, h, g => by
    obtain ⟨l, xs, rfl, q, p⟩ := rep_tup.mp h
    have e := rep_int.mp g
    cases e
  | .tup x, .str y, v, h, g => by
    obtain ⟨l, xs, rfl, q, p⟩ := rep_tup.mp h
    have e := rep_str.mp g
    cases e
  | .tup x, .lst y, v, h, g => by
    obtain ⟨l, xs, rfl, q, p⟩ := rep_tup.mp h
    obtain ⟨l', ys, e, q', p'⟩ := rep_lst.mp g
    cases e
    have e2 := q.symm.trans q'
    cases e2
  | .tup x, .tup y, v, h, g => by
    obtain ⟨l, xs, rfl, q, p⟩ := rep_tup.mp h
    obtain ⟨l', ys, e, q', p'⟩ := rep_tup.mp g
    cases e
    have e2 := q.symm.trans q'
    cases e2
    rw [repL_inj (repL_iff.mpr p) (repL_iff.mpr p')]
theorem repL_inj {F : Hp} : ∀ {d e : List D} {v : List V}, RepL F d v → RepL F e v → d = e
  | [], [], _, _, _ => rfl
  | [], y :: ys, v, h, g => by
    simp only [RepL] at h g
    subst h
    obtain ⟨_, _, e, _⟩ := g
    cases e
  | x :: xs, [], v, h, g => by
    simp only [RepL] at h g
    subst g
    obtain ⟨_, _, e, _⟩ := h
    cases e
  | x :: xs, y :: ys, v, h, g => by
    rw [RepL] at h g
    obtain ⟨a, as, rfl, h1, h2⟩ := h
    obtain ⟨b, bs, e, g1, g2⟩ := g
    cases e
    rw [rep_inj h1 g1, repL_inj h2 g2]
end
mutual
theorem eqD_refl : ∀ x : D, eqD x x = true
  | .non => by rw [eqD]
  | .bl a => by rw [eqD]; exact beq_self_eq_true _
  | .int a => by rw [eqD]; exact beq_self_eq_true _
  | .str a => by rw [eqD]; exact beq_self_eq_true _
  | .lst xs => by rw [eqD]; exact eqDs_refl xs
  | .tup xs => by rw [eqD]; exact eqDs_refl xs
theorem eqDs_refl : ∀ x : List D, eqDs x x = true
  | [] => by rw [eqDs]
  | x :: xs => by rw [eqDs, eqD_refl x, eqDs_refl xs]; rfl
end
abbrev pairD (xs ys : List D) (j : Nat) : Bool := eqD (xs.getD j .non) (ys.getD j .non)
theorem eqDs_range : ∀ xs ys : List D, ((List.range (min xs.length ys.length)).all (pairD xs ys) && xs.length == ys.length) = eqDs xs ys
  | [], [] => by simp [eqDs]
  | [], _ :: _ => by simp [eqDs]
  | _ :: _, [] => by simp [eqDs]
  | x :: xs, y :: ys => by
    have ih := eqDs_range xs ys
    have e0 : min (x :: xs).length (y :: ys).length = min xs.length ys.length + 1 := by simp only [List.length_cons]; omega
    have e1 : ((x :: xs).length == (y :: ys).length) = (xs.length == ys.length) := by
      simp only [List.length_cons]
      by_cases h : xs.length = ys.length
      · rw [h]; simp
      · have h2 : ¬ xs.length + 1 = ys.length + 1 := by omega
        rw [beq_eq_false_iff_ne.mpr h, beq_eq_false_iff_ne.mpr h2]
    rw [e0, List.range_succ_eq_map, List.all_cons, List.all_map, e1, eqDs, ← ih, Bool.and_assoc]
    rfl
theorem eqDs_len {xs ys : List D} (h : ¬ xs.length = ys.length) : eqDs xs ys = false := by
  rw [← eqDs_range xs ys, beq_eq_false_iff_ne.mpr h, Bool.and_false]
theorem eqDs_eq_len {xs ys : List D} (h : eqDs xs ys = true) : xs.length = ys.length := by
  by_cases e : xs.length = ys.length
  · exact e
  · rw [eqDs_len e] at h; cases h
theorem room_here {u a b : Nat} (h : u + min a b < cLine) : u < cLine := by omega
theorem room_in {u a b : Nat} (h : u + min (a + 1) (b + 1) < cLine) : u + 1 + min a b < cLine := by omega
section
variable {P : Program} {w : World} {H : Hp} {s : Shared} {A : Around}
theorem lst_at {h : Heap} {x : List D} {vx : V} {u : Value} (hok : HOk P w H h) (hx : Rep H (.lst x) vx) (rx : RelV vx u) : ∃ (l : Addr) (its : List Value) (xs : List V), u = .ref l ∧ h.IsList l its.toArray ∧ Vals xs its ∧ H l = some (.lst xs) ∧ Paired (Rep H) x xs := by
  obtain ⟨l, xs, rfl, q, p⟩ := rep_lst.mp hx
  cases rx
  obtain ⟨_, its, n, r, e⟩ := hok l _ q
  exact ⟨l, its, xs, rfl, ⟨_, e, rfl, n, rfl⟩, r, q, p⟩
theorem tup_at {h : Heap} {x : List D} {vx : V} {u : Value} (hok : HOk P w H h) (hx : Rep H (.tup x) vx) (rx : RelV vx u) : ∃ (l : Addr) (its : List Value) (xs : List V), u = .ref l ∧ h.IsTuple l its.toArray ∧ Vals xs its ∧ H l = some (.tup xs) ∧ Paired (Rep H) x xs := by
  obtain ⟨l, xs, rfl, q, p⟩ := rep_tup.mp hx
  cases rx
  obtain ⟨_, its, r, e⟩ := hok l _ q
  exact ⟨l, its, xs, rfl, e, r, q, p⟩
mutual
theorem eqAtD {A : Around} (hok : HOk P w H s.heap) : ∀ (x y : D) (u v : Value) (vx vy : V), Rep H x vx → Rep H y vy → RelV vx u → RelV vy v → A.units + min x.dep y.dep < cLine → SeqAt.EqAt A s u v (eqD x y)
  | .non, .non, u, v, vx, vy, hx, hy, rx, ry, hu => by
    obtain rfl := rep_non.mp hx
    cases rx
    obtain rfl := rep_non.mp hy
    cases ry
    exact SeqAt.EqAt.same _
  | .non, .bl y, u, v, vx, vy, hx, hy, rx, ry, hu => by
    obtain rfl := rep_non.mp hx
    cases rx
    obtain rfl := rep_bl.mp hy
    cases ry
    exact SeqAt.EqAt.none_bool y
  | .non, .int y, u, v, vx, vy, hx, hy, rx, ry, hu => by
    obtain rfl := rep_non.mp hx
    cases rx
    obtain rfl := rep_int.mp hy
    obtain ⟨ty, rfl⟩ := ry
    exact SeqAt.EqAt.none_int y ty
  | .non, .str y, u, v, vx, vy, hx, hy, rx, ry, hu => by
    obtain rfl := rep_non.mp hx
    cases rx
    obtain rfl := rep_str.mp hy
    obtain ⟨ty, rfl⟩ := ry
    exact SeqAt.EqAt.none_str y ty
  | .non, .lst y, u, v, vx, vy, hx, hy, rx, ry, hu => by
    obtain rfl := rep_non.mp hx
    cases rx
    obtain ⟨ly, iy, sy, rfl, hy, ry1, hyl, py⟩ := lst_at hok hy ry
    exact SeqAt.EqAt.none_list hy (room_here hu)
  | .non, .tup y, u, v, vx, vy, hx, hy, rx, ry, hu => by
    obtain rfl := rep_non.mp hx
    cases rx
    obtain ⟨ly, iy, sy, rfl, hy, ry1, hyl, py⟩ := tup_at hok hy ry
    exact SeqAt.EqAt.none_tuple hy (room_here hu)
  | .bl x, .non, u, v, vx, vy, hx, hy, rx, ry, hu => by
    obtain rfl := rep_bl.mp hx
    cases rx
    obtain rfl := rep_non.mp hy
    cases ry
    exact SeqAt.EqAt.bool_none x
  | .bl x, .bl y, u, v, vx, vy, hx, hy, rx, ry, hu => by
    obtain rfl := rep_bl.mp hx
    cases rx
    obtain rfl := rep_bl.mp hy
    cases ry
    exact SeqAt.EqAt.bool_bool x y
  | .bl x, .int y, u, v, vx, vy, hx, hy, rx, ry, hu => by
    obtain rfl := rep_bl.mp hx
    cases rx
    obtain rfl := rep_int.mp hy
    obtain ⟨ty, rfl⟩ := ry
    exact SeqAt.EqAt.bool_int x y ty
  | .bl x, .str y, u, v, vx, vy, hx, hy, rx, ry, hu => by
    obtain rfl := rep_bl.mp hx
    cases rx
    obtain rfl := rep_str.mp hy
    obtain ⟨ty, rfl⟩ := ry
    exact SeqAt.EqAt.bool_str x y ty
  | .bl x, .lst y, u, v, vx, vy, hx, hy, rx, ry, hu => by
    obtain rfl := rep_bl.mp hx
    cases rx
    obtain ⟨ly, iy, sy, rfl, hy, ry1, hyl, py⟩ := lst_at hok hy ry
    exact SeqAt.EqAt.bool_list x hy (room_here hu)
  | .bl x, .tup y, u, v, vx, vy, hx, hy, rx, ry, hu => by
    obtain rfl := rep_bl.mp hx
    cases rx
    obtain ⟨ly, iy, sy, rfl, hy, ry1, hyl, py⟩ := tup_at hok hy ry
    exact SeqAt.EqAt.bool_tuple x hy (room_here hu)
  | .int x, .non, u, v, vx, vy, hx, hy, rx, ry, hu => by
    obtain rfl := rep_int.mp hx
    obtain ⟨tx, rfl⟩ := rx
    obtain rfl := rep_non.mp hy
    cases ry
    exact SeqAt.EqAt.int_none x tx
  | .int x, .bl y, u, v, vx, vy, hx, hy, rx, ry, hu => by
    obtain rfl := rep_int.mp hx
    obtain ⟨tx, rfl⟩ := rx
    obtain rfl := rep_bl.mp hy
    cases ry
    exact SeqAt.EqAt.int_bool x tx y
  | .int x, .int y, u, v, vx, vy, hx, hy, rx, ry, hu => by
    obtain rfl := rep_int.mp hx
    obtain ⟨tx, rfl⟩ := rx
    obtain rfl := rep_int.mp hy
    obtain ⟨ty, rfl⟩ := ry
    exact SeqAt.EqAt.int_int x tx y ty
  | .int x, .str y, u, v, vx, vy, hx, hy, rx, ry, hu => by
    obtain rfl := rep_int.mp hx
    obtain ⟨tx, rfl⟩ := rx
    obtain rfl := rep_str.mp hy
    obtain ⟨ty, rfl⟩ := ry
    exact SeqAt.EqAt.int_str x tx y ty
  | .int x, .lst y, u, v, vx, vy, hx, hy, rx, ry, hu => by
    obtain rfl := rep_int.mp hx
    obtain ⟨tx, rfl⟩ := rx
    obtain ⟨ly, iy, sy, rfl, hy, ry1, hyl, py⟩ := lst_at hok hy ry
    exact SeqAt.EqAt.int_list x tx hy (room_here hu)
  | .int x, .tup y, u, v, vx, vy, hx, hy, rx, ry, hu => by
    obtain rfl := rep_int.mp hx
    obtain ⟨tx, rfl⟩ := rx
    obtain ⟨ly, iy, sy, rfl, hy, ry1, hyl, py⟩ := tup_at hok hy ry
    exact SeqAt.EqAt.int_tuple x tx hy (room_here hu)
  | .str x, .non, u, v, vx, vy, hx, hy, rx, ry, hu => by
    obtain rfl := rep_str.mp hx
    obtain ⟨tx, rfl⟩ := rx
    obtain rfl := rep_non.mp hy
    cases ry
    exact SeqAt.EqAt.str_none x tx
  | .str x, .bl y, u, v, vx, vy, hx, hy, rx, ry, hu => by
    obtain rfl := rep_str.mp hx
    obtain ⟨tx, rfl⟩ := rx
    obtain rfl := rep_bl.mp hy
    cases ry
    exact SeqAt.EqAt.str_bool x tx y
  | .str x, .int y, u, v, vx, vy, hx, hy, rx, ry, hu => by
    obtain rfl := rep_str.mp hx
    obtain ⟨tx, rfl⟩ := rx
    obtain rfl := rep_int.mp hy
    obtain ⟨ty, rfl⟩ := ry
    exact SeqAt.EqAt.str_int x tx y ty
  | .str x, .str y, u, v, vx, vy, hx, hy, rx, ry, hu => by
    obtain rfl := rep_str.mp hx
    obtain ⟨tx, rfl⟩ := rx
    obtain rfl := rep_str.mp hy
    obtain ⟨ty, rfl⟩ := ry
    exact SeqAt.EqAt.str_str x tx y ty
  | .str x, .lst y, u, v, vx, vy, hx, hy, rx, ry, hu => by
    obtain rfl := rep_str.mp hx
    obtain ⟨tx, rfl⟩ := rx
    obtain ⟨ly, iy, sy, rfl, hy, ry1, hyl, py⟩ := lst_at hok hy ry
    exact SeqAt.EqAt.str_list x tx hy (room_here hu)
  | .str x, .tup y, u, v, vx, vy, hx, hy, rx, ry, hu => by
    obtain rfl := rep_str.mp hx
    obtain ⟨tx, rfl⟩ := rx
    obtain ⟨ly, iy, sy, rfl, hy, ry1, hyl, py⟩ := tup_at hok hy ry
    exact SeqAt.EqAt.str_tuple x tx hy (room_here hu)
  | .lst x, .non, u, v, vx, vy, hx, hy, rx, ry, hu => by
    obtain ⟨lx, ix, sx, rfl, hx, rx1, hxl, px⟩ := lst_at hok hx rx
    obtain rfl := rep_non.mp hy
    cases ry
    exact SeqAt.EqAt.list_none hx (room_here hu)
  | .lst x, .bl y, u, v, vx, vy, hx, hy, rx, ry, hu => by
    obtain ⟨lx, ix, sx, rfl, hx, rx1, hxl, px⟩ := lst_at hok hx rx
    obtain rfl := rep_bl.mp hy
    cases ry
    exact SeqAt.EqAt.list_bool y hx (room_here hu)
  | .lst x, .int y, u, v, vx, vy, hx, hy, rx, ry, hu => by
    obtain ⟨lx, ix, sx, rfl, hx, rx1, hxl, px⟩ := lst_at hok hx rx
    obtain rfl := rep_int.mp hy
    obtain ⟨ty, rfl⟩ := ry
    exact SeqAt.EqAt.list_int y ty hx (room_here hu)
  | .lst x, .str y, u, v, vx, vy, hx, hy, rx, ry, hu => by
    obtain ⟨lx, ix, sx, rfl, hx, rx1, hxl, px⟩ := lst_at hok hx rx
    obtain rfl := rep_str.mp hy
    obtain ⟨ty, rfl⟩ := ry
    exact SeqAt.EqAt.list_str y ty hx (room_here hu)
  | .lst x, .lst y, u, v, vx, vy, hx, hy, rx, ry, hu => by
    obtain ⟨lx, ix, sx, rfl, hx, rx1, hxl, px⟩ := lst_at hok hx rx
    obtain ⟨ly, iy, sy, rfl, hy, ry1, hyl, py⟩ := lst_at hok hy ry
    have n1 := px.length
    have n2 := py.length
    have m1 := rx1.length
    have m2 := ry1.length
    show SeqAt.EqAt A s _ _ (eqDs x y)
    by_cases hll : lx = ly
    · subst hll
      have e : x = y := by
        have e1 := hxl.symm.trans hyl
        cases e1
        exact repL_inj (repL_iff.mpr px) (repL_iff.mpr py)
      rw [e, eqDs_refl]
      exact SeqAt.EqAt.same _
    · refine SeqAt.EqAt.of_refs hll ?_
      by_cases hsz : x.length = y.length
      · have sz : ix.toArray.size = x.length := by simp; omega
        have e : eqDs x y = (List.range ix.toArray.size).all (pairD x y) := by rw [← eqDs_range x y, sz, hsz, Nat.min_self, beq_self_eq_true, Bool.and_true]
        rw [e]
        exact SeqAt.RcAt.lists hx hy (by simp; omega) (room_here hu) (fun j j1 j2 => eqAtDs hok x y _ _ _ _ px py rx1 ry1 (room_in hu) j (by simpa using j1) (by simpa using j2))
      · rw [eqDs_len hsz]
        exact SeqAt.RcAt.lists_lengths hx hy (by simp; omega) (room_here hu)
  | .lst x, .tup y, u, v, vx, vy, hx, hy, rx, ry, hu => by
    obtain ⟨lx, ix, sx, rfl, hx, rx1, hxl, px⟩ := lst_at hok hx rx
    obtain ⟨ly, iy, sy, rfl, hy, ry1, hyl, py⟩ := tup_at hok hy ry
    exact SeqAt.EqAt.list_tuple hx hy (room_here hu)
  | .tup x, .non, u, v, vx, vy, hx, hy, rx, ry, hu => by
    obtain ⟨lx, ix, sx, rfl, hx, rx1, hxl, px⟩ := tup_at hok hx rx
    obtain rfl := rep_non.mp hy
    cases ry
    exact SeqAt.EqAt.tuple_none hx (room_here hu)
  | .tup x, .bl y, u, v, vx, vy, hx, hy, rx, ry, hu => by
    obtain ⟨lx, ix, sx, rfl, hx, rx1, hxl, px⟩ := tup_at hok hx rx
    obtain rfl := rep_bl.mp hy
    cases ry
    exact SeqAt.EqAt.tuple_bool y hx (room_here hu)
  | .tup x, .int y, u, v, vx, vy, hx, hy, rx, ry, hu => by
    obtain ⟨lx, ix, sx, rfl, hx, rx1, hxl, px⟩ := tup_at hok hx rx
    obtain rfl := rep_int.mp hy
    obtain ⟨ty, rfl⟩ := ry
    exact SeqAt.EqAt.tuple_int y ty hx (room_here hu)
  | .tup x, .str y, u, v, vx, vy, hx, hy, rx, ry, hu => by
    obtain ⟨lx, ix, sx, rfl, hx, rx1, hxl, px⟩ := tup_at hok hx rx
    obtain rfl := rep_str.mp hy
    obtain ⟨ty, rfl⟩ := ry
    exact SeqAt.EqAt.tuple_str y ty hx (room_here hu)
  | .tup x, .lst y, u, v, vx, vy, hx, hy, rx, ry, hu => by
    obtain ⟨lx, ix, sx, rfl, hx, rx1, hxl, px⟩ := tup_at hok hx rx
    obtain ⟨ly, iy, sy, rfl, hy, ry1, hyl, py⟩ := lst_at hok hy ry
    exact SeqAt.EqAt.tuple_list hx hy (room_here hu)
  | .tup x, .tup y, u, v, vx, vy, hx, hy, rx, ry, hu => by
    obtain ⟨lx, ix, sx, rfl, hx, rx1, hxl, px⟩ := tup_at hok hx rx
    obtain ⟨ly, iy, sy, rfl, hy, ry1, hyl, py⟩ := tup_at hok hy ry
    have n1 := px.length
    have n2 := py.length
    have m1 := rx1.length
    have m2 := ry1.length
    show SeqAt.EqAt A s _ _ (eqDs x y)
    by_cases hll : lx = ly
    · subst hll
      have e : x = y := by
        have e1 := hxl.symm.trans hyl
        cases e1
        exact repL_inj (repL_iff.mpr px) (repL_iff.mpr py)
      rw [e, eqDs_refl]
      exact SeqAt.EqAt.same _
    · refine SeqAt.EqAt.of_refs hll ?_
      have sx : ix.toArray.size = x.length := by simp; omega
      have sy : iy.toArray.size = y.length := by simp; omega
      rw [← eqDs_range x y, ← sx, ← sy]
      exact SeqAt.RcAt.tuples hx hy (room_here hu) (fun j j1 j2 => eqAtDs hok x y _ _ _ _ px py rx1 ry1 (room_in hu) j (by simpa using j1) (by simpa using j2))
theorem eqAtDs {A : Around} (hok : HOk P w H s.heap) : ∀ (x y : List D) (us vs : List Value) (xs ys : List V), Paired (Rep H) x xs → Paired (Rep H) y ys → Vals xs us → Vals ys vs → A.units + min (depAll x) (depAll y) < cLine →
    ∀ j (h1 : j < us.length) (h2 : j < vs.length), SeqAt.EqAt A s us[j] vs[j] (pairD x y j)
  | [], _, _, _, _, _, px, _, rx, _, _, j, h1, _ => by
    cases px
    cases rx
    exact absurd h1 (Nat.not_lt_zero _)
  | _ :: _, [], _, _, _, _, _, py, _, ry, _, j, _, h2 => by
    cases py
    cases ry
    exact absurd h2 (Nat.not_lt_zero _)
  | x :: xs, y :: ys, _, _, _, _, px, py, rx, ry, hu, j, h1, h2 => by
    have hu' : A.units + min (max x.dep (depAll xs)) (max y.dep (depAll ys)) < cLine := hu
    cases px with
    | cons p1 p2 =>
      cases py with
      | cons q1 q2 =>
        cases rx with
        | cons r1 r2 =>
          cases ry with
          | cons t1 t2 =>
            cases j with
            | zero => exact eqAtD hok x y _ _ _ _ p1 q1 r1 t1 (by omega)
            | succ j => exact eqAtDs hok xs ys _ _ _ _ p2 q2 r2 t2 (by omega) j (Nat.lt_of_succ_lt_succ h1) (Nat.lt_of_succ_lt_succ h2)
end
theorem rcAtD {A : Around} (hok : HOk P w H s.heap) : ∀ (x y : D) (u v : Value) (vx vy : V), Rep H x vx → Rep H y vy → RelV vx u → RelV vy v → A.units + min x.dep y.dep < cLine → SeqAt.RcAt A s u v (eqD x y)
  | .non, .non, u, v, vx, vy, hx, hy, rx, ry, hu => by
    obtain rfl := rep_non.mp hx
    cases rx
    obtain rfl := rep_non.mp hy
    cases ry
    exact SeqAt.RcAt.none_none
  | .non, .bl y, u, v, vx, vy, hx, hy, rx, ry, hu => by
    obtain rfl := rep_non.mp hx
    cases rx
    obtain rfl := rep_bl.mp hy
    cases ry
    exact SeqAt.RcAt.none_bool y
  | .non, .int y, u, v, vx, vy, hx, hy, rx, ry, hu => by
    obtain rfl := rep_non.mp hx
    cases rx
    obtain rfl := rep_int.mp hy
    obtain ⟨ty, rfl⟩ := ry
    exact SeqAt.RcAt.none_int y ty
  | .non, .str y, u, v, vx, vy, hx, hy, rx, ry, hu => by
    obtain rfl := rep_non.mp hx
    cases rx
    obtain rfl := rep_str.mp hy
    obtain ⟨ty, rfl⟩ := ry
    exact SeqAt.RcAt.none_str y ty
  | .non, .lst y, u, v, vx, vy, hx, hy, rx, ry, hu => by
    obtain rfl := rep_non.mp hx
    cases rx
    obtain ⟨ly, iy, sy, rfl, hy, ry1, hyl, py⟩ := lst_at hok hy ry
    exact SeqAt.RcAt.none_list hy (room_here hu)
  | .non, .tup y, u, v, vx, vy, hx, hy, rx, ry, hu => by
    obtain rfl := rep_non.mp hx
    cases rx
    obtain ⟨ly, iy, sy, rfl, hy, ry1, hyl, py⟩ := tup_at hok hy ry
    exact SeqAt.RcAt.none_tuple hy (room_here hu)
  | .bl x, .non, u, v, vx, vy, hx, hy, rx, ry, hu => by
    obtain rfl := rep_bl.mp hx
    cases rx
    obtain rfl := rep_non.mp hy
    cases ry
    exact SeqAt.RcAt.bool_none x
  | .bl x, .bl y, u, v, vx, vy, hx, hy, rx, ry, hu => by
    obtain rfl := rep_bl.mp hx
    cases rx
    obtain rfl := rep_bl.mp hy
    cases ry
    exact SeqAt.RcAt.bool_bool x y
  | .bl x, .int y, u, v, vx, vy, hx, hy, rx, ry, hu => by
    obtain rfl := rep_bl.mp hx
    cases rx
    obtain rfl := rep_int.mp hy
    obtain ⟨ty, rfl⟩ := ry
    exact SeqAt.RcAt.bool_int x y ty
  | .bl x, .str y, u, v, vx, vy, hx, hy, rx, ry, hu => by
    obtain rfl := rep_bl.mp hx
    cases rx
    obtain rfl := rep_str.mp hy
    obtain ⟨ty, rfl⟩ := ry
    exact SeqAt.RcAt.bool_str x y ty
  | .bl x, .lst y, u, v, vx, vy, hx, hy, rx, ry, hu => by
    obtain rfl := rep_bl.mp hx
    cases rx
    obtain ⟨ly, iy, sy, rfl, hy, ry1, hyl, py⟩ := lst_at hok hy ry
    exact SeqAt.RcAt.bool_list x hy (room_here hu)
  | .bl x, .tup y, u, v, vx, vy, hx, hy, rx, ry, hu => by
    obtain rfl := rep_bl.mp hx
    cases rx
    obtain ⟨ly, iy, sy, rfl, hy, ry1, hyl, py⟩ := tup_at hok hy ry
    exact SeqAt.RcAt.bool_tuple x hy (room_here hu)
  | .int x, .non, u, v, vx, vy, hx, hy, rx, ry, hu => by
    obtain rfl := rep_int.mp hx
    obtain ⟨tx, rfl⟩ := rx
    obtain rfl := rep_non.mp hy
    cases ry
    exact SeqAt.RcAt.int_none x tx
  | .int x, .bl y, u, v, vx, vy, hx, hy, rx, ry, hu => by
    obtain rfl := rep_int.mp hx
    obtain ⟨tx, rfl⟩ := rx
    obtain rfl := rep_bl.mp hy
    cases ry
    exact SeqAt.RcAt.int_bool x tx y
  | .int x, .int y, u, v, vx, vy, hx, hy, rx, ry, hu => by
    obtain rfl := rep_int.mp hx
    obtain ⟨tx, rfl⟩ := rx
    obtain rfl := rep_int.mp hy
    obtain ⟨ty, rfl⟩ := ry
    exact SeqAt.RcAt.int_int x tx y ty
  | .int x, .str y, u, v, vx, vy, hx, hy, rx, ry, hu => by
    obtain rfl := rep_int.mp hx
    obtain ⟨tx, rfl⟩ := rx
    obtain rfl := rep_str.mp hy
    obtain ⟨ty, rfl⟩ := ry
    exact SeqAt.RcAt.int_str x tx y ty
  | .int x, .lst y, u, v, vx, vy, hx, hy, rx, ry, hu => by
    obtain rfl := rep_int.mp hx
    obtain ⟨tx, rfl⟩ := rx
    obtain ⟨ly, iy, sy, rfl, hy, ry1, hyl, py⟩ := lst_at hok hy ry
    exact SeqAt.RcAt.int_list x tx hy (room_here hu)
  | .int x, .tup y, u, v, vx, vy, hx, hy, rx, ry, hu => by
    obtain rfl := rep_int.mp hx
    obtain ⟨tx, rfl⟩ := rx
    obtain ⟨ly, iy, sy, rfl, hy, ry1, hyl, py⟩ := tup_at hok hy ry
    exact SeqAt.RcAt.int_tuple x tx hy (room_here hu)
  | .str x, .non, u, v, vx, vy, hx, hy, rx, ry, hu => by
    obtain rfl := rep_str.mp hx
    obtain ⟨tx, rfl⟩ := rx
    obtain rfl := rep_non.mp hy
    cases ry
    exact SeqAt.RcAt.str_none x tx
  | .str x, .bl y, u, v, vx, vy, hx, hy, rx, ry, hu => by
    obtain rfl := rep_str.mp hx
    obtain ⟨tx, rfl⟩ := rx
    obtain rfl := rep_bl.mp hy
    cases ry
    exact SeqAt.RcAt.str_bool x tx y
  | .str x, .int y, u, v, vx, vy, hx, hy, rx, ry, hu => by
    obtain rfl := rep_str.mp hx
    obtain ⟨tx, rfl⟩ := rx
    obtain rfl := rep_int.mp hy
    obtain ⟨ty, rfl⟩ := ry
    exact SeqAt.RcAt.str_int x tx y ty
  | .str x, .str y, u, v, vx, vy, hx, hy, rx, ry, hu => by
    obtain rfl := rep_str.mp hx
    obtain ⟨tx, rfl⟩ := rx
    obtain rfl := rep_str.mp hy
    obtain ⟨ty, rfl⟩ := ry
    exact SeqAt.RcAt.str_str x tx y ty
  | .str x, .lst y, u, v, vx, vy, hx, hy, rx, ry, hu => by
    obtain rfl := rep_str.mp hx
    obtain ⟨tx, rfl⟩ := rx
    obtain ⟨ly, iy, sy, rfl, hy, ry1, hyl, py⟩ := lst_at hok hy ry
    exact SeqAt.RcAt.str_list x tx hy (room_here hu)
  | .str x, .tup y, u, v, vx, vy, hx, hy, rx, ry, hu => by
    obtain rfl := rep_str.mp hx
    obtain ⟨tx, rfl⟩ := rx
    obtain ⟨ly, iy, sy, rfl, hy, ry1, hyl, py⟩ := tup_at hok hy ry
    exact SeqAt.RcAt.str_tuple x tx hy (room_here hu)
  | .lst x, .non, u, v, vx, vy, hx, hy, rx, ry, hu => by
    obtain ⟨lx, ix, sx, rfl, hx, rx1, hxl, px⟩ := lst_at hok hx rx
    obtain rfl := rep_non.mp hy
    cases ry
    exact SeqAt.RcAt.list_none hx (room_here hu)
  | .lst x, .bl y, u, v, vx, vy, hx, hy, rx, ry, hu => by
    obtain ⟨lx, ix, sx, rfl, hx, rx1, hxl, px⟩ := lst_at hok hx rx
    obtain rfl := rep_bl.mp hy
    cases ry
    exact SeqAt.RcAt.list_bool y hx (room_here hu)
  | .lst x, .int y, u, v, vx, vy, hx, hy, rx, ry, hu => by
    obtain ⟨lx, ix, sx, rfl, hx, rx1, hxl, px⟩ := lst_at hok hx rx
    obtain rfl := rep_int.mp hy
    obtain ⟨ty, rfl⟩ := ry
    exact SeqAt.RcAt.list_int y ty hx (room_here hu)
  | .lst x, .str y, u, v, vx, vy, hx, hy, rx, ry, hu => by
    obtain ⟨lx, ix, sx, rfl, hx, rx1, hxl, px⟩ := lst_at hok hx rx
    obtain rfl := rep_str.mp hy
    obtain ⟨ty, rfl⟩ := ry
    exact SeqAt.RcAt.list_str y ty hx (room_here hu)
  | .lst x, .lst y, u, v, vx, vy, hx, hy, rx, ry, hu => by
    obtain ⟨lx, ix, sx, rfl, hx, rx1, hxl, px⟩ := lst_at hok hx rx
    obtain ⟨ly, iy, sy, rfl, hy, ry1, hyl, py⟩ := lst_at hok hy ry
    have n1 := px.length
    have n2 := py.length
    have m1 := rx1.length
    have m2 := ry1.length
    show SeqAt.RcAt A s _ _ (eqDs x y)
    by_cases hsz : x.length = y.length
    · have sz : ix.toArray.size = x.length := by simp; omega
      have e : eqDs x y = (List.range ix.toArray.size).all (pairD x y) := by rw [← eqDs_range x y, sz, hsz, Nat.min_self, beq_self_eq_true, Bool.and_true]
      rw [e]
      exact SeqAt.RcAt.lists hx hy (by simp; omega) (room_here hu) (fun j j1 j2 => eqAtDs hok x y _ _ _ _ px py rx1 ry1 (room_in hu) j (by simpa using j1) (by simpa using j2))
    · rw [eqDs_len hsz]
      exact SeqAt.RcAt.lists_lengths hx hy (by simp; omega) (room_here hu)
  | .lst x, .tup y, u, v, vx, vy, hx, hy, rx, ry, hu => by
    obtain ⟨lx, ix, sx, rfl, hx, rx1, hxl, px⟩ := lst_at hok hx rx
    obtain ⟨ly, iy, sy, rfl, hy, ry1, hyl, py⟩ := tup_at hok hy ry
    exact SeqAt.RcAt.list_tuple hx hy (room_here hu)
  | .tup x, .non, u, v, vx, vy, hx, hy, rx, ry, hu => by
    obtain ⟨lx, ix, sx, rfl, hx, rx1, hxl, px⟩ := tup_at hok hx rx
    obtain rfl := rep_non.mp hy
    cases ry
    exact SeqAt.RcAt.tuple_none hx (room_here hu)
  | .tup x, .bl y, u, v, vx, vy, hx, hy, rx, ry, hu => by
    obtain ⟨lx, ix, sx, rfl, hx, rx1, hxl, px⟩ := tup_at hok hx rx
    obtain rfl := rep_bl.mp hy
    cases ry
    exact SeqAt.RcAt.tuple_bool y hx (room_here hu)
  | .tup x, .int y, u, v, vx, vy, hx, hy, rx, ry, hu => by
    obtain ⟨lx, ix, sx, rfl, hx, rx1, hxl, px⟩ := tup_at hok hx rx
    obtain rfl := rep_int.mp hy
    obtain ⟨ty, rfl⟩ := ry
    exact SeqAt.RcAt.tuple_int y ty hx (room_here hu)
  | .tup x, .str y, u, v, vx, vy, hx, hy, rx, ry, hu => by
    obtain ⟨lx, ix, sx, rfl, hx, rx1, hxl, px⟩ := tup_at hok hx rx
    obtain rfl := rep_str.mp hy
    obtain ⟨ty, rfl⟩ := ry
    exact SeqAt.RcAt.tuple_str y ty hx (room_here hu)
  | .tup x, .lst y, u, v, vx, vy, hx, hy, rx, ry, hu => by
    obtain ⟨lx, ix, sx, rfl, hx, rx1, hxl, px⟩ := tup_at hok hx rx
    obtain ⟨ly, iy, sy, rfl, hy, ry1, hyl, py⟩ := lst_at hok hy ry
    exact SeqAt.RcAt.tuple_list hx hy (room_here hu)
  | .tup x, .tup y, u, v, vx, vy, hx, hy, rx, ry, hu => by
    obtain ⟨lx, ix, sx, rfl, hx, rx1, hxl, px⟩ := tup_at hok hx rx
    obtain ⟨ly, iy, sy, rfl, hy, ry1, hyl, py⟩ := tup_at hok hy ry
    have n1 := px.length
    have n2 := py.length
    have m1 := rx1.length
    have m2 := ry1.length
    show SeqAt.RcAt A s _ _ (eqDs x y)
    have sx : ix.toArray.size = x.length := by simp; omega
    have sy : iy.toArray.size = y.length := by simp; omega
    rw [← eqDs_range x y, ← sx, ← sy]
    exact SeqAt.RcAt.tuples hx hy (room_here hu) (fun j j1 j2 => eqAtDs hok x y _ _ _ _ px py rx1 ry1 (room_in hu) j (by simpa using j1) (by simpa using j2))
theorem neAtD {A : Around} (hok : HOk P w H s.heap) : ∀ (x y : D) (u v : Value) (vx vy : V), Rep H x vx → Rep H y vy → RelV vx u → RelV vy v → A.units + min x.dep y.dep < cLine → SeqAt.RcNeAt A s u v (!eqD x y)
  | .non, .non, u, v, vx, vy, hx, hy, rx, ry, hu => by
    obtain rfl := rep_non.mp hx
    cases rx
    obtain rfl := rep_non.mp hy
    cases ry
    exact SeqAt.RcNeAt.none_none
  | .non, .bl y, u, v, vx, vy, hx, hy, rx, ry, hu => by
    obtain rfl := rep_non.mp hx
    cases rx
    obtain rfl := rep_bl.mp hy
    cases ry
    exact SeqAt.RcNeAt.none_bool y
  | .non, .int y, u, v, vx, vy, hx, hy, rx, ry, hu => by
    obtain rfl := rep_non.mp hx
    cases rx
    obtain rfl := rep_int.mp hy
    obtain ⟨ty, rfl⟩ := ry
    exact SeqAt.RcNeAt.none_int y ty
  | .non, .str y, u, v, vx, vy, hx, hy, rx, ry, hu => by
    obtain rfl := rep_non.mp hx
    cases rx
    obtain rfl := rep_str.mp hy
    obtain ⟨ty, rfl⟩ := ry
    exact SeqAt.RcNeAt.none_str y ty
  | .non, .lst y, u, v, vx, vy, hx, hy, rx, ry, hu => by
    obtain rfl := rep_non.mp hx
    cases rx
    obtain ⟨ly, iy, sy, rfl, hy, ry1, hyl, py⟩ := lst_at hok hy ry
    exact SeqAt.RcNeAt.none_list hy (room_here hu)
  | .non, .tup y, u, v, vx, vy, hx, hy, rx, ry, hu => by
    obtain rfl := rep_non.mp hx
    cases rx
    obtain ⟨ly, iy, sy, rfl, hy, ry1, hyl, py⟩ := tup_at hok hy ry
    exact SeqAt.RcNeAt.none_tuple hy (room_here hu)
  | .bl x, .non, u, v, vx, vy, hx, hy, rx, ry, hu => by
    obtain rfl := rep_bl.mp hx
    cases rx
    obtain rfl := rep_non.mp hy
    cases ry
    exact SeqAt.RcNeAt.bool_none x
  | .bl x, .bl y, u, v, vx, vy, hx, hy, rx, ry, hu => by
    obtain rfl := rep_bl.mp hx
    cases rx
    obtain rfl := rep_bl.mp hy
    cases ry
    exact SeqAt.RcNeAt.bool_bool x y
  | .bl x, .int y, u, v, vx, vy, hx, hy, rx, ry, hu => by
    obtain rfl := rep_bl.mp hx
    cases rx
    obtain rfl := rep_int.mp hy
    obtain ⟨ty, rfl⟩ := ry
    exact SeqAt.RcNeAt.bool_int x y ty
  | .bl x, .str y, u, v, vx, vy, hx, hy, rx, ry, hu => by
    obtain rfl := rep_bl.mp hx
    cases rx
    obtain rfl := rep_str.mp hy
    obtain ⟨ty, rfl⟩ := ry
    exact SeqAt.RcNeAt.bool_str x y ty
  | .bl x, .lst y, u, v, vx, vy, hx, hy, rx, ry, hu => by
    obtain rfl := rep_bl.mp hx
    cases rx
    obtain ⟨ly, iy, sy, rfl, hy, ry1, hyl, py⟩ := lst_at hok hy ry
    exact SeqAt.RcNeAt.bool_list x hy (room_here hu)
  | .bl x, .tup y, u, v, vx, vy, hx, hy, rx, ry, hu => by
    obtain rfl := rep_bl.mp hx
    cases rx
    obtain ⟨ly, iy, sy, rfl, hy, ry1, hyl, py⟩ := tup_at hok hy ry
    exact SeqAt.RcNeAt.bool_tuple x hy (room_here hu)
  | .int x, .non, u, v, vx, vy, hx, hy, rx, ry, hu => by
    obtain rfl := rep_int.mp hx
    obtain ⟨tx, rfl⟩ := rx
    obtain rfl := rep_non.mp hy
    cases ry
    exact SeqAt.RcNeAt.int_none x tx
  | .int x, .bl y, u, v, vx, vy, hx, hy, rx, ry, hu => by
    obtain rfl := rep_int.mp hx
    obtain ⟨tx, rfl⟩ := rx
    obtain rfl := rep_bl.mp hy
    cases ry
    exact SeqAt.RcNeAt.int_bool x tx y
  | .int x, .int y, u, v, vx, vy, hx, hy, rx, ry, hu => by
    obtain rfl := rep_int.mp hx
    obtain ⟨tx, rfl⟩ := rx
    obtain rfl := rep_int.mp hy
    obtain ⟨ty, rfl⟩ := ry
    exact SeqAt.RcNeAt.int_int x tx y ty
  | .int x, .str y, u, v, vx, vy, hx, hy, rx, ry, hu => by
    obtain rfl := rep_int.mp hx
    obtain ⟨tx, rfl⟩ := rx
    obtain rfl := rep_str.mp hy
    obtain ⟨ty, rfl⟩ := ry
    exact SeqAt.RcNeAt.int_str x tx y ty
  | .int x, .lst y, u, v, vx, vy, hx, hy, rx, ry, hu => by
    obtain rfl := rep_int.mp hx
    obtain ⟨tx, rfl⟩ := rx
    obtain ⟨ly, iy, sy, rfl, hy, ry1, hyl, py⟩ := lst_at hok hy ry
    exact SeqAt.RcNeAt.int_list x tx hy (room_here hu)
  | .int x, .tup y, u, v, vx, vy, hx, hy, rx, ry, hu => by
    obtain rfl := rep_int.mp hx
    obtain ⟨tx, rfl⟩ := rx
    obtain ⟨ly, iy, sy, rfl, hy, ry1, hyl, py⟩ := tup_at hok hy ry
    exact SeqAt.RcNeAt.int_tuple x tx hy (room_here hu)
  | .str x, .non, u, v, vx, vy, hx, hy, rx, ry, hu => by
    obtain rfl := rep_str.mp hx
    obtain ⟨tx, rfl⟩ := rx
    obtain rfl := rep_non.mp hy
    cases ry
    exact SeqAt.RcNeAt.str_none x tx
  | .str x, .bl y, u, v, vx, vy, hx, hy, rx, ry, hu => by
    obtain rfl := rep_str.mp hx
    obtain ⟨tx, rfl⟩ := rx
    obtain rfl := rep_bl.mp hy
    cases ry
    exact SeqAt.RcNeAt.str_bool x tx y
  | .str x, .int y, u, v, vx, vy, hx, hy, rx, ry, hu => by
    obtain rfl := rep_str.mp hx
    obtain ⟨tx, rfl⟩ := rx
    obtain rfl := rep_int.mp hy
    obtain ⟨ty, rfl⟩ := ry
    exact SeqAt.RcNeAt.str_int x tx y ty
  | .str x, .str y, u, v, vx, vy, hx, hy, rx, ry, hu => by
    obtain rfl := rep_str.mp hx
    obtain ⟨tx, rfl⟩ := rx
    obtain rfl := rep_str.mp hy
    obtain ⟨ty, rfl⟩ := ry
    exact SeqAt.RcNeAt.str_str x tx y ty
  | .str x, .lst y, u, v, vx, vy, hx, hy, rx, ry, hu => by
    obtain rfl := rep_str.mp hx
    obtain ⟨tx, rfl⟩ := rx
    obtain ⟨ly, iy, sy, rfl, hy, ry1, hyl, py⟩ := lst_at hok hy ry
    exact SeqAt.RcNeAt.str_list x tx hy (room_here hu)
  | .str x, .tup y, u, v, vx, vy, hx, hy, rx, ry, hu => by
    obtain rfl := rep_str.mp hx
    obtain ⟨tx, rfl⟩ := rx
    obtain ⟨ly, iy, sy, rfl, hy, ry1, hyl, py⟩ := tup_at hok hy ry
    exact SeqAt.RcNeAt.str_tuple x tx hy (room_here hu)
  | .lst x, .non, u, v, vx, vy, hx, hy, rx, ry, hu => by
    obtain ⟨lx, ix, sx, rfl, hx, rx1, hxl, px⟩ := lst_at hok hx rx
    obtain rfl := rep_non.mp hy
    cases ry
    exact SeqAt.RcNeAt.list_none hx (room_here hu)
  | .lst x, .bl y, u, v, vx, vy, hx, hy, rx, ry, hu => by
    obtain ⟨lx, ix, sx, rfl, hx, rx1, hxl, px⟩ := lst_at hok hx rx
    obtain rfl := rep_bl.mp hy
    cases ry
    exact SeqAt.RcNeAt.list_bool y hx (room_here hu)
  | .lst x, .int y, u, v, vx, vy, hx, hy, rx, ry, hu => by
    obtain ⟨lx, ix, sx, rfl, hx, rx1, hxl, px⟩ := lst_at hok hx rx
    obtain rfl := rep_int.mp hy
    obtain ⟨ty, rfl⟩ := ry
    exact SeqAt.RcNeAt.list_int y ty hx (room_here hu)
  | .lst x, .str y, u, v, vx, vy, hx, hy, rx, ry, hu => by
    obtain ⟨lx, ix, sx, rfl, hx, rx1, hxl, px⟩ := lst_at hok hx rx
    obtain rfl := rep_str.mp hy
    obtain ⟨ty, rfl⟩ := ry
    exact SeqAt.RcNeAt.list_str y ty hx (room_here hu)
  | .lst x, .lst y, u, v, vx, vy, hx, hy, rx, ry, hu => by
    obtain ⟨lx, ix, sx, rfl, hx, rx1, hxl, px⟩ := lst_at hok hx rx
    obtain ⟨ly, iy, sy, rfl, hy, ry1, hyl, py⟩ := lst_at hok hy ry
    have n1 := px.length
    have n2 := py.length
    have m1 := rx1.length
    have m2 := ry1.length
    show SeqAt.RcNeAt A s _ _ (!eqDs x y)
    by_cases hsz : x.length = y.length
    · have sz : ix.toArray.size = x.length := by simp; omega
      have e : eqDs x y = (List.range ix.toArray.size).all (pairD x y) := by rw [← eqDs_range x y, sz, hsz, Nat.min_self, beq_self_eq_true, Bool.and_true]
      rw [e]
      exact SeqAt.RcNeAt.lists hx hy (by simp; omega) (room_here hu) (fun j j1 j2 => eqAtDs hok x y _ _ _ _ px py rx1 ry1 (room_in hu) j (by simpa using j1) (by simpa using j2))
    · rw [eqDs_len hsz]
      exact SeqAt.RcNeAt.lists_lengths hx hy (by simp; omega) (room_here hu)
  | .lst x, .tup y, u, v, vx, vy, hx, hy, rx, ry, hu => by
    obtain ⟨lx, ix, sx, rfl, hx, rx1, hxl, px⟩ := lst_at hok hx rx
    obtain ⟨ly, iy, sy, rfl, hy, ry1, hyl, py⟩ := tup_at hok hy ry
    exact SeqAt.RcNeAt.list_tuple hx hy (room_here hu)
  | .tup x, .non, u, v, vx, vy, hx, hy, rx, ry, hu => by
    obtain ⟨lx, ix, sx, rfl, hx, rx1, hxl, px⟩ := tup_at hok hx rx
    obtain rfl := rep_non.mp hy
    cases ry
    exact SeqAt.RcNeAt.tuple_none hx (room_here hu)
  | .tup x, .bl y, u, v, vx, vy, hx, hy, rx, ry, hu => by
    obtain ⟨lx, ix, sx, rfl, hx, rx1, hxl, px⟩ := tup_at hok hx rx
    obtain rfl := rep_bl.mp hy
    cases ry
    exact SeqAt.RcNeAt.tuple_bool y hx (room_here hu)
  | .tup x, .int y, u, v, vx, vy, hx, hy, rx, ry, hu => by
    obtain ⟨lx, ix, sx, rfl, hx, rx1, hxl, px⟩ := tup_at hok hx rx
    obtain rfl := rep_int.mp hy
    obtain ⟨ty, rfl⟩ := ry
    exact SeqAt.RcNeAt.tuple_int y ty hx (room_here hu)
  | .tup x, .str y, u, v, vx, vy, hx, hy, rx, ry, hu => by
    obtain ⟨lx, ix, sx, rfl, hx, rx1, hxl, px⟩ := tup_at hok hx rx
    obtain rfl := rep_str.mp hy
    obtain ⟨ty, rfl⟩ := ry
    exact SeqAt.RcNeAt.tuple_str y ty hx (room_here hu)
  | .tup x, .lst y, u, v, vx, vy, hx, hy, rx, ry, hu => by
    obtain ⟨lx, ix, sx, rfl, hx, rx1, hxl, px⟩ := tup_at hok hx rx
    obtain ⟨ly, iy, sy, rfl, hy, ry1, hyl, py⟩ := lst_at hok hy ry
    exact SeqAt.RcNeAt.tuple_list hx hy (room_here hu)
  | .tup x, .tup y, u, v, vx, vy, hx, hy, rx, ry, hu => by
    obtain ⟨lx, ix, sx, rfl, hx, rx1, hxl, px⟩ := tup_at hok hx rx
    obtain ⟨ly, iy, sy, rfl, hy, ry1, hyl, py⟩ := tup_at hok hy ry
    have n1 := px.length
    have n2 := py.length
    have m1 := rx1.length
    have m2 := ry1.length
    show SeqAt.RcNeAt A s _ _ (!eqDs x y)
    have sx : ix.toArray.size = x.length := by simp; omega
    have sy : iy.toArray.size = y.length := by simp; omega
    rw [← eqDs_range x y, ← sx, ← sy]
    exact SeqAt.RcNeAt.tuples hx hy (room_here hu) (fun j j1 j2 => eqAtDs hok x y _ _ _ _ px py rx1 ry1 (room_in hu) j (by simpa using j1) (by simpa using j2))
end
theorem op_eqD' {X : Cx} (hu : X.A.units + 64 < cLine) : OpR X (compareOp .Eq) (fun x y H Q => ∃ d e, Rep H d x ∧ Rep H e y ∧ min d.dep e.dep ≤ 64 ∧ Q (.bl (eqD d e)) H) := by
  intro pins s σ H x y v u Q I rx ry h
  obtain ⟨d, e, hd, he, hm, q⟩ := h
  exact rcAtD (A := X.A) I.hok d e v u x y hd he rx ry (by omega) X.prog X.w _ _ ⟨.bl _, H, I, rfl, q⟩
theorem op_neD' {X : Cx} (hu : X.A.units + 64 < cLine) : OpR X (compareOp .NotEq) (fun x y H Q => ∃ d e, Rep H d x ∧ Rep H e y ∧ min d.dep e.dep ≤ 64 ∧ Q (.bl (!eqD d e)) H) := by
  intro pins s σ H x y v u Q I rx ry h
  obtain ⟨d, e, hd, he, hm, q⟩ := h
  exact neAtD (A := X.A) I.hok d e v u x y hd he rx ry (by omega) X.prog X.w _ _ ⟨.bl _, H, I, rfl, q⟩
end DL

/-! operators, tests, displays, subscripts, built-ins by values -/
namespace DL
open PySem PySem.Spec PyProof.Rows L2

/-! ## answers -/
theorem w_int {G : Gc} {F : Hp} {ι : List Addr} {i : Int} {v : V} : RepW G F ι (.d (.int i)) v ↔ v = .int i := rep_int (F := F)
theorem w_bl {G : Gc} {F : Hp} {ι : List Addr} {i : Bool} {v : V} : RepW G F ι (.d (.bl i)) v ↔ v = .bl i := rep_bl (F := F)
theorem w_str {G : Gc} {F : Hp} {ι : List Addr} {i : Str} {v : V} : RepW G F ι (.d (.str i)) v ↔ v = .str i := rep_str (F := F)
theorem w_non {G : Gc} {F : Hp} {ι : List Addr} {v : V} : RepW G F ι (.d .non) v ↔ v = .non := rep_non (F := F)
theorem w_lst {G : Gc} {F : Hp} {ι : List Addr} {ds : List D} {v : V} : RepW G F ι (.d (.lst ds)) v ↔ ∃ a xs, v = .ref a ∧ F a = some (.lst xs) ∧ Paired (Rep F) ds xs := rep_lst (F := F)
theorem w_tup {G : Gc} {F : Hp} {ι : List Addr} {ds : List D} {v : V} : RepW G F ι (.d (.tup ds)) v ↔ ∃ a xs, v = .ref a ∧ F a = some (.tup xs) ∧ Paired (Rep F) ds xs := rep_tup (F := F)
section
variable {G : Gc} {W : WX} {F : Hp} {ι : List Addr} {S : Store} {H : Hp} {σ : St} {Q : VK}
theorem ret_w {w : Wv} {v : V} (p : PostE G W F ι H σ (.ok w S) Q) (r : Real G F ι S H) (h : RepW G F ι w v) : Q v H := p.now (.refl _ _ _) r v h
theorem ret_int {i : Int} (p : PostE G W F ι H σ (.ok (.d (.int i)) S) Q) (r : Real G F ι S H) : Q (.int i) H := ret_w p r (w_int.mpr rfl)
theorem ret_bl {i : Bool} (p : PostE G W F ι H σ (.ok (.d (.bl i)) S) Q) (r : Real G F ι S H) : Q (.bl i) H := ret_w p r (w_bl.mpr rfl)
theorem ret_str {i : Str} (p : PostE G W F ι H σ (.ok (.d (.str i)) S) Q) (r : Real G F ι S H) : Q (.str i) H := ret_w p r (w_str.mpr rfl)
theorem ret_non (p : PostE G W F ι H σ (.ok (.d .non) S) Q) (r : Real G F ι S H) : Q .non H := ret_w p r (w_non.mpr rfl)
theorem ret_lst {ds : List D} {xs : List V} (p : PostE G W F ι H σ (.ok (.d (.lst ds)) S) Q) (r : Real G F ι S H) (h : Paired (Rep F) ds xs) (q : Addr) (hq : H q = none) : Q (.ref q) (upd H q (.lst xs)) :=
  p.now (.newF r hq) (r.newF hq) _ (w_lst.mpr ⟨q, xs, rfl, upd_same, p2imp (fun _ _ z => z.mono (.of (fz_new (r.fnone hq)))) h⟩)
theorem ret_tup {ds : List D} {xs : List V} (p : PostE G W F ι H σ (.ok (.d (.tup ds)) S) Q) (r : Real G F ι S H) (h : Paired (Rep F) ds xs) (q : Addr) (hq : H q = none) : Q (.ref q) (upd H q (.tup xs)) :=
  p.now (.newF r hq) (r.newF hq) _ (w_tup.mpr ⟨q, xs, rfl, upd_same, p2imp (fun _ _ z => z.mono (.of (fz_new (r.fnone hq)))) h⟩)
/-- a new object of the store -/
theorem ret_new {o : O} {ho : HO} (p : PostE G W F ι H σ (.ok (.ref S.length) (S ++ [o])) Q) (r : Real G F ι S H) (q : Addr) (hq : H q = none) (h : RepO G F (ι ++ [q]) o ho) (ht : ∀ ws, o = .tup ws → ws.all Wv.isD = false := by intro ws e; cases e) (hd : o ≠ .dead := by intro e; cases e) : Q (.ref q) (upd H q ho) :=
  p.now (.newS r hq) (r.newS hq h ht hd) _ ⟨q, by rw [← r.len]; simp, rfl⟩
/-- an object of the store is written -/
theorem ret_put {n : Nat} {a : Addr} {o o' : O} {ho : HO} {w : Wv} {v : V} (p : PostE G W F ι H σ (.ok w (S.set n o')) Q) (r : Real G F ι S H) (e1 : ι[n]? = some a) (e2 : S[n]? = some o) (e3 : o ≠ .dead) (h : RepO G F ι o' ho) (hw : RepW G F ι w v) (ht : ∀ ws, o' = .tup ws → ws.all Wv.isD = false := by intro ws e; cases e) (hd : o' ≠ .dead := by intro e; cases e) : Q v (upd H a ho) :=
  p.now (.put e1) (r.put e1 e2 e3 h ht hd) v hw
end

/-! ## data seen in the store -/
def allD : List Wv → Option (List D)
  | [] => some []
  | .d x :: r => (allD r).map (x :: ·)
  | _ :: _ => none
theorem allD_map : ∀ ds : List D, allD (ds.map .d) = some ds
  | [] => rfl
  | d :: ds => by
    show (allD (ds.map .d)).map (d :: ·) = _
    rw [allD_map ds]; rfl
theorem allD_no : ∀ {ws : List Wv}, allD ws = none → ws.all Wv.isD = false
  | [], h => by cases h
  | w :: ws, h => by
    cases w with
    | d x =>
      cases q : allD ws with
      | none => simp [Wv.isD, allD_no q]
      | some l =>
        unfold allD at h
        rw [q] at h
        cases h
    | _ => rfl
theorem allD_eq : ∀ {ws : List Wv} {ds : List D}, allD ws = some ds → ws = ds.map .d
  | [], ds, h => by cases h; rfl
  | w :: ws, ds, h => by
    cases w with
    | d x =>
      have h' : (allD ws).map (x :: ·) = some ds := h
      cases e : allD ws with
      | none => rw [e] at h'; cases h'
      | some es =>
        rw [e] at h'
        cases h'
        rw [allD_eq e]; rfl
    | _ => cases h
theorem repWs_d {G : Gc} {F : Hp} {ι : List Addr} {ds : List D} {xs : List V} (h : RepWs G F ι (ds.map .d) xs) : Paired (Rep F) ds xs := p2mapL' (f := Wv.d) (R' := RepW G F ι) (fun a b z => z) h
theorem repWs_of {G : Gc} {F : Hp} {ι : List Addr} {ds : List D} {xs : List V} (h : Paired (Rep F) ds xs) : RepWs G F ι (ds.map .d) xs := p2mapL (f := Wv.d) (R' := RepW G F ι) (fun a b z => z) h
theorem uncalm {G : Gc} {F : Hp} {ι : List Addr} {w : Wv} {v : V} (h : RepW G.calm F ι w v) : RepW G F ι w v := by
  cases w with
  | d x => exact h
  | ref n => exact h
  | scr ns => exact h
  | exc c => obtain ⟨a, e, _⟩ := h; cases e
theorem uncalms {G : Gc} {F : Hp} {ι : List Addr} {ws : List Wv} {xs : List V} (h : RepWs G.calm F ι ws xs) : RepWs G F ι ws xs := p2imp (fun _ _ z => uncalm z) h
/-- what may be put into the store -/
def Wv.calm : Wv → Bool
  | .exc _ => false
  | _ => true
theorem calm_of {G : Gc} {F : Hp} {ι : List Addr} {w : Wv} {v : V} (h : RepW G F ι w v) (c : w.calm = true) : RepW G.calm F ι w v := by
  cases w with
  | d x => exact h
  | ref n => exact h
  | scr ns => exact h
  | exc c => cases c
theorem calms_of {G : Gc} {F : Hp} {ι : List Addr} : ∀ {ws : List Wv} {xs : List V}, RepWs G F ι ws xs → ws.all Wv.calm = true → RepWs G.calm F ι ws xs
  | _, _, .nil, _ => .nil
  | _, _, .cons r t, c => by
    simp only [List.all_cons, Bool.and_eq_true] at c
    exact .cons (calm_of r c.1) (calms_of t c.2)
/-- a value, or a list of values that is kept -/
def asD0 (S : Store) : Wv → Option D
  | .d x => some x
  | .ref n => match S[n]? with
    | some (.lst ws) => (allD ws).map .lst
    | _ => none
  | _ => none
def allA (S : Store) : List Wv → Option (List D)
  | [] => some []
  | w :: r => match asD0 S w, allA S r with
    | some x, some xs => some (x :: xs)
    | _, _ => none
def asD (S : Store) : Wv → Option D
  | .d x => some x
  | .ref n => match S[n]? with
    | some (.lst ws) => (allD ws).map .lst
    | some (.tup ws) => (allA S ws).map .tup
    | _ => none
  | _ => none
section
variable {G : Gc} {F : Hp} {ι : List Addr} {S : Store} {H : Hp} {v : V} {w : Wv}
theorem Real.fsub (r : Real G F ι S H) : FSub F H := .of r.frz
theorem Real.ref_lst {n : Nat} {ws : List Wv} (r : Real G F ι S H) (h : RepW G F ι (.ref n) v) (e : S[n]? = some (.lst ws)) : ∃ a xs, v = .ref a ∧ ι[n]? = some a ∧ H a = some (.lst xs) ∧ RepWs G.calm F ι ws xs := by
  obtain ⟨a, e1, rfl⟩ := h
  obtain ⟨_, _, e2, xs, rfl, e3⟩ := r.at_ n a _ e1 e (fun z => nomatch z)
  exact ⟨a, xs, rfl, e1, e2, e3⟩
theorem Real.ref_tup {n : Nat} {ws : List Wv} (r : Real G F ι S H) (h : RepW G F ι (.ref n) v) (e : S[n]? = some (.tup ws)) : ∃ a xs, v = .ref a ∧ ι[n]? = some a ∧ H a = some (.tup xs) ∧ RepWs G.calm F ι ws xs := by
  obtain ⟨a, e1, rfl⟩ := h
  obtain ⟨_, _, e2, xs, rfl, e3⟩ := r.at_ n a _ e1 e (fun z => nomatch z)
  exact ⟨a, xs, rfl, e1, e2, e3⟩
theorem asD0_rep {x : D} (r : Real G F ι S H) (h : RepW G F ι w v) (e : asD0 S w = some x) : Rep H x v := by
  cases w with
  | d y => cases e; exact Rep.mono r.fsub h
  | scr ns => cases e
  | exc c => cases e
  | ref n =>
    unfold asD0 at e
    simp only at e
    split at e
    · rename_i ws e1
      obtain ⟨a, xs, rfl, _, e2, e3⟩ := r.ref_lst h e1
      cases q : allD ws with
      | none => rw [q] at e; cases e
      | some ds =>
        rw [q] at e; cases e
        rw [allD_eq q] at e3
        exact rep_lst.mpr ⟨a, xs, rfl, e2, p2imp (fun _ _ z => z.mono r.fsub) (repWs_d e3)⟩
    · cases e
theorem allA_rep (r : Real G F ι S H) : ∀ {ws : List Wv} {vs : List V} {ds : List D}, RepWs G F ι ws vs → allA S ws = some ds → Paired (Rep H) ds vs
  | [], _, ds, .nil, e => by cases e; exact .nil
  | w :: ws, _, ds, .cons h t, e => by
    unfold allA at e
    cases q1 : asD0 S w with
    | none => rw [q1] at e; cases e
    | some x =>
      cases q2 : allA S ws with
      | none => rw [q1, q2] at e; cases e
      | some xs =>
        rw [q1, q2] at e
        cases e
        exact .cons (asD0_rep r h q1) (allA_rep r t q2)
theorem asD_rep {x : D} (r : Real G F ι S H) (h : RepW G F ι w v) (e : asD S w = some x) : Rep H x v := by
  cases w with
  | d y => cases e; exact Rep.mono r.fsub h
  | scr ns => cases e
  | exc c => cases e
  | ref n =>
    unfold asD at e
    simp only at e
    split at e
    · rename_i ws e1
      obtain ⟨a, xs, rfl, _, e2, e3⟩ := r.ref_lst h e1
      cases q : allD ws with
      | none => rw [q] at e; cases e
      | some ds =>
        rw [q] at e; cases e
        rw [allD_eq q] at e3
        exact rep_lst.mpr ⟨a, xs, rfl, e2, p2imp (fun _ _ z => z.mono r.fsub) (repWs_d e3)⟩
    · rename_i ws e1
      obtain ⟨a, xs, rfl, _, e2, e3⟩ := r.ref_tup h e1
      cases q : allA S ws with
      | none => rw [q] at e; cases e
      | some ds =>
        rw [q] at e; cases e
        exact rep_tup.mpr ⟨a, xs, rfl, e2, allA_rep r.calm e3 q⟩
    · cases e
/-- the items of a list (true) or a tuple (false) -/
def seqW (S : Store) : Wv → Option (Bool × List Wv)
  | .d (.lst ds) => some (true, ds.map .d)
  | .d (.tup ds) => some (false, ds.map .d)
  | .scr ns => some (true, ns.map fun i => .d (.int i))
  | .ref n => match S[n]? with
    | some (.lst ws) => some (true, ws)
    | some (.tup ws) => some (false, ws)
    | _ => none
  | _ => none
theorem seqW_rep {k : Bool} {ws : List Wv} (r : Real G F ι S H) (h : RepW G F ι w v) (e : seqW S w = some (k, ws)) : ∃ a xs, v = .ref a ∧ (if k = true then SqL G.K H a xs else SqT G.K H a xs) ∧ RepWs G.calm F ι ws xs := by
  cases w with
  | d y =>
    cases y with
    | lst ds =>
      cases e
      obtain ⟨a, xs, rfl, q, p⟩ := w_lst.mp h
      exact ⟨a, xs, rfl, SqL.of (r.frz _ _ q), repWs_of p⟩
    | tup ds =>
      cases e
      obtain ⟨a, xs, rfl, q, p⟩ := w_tup.mp h
      exact ⟨a, xs, rfl, SqT.of (r.frz _ _ q), repWs_of p⟩
    | _ => cases e
  | scr ns =>
    cases e
    obtain ⟨a, rfl, q⟩ := h
    refine ⟨a, ns.map V.int, rfl, sqL_mono r.frz q, ?_⟩
    clear q
    induction ns with
    | nil => exact .nil
    | cons i ns ih => exact .cons (w_int.mpr rfl) ih
  | exc c => cases e
  | ref n =>
    unfold seqW at e
    simp only at e
    split at e
    · rename_i ws e1
      cases e
      obtain ⟨a, xs, rfl, _, e2, e3⟩ := r.ref_lst h e1
      exact ⟨a, xs, rfl, SqL.of e2, e3⟩
    · rename_i ws e1
      cases e
      obtain ⟨a, xs, rfl, _, e2, e3⟩ := r.ref_tup h e1
      exact ⟨a, xs, rfl, SqT.of e2, e3⟩
    · cases e
theorem seqW_or {k : Bool} {ws : List Wv} (r : Real G F ι S H) (h : RepW G F ι w v) (e : seqW S w = some (k, ws)) : ∃ a xs, v = .ref a ∧ (SqL G.K H a xs ∨ SqT G.K H a xs) ∧ RepWs G.calm F ι ws xs := by
  obtain ⟨a, xs, e1, q, p⟩ := seqW_rep r h e
  cases k with
  | true => exact ⟨a, xs, e1, .inl q, p⟩
  | false => exact ⟨a, xs, e1, .inr q, p⟩
end

/-! ## arithmetic, texts, lists: + - * // % ** -/
def gAdd : Wv → Wv → Store → Res Wv
  | .d (.int i), .d (.int j), S => .ok (.d (.int (i + j))) S
  | .d (.str x), .d (.str y), S => if x.length + y.length ≤ 16777216 then .ok (.d (.str (x ++ y))) S else .no
  | .d (.lst x), .d (.lst y), S => if x.length + y.length ≤ 16777216 then .ok (.d (.lst (x ++ y))) S else .no
  | .d (.tup x), .d (.tup y), S => if x ≠ [] ∧ y ≠ [] ∧ x.length + y.length ≤ 16777216 then .ok (.d (.tup (x ++ y))) S else .no
  | _, _, _ => .no
abbrev rAddAll (K : PySem.W.Frag) : R2 := fun x y H Q => rI0 (fun i j => .int (i + j)) x y H Q ∨ ((∃ i j, x = .str i ∧ y = .str j ∧ i.length + j.length ≤ sizeLine ∧ Q (.str (i ++ j)) H) ∨ (rCat x y H Q ∨ rCatT K x y H Q))
theorem op_addAll {X : Cx} : OpR X (binaryOp .Add) (rAddAll X.K) := op_add.or (op_add_str.or (op_cat.or op_catT))
theorem p2ne {α β : Type} {R : α → β → Prop} {xs : List α} {ys : List β} (h : Paired R xs ys) (n : xs ≠ []) : ys ≠ [] := by
  cases h with
  | nil => exact absurd rfl n
  | cons _ _ => exact List.cons_ne_nil _ _
theorem o2_add {G : Gc} : Op2 G (rAddAll G.K) gAdd := by
  intro W F ι S H σ x y w u Q rl hx hy p
  unfold gAdd at p
  split at p
  · cases w_int.mp hx; cases w_int.mp hy
    exact .inl ⟨_, _, rfl, rfl, ret_int p rl⟩
  · rename_i a b _
    cases w_str.mp hx; cases w_str.mp hy
    split at p
    · rename_i hz
      exact .inr (.inl ⟨_, _, rfl, rfl, by rw [sizeLine_eq]; exact hz, ret_str p rl⟩)
    · exact p.elim
  · split at p
    · rename_i hz
      obtain ⟨a, xs, rfl, q1, p1⟩ := w_lst.mp hx
      obtain ⟨b, ys, rfl, q2, p2⟩ := w_lst.mp hy
      refine .inr (.inr (.inl ⟨a, b, xs, ys, rfl, rfl, rl.frz _ _ q1, rl.frz _ _ q2, by rw [← p1.length, ← p2.length, sizeLine_eq]; exact hz, fun q hq => ret_lst p rl (p2app p1 p2) q hq⟩))
    · exact p.elim
  · split at p
    · rename_i hz
      obtain ⟨a, xs, rfl, q1, p1⟩ := w_tup.mp hx
      obtain ⟨b, ys, rfl, q2, p2⟩ := w_tup.mp hy
      exact .inr (.inr (.inr ⟨a, b, xs, ys, rfl, rfl, SqT.of (rl.frz _ _ q1), SqT.of (rl.frz _ _ q2), p2ne p1 hz.1, by rw [← p1.length, ← p2.length, sizeLine_eq]; exact hz.2.2, fun z => absurd z (p2ne p2 hz.2.1), fun _ q hq => ret_tup p rl (p2app p1 p2) q hq⟩))
    · exact p.elim
  · exact p.elim
def gSub : Wv → Wv → Store → Res Wv
  | .d (.int i), .d (.int j), S => .ok (.d (.int (i - j))) S
  | _, _, _ => .no
theorem o2_sub {G : Gc} : Op2 G (rI0 fun i j => .int (i - j)) gSub := by
  intro W F ι S H σ x y w u Q rl hx hy p
  unfold gSub at p
  split at p
  · cases w_int.mp hx; cases w_int.mp hy
    exact ⟨_, _, rfl, rfl, ret_int p rl⟩
  · exact p.elim
/-- a number whose size is no matter -/
def Sm (i : Int) : Prop := i.natAbs < 2 ^ 1000
instance (i : Int) : Decidable (Sm i) := Nat.decLt _ _
def MulOk (i j : Int) : Prop := (i.natAbs < 2 ^ 64 ∨ j.natAbs < 2 ^ 64) ∨ (Sm i ∧ Sm j)
instance (i j : Int) : Decidable (MulOk i j) := instDecidableOr
/-- a text, again and again -/
def repS (x : Str) (k : Nat) : Str := ⟨(List.replicate k x.cps).foldl (· ++ ·) #[]⟩
theorem repS_go (c : Array Nat) : ∀ (k : Nat) (a : Array Nat), ((List.replicate k c).foldl (· ++ ·) a).size = a.size + k * c.size
  | 0, a => by simp
  | k + 1, a => by
    rw [List.replicate_succ, List.foldl_cons, repS_go c k, Array.size_append, Nat.succ_mul]
    omega
theorem repS_len (x : Str) (k : Nat) : (repS x k).length = k * x.length := by
  have := repS_go x.cps k #[]
  rw [show (#[] : Array Nat).size = 0 from rfl, Nat.zero_add] at this
  exact this
def rRepS : R2 := fun x y H Q => ∃ i k, x = .str i ∧ y = .int k ∧ 2 ≤ k ∧ k ≤ 1000 ∧ 1 ≤ i.length ∧ i.length ≤ 1000 ∧ Q (.str (repS i k.toNat)) H
theorem op_repS {X : Cx} : OpR X (binaryOp .Mult) rRepS := by
  intro pins s σ H x y v u Q I rx ry h
  obtain ⟨i, k, rfl, rfl, h1, h2, h3, h4, q⟩ := h
  obtain ⟨t, rfl⟩ := rx
  obtain ⟨t', rfl⟩ := ry
  have e1 : ¬ k < 1 := by omega
  have e2 : (k == 1 || i.length == 0) = false := by
    rw [beq_eq_false_iff_ne.mpr (by omega), beq_eq_false_iff_ne.mpr (by omega)]; rfl
  have hz : i.length * k.toNat ≤ 1000 * 1000 := Nat.mul_le_mul h4 (by omega)
  have hsz : i.length * k.toNat ≤ sizeLine := by rw [sizeLine_eq]; omega
  refine P.mul_str (by rw [decide_eq_false (by omega), decide_eq_false (by omega)]; rfl) (fun _ _ => ?_) (fun _ _ => ?_) ?_
  · have : (1000 : Int) ≤ (2 ^ 63 - 1) / k := (Int.le_ediv_iff_mul_le (by omega)).mpr (by omega)
    omega
  · exact decide_eq_false (Nat.not_lt.mpr hsz)
  · rw [if_neg e1, if_neg (by rw [e2]; exact Bool.false_ne_true)]
    refine ⟨?_, .str (repS i k.toNat), H, I.tok _, ⟨_, rfl⟩, q⟩
    have := repS_len i k.toNat
    show (repS i k.toNat).length ≤ sizeLine
    rw [this, Nat.mul_comm]; exact hsz
def gMul : Wv → Wv → Store → Res Wv
  | .d (.int i), .d (.int j), S => if MulOk i j then .ok (.d (.int (i * j))) S else .no
  | .d (.str x), .d (.int k), S => if 2 ≤ k ∧ k ≤ 1000 ∧ 1 ≤ x.length ∧ x.length ≤ 1000 then .ok (.d (.str (repS x k.toNat))) S else .no
  | .d (.lst x), .d (.int k), S => if 0 ≤ k ∧ k < 1000000 ∧ x.length * k.toNat ≤ 16777216 then .ok (.d (.lst (List.replicate k.toNat x).flatten)) S else .no
  | _, _, _ => .no
abbrev rMulAll : R2 := fun x y H Q => rI CMul (fun i j => .int (i * j)) x y H Q ∨ (rI CMulW (fun i j => .int (i * j)) x y H Q ∨ (rRep x y H Q ∨ rRepS x y H Q))
theorem op_mulAll {X : Cx} : OpR X (binaryOp .Mult) rMulAll := op_mul.or (op_mulW.or (op_rep.or op_repS))
theorem o2_mul {G : Gc} : Op2 G rMulAll gMul := by
  intro W F ι S H σ x y w u Q rl hx hy p
  unfold gMul at p
  split at p
  · split at p
    · rename_i i j _ hz
      cases w_int.mp hx; cases w_int.mp hy
      rcases hz with hz | hz
      · refine .inl ⟨_, _, rfl, rfl, ?_, ret_int p rl⟩
        have e : (2 : Nat) ^ 64 = 18446744073709551616 := by decide
        have e' : (2 : Int) ^ 64 = 18446744073709551616 := by decide
        rw [e] at hz
        rcases hz with hz | hz
        · exact .inl (by rw [e']; omega)
        · exact .inr (by rw [e']; omega)
      · exact .inr (.inl ⟨_, _, rfl, rfl, wide_mul hz.1 hz.2 (by decide) (by decide) (by decide), ret_int p rl⟩)
    · exact p.elim
  · split at p
    · rename_i hz
      cases w_str.mp hx; cases w_int.mp hy
      exact .inr (.inr (.inr ⟨_, _, rfl, rfl, hz.1, hz.2.1, hz.2.2.1, hz.2.2.2, ret_str p rl⟩))
    · exact p.elim
  · split at p
    · rename_i hz
      obtain ⟨a, xs, rfl, q1, p1⟩ := w_lst.mp hx
      cases w_int.mp hy
      have e' : (2 : Int) ^ 63 = 9223372036854775808 := by decide
      refine .inr (.inr (.inl ⟨a, _, xs, rfl, rfl, rl.frz _ _ q1, by rw [e']; omega, by rw [e']; omega, by rw [← p1.length, sizeLine_eq]; exact hz.2.2, fun q hq => ret_lst p rl (p2flat p1 _) q hq⟩))
    · exact p.elim
  · exact p.elim
def gFloor : Wv → Wv → Store → Res Wv
  | .d (.int i), .d (.int j), S => if 0 < j ∧ Sm j then .ok (.d (.int (i / j))) S else .no
  | _, _, _ => .no
theorem o2_floor {G : Gc} : Op2 G (rI CDivW fun i j => .int (i / j)) gFloor := by
  intro W F ι S H σ x y w u Q rl hx hy p
  unfold gFloor at p
  split at p
  · split at p
    · rename_i i j _ hz
      cases w_int.mp hx; cases w_int.mp hy
      exact ⟨_, _, rfl, rfl, wide_div hz.1 hz.2 (by decide) (by decide), ret_int p rl⟩
    · exact p.elim
  · exact p.elim
def gMod : Wv → Wv → Store → Res Wv
  | .d (.int i), .d (.int j), S => if 0 < j then .ok (.d (.int (i % j))) S else .no
  | _, _, _ => .no
theorem o2_mod {G : Gc} : Op2 G (rI (fun _ j => 0 < j) fun i j => .int (i % j)) gMod := by
  intro W F ι S H σ x y w u Q rl hx hy p
  unfold gMod at p
  split at p
  · split at p
    · rename_i i j _ hz
      cases w_int.mp hx; cases w_int.mp hy
      exact ⟨_, _, rfl, rfl, hz, ret_int p rl⟩
    · exact p.elim
  · exact p.elim
def gPow : Wv → Wv → Store → Res Wv
  | .d (.int i), .d (.int j), S => if 0 ≤ j ∧ j ≤ 1000 ∧ i.natAbs < 2 ^ 64 then .ok (.d (.int (i ^ j.toNat))) S else .no
  | _, _, _ => .no
theorem o2_pow {G : Gc} : Op2 G (rI CPow fun i j => .int (i ^ j.toNat)) gPow := by
  intro W F ι S H σ x y w u Q rl hx hy p
  unfold gPow at p
  split at p
  · split at p
    · rename_i i j _ hz
      cases w_int.mp hx; cases w_int.mp hy
      exact ⟨_, _, rfl, rfl, ⟨hz.1, by omega, hz.2.2⟩, ret_int p rl⟩
    · exact p.elim
  · exact p.elim
def gNeg : Wv → Store → Res Wv
  | .d (.int i), S => .ok (.d (.int (-i))) S
  | _, _ => .no
theorem o1_neg {G : Gc} : Op1 G (rU fun i => .int (-i)) gNeg := by
  intro W F ι S H σ x w Q rl hx p
  unfold gNeg at p
  split at p
  · cases w_int.mp hx
    exact ⟨_, rfl, ret_int p rl⟩
  · exact p.elim

/-! ## comparisons -/
/-- what is compared with == by identity of kinds: min of depths bounded -/
def gEq (neg : Bool) (w u : Wv) (S : Store) : Res Wv := match asD S w, asD S u with
  | some d, some e => if min d.dep e.dep ≤ 64 then .ok (.d (.bl (if neg = true then !eqD d e else eqD d e))) S else .no
  | _, _ => .no
theorem o2_eq {G : Gc} : Op2 G (fun x y H Q => ∃ d e, Rep H d x ∧ Rep H e y ∧ min d.dep e.dep ≤ 64 ∧ Q (.bl (eqD d e)) H) (gEq false) := by
  intro W F ι S H σ x y w u Q rl hx hy p
  unfold gEq at p
  split at p
  · rename_i d e e1 e2
    split at p
    · rename_i hz
      exact ⟨d, e, asD_rep rl hx e1, asD_rep rl hy e2, hz, ret_bl p rl⟩
    · exact p.elim
  · exact p.elim
theorem o2_ne {G : Gc} : Op2 G (fun x y H Q => ∃ d e, Rep H d x ∧ Rep H e y ∧ min d.dep e.dep ≤ 64 ∧ Q (.bl (!eqD d e)) H) (gEq true) := by
  intro W F ι S H σ x y w u Q rl hx hy p
  unfold gEq at p
  split at p
  · rename_i d e e1 e2
    split at p
    · rename_i hz
      exact ⟨d, e, asD_rep rl hx e1, asD_rep rl hy e2, hz, ret_bl p rl⟩
    · exact p.elim
  · exact p.elim
def gLt : Wv → Wv → Store → Res Wv
  | .d (.int i), .d (.int j), S => .ok (.d (.bl (decide (i < j)))) S
  | _, _, _ => .no
def gGt : Wv → Wv → Store → Res Wv
  | .d (.int i), .d (.int j), S => .ok (.d (.bl (decide (j < i)))) S
  | _, _, _ => .no
def gGe : Wv → Wv → Store → Res Wv
  | .d (.int i), .d (.int j), S => .ok (.d (.bl (decide (j ≤ i)))) S
  | _, _, _ => .no
def gLe : Wv → Wv → Store → Res Wv
  | .d (.int i), .d (.int j), S => .ok (.d (.bl (decide (i ≤ j)))) S
  | .d (.str i), .d (.str j), S => .ok (.d (.bl (!decide (j.cps.toList < i.cps.toList)))) S
  | _, _, _ => .no
theorem o2_lt {G : Gc} : Op2 G (rI0 fun i j => .bl (decide (i < j))) gLt := by
  intro W F ι S H σ x y w u Q rl hx hy p
  unfold gLt at p
  split at p
  · cases w_int.mp hx; cases w_int.mp hy
    exact ⟨_, _, rfl, rfl, ret_bl p rl⟩
  · exact p.elim
theorem o2_gt {G : Gc} : Op2 G (rI0 fun i j => .bl (decide (j < i))) gGt := by
  intro W F ι S H σ x y w u Q rl hx hy p
  unfold gGt at p
  split at p
  · cases w_int.mp hx; cases w_int.mp hy
    exact ⟨_, _, rfl, rfl, ret_bl p rl⟩
  · exact p.elim
theorem o2_ge {G : Gc} : Op2 G (rI0 fun i j => .bl (decide (j ≤ i))) gGe := by
  intro W F ι S H σ x y w u Q rl hx hy p
  unfold gGe at p
  split at p
  · cases w_int.mp hx; cases w_int.mp hy
    exact ⟨_, _, rfl, rfl, ret_bl p rl⟩
  · exact p.elim
abbrev rLeAll : R2 := fun x y H Q => rI0 (fun i j => .bl (decide (i ≤ j))) x y H Q ∨ (∃ i j, x = .str i ∧ y = .str j ∧ Q (.bl (!decide (j.cps.toList < i.cps.toList))) H)
theorem op_leAll {X : Cx} : OpR X (compareOp .LtE) rLeAll := op_le.or op_le_str
theorem o2_le {G : Gc} : Op2 G rLeAll gLe := by
  intro W F ι S H σ x y w u Q rl hx hy p
  unfold gLe at p
  split at p
  · cases w_int.mp hx; cases w_int.mp hy
    exact .inl ⟨_, _, rfl, rfl, ret_bl p rl⟩
  · cases w_str.mp hx; cases w_str.mp hy
    exact .inr ⟨_, _, rfl, rfl, ret_bl p rl⟩
  · exact p.elim
/-- is None, is not None -/
def isNon : Wv → Bool
  | .d .non => true
  | _ => false
def gIs (neg : Bool) : Wv → Wv → Store → Res Wv
  | w, .d .non, S => .ok (.d (.bl (if neg = true then !isNon w else isNon w))) S
  | _, _, _ => .no
theorem isNon_rep {G : Gc} {F : Hp} {ι : List Addr} {w : Wv} {v : V} (h : RepW G F ι w v) : decide (v = .non) = isNon w := by
  cases w with
  | d x =>
    cases x with
    | non => rw [w_non.mp h]; rfl
    | bl _ => rw [w_bl.mp h]; rfl
    | int _ => rw [w_int.mp h]; rfl
    | str _ => rw [w_str.mp h]; rfl
    | tup _ => obtain ⟨a, _, rfl, _⟩ := w_tup.mp h; rfl
    | lst _ => obtain ⟨a, _, rfl, _⟩ := w_lst.mp h; rfl
  | ref n => obtain ⟨a, _, rfl⟩ := h; rfl
  | scr ns => obtain ⟨a, rfl, _⟩ := h; rfl
  | exc c => obtain ⟨a, _, rfl⟩ := h; rfl
theorem o2_is {G : Gc} : Op2 G (fun x y H Q => y = .non ∧ Q (.bl (decide (x = .non))) H) (gIs false) := by
  intro W F ι S H σ x y w u Q rl hx hy p
  unfold gIs at p
  split at p
  · exact ⟨w_non.mp hy, by rw [isNon_rep hx]; exact ret_bl p rl⟩
  · exact p.elim
theorem o2_isnt {G : Gc} : Op2 G (fun x y H Q => y = .non ∧ Q (.bl (!decide (x = .non))) H) (gIs true) := by
  intro W F ι S H σ x y w u Q rl hx hy p
  unfold gIs at p
  split at p
  · exact ⟨w_non.mp hy, by rw [isNon_rep hx]; exact ret_bl p rl⟩
  · exact p.elim
end DL

/-! membership, subscripts, slices, built-ins, displays, attributes, tests -/
namespace DL
open PySem PySem.Spec PyProof.Rows L2

/-! ## keys and dicts -/
def asKey : Wv → Option Key
  | .d (.int i) => some (.inl i)
  | .d (.str x) => some (.inr x)
  | _ => none
def keysOf : List D → Option (List Key)
  | [] => some []
  | .int i :: r => (keysOf r).map (.inl i :: ·)
  | .str x :: r => (keysOf r).map (.inr x :: ·)
  | _ :: _ => none
def atK {κ : Type} [DecidableEq κ] (kvs : List (κ × Wv)) (k : κ) : Option Wv := (kvs.find? fun kv => decide (kv.1 = k)).map (·.2)
def putKW {κ : Type} [DecidableEq κ] (kvs : List (κ × Wv)) (k : κ) (v : Wv) : List (κ × Wv) :=
  if (kvs.any fun kv => decide (kv.1 = k)) = true then kvs.map fun kv => if kv.1 = k then (kv.1, v) else kv else kvs ++ [(k, v)]
section
variable {G : Gc} {F : Hp} {ι : List Addr}
theorem asKey_rep {w : Wv} {v : V} {k : Key} (h : RepW G F ι w v) (e : asKey w = some k) : v = kV k := by
  unfold asKey at e
  split at e
  · cases e; exact w_int.mp h
  · cases e; exact w_str.mp h
  · cases e
theorem keysOf_rep : ∀ {ds : List D} {xs : List V} {ks : List Key}, Paired (Rep F) ds xs → keysOf ds = some ks → xs = ks.map kV
  | [], _, _, .nil, e => by cases e; rfl
  | d :: ds, _, ks, .cons r t, e => by
    cases d with
    | int i =>
      have e' : (keysOf ds).map (.inl i :: ·) = some ks := e
      cases q : keysOf ds with
      | none => rw [q] at e'; cases e'
      | some l =>
        rw [q] at e'; cases e'
        rw [rep_int.mp r, keysOf_rep t q]; rfl
    | str i =>
      have e' : (keysOf ds).map (.inr i :: ·) = some ks := e
      cases q : keysOf ds with
      | none => rw [q] at e'; cases e'
      | some l =>
        rw [q] at e'; cases e'
        rw [rep_str.mp r, keysOf_rep t q]; rfl
    | _ => cases e
abbrev KVR {κ : Type} (G : Gc) (F : Hp) (ι : List Addr) : List (κ × Wv) → List (κ × V) → Prop := Paired fun p q => p.1 = q.1 ∧ RepW G F ι p.2 q.2
theorem kvr_at {κ : Type} [DecidableEq κ] {kvs : List (κ × Wv)} {l : List (κ × V)} (r : KVR G F ι kvs l) (k : κ) : (atK kvs k = none ∧ valV l k = none) ∨ ∃ w v, atK kvs k = some w ∧ valV l k = some v ∧ RepW G F ι w v := by
  induction r with
  | nil => exact .inl ⟨rfl, rfl⟩
  | @cons p q ps qs h t ih =>
    obtain ⟨e1, e2⟩ := h
    by_cases hk : p.1 = k
    · refine .inr ⟨p.2, q.2, by simp [atK, hk], ?_, e2⟩
      rw [valV_pos (e1 ▸ hk)]
    · have hk' : ¬ q.1 = k := e1 ▸ hk
      rw [valV_neg hk']
      have : atK (p :: ps) k = atK ps k := by simp [atK, List.find?_cons, hk]
      rw [this]
      exact ih
theorem kvr_put {κ : Type} [DecidableEq κ] {kvs : List (κ × Wv)} {l : List (κ × V)} (r : KVR G F ι kvs l) (k : κ) {w : Wv} {v : V} (h : RepW G F ι w v) : KVR G F ι (putKW kvs k w) (putK l k v) := by
  have ea : (kvs.any fun kv => decide (kv.1 = k)) = (l.any fun kv => decide (kv.1 = k)) := by
    induction r with
    | nil => rfl
    | @cons p q ps qs hh t ih => simp only [List.any_cons, ih, hh.1]
  unfold putKW putK
  rw [ea]
  split
  · refine p2map (fun a b hh => ?_) r
    by_cases hk : a.1 = k
    · rw [if_pos hk, if_pos (hh.1 ▸ hk)]; exact ⟨hh.1, h⟩
    · rw [if_neg hk, if_neg (hh.1 ▸ hk)]; exact hh
  · exact p2app r (.cons ⟨rfl, h⟩ .nil)
theorem kvr_len {κ : Type} {kvs : List (κ × Wv)} {l : List (κ × V)} (r : KVR G F ι kvs l) : kvs.length = l.length := r.length
end
/-- d[w]: of a dict of the store -/
def dGet (S : Store) (n : Nat) (w : Wv) : Option (Option Wv) := match S[n]? with
  | some (.dK kvs) => (asKey w).map (atK kvs)
  | some (.dT kvs) => match w with
    | .d (.tup ds) => (keysOf ds).map (atK kvs)
    | _ => none
  | _ => none
theorem dGet_rep {G : Gc} {F : Hp} {ι : List Addr} {S : Store} {H : Hp} {n : Nat} {v y : V} {w : Wv} {o : Option Wv} (r : Real G F ι S H) (hv : RepW G F ι (.ref n) v) (hy : RepW G F ι w y) (e : dGet S n w = some o) :
    ∃ a, v = .ref a ∧ ((o = none ∧ DGet H a y none) ∨ ∃ u z, o = some u ∧ DGet H a y (some z) ∧ RepW G F ι u z) := by
  obtain ⟨a, e1, rfl⟩ := hv
  refine ⟨a, rfl, ?_⟩
  unfold dGet at e
  split at e
  · rename_i kvs e2
    obtain ⟨_, _, e3, l, rfl, e4⟩ := r.at_ n a _ e1 e2 (fun z => nomatch z)
    cases q : asKey w with
    | none => rw [q] at e; cases e
    | some k =>
      rw [q] at e
      cases e
      obtain rfl := asKey_rep hy q
      rcases kvr_at e4 k with ⟨h1, h2⟩ | ⟨u, z, h1, h2, h3⟩
      · exact .inl ⟨h1, h2 ▸ DGet.k e3⟩
      · exact .inr ⟨u, z, h1, h2 ▸ DGet.k e3, uncalm h3⟩
  · rename_i kvs e2
    obtain ⟨_, _, e3, l, rfl, e4⟩ := r.at_ n a _ e1 e2 (fun z => nomatch z)
    split at e
    · rename_i ds
      cases q : keysOf ds with
      | none => rw [q] at e; cases e
      | some ks =>
        rw [q] at e
        cases e
        obtain ⟨b, xs, rfl, h5, h6⟩ := w_tup.mp hy
        have ex := keysOf_rep h6 q
        subst ex
        rcases kvr_at e4 ks with ⟨h1, h2⟩ | ⟨u, z, h1, h2, h3⟩
        · exact .inl ⟨h1, h2 ▸ DGet.t e3 (r.frz _ _ h5)⟩
        · exact .inr ⟨u, z, h1, h2 ▸ DGet.t e3 (r.frz _ _ h5), uncalm h3⟩
    · cases e
  · cases e

def dictW (S : Store) (u w : Wv) : Option (Option Wv) := match u with
  | .ref n => dGet S n w
  | _ => none
theorem dictW_rep {G : Gc} {F : Hp} {ι : List Addr} {S : Store} {H : Hp} {v y : V} {u w : Wv} {o : Option Wv} (r : Real G F ι S H) (hv : RepW G F ι u v) (hy : RepW G F ι w y) (e : dictW S u w = some o) :
    ∃ a, v = .ref a ∧ ((o = none ∧ DGet H a y none) ∨ ∃ u z, o = some u ∧ DGet H a y (some z) ∧ RepW G F ι u z) := by
  unfold dictW at e
  split at e
  · exact dGet_rep r hv hy e
  · cases e

/-! ## in, not in -/
def flatD : D → Bool
  | .non => true
  | .bl _ => true
  | .int _ => true
  | .str _ => true
  | _ => false
theorem flat_rep {F : Hp} {d : D} {v : V} (h : Rep F d v) (f : flatD d = true) : flatV v = true := by
  cases d with
  | non => rw [rep_non.mp h]; rfl
  | bl _ => rw [rep_bl.mp h]; rfl
  | int _ => rw [rep_int.mp h]; rfl
  | str _ => rw [rep_str.mp h]; rfl
  | _ => cases f
theorem flat_eq {F : Hp} {d e : D} {v u : V} (h : Rep F d v) (g : Rep F e u) (f : flatD d = true) (f' : flatD e = true) : eqV v u = eqD d e := by
  cases d with
  | non => rw [rep_non.mp h]; cases e with
    | non => rw [rep_non.mp g]; rfl
    | bl _ => rw [rep_bl.mp g]; rfl
    | int _ => rw [rep_int.mp g]; rfl
    | str _ => rw [rep_str.mp g]; rfl
    | _ => cases f'
  | bl _ => rw [rep_bl.mp h]; cases e with
    | non => rw [rep_non.mp g]; rfl
    | bl _ => rw [rep_bl.mp g]; rfl
    | int _ => rw [rep_int.mp g]; rfl
    | str _ => rw [rep_str.mp g]; rfl
    | _ => cases f'
  | int _ => rw [rep_int.mp h]; cases e with
    | non => rw [rep_non.mp g]; rfl
    | bl _ => rw [rep_bl.mp g]; rfl
    | int _ => rw [rep_int.mp g]; rfl
    | str _ => rw [rep_str.mp g]; rfl
    | _ => cases f'
  | str _ => rw [rep_str.mp h]; cases e with
    | non => rw [rep_non.mp g]; rfl
    | bl _ => rw [rep_bl.mp g]; rfl
    | int _ => rw [rep_int.mp g]; rfl
    | str _ => rw [rep_str.mp g]; rfl
    | _ => cases f'
  | _ => cases f
theorem flats_rep {F : Hp} {d : D} {v : V} (h : Rep F d v) (f : flatD d = true) : ∀ {ds : List D} {xs : List V}, Paired (Rep F) ds xs → ds.all flatD = true → xs.all flatV = true ∧ inV v xs = ds.any fun y => eqD y d
  | _, _, .nil, _ => ⟨rfl, rfl⟩
  | _, _, .cons r t, c => by
    simp only [List.all_cons, Bool.and_eq_true] at c
    obtain ⟨a, b⟩ := flats_rep h f t c.2
    refine ⟨by simp only [List.all_cons, flat_rep r c.1, a]; rfl, ?_⟩
    show ((eqV _ v) || inV v _) = _
    rw [b, flat_eq r h c.1 f]; rfl
def memW (S : Store) (w u : Wv) : Option Bool := match w, u with
  | .d (.str c), .d (.str z) => if c.cps.size = 1 then some (decide (c.cps.getD 0 0 ∈ z.cps.toList)) else none
  | .d x, u => match seqW S u with
    | some (_, ws) => match allD ws with
      | some ds => if flatD x && ds.all flatD then some (ds.any fun y => eqD y x) else none
      | none => none
    | none => (dictW S u (.d x)).map Option.isSome
  | _, _ => none
def gIn (neg : Bool) (w u : Wv) (S : Store) : Res Wv := match memW S w u with
  | some b => .ok (.d (.bl (if neg = true then !b else b))) S
  | none => .no
abbrev rInAll (K : PySem.W.Frag) (neg : Bool) : R2 := fun x y H Q => (∃ (c : Nat) (z : Str), x = .str ⟨#[c]⟩ ∧ y = .str z ∧ Q (.bl (if neg = true then !decide (c ∈ z.cps.toList) else decide (c ∈ z.cps.toList))) H) ∨
  (rIn K neg x y H Q ∨ ∃ a o, y = .ref a ∧ DGet H a x o ∧ Q (.bl (if neg = true then !o.isSome else o.isSome)) H)
theorem op_inAll {X : Cx} (hu : X.A.units + 1 < cLine) : OpR X (compareOp .In) (rInAll X.K false) := op_in_sign.or (op_in_seq.or (by
  intro pins s σ H x y v u Q I rx ry h
  obtain ⟨a, o, rfl, g, q⟩ := h
  cases ry
  exact d_in hu I g rx fun s3 I3 => ⟨.bl o.isSome, H, I3, rfl, q⟩))
theorem op_notInAll {X : Cx} (hu : X.A.units + 1 < cLine) : OpR X (compareOp .NotIn) (rInAll X.K true) := op_notIn_sign.or (op_notIn_seq.or (by
  intro pins s σ H x y v u Q I rx ry h
  obtain ⟨a, o, rfl, g, q⟩ := h
  cases ry
  exact d_notIn hu I g rx fun s3 I3 => ⟨.bl (!o.isSome), H, I3, rfl, q⟩))
theorem str_one {c : Str} (h : c.cps.size = 1) : c = ⟨#[c.cps.getD 0 0]⟩ := by
  obtain ⟨⟨l⟩⟩ := c
  match l, h with
  | [a], _ => rfl
theorem o2_in {G : Gc} {neg : Bool} : Op2 G (rInAll G.K neg) (gIn neg) := by
  intro W F ι S H σ x y w u Q rl hx hy p
  unfold gIn at p
  split at p
  · rename_i b eb
    unfold memW at eb
    split at eb
    · rename_i c z
      split at eb
      · rename_i hc
        cases eb
        cases w_str.mp hx; cases w_str.mp hy
        refine .inl ⟨c.cps.getD 0 0, z, by rw [← str_one hc], rfl, ret_bl p rl⟩
      · cases eb
    · rename_i d _
      split at eb
      · rename_i k ws e1
        split at eb
        · rename_i ds e2
          split at eb
          · rename_i hf
            cases eb
            simp only [Bool.and_eq_true] at hf
            obtain ⟨a, xs, rfl, q, r⟩ := seqW_or rl hy e1
            rw [allD_eq e2] at r
            obtain ⟨h1, h2⟩ := flats_rep hx hf.1 (repWs_d r) hf.2
            refine .inr (.inl ⟨a, xs, rfl, q, flat_rep hx hf.1, h1, ?_⟩)
            rw [h2]
            exact ret_bl p rl
          · cases eb
        · cases eb
      · cases q : dictW S u (.d d) with
        | none => rw [q] at eb; cases eb
        | some o =>
          rw [q] at eb
          cases eb
          obtain ⟨a, rfl, h⟩ := dictW_rep rl hy hx q
          rcases h with ⟨rfl, h⟩ | ⟨u', z, rfl, h, _⟩
          · exact .inr (.inr ⟨a, _, rfl, h, ret_bl p rl⟩)
          · exact .inr (.inr ⟨a, _, rfl, h, ret_bl p rl⟩)
    · cases eb
  · exact p.elim

/-! ## subscripts -/
def gIxD (w u : Wv) (S : Store) : Res Wv := match dictW S w u with
  | some (some x) => .ok x S
  | _ => .no
def gIxS (w : Wv) (i : Int) (S : Store) : Res Wv := match w with
  | .d (.str z) => if z.length ≤ 16777216 then match atI z.cps.toList i with
    | some c => .ok (.d (.str ⟨#[c]⟩)) S
    | none => .no
    else .no
  | w => gIxD w (.d (.int i)) S
def gIxI (w : Wv) (i : Int) (S : Store) : Res Wv := match seqW S w with
  | some (_, ws) => match atI ws i with
    | some x => .ok x S
    | none => .no
  | none => gIxS w i S
def gIx (w u : Wv) (S : Store) : Res Wv := match u with
  | .d (.int i) => gIxI w i S
  | u => gIxD w u S
abbrev rIxAll (K : PySem.W.Frag) : R2 := fun x y H Q => rIx K x y H Q ∨ ∃ a v, x = .ref a ∧ DGet H a y (some v) ∧ Q v H
theorem ix_all {X : Cx} (hu : X.A.units + 1 < cLine) : IxR X (rIxAll X.K) := ix_seq.or (by
  intro value slice pins s σ H x y v u Q I rx ry h hs
  obtain ⟨a, z, rfl, g, q⟩ := h
  cases rx
  exact tail_any (dict_typeIs I g) PySem.F.slot_dict_getitem.lookup (d_getItem hu I g ry fun w' s3 I3 rw' => ⟨z, H, I3, rw', q⟩) hs)
theorem p2atI {α β : Type} {R : α → β → Prop} {xs : List α} {ys : List β} {i : Int} {x : α} (h : Paired R xs ys) (e : atI xs i = some x) : ∃ y, atI ys i = some y ∧ R x y := by
  unfold atI at e ⊢
  rw [← h.length]
  cases q : ixN xs.length i with
  | none => rw [q] at e; cases e
  | some j =>
    rw [q] at e
    exact p2get h e
theorem o2_ix {G : Gc} : Op2 G (rIxAll G.K) gIx := by
  intro W F ι S H σ x y w u Q rl hx hy p
  have dict : PostE G W F ι H σ (gIxD w u S) Q → rIxAll G.K x y H Q := fun p => by
    unfold gIxD at p
    split at p
    · rename_i z q
      obtain ⟨a, rfl, h⟩ := dictW_rep rl hx hy q
      rcases h with ⟨h, _⟩ | ⟨u', z', e, h, r⟩
      · cases h
      · cases e
        exact .inr ⟨a, z', rfl, h, ret_w p rl r⟩
    · exact p.elim
  unfold gIx at p
  split at p
  · rename_i i
    unfold gIxI at p
    split at p
    · rename_i k ws e1
      split at p
      · rename_i z e2
        obtain ⟨a, xs, rfl, q, r⟩ := seqW_or rl hx e1
        cases w_int.mp hy
        obtain ⟨v, e3, rv⟩ := p2atI r e2
        rcases q with q | q
        · exact .inl (.inl ⟨a, xs, i, v, rfl, rfl, q, e3, ret_w p rl (uncalm rv)⟩)
        · exact .inl (.inr (.inl ⟨a, xs, i, v, rfl, rfl, q, e3, ret_w p rl (uncalm rv)⟩))
      · exact p.elim
    · unfold gIxS at p
      split at p
      · split at p
        · rename_i hz
          split at p
          · rename_i c e2
            cases w_str.mp hx; cases w_int.mp hy
            exact .inl (.inr (.inr ⟨_, i, c, rfl, rfl, by rw [sizeLine_eq]; exact hz, e2, ret_str p rl⟩))
          · exact p.elim
        · exact p.elim
      · exact dict p
  · exact dict p
end DL

/-! slices, built-ins, displays, attributes, tests -/
namespace DL
open PySem PySem.Spec PyProof.Rows L2
section
variable {X : Cx} {xo : Option (Addr × Nat)}

/-! ## operators as expressions -/
theorem de_bin {op : Operator} {a b : Expr} {pos : Pos} {r : R2} {g : Wv → Wv → Store → Res Wv} {fa fb : Ev} (h : OpR X (binaryOp op) r) (o : Op2 (gc X xo) r g) (ha : DE X xo a fa) (hb : DE X xo b fb) : DE X xo (.BinOp a op b pos) (evBin g fa fb) :=
  de_op2 (fun p q => pe_op h p q) o ha hb
theorem de_neg {a : Expr} {pos : Pos} {fa : Ev} (ha : DE X xo a fa) : DE X xo (.UnaryOp .USub a pos) (evUn gNeg fa) := de_op1 (fun p => pe_un un_neg p) o1_neg ha
theorem de_add {a b : Expr} {pos : Pos} {fa fb : Ev} (ha : DE X xo a fa) (hb : DE X xo b fb) : DE X xo (.BinOp a .Add b pos) (evBin gAdd fa fb) := de_bin op_addAll o2_add ha hb
theorem de_sub {a b : Expr} {pos : Pos} {fa fb : Ev} (ha : DE X xo a fa) (hb : DE X xo b fb) : DE X xo (.BinOp a .Sub b pos) (evBin gSub fa fb) := de_bin op_sub o2_sub ha hb
theorem de_mul {a b : Expr} {pos : Pos} {fa fb : Ev} (ha : DE X xo a fa) (hb : DE X xo b fb) : DE X xo (.BinOp a .Mult b pos) (evBin gMul fa fb) := de_bin op_mulAll o2_mul ha hb
theorem de_floor {a b : Expr} {pos : Pos} {fa fb : Ev} (ha : DE X xo a fa) (hb : DE X xo b fb) : DE X xo (.BinOp a .FloorDiv b pos) (evBin gFloor fa fb) := de_bin op_fdivW o2_floor ha hb
theorem de_mod {a b : Expr} {pos : Pos} {fa fb : Ev} (ha : DE X xo a fa) (hb : DE X xo b fb) : DE X xo (.BinOp a .Mod b pos) (evBin gMod fa fb) := de_bin op_mod o2_mod ha hb
theorem de_pow {a b : Expr} {pos : Pos} {fa fb : Ev} (ha : DE X xo a fa) (hb : DE X xo b fb) : DE X xo (.BinOp a .Pow b pos) (evBin gPow fa fb) := de_bin op_pow o2_pow ha hb
/-- a comparison: its operator's rule, its meaning -/
structure CmpG (X : Cx) (xo : Option (Addr × Nat)) (op : CmpOp) (g : Wv → Wv → Store → Res Wv) : Prop where
  ex : ∃ r : R2, OpR X (compareOp op) r ∧ Op2 (gc X xo) r g
theorem cm_lt : CmpG X xo .Lt gLt := ⟨_, op_lt, o2_lt⟩
theorem cm_le : CmpG X xo .LtE gLe := ⟨_, op_leAll, o2_le⟩
theorem cm_gt : CmpG X xo .Gt gGt := ⟨_, op_gt, o2_gt⟩
theorem cm_ge : CmpG X xo .GtE gGe := ⟨_, op_ge, o2_ge⟩
theorem cm_eq (hu : X.A.units + 64 < cLine) : CmpG X xo .Eq (gEq false) := ⟨_, op_eqD' hu, o2_eq⟩
theorem cm_ne (hu : X.A.units + 64 < cLine) : CmpG X xo .NotEq (gEq true) := ⟨_, op_neD' hu, o2_ne⟩
theorem cm_in (hu : X.A.units + 64 < cLine) : CmpG X xo .In (gIn false) := ⟨_, op_inAll (by omega), o2_in⟩
theorem cm_notin (hu : X.A.units + 64 < cLine) : CmpG X xo .NotIn (gIn true) := ⟨_, op_notInAll (by omega), o2_in⟩
theorem cm_is : CmpG X xo .Is (gIs false) := ⟨_, op_isN, o2_is⟩
theorem cm_isnt : CmpG X xo .IsNot (gIs true) := ⟨_, op_notN, o2_isnt⟩
theorem de_cmp {op : CmpOp} {a b : Expr} {pos : Pos} {g : Wv → Wv → Store → Res Wv} {fa fb : Ev} (c : CmpG X xo op g) (ha : DE X xo a fa) (hb : DE X xo b fb) (hm : behindInMarks op b = false) : DE X xo (.Compare a [op] [b] pos) (evBin g fa fb) := by
  obtain ⟨r, h, o⟩ := c.ex
  exact de_op2 (fun p q => pe_cmpR h p q hm) o ha hb
def evT (f : Ev) : Env → Store → Res Bool := fun ρ S => (f ρ S).bind fun w S1 => match w with
  | .d (.bl b) => .ok b S1
  | _ => .no
theorem test_of {G : Gc} {W : WX} {F : Hp} {ι : List Addr} {S : Store} {H : Hp} {σ : St} {w : Wv} {v : V} {Q : Bool → Hp → Prop} (r : Real G F ι S H) (h : RepW G F ι w v)
    (p : Post G W F ι H σ (match w with
      | .d (.bl b) => Res.ok b S
      | _ => .no) fun _ _ H' b _ => Q b H') : ∃ k, v = .bl k ∧ Q k H := by
  split at p
  · exact ⟨_, w_bl.mp h, p.now (.refl _ _ _) r⟩
  · exact p.elim
theorem Res.bind_assoc {α β γ : Type} (r : Res α) (f : α → Store → Res β) (g : β → Store → Res γ) : (r.bind f).bind g = r.bind fun a S => (f a S).bind g := by
  cases r <;> rfl
theorem dt_cmp {op : CmpOp} {a b : Expr} {pos : Pos} {g : Wv → Wv → Store → Res Wv} {fa fb : Ev} (c : CmpG X xo op g) (ha : DE X xo a fa) (hb : DE X xo b fb) (hm : behindInMarks op b = false) : DT X xo (.Compare a [op] [b] pos) (evT (evBin g fa fb)) := by
  obtain ⟨r, h, o⟩ := c.ex
  refine ⟨fun W tk => pt_imp (pt_cmpR h (ha.run W tk) (hb.run W tk) hm) fun σ H Q ⟨F, ι, S, ρ, rl, en, p⟩ => ?_⟩
  unfold evT evBin at p
  rw [Res.bind_assoc] at p
  refine TEo.step rl en p fun F1 ι1 S1 H1 w v x1 r1 en1 hv p1 => ?_
  rw [Res.bind_assoc] at p1
  refine TEo.step r1 en1 p1 fun F2 ι2 S2 H2 u y x2 r2 en2 hy p2 => ?_
  exact o W F2 ι2 S2 H2 σ v y w u _ r2 (hv.ext x2) hy (p2.bind.mono fun F3 ι3 H3 z S3 x3 r3 p3 v3 h3 => test_of r3 h3 p3)
theorem dt_val {e : Expr} {f : Ev} (h : DE X xo e f) (he : ∀ whole, isTrue e X.env whole = (do let v ← whole; standAt e.pos; holding [v] (truthy v)) := by intro _; rfl) : DT X xo e (evT f) :=
  ⟨fun W tk => pt_imp (pt_val (h.run W tk) he) fun σ H Q ⟨F, ι, S, ρ, rl, en, p⟩ => TEo.step rl en p fun F1 ι1 S1 H1 w v x1 r1 en1 hv p1 => test_of r1 hv p1⟩
/-- and, or, not: tests -/
def evAnd (f g : Env → Store → Res Bool) : Env → Store → Res Bool := fun ρ S => (f ρ S).bind fun b S1 => if b = true then g ρ S1 else .ok false S1
def evOr (f g : Env → Store → Res Bool) : Env → Store → Res Bool := fun ρ S => (f ρ S).bind fun b S1 => if b = true then .ok true S1 else g ρ S1
def evNot (f : Env → Store → Res Bool) : Env → Store → Res Bool := fun ρ S => (f ρ S).bind fun b S1 => .ok (!b) S1
variable {a b : Expr} {rest : List Expr} {pos : Pos} {fa fb : Env → Store → Res Bool}
theorem dw_t (h : DW X xo a fa) : DT X xo a fa := ⟨fun W tk => (h.run W tk).pt⟩
theorem dw_and1 (ha : DT X xo a fa) : DW X xo (.BoolOp .And [a] pos) fa := ⟨fun W tk => pw_and1 (ha.run W tk)⟩
theorem dw_or1 (ha : DT X xo a fa) : DW X xo (.BoolOp .Or [a] pos) fa := ⟨fun W tk => pw_or1 (ha.run W tk)⟩
theorem ite_post {α : Type} {G : Gc} {W : WX} {F : Hp} {ι : List Addr} {H : Hp} {σ : St} {b : Bool} {x y : Res α} {Q : Hp → List Addr → Hp → α → Store → Prop} (p : Post G W F ι H σ (if b = true then x else y) Q) : if b = true then Post G W F ι H σ x Q else Post G W F ι H σ y Q := by
  cases b with
  | true => exact p
  | false => exact p
theorem dw_and (ha : DT X xo a fa) (hb : DW X xo (.BoolOp .And (b :: rest) pos) fb) : DW X xo (.BoolOp .And (a :: b :: rest) pos) (evAnd fa fb) :=
  ⟨fun W tk => pw_imp (pw_and (ha.run W tk) (hb.run W tk)) fun σ H Q ⟨F, ι, S, ρ, rl, en, p⟩ => TTo.step rl en p fun F1 ι1 S1 H1 c x1 r1 en1 p1 => by
    cases c with
    | true => exact ⟨F1, ι1, S1, ρ, r1, en1, p1⟩
    | false => exact p1.now (.refl _ _ _) r1⟩
theorem dw_or (ha : DT X xo a fa) (hb : DW X xo (.BoolOp .Or (b :: rest) pos) fb) : DW X xo (.BoolOp .Or (a :: b :: rest) pos) (evOr fa fb) :=
  ⟨fun W tk => pw_imp (pw_or (ha.run W tk) (hb.run W tk)) fun σ H Q ⟨F, ι, S, ρ, rl, en, p⟩ => TTo.step rl en p fun F1 ι1 S1 H1 c x1 r1 en1 p1 => by
    cases c with
    | true => exact p1.now (.refl _ _ _) r1
    | false => exact ⟨F1, ι1, S1, ρ, r1, en1, p1⟩⟩
theorem dt_not (ha : DT X xo a fa) : DT X xo (.UnaryOp .Not a pos) (evNot fa) :=
  ⟨fun W tk => pt_imp (pt_not (ha.run W tk)) fun σ H Q ⟨F, ι, S, ρ, rl, en, p⟩ => TTo.step rl en p fun F1 ι1 S1 H1 c x1 r1 en1 p1 => p1.now (.refl _ _ _) r1⟩
/-- .. as values (truth values alone) -/
def evAndV (f g : Ev) : Ev := fun ρ S => (f ρ S).bind fun w S1 => match w with
  | .d (.bl true) => g ρ S1
  | .d (.bl false) => .ok (.d (.bl false)) S1
  | _ => .no
def evOrV (f g : Ev) : Ev := fun ρ S => (f ρ S).bind fun w S1 => match w with
  | .d (.bl true) => .ok (.d (.bl true)) S1
  | .d (.bl false) => g ρ S1
  | _ => .no
def evNotV (f : Ev) : Ev := fun ρ S => (f ρ S).bind fun w S1 => match w with
  | .d (.bl b) => .ok (.d (.bl (!b))) S1
  | _ => .no
variable {ga gb : Ev}
theorem de_one {op} (h : DE X xo a ga) : DE X xo (.BoolOp op [a] pos) ga := ⟨fun W tk => pe_one (h.run W tk)⟩
theorem de_and (ha : DE X xo a ga) (hb : DE X xo (.BoolOp .And (b :: rest) pos) gb) : DE X xo (.BoolOp .And (a :: b :: rest) pos) (evAndV ga gb) :=
  ⟨fun W tk => pe_imp (pe_and (ha.run W tk) (hb.run W tk)) fun σ H Q ⟨F, ι, S, ρ, rl, en, p⟩ => TEo.step rl en p fun F1 ι1 S1 H1 w v x1 r1 en1 hv p1 => by
    split at p1
    · exact ⟨true, w_bl.mp hv, iteT ⟨F1, ι1, S1, ρ, r1, en1, p1⟩⟩
    · exact ⟨false, w_bl.mp hv, iteF (ret_bl p1 r1)⟩
    · exact p1.elim⟩
theorem de_or (ha : DE X xo a ga) (hb : DE X xo (.BoolOp .Or (b :: rest) pos) gb) : DE X xo (.BoolOp .Or (a :: b :: rest) pos) (evOrV ga gb) :=
  ⟨fun W tk => pe_imp (pe_or (ha.run W tk) (hb.run W tk)) fun σ H Q ⟨F, ι, S, ρ, rl, en, p⟩ => TEo.step rl en p fun F1 ι1 S1 H1 w v x1 r1 en1 hv p1 => by
    split at p1
    · exact ⟨true, w_bl.mp hv, iteT (ret_bl p1 r1)⟩
    · exact ⟨false, w_bl.mp hv, iteF ⟨F1, ι1, S1, ρ, r1, en1, p1⟩⟩
    · exact p1.elim⟩
theorem de_not (ha : DE X xo a ga) : DE X xo (.UnaryOp .Not a pos) (evNotV ga) :=
  ⟨fun W tk => pe_imp (pe_not (ha.run W tk)) fun σ H Q ⟨F, ι, S, ρ, rl, en, p⟩ => TEo.step rl en p fun F1 ι1 S1 H1 w v x1 r1 en1 hv p1 => by
    split at p1
    · exact ⟨_, w_bl.mp hv, ret_bl p1 r1⟩
    · exact p1.elim⟩
/-- a if t else b -/
def evIf (t : Env → Store → Res Bool) (f g : Ev) : Ev := fun ρ S => (t ρ S).bind fun c S1 => if c = true then f ρ S1 else g ρ S1
theorem de_if {c : Expr} {ft : Env → Store → Res Bool} (hc : DT X xo c ft) (ha : DE X xo a ga) (hb : DE X xo b gb) : DE X xo (.IfExp c a b pos) (evIf ft ga gb) :=
  ⟨fun W tk => pe_imp (pe_ifExp (hc.run W tk) (ha.run W tk) (hb.run W tk)) fun σ H Q ⟨F, ι, S, ρ, rl, en, p⟩ => TTo.step rl en p fun F1 ι1 S1 H1 c x1 r1 en1 p1 => by
    cases c with
    | true => exact ⟨F1, ι1, S1, ρ, r1, en1, p1⟩
    | false => exact ⟨F1, ι1, S1, ρ, r1, en1, p1⟩⟩
/-- a op b op' c -/
def evChain (g g' : Wv → Wv → Store → Res Wv) (fa fb fc : Ev) : Ev := fun ρ S => (fa ρ S).bind fun x S1 => (fb ρ S1).bind fun y S2 => (g x y S2).bind fun z S3 => match z with
  | .d (.bl true) => (fc ρ S3).bind fun w S4 => g' y w S4
  | .d (.bl false) => .ok (.d (.bl false)) S3
  | _ => .no
theorem chain_step {op op' : CmpOp} {c : Expr} {gc' : Ev} {g g' : Wv → Wv → Store → Res Wv} {r r' : R2} {σ : St} {H F : Hp} {ι : List Addr} {S : Store} {ρ : Env} {Q : VK} {W : WX} (o : Op2 (gc X xo) r g) (o' : Op2 (gc X xo) r' g')
    (rl : Real (gc X xo) F ι S H) (en : REnv (gc X xo) F ι σ ρ) (p : PostE (gc X xo) W F ι H σ (evChain g g' ga gb gc' ρ S) Q) : tChain r r' (TEo (gc X xo) W ga) (TEo (gc X xo) W gb) (TEo (gc X xo) W gc') σ H Q := by
  refine TEo.step rl en p fun F1 ι1 S1 H1 w v x1 r1 en1 hv p1 => TEo.step r1 en1 p1 fun F2 ι2 S2 H2 u y x2 r2 en2 hy p2 => ?_
  refine o W F2 ι2 S2 H2 σ v y w u _ r2 (hv.ext x2) hy (p2.bind.mono fun F3 ι3 H3 z S3 x3 r3 p3 v3 h3 => ?_)
  split at p3
  · refine ⟨true, w_bl.mp h3, iteT ?_⟩
    exact TEo.step r3 (en2.ext x3) p3 fun F4 ι4 S4 H4 w4 v4 x4 r4 en4 hv4 p4 => o' W F4 ι4 S4 H4 σ y v4 u w4 Q r4 ((hy.ext x3).ext x4) hv4 p4
  · exact ⟨false, w_bl.mp h3, iteF (ret_bl p3 r3)⟩
  · exact p3.elim
theorem de_chain {op op' : CmpOp} {c : Expr} {gc' : Ev} {g g' : Wv → Wv → Store → Res Wv} (k : CmpG X xo op g) (k' : CmpG X xo op' g') (ha : DE X xo a ga) (hb : DE X xo b gb) (hc : DE X xo c gc')
    (hm : lastMarks [op, op'] [b, c] = false := by with_unfolding_all rfl) : DE X xo (.Compare a [op, op'] [b, c] pos) (evChain g g' ga gb gc') := by
  obtain ⟨r, h, o⟩ := k.ex
  obtain ⟨r', h', o'⟩ := k'.ex
  exact ⟨fun W tk => pe_imp (pe_chain h h' (ha.run W tk) (hb.run W tk) (hc.run W tk) hm) fun σ H Q ⟨F, ι, S, ρ, rl, en, p⟩ => chain_step (op := op) (op' := op') (c := c) o o' rl en p⟩
theorem dt_chain {op op' : CmpOp} {c : Expr} {gc' : Ev} {g g' : Wv → Wv → Store → Res Wv} (k : CmpG X xo op g) (k' : CmpG X xo op' g') (ha : DE X xo a ga) (hb : DE X xo b gb) (hc : DE X xo c gc')
    (hm : lastMarks [op, op'] [b, c] = false := by with_unfolding_all rfl) : DT X xo (.Compare a [op, op'] [b, c] pos) (evT (evChain g g' ga gb gc')) := by
  obtain ⟨r, h, o⟩ := k.ex
  obtain ⟨r', h', o'⟩ := k'.ex
  refine ⟨fun W tk => pt_imp (pt_chain h h' (ha.run W tk) (hb.run W tk) (hc.run W tk) hm) fun σ H Q ⟨F, ι, S, ρ, rl, en, p⟩ => ?_⟩
  exact chain_step (op := op) (op' := op') (c := c) o o' rl en (p.bind.mono fun F3 ι3 H3 z S3 x3 r3 p3 v3 h3 => test_of r3 h3 p3)

/-! ## displays -/
def gTup : List Wv → Store → Res Wv := fun ws S => if ws.length ≤ 1000 then match allD ws with
  | some ds => .ok (.d (.tup ds)) S
  | none => if ws.all Wv.calm = true then .ok (.ref S.length) (S ++ [.tup ws]) else .no
  else .no
def gLst : List Wv → Store → Res Wv := fun ws S => if ws.length ≤ 1000 then match allD ws with
  | some ds => .ok (.d (.lst ds)) S
  | none => .no
  else .no
/-- a list that is kept in the store -/
def gLstS : List Wv → Store → Res Wv := fun ws S => if ws.length ≤ 1000 ∧ ws.all Wv.calm = true then .ok (.ref S.length) (S ++ [.lst ws]) else .no
def evN (g : List Wv → Store → Res Wv) (fs : Env → Store → Res (List Wv)) : Ev := fun ρ S => (fs ρ S).bind g
theorem le_line {n : Nat} (h : n ≤ 1000) : n ≤ sizeLine := by rw [sizeLine_eq]; omega
variable {es : List Expr} {fs : Env → Store → Res (List Wv)}
theorem de_tup {k} (h : DA X xo es fs) : DE X xo (.Tuple es k pos) (evN gTup fs) :=
  ⟨fun W tk => pe_imp (pe_tup (h.run W tk)) fun σ H Q ⟨F, ι, S, ρ, rl, en, p⟩ => TAo.step rl en p fun F1 ι1 S1 H1 ws vs x1 r1 en1 hv p1 => by
    unfold gTup at p1
    split at p1
    · rename_i hz
      refine ⟨by rw [← hv.length]; exact le_line hz, ?_⟩
      split at p1
      · rename_i ds e
        rw [allD_eq e] at hv
        exact fun q hq => ret_tup p1 r1 (repWs_d hv) q hq
      · rename_i eN
        split at p1
        · rename_i hc
          exact fun q hq => ret_new p1 r1 q hq ⟨vs, rfl, p2imp (fun _ _ z => z.mono (fun _ _ e => e) ⟨[q], rfl⟩) (calms_of hv hc)⟩ (fun ws' e => by cases e; exact allD_no eN)
        · exact p1.elim
    · exact p1.elim⟩
theorem de_lst (h : DA X xo es fs) : DE X xo (.List es pos) (evN gLst fs) :=
  ⟨fun W tk => pe_imp (pe_lst (h.run W tk)) fun σ H Q ⟨F, ι, S, ρ, rl, en, p⟩ => TAo.step rl en p fun F1 ι1 S1 H1 ws vs x1 r1 en1 hv p1 => by
    unfold gLst at p1
    split at p1
    · rename_i hz
      refine ⟨by rw [← hv.length]; exact le_line hz, ?_⟩
      split at p1
      · rename_i ds e
        rw [allD_eq e] at hv
        exact fun q hq => ret_lst p1 r1 (repWs_d hv) q hq
      · exact p1.elim
    · exact p1.elim⟩
theorem de_lstS (h : DA X xo es fs) : DE X xo (.List es pos) (evN gLstS fs) :=
  ⟨fun W tk => pe_imp (pe_lst (h.run W tk)) fun σ H Q ⟨F, ι, S, ρ, rl, en, p⟩ => TAo.step rl en p fun F1 ι1 S1 H1 ws vs x1 r1 en1 hv p1 => by
    unfold gLstS at p1
    split at p1
    · rename_i hz
      exact ⟨by rw [← hv.length]; exact le_line hz.1, fun q hq => ret_new p1 r1 q hq ⟨vs, rfl, p2imp (fun _ _ z => z.mono (fun _ _ e => e) ⟨[q], rfl⟩) (calms_of hv hz.2)⟩⟩
    · exact p1.elim⟩
def evDictK : Ev := fun _ S => .ok (.ref S.length) (S ++ [.dK []])
def evDictT : Ev := fun _ S => .ok (.ref S.length) (S ++ [.dT []])
theorem de_dictK : DE X xo (.Dict [] [] pos) evDictK :=
  ⟨fun W tk => pe_imp pe_dnewK fun σ H Q ⟨F, ι, S, ρ, rl, en, p⟩ => fun q hq => ret_new p rl q hq ⟨[], rfl, .nil⟩⟩
theorem de_dictT : DE X xo (.Dict [] [] pos) evDictT :=
  ⟨fun W tk => pe_imp pe_dnewT fun σ H Q ⟨F, ι, S, ρ, rl, en, p⟩ => fun q hq => ret_new p rl q hq ⟨[], rfl, .nil⟩⟩

/-! ## subscripts, slices -/
theorem de_ix (hu : X.A.units + 64 < cLine) (ha : DE X xo a ga) (hb : DE X xo b gb) (hs : PlainIx b := by intro _ _; rfl) : DE X xo (.Subscript a b pos) (evBin gIx ga gb) :=
  de_op2 (fun p q => pe_ix (ix_all (by omega)) p q hs) o2_ix ha hb
structure DO (X : Cx) (xo : Option (Addr × Nat)) (e : Option Expr) (f : Env → Store → Res (Option Int)) : Prop where
  run : ∀ W, L2N.Takes X W → ∃ t, PO X e t ∧ ∀ σ H (Q : Option Int → Hp → Prop), (∃ F ι S ρ, Real (gc X xo) F ι S H ∧ REnv (gc X xo) F ι σ ρ ∧ Post (gc X xo) W F ι H σ (f ρ S) fun _ _ H' b _ => Q b H') → t σ H Q
def evNoPart : Env → Store → Res (Option Int) := fun _ S => .ok none S
def evPart (f : Ev) : Env → Store → Res (Option Int) := fun ρ S => (f ρ S).bind fun w S1 => match w with
  | .d (.int i) => .ok (some i) S1
  | _ => .no
theorem do_none : DO X xo none evNoPart := ⟨fun W tk => ⟨_, po_none, fun σ H Q ⟨F, ι, S, ρ, rl, en, p⟩ => p.now (.refl _ _ _) rl⟩⟩
theorem do_some (ha : DE X xo a ga) : DO X xo (some a) (evPart ga) := ⟨fun W tk => ⟨_, po_some (ha.run W tk), fun σ H Q ⟨F, ι, S, ρ, rl, en, p⟩ => TEo.step rl en p fun F1 ι1 S1 H1 w v x1 r1 en1 hv p1 => by
  split at p1
  · exact ⟨_, w_int.mp hv, p1.now (.refl _ _ _) r1⟩
  · exact p1.elim⟩⟩
def cut {α : Type} (xs : List α) (lo hi : Option Int) : List α := (xs.drop (HT.sIx xs.length 0 lo)).take (HT.sIx xs.length xs.length hi - HT.sIx xs.length 0 lo)
def gSl (w : Wv) (lo hi : Option Int) (S : Store) : Res Wv := match w with
  | .d (.str z) => if z.length ≤ 16777216 then .ok (.d (.str (cutS z lo hi))) S else .no
  | w => match seqW S w with
    | some (true, ws) => match allD ws with
      | some ds => .ok (.d (.lst (cut ds lo hi))) S
      | none => .no
    | some (false, ws) => match allD ws with
      | some ds => if HT.sIx ws.length 0 lo = 0 ∧ HT.sIx ws.length ws.length hi = ws.length then .no else .ok (.d (.tup (cut ds lo hi))) S
      | none => .no
    | none => .no
def evSl (f : Ev) (fl fh : Env → Store → Res (Option Int)) : Ev := fun ρ S => (f ρ S).bind fun w S1 => (fl ρ S1).bind fun lo S2 => (fh ρ S2).bind fun hi S3 => gSl w lo hi S3
abbrev rSlAll (K : PySem.W.Frag) : V → Option Int → Option Int → Hp → VK → Prop := fun x lo hi H Q => rSlS x lo hi H Q ∨ (rSlL K x lo hi H Q ∨ rSlT K x lo hi H Q)
theorem p2cut {α β : Type} {R : α → β → Prop} {xs : List α} {ys : List β} (h : Paired R xs ys) (lo hi : Option Int) : Paired R (cut xs lo hi) (cut ys lo hi) := by
  unfold cut
  rw [h.length]
  exact p2take _ (p2drop _ h)
theorem gSl_ok {G : Gc} {W : WX} {F : Hp} {ι : List Addr} {S : Store} {H : Hp} {σ : St} {w : Wv} {v : V} {lo hi : Option Int} {Q : VK} (r : Real G F ι S H) (h : RepW G F ι w v) (p : PostE G W F ι H σ (gSl w lo hi S) Q) : rSlAll G.K v lo hi H Q := by
  unfold gSl at p
  split at p
  · rename_i z
    split at p
    · rename_i hz
      exact .inl ⟨z, w_str.mp h, by rw [sizeLine_eq]; exact hz, ret_str p r⟩
    · exact p.elim
  · split at p
    · rename_i ws e1
      split at p
      · rename_i ds e2
        obtain ⟨q, xs, rfl, q1, q2⟩ := seqW_rep r h e1
        rw [allD_eq e2] at q2
        exact .inr (.inl ⟨q, xs, rfl, q1, fun p' hp => ret_lst p r (p2cut (repWs_d q2) lo hi) p' hp⟩)
      · exact p.elim
    · rename_i ws e1
      split at p
      · rename_i ds e2
        obtain ⟨q, xs, rfl, q1, q2⟩ := seqW_rep r h e1
        have hl : ws.length = xs.length := q2.length
        rw [hl] at p
        split at p
        · exact p.elim
        · rename_i hn
          rw [allD_eq e2] at q2
          exact .inr (.inr ⟨q, xs, rfl, q1, hn, fun p' hp => ret_tup p r (p2cut (repWs_d q2) lo hi) p' hp⟩)
      · exact p.elim
    · exact p.elim
theorem de_sl {lo hi : Option Expr} {p2 : Pos} {fl fh : Env → Store → Res (Option Int)} (ha : DE X xo a ga) (hl : DO X xo lo fl) (hh : DO X xo hi fh) : DE X xo (.Subscript a (.Slice lo hi none p2) pos) (evSl ga fl fh) :=
  ⟨fun W tk => by
    obtain ⟨tl, h1, h2⟩ := hl.run W tk
    obtain ⟨th, h3, h4⟩ := hh.run W tk
    refine pe_imp (pe_slice (sl_str.or (sl_list.or sl_tup)) (ha.run W tk) h1 h3) fun σ H Q ⟨F, ι, S, ρ, rl, en, p⟩ => ?_
    refine TEo.step rl en p fun F1 ι1 S1 H1 w v x1 r1 en1 hv p1 => h2 σ H1 _ ⟨F1, ι1, S1, ρ, r1, en1, p1.bind.mono fun F2 ι2 H2 lo S2 x2 r2 p2 => h4 σ H2 _ ⟨F2, ι2, S2, ρ, r2, en1.ext x2, p2.bind.mono fun F3 ι3 H3 hi S3 x3 r3 p3 => ?_⟩⟩
    exact gSl_ok r3 ((hv.ext x2).ext x3) p3⟩

/-! ## attributes -/
def gFld (C i : Nat) (w : Wv) (S : Store) : Res Wv := match w with
  | .ref n => match S[n]? with
    | some (.ins C' ws) => if C' = C then match ws[i]? with
      | some x => .ok x S
      | none => .no
      else .no
    | _ => .no
  | _ => .no
/-- what is known of a class and a field -/
structure FldOk (K : PySem.W.Frag) (C i : Nat) (f : Str) : Prop where
  ex : ∃ Ca fs, (⟨K, none⟩ : Gc).cls C = some (Ca, fs) ∧ fs.Nodup ∧ fs[i]? = some f ∧ Cls K Ca ∧ NoAttr K Ca f
theorem lookup_at {β : Type} : ∀ {l : List (Str × β)} {i : Nat} {f : Str} {v : β}, (l.map (·.1)).Nodup → (l.map (·.1))[i]? = some f → (l.map (·.2))[i]? = some v → l.lookup f = some v
  | [], i, f, v, _, h, _ => by simp at h
  | p :: l, 0, f, v, _, h1, h2 => by
    obtain ⟨k, x⟩ := p
    simp at h1 h2
    subst h1 h2
    simp [List.lookup_cons]
  | p :: l, i + 1, f, v, nd, h1, h2 => by
    obtain ⟨k, x⟩ := p
    simp only [List.map_cons, List.nodup_cons] at nd
    have h1' : (l.map (·.1))[i]? = some f := by simpa using h1
    have h2' : (l.map (·.2))[i]? = some v := by simpa using h2
    have ne : f ≠ k := fun e => nd.1 (e ▸ List.mem_of_getElem? h1')
    rw [List.lookup_cons, beq_eq_false_iff_ne.mpr ne]
    exact lookup_at nd.2 h1' h2'
theorem take_nodup {α : Type} {l : List α} (h : l.Nodup) (n : Nat) : (l.take n).Nodup := h.sublist (List.take_sublist n l)
theorem gFld_ok {G : Gc} {W : WX} {F : Hp} {ι : List Addr} {S : Store} {H : Hp} {σ : St} {w : Wv} {v : V} {C i : Nat} {f : Str} {Q : VK} (k : FldOk G.K C i f) (r : Real G F ι S H) (h : RepW G F ι w v) (p : PostE G W F ι H σ (gFld C i w S) Q) :
    ∃ a C dx fs z, v = .ref a ∧ H a = some (.ins C dx fs) ∧ Cls G.K C ∧ NoAttr G.K C f ∧ fs.lookup f = some z ∧ Q z H := by
  obtain ⟨Ca, fs, e1, nd, e2, c1, c2⟩ := k.ex
  unfold gFld at p
  split at p
  · rename_i n
    split at p
    · rename_i C' ws e3
      split at p
      · rename_i hC
        subst hC
        split at p
        · rename_i z e4
          obtain ⟨a, e5, rfl⟩ := h
          obtain ⟨_, _, e6, Ca', fs', dx, l, rfl, e7, e8, e9, e10⟩ := r.at_ n a _ e5 e3 (fun z => nomatch z)
          have e7' : (⟨G.K, none⟩ : Gc).cls C' = some (Ca', fs') := e7
          rw [e1] at e7'
          cases e7'
          obtain ⟨y, e11, ry⟩ := p2get e10 e4
          have hi : i < ws.length := (List.getElem?_eq_some_iff.mp e4).1
          exact ⟨a, Ca, dx, l, y, rfl, e6, c1, c2, lookup_at (by rw [e8]; exact take_nodup nd _) (by rw [e8, List.getElem?_take_of_lt hi]; exact e2) e11, ret_w p r (uncalm ry)⟩
        · exact p.elim
      · exact p.elim
    · exact p.elim
  · exact p.elim
theorem de_fld {C i : Nat} {f : Str} (k : FldOk X.K C i f) (ha : DE X xo a ga) (hb : attributeBase a f X.env (eval a X.env) = eval a X.env) : DE X xo (.Attribute a f pos) (evUn (gFld C i) ga) :=
  ⟨fun W tk => pe_imp (pe_fld (ha.run W tk) hb) fun σ H Q ⟨F, ι, S, ρ, rl, en, p⟩ => TEo.step rl en p fun F1 ι1 S1 H1 w v x1 r1 en1 hv p1 => gFld_ok k r1 hv p1⟩
end
end DL

/-! built-ins by name, methods of texts and lists, calls of defs and methods, new instances -/
namespace DL
open PySem PySem.Spec PyProof.Rows L2
section
variable {X : Cx} {xo : Option (Addr × Nat)}

/-! ## built-ins by name -/
structure CallG (X : Cx) (xo : Option (Addr × Nat)) (f : Value) (g : List Wv → Store → Res Wv) : Prop where
  ex : ∃ r, CallR X f r ∧ OpN (gc X xo) r g
theorem CallR_imp {f : Value} {r r' : List V → Hp → VK → Prop} (h : CallR X f r) (i : ∀ xs H Q, r' xs H Q → r xs H Q) : CallR X f r' := fun pins s σ H xs us Q I r q => h pins s σ H xs us Q I r (i xs H Q q)
theorem de_callB {x : Str} {id : String} {p pos : Pos} {e : Expr} {es : List Expr} {g : List Wv → Store → Res Wv} {fs : Env → Store → Res (List Wv)} (k : CallG X xo (.builtin id) g) (hg : Gl X x) (hm : X.mg x = none) (hv : bootBuiltins x = some (.builtin id)) (ha : DA X xo (e :: es) fs)
    (hn : x ≠ "__name__" := by decide) (hdb : (x == ("__debug__" : Str)) = false := by decide)
    (he : starEach (e :: es) X.env = (false, eval e X.env) :: starEach es X.env := by rfl) (hpl : (backTo pos (starEach es X.env)).any (·.1) = false := by rfl) : DE X xo (.Call (.Name x p) (e :: es) [] pos) (evN g fs) := by
  obtain ⟨r, h, o⟩ := k.ex
  exact ⟨fun W tk => pe_imp (pe_callB h hg hm hv (ha.run W tk) hn hdb he hpl) fun σ H Q ⟨F, ι, S, ρ, rl, en, q⟩ => TAo.step rl en q fun F1 ι1 S1 H1 ws vs x1 r1 en1 hv p1 => o W F1 ι1 S1 H1 σ vs ws Q r1 hv p1⟩
theorem de_callTy {x : Str} {T : String} {p pos : Pos} {e : Expr} {es : List Expr} {g : List Wv → Store → Res Wv} {fs : Env → Store → Res (List Wv)} (k : CallG X xo (.type T) g) (hg : Gl X x) (hm : X.mg x = none) (hv : bootBuiltins x = some (.type T)) (ha : DA X xo (e :: es) fs)
    (hn : x ≠ "__name__" := by decide) (hdb : (x == ("__debug__" : Str)) = false := by decide)
    (he : starEach (e :: es) X.env = (false, eval e X.env) :: starEach es X.env := by rfl) (hpl : (backTo pos (starEach es X.env)).any (·.1) = false := by rfl) : DE X xo (.Call (.Name x p) (e :: es) [] pos) (evN g fs) := by
  obtain ⟨r, h, o⟩ := k.ex
  exact ⟨fun W tk => pe_imp (pe_callTy h hg hm hv (ha.run W tk) hn hdb he hpl) fun σ H Q ⟨F, ι, S, ρ, rl, en, q⟩ => TAo.step rl en q fun F1 ι1 S1 H1 ws vs x1 r1 en1 hv p1 => o W F1 ι1 S1 H1 σ vs ws Q r1 hv p1⟩
theorem ws1 {G : Gc} {F : Hp} {ι : List Addr} {w : Wv} {vs : List V} (h : RepWs G F ι [w] vs) : ∃ v, vs = [v] ∧ RepW G F ι w v := by
  cases h with
  | cons r t => cases t; exact ⟨_, rfl, r⟩
theorem ws2 {G : Gc} {F : Hp} {ι : List Addr} {w u : Wv} {vs : List V} (h : RepWs G F ι [w, u] vs) : ∃ v y, vs = [v, y] ∧ RepW G F ι w v ∧ RepW G F ι u y := by
  cases h with
  | cons r t =>
    obtain ⟨y, rfl, q⟩ := ws1 t
    exact ⟨_, _, rfl, r, q⟩
def gLen : List Wv → Store → Res Wv
  | [w], S => match w with
    | .d (.str z) => if z.length ≤ 16777216 then .ok (.d (.int z.length)) S else .no
    | w => match seqW S w with
      | some (_, ws) => .ok (.d (.int ws.length)) S
      | none => .no
  | _, _ => .no
theorem cg_len : CallG X xo (.builtin "len") gLen := ⟨_, call_len_str.or call_len_seq, by
  intro W F ι S H σ xs ws Q r h p
  unfold gLen at p
  split at p
  · obtain ⟨v, rfl, hv⟩ := ws1 h
    split at p
    · split at p
      · rename_i z hz
        exact .inl ⟨z, by rw [w_str.mp hv], by rw [sizeLine_eq]; exact hz, ret_int p r⟩
      · exact p.elim
    · split at p
      · rename_i k ws e
        obtain ⟨a, xs, rfl, q, q2⟩ := seqW_or r hv e
        refine .inr ⟨a, xs, rfl, q, ?_⟩
        rw [← q2.length]
        exact ret_int p r
      · exact p.elim
  · exact p.elim⟩
def gAbs : List Wv → Store → Res Wv
  | [.d (.int i)], S => .ok (.d (.int (if i < 0 then -i else i))) S
  | _, _ => .no
theorem cg_abs : CallG X xo (.builtin "abs") gAbs := ⟨_, call_abs, by
  intro W F ι S H σ xs ws Q r h p
  unfold gAbs at p
  split at p
  · obtain ⟨v, rfl, hv⟩ := ws1 h
    exact ⟨_, by rw [w_int.mp hv], ret_int p r⟩
  · exact p.elim⟩
def gMax2 : List Wv → Store → Res Wv
  | [.d (.int i), .d (.int j)], S => .ok (.d (.int (if j > i then j else i))) S
  | _, _ => .no
theorem cg_max (hc : X.calm = true) : CallG X xo (.builtin "max") gMax2 := ⟨_, call_max2 hc, by
  intro W F ι S H σ xs ws Q r h p
  unfold gMax2 at p
  split at p
  · obtain ⟨v, y, rfl, hv, hy⟩ := ws2 h
    exact ⟨_, _, by rw [w_int.mp hv, w_int.mp hy], ret_int p r⟩
  · exact p.elim⟩
def gMin2 : List Wv → Store → Res Wv
  | [.d (.int i), .d (.int j)], S => .ok (.d (.int (if j < i then j else i))) S
  | _, _ => .no
theorem cg_min (hc : X.calm = true) : CallG X xo (.builtin "min") gMin2 := ⟨_, call_min2 hc, by
  intro W F ι S H σ xs ws Q r h p
  unfold gMin2 at p
  split at p
  · obtain ⟨v, y, rfl, hv, hy⟩ := ws2 h
    exact ⟨_, _, by rw [w_int.mp hv, w_int.mp hy], ret_int p r⟩
  · exact p.elim⟩
def gInt : List Wv → Store → Res Wv
  | [.d (.int i)], S => .ok (.d (.int i)) S
  | [.d (.bl b)], S => .ok (.d (.int (if b then 1 else 0))) S
  | [.d (.str x)], S => match PySem.intText? x with
    | some n => if x.length ≤ 640 then .ok (.d (.int n)) S else .no
    | none => .no
  | _, _ => .no
theorem cg_int : CallG X xo (.type "int") gInt := ⟨_, call_int1.or call_int_str, by
  intro W F ι S H σ xs ws Q r h p
  unfold gInt at p
  split at p
  · obtain ⟨v, rfl, hv⟩ := ws1 h
    exact .inl (.inl ⟨_, by rw [w_int.mp hv], ret_int p r⟩)
  · obtain ⟨v, rfl, hv⟩ := ws1 h
    exact .inl (.inr ⟨_, by rw [w_bl.mp hv], ret_int p r⟩)
  · obtain ⟨v, rfl, hv⟩ := ws1 h
    split at p
    · rename_i n e
      split at p
      · rename_i hz
        exact .inr ⟨_, n, by rw [w_str.mp hv], e, hz, ret_int p r⟩
      · exact p.elim
    · exact p.elim
  · exact p.elim⟩
def gStr : List Wv → Store → Res Wv
  | [.d (.int i)], S => if Sm i then .ok (.d (.str (toString i))) S else .no
  | [.d (.str x)], S => .ok (.d (.str x)) S
  | _, _ => .no
theorem cg_str : CallG X xo (.type "str") gStr := ⟨_, call_str_int.or SkE.call_str_str, by
  intro W F ι S H σ xs ws Q r h p
  unfold gStr at p
  split at p
  · obtain ⟨v, rfl, hv⟩ := ws1 h
    split at p
    · rename_i hz
      exact .inl ⟨_, by rw [w_int.mp hv], Nat.lt_of_lt_of_le (PySem.Flt.log2_lt_of (by decide) hz) (by decide), ret_str p r⟩
    · exact p.elim
  · obtain ⟨v, rfl, hv⟩ := ws1 h
    exact .inr ⟨_, by rw [w_str.mp hv], ret_str p r⟩
  · exact p.elim⟩
/-- list(x): a copy -/
def gList : List Wv → Store → Res Wv
  | [w], S => match seqW S w with
    | some (_, ws) => match allD ws with
      | some ds => .ok (.d (.lst ds)) S
      | none => .no
    | none => .no
  | _, _ => .no
theorem cg_list : CallG X xo (.type "list") gList := ⟨_, call_list_of, by
  intro W F ι S H σ xs ws Q r h p
  unfold gList at p
  split at p
  · obtain ⟨v, rfl, hv⟩ := ws1 h
    split at p
    · rename_i k ws e
      split at p
      · rename_i ds e2
        obtain ⟨a, xs, rfl, q, q2⟩ := seqW_or r hv e
        rw [allD_eq e2] at q2
        exact ⟨a, xs, rfl, q, fun l hl => ret_lst p r (repWs_d q2) l hl⟩
      · exact p.elim
    · exact p.elim
  · exact p.elim⟩
/-- .. that is kept in the store -/
def gListS : List Wv → Store → Res Wv
  | [w], S => match seqW S w with
    | some (_, ws) => .ok (.ref S.length) (S ++ [.lst ws])
    | none => .no
  | _, _ => .no
theorem cg_listS : CallG X xo (.type "list") gListS := ⟨_, call_list_of, by
  intro W F ι S H σ xs ws Q r h p
  unfold gListS at p
  split at p
  · obtain ⟨v, rfl, hv⟩ := ws1 h
    split at p
    · rename_i k ws e
      obtain ⟨a, xs, rfl, q, q2⟩ := seqW_or r hv e
      exact ⟨a, xs, rfl, q, fun l hl => ret_new p r l hl ⟨xs, rfl, p2imp (fun _ _ z => z.mono (fun _ _ e => e) ⟨[l], rfl⟩) q2⟩⟩
    · exact p.elim
  · exact p.elim⟩
def gTuple : List Wv → Store → Res Wv
  | [w], S => match seqW S w with
    | some (true, ws) => match allD ws with
      | some ds => .ok (.d (.tup ds)) S
      | none => .no
    | some (false, _) => .ok w S
    | none => .no
  | _, _ => .no
theorem cg_tuple : CallG X xo (.type "tuple") gTuple := ⟨_, call_tuple_of, by
  intro W F ι S H σ xs ws Q r h p
  unfold gTuple at p
  split at p
  · obtain ⟨v, rfl, hv⟩ := ws1 h
    split at p
    · rename_i ws e
      split at p
      · rename_i ds e2
        obtain ⟨a, xs, rfl, q, q2⟩ := seqW_rep r hv e
        rw [allD_eq e2] at q2
        exact ⟨a, xs, rfl, .inl ⟨q, fun l hl => ret_tup p r (repWs_d q2) l hl⟩⟩
      · exact p.elim
    · rename_i ws e
      obtain ⟨a, xs, rfl, q, q2⟩ := seqW_rep r hv e
      exact ⟨a, xs, rfl, .inr ⟨q, ret_w p r hv⟩⟩
    · exact p.elim
  · exact p.elim⟩
def allB : List D → Option (List Bool)
  | [] => some []
  | .bl b :: r => (allB r).map (b :: ·)
  | _ :: _ => none
theorem allB_rep {F : Hp} : ∀ {ds : List D} {xs : List V} {bs : List Bool}, Paired (Rep F) ds xs → allB ds = some bs → xs = bs.map V.bl
  | [], _, _, .nil, e => by cases e; rfl
  | d :: ds, _, bs, .cons r t, e => by
    cases d with
    | bl b =>
      have e' : (allB ds).map (b :: ·) = some bs := e
      cases q : allB ds with
      | none => rw [q] at e'; cases e'
      | some l =>
        rw [q] at e'; cases e'
        rw [rep_bl.mp r, allB_rep t q]; rfl
    | _ => cases e
def gAll : List Wv → Store → Res Wv
  | [.d (.lst ds)], S => match allB ds with
    | some bs => .ok (.d (.bl (bs.all id))) S
    | none => .no
  | _, _ => .no
theorem cg_all (hc : X.calm = true) : CallG X xo (.builtin "all") gAll := ⟨_, cr_all hc, by
  intro W F ι S H σ xs ws Q r h p
  unfold gAll at p
  split at p
  · obtain ⟨v, rfl, hv⟩ := ws1 h
    split at p
    · rename_i bs e
      obtain ⟨a, ys, rfl, q, q2⟩ := w_lst.mp hv
      have ey := allB_rep q2 e
      subst ey
      exact ⟨a, bs, rfl, SqL.of (r.frz _ _ q), ret_bl p r⟩
    · exact p.elim
  · exact p.elim⟩
def allI : List D → Option (List Int)
  | [] => some []
  | .int b :: r => (allI r).map (b :: ·)
  | _ :: _ => none
theorem allI_rep {F : Hp} : ∀ {ds : List D} {xs : List V} {bs : List Int}, Paired (Rep F) ds xs → allI ds = some bs → xs = bs.map V.int
  | [], _, _, .nil, e => by cases e; rfl
  | d :: ds, _, bs, .cons r t, e => by
    cases d with
    | int b =>
      have e' : (allI ds).map (b :: ·) = some bs := e
      cases q : allI ds with
      | none => rw [q] at e'; cases e'
      | some l =>
        rw [q] at e'; cases e'
        rw [rep_int.mp r, allI_rep t q]; rfl
    | _ => cases e
def gSum : List Wv → Store → Res Wv
  | [.d (.lst ds)], S => match allI ds with
    | some bs => .ok (.d (.int bs.sum)) S
    | none => .no
  | _, _ => .no
theorem cg_sum (hc : X.calm = true) : CallG X xo (.builtin "sum") gSum := ⟨_, cr_sum hc, by
  intro W F ι S H σ xs ws Q r h p
  unfold gSum at p
  split at p
  · obtain ⟨v, rfl, hv⟩ := ws1 h
    split at p
    · rename_i bs e
      obtain ⟨a, ys, rfl, q, q2⟩ := w_lst.mp hv
      have ey := allI_rep q2 e
      subst ey
      exact ⟨a, bs, rfl, SqL.of (r.frz _ _ q), ret_int p r⟩
    · exact p.elim
  · exact p.elim⟩

/-! ## isinstance of plain kinds -/
inductive Ty where
  | int | bool | str | tuple | list
def Ty.name : Ty → String
  | .int => "int" | .bool => "bool" | .str => "str" | .tuple => "tuple" | .list => "list"
/-- the kind of a value: of plain data, of lists and tuples of the store -/
def kindOf (S : Store) : Wv → Option String
  | .d .non => some "NoneType"
  | .d (.bl _) => some "bool"
  | .d (.int _) => some "int"
  | .d (.str _) => some "str"
  | .d (.tup _) => some "tuple"
  | .d (.lst _) => some "list"
  | .ref n => match S[n]? with
    | some (.lst _) => some "list"
    | some (.tup _) => some "tuple"
    | _ => none
  | _ => none
def isTy (S : Store) (T : Ty) : Wv → Option Bool
  | .d .non => some false
  | .d (.bl _) => some (match T with | .int => true | .bool => true | _ => false)
  | .d (.int _) => some (match T with | .int => true | _ => false)
  | .d (.str _) => some (match T with | .str => true | _ => false)
  | .d (.tup _) => some (match T with | .tuple => true | _ => false)
  | .d (.lst _) => some (match T with | .list => true | _ => false)
  | .ref n => match S[n]? with
    | some (.lst _) => some (match T with | .list => true | _ => false)
    | some (.tup _) => some (match T with | .tuple => true | _ => false)
    | _ => none
  | _ => none
theorem isTy_rep {G : Gc} {F : Hp} {ι : List Addr} {S : Store} {H : Hp} {v : V} {w : Wv} {T : Ty} {b : Bool} (r : Real G F ι S H) (h : RepW G F ι w v) (e : isTy S T w = some b) : ∃ k, TyOf G.K H v (.type k) ∧ kitB k T.name = some b := by
  unfold isTy at e
  split at e
  · cases e; rw [w_non.mp h]; exact ⟨_, .non, by cases T <;> decide +kernel⟩
  · cases e; rw [w_bl.mp h]; exact ⟨_, .bl _, by cases T <;> decide +kernel⟩
  · cases e; rw [w_int.mp h]; exact ⟨_, .int _, by cases T <;> decide +kernel⟩
  · cases e; rw [w_str.mp h]; exact ⟨_, .str _, by cases T <;> decide +kernel⟩
  · cases e
    obtain ⟨a, xs, rfl, q, _⟩ := w_tup.mp h
    exact ⟨_, .tup (r.frz _ _ q), by cases T <;> decide +kernel⟩
  · cases e
    obtain ⟨a, xs, rfl, q, _⟩ := w_lst.mp h
    exact ⟨_, .lst (r.frz _ _ q), by cases T <;> decide +kernel⟩
  · split at e
    · rename_i e2
      cases e
      obtain ⟨a, xs, rfl, _, q, _⟩ := r.ref_lst h e2
      exact ⟨_, .lst q, by cases T <;> decide +kernel⟩
    · rename_i e2
      cases e
      obtain ⟨a, xs, rfl, _, q, _⟩ := r.ref_tup h e2
      exact ⟨_, .tup q, by cases T <;> decide +kernel⟩
    · cases e
  · cases e
def gIsi (T : Ty) (w : Wv) (S : Store) : Res Wv := match isTy S T w with
  | some b => .ok (.d (.bl b)) S
  | none => .no
theorem de_isi {x y : Str} {p p2 pos : Pos} {e : Expr} {fa : Ev} (T : Ty) (hg : Gl X x) (hm : X.mg x = none) (hv : bootBuiltins x = some (.builtin "isinstance")) (ha : DE X xo e fa)
    (hg2 : Gl X y) (hm2 : X.mg y = none) (hv2 : bootBuiltins y = some (.type T.name))
    (hn : x ≠ "__name__" := by decide) (hdb : (x == ("__debug__" : Str)) = false := by decide) (hn2 : y ≠ "__name__" := by decide) (hdb2 : (y == ("__debug__" : Str)) = false := by decide)
    (he : starEach [e, .Name y p2] X.env = (false, eval e X.env) :: starEach [.Name y p2] X.env := by rfl) (he2 : starEach [.Name y p2] X.env = (false, eval (.Name y p2) X.env) :: starEach [] X.env := by rfl)
    (hpl : (backTo pos (starEach [.Name y p2] X.env)).any (·.1) = false := by rfl) : DE X xo (.Call (.Name x p) [e, .Name y p2] [] pos) (evUn (gIsi T) fa) :=
  ⟨fun W tk => pe_imp (pe_callB (call_isi (X := X)) hg hm hv (pa_cons (ha.run W tk) (pa_cons (pe_bltn (v := .ty T.name) hg2 hm2 hv2 rfl hn2 hdb2) pa_nil he2) he) hn hdb he hpl) fun σ H Q ⟨F, ι, S, ρ, rl, en, q⟩ => TEo.step rl en q fun F1 ι1 S1 H1 w v x1 r1 en1 hv p1 => by
    unfold gIsi at p1
    split at p1
    · rename_i b eb
      obtain ⟨k, h1, h2⟩ := isTy_rep r1 hv eb
      exact ⟨v, .ty T.name, _, _, b, rfl, .ty _, .base h1, kit_ty h2, ret_bl p1 r1⟩
    · exact p1.elim⟩
end
end DL

/-! statements, loops, comprehensions -/
namespace DL
open PySem PySem.Spec PyProof.Rows L2
inductive SR where
  | nx (ρ : Env) (S : Store) | rt (w : Wv) (S : Store) | bk (ρ : Env) (S : Store) | ct (ρ : Env) (S : Store) | rz (c : Nat) (ρ : Env) (S : Store) | no
abbrev Sv := Env → Store → SR
def Res.toS {α : Type} (r : Res α) (ρ : Env) (k : α → Store → SR) : SR := match r with
  | .ok a S => k a S
  | .rz c S => .rz c ρ S
  | .no => .no
def PostS (G : Gc) (W : WX) (F : Hp) (ι : List Addr) (H : Hp) (r : SR) (Dn : Ends) : Prop :=
  match r with
  | .nx ρ' S' => ∀ F' ι' H' σ', Ext F ι H F' ι' H' → Real G F' ι' S' H' → REnv G F' ι' σ' ρ' → Dn.nx σ' H'
  | .bk ρ' S' => ∀ F' ι' H' σ', Ext F ι H F' ι' H' → Real G F' ι' S' H' → REnv G F' ι' σ' ρ' → Dn.bk σ' H'
  | .ct ρ' S' => ∀ F' ι' H' σ', Ext F ι H F' ι' H' → Real G F' ι' S' H' → REnv G F' ι' σ' ρ' → Dn.ct σ' H'
  | .rt w S' => ∀ F' ι' H' v, Ext F ι H F' ι' H' → Real G F' ι' S' H' → RepW G.calm F' ι' w v → Dn.rt v H'
  | .rz c ρ' S' => ∀ F' ι' H' σ' Ca, Ext F ι H F' ι' H' → Real G F' ι' S' H' → REnv G F' ι' σ' ρ' → G.exc c = some Ca → W (.ref Ca) none σ' H'
  | .no => False
section
variable {G : Gc} {W : WX} {F F1 : Hp} {ι ι1 : List Addr} {S : Store} {H H1 : Hp} {σ : St} {ρ : Env} {r : SR} {Dn : Ends}
theorem PostS.ext (x : Ext F ι H F1 ι1 H1) (h : PostS G W F ι H r Dn) : PostS G W F1 ι1 H1 r Dn := by
  cases r with
  | nx ρ' S' => exact fun F' ι' H' σ' y => h F' ι' H' σ' (x.trans y)
  | bk ρ' S' => exact fun F' ι' H' σ' y => h F' ι' H' σ' (x.trans y)
  | ct ρ' S' => exact fun F' ι' H' σ' y => h F' ι' H' σ' (x.trans y)
  | rt w S' => exact fun F' ι' H' v y => h F' ι' H' v (x.trans y)
  | rz c ρ' S' => exact fun F' ι' H' σ' Ca y => h F' ι' H' σ' Ca (x.trans y)
  | no => exact h
theorem PostS.bind {α : Type} {q : Res α} {k : α → Store → SR} (en : REnv G F ι σ ρ) (h : PostS G W F ι H (q.toS ρ k) Dn) : Post G W F ι H σ q fun F1 ι1 H1 a S1 => PostS G W F1 ι1 H1 (k a S1) Dn := by
  cases q with
  | ok a S' => exact fun F' ι' H' y _ => PostS.ext y (show PostS G W F ι H (k a S') Dn from h)
  | rz c S' => exact fun F' ι' H' Ca y z e => h F' ι' H' σ Ca y z (en.ext y) e
  | no => exact h
theorem PostS.nxt {S' : Store} {ρ' : Env} {σ' : St} (h : PostS G W F ι H (.nx ρ' S') Dn) (r : Real G F ι S' H) (en : REnv G F ι σ' ρ') : Dn.nx σ' H := h F ι H σ' (.refl _ _ _) r en
theorem TEo.stepS {f : Ev} {k : Wv → Store → SR} {R : V → Hp → Prop} (r : Real G F ι S H) (en : REnv G F ι σ ρ) (p : PostS G W F ι H ((f ρ S).toS ρ k) Dn)
    (n : ∀ F1 ι1 S1 H1 w v, Ext F ι H F1 ι1 H1 → Real G F1 ι1 S1 H1 → REnv G F1 ι1 σ ρ → RepW G F1 ι1 w v → PostS G W F1 ι1 H1 (k w S1) Dn → R v H1) : TEo G W f σ H R :=
  ⟨F, ι, S, ρ, r, en, (p.bind en).mono fun F1 ι1 H1 w S1 x r1 q v hv => n F1 ι1 S1 H1 w v x r1 (en.ext x) hv q⟩
theorem TTo.stepS {f : Env → Store → Res Bool} {k : Bool → Store → SR} {R : Bool → Hp → Prop} (r : Real G F ι S H) (en : REnv G F ι σ ρ) (p : PostS G W F ι H ((f ρ S).toS ρ k) Dn)
    (n : ∀ F1 ι1 S1 H1 b, Ext F ι H F1 ι1 H1 → Real G F1 ι1 S1 H1 → REnv G F1 ι1 σ ρ → PostS G W F1 ι1 H1 (k b S1) Dn → R b H1) : TTo G W f σ H R :=
  ⟨F, ι, S, ρ, r, en, (p.bind en).mono fun F1 ι1 H1 w S1 x r1 q => n F1 ι1 S1 H1 w x r1 (en.ext x) q⟩
theorem TAo.stepS {f : Env → Store → Res (List Wv)} {k : List Wv → Store → SR} {R : List V → Hp → Prop} (r : Real G F ι S H) (en : REnv G F ι σ ρ) (p : PostS G W F ι H ((f ρ S).toS ρ k) Dn)
    (n : ∀ F1 ι1 S1 H1 ws vs, Ext F ι H F1 ι1 H1 → Real G F1 ι1 S1 H1 → REnv G F1 ι1 σ ρ → RepWs G F1 ι1 ws vs → PostS G W F1 ι1 H1 (k ws S1) Dn → R vs H1) : TAo G W f σ H R :=
  ⟨F, ι, S, ρ, r, en, (p.bind en).mono fun F1 ι1 H1 w S1 x r1 q v hv => n F1 ι1 S1 H1 w v x r1 (en.ext x) hv q⟩
end
def TSo (G : Gc) (W : WX) (g : Sv) : TS := fun Dn σ H => ∃ F ι S ρ, Real G F ι S H ∧ REnv G F ι σ ρ ∧ PostS G W F ι H (g ρ S) Dn
structure DS (X : Cx) (xo : Option (Addr × Nat)) (st : Stmt) (g : Sv) : Prop where
  run : ∀ W, L2N.Takes X W → PS X st (TSo (gc X xo) W g)
structure DSs (X : Cx) (xo : Option (Addr × Nat)) (st : List Stmt) (g : Sv) : Prop where
  run : ∀ W, L2N.Takes X W → PSs X st (TSo (gc X xo) W g)
section
variable {X : Cx} {xo : Option (Addr × Nat)} {st : Stmt} {sts : List Stmt} {g h : Sv} {pos : Pos} {e : Expr} {f : Ev}
def sNil : Sv := fun ρ S => .nx ρ S
def sSeq (g h : Sv) : Sv := fun ρ S => match g ρ S with
  | .nx ρ' S' => h ρ' S'
  | r => r
theorem dss_nil : DSs X xo [] sNil := ⟨fun W tk => pss_imp pss_nil fun Dn σ H ⟨F, ι, S, ρ, r, en, p⟩ => p.nxt r en⟩
theorem dss_cons (a : DS X xo st g) (b : DSs X xo sts h) : DSs X xo (st :: sts) (sSeq g h) := ⟨fun W tk => pss_imp (pss_cons (a.run W tk) (b.run W tk)) fun Dn σ H ⟨F, ι, S, ρ, r, en, p⟩ => by
  refine ⟨F, ι, S, ρ, r, en, ?_⟩
  unfold sSeq at p
  cases q : g ρ S with
  | nx ρ' S' =>
    rw [q] at p
    exact fun F' ι' H' σ' x r' en' => ⟨F', ι', S', ρ', r', en', p.ext x⟩
  | rt w S' => rw [q] at p; exact p
  | bk _ _ => rw [q] at p; exact p
  | ct _ _ => rw [q] at p; exact p
  | rz _ _ _ => rw [q] at p; exact p
  | no => rw [q] at p; exact p⟩
theorem dss_one (a : DS X xo st g) : DSs X xo [st] g := ⟨fun W tk => pss_one (a.run W tk)⟩
theorem ds_pass : DS X xo (.Pass pos) sNil := ⟨fun W tk => ps_imp ps_pass fun Dn σ H ⟨F, ι, S, ρ, r, en, p⟩ => p.nxt r en⟩
def sBk : Sv := fun ρ S => .bk ρ S
def sCt : Sv := fun ρ S => .ct ρ S
theorem ds_break : DS X xo (.Break pos) sBk := ⟨fun W tk => ps_imp ps_break fun Dn σ H ⟨F, ι, S, ρ, r, en, p⟩ => p F ι H σ (.refl _ _ _) r en⟩
theorem ds_continue : DS X xo (.Continue pos) sCt := ⟨fun W tk => ps_imp ps_continue fun Dn σ H ⟨F, ι, S, ρ, r, en, p⟩ => p F ι H σ (.refl _ _ _) r en⟩
def sExpr (f : Ev) : Sv := fun ρ S => (f ρ S).toS ρ fun _ S' => .nx ρ S'
theorem ds_expr (he : DE X xo e f) (hs : swapsWith e none pos.line X.env = pure false := by rfl) : DS X xo (.Expr e pos) (sExpr f) :=
  ⟨fun W tk => ps_imp (ps_expr (he.run W tk) hs) fun Dn σ H ⟨F, ι, S, ρ, r, en, p⟩ => TEo.stepS r en p fun F1 ι1 S1 H1 w v x r1 en1 hv p1 => p1.nxt r1 en1⟩
def sRet (f : Ev) : Sv := fun ρ S => (f ρ S).toS ρ fun w S' => if w.calm = true then .rt w S' else .no
theorem ds_ret (he : DE X xo e f) : DS X xo (.Return (some e) pos) (sRet f) :=
  ⟨fun W tk => ps_imp (ps_ret (he.run W tk)) fun Dn σ H ⟨F, ι, S, ρ, r, en, p⟩ => TEo.stepS r en p fun F1 ι1 S1 H1 w v x r1 en1 hv p1 => by
    split at p1
    · rename_i hc
      exact p1 F1 ι1 H1 v (.refl _ _ _) r1 (calm_of hv hc)
    · exact p1.elim⟩
def sSet (i : Nat) (f : Ev) : Sv := fun ρ S => (f ρ S).toS ρ fun w S' => .nx (ρ.set i (some w)) S'
theorem ds_set {i : Nat} {x : Str} {pos' : Pos} (hN : X.N.Nodup) (hi : X.N[i]? = some x) (hx : Loc X.env.scope x) (he : DE X xo e f) (hs : swapsWith e (some (.Name x pos')) pos.line X.env = pure false := by rfl)
    (hf : X.fn x = true ∨ X.env.scope.names.lookup x = some .local := by first | exact .inl rfl | exact .inr rfl | assumption) : DS X xo (.Assign [.Name x pos'] e pos) (sSet i f) :=
  ⟨fun W tk => ps_imp (ps_set hN hi hx (he.run W tk) hs hf) fun Dn σ H ⟨F, ι, S, ρ, r, en, p⟩ => TEo.stepS r en p fun F1 ι1 S1 H1 w v x r1 en1 hv p1 => p1.nxt r1 (en1.set i hv)⟩
def sIf (t : Env → Store → Res Bool) (g h : Sv) : Sv := fun ρ S => (t ρ S).toS ρ fun b S' => if b = true then g ρ S' else h ρ S'
theorem ds_if {c : Expr} {a b : List Stmt} {t : Env → Store → Res Bool} (hc : DT X xo c t) (ha : DSs X xo a g) (hb : DSs X xo b h) : DS X xo (.If c a b pos) (sIf t g h) :=
  ⟨fun W tk => ps_imp (ps_if (hc.run W tk) (ha.run W tk) (hb.run W tk)) fun Dn σ H ⟨F, ι, S, ρ, r, en, p⟩ => TTo.stepS r en p fun F1 ι1 S1 H1 b x r1 en1 p1 => by
    cases b with
    | true => exact ⟨F1, ι1, S1, ρ, r1, en1, p1⟩
    | false => exact ⟨F1, ι1, S1, ρ, r1, en1, p1⟩⟩

/-! ## while -/
def iter (t : Env → Store → Res Bool) (g : Sv) : Nat → Env → Store → Option SR
  | 0, _, _ => none
  | n + 1, ρ, S => match t ρ S with
    | .ok false S1 => some (.nx ρ S1)
    | .ok true S1 => match g ρ S1 with
      | .nx ρ' S' => iter t g n ρ' S'
      | .ct ρ' S' => iter t g n ρ' S'
      | .bk ρ' S' => some (.nx ρ' S')
      | r => some r
    | .rz c S1 => some (.rz c ρ S1)
    | .no => some .no
open Classical in
noncomputable def sWhile (t : Env → Store → Res Bool) (g : Sv) : Sv := fun ρ S => if h : ∃ n r, iter t g n ρ S = some r then h.choose_spec.choose else .no
theorem iter_more {t : Env → Store → Res Bool} {g : Sv} : ∀ {n : Nat} {ρ : Env} {S : Store} {r : SR}, iter t g n ρ S = some r → iter t g (n + 1) ρ S = some r
  | 0, _, _, _, h => by cases h
  | n + 1, ρ, S, r, h => by
    rw [iter] at h ⊢
    cases q : t ρ S with
    | ok b S1 =>
      rw [q] at h
      cases b with
      | false => exact h
      | true =>
        simp only at h ⊢
        cases q2 : g ρ S1 with
        | nx ρ' S' => rw [q2] at h; exact iter_more h
        | ct ρ' S' => rw [q2] at h; exact iter_more h
        | bk _ _ => rw [q2] at h; exact h
        | rt _ _ => rw [q2] at h; exact h
        | rz _ _ _ => rw [q2] at h; exact h
        | no => rw [q2] at h; exact h
    | rz c S1 => rw [q] at h; exact h
    | no => rw [q] at h; exact h
theorem iter_le {t : Env → Store → Res Bool} {g : Sv} {n : Nat} {ρ : Env} {S : Store} {r : SR} (h : iter t g n ρ S = some r) : ∀ k, iter t g (n + k) ρ S = some r
  | 0 => h
  | k + 1 => iter_more (iter_le h k)
theorem sWhile_eq {t : Env → Store → Res Bool} {g : Sv} {n : Nat} {ρ : Env} {S : Store} {r : SR} (h : iter t g n ρ S = some r) : sWhile t g ρ S = r := by
  have hex : ∃ n r, iter t g n ρ S = some r := ⟨n, r, h⟩
  unfold sWhile
  rw [dif_pos hex]
  have h1 := iter_le hex.choose_spec.choose_spec n
  have h2 := iter_le h hex.choose
  rw [Nat.add_comm] at h1
  rw [h1] at h2
  exact Option.some.inj h2
theorem ds_while {c : Expr} {body : List Stmt} {t : Env → Store → Res Bool} (hp : PassesOwn (model X.prog X.w) X.A X.env X.xe) (hc : DT X xo c t) (hb : DSs X xo body g) : DS X xo (.While c body [] pos) (sWhile t g) :=
  ⟨fun W tk => ps_imp (ps_while hp (hc.run W tk) (hb.run W tk)) fun Dn σ H ⟨F, ι, S, ρ, r, en, p⟩ => by
    have p' : ∃ n q, iter t g n ρ S = some q ∧ PostS (gc X xo) W F ι H q Dn := by
      unfold sWhile at p
      split at p
      · rename_i hh
        exact ⟨_, _, hh.choose_spec.choose_spec, p⟩
      · exact p.elim
    obtain ⟨n, q, hn, hq⟩ := p'
    refine ⟨fun m σ H => ∃ F ι S ρ q, Real (gc X xo) F ι S H ∧ REnv (gc X xo) F ι σ ρ ∧ iter t g m ρ S = some q ∧ PostS (gc X xo) W F ι H q Dn, ⟨n, F, ι, S, ρ, q, r, en, hn, hq⟩, ?_⟩
    rintro m σ2 H2 ⟨F2, ι2, S2, ρ2, q2, r2, en2, hm, hq2⟩
    cases m with
    | zero => cases hm
    | succ m =>
      rw [iter] at hm
      refine ⟨F2, ι2, S2, ρ2, r2, en2, ?_⟩
      cases e1 : t ρ2 S2 with
      | no => rw [e1] at hm; cases hm; exact hq2
      | rz c S3 =>
        rw [e1] at hm; cases hm
        exact fun F3 ι3 H3 Ca x r3 ec => hq2 F3 ι3 H3 σ2 Ca x r3 (en2.ext x) ec
      | ok b S3 =>
        rw [e1] at hm
        intro F3 ι3 H3 x3 r3
        cases b with
        | false =>
          cases hm
          exact (hq2.ext x3).nxt r3 (en2.ext x3)
        | true =>
          rw [if_pos rfl]
          simp only at hm
          refine ⟨fun σ' H' => ∃ F ι S ρ q, Real (gc X xo) F ι S H' ∧ REnv (gc X xo) F ι σ' ρ ∧ iter t g m ρ S = some q ∧ PostS (gc X xo) W F ι H' q Dn, fun σ' H' h => ⟨m, Nat.lt_succ_self _, h⟩, F3, ι3, S3, ρ2, r3, en2.ext x3, ?_⟩
          cases e2 : g ρ2 S3 with
          | nx ρ' S' => rw [e2] at hm; exact fun F4 ι4 H4 σ4 x4 r4 en4 => ⟨F4, ι4, S', ρ', q2, r4, en4, hm, hq2.ext (x3.trans x4)⟩
          | ct ρ' S' => rw [e2] at hm; exact fun F4 ι4 H4 σ4 x4 r4 en4 => ⟨F4, ι4, S', ρ', q2, r4, en4, hm, hq2.ext (x3.trans x4)⟩
          | bk ρ' S' => rw [e2] at hm; cases hm; exact hq2.ext x3
          | rt w S' => rw [e2] at hm; cases hm; exact hq2.ext x3
          | rz c ρ' S' => rw [e2] at hm; cases hm; exact hq2.ext x3
          | no => rw [e2] at hm; cases hm; exact hq2⟩

/-! ## what is walked -/
open Classical in
noncomputable def sForL (chk : Store → Prop) (i : Nat) (g : Sv) : List Wv → Env → Store → SR
  | [], ρ, S => if chk S then .nx ρ S else .no
  | w :: ws, ρ, S => if chk S then match g (ρ.set i (some w)) S with
      | .nx ρ' S' => sForL chk i g ws ρ' S'
      | .ct ρ' S' => sForL chk i g ws ρ' S'
      | .bk ρ' S' => .nx ρ' S'
      | r => r
    else .no
/-- a range's loop -/
def rangeW (lo : Int) (n : Nat) (c : Int) : List Wv := (List.range n).map fun (k : Nat) => .d (.int (lo + (k : Int) * c))
/-- an iterator that turns through the items: what it asks at a turn, what it gives -/
def Walks (G : Gc) (w : Wv) (ws : List Wv) (chk : Store → Prop) (v : V) (J : It) : Prop :=
  ∀ (i : Nat) (F : Hp) (ι : List Addr) (S : Store) (H : Hp), i ≤ ws.length → Real G F ι S H → RepW G F ι w v → chk S →
    (∀ u, ws[i]? = some u → J.go i H ∧ ∀ x H', J.yld i H x H' → H' = H ∧ RepW G.calm F ι u x) ∧ (i = ws.length → J.stop i H)
theorem walks_list {G : Gc} {w : Wv} {ws : List Wv} {a : Addr} : Walks G w ws (fun S => seqW S w = some (true, ws)) (.ref a) (Itl G.K a) := by
  intro i F ι S H hi r h e
  obtain ⟨a', xs, ea, q, p⟩ := seqW_rep r h e
  cases ea
  refine ⟨fun u hu => ?_, fun e => ⟨xs, q, by rw [← p.length, e]; exact Nat.le_refl _⟩⟩
  obtain ⟨x, h1, h2⟩ := p2get p hu
  refine ⟨⟨xs, x, q, h1⟩, fun y H' hy => ?_⟩
  obtain ⟨e1, e2⟩ := hy
  have := e2 xs q
  rw [h1] at this
  cases this
  exact ⟨e1, h2⟩
theorem walks_tup {G : Gc} {w : Wv} {ws : List Wv} {a : Addr} : Walks G w ws (fun S => seqW S w = some (false, ws)) (.ref a) (Itt G.K a) := by
  intro i F ι S H hi r h e
  obtain ⟨a', xs, ea, q, p⟩ := seqW_rep r h e
  cases ea
  refine ⟨fun u hu => ?_, fun e => ⟨xs, q, by rw [← p.length, e]; exact Nat.le_refl _⟩⟩
  obtain ⟨x, h1, h2⟩ := p2get p hu
  refine ⟨⟨xs, x, q, h1⟩, fun y H' hy => ?_⟩
  obtain ⟨e1, e2⟩ := hy
  have := e2 xs q
  rw [h1] at this
  cases this
  exact ⟨e1, h2⟩
theorem walks_str {G : Gc} {z : Str} {v : V} : Walks G (.d (.str z)) (z.cps.toList.map fun c => .d (.str ⟨#[c]⟩)) (fun _ => True) v (Its z) := by
  intro i F ι S H hi r h e
  refine ⟨fun u hu => ?_, fun e => show z.cps.size ≤ i by rw [e]; simp⟩
  rw [List.getElem?_map] at hu
  cases q : z.cps.toList[i]? with
  | none => rw [q] at hu; cases hu
  | some c =>
    rw [q] at hu
    cases hu
    have hlt : i < z.cps.toList.length := (List.getElem?_eq_some_iff.mp q).1
    refine ⟨show i < z.cps.size by simpa using hlt, fun x H' hy => ?_⟩
    obtain ⟨e1, c', e2, e3⟩ := hy
    have e4 : z.cps[i]? = some c := by simpa using q
    rw [e4] at e2
    cases e2
    exact ⟨e1, by rw [e3]; exact w_str.mpr rfl⟩
theorem rangeW_get {lo : Int} {n : Nat} {c : Int} {i : Nat} {u : Wv} (h : (rangeW lo n c)[i]? = some u) : i < n ∧ u = .d (.int (lo + (i : Int) * c)) := by
  unfold rangeW at h
  rw [List.getElem?_map] at h
  cases q : (List.range n)[i]? with
  | none => rw [q] at h; cases h
  | some k =>
    rw [q] at h
    cases h
    have hlt := (List.getElem?_eq_some_iff.mp q).1
    rw [List.length_range] at hlt
    rw [List.getElem?_range hlt] at q
    cases q
    exact ⟨hlt, rfl⟩
theorem walks_range {G : Gc} {lo c : Int} {n : Nat} {v : V} : Walks G (.d .non) (rangeW lo n c) (fun _ => True) .non (Itc lo c n) := by
  intro i F ι S H hi r h e
  refine ⟨fun u hu => ?_, fun e => show n ≤ i by rw [e]; simp [rangeW]⟩
  obtain ⟨h1, rfl⟩ := rangeW_get hu
  exact ⟨h1, fun x H' hy => ⟨hy.1, by rw [hy.2]; exact w_int.mpr rfl⟩⟩
theorem walks_range1 {G : Gc} {lo : Int} {n : Nat} {v : V} : Walks G (.d .non) (rangeW lo n 1) (fun _ => True) .non (Itr lo n) := by
  intro i F ι S H hi r h e
  refine ⟨fun u hu => ?_, fun e => show n ≤ i by rw [e]; simp [rangeW]⟩
  obtain ⟨h1, rfl⟩ := rangeW_get hu
  exact ⟨h1, fun x H' hy => ⟨hy.1, by rw [hy.2]; exact w_int.mpr (by rw [Int.mul_one])⟩⟩
/-- an iterable, whatever it is -/
structure DI (X : Cx) (xo : Option (Addr × Nat)) (tg iter : Expr) (f : Env → Store → Res (Wv × List Wv × (Store → Prop))) : Prop where
  run : ∀ W, L2N.Takes X W → ∃ wi, PI X tg iter wi ∧ ∀ σ H (R : It → Hp → Prop), (∃ F ι S ρ, Real (gc X xo) F ι S H ∧ REnv (gc X xo) F ι σ ρ ∧ Post (gc X xo) W F ι H σ (f ρ S) fun F' ι' H' q S' => q.2.2 S' ∧ ∀ v J, RepW (gc X xo) F' ι' q.1 v → Walks (gc X xo) q.1 q.2.1 q.2.2 v J → R J H') → wi σ H R
def evItems (f : Ev) : Env → Store → Res (Wv × List Wv × (Store → Prop)) := fun ρ S => (f ρ S).bind fun w S1 => match w with
  | .d (.str z) => .ok (w, (z.cps.toList.map fun c => .d (.str ⟨#[c]⟩)), fun _ => True) S1
  | w => match seqW S1 w with
    | some (k, ws) => .ok (w, ws, fun S => seqW S w = some (k, ws)) S1
    | none => .no
theorem pi_any {tg l : Expr} {tl : TE} (hl : PE X l tl) : PI X tg l (fun σ H R => tl σ H fun x H1 => (∃ a, x = .ref a ∧ (((∃ xs, SqL X.K H1 a xs) ∧ R (Itl X.K a) H1) ∨ ((∃ xs, SqT X.K H1 a xs) ∧ R (Itt X.K a) H1))) ∨ ∃ z, x = .str z ∧ R (Its z) H1) := by
  refine ⟨fun pins s σ H R I hh => ?_⟩
  refine thn (hl.run pins s σ H _ I hh) fun v s1 ⟨x, H1, I1, r1, q1⟩ => ?_
  have own : ∀ {o : Obj}, ∀ b ∈ [s1.heap.objs.size], FpOk X pins H1 b := fun b hb => by
    have e : b = s1.heap.objs.size := by simpa using hb
    subst e
    exact I1.fpOk (Nat.le_refl _) (I1.hok.fresh (Nat.le_refl _))
  rcases q1 with ⟨a, rfl, ⟨⟨xs, hq⟩, q⟩ | ⟨⟨xs, hq⟩, q⟩⟩ | ⟨z, rfl, q⟩
  · cases r1
    obtain ⟨its, rv, pl, hz⟩ := I1.list hq
    exact wpAny_pyIter_list pl.isList ⟨s1.heap.objs.size, [s1.heap.objs.size], _, _, H1, rfl, I1.kept (t' := s1.toks) fun b o e => Heap.get?_push_of_some _ e, turn_list a _, ⟨_, Heap.get?_push_size _ rfl, rfl, rfl⟩, own (o := ⟨.none, none, .fields #[], #[]⟩), q⟩
  · cases r1
    obtain ⟨its, rv, pl, hz⟩ := I1.tuple hq
    exact wpAny_pyIter_tuple (show s1.heap.IsTuple a its.toArray from pl) ⟨s1.heap.objs.size, [s1.heap.objs.size], _, _, H1, rfl, I1.kept (t' := s1.toks) fun b o e => Heap.get?_push_of_some _ e, turn_tuple a _, ⟨_, Heap.get?_push_size _ rfl, rfl, rfl⟩, own (o := ⟨.none, none, .fields #[], #[]⟩), q⟩
  · obtain ⟨t, rfl⟩ := r1
    cases ha : z.cps.all (· < 128)
    · exact wpAny_pyIter_wide ha (pi_one (tk := s1.toks) I1 _ (turn_str _ z t "str_iterator" (.inr rfl)) ⟨_, Heap.get?_push_size _ rfl, rfl, rfl⟩ q)
    · exact wpAny_pyIter_ascii ha (pi_one (tk := s1.toks) I1 _ (turn_str _ z t "str_ascii_iterator" (.inl rfl)) ⟨_, Heap.get?_push_size _ rfl, rfl, rfl⟩ q)
theorem di_any {tg l : Expr} (hl : DE X xo l f) : DI X xo tg l (evItems f) := ⟨fun W tk => ⟨_, pi_any (hl.run W tk), fun σ H R ⟨F, ι, S, ρ, r, en, p⟩ => by
  refine TEo.step r en p fun F1 ι1 S1 H1 w v x r1 en1 hv p1 => ?_
  split at p1
  · rename_i z
    have h0 := p1.now (.refl _ _ _) r1
    exact .inr ⟨z, w_str.mp hv, h0.2 v _ hv walks_str⟩
  · split at p1
    · rename_i k ws e
      have h0 := p1.now (.refl _ _ _) r1
      obtain ⟨a, xs, rfl, q, _⟩ := seqW_rep r1 hv e
      refine .inl ⟨a, rfl, ?_⟩
      cases k with
      | true => exact .inl ⟨⟨xs, q⟩, h0.2 _ _ hv walks_list⟩
      | false => exact .inr ⟨⟨xs, q⟩, h0.2 _ _ hv walks_tup⟩
    · exact p1.elim⟩⟩
abbrev Itms : Type := Wv × List Wv × (Store → Prop)
def gRange1 : List Wv → Store → Res Itms
  | [.d (.int j)], S => if j.natAbs < 4611686018427387904 then .ok (.d .non, rangeW 0 j.toNat 1, fun _ => True) S else .no
  | _, _ => .no
def gRange2 : List Wv → Store → Res Itms
  | [.d (.int i), .d (.int j)], S => if i.natAbs < 4611686018427387904 ∧ j.natAbs < 4611686018427387904 then .ok (.d .non, rangeW i (j - i).toNat 1, fun _ => True) S else .no
  | _, _ => .no
def gRange3 : List Wv → Store → Res Itms
  | [.d (.int i), .d (.int j), .d (.int c)], S => if c ≠ 0 ∧ c.natAbs < 1073741824 ∧ Builtin.Range.small i j c = true ∧ 0 ≤ Builtin.Range.rangeSize i j c then .ok (.d .non, rangeW i (Builtin.Range.rangeSize i j c).toNat c, fun _ => True) S else .no
  | _, _ => .no
def evRange (g : List Wv → Store → Res Itms) (fs : Env → Store → Res (List Wv)) : Env → Store → Res Itms := fun ρ S => (fs ρ S).bind g
theorem ws3 {G : Gc} {F : Hp} {ι : List Addr} {w u z : Wv} {vs : List V} (h : RepWs G F ι [w, u, z] vs) : ∃ v y x, vs = [v, y, x] ∧ RepW G F ι w v ∧ RepW G F ι u y ∧ RepW G F ι z x := by
  cases h with
  | cons r t =>
    obtain ⟨y, x, rfl, q, q2⟩ := ws2 t
    exact ⟨_, _, _, rfl, r, q, q2⟩
theorem two62 : (2 : Int) ^ 62 = 4611686018427387904 := by decide
theorem di_range1 {tg a : Expr} {fs : Env → Store → Res (List Wv)} {p pos : Pos} (hg : Gl X "range") (hm : X.mg "range" = none) (ha : DA X xo [a] fs) (hs : starEach [a] X.env = [(false, eval a X.env)] := by rfl) : DI X xo tg (.Call (.Name "range" p) [a] [] pos) (evRange gRange1 fs) :=
  ⟨fun W tk => ⟨_, pi_range1 hg hm (ha.run W tk) hs, fun σ H R ⟨F, ι, S, ρ, r, en, p⟩ => TAo.step r en p fun F1 ι1 S1 H1 ws vs x r1 en1 hv p1 => by
    unfold gRange1 at p1
    split at p1
    · split at p1
      · rename_i hz
        obtain ⟨v, rfl, h1⟩ := ws1 hv
        rw [w_int.mp h1]
        have h0 := p1.now (.refl _ _ _) r1
        exact ⟨_, rfl, by rw [two62]; omega, by rw [two62]; omega, h0.2 _ _ (w_non.mpr rfl) (walks_range1 (v := .non))⟩
      · exact p1.elim
    · exact p1.elim⟩⟩
theorem di_range2 {tg a b : Expr} {fs : Env → Store → Res (List Wv)} {p pos : Pos} (hg : Gl X "range") (hm : X.mg "range" = none) (ha : DA X xo [a, b] fs) (hs : starEach [a, b] X.env = [(false, eval a X.env), (false, eval b X.env)] := by rfl) (hs2 : starEach [b] X.env = [(false, eval b X.env)] := by rfl) :
    DI X xo tg (.Call (.Name "range" p) [a, b] [] pos) (evRange gRange2 fs) :=
  ⟨fun W tk => ⟨_, pi_range2 hg hm (ha.run W tk) hs hs2, fun σ H R ⟨F, ι, S, ρ, r, en, p⟩ => TAo.step r en p fun F1 ι1 S1 H1 ws vs x r1 en1 hv p1 => by
    unfold gRange2 at p1
    split at p1
    · split at p1
      · rename_i hz
        obtain ⟨v, y, rfl, h1, h2⟩ := ws2 hv
        rw [w_int.mp h1, w_int.mp h2]
        have h0 := p1.now (.refl _ _ _) r1
        exact ⟨_, _, rfl, by rw [two62]; omega, h0.2 _ _ (w_non.mpr rfl) (walks_range1 (v := .non))⟩
      · exact p1.elim
    · exact p1.elim⟩⟩
theorem di_range3 {tg a b c : Expr} {fs : Env → Store → Res (List Wv)} {p pos : Pos} (hg : Gl X "range") (hm : X.mg "range" = none) (ha : DA X xo [a, b, c] fs)
    (hs : starEach [a, b, c] X.env = (false, eval a X.env) :: starEach [b, c] X.env := by rfl) (hpl : (backTo pos (starEach [b, c] X.env)).any (·.1) = false := by rfl) : DI X xo tg (.Call (.Name "range" p) [a, b, c] [] pos) (evRange gRange3 fs) :=
  ⟨fun W tk => ⟨_, pi_range3 hg hm (ha.run W tk) hs hpl, fun σ H R ⟨F, ι, S, ρ, r, en, p⟩ => TAo.step r en p fun F1 ι1 S1 H1 ws vs x r1 en1 hv p1 => by
    unfold gRange3 at p1
    split at p1
    · split at p1
      · rename_i hz
        obtain ⟨v, y, z, rfl, h1, h2, h3⟩ := ws3 hv
        rw [w_int.mp h1, w_int.mp h2, w_int.mp h3]
        have h0 := p1.now (.refl _ _ _) r1
        exact ⟨_, _, _, _, rfl, ⟨hz.1, hz.2.1, hz.2.2.1, (Int.toNat_of_nonneg hz.2.2.2).symm⟩, h0.2 _ _ (w_non.mpr rfl) (walks_range (v := .non))⟩
      · exact p1.elim
    · exact p1.elim⟩⟩

/-! ## for -/
noncomputable def sFor (i : Nat) (f : Env → Store → Res Itms) (g : Sv) : Sv := fun ρ S => (f ρ S).toS ρ fun q S1 => sForL q.2.2 i g q.2.1 ρ S1
theorem ds_for {i : Nat} {x : Str} {pos' : Pos} {it : Expr} {body : List Stmt} {fi : Env → Store → Res Itms} (hp : PassesOwn (model X.prog X.w) X.A X.env X.xe) (hc : X.calm = true) (hN : X.N.Nodup) (hi : X.N[i]? = some x) (hx : Loc X.env.scope x)
    (hit : DI X xo (.Name x pos') it fi) (hb : DSs X xo body g) (hf : X.fn x = true ∨ X.env.scope.names.lookup x = some .local := by first | exact .inl rfl | exact .inr rfl | assumption)
    (hs : ∀ x, foldedSetIterable it X.env x = pure x := by intro _; rfl) : DS X xo (.For (.Name x pos') it body [] pos) (sFor i fi g) :=
  ⟨fun W tk => by
    obtain ⟨wi, h1, h2⟩ := hit.run W tk
    refine ps_imp (ps_for hp hc h1 (pg_name hN hi hx hf) (hb.run W tk) hs) fun Dn σ H ⟨F, ι, S, ρ, r, en, p⟩ => h2 σ H _ ⟨F, ι, S, ρ, r, en, (p.bind en).mono fun F1 ι1 H1 q S1 x1 r1 p1 => ?_⟩
    have hchk : q.2.2 S1 := by
      cases e : q.2.1 with
      | nil =>
        rw [e, sForL] at p1
        split at p1
        · assumption
        · exact p1.elim
      | cons w ws =>
        rw [e, sForL] at p1
        split at p1
        · assumption
        · exact p1.elim
    refine ⟨hchk, fun v J hv hw => ?_⟩
    refine ⟨fun k m σ H => m = q.2.1.length - k ∧ k ≤ q.2.1.length ∧ ∃ F ι S ρ, Real (gc X xo) F ι S H ∧ REnv (gc X xo) F ι σ ρ ∧ RepW (gc X xo) F ι q.1 v ∧ PostS (gc X xo) W F ι H (sForL q.2.2 i g (q.2.1.drop k) ρ S) Dn, ⟨q.2.1.length, by simp, Nat.zero_le _, F1, ι1, S1, ρ, r1, en.ext x1, hv, p1⟩, ?_⟩
    rintro k m σ2 H2 ⟨rfl, hk, F2, ι2, S2, ρ2, r2, en2, hv2, p2⟩
    by_cases hlt : k < q.2.1.length
    · right
      rw [List.drop_eq_getElem_cons hlt, sForL] at p2
      split at p2
      · rename_i hch
        obtain ⟨hg, _⟩ := hw k F2 ι2 S2 H2 hk r2 hv2 hch
        obtain ⟨hgo, hy⟩ := hg _ (List.getElem?_eq_getElem hlt)
        refine ⟨hgo, fun σ' H' => ∃ F ι S ρ, Real (gc X xo) F ι S H' ∧ REnv (gc X xo) F ι σ' ρ ∧ RepW (gc X xo) F ι q.1 v ∧ PostS (gc X xo) W F ι H' (sForL q.2.2 i g (q.2.1.drop (k + 1)) ρ S) Dn, fun σ' H' hh => ⟨q.2.1.length - (k + 1), by omega, rfl, hlt, hh⟩, fun y H' hyy => ?_⟩
        obtain ⟨rfl, ry⟩ := hy y H' hyy
        refine ⟨F2, ι2, S2, _, r2, en2.set i (uncalm ry), ?_⟩
        cases e : g (ρ2.set i (some q.2.1[k])) S2 with
        | nx ρ' S' => rw [e] at p2; exact fun F4 ι4 H4 σ4 x4 r4 en4 => ⟨F4, ι4, S', ρ', r4, en4, hv2.ext x4, p2.ext x4⟩
        | ct ρ' S' => rw [e] at p2; exact fun F4 ι4 H4 σ4 x4 r4 en4 => ⟨F4, ι4, S', ρ', r4, en4, hv2.ext x4, p2.ext x4⟩
        | bk ρ' S' => rw [e] at p2; exact p2
        | rt w S' => rw [e] at p2; exact p2
        | rz c ρ' S' => rw [e] at p2; exact p2
        | no => rw [e] at p2; exact p2
      · exact p2.elim
    · left
      have ek : k = q.2.1.length := by omega
      subst ek
      rw [List.drop_length, sForL] at p2
      split at p2
      · rename_i hch
        exact ⟨(hw _ F2 ι2 S2 H2 hk r2 hv2 hch).2 rfl, p2.nxt r2 en2⟩
      · exact p2.elim⟩

/-! ## list comprehensions -/
def wipeE (ρ : Env) : List Nat → Env
  | [] => ρ
  | v :: vs => (wipeE ρ vs).set v none
theorem REnv.wipe {G : Gc} {F : Hp} {ι : List Addr} {σ : St} {ρ : Env} (r : REnv G F ι σ ρ) : ∀ vs : List Nat, REnv G F ι (wipe σ vs) (wipeE ρ vs)
  | [] => r
  | v :: vs => (r.wipe vs).unset v
open Classical in
noncomputable def lcL (chk : Store → Prop) (i : Nat) (t : Env → Store → Res Bool) (f : Ev) : List Wv → Env → Store → List Wv → Res (List Wv)
  | [], ρ, S, acc => if chk S then .ok acc S else .no
  | w :: ws, ρ, S, acc => if chk S then match t (ρ.set i (some w)) S with
      | .ok true S1 => match f (ρ.set i (some w)) S1 with
        | .ok x S2 => if x.calm = true then lcL chk i t f ws ρ S2 (acc ++ [x]) else .no
        | _ => .no
      | .ok false S1 => lcL chk i t f ws ρ S1 acc
      | _ => .no
    else .no
/-- the tests of a comprehension -/
structure DTs (X : Cx) (xo : Option (Addr × Nat)) (es : List Expr) (t : Env → Store → Res Bool) : Prop where
  run : ∀ W, L2N.Takes X W → PTs X es (TTo (gc X xo) W t)
def evYes : Env → Store → Res Bool := fun _ S => .ok true S
theorem dts_nil : DTs X xo [] evYes := ⟨fun W tk => ⟨fun pins s σ H Q I ⟨F, ι, S, ρ, r, en, p⟩ => pts_nil.run pins s σ H Q I (p.now (.refl _ _ _) r)⟩⟩
theorem dts_one {c : Expr} {t : Env → Store → Res Bool} (h : DT X xo c t) : DTs X xo [c] t := ⟨fun W tk => pts_one (h.run W tk)⟩
/-- the list so far, then what becomes of it -/
noncomputable def evLc0 (fi : Env → Store → Res Itms) (i : Nat) (vs : List Nat) (t : Env → Store → Res Bool) (f : Ev) : Env → Store → Res (List Wv) := fun ρ S =>
  (fi ρ S).bind fun q S1 => if q.2.1.length ≤ 16777216 then lcL q.2.2 i t f q.2.1 (wipeE ρ vs) S1 [] else .no
/-- frozen, or kept in the store -/
def gFrz : List Wv → Store → Res Wv := fun ws S => match allD ws with
  | some ds => .ok (.d (.lst ds)) S
  | none => .no
def gKeep : List Wv → Store → Res Wv := fun ws S => .ok (.ref S.length) (S ++ [.lst ws])
noncomputable def evLc (k : List Wv → Store → Res Wv) (fi : Env → Store → Res Itms) (i : Nat) (vs : List Nat) (t : Env → Store → Res Bool) (f : Ev) : Ev := fun ρ S => (evLc0 fi i vs t f ρ S).bind k
/-- what a new list that we have in hand becomes -/
def Kp (G : Gc) (k : List Wv → Store → Res Wv) : Prop := ∀ (W : WX) (F0 F : Hp) (ι0 ι : List Addr) (S : Store) (H0 H : Hp) (σ : St) (ws : List Wv) (xs : List V) (D : Addr) (Q : VK), Ext F0 ι0 H0 F ι H → H0 D = none → Real G F ι S H → H D = some (.lst xs) → F D = none → D ∉ ι → RepWs G.calm F ι ws xs → PostE G W F0 ι0 H0 σ (k ws S) Q → Q (.ref D) H
theorem kp_frz {G : Gc} : Kp G gFrz := by
  intro W F0 F ι0 ι S H0 H σ ws xs D Q x h0 r hD hF hi hw p
  unfold gFrz at p
  split at p
  · rename_i ds e
    rw [allD_eq e] at hw
    refine p _ ι H ⟨fun a o q => fz_new hF a o (x.fz a o q), x.pre, x.fr, fun b o q n f g => ?_⟩ (r.toF hD hF hi) _ (w_lst.mpr ⟨D, xs, rfl, upd_same, p2imp (fun _ _ z => z.mono (.of (fz_new hF))) (repWs_d hw)⟩)
    have nb : b ≠ D := fun z => by rw [z, h0] at q; cases q
    rw [upd_ne nb]
    exact x.fn b o q n f g
  · exact p.elim
theorem kp_keep {G : Gc} : Kp G gKeep := by
  intro W F0 F ι0 ι S H0 H σ ws xs D Q x h0 r hD hF hi hw p
  refine p F (ι ++ [D]) H ⟨x.fz, ?_, fun b o q n => ?_, x.fn⟩ (r.toS hD hF hi ⟨xs, rfl, p2imp (fun _ _ z => z.mono (fun _ _ q => q) ⟨[D], rfl⟩) hw⟩) _ ⟨D, by rw [← r.len]; simp, rfl⟩
  · obtain ⟨t, e⟩ := x.pre
    exact ⟨t ++ [D], by rw [e, List.append_assoc]⟩
  · obtain ⟨n1, q1⟩ := x.fr b o q n
    have nb : b ≠ D := fun z => by rw [z, h0] at q; cases q
    exact ⟨by simp [n1, nb], q1⟩
theorem takesF : L2N.Takes X (fun _ _ _ _ => False) := fun _ _ x => by
  obtain ⟨_, _, _, _, _, _, _, _, _, _, _, _, _, _, _, _, z⟩ := x
  exact z.elim
theorem wipe_set {σ : St} {i : Nat} {o : Option V} : ∀ {vs : List Nat}, i ∈ vs → wipe ((wipe σ vs).set i o) vs = wipe σ vs := by
  intro vs hi
  apply List.ext_getElem?
  intro j
  have key : ∀ (τ : St) (ws : List Nat) (j : Nat), (wipe τ ws)[j]? = if j ∈ ws then (τ[j]?).map fun _ => none else τ[j]? := by
    intro τ ws
    induction ws with
    | nil => intro j; simp [wipe]
    | cons a ws ih =>
      intro j
      unfold wipe
      by_cases hj : a = j
      · subst hj
        by_cases hl : a < τ.length
        · rw [List.getElem?_set_self (by rw [wipe_length]; exact hl)]
          simp [List.getElem?_eq_getElem hl]
        · rw [List.getElem?_eq_none (by rw [List.length_set, wipe_length]; omega), List.getElem?_eq_none (by omega)]
          simp
      · rw [List.getElem?_set_ne hj, ih]
        have : j ∈ a :: ws ↔ j ∈ ws := by simp [Ne.symm hj]
        simp only [this]
  rw [key, key]
  by_cases hj : j ∈ vs
  · rw [if_pos hj, if_pos hj]
    by_cases hij : i = j
    · subst hij
      by_cases hl : i < σ.length
      · rw [List.getElem?_set_self (by rw [wipe_length]; exact hl), List.getElem?_eq_getElem hl]; rfl
      · rw [List.getElem?_eq_none (by rw [List.length_set, wipe_length]; omega), List.getElem?_eq_none (by omega)]
    · rw [List.getElem?_set_ne hij, key, if_pos hj]
      cases σ[j]? <;> rfl
  · rw [if_neg hj, if_neg hj]
    have hij : i ≠ j := fun e => hj (e ▸ hi)
    rw [List.getElem?_set_ne hij, key, if_neg hj]
/-- the reading of a comprehension's loop -/
theorem lc_read {k : List Wv → Store → Res Wv} {i : Nat} {vs : List Nat} {fi : Env → Store → Res Itms} {t : Env → Store → Res Bool} {f : Ev} {wi : TI} {W : WX} {σ : St} {H : Hp} {Q : VK} (hk : Kp (gc X xo) k) (hi : i ∈ vs)
    (h2 : ∀ σ H (R : It → Hp → Prop), (∃ F ι S ρ, Real (gc X xo) F ι S H ∧ REnv (gc X xo) F ι σ ρ ∧ Post (gc X xo) W F ι H σ (fi ρ S) fun F' ι' H' q S' => q.2.2 S' ∧ ∀ v J, RepW (gc X xo) F' ι' q.1 v → Walks (gc X xo) q.1 q.2.1 q.2.2 v J → R J H') → wi σ H R)
    (h : TEo (gc X xo) W (evLc k fi i vs t f) σ H Q) : tLc wi (gName i) (TTo (gc X xo) (fun _ _ _ _ => False) t) (TEo (gc X xo) (fun _ _ _ _ => False) f) vs σ H Q := by
  obtain ⟨F, ι, S, ρ, r, en, p⟩ := h
  unfold evLc evLc0 at p
  rw [Res.bind_assoc] at p
  refine h2 σ H _ ⟨F, ι, S, ρ, r, en, p.bind.mono fun F1 ι1 H1 q S1 x1 r1 p1 => ?_⟩
  split at p1
  rotate_left
  · exact p1.elim
  rename_i hz
  have hchk : q.2.2 S1 := by
    cases e : q.2.1 with
    | nil =>
      rw [e, lcL] at p1
      split at p1
      · assumption
      · exact p1.elim
    | cons w ws =>
      rw [e, lcL] at p1
      split at p1
      · assumption
      · exact p1.elim
  refine ⟨hchk, fun v J hv hw D hD => ?_⟩
  have en1 : REnv (gc X xo) F1 ι1 (wipe σ vs) (wipeE ρ vs) := (en.ext x1).wipe vs
  have hFD : F1 D = none := r1.fnone hD
  have hiD : D ∉ ι1 := r1.notin hD
  -- the invariant
  let Iv : Nat → Hp → Prop := fun n H => ∃ F ι S acc xs, Ext F1 ι1 H1 F ι H ∧ Real (gc X xo) F ι S H ∧ H D = some (.lst xs) ∧ F D = none ∧ D ∉ ι ∧ RepWs (gc X xo).calm F ι acc xs ∧ acc.length ≤ n ∧ RepW (gc X xo) F ι q.1 v ∧
    PostE (gc X xo) W F1 ι1 H1 σ ((lcL q.2.2 i t f (q.2.1.drop n) (wipeE ρ vs) S acc).bind k) Q
  have x0 : Ext F1 ι1 H1 F1 ι1 (upd H1 D (.lst [])) := ⟨fun _ _ e => e, ⟨[], by simp⟩, fun b o e n => ⟨n, by rw [upd_ne (ne_of_none e hD)]; exact e⟩, fun _ _ _ _ e _ => e⟩
  refine ⟨fun n m H => m = q.2.1.length - n ∧ n ≤ q.2.1.length ∧ Iv n H, ⟨q.2.1.length, by simp, Nat.zero_le _, F1, ι1, S1, [], [], x0, r1.other hFD hiD, upd_same, hFD, hiD, .nil, Nat.le_refl _, hv, p1⟩, ?_⟩
  rintro n m H2 ⟨rfl, hn, F2, ι2, S2, acc, xs, x2, r2, hD2, hF2, hi2, ha2, hl2, hv2, p2⟩
  by_cases hlt : n < q.2.1.length
  · right
    rw [List.drop_eq_getElem_cons hlt, lcL] at p2
    split at p2
    · rename_i hch
      obtain ⟨hg, _⟩ := hw n F2 ι2 S2 H2 hn r2 hv2 hch
      obtain ⟨hgo, hy⟩ := hg _ (List.getElem?_eq_getElem hlt)
      refine ⟨hgo, Iv (n + 1), fun H' hh => ⟨q.2.1.length - (n + 1), by omega, rfl, hlt, hh⟩, fun y H' hyy => ?_⟩
      obtain ⟨rfl, ry⟩ := hy y H' hyy
      refine ⟨wipe_set hi, ?_⟩
      have en2 : REnv (gc X xo) F2 ι2 ((wipe σ vs).set i (some y)) ((wipeE ρ vs).set i (some q.2.1[n])) := (en1.mono x2.fz x2.pre).set i (uncalm ry)
      refine ⟨F2, ι2, S2, _, r2, en2, ?_⟩
      cases e : t ((wipeE ρ vs).set i (some q.2.1[n])) S2 with
      | no => rw [e] at p2; exact p2.elim
      | rz c S3 => rw [e] at p2; exact p2.elim
      | ok b S3 =>
        rw [e] at p2
        intro F3 ι3 H3 x3 r3
        obtain ⟨hi3, hD3⟩ := x3.fr D _ hD2 hi2
        have hF3 := x3.fn D _ hD2 hi2 hF2 (fun _ z => nomatch z)
        cases b with
        | false =>
          rw [if_neg Bool.false_ne_true]
          exact ⟨F3, ι3, S3, acc, xs, x2.trans x3, r3, hD3, hF3, hi3, p2imp (fun _ _ z => z.ext x3) ha2, by omega, hv2.ext x3, p2⟩
        | true =>
          rw [if_pos rfl]
          simp only at p2
          refine ⟨F3, ι3, S3, _, r3, en2.ext x3, ?_⟩
          cases e2 : f ((wipeE ρ vs).set i (some q.2.1[n])) S3 with
          | no => rw [e2] at p2; exact p2.elim
          | rz c S4 => rw [e2] at p2; exact p2.elim
          | ok z S4 =>
            rw [e2] at p2
            intro F4 ι4 H4 x4 r4 zv hzv
            obtain ⟨hi4, hD4⟩ := x4.fr D _ hD3 hi3
            have hF4 := x4.fn D _ hD3 hi3 hF3 (fun _ z => nomatch z)
            simp only at p2
            split at p2
            · rename_i hcz
              have ha4 : RepWs (gc X xo).calm F4 ι4 acc xs := p2imp (fun _ _ z => (z.ext x3).ext x4) ha2
              have xx := (x2.trans x3).trans x4
              refine ⟨xs, hD4, ?_, F4, ι4, S4, acc ++ [z], xs ++ [zv], ⟨xx.fz, xx.pre, fun b o q n => ?_, xx.fn⟩, r4.other hF4 hi4, upd_same, hF4, hi4, p2app ha4 (.cons (calm_of hzv hcz) .nil), by simp; omega, (hv2.ext x3).ext x4, p2⟩
              · rw [← ha4.length, sizeLine_eq]
                omega
              · obtain ⟨n1, q1⟩ := xx.fr b o q n
                exact ⟨n1, by rw [upd_ne (ne_of_none q hD)]; exact q1⟩
            · exact p2.elim
    · exact p2.elim
  · left
    have en' : n = q.2.1.length := by omega
    subst en'
    rw [List.drop_length, lcL] at p2
    split at p2
    · rename_i hch
      exact ⟨(hw _ F2 ι2 S2 H2 hn r2 hv2 hch).2 rfl, hk W F1 F2 ι1 ι2 S2 H1 H2 σ acc xs D Q x2 hD r2 hD2 hF2 hi2 ha2 p2⟩
    · exact p2.elim
section
variable {i : Nat} {x : Str} {px : Pos} {elt it : Expr} {ifs : List Expr} {scope : Scope} {own : List (Str × Nat)} {fi : Env → Store → Res Itms} {t : Env → Store → Res Bool} {k : List Wv → Store → Res Wv}
theorem de_lc (hk : Kp (gc X xo) k) (hc : X.calm = true) (hN : X.N.Nodup) (hi : DI X xo (.Name x px) it fi) (ok : BlkOk X.N X.env.scope scope own) (hiv : i ∈ own.map (·.2))
    (hg : ∀ (s : Shared) (H : Hp) (C : Addr) (cl : List (Str × Addr)) (fp : List Addr), PG (X.blk s H scope (compEnvC scope cl C X.env) fp) (.Name x px) (gName i))
    (ht : ∀ (s : Shared) (H : Hp) (C : Addr) (cl : List (Str × Addr)) (fp : List Addr), DTs (X.blk s H scope (compEnvC scope cl C X.env) fp) xo ifs t)
    (he : ∀ (s : Shared) (H : Hp) (C : Addr) (cl : List (Str × Addr)) (fp : List Addr), DE (X.blk s H scope (compEnvC scope cl C X.env) fp) xo elt f) (hs : ∀ x, foldedSetIterable it X.env x = pure x := by intro _; rfl) :
    DE X xo (.ListComp elt [⟨.Name x px, it, ifs, 0⟩] scope pos) (evLc k fi i (own.map (·.2)) t f) := ⟨fun W tk => by
  obtain ⟨wi, h1, h2⟩ := hi.run W tk
  exact pe_imp (pe_lc hc hN h1 ok hg (fun s H C cl fp => (ht s H C cl fp).run _ takesF) (fun s H C cl fp => (he s H C cl fp).run _ takesF) hs) fun σ H Q q => lc_read hk hiv h2 q⟩
/-- y = [..] -/
theorem ds_setLc {j : Nat} {y : Str} {py spos : Pos} (hk : Kp (gc X xo) k) (hc : X.calm = true) (hN : X.N.Nodup) (hy : X.N[j]? = some y) (hyl : X.env.scope.names.lookup y = some .local)
    (hsw : swapsWith (.ListComp elt [⟨.Name x px, it, ifs, 0⟩] scope pos) (some (.Name y py)) spos.line X.env = pure true) (hi : DI X xo (.Name x px) it fi) (ok : BlkOk X.N X.env.scope scope own) (hiv : i ∈ own.map (·.2))
    (hg : ∀ (s : Shared) (H : Hp) (C : Addr) (cl : List (Str × Addr)) (fp : List Addr), PG (X.blk s H scope (compEnvC scope cl C X.env) fp) (.Name x px) (gName i))
    (ht : ∀ (s : Shared) (H : Hp) (C : Addr) (cl : List (Str × Addr)) (fp : List Addr), DTs (X.blk s H scope (compEnvC scope cl C X.env) fp) xo ifs t)
    (he : ∀ (s : Shared) (H : Hp) (C : Addr) (cl : List (Str × Addr)) (fp : List Addr), DE (X.blk s H scope (compEnvC scope cl C X.env) fp) xo elt f) (hs : ∀ x, foldedSetIterable it X.env x = pure x := by intro _; rfl) :
    DS X xo (.Assign [.Name y py] (.ListComp elt [⟨.Name x px, it, ifs, 0⟩] scope pos) spos) (sSet j (evLc k fi i (own.map (·.2)) t f)) := ⟨fun W tk => by
  obtain ⟨wi, h1, h2⟩ := hi.run W tk
  exact ps_imp (L2.ps_setLc hc hN hy hyl hsw h1 ok hg (fun s H C cl fp => (ht s H C cl fp).run _ takesF) (fun s H C cl fp => (he s H C cl fp).run _ takesF) hs) fun Dn σ H ⟨F, ι, S, ρ, r, en, p⟩ =>
    lc_read hk hiv h2 (TEo.stepS r en p fun F1 ι1 S1 H1 w v x1 r1 en1 hv p1 => p1.nxt r1 (en1.set j hv))⟩
end
end
end DL

/-! defs, calls of defs and methods, new instances -/
namespace DL
open PySem PySem.Spec PyProof.Rows L2
abbrev Sem' := List Wv → Store → Res Wv
/-- a def's meaning: n parameters, m names in all -/
def fnS (n m : Nat) (g : Sv) : Sem' := fun ws S => if ws.length = n then (match g (ws.map some ++ List.replicate (m - n) none) S with
  | .nx _ S' => .ok (.d .non) S'
  | .rt w S' => .ok w S'
  | .rz c _ S' => .rz c S'
  | _ => .no) else .no
def spOf (K : PySem.W.Frag) (n : Nat) (sem : Sem') : Sp := fun vs H Q E => vs.length = n ∧ ∃ F ι S ws, Real ⟨K, none⟩ F ι S H ∧ RepWs ⟨K, none⟩ F ι ws vs ∧
  Post ⟨K, none⟩ (fun c d _ H' => E c d H') F ι H [] (sem ws S) fun F' ι' H' w _ => ∀ v, RepW ⟨K, none⟩ F' ι' w v → Q v H'
theorem renv_start {K : PySem.W.Frag} {F : Hp} {ι : List Addr} {N : List Str} {ws : List Wv} {vs : List V} {n : Nat} (h : RepWs ⟨K, none⟩ F ι ws vs) (hn : vs.length = n) : REnv ⟨K, none⟩ F ι (L2.start N vs) (ws.map some ++ List.replicate (N.length - n) none) := by
  have hl := h.length
  refine ⟨by unfold L2.start; simp [hl, hn], fun i w e => ?_⟩
  by_cases hi : i < ws.length
  · rw [List.getElem?_append_left (by simpa using hi), List.getElem?_map] at e
    cases q : ws[i]? with
    | none => rw [q] at e; cases e
    | some u =>
      rw [q] at e
      cases e
      obtain ⟨v, h1, h2⟩ := p2get h q
      refine ⟨v, ?_, h2⟩
      unfold L2.start
      rw [List.getElem?_append_left (by simp; omega), List.getElem?_map, h1]
      rfl
  · rw [List.getElem?_append_right (by simpa using hi), List.getElem?_replicate] at e
    split at e <;> cases e
section
variable {P : Program} {w : World} {K : PySem.W.Frag} {mg : Str → Option Value} {base : Heap} {x qual : Str} {params : Arguments} {body : List Stmt} {scope : Scope} {f : Addr} {fd : FuncData}
/-- a def keeps the promise that its meaning makes -/
theorem fn_ok {N ps : List Str} {k n : Nat} {g : Sv} (F : FunD K x qual params body scope [] [] f fd) (S : FnScope N ps scope) (hn : ps.length = n)
    (hb : ∀ (cdv : Value) (A : Around) (outer : List PySem.Env) (s : Shared) (H : Hp) (E : XK), Room k (A.deeper (envOfC qual scope s.heap.objs.size f cdv)) → DSs (cxOf (L2N.CX P w) P w K mg base N qual scope f cdv A outer s H E) none body g) :
    FnOk P w K mg base (L2N.CX P w) (k + 1) f fd ps (spOf K n (fnS n N.length g)) := by
  refine F.ok S (fun vs H Q E h => by rw [h.1, hn]) fun cdv A outer s H vs Q E hr h => ?_
  obtain ⟨hl, F, ι, St, ws, r, hw, p⟩ := h
  refine ⟨_, (hb cdv A outer s H E hr).run _ (L2N.takes_of (E := E) rfl rfl rfl rfl), F, ι, St, _, r, renv_start (N := N) hw hl, ?_⟩
  unfold fnS at p
  rw [if_pos (by rw [hw.length]; exact hl)] at p
  cases e : g (ws.map some ++ List.replicate (N.length - n) none) St with
  | nx ρ' S' => rw [e] at p; exact fun F' ι' H' σ' x r' en' => p F' ι' H' x r' _ (w_non.mpr rfl)
  | rt u S' => rw [e] at p; exact fun F' ι' H' v x r' hv => p F' ι' H' x r' v hv
  | rz c ρ' S' => rw [e] at p; exact fun F' ι' H' σ' Ca x r' en' hc => p F' ι' H' Ca x r' hc
  | bk _ _ => rw [e] at p; exact p.elim
  | ct _ _ => rw [e] at p; exact p.elim
  | no => rw [e] at p; exact p.elim
end
/-- a def that may be called -/
structure FnG (P : Program) (w : World) (K : PySem.W.Frag) (mg : Str → Option Value) (base : Heap) (f : Addr) (n k : Nat) (sem : Sem') : Prop where
  ex : ∃ fd ps, ps.length = n ∧ FnOk P w K mg base (L2N.CX P w) k f fd ps (spOf K n sem) ∧ Binds K fd ps [] ∧ PySem.W.keepIn K (.ref f) = true
theorem fng_of {P : Program} {w : World} {K : PySem.W.Frag} {mg : Str → Option Value} {base : Heap} {x qual : Str} {params : Arguments} {body : List Stmt} {scope : Scope} {f : Addr} {fd : FuncData} {ps : List Str} {n k : Nat} {sem : Sem'}
    (F : FunD K x qual params body scope [] [] f fd) (hn : ps.length = n) (ok : FnOk P w K mg base (L2N.CX P w) k f fd ps (spOf K n sem)) (b : Binds K fd ps []) : FnG P w K mg base f n k sem := ⟨fd, ps, hn, ok, b, F.kp⟩
section
variable {X : Cx} {pos p apos : Pos} {e o : Expr} {es : List Expr} {fs : Env → Store → Res (List Wv)} {x m : Str} {f : Addr} {n k : Nat} {sem : Sem'}
theorem sp_use {W : WX} {K : PySem.W.Frag} {σ : St} {F : Hp} {ι : List Addr} {S : Store} {H : Hp} {ws : List Wv} {vs : List V} {Q : VK} (hl : ws.length = n) (r : Real ⟨K, none⟩ F ι S H) (h : RepWs ⟨K, none⟩ F ι ws vs) (p : PostE ⟨K, none⟩ W F ι H σ (sem ws S) Q) : spOf K n sem vs H Q (WE W σ) := by
  refine ⟨by rw [← h.length]; exact hl, F, ι, S, ws, r, h, ?_⟩
  cases q : sem ws S with
  | ok a S' => rw [q] at p; exact p
  | rz c S' => rw [q] at p; exact p
  | no => rw [q] at p; exact p
def gCall (n : Nat) (sem : Sem') : Sem' := fun ws S => if ws.length = n then sem ws S else .no
/-- f(e, ..) -/
theorem de_call (F : FnG X.prog X.w X.K X.mg X.base f n k sem) (hr : Room k X.A) (hg : Gl X x) (hm : X.mg x = some (.ref f)) (ha : DA X none (e :: es) fs) (hdb : (x == ("__debug__" : Str)) = false := by decide)
    (he : starEach (e :: es) X.env = (false, eval e X.env) :: starEach es X.env := by rfl) (hpl : (backTo pos (starEach es X.env)).any (·.1) = false := by rfl) : DE X none (.Call (.Name x p) (e :: es) [] pos) (evN (gCall n sem) fs) := by
  obtain ⟨fd, ps, hn, ok, b, kp⟩ := F.ex
  refine ⟨fun W tk => pe_imp (pe_callS (E := WE W) ok hr hg hm kp b (fun σ => L2N.passAt tk σ) (ha.run W tk) hdb he hpl) fun σ H Q ⟨F, ι, S, ρ, rl, en, q⟩ => TAo.step rl en q fun F1 ι1 S1 H1 ws vs x1 r1 en1 hv p1 => ?_⟩
  unfold gCall at p1
  split at p1
  · rename_i hl
    exact sp_use hl r1 hv p1
  · exact p1.elim
/-! ### methods -/
def tMethS (C : Addr) (m : Str) (sp : Sp) (E : St → XK) (ta : TE) (t : TA) : TE := fun σ H Q => ta σ H fun x H1 => ∃ a dx fs, x = .ref a ∧ H1 a = some (.ins C dx fs) ∧ fs.lookup m = none ∧ t σ H1 fun vs H2 => sp (x :: vs) H2 Q (E σ)
theorem pe_methS {CX : CXT} {C : Addr} {fd : FuncData} {ps : List Str} {sp : Sp} {E : St → XK} {ta : TE} {t : TA} {pl : Sem Bool} (he : PE X o ta) (c : Cls X.K C) (hm : Meth X.K C m f) (F : FnOk X.prog X.w X.K X.mg X.base CX k f fd ps sp) (hr : Room k X.A) (hb : Binds X.K fd ps []) (hx : ∀ σ, PassesAt CX X σ (E σ)) (ha : PA X (e :: es) t)
    (hst : starEach (e :: es) X.env = (false, eval e X.env) :: starEach es X.env := by rfl) (hpl : (backTo pos (starEach es X.env)).any (·.1) = false := by rfl)
    (ht : eval (.Call (.Attribute o m apos) (e :: es) [] pos) X.env = (do
      let ov ← eval o X.env
      standAt apos.atName
      let (f, first) ← holding [ov] (getMethod ov m pl)
      callWith pos f first (backTo pos (starEach (e :: es) X.env)) (backToKw pos (keywordEach [] X.env))) := by rfl) :
    PE X (.Call (.Attribute o m apos) (e :: es) [] pos) (tMethS C m sp E ta t) := by
  refine ⟨fun pins s σ H Q I h => PySem.W.methodCall_KW (pl := pl) (thn (he.run pins s σ H _ I h) fun u s1 ⟨x, H1, I1, rx, a, dx, fs, ex, ea, l, q⟩ => ?_) ht⟩
  subst ex
  obtain rfl : u = Value.ref a := rx
  exact getmeth_ok I1 ea c hm l (PySem.W.callWith_K (first := [.ref a]) (h₀ := X.base) I1.ok.mod.kin hm.kp (thn (ha.run pos pins s1 σ H1 _ I1 q) fun us s2 ⟨vs, H2, I2, r, q2⟩ => ⟨I2.kIn, run_fnS (us := .ref a :: us) (vs := .ref a :: vs) F hr hb (hx σ) I2 (.cons rfl r) q2⟩) hst hpl)
theorem pe_meth0S {CX : CXT} {C : Addr} {fd : FuncData} {ps : List Str} {sp : Sp} {E : St → XK} {ta : TE} {pl : Sem Bool} (he : PE X o ta) (c : Cls X.K C) (hm : Meth X.K C m f) (F : FnOk X.prog X.w X.K X.mg X.base CX k f fd ps sp) (hr : Room k X.A) (hb : Binds X.K fd ps []) (hx : ∀ σ, PassesAt CX X σ (E σ))
    (ht : eval (.Call (.Attribute o m apos) [] [] pos) X.env = (do
      let ov ← eval o X.env
      standAt apos.atName
      let (f, first) ← holding [ov] (getMethod ov m pl)
      callWith pos f first (backTo pos (starEach [] X.env)) (backToKw pos (keywordEach [] X.env))) := by rfl) :
    PE X (.Call (.Attribute o m apos) [] [] pos) (tMethS C m sp E ta tNil) := by
  refine ⟨fun pins s σ H Q I h => PySem.W.methodCall_KW (pl := pl) (thn (he.run pins s σ H _ I h) fun u s1 ⟨x, H1, I1, rx, a, dx, fs, ex, ea, l, q⟩ => ?_) ht⟩
  subst ex
  obtain rfl : u = Value.ref a := rx
  exact getmeth_ok I1 ea c hm l (PySem.W.callWith_K0 (first := [.ref a]) I1.kIn hm.kp (run_fnS (us := [.ref a]) (vs := [.ref a]) F hr hb (hx σ) I1 (.cons rfl .nil) q))
/-- what is known of a class's method -/
structure MthOk (K : PySem.W.Frag) (C : Nat) (m : Str) (f : Addr) : Prop where
  ex : ∃ Ca fs, (⟨K, none⟩ : Gc).cls C = some (Ca, fs) ∧ m ∉ fs ∧ Cls K Ca ∧ Meth K Ca m f
/-- the receiver is an instance of the class C -/
def isIns (C : Nat) (S : Store) : Wv → Bool
  | .ref n => match S[n]? with
    | some (.ins C' _) => decide (C' = C)
    | _ => false
  | _ => false
def evMeth (C n : Nat) (sem : Sem') (fo : Ev) (fs : Env → Store → Res (List Wv)) : Ev := fun ρ S => (fo ρ S).bind fun w S1 => if isIns C S1 w = true then (fs ρ S1).bind fun ws S2 => gCall n sem (w :: ws) S2 else .no
theorem isIns_rep {K : PySem.W.Frag} {F : Hp} {ι : List Addr} {S : Store} {H : Hp} {w : Wv} {v : V} {C : Nat} {Ca : Addr} {fs : List Str} (r : Real ⟨K, none⟩ F ι S H) (h : RepW ⟨K, none⟩ F ι w v) (c : isIns C S w = true) (hc : (⟨K, none⟩ : Gc).cls C = some (Ca, fs)) (hm : m ∉ fs) :
    ∃ a dx l, v = .ref a ∧ H a = some (.ins Ca dx l) ∧ l.lookup m = none := by
  unfold isIns at c
  split at c
  · split at c
    · rename_i C' ws e
      have eC : C' = C := of_decide_eq_true c
      subst eC
      obtain ⟨a, e5, rfl⟩ := h
      obtain ⟨_, _, e6, Ca', fs', dx, l, rfl, e7, e8, e9, e10⟩ := r.at_ _ a _ e5 e (fun z => nomatch z)
      have e7' : (⟨K, none⟩ : Gc).cls C' = some (Ca', fs') := e7
      rw [hc] at e7'
      cases e7'
      refine ⟨a, dx, l, rfl, e6, ?_⟩
      cases q : l.lookup m with
      | none => rfl
      | some z =>
        exfalso
        have : m ∈ l.map (·.1) := by
          clear e8 e10 e6
          induction l with
          | nil => cases q
          | cons p l ih =>
            rw [List.lookup_cons] at q
            cases q2 : (m == p.1) with
            | true => rw [beq_iff_eq.mp q2]; simp
            | false => rw [q2] at q; exact List.mem_cons_of_mem _ (ih q)
        rw [e8] at this
        exact hm (List.take_subset _ _ this)
    · cases c
  · cases c
theorem de_meth {C : Nat} {fo : Ev} {pl : Sem Bool} (M : MthOk X.K C m f) (F : FnG X.prog X.w X.K X.mg X.base f n k sem) (hr : Room k X.A) (ho : DE X none o fo) (ha : DA X none (e :: es) fs)
    (hst : starEach (e :: es) X.env = (false, eval e X.env) :: starEach es X.env := by rfl) (hpl : (backTo pos (starEach es X.env)).any (·.1) = false := by rfl)
    (ht : eval (.Call (.Attribute o m apos) (e :: es) [] pos) X.env = (do
      let ov ← eval o X.env
      standAt apos.atName
      let (f, first) ← holding [ov] (getMethod ov m pl)
      callWith pos f first (backTo pos (starEach (e :: es) X.env)) (backToKw pos (keywordEach [] X.env))) := by rfl) : DE X none (.Call (.Attribute o m apos) (e :: es) [] pos) (evMeth C n sem fo fs) := by
  obtain ⟨fd, ps, hn, ok, b, kp⟩ := F.ex
  obtain ⟨Ca, fl, hC, hmf, c, mt⟩ := M.ex
  refine ⟨fun W tk => pe_imp (pe_methS (E := WE W) (ho.run W tk) c mt ok hr b (fun σ => L2N.passAt tk σ) (ha.run W tk) hst hpl ht) fun σ H Q ⟨F, ι, S, ρ, rl, en, q⟩ => TEo.step rl en q fun F1 ι1 S1 H1 w v x1 r1 en1 hv p1 => ?_⟩
  split at p1
  · rename_i hi
    obtain ⟨a, dx, l, rfl, ea, lk⟩ := isIns_rep r1 hv hi hC hmf
    refine ⟨a, dx, l, rfl, ea, lk, TAo.step r1 en1 p1 fun F2 ι2 S2 H2 ws vs x2 r2 en2 hvs p2 => ?_⟩
    unfold gCall at p2
    split at p2
    · rename_i hl
      exact sp_use hl r2 (.cons (hv.ext x2) hvs) p2
    · exact p2.elim
  · exact p1.elim
theorem de_meth0 {C : Nat} {fo : Ev} {pl : Sem Bool} (M : MthOk X.K C m f) (F : FnG X.prog X.w X.K X.mg X.base f n k sem) (hr : Room k X.A) (ho : DE X none o fo)
    (ht : eval (.Call (.Attribute o m apos) [] [] pos) X.env = (do
      let ov ← eval o X.env
      standAt apos.atName
      let (f, first) ← holding [ov] (getMethod ov m pl)
      callWith pos f first (backTo pos (starEach [] X.env)) (backToKw pos (keywordEach [] X.env))) := by rfl) : DE X none (.Call (.Attribute o m apos) [] [] pos) (evMeth C n sem fo evNil) := by
  obtain ⟨fd, ps, hn, ok, b, kp⟩ := F.ex
  obtain ⟨Ca, fl, hC, hmf, c, mt⟩ := M.ex
  refine ⟨fun W tk => pe_imp (pe_meth0S (E := WE W) (ho.run W tk) c mt ok hr b (fun σ => L2N.passAt tk σ) ht) fun σ H Q ⟨F, ι, S, ρ, rl, en, q⟩ => TEo.step rl en q fun F1 ι1 S1 H1 w v x1 r1 en1 hv p1 => ?_⟩
  split at p1
  · rename_i hi
    obtain ⟨a, dx, l, rfl, ea, lk⟩ := isIns_rep r1 hv hi hC hmf
    refine ⟨a, dx, l, rfl, ea, lk, ?_⟩
    unfold evNil gCall at p1
    have p2 : PostE ⟨X.K, none⟩ W F1 ι1 H1 σ (if [w].length = n then sem [w] S1 else .no) Q := p1
    split at p2
    · rename_i hl
      exact sp_use hl r1 (.cons hv .nil) p2
    · exact p2.elim
  · exact p1.elim
/-! ### new instances -/
def tMakeS (C : Addr) (sp : Sp) (E : St → XK) (t : TA) : TE := fun σ H Q => t σ H fun vs H1 => ∀ x dx, H1 x = none → H1 dx = none → dx ≠ x →
  sp (.ref x :: vs) (upd (upd H1 dx (.own x)) x (.ins C dx [])) (fun v H2 => v = .non ∧ Q (.ref x) H2) (E σ)
theorem run_makeS {CX : CXT} {C : Addr} {fd : FuncData} {ps : List Str} {sp : Sp} {E : St → XK} {pins : List (Addr × Obj)} {σ : St} {H : Hp} {s : Shared} {Q : VK} {us : List Value} {vs : List V} (M : Mk X.K C f) (F : FnOk X.prog X.w X.K X.mg X.base CX k f fd ps sp) (hr : Room (k + 1) X.A) (hb : Binds X.K fd ps [])
    (hx : PassesAt CX X σ (E σ)) (I : Inv X pins σ H s) (r : Vals vs us)
    (h : ∀ x dx, H x = none → H dx = none → dx ≠ x → sp (.ref x :: vs) (upd (upd H dx (.own x)) x (.ins C dx [])) (fun v H2 => v = .non ∧ Q (.ref x) H2) (E σ)) :
    wpAny (model X.prog X.w) X.A (call (.ref C) us) (EP X pins σ Q) X.xe s := by
  have hq := h (s.heap.objs.size + 1) s.heap.objs.size (I.hok.fresh (Nat.le_succ _)) (I.hok.fresh (Nat.le_refl _)) (Nat.ne_of_lt (Nat.lt_succ_self _))
  have I2 := Inv.made (C := C) I
  have r2 : Vals (V.ref (s.heap.objs.size + 1) :: vs) (Value.ref (s.heap.objs.size + 1) :: us) := .cons rfl r
  have hl : (Value.ref (s.heap.objs.size + 1) :: us).length = ps.length := by rw [← r2.length]; exact F.len _ _ _ _ hq
  have hbd := hb _ (Value.ref (s.heap.objs.size + 1) :: us) I2.kIn (by rw [List.append_nil]; exact hl)
  rw [List.append_nil] at hbd
  refine wpAny_call (make_map (f := f) I.kIn M.makes M.init (beq_iff_eq.mp M.fn) (codeAny_mono (F.run _ X.stack _ _ ⟨Value.ref (s.heap.objs.size + 1) :: us, []⟩ (Value.ref (s.heap.objs.size + 1) :: us) _ _ (E σ) (hr.make C us [])
    (I2.env0.make C us []) hbd r2 hq) fun r s' hq' => ?_))
  cases r with
  | error e => exact hx pins _ _ e s' I2 hq'
  | ok fl =>
    cases fl with
    | ret u =>
      obtain ⟨v, H', I3, rv, ev, q3⟩ := I2.after hq'
      subst ev
      exact ⟨rv, ⟨V.ref (s.heap.objs.size + 1), H', I3, rfl, q3⟩⟩
    | next => exact False.elim hq'
    | brk => exact False.elim hq'
    | cont => exact False.elim hq'
theorem pe_makeS {CX : CXT} {C : Addr} {fd : FuncData} {ps : List Str} {sp : Sp} {E : St → XK} {t : TA} (M : Mk X.K C f) (F : FnOk X.prog X.w X.K X.mg X.base CX k f fd ps sp) (hr : Room (k + 1) X.A) (hg : Gl X x) (hm : X.mg x = some (.ref C)) (hb : Binds X.K fd ps []) (hx : ∀ σ, PassesAt CX X σ (E σ))
    (ha : PA X (e :: es) t) (hdb : (x == ("__debug__" : Str)) = false := by decide) (he : starEach (e :: es) X.env = (false, eval e X.env) :: starEach es X.env := by rfl) (hpl : (backTo pos (starEach es X.env)).any (·.1) = false := by rfl) :
    PE X (.Call (.Name x p) (e :: es) [] pos) (tMakeS C sp E t) :=
  ⟨fun pins s σ H Q I h => wpAny_Call_Name_kw (ld_glob I hg hm (PySem.W.callWith_K (h₀ := X.base) I.ok.mod.kin M.kp (thn (ha.run pos pins s σ H _ I h) fun us s1 ⟨vs, H1, I1, r, q⟩ => ⟨I1.kIn, run_makeS M F hr hb (hx σ) I1 r q⟩) he hpl) hdb)⟩
/-- what is known of a class that is made -/
structure MkOk (K : PySem.W.Frag) (C : Nat) (Ca f : Addr) : Prop where
  ex : ∃ fs, (⟨K, none⟩ : Gc).cls C = some (Ca, fs) ∧ Mk K Ca f
def gMake (C n : Nat) (sem : Sem') : Sem' := fun ws S => (gCall n sem (.ref S.length :: ws) (S ++ [.ins C []])).bind fun w S2 => match w with
  | .d .non => .ok (.ref S.length) S2
  | _ => .no
theorem de_make {C : Nat} {Ca : Addr} (M : MkOk X.K C Ca f) (F : FnG X.prog X.w X.K X.mg X.base f n k sem) (hr : Room (k + 1) X.A) (hg : Gl X x) (hm : X.mg x = some (.ref Ca)) (ha : DA X none (e :: es) fs) (hdb : (x == ("__debug__" : Str)) = false := by decide)
    (he : starEach (e :: es) X.env = (false, eval e X.env) :: starEach es X.env := by rfl) (hpl : (backTo pos (starEach es X.env)).any (·.1) = false := by rfl) : DE X none (.Call (.Name x p) (e :: es) [] pos) (evN (gMake C n sem) fs) := by
  obtain ⟨fd, ps, hn, ok, b, kp⟩ := F.ex
  obtain ⟨fl, hC, mk⟩ := M.ex
  refine ⟨fun W tk => pe_imp (pe_makeS (E := WE W) mk ok hr hg hm b (fun σ => L2N.passAt tk σ) (ha.run W tk) hdb he hpl) fun σ H Q ⟨F, ι, S, ρ, rl, en, q⟩ => TAo.step rl en q fun F1 ι1 S1 H1 ws vs x1 r1 en1 hv p1 => ?_⟩
  intro x dx hx hdx hne
  have hx' : (upd H1 dx (.own x)) x = none := by rw [upd_ne hne.symm]; exact hx
  have r2 : Real ⟨X.K, none⟩ F1 ι1 S1 (upd H1 dx (.own x)) := r1.other (r1.fnone hdx) (r1.notin hdx)
  have xx : Ext F1 ι1 H1 F1 ι1 (upd H1 dx (.own x)) := ⟨fun _ _ e => e, ⟨[], by simp⟩, fun b o e n => ⟨n, by rw [upd_ne (ne_of_none e hdx)]; exact e⟩, fun _ _ _ _ e _ => e⟩
  have ro : RepO ⟨X.K, none⟩ F1 (ι1 ++ [x]) (.ins C []) (.ins Ca dx []) := ⟨Ca, fl, dx, [], rfl, hC, rfl, Nat.zero_le _, .nil⟩
  have r3 := r2.newS hx' ro
  have xy := Ext.newS (o := .ins Ca dx []) r2 hx'
  have p2 : PostE ⟨X.K, none⟩ W F1 (ι1 ++ [x]) (upd (upd H1 dx (.own x)) x (.ins Ca dx [])) σ (gMake C n sem ws S1) Q := Post.ext (xx.trans xy) p1
  unfold gMake gCall at p2
  split at p2
  · rename_i hl
    have hrep : RepWs ⟨X.K, none⟩ F1 (ι1 ++ [x]) (.ref S1.length :: ws) (.ref x :: vs) := .cons ⟨x, by rw [← r1.len]; simp, rfl⟩ (p2imp (fun _ _ z => z.mono (fun _ _ q => q) ⟨[x], rfl⟩) hv)
    refine sp_use (W := W) hl r3 hrep (p2.bind.mono fun F' ι' H' w S' x' r' p3 => fun v hv' => ?_)
    split at p3
    · refine ⟨w_non.mp hv', p3.now (.refl _ _ _) r' _ ⟨x, ext_ix x'.pre (by rw [← r1.len]; simp), rfl⟩⟩
    · exact p3.elim
  · exact p2.elim
end
end DL

/-! built-in names; the end of a law -/
namespace DL
open PySem PySem.Spec PyProof.Rows L2
theorem bt_len : bootBuiltins "len" = some (.builtin "len") := by decide +kernel
theorem bt_abs : bootBuiltins "abs" = some (.builtin "abs") := by decide +kernel
theorem bt_max : bootBuiltins "max" = some (.builtin "max") := by decide +kernel
theorem bt_min : bootBuiltins "min" = some (.builtin "min") := by decide +kernel
theorem bt_all : bootBuiltins "all" = some (.builtin "all") := by decide +kernel
theorem bt_sum : bootBuiltins "sum" = some (.builtin "sum") := by decide +kernel
theorem bt_sorted : bootBuiltins "sorted" = some (.builtin "sorted") := by decide +kernel
theorem bt_isinstance : bootBuiltins "isinstance" = some (.builtin "isinstance") := by decide +kernel
theorem bt_int : bootBuiltins "int" = some (.type "int") := by decide +kernel
theorem bt_bool : bootBuiltins "bool" = some (.type "bool") := by decide +kernel
theorem bt_str : bootBuiltins "str" = some (.type "str") := by decide +kernel
theorem bt_list : bootBuiltins "list" = some (.type "list") := by decide +kernel
theorem bt_tuple : bootBuiltins "tuple" = some (.type "tuple") := by decide +kernel
theorem bt_ValueError : bootBuiltins "ValueError" = some (.type "ValueError") := by decide +kernel
theorem fl0_nd : (["home", "rates", "names", "entries", "ends", "backs", "deeds"] : List Str).Nodup := by decide +kernel
theorem fl1_nd : (["home", "rows"] : List Str).Nodup := by decide +kernel
/-- the law's own promise -/
theorem law_sp {K : PySem.W.Frag} {sem : Sem'} (hs : ∀ ns : List Int, ns.length ≤ 63 → ∃ S, sem [.scr ns] [] = .ok (.d (.bl true)) S) (H : Hp) (a : Addr) (ns : List Int) (hl : ns.length ≤ 63) (hS : SqL K H a (ns.map V.int)) :
    spOf K 1 sem [.ref a] H (fun v _ => v = .bl true) fun _ _ _ => False := by
  obtain ⟨S, e⟩ := hs ns hl
  refine ⟨rfl, H, [], [], [.scr ns], ⟨rfl, fun _ _ h => h, List.nodup_nil, fun _ h => (nomatch h), fun n a o e _ _ => by simp at e, fun n ws e => by simp at e, fun n a e _ => by simp at e⟩, .cons ⟨a, rfl, hS⟩ .nil, ?_⟩
  rw [e]
  exact fun F' ι' H' x r v hv => w_bl.mp hv
theorem noCX {P : Program} {w : World} {H : Hp} {s : Shared} {e : Value} {s' : Shared} (h : L2N.CX P w [] H s (fun _ _ _ => False) e s') : False := by
  obtain ⟨_, _, _, _, _, _, _, _, _, _, _, _, z⟩ := h
  exact z
/-- the end, over a head by facts -/
theorem walk_E {l : PySem.W.OpenLaw} {n k : Nat} {q : Program} {loose : List Str} {XP : (Str → Option Value) → Heap → Prop} {YP : World → Heap → Prop} {d : DefRec} {CX : World → CXT} {x : Str}
    (hn : l.most = some n) (hn2 : n ≤ sizeLine) (hdf : d.params.defaults = []) (hr : Room k callerA)
    (F : ∀ (w : World) (mg : Str → Option Value) (fa : Addr) (h : Heap), YP w h → h.Ns mainGlobals mg → mg d.name = some (.ref fa) →
      ∃ (K : PySem.W.Frag) (fd : FuncData) (sp : Sp), K.In h ∧ (∀ (s : Shared) (u : Value), BindsTo s fd ⟨[u], []⟩ [(x, u)]) ∧
        (∀ (H : Hp) (a : Addr) (ns : List Int), ns.length ≤ n → SqL K H a (ns.map V.int) → sp [.ref a] H (fun v _ => v = .bl true) fun _ _ _ => False) ∧
        ∀ base : Heap, K.In base → base.Ns mainGlobals mg → FnOk l.prog w K mg base (CX w) k fa fd [x] sp)
    (hCX : ∀ (w : World) (H : Hp) (s : Shared) (e : Value) (s' : Shared), CX w [] H s (fun _ _ _ => False) e s' → False) :
    PySem.W.WalkO q loose XP YP l.row.toRowW d [] (fun f vs => PySem.call f vs) := by
  refine Att.attach_call hn hdf fun w s0 s1 mg mb fa o pm cd doc a vs ns G Y ho hd hcd hmg hobj hints hlen hg => ?_
  obtain ⟨K, fd, sp, KX, hb, hsp, hF⟩ := F w mg fa _ Y G.T.g hmg
  exact law_call KX G.T.g G.T.b G.T.builtins G.T.nolimit hg hobj hints (Nat.le_trans hlen hn2) hr hF hb (fun H _ hS => hsp H a ns hlen hS) fun H e s' => hCX w H s1 e s'
end DL

/-! reckoning with meanings: equations for simp -/
namespace DL
open PySem PySem.Spec PyProof.Rows L2
section
variable {α β : Type} {S S1 : Store} {ρ ρ1 : Env}
@[simp] theorem bind_ok (a : α) (S : Store) (k : α → Store → Res β) : (Res.ok a S).bind k = k a S := rfl
@[simp] theorem bind_rz (c : Nat) (S : Store) (k : α → Store → Res β) : (Res.rz c S : Res α).bind k = .rz c S := rfl
@[simp] theorem bind_no (k : α → Store → Res β) : (Res.no : Res α).bind k = .no := rfl
@[simp] theorem toS_ok (a : α) (S : Store) (ρ : Env) (k : α → Store → SR) : (Res.ok a S).toS ρ k = k a S := rfl
@[simp] theorem toS_rz (c : Nat) (S : Store) (ρ : Env) (k : α → Store → SR) : (Res.rz c S : Res α).toS ρ k = .rz c ρ S := rfl
@[simp] theorem toS_no (ρ : Env) (k : α → Store → SR) : (Res.no : Res α).toS ρ k = .no := rfl
def SR.seq (r : SR) (h : Sv) : SR := match r with
  | .nx ρ' S' => h ρ' S'
  | r => r
@[simp] theorem seq_nx (h : Sv) : (SR.nx ρ S).seq h = h ρ S := rfl
@[simp] theorem seq_rt (w : Wv) (h : Sv) : (SR.rt w S).seq h = .rt w S := rfl
@[simp] theorem seq_rz (c : Nat) (h : Sv) : (SR.rz c ρ S).seq h = .rz c ρ S := rfl
@[simp] theorem seq_no (h : Sv) : SR.no.seq h = .no := rfl
@[simp] theorem seq_bk (h : Sv) : (SR.bk ρ S).seq h = .bk ρ S := rfl
@[simp] theorem seq_ct (h : Sv) : (SR.ct ρ S).seq h = .ct ρ S := rfl
@[simp] theorem sSeq_s (g h : Sv) : sSeq g h ρ S = (g ρ S).seq h := by
  unfold sSeq SR.seq
  cases g ρ S <;> rfl
@[simp] theorem sNil_s : sNil ρ S = .nx ρ S := rfl
@[simp] theorem sExpr_s (f : Ev) : sExpr f ρ S = (f ρ S).toS ρ fun _ S' => .nx ρ S' := rfl
@[simp] theorem sRet_s (f : Ev) : sRet f ρ S = (f ρ S).toS ρ fun w S' => if w.calm = true then .rt w S' else .no := rfl
@[simp] theorem sSet_s (i : Nat) (f : Ev) : sSet i f ρ S = (f ρ S).toS ρ fun w S' => .nx (ρ.set i (some w)) S' := rfl
@[simp] theorem sIf_s (t : Env → Store → Res Bool) (g h : Sv) : sIf t g h ρ S = (t ρ S).toS ρ fun b S' => if b = true then g ρ S' else h ρ S' := rfl
@[simp] theorem calm_d (x : D) : (Wv.d x).calm = true := rfl
@[simp] theorem calm_ref (x : Nat) : (Wv.ref x).calm = true := rfl
@[simp] theorem calm_scr (x : List Int) : (Wv.scr x).calm = true := rfl
/-- how a body ends -/
def SR.out : SR → Res Wv
  | .nx _ S' => .ok (.d .non) S'
  | .rt w S' => .ok w S'
  | .rz c _ S' => .rz c S'
  | _ => .no
@[simp] theorem out_nx : (SR.nx ρ S).out = .ok (.d .non) S := rfl
@[simp] theorem out_rt (w : Wv) : (SR.rt w S).out = .ok w S := rfl
@[simp] theorem out_rz (c : Nat) : (SR.rz c ρ S).out = .rz c S := rfl
@[simp] theorem out_no : SR.no.out = .no := rfl
theorem fnS_s (n m : Nat) (g : Sv) (ws : List Wv) : fnS n m g ws S = if ws.length = n then (g (ws.map some ++ List.replicate (m - n) none) S).out else .no := by
  unfold fnS SR.out
  split
  · cases g (ws.map some ++ List.replicate (m - n) none) S <;> rfl
  · rfl
@[simp] theorem gCall_s (n : Nat) (sem : Sem') (ws : List Wv) : gCall n sem ws S = if ws.length = n then sem ws S else .no := rfl
@[simp] theorem evVar_s (i : Nat) : evVar i ρ S = match ρ[i]? with
  | some (some w) => .ok w S
  | _ => .no := rfl
@[simp] theorem evC_s (x : D) : evC x ρ S = .ok (.d x) S := rfl
@[simp] theorem evBin_s (g : Wv → Wv → Store → Res Wv) (fa fb : Ev) : evBin g fa fb ρ S = (fa ρ S).bind fun x S1 => (fb ρ S1).bind fun y S2 => g x y S2 := rfl
@[simp] theorem evUn_s (g : Wv → Store → Res Wv) (fa : Ev) : evUn g fa ρ S = (fa ρ S).bind fun x S1 => g x S1 := rfl
@[simp] theorem evNil_s : evNil ρ S = .ok [] S := rfl
@[simp] theorem evCons_s (fa : Ev) (fr : Env → Store → Res (List Wv)) : evCons fa fr ρ S = (fa ρ S).bind fun x S1 => (fr ρ S1).bind fun xs S2 => .ok (x :: xs) S2 := rfl
@[simp] theorem evN_s (g : List Wv → Store → Res Wv) (fs : Env → Store → Res (List Wv)) : evN g fs ρ S = (fs ρ S).bind g := rfl
def asB : Wv → Store → Res Bool := fun w S1 => match w with
  | .d (.bl b) => .ok b S1
  | _ => .no
@[simp] theorem asB_bl (b : Bool) : asB (.d (.bl b)) S = .ok b S := rfl
@[simp] theorem evT_s (f : Ev) : evT f ρ S = (f ρ S).bind asB := rfl
@[simp] theorem evAnd_s (f g : Env → Store → Res Bool) : evAnd f g ρ S = (f ρ S).bind fun b S1 => if b = true then g ρ S1 else .ok false S1 := rfl
@[simp] theorem evOr_s (f g : Env → Store → Res Bool) : evOr f g ρ S = (f ρ S).bind fun b S1 => if b = true then .ok true S1 else g ρ S1 := rfl
@[simp] theorem evNot_s (f : Env → Store → Res Bool) : evNot f ρ S = (f ρ S).bind fun b S1 => .ok (!b) S1 := rfl
theorem evAndV_s (f g : Ev) : evAndV f g ρ S = (f ρ S).bind fun w S1 => (asB w S1).bind fun b S1 => if b = true then g ρ S1 else .ok (.d (.bl false)) S1 := by
  unfold evAndV
  cases f ρ S with
  | ok w S1 =>
    cases w with
    | d x =>
      cases x with
      | bl b => cases b <;> rfl
      | _ => rfl
    | _ => rfl
  | rz c S1 => rfl
  | no => rfl
theorem evOrV_s (f g : Ev) : evOrV f g ρ S = (f ρ S).bind fun w S1 => (asB w S1).bind fun b S1 => if b = true then .ok (.d (.bl true)) S1 else g ρ S1 := by
  unfold evOrV
  cases f ρ S with
  | ok w S1 =>
    cases w with
    | d x =>
      cases x with
      | bl b => cases b <;> rfl
      | _ => rfl
    | _ => rfl
  | rz c S1 => rfl
  | no => rfl
theorem evNotV_s (f : Ev) : evNotV f ρ S = (f ρ S).bind fun w S1 => (asB w S1).bind fun b S1 => .ok (.d (.bl (!b))) S1 := by
  unfold evNotV
  cases f ρ S with
  | ok w S1 =>
    cases w with
    | d x =>
      cases x with
      | bl b => cases b <;> rfl
      | _ => rfl
    | _ => rfl
  | rz c S1 => rfl
  | no => rfl
@[simp] theorem evIf_s (t : Env → Store → Res Bool) (f g : Ev) : evIf t f g ρ S = (t ρ S).bind fun c S1 => if c = true then f ρ S1 else g ρ S1 := rfl
theorem evChain_s (g g' : Wv → Wv → Store → Res Wv) (fa fb fc : Ev) : evChain g g' fa fb fc ρ S = (fa ρ S).bind fun x S1 => (fb ρ S1).bind fun y S2 => (g x y S2).bind fun z S3 => (asB z S3).bind fun b S3 => if b = true then (fc ρ S3).bind fun w S4 => g' y w S4 else .ok (.d (.bl false)) S3 := by
  unfold evChain
  cases fa ρ S with
  | ok x S1 =>
    simp only [bind_ok]
    cases fb ρ S1 with
    | ok y S2 =>
      simp only [bind_ok]
      cases g x y S2 with
      | ok w S3 =>
        cases w with
        | d x =>
          cases x with
          | bl b => cases b <;> rfl
          | _ => rfl
        | _ => rfl
      | rz c S1 => rfl
      | no => rfl
    | rz c S1 => rfl
    | no => rfl
  | rz c S1 => rfl
  | no => rfl
/-! values -/
@[simp] theorem gAdd_int (i j : Int) : gAdd (.d (.int i)) (.d (.int j)) S = .ok (.d (.int (i + j))) S := rfl
@[simp] theorem gAdd_str (x y : Str) : gAdd (.d (.str x)) (.d (.str y)) S = if x.length + y.length ≤ 16777216 then .ok (.d (.str (x ++ y))) S else .no := rfl
@[simp] theorem gAdd_lst (x y : List D) : gAdd (.d (.lst x)) (.d (.lst y)) S = if x.length + y.length ≤ 16777216 then .ok (.d (.lst (x ++ y))) S else .no := rfl
@[simp] theorem gAdd_tup (x y : List D) : gAdd (.d (.tup x)) (.d (.tup y)) S = if x ≠ [] ∧ y ≠ [] ∧ x.length + y.length ≤ 16777216 then .ok (.d (.tup (x ++ y))) S else .no := rfl
@[simp] theorem gSub_int (i j : Int) : gSub (.d (.int i)) (.d (.int j)) S = .ok (.d (.int (i - j))) S := rfl
@[simp] theorem gMul_int (i j : Int) : gMul (.d (.int i)) (.d (.int j)) S = if MulOk i j then .ok (.d (.int (i * j))) S else .no := rfl
@[simp] theorem gMul_str (x : Str) (k : Int) : gMul (.d (.str x)) (.d (.int k)) S = if 2 ≤ k ∧ k ≤ 1000 ∧ 1 ≤ x.length ∧ x.length ≤ 1000 then .ok (.d (.str (repS x k.toNat))) S else .no := rfl
@[simp] theorem gFloor_int (i j : Int) : gFloor (.d (.int i)) (.d (.int j)) S = if 0 < j ∧ Sm j then .ok (.d (.int (i / j))) S else .no := rfl
@[simp] theorem gMod_int (i j : Int) : gMod (.d (.int i)) (.d (.int j)) S = if 0 < j then .ok (.d (.int (i % j))) S else .no := rfl
@[simp] theorem gPow_int (i j : Int) : gPow (.d (.int i)) (.d (.int j)) S = if 0 ≤ j ∧ j ≤ 1000 ∧ i.natAbs < 2 ^ 64 then .ok (.d (.int (i ^ j.toNat))) S else .no := rfl
@[simp] theorem gNeg_int (i : Int) : gNeg (.d (.int i)) S = .ok (.d (.int (-i))) S := rfl
@[simp] theorem gLt_int (i j : Int) : gLt (.d (.int i)) (.d (.int j)) S = .ok (.d (.bl (decide (i < j)))) S := rfl
@[simp] theorem gGt_int (i j : Int) : gGt (.d (.int i)) (.d (.int j)) S = .ok (.d (.bl (decide (j < i)))) S := rfl
@[simp] theorem gGe_int (i j : Int) : gGe (.d (.int i)) (.d (.int j)) S = .ok (.d (.bl (decide (j ≤ i)))) S := rfl
@[simp] theorem gLe_int (i j : Int) : gLe (.d (.int i)) (.d (.int j)) S = .ok (.d (.bl (decide (i ≤ j)))) S := rfl
@[simp] theorem gLe_str (i j : Str) : gLe (.d (.str i)) (.d (.str j)) S = .ok (.d (.bl (!decide (j.cps.toList < i.cps.toList)))) S := rfl
/-- == of plain data of little depth -/
@[simp] theorem gEq_dd (neg : Bool) (x y : D) : gEq neg (.d x) (.d y) S = if min x.dep y.dep ≤ 64 then .ok (.d (.bl (if neg = true then !eqD x y else eqD x y))) S else .no := rfl
@[simp] theorem dep_int (i : Int) : (D.int i).dep = 0 := by rw [D.dep]
@[simp] theorem dep_bl (i : Bool) : (D.bl i).dep = 0 := by rw [D.dep]
@[simp] theorem dep_str (i : Str) : (D.str i).dep = 0 := by rw [D.dep]
@[simp] theorem dep_non : D.non.dep = 0 := by rw [D.dep]
@[simp] theorem dep_tup (ds : List D) : (D.tup ds).dep = depAll ds + 1 := by rw [D.dep]
@[simp] theorem dep_lst (ds : List D) : (D.lst ds).dep = depAll ds + 1 := by rw [D.dep]
@[simp] theorem depAll_nil : depAll [] = 0 := by rw [depAll]
@[simp] theorem depAll_cons (x : D) (xs : List D) : depAll (x :: xs) = max x.dep (depAll xs) := by rw [depAll]
@[simp] theorem eqD_int (i j : Int) : eqD (.int i) (.int j) = decide (i = j) := by
  rw [eqD]
  by_cases h : i = j
  · simp [h]
  · rw [beq_eq_false_iff_ne.mpr h, decide_eq_false h]
@[simp] theorem eqD_str (i j : Str) : eqD (.str i) (.str j) = decide (i = j) := by
  rw [eqD]
  by_cases h : i = j
  · simp [h]
  · rw [beq_eq_false_iff_ne.mpr h, decide_eq_false h]
@[simp] theorem eqD_bl (i j : Bool) : eqD (.bl i) (.bl j) = decide (i = j) := by cases i <;> cases j <;> rfl
@[simp] theorem eqD_non : eqD .non .non = true := by rw [eqD]
@[simp] theorem eqD_tup (x y : List D) : eqD (.tup x) (.tup y) = eqDs x y := by rw [eqD]
@[simp] theorem eqD_lst (x y : List D) : eqD (.lst x) (.lst y) = eqDs x y := by rw [eqD]
@[simp] theorem eqDs_nil : eqDs [] [] = true := by rw [eqDs]
@[simp] theorem eqDs_cons (x y : D) (xs ys : List D) : eqDs (x :: xs) (y :: ys) = (eqD x y && eqDs xs ys) := by rw [eqDs]
@[simp] theorem gIs_non (neg : Bool) (w : Wv) : gIs neg w (.d .non) S = .ok (.d (.bl (if neg = true then !isNon w else isNon w))) S := rfl
@[simp] theorem isNon_non : isNon (.d .non) = true := rfl
@[simp] theorem isNon_tup (ds : List D) : isNon (.d (.tup ds)) = false := rfl
@[simp] theorem isNon_lst (ds : List D) : isNon (.d (.lst ds)) = false := rfl
@[simp] theorem isNon_int (ds : Int) : isNon (.d (.int ds)) = false := rfl
@[simp] theorem isNon_str (ds : Str) : isNon (.d (.str ds)) = false := rfl
@[simp] theorem isNon_ref (n : Nat) : isNon (.ref n) = false := rfl
@[simp] theorem gIx_int (w : Wv) (i : Int) : gIx w (.d (.int i)) S = gIxI w i S := rfl
theorem gIxI_lst (ds : List D) (i : Int) : gIxI (.d (.lst ds)) i S = match atI ds i with
  | some x => .ok (.d x) S
  | none => .no := by
  unfold gIxI
  simp only [seqW]
  unfold atI
  rw [List.length_map]
  cases ixN ds.length i with
  | none => rfl
  | some j =>
    simp only [Option.bind_some, List.getElem?_map]
    cases ds[j]? <;> rfl
theorem gIxI_tup (ds : List D) (i : Int) : gIxI (.d (.tup ds)) i S = match atI ds i with
  | some x => .ok (.d x) S
  | none => .no := by
  unfold gIxI
  simp only [seqW]
  unfold atI
  rw [List.length_map]
  cases ixN ds.length i with
  | none => rfl
  | some j =>
    simp only [Option.bind_some, List.getElem?_map]
    cases ds[j]? <;> rfl
theorem gIxI_scr (ns : List Int) (i : Int) : gIxI (.scr ns) i S = match atI ns i with
  | some x => .ok (.d (.int x)) S
  | none => .no := by
  unfold gIxI
  simp only [seqW]
  unfold atI
  rw [List.length_map]
  cases ixN ns.length i with
  | none => rfl
  | some j =>
    simp only [Option.bind_some, List.getElem?_map]
    cases ns[j]? <;> rfl
theorem atI_of {α : Type} {xs : List α} {i : Int} {j : Nat} {x : α} (hj : i = (j : Int)) (h : xs[j]? = some x) : atI xs i = some x := by
  subst hj
  exact atI_nat h
/-- items of written tuples and lists -/
@[simp] theorem at0 {α : Type} (a : α) (xs : List α) : atI (a :: xs) 0 = some a := atI_of (j := 0) rfl rfl
@[simp] theorem at1 {α : Type} (a b : α) (xs : List α) : atI (a :: b :: xs) 1 = some b := atI_of (j := 1) rfl rfl
@[simp] theorem at2 {α : Type} (a b c : α) (xs : List α) : atI (a :: b :: c :: xs) 2 = some c := atI_of (j := 2) rfl rfl
@[simp] theorem at3 {α : Type} (a b c d : α) (xs : List α) : atI (a :: b :: c :: d :: xs) 3 = some d := atI_of (j := 3) rfl rfl
@[simp] theorem at4 {α : Type} (a b c d e : α) (xs : List α) : atI (a :: b :: c :: d :: e :: xs) 4 = some e := atI_of (j := 4) rfl rfl
@[simp] theorem gLen_str (z : Str) : gLen [.d (.str z)] S = if z.length ≤ 16777216 then .ok (.d (.int z.length)) S else .no := rfl
@[simp] theorem gLen_lst (z : List D) : gLen [.d (.lst z)] S = .ok (.d (.int z.length)) S := by simp [gLen, seqW]
@[simp] theorem gLen_tup (z : List D) : gLen [.d (.tup z)] S = .ok (.d (.int z.length)) S := by simp [gLen, seqW]
@[simp] theorem gLen_scr (z : List Int) : gLen [.scr z] S = .ok (.d (.int z.length)) S := by simp [gLen, seqW]
@[simp] theorem gAbs_int (i : Int) : gAbs [.d (.int i)] S = .ok (.d (.int (if i < 0 then -i else i))) S := rfl
@[simp] theorem gMax2_int (i j : Int) : gMax2 [.d (.int i), .d (.int j)] S = .ok (.d (.int (if j > i then j else i))) S := rfl
@[simp] theorem gMin2_int (i j : Int) : gMin2 [.d (.int i), .d (.int j)] S = .ok (.d (.int (if j < i then j else i))) S := rfl
@[simp] theorem gInt_int (i : Int) : gInt [.d (.int i)] S = .ok (.d (.int i)) S := rfl
@[simp] theorem gInt_bl (b : Bool) : gInt [.d (.bl b)] S = .ok (.d (.int (if b then 1 else 0))) S := rfl
@[simp] theorem gStr_int (i : Int) : gStr [.d (.int i)] S = if Sm i then .ok (.d (.str (toString i))) S else .no := rfl
@[simp] theorem gStr_str (i : Str) : gStr [.d (.str i)] S = .ok (.d (.str i)) S := rfl
@[simp] theorem gList_lst (z : List D) : gList [.d (.lst z)] S = .ok (.d (.lst z)) S := by simp [gList, seqW, allD_map]
@[simp] theorem gList_tup (z : List D) : gList [.d (.tup z)] S = .ok (.d (.lst z)) S := by simp [gList, seqW, allD_map]
@[simp] theorem gTuple_lst (z : List D) : gTuple [.d (.lst z)] S = .ok (.d (.tup z)) S := by simp [gTuple, seqW, allD_map]
@[simp] theorem gTuple_tup (z : List D) : gTuple [.d (.tup z)] S = .ok (.d (.tup z)) S := by simp [gTuple, seqW]
@[simp] theorem allD_nil : allD [] = some [] := rfl
@[simp] theorem allD_cons (x : D) (r : List Wv) : allD (.d x :: r) = (allD r).map (x :: ·) := rfl
@[simp] theorem gTup_s (ws : List Wv) : gTup ws S = if ws.length ≤ 1000 then match allD ws with
  | some ds => .ok (.d (.tup ds)) S
  | none => if ws.all Wv.calm = true then .ok (.ref S.length) (S ++ [.tup ws]) else .no
  else .no := rfl
@[simp] theorem gLst_s (ws : List Wv) : gLst ws S = if ws.length ≤ 1000 then match allD ws with
  | some ds => .ok (.d (.lst ds)) S
  | none => .no
  else .no := rfl
@[simp] theorem gIsi_int (T : Ty) (i : Int) : gIsi T (.d (.int i)) S = .ok (.d (.bl (match T with | .int => true | _ => false))) S := by cases T <;> rfl
@[simp] theorem gIsi_bl (T : Ty) (i : Bool) : gIsi T (.d (.bl i)) S = .ok (.d (.bl (match T with | .int => true | .bool => true | _ => false))) S := by cases T <;> rfl
@[simp] theorem gIsi_str (T : Ty) (i : Str) : gIsi T (.d (.str i)) S = .ok (.d (.bl (match T with | .str => true | _ => false))) S := by cases T <;> rfl
@[simp] theorem gIsi_tup (T : Ty) (i : List D) : gIsi T (.d (.tup i)) S = .ok (.d (.bl (match T with | .tuple => true | _ => false))) S := by cases T <;> rfl
@[simp] theorem gIsi_lst (T : Ty) (i : List D) : gIsi T (.d (.lst i)) S = .ok (.d (.bl (match T with | .list => true | _ => false))) S := by cases T <;> rfl
@[simp] theorem gIsi_non (T : Ty) : gIsi T (.d .non) S = .ok (.d (.bl false)) S := by cases T <;> rfl
end
end DL

/-! dicts: get, put, values; lists: append, extend, clear, put; attributes put; calls that leave nothing behind -/
namespace DL
open PySem PySem.Spec PyProof.Rows L2
section
variable {X : Cx} {xo : Option (Addr × Nat)} {pos cpos apos : Pos} {o e f : Expr} {fo fa fb : Ev}

/-! ## d.get -/
def isDictW (S : Store) : Wv → Bool
  | .ref n => match S[n]? with
    | some (.dK _) => true
    | some (.dT _) => true
    | _ => false
  | _ => false
theorem isDictW_rep {G : Gc} {F : Hp} {ι : List Addr} {S : Store} {H : Hp} {w : Wv} {v : V} (r : Real G F ι S H) (h : RepW G F ι w v) (c : isDictW S w = true) : ∃ a, v = .ref a ∧ IsD H a := by
  unfold isDictW at c
  split at c
  · obtain ⟨a, e1, rfl⟩ := h
    split at c
    · rename_i kvs e2
      obtain ⟨_, _, e3, l, rfl, _⟩ := r.at_ _ a _ e1 e2 (fun z => nomatch z)
      exact ⟨a, rfl, .inl ⟨l, .inl e3⟩⟩
    · rename_i kvs e2
      obtain ⟨_, _, e3, l, rfl, _⟩ := r.at_ _ a _ e1 e2 (fun z => nomatch z)
      exact ⟨a, rfl, .inr ⟨l, .inl e3⟩⟩
    · cases c
  · cases c
def evGet2 (fo fa fb : Ev) : Ev := fun ρ S => (fo ρ S).bind fun d S1 => if isDictW S1 d = true then (fa ρ S1).bind fun k S2 => (fb ρ S2).bind fun x S3 => match dictW S3 d k with
  | some (some v) => .ok v S3
  | some none => .ok x S3
  | none => .no
  else .no
def evGet1 (fo fa : Ev) : Ev := fun ρ S => (fo ρ S).bind fun d S1 => if isDictW S1 d = true then (fa ρ S1).bind fun k S2 => match dictW S2 d k with
  | some (some v) => .ok v S2
  | some none => .ok (.d .non) S2
  | none => .no
  else .no
theorem de_get2 (hu : X.A.units + 64 < cLine) (ho : DE X xo o fo) (ha : DE X xo e fa) (hb : DE X xo f fb) (m : M2 X o "get" apos e f cpos) : DE X xo (.Call (.Attribute o "get" apos) [e, f] [] cpos) (evGet2 fo fa fb) :=
  ⟨fun W tk => pe_imp (pe_dget2 (by omega) (ho.run W tk) (ha.run W tk) (hb.run W tk) m) fun σ H Q ⟨F, ι, S, ρ, rl, en, p⟩ => TEo.step rl en p fun F1 ι1 S1 H1 d vd x1 r1 en1 hd p1 => by
    split at p1
    · rename_i hc
      obtain ⟨a, rfl, is⟩ := isDictW_rep r1 hd hc
      refine ⟨a, rfl, is, TEo.step r1 en1 p1 fun F2 ι2 S2 H2 k vk x2 r2 en2 hk p2 => TEo.step r2 en2 p2 fun F3 ι3 S3 H3 z vz x3 r3 en3 hz p3 => ?_⟩
      have hd3 := (hd.ext x2).ext x3
      have hk3 := hk.ext x3
      split at p3
      · rename_i v e1
        obtain ⟨a', ea, h⟩ := dictW_rep r3 hd3 hk3 e1
        cases ea
        rcases h with ⟨h, _⟩ | ⟨u, y, e2, h, r⟩
        · cases h
        · cases e2
          exact ⟨_, h, ret_w p3 r3 r⟩
      · rename_i e1
        obtain ⟨a', ea, h⟩ := dictW_rep r3 hd3 hk3 e1
        cases ea
        rcases h with ⟨_, h⟩ | ⟨u, y, e2, h, r⟩
        · exact ⟨_, h, ret_w p3 r3 hz⟩
        · cases e2
      · exact p3.elim
    · exact p1.elim⟩
theorem de_get1 (hu : X.A.units + 64 < cLine) (ho : DE X xo o fo) (ha : DE X xo e fa) (m : M1 X o "get" apos e cpos) : DE X xo (.Call (.Attribute o "get" apos) [e] [] cpos) (evGet1 fo fa) :=
  ⟨fun W tk => pe_imp (pe_dget1 (by omega) (ho.run W tk) (ha.run W tk) m) fun σ H Q ⟨F, ι, S, ρ, rl, en, p⟩ => TEo.step rl en p fun F1 ι1 S1 H1 d vd x1 r1 en1 hd p1 => by
    split at p1
    · rename_i hc
      obtain ⟨a, rfl, is⟩ := isDictW_rep r1 hd hc
      refine ⟨a, rfl, is, TEo.step r1 en1 p1 fun F2 ι2 S2 H2 k vk x2 r2 en2 hk p2 => ?_⟩
      have hd3 := hd.ext x2
      split at p2
      · rename_i v e1
        obtain ⟨a', ea, h⟩ := dictW_rep r2 hd3 hk e1
        cases ea
        rcases h with ⟨h, _⟩ | ⟨u, y, e2, h, r⟩
        · cases h
        · cases e2
          exact ⟨_, h, ret_w p2 r2 r⟩
      · rename_i e1
        obtain ⟨a', ea, h⟩ := dictW_rep r2 hd3 hk e1
        cases ea
        rcases h with ⟨_, h⟩ | ⟨u, y, e2, h, r⟩
        · exact ⟨_, h, p2.now (.refl _ _ _) r2 _ (w_non.mpr rfl)⟩
        · cases e2
      · exact p2.elim
    · exact p1.elim⟩

/-! ## d[k] = v -/
def dPut (S : Store) (n : Nat) (k v : Wv) : Option Store := if v.calm = true then match S[n]? with
  | some (.dK kvs) => if kvs.length < 16777216 then (asKey k).map fun k => S.set n (.dK (putKW kvs k v)) else none
  | some (.dT kvs) => if kvs.length < 16777216 then match k with
    | .d (.tup ds) => (keysOf ds).map fun ks => S.set n (.dT (putKW kvs ks v))
    | _ => none
    else none
  | _ => none
  else none
def sDPutS (fo fa fv : Ev) : Sv := fun ρ S => (fv ρ S).toS ρ fun v S1 => (fo ρ S1).toS ρ fun d S2 => (fa ρ S2).toS ρ fun k S3 => match d with
  | .ref n => match dPut S3 n k v with
    | some S4 => .nx ρ S4
    | none => .no
  | _ => .no
theorem dPut_rep {G : Gc} {F : Hp} {ι : List Addr} {S S' : Store} {H : Hp} {n : Nat} {k v : Wv} {vd vk vv : V} (r : Real G F ι S H) (hd : RepW G F ι (.ref n) vd) (hk : RepW G F ι k vk) (hv : RepW G F ι v vv) (e : dPut S n k v = some S') :
    ∃ a H', vd = .ref a ∧ DPut H a vk vv H' ∧ Real G F ι S' H' ∧ Ext F ι H F ι H' := by
  obtain ⟨a, e1, rfl⟩ := hd
  unfold dPut at e
  split at e
  · rename_i hc
    have hv' := calm_of hv hc
    split at e
    · rename_i kvs e2
      split at e
      · rename_i hl
        cases q : asKey k with
        | none => rw [q] at e; cases e
        | some kk =>
          rw [q] at e; cases e
          obtain ⟨_, _, e3, l, rfl, kv⟩ := r.at_ n a _ e1 e2 (fun z => nomatch z)
          obtain rfl := asKey_rep hk q
          exact ⟨a, _, rfl, DPut.k e3 (by rw [← kvr_len kv, sizeLine_eq]; exact hl), r.put e1 e2 (fun z => nomatch z) ⟨_, rfl, kvr_put kv kk hv'⟩, Ext.put e1⟩
      · cases e
    · rename_i kvs e2
      split at e
      · rename_i hl
        split at e
        · rename_i ds
          cases q : keysOf ds with
          | none => rw [q] at e; cases e
          | some ks =>
            rw [q] at e; cases e
            obtain ⟨_, _, e3, l, rfl, kv⟩ := r.at_ n a _ e1 e2 (fun z => nomatch z)
            obtain ⟨b, xs, rfl, h5, h6⟩ := w_tup.mp hk
            have ex := keysOf_rep h6 q
            subst ex
            exact ⟨a, _, rfl, DPut.t e3 (r.frz _ _ h5) (by rw [← kvr_len kv, sizeLine_eq]; exact hl), r.put e1 e2 (fun z => nomatch z) ⟨_, rfl, kvr_put kv ks hv'⟩, Ext.put e1⟩
        · cases e
      · cases e
    · cases e
  · cases e
theorem ds_dput {i value : Expr} {pos' : Pos} {fi fv : Ev} (hu : X.A.units + 64 < cLine) (ho : DE X xo o fo) (hi : DE X xo i fi) (hv : DE X xo value fv) (hs : swapsWith value (some (.Subscript o i pos')) pos.line X.env = pure false) :
    DS X xo (.Assign [.Subscript o i pos'] value pos) (sDPutS fo fi fv) :=
  ⟨fun W tk => ps_imp (ps_dput (by omega) (ho.run W tk) (hi.run W tk) (hv.run W tk) hs) fun Dn σ H ⟨F, ι, S, ρ, r, en, p⟩ => TEo.stepS r en p fun F1 ι1 S1 H1 v vv x1 r1 en1 hv1 p1 => TEo.stepS r1 en1 p1 fun F2 ι2 S2 H2 d vd x2 r2 en2 hd p2 => TEo.stepS r2 en2 p2 fun F3 ι3 S3 H3 k vk x3 r3 en3 hk p3 => by
    split at p3
    · split at p3
      · rename_i n S4 e
        obtain ⟨a, H4, rfl, h1, h2, h3⟩ := dPut_rep r3 (hd.ext x3) hk ((hv1.ext x2).ext x3) e
        exact ⟨a, H4, rfl, h1, (p3.ext h3).nxt h2 (en3.ext h3)⟩
      · exact p3.elim
    · exact p3.elim⟩

/-! ## list methods -/
def lstOf (S : Store) : Wv → Option (Nat × List Wv)
  | .ref n => match S[n]? with
    | some (.lst ws) => some (n, ws)
    | _ => none
  | _ => none
theorem lstOf_rep {G : Gc} {F : Hp} {ι : List Addr} {S : Store} {H : Hp} {w : Wv} {v : V} {n : Nat} {ws : List Wv} (r : Real G F ι S H) (h : RepW G F ι w v) (e : lstOf S w = some (n, ws)) :
    ∃ a xs, v = .ref a ∧ H a = some (.lst xs) ∧ RepWs G.calm F ι ws xs ∧ ι[n]? = some a ∧ S[n]? = some (.lst ws) := by
  unfold lstOf at e
  split at e
  · split at e
    · rename_i e2
      cases e
      obtain ⟨a, e1, rfl⟩ := h
      obtain ⟨_, _, e3, l, rfl, q⟩ := r.at_ _ a _ e1 e2 (fun z => nomatch z)
      exact ⟨a, l, rfl, e3, q, e1, e2⟩
    · cases e
  · cases e
def gAppend (w u : Wv) (S : Store) : Res Wv := if u.calm = true then match lstOf S w with
  | some (n, ws) => if ws.length < 16777216 then .ok (.d .non) (S.set n (.lst (ws ++ [u]))) else .no
  | none => .no
  else .no
def lstAny (S : Store) : Wv → Option (List Wv)
  | .d (.lst ds) => some (ds.map .d)
  | .ref n => match S[n]? with
    | some (.lst ws) => some ws
    | _ => none
  | _ => none
def gExtend (w u : Wv) (S : Store) : Res Wv := match lstOf S w, lstAny S u with
  | some (n, ws), some us => if ws.length + us.length ≤ 16777216 then .ok (.d .non) (S.set n (.lst (ws ++ us))) else .no
  | _, _ => .no
def gClear (w : Wv) (S : Store) : Res Wv := match lstOf S w with
  | some (n, ws) => .ok (.d .non) (S.set n (.lst []))
  | none => .no
/-- o.m(e) of a list: o is a list when it is asked for its method -/
def evLm (g : Wv → Wv → Store → Res Wv) (fo fa : Ev) : Ev := fun ρ S => (fo ρ S).bind fun w S1 => if (lstOf S1 w).isSome = true then (fa ρ S1).bind fun u S2 => g w u S2 else .no
theorem lstOf_ty {G : Gc} {F : Hp} {ι : List Addr} {S : Store} {H : Hp} {w : Wv} {v : V} (r : Real G F ι S H) (h : RepW G F ι w v) (c : (lstOf S w).isSome = true) : tyV G.K "list" v H := by
  cases q : lstOf S w with
  | none => rw [q] at c; cases c
  | some p =>
    obtain ⟨a, xs, rfl, e, _⟩ := lstOf_rep (n := p.1) (ws := p.2) r h q
    unfold tyV
    exact .inl ⟨rfl, xs, .inl (.inl e)⟩

theorem lstAny_rep {G : Gc} {F : Hp} {ι : List Addr} {S : Store} {H : Hp} {w : Wv} {v : V} {ws : List Wv} (r : Real G F ι S H) (h : RepW G F ι w v) (e : lstAny S w = some ws) : ∃ a xs, v = .ref a ∧ H a = some (.lst xs) ∧ RepWs G.calm F ι ws xs := by
  unfold lstAny at e
  split at e
  · cases e
    obtain ⟨a, xs, rfl, q, p⟩ := w_lst.mp h
    exact ⟨a, xs, rfl, r.frz _ _ q, repWs_of p⟩
  · split at e
    · rename_i e2
      cases e
      obtain ⟨a, xs, rfl, _, q, p⟩ := r.ref_lst h e2
      exact ⟨a, xs, rfl, q, p⟩
    · cases e
  · cases e
structure LmG (X : Cx) (xo : Option (Addr × Nat)) (name : Str) (g : Wv → Wv → Store → Res Wv) : Prop where
  ex : ∃ id r, Slot "list" name id ∧ typeOf (.builtin id) = (pure (.type "method_descriptor") : Sem Value) ∧ MtR X id r ∧
    ∀ (W : WX) (F : Hp) (ι : List Addr) (S : Store) (H : Hp) (σ : St) (x y : V) (w u : Wv) (Q : VK), Real (gc X xo) F ι S H → RepW (gc X xo) F ι w x → RepW (gc X xo) F ι u y → PostE (gc X xo) W F ι H σ (g w u S) Q → r x [y] H Q
theorem lm_append : LmG X xo "append" gAppend := ⟨"list.append", rAppend, PySem.F.slot_list_append, PySem.F.type_list_append, mt_append, by
  intro W F ι S H σ x y w u Q r hx hy p
  unfold gAppend at p
  split at p
  · rename_i hc
    split at p
    · rename_i n ws e
      split at p
      · rename_i hl
        obtain ⟨a, xs, rfl, e1, e2, e3, e4⟩ := lstOf_rep r hx e
        exact ⟨a, xs, y, rfl, rfl, e1, by rw [← e2.length, sizeLine_eq]; exact hl, ret_put p r e3 e4 (fun z => nomatch z) ⟨_, rfl, p2app e2 (.cons (calm_of hy hc) .nil)⟩ (w_non.mpr rfl)⟩
      · exact p.elim
    · exact p.elim
  · exact p.elim⟩
theorem lm_extend : LmG X xo "extend" gExtend := ⟨"list.extend", rExtend, PySem.F.slot_list_extend, PySem.F.type_list_extend, mt_extend, by
  intro W F ι S H σ x y w u Q r hx hy p
  unfold gExtend at p
  split at p
  · rename_i n ws us e f
    split at p
    · rename_i hl
      obtain ⟨a, xs, rfl, e1, e2, e3, e4⟩ := lstOf_rep r hx e
      obtain ⟨b, zs, rfl, f1, f2⟩ := lstAny_rep r hy f
      exact ⟨a, b, xs, zs, rfl, rfl, e1, f1, by rw [← e2.length, ← f2.length, sizeLine_eq]; exact hl, ret_put p r e3 e4 (fun z => nomatch z) ⟨_, rfl, p2app e2 f2⟩ (w_non.mpr rfl)⟩
    · exact p.elim
  · exact p.elim⟩
theorem de_lm {name : Str} {g : Wv → Wv → Store → Res Wv} (k : LmG X xo name g) (ho : DE X xo o fo) (ha : DE X xo e fa)
    (hbase : attributeBase o name X.env (eval o X.env) = eval o X.env := by rfl)
    (hfew : ((backTo cpos (starEach [e] X.env)).all (fun x => !x.1) && (backToKw cpos (keywordEach [] X.env)).all (fun x => x.1.isSome)
      && decide ([e].length + ([] : List Keyword).length + (if ([] : List Keyword).isEmpty then 0 else 1) < 30)) = true := by rfl)
    (hline : (apos.endLine == cpos.line) = true := by rfl) (hs : starEach [e] X.env = (false, eval e X.env) :: starEach [] X.env := by rfl) (hplain : (backTo cpos (starEach [] X.env)).any (·.1) = false := by rfl) :
    DE X xo (.Call (.Attribute o name apos) [e] [] cpos) (evLm g fo fa) := by
  obtain ⟨id, r, sl, ty, mt, ok⟩ := k.ex
  exact ⟨fun W tk => pe_imp (pe_bm PySem.F.plainAttrs_list sl ty mt (ho.run W tk) (pa_cons (ha.run W tk) pa_nil hs) hbase hfew hline hs hplain) fun σ H Q ⟨F, ι, S, ρ, rl, en, p⟩ => TEo.step rl en p fun F1 ι1 S1 H1 w v x1 r1 en1 hv p1 => by
    split at p1
    · rename_i hc
      refine ⟨lstOf_ty r1 hv hc, TEo.step r1 en1 p1 fun F2 ι2 S2 H2 u y x2 r2 en2 hy p2 => ?_⟩
      exact ok W F2 ι2 S2 H2 σ v y w u Q r2 (hv.ext x2) hy p2
    · exact p1.elim⟩
theorem de_clear (ho : DE X xo o fo) (hbase : attributeBase o "clear" X.env (eval o X.env) = eval o X.env := by rfl) (hline : (apos.endLine == cpos.line) = true := by rfl) : DE X xo (.Call (.Attribute o "clear" apos) [] [] cpos) (evUn gClear fo) :=
  ⟨fun W tk => pe_imp (pe_bm0 PySem.F.plainAttrs_list PySem.F.slot_list_clear PySem.F.type_list_clear mt_clear (ho.run W tk) hbase hline) fun σ H Q ⟨F, ι, S, ρ, rl, en, p⟩ => TEo.step rl en p fun F1 ι1 S1 H1 w v x1 r1 en1 hv p1 => by
    unfold gClear at p1
    split at p1
    · rename_i n ws e
      obtain ⟨a, xs, rfl, e1, e2, e3, e4⟩ := lstOf_rep r1 hv e
      exact ⟨.inl ⟨rfl, xs, .inl (.inl e1)⟩, a, xs, rfl, rfl, e1, ret_put p1 r1 e3 e4 (fun z => nomatch z) ⟨_, rfl, .nil⟩ (w_non.mpr rfl)⟩
    · exact p1.elim⟩
/-- o[i] = v of a list of the store -/
def sLPut (fo fa fv : Ev) : Sv := fun ρ S => (fv ρ S).toS ρ fun v S1 => (fo ρ S1).toS ρ fun d S2 => (fa ρ S2).toS ρ fun k S3 => match k with
  | .d (.int i) => if v.calm = true then match lstOf S3 d with
    | some (n, ws) => match ixN ws.length i with
      | some j => .nx ρ (S3.set n (.lst (ws.set j v)))
      | none => .no
    | none => .no
    else .no
  | _ => .no
theorem ds_lput {i value : Expr} {pos' : Pos} {fi fv : Ev} (ho : DE X xo o fo) (hi : DE X xo i fi) (hv : DE X xo value fv) (hs : swapsWithSole [.Subscript o i pos'] value pos.line X.env = pure false := by rfl) (hw : swappedStores [.Subscript o i pos'] value X.env = pure none := by rfl)
    (h1 : (assignEach [.Subscript o i pos'] X.env).map (·.2) = [assign (.Subscript o i pos') X.env] := by rfl)
    (ha : ∀ v, assign (.Subscript o i pos') X.env v = (do
      let ov ← holding [v] (eval o X.env)
      let iv ← holding [v, ov] (eval i X.env)
      standAt pos'
      holding [v, ov, iv] (setItem ov iv v)
      release [v, ov, iv] []) := by intro _; rfl) :
    DS X xo (.Assign [.Subscript o i pos'] value pos) (sLPut fo fi fv) :=
  ⟨fun W tk => ps_imp (ps_asg (hv.run W tk) (pg_sub (ho.run W tk) (hi.run W tk) set_list ha) hs hw h1) fun Dn σ H ⟨F, ι, S, ρ, r, en, p⟩ => TEo.stepS r en p fun F1 ι1 S1 H1 v vv x1 r1 en1 hv1 p1 => TEo.stepS r1 en1 p1 fun F2 ι2 S2 H2 d vd x2 r2 en2 hd p2 => TEo.stepS r2 en2 p2 fun F3 ι3 S3 H3 k vk x3 r3 en3 hk p3 => by
    split at p3
    · rename_i z
      split at p3
      · rename_i hc
        split at p3
        · rename_i n ws e
          split at p3
          · rename_i j ej
            obtain ⟨a, xs, rfl, e1, e2, e3, e4⟩ := lstOf_rep r3 (hd.ext x3) e
            exact ⟨a, xs, z, j, rfl, w_int.mp hk, e1, by rw [← e2.length]; exact ej, (p3.ext (Ext.put e3)).nxt (r3.put e3 e4 (fun z => nomatch z) ⟨_, rfl, p2set (calm_of ((hv1.ext x2).ext x3) hc) j e2⟩) en3⟩
          · exact p3.elim
        · exact p3.elim
      · exact p3.elim
    · exact p3.elim⟩

/-! ## o.f = v -/
def putWs (i : Nat) (v : Wv) (ws : List Wv) : List Wv := if i < ws.length then ws.set i v else ws ++ [v]
def fldPut (S : Store) (C i : Nat) (w v : Wv) : Option Store := match w with
  | .ref n => match S[n]? with
    | some (.ins C' ws) => if C' = C ∧ i ≤ ws.length ∧ v.calm = true then some (S.set n (.ins C (putWs i v ws))) else none
    | _ => none
  | _ => none
def sFld (C i : Nat) (fo fv : Ev) : Sv := fun ρ S => (fv ρ S).toS ρ fun v S1 => (fo ρ S1).toS ρ fun w S2 => match fldPut S2 C i w v with
  | some S3 => .nx ρ S3
  | none => .no
theorem putF_at {f : Str} {y : V} : ∀ {l : List (Str × V)} {i : Nat}, (l.map (·.1)).Nodup → (l.map (·.1))[i]? = some f → putF f y l = l.set i (f, y)
  | [], i, _, h => by simp at h
  | (k, x) :: l, 0, _, h => by
    have : k = f := by simpa using h
    subst this
    rw [putF, if_pos rfl]; rfl
  | (k, x) :: l, i + 1, nd, h => by
    simp only [List.map_cons, List.nodup_cons] at nd
    have h' : (l.map (·.1))[i]? = some f := by simpa using h
    have ne : k ≠ f := fun e => nd.1 (e ▸ List.mem_of_getElem? h')
    rw [putF, if_neg ne, putF_at nd.2 h']; rfl
theorem putF_new {f : Str} {y : V} : ∀ {l : List (Str × V)}, f ∉ l.map (·.1) → putF f y l = l ++ [(f, y)]
  | [], _ => rfl
  | (k, x) :: l, h => by
    simp only [List.map_cons, List.mem_cons, not_or] at h
    rw [putF, if_neg (Ne.symm h.1), putF_new h.2]; rfl
theorem fldPut_rep {G : Gc} {F : Hp} {ι : List Addr} {S S' : Store} {H : Hp} {w v : Wv} {vw vv : V} {C i : Nat} {f : Str} (k : FldOk G.K C i f) (r : Real G F ι S H) (hw : RepW G F ι w vw) (hv : RepW G F ι v vv) (e : fldPut S C i w v = some S') :
    ∃ a Ca dx fs, vw = .ref a ∧ H a = some (.ins Ca dx fs) ∧ Cls G.K Ca ∧ NoAttr G.K Ca f ∧ fs.length < 1000 ∧ Real G F ι S' (upd H a (.ins Ca dx (putF f vv fs))) ∧ Ext F ι H F ι (upd H a (.ins Ca dx (putF f vv fs))) := by
  obtain ⟨Ca, fs, e1, nd, e2, c1, c2⟩ := k.ex
  unfold fldPut at e
  split at e
  · rename_i n
    split at e
    · rename_i C' ws e3
      split at e
      · rename_i hh
        obtain ⟨rfl, hi, hc⟩ := hh
        cases e
        obtain ⟨a, e5, rfl⟩ := hw
        obtain ⟨_, _, e6, Ca', fs', dx, l, rfl, e7, e8, e9, e10⟩ := r.at_ n a _ e5 e3 (fun z => nomatch z)
        have e7' : (⟨G.K, none⟩ : Gc).cls C' = some (Ca', fs') := e7
        rw [e1] at e7'
        cases e7'
        have hl : l.length = ws.length := by have := e10.length; simpa using this.symm
        have hfl : fs.length < 1000 := by
          have : clsTab[C']?.map (fun p => (He.ga G.K p.1, p.2)) = some (Ca, fs) := e1
          match C', this with
          | 0, h => cases h; decide
          | 1, h => cases h; decide
          | n + 2, h => simp [clsTab] at h
        refine ⟨a, Ca, dx, l, rfl, e6, c1, c2, by omega, r.put e5 e3 (fun z => nomatch z) ?_, Ext.put e5⟩
        have hv' := calm_of hv hc
        have hnd : (l.map (·.1)).Nodup := by rw [e8]; exact take_nodup nd _
        by_cases hlt : i < ws.length
        · have h1 : (l.map (·.1))[i]? = some f := by rw [e8, List.getElem?_take_of_lt hlt]; exact e2
          rw [putF_at hnd h1]
          unfold putWs
          rw [if_pos hlt]
          refine ⟨Ca, fs, dx, _, rfl, e1, ?_, by rw [List.length_set]; exact e9, ?_⟩
          · rw [List.map_set, List.length_set, ← e8]
            apply List.ext_getElem?
            intro m
            by_cases hm : i = m
            · subst hm
              rw [List.getElem?_set_self (by rw [List.length_map, hl]; exact hlt), h1]
            · rw [List.getElem?_set_ne hm]
          · rw [List.map_set]
            exact p2set hv' i e10
        · have ei : i = ws.length := by omega
          subst ei
          have hn : f ∉ l.map (·.1) := fun hm => by
            rw [e8] at hm
            obtain ⟨m, hm1, hm2⟩ := List.getElem_of_mem hm
            rw [List.getElem_take] at hm2
            have hm3 : m < ws.length := by rw [List.length_take] at hm1; omega
            obtain ⟨q1, q2⟩ := List.getElem?_eq_some_iff.mp e2
            have := (List.getElem_inj (xs := fs) (h₀ := by omega) (h₁ := q1) nd).mp (hm2.trans q2.symm)
            omega
          rw [putF_new hn]
          unfold putWs
          rw [if_neg hlt]
          obtain ⟨q1, q2⟩ := List.getElem?_eq_some_iff.mp e2
          refine ⟨Ca, fs, dx, _, rfl, e1, ?_, by rw [List.length_append]; exact q1, ?_⟩
          · rw [List.map_append, e8, List.length_append, List.length_singleton, List.take_add_one, e2]
            rfl
          · rw [List.map_append]
            exact p2app e10 (.cons hv' .nil)
      · cases e
    · cases e
  · cases e
theorem ds_fld {C i : Nat} {g : Str} {value : Expr} {pos' : Pos} {fv : Ev} (k : FldOk X.K C i g) (ho : DE X xo o fo) (hv : DE X xo value fv) (hs : swapsWith value (some (.Attribute o g pos')) pos.line X.env = pure false) :
    DS X xo (.Assign [.Attribute o g pos'] value pos) (sFld C i fo fv) :=
  ⟨fun W tk => ps_imp (ps_fld (ho.run W tk) (hv.run W tk) hs) fun Dn σ H ⟨F, ι, S, ρ, r, en, p⟩ => TEo.stepS r en p fun F1 ι1 S1 H1 v vv x1 r1 en1 hv1 p1 => TEo.stepS r1 en1 p1 fun F2 ι2 S2 H2 d vd x2 r2 en2 hd p2 => by
    split at p2
    · rename_i S3 e
      obtain ⟨a, Ca, dx, fs, h1, h2, h3, h4, h5, h6, h7⟩ := fldPut_rep k r2 hd (hv1.ext x2) e
      exact ⟨a, Ca, dx, fs, h1, h2, h3, h4, h5, (p2.ext h7).nxt h6 (en2.ext h7)⟩
    · exact p2.elim⟩
end
end DL

/-! [f(x) for x in d.values()]; calls that leave nothing behind -/
namespace DL
open PySem PySem.Spec PyProof.Rows L2
section
variable {X : Cx} {xo : Option (Addr × Nat)} {pos cpos apos : Pos} {o e f : Expr} {fo fa fb : Ev}
/-- an iterator's turns, by what stays true of the items -/
def WalksC (G : Gc) (C : Hp → List Addr → Prop) (ws : List Wv) (chk : Store → Prop) (J : It) : Prop :=
  ∀ (i : Nat) (F : Hp) (ι : List Addr) (S : Store) (H : Hp), i ≤ ws.length → Real G F ι S H → C F ι → chk S →
    (∀ u, ws[i]? = some u → J.go i H ∧ ∀ x H', J.yld i H x H' → H' = H ∧ RepW G.calm F ι u x) ∧ (i = ws.length → J.stop i H)
theorem lc_body {k : List Wv → Store → Res Wv} {i : Nat} {vs : List Nat} {t : Env → Store → Res Bool} {f : Ev} {W : WX} {σ : St} {Q : VK} {C : Hp → List Addr → Prop} {ws : List Wv} {chk : Store → Prop} {J : It} {F1 H1 : Hp} {ι1 : List Addr} {S1 : Store} {ρ : Env}
    (hk : Kp (gc X xo) k) (hi : i ∈ vs) (hC : ∀ F ι H F' ι' H', Ext F ι H F' ι' H' → C F ι → C F' ι') (hw : WalksC (gc X xo) C ws chk J) (r1 : Real (gc X xo) F1 ι1 S1 H1) (en1' : REnv (gc X xo) F1 ι1 σ ρ) (hv : C F1 ι1)
    (p1 : PostE (gc X xo) W F1 ι1 H1 σ ((if ws.length ≤ 16777216 then lcL chk i t f ws (wipeE ρ vs) S1 [] else .no).bind k) Q) :
    ∀ D, H1 D = none → ∃ Wi : Nat → Nat → Hp → Prop, (∃ m, Wi 0 m (upd H1 D (.lst []))) ∧ ∀ n m H, Wi n m H →
      (J.stop n H ∧ Q (.ref D) H) ∨ (J.go n H ∧ ∃ Nx : Hp → Prop, (∀ H', Nx H' → ∃ m', m' < m ∧ Wi (n + 1) m' H') ∧ ∀ x H', J.yld n H x H' → gName i x (wipe σ vs) H' fun σ2 H2 => wipe σ2 vs = wipe σ vs ∧ TTo (gc X xo) (fun _ _ _ _ => False) t σ2 H2 fun b H3 =>
        if b = true then TEo (gc X xo) (fun _ _ _ _ => False) f σ2 H3 fun y H4 => ∃ acc, H4 D = some (.lst acc) ∧ acc.length < sizeLine ∧ Nx (upd H4 D (.lst (acc ++ [y]))) else Nx H3) := by
  intro D hD
  split at p1
  rotate_left
  · exact p1.elim
  rename_i hz
  have en1 : REnv (gc X xo) F1 ι1 (wipe σ vs) (wipeE ρ vs) := en1'.wipe vs
  have hFD : F1 D = none := r1.fnone hD
  have hiD : D ∉ ι1 := r1.notin hD
  let Iv : Nat → Hp → Prop := fun n H => ∃ F ι S acc xs, Ext F1 ι1 H1 F ι H ∧ Real (gc X xo) F ι S H ∧ H D = some (.lst xs) ∧ F D = none ∧ D ∉ ι ∧ RepWs (gc X xo).calm F ι acc xs ∧ acc.length ≤ n ∧ C F ι ∧
    PostE (gc X xo) W F1 ι1 H1 σ ((lcL chk i t f (ws.drop n) (wipeE ρ vs) S acc).bind k) Q
  have x0 : Ext F1 ι1 H1 F1 ι1 (upd H1 D (.lst [])) := ⟨fun _ _ e => e, ⟨[], by simp⟩, fun b o e n => ⟨n, by rw [upd_ne (ne_of_none e hD)]; exact e⟩, fun _ _ _ _ e _ => e⟩
  refine ⟨fun n m H => m = ws.length - n ∧ n ≤ ws.length ∧ Iv n H, ⟨ws.length, by simp, Nat.zero_le _, F1, ι1, S1, [], [], x0, r1.other hFD hiD, upd_same, hFD, hiD, .nil, Nat.le_refl _, hv, p1⟩, ?_⟩
  rintro n m H2 ⟨rfl, hn, F2, ι2, S2, acc, xs, x2, r2, hD2, hF2, hi2, ha2, hl2, hv2, p2⟩
  by_cases hlt : n < ws.length
  · right
    rw [List.drop_eq_getElem_cons hlt, lcL] at p2
    split at p2
    · rename_i hch
      obtain ⟨hg, _⟩ := hw n F2 ι2 S2 H2 hn r2 hv2 hch
      obtain ⟨hgo, hy⟩ := hg _ (List.getElem?_eq_getElem hlt)
      refine ⟨hgo, Iv (n + 1), fun H' hh => ⟨ws.length - (n + 1), by omega, rfl, hlt, hh⟩, fun y H' hyy => ?_⟩
      obtain ⟨rfl, ry⟩ := hy y H' hyy
      refine ⟨wipe_set hi, ?_⟩
      have en2 : REnv (gc X xo) F2 ι2 ((wipe σ vs).set i (some y)) ((wipeE ρ vs).set i (some ws[n])) := (en1.mono x2.fz x2.pre).set i (uncalm ry)
      refine ⟨F2, ι2, S2, _, r2, en2, ?_⟩
      cases e : t ((wipeE ρ vs).set i (some ws[n])) S2 with
      | no => rw [e] at p2; exact p2.elim
      | rz c S3 => rw [e] at p2; exact p2.elim
      | ok b S3 =>
        rw [e] at p2
        intro F3 ι3 H3 x3 r3
        obtain ⟨hi3, hD3⟩ := x3.fr D _ hD2 hi2
        have hF3 := x3.fn D _ hD2 hi2 hF2 (fun _ z => nomatch z)
        cases b with
        | false =>
          rw [if_neg Bool.false_ne_true]
          exact ⟨F3, ι3, S3, acc, xs, x2.trans x3, r3, hD3, hF3, hi3, p2imp (fun _ _ z => z.ext x3) ha2, by omega, hC _ _ _ _ _ _ x3 hv2, p2⟩
        | true =>
          rw [if_pos rfl]
          simp only at p2
          refine ⟨F3, ι3, S3, _, r3, en2.ext x3, ?_⟩
          cases e2 : f ((wipeE ρ vs).set i (some ws[n])) S3 with
          | no => rw [e2] at p2; exact p2.elim
          | rz c S4 => rw [e2] at p2; exact p2.elim
          | ok z S4 =>
            rw [e2] at p2
            intro F4 ι4 H4 x4 r4 zv hzv
            obtain ⟨hi4, hD4⟩ := x4.fr D _ hD3 hi3
            have hF4 := x4.fn D _ hD3 hi3 hF3 (fun _ z => nomatch z)
            simp only at p2
            split at p2
            · rename_i hcz
              have ha4 : RepWs (gc X xo).calm F4 ι4 acc xs := p2imp (fun _ _ z => (z.ext x3).ext x4) ha2
              have xx := (x2.trans x3).trans x4
              refine ⟨xs, hD4, ?_, F4, ι4, S4, acc ++ [z], xs ++ [zv], ⟨xx.fz, xx.pre, fun b o q n => ?_, xx.fn⟩, r4.other hF4 hi4, upd_same, hF4, hi4, p2app ha4 (.cons (calm_of hzv hcz) .nil), by simp; omega, hC _ _ _ _ _ _ x4 (hC _ _ _ _ _ _ x3 hv2), p2⟩
              · rw [← ha4.length, sizeLine_eq]
                omega
              · obtain ⟨n1, q1⟩ := xx.fr b o q n
                exact ⟨n1, by rw [upd_ne (ne_of_none q hD)]; exact q1⟩
            · exact p2.elim
    · exact p2.elim
  · left
    have en' : n = ws.length := by omega
    subst en'
    rw [List.drop_length, lcL] at p2
    split at p2
    · rename_i hch
      exact ⟨(hw _ F2 ι2 S2 H2 hn r2 hv2 hch).2 rfl, hk W F1 F2 ι1 ι2 S2 H1 H2 σ acc xs D Q x2 hD r2 hD2 hF2 hi2 ha2 p2⟩
    · exact p2.elim

/-! ## a locked dict -/
section
variable {G : Gc} {F : Hp} {ι : List Addr} {S : Store} {H : Hp} {a : Addr} {od : Obj} {l : List (Key × V)}
theorem Real.lockD {n : Nat} {kvs : List (Key × Wv)} (r : Real G F ι S H) (e1 : ι[n]? = some a) (e2 : S[n]? = some (.dK kvs)) : Real G (upd F a (.frz od (.dK l))) ι (S.set n .dead) (upd H a (.frz od (.dK l))) := by
  obtain ⟨hF, _⟩ := r.at_ n a _ e1 e2 (fun z => nomatch z)
  refine ⟨by simp [r.len], fun b u e => ?_, r.nd, fun b hb => ?_, fun m b u f1 f2 f3 => ?_, tp_set r.tp (fun _ e => nomatch e), dd_kill e1 r.dd⟩
  · by_cases hb : b = a
    · subst hb; rw [upd_same] at e ⊢; exact e
    · rw [upd_ne hb] at e ⊢; exact r.frz _ _ e
  · by_cases hp : b = a
    · exact ⟨_, by rw [hp, upd_same]⟩
    · obtain ⟨u, e⟩ := r.trk b hb
      exact ⟨u, by rw [upd_ne hp]; exact e⟩
  · have hm : m ≠ n := fun em => by
      subst em
      rw [List.getElem?_set_self (List.getElem?_eq_some_iff.mp e2).1] at f2
      cases f2
      exact f3 rfl
    rw [List.getElem?_set_ne (Ne.symm hm)] at f2
    obtain ⟨x, h, y, z⟩ := r.at_ m b u f1 f2 f3
    have nb : b ≠ a := fun eb => by
      subst eb
      obtain ⟨l1, g1⟩ := List.getElem?_eq_some_iff.mp f1
      obtain ⟨l2, g2⟩ := List.getElem?_eq_some_iff.mp e1
      exact hm ((List.getElem_inj r.nd).mp (g1.trans g2.symm))
    exact ⟨by rw [upd_ne nb]; exact x, h, by rw [upd_ne nb]; exact y, z.mono (fz_new hF) ⟨[], by simp⟩⟩
def drop (F : Hp) (a : Addr) : Hp := fun b => if b = a then none else F b
theorem drop_ne {F : Hp} {a b : Addr} (h : b ≠ a) : drop F a b = F b := if_neg h
theorem drop_sub (e : F a = some (.frz od (.dK l))) : FSub F (drop F a) :=
  ⟨fun b xs h => by rw [drop_ne (fun z => by subst z; rw [e] at h; cases h)]; exact h, fun b xs h => by rw [drop_ne (fun z => by subst z; rw [e] at h; cases h)]; exact h⟩
theorem drop_sqL {K : PySem.W.Frag} (e : F a = some (.frz od (.dK l))) {b : Addr} {xs : List V} (h : SqL K F b xs) : SqL K (drop F a) b xs := by
  rcases h with (h | ⟨o, h⟩) | h
  · exact .inl (.inl (by rw [drop_ne (fun z => by subst z; rw [e] at h; cases h)]; exact h))
  · exact .inl (.inr ⟨o, by rw [drop_ne (fun z => by subst z; rw [e] at h; cases h)]; exact h⟩)
  · exact .inr h
theorem drop_rep (e : F a = some (.frz od (.dK l))) : ∀ {w : Wv} {v : V}, RepW G F ι w v → RepW G (drop F a) ι w v
  | .d x, v, h => Rep.mono (drop_sub e) h
  | .ref n, v, h => h
  | .scr ns, v, ⟨b, q, h⟩ => ⟨b, q, drop_sqL e h⟩
  | .exc c, v, h => h
theorem drop_repO (e : F a = some (.frz od (.dK l))) : ∀ {w : O} {v : HO}, RepO G F ι w v → RepO G (drop F a) ι w v
  | .lst ws, v, ⟨xs, q, r⟩ => ⟨xs, q, p2imp (fun _ _ h => drop_rep e h) r⟩
  | .tup ws, v, ⟨xs, q, r⟩ => ⟨xs, q, p2imp (fun _ _ h => drop_rep e h) r⟩
  | .dK ws, v, ⟨xs, q, r⟩ => ⟨xs, q, p2imp (fun _ _ h => ⟨h.1, drop_rep e h.2⟩) r⟩
  | .dT ws, v, ⟨xs, q, r⟩ => ⟨xs, q, p2imp (fun _ _ h => ⟨h.1, drop_rep e h.2⟩) r⟩
  | .ins C ws, v, ⟨c, fs, dx, xs, q, m, k, z, r⟩ => ⟨c, fs, dx, xs, q, m, k, z, p2imp (fun _ _ h => drop_rep e h) r⟩
  | .dead, v, _ => trivial
/-- unlocked again -/
theorem unlockD {n : Nat} {kvs : List (Key × Wv)} {F' H' : Hp} {ι' : List Addr} {S' : Store} (r : Real G F ι S H) (e1 : ι[n]? = some a) (e2 : S[n]? = some (.dK kvs)) (kv : KVR G.calm F ι kvs l)
    (x : Ext (upd F a (.frz od (.dK l))) ι (upd H a (.frz od (.dK l))) F' ι' H') (r' : Real G F' ι' S' H') :
    H' a = some (.frz od (.dK l)) ∧ F' a = some (.frz od (.dK l)) ∧ Real G (drop F' a) ι' (S'.set n (.dK kvs)) (upd H' a (.dK l)) ∧ Ext F ι H (drop F' a) ι' (upd H' a (.dK l)) := by
  obtain ⟨hF, _⟩ := r.at_ n a _ e1 e2 (fun z => nomatch z)
  have hF' : F' a = some (.frz od (.dK l)) := x.fz _ _ upd_same
  have hH' := r'.frz _ _ hF'
  have e1' := ext_ix x.pre e1
  have fz : ∀ b u, F b = some u → drop F' a b = some u := fun b u e => by
    have nb := ne_of_none e hF
    rw [drop_ne nb]
    exact x.fz _ _ (by rw [upd_ne nb]; exact e)
  refine ⟨hH', hF', ⟨by simp [r'.len], fun b u e => ?_, r'.nd, fun b hb => ?_, fun m b u f1 f2 f3 => ?_, tp_set r'.tp (fun _ e => nomatch e), fun m b f1 f2 => ?_⟩, ⟨fz, x.pre, fun b u e hn => ?_, fun b u e hn hf hg => ?_⟩⟩
  · by_cases hb : b = a
    · subst hb; simp [drop] at e
    · rw [drop_ne hb] at e; rw [upd_ne hb]; exact r'.frz _ _ e
  · by_cases hp : b = a
    · exact ⟨_, by rw [hp, upd_same]⟩
    · obtain ⟨u, e⟩ := r'.trk b hb
      exact ⟨u, by rw [upd_ne hp]; exact e⟩
  · by_cases hm : m = n
    · subst hm
      rw [e1'] at f1
      cases f1
      have hl : m < S'.length := by rw [← r'.len]; exact (List.getElem?_eq_some_iff.mp e1').1
      rw [List.getElem?_set_self hl] at f2
      cases f2
      refine ⟨by simp [drop], _, upd_same, l, rfl, p2imp (fun p q hh => ⟨hh.1, hh.2.mono fz x.pre⟩) kv⟩
    · rw [List.getElem?_set_ne (Ne.symm hm)] at f2
      obtain ⟨y, h, z, t⟩ := r'.at_ m b u f1 f2 f3
      have nb : b ≠ a := fun eb => by rw [eb, hF'] at y; cases y
      exact ⟨by rw [drop_ne nb]; exact y, h, by rw [upd_ne nb]; exact z, drop_repO hF' t⟩
  · have hm : m ≠ n := fun em => by
      subst em
      have hl : m < S'.length := by rw [← r'.len]; exact (List.getElem?_eq_some_iff.mp e1').1
      rw [List.getElem?_set_self hl] at f2
      cases f2
    rw [List.getElem?_set_ne (Ne.symm hm)] at f2
    obtain ⟨u, hu⟩ := r'.dd m b f1 f2
    have nb : b ≠ a := fun eb => by
      subst eb
      obtain ⟨l1, g1⟩ := List.getElem?_eq_some_iff.mp f1
      obtain ⟨l2, g2⟩ := List.getElem?_eq_some_iff.mp e1'
      exact hm ((List.getElem_inj r'.nd).mp (g1.trans g2.symm))
    exact ⟨u, by rw [drop_ne nb]; exact hu⟩
  · have nb : b ≠ a := fun z => hn (z ▸ List.mem_of_getElem? e1)
    obtain ⟨q1, q2⟩ := x.fr b u (by rw [upd_ne nb]; exact e) hn
    exact ⟨q1, by rw [upd_ne nb]; exact q2⟩
  · have nb : b ≠ a := fun z => hn (z ▸ List.mem_of_getElem? e1)
    rw [drop_ne nb]
    exact x.fn b u (by rw [upd_ne nb]; exact e) hn (by rw [upd_ne nb]; exact hf) hg
end
/-- back to the dict -/
def unlockR (n : Nat) (kvs : List (Key × Wv)) : Res Wv → Res Wv
  | .ok w S => .ok w (S.set n (.dK kvs))
  | _ => .no
/-- [f(x) for x in d.values()], d a name -/
noncomputable def evLcV (k : List Wv → Store → Res Wv) (j i : Nat) (vs : List Nat) (t : Env → Store → Res Bool) (f : Ev) : Ev := fun ρ S => match ρ[j]? with
  | some (some (.ref n)) => match S[n]? with
    | some (.dK kvs) => unlockR n kvs ((if (kvs.map (·.2)).length ≤ 16777216 then lcL (fun _ => True) i t f (kvs.map (·.2)) (wipeE ρ vs) (S.set n .dead) [] else .no).bind k)
    | _ => .no
  | _ => .no
theorem kvr_snd {G : Gc} {F : Hp} {ι : List Addr} {kvs : List (Key × Wv)} {l : List (Key × V)} (h : KVR G F ι kvs l) {i : Nat} {u : Wv} (e : (kvs.map (·.2))[i]? = some u) : ∃ k x, l[i]? = some (k, x) ∧ RepW G F ι u x := by
  rw [List.getElem?_map] at e
  cases q : kvs[i]? with
  | none => rw [q] at e; cases e
  | some p =>
    rw [q] at e
    cases e
    obtain ⟨y, h1, h2⟩ := p2get h q
    exact ⟨y.1, y.2, h1, h2.2⟩
theorem de_lcV {i j : Nat} {x y : Str} {px py : Pos} {elt : Expr} {ifs : List Expr} {scope : Scope} {own : List (Str × Nat)} {t : Env → Store → Res Bool} {f : Ev} {k : List Wv → Store → Res Wv}
    (hk : Kp (gc X xo) k) (hc : X.calm = true) (hN : X.N.Nodup) (hv : PE X (.Name y py) (tVar j)) (ok : BlkOk X.N X.env.scope scope own) (hiv : i ∈ own.map (·.2))
    (hg : ∀ (s : Shared) (H : Hp) (C : Addr) (cl : List (Str × Addr)) (fp : List Addr), PG (X.blk s H scope (compEnvC scope cl C X.env) fp) (.Name x px) (gName i))
    (ht : ∀ (s : Shared) (H : Hp) (C : Addr) (cl : List (Str × Addr)) (fp : List Addr), DTs (X.blk s H scope (compEnvC scope cl C X.env) fp) xo ifs t)
    (he : ∀ (s : Shared) (H : Hp) (C : Addr) (cl : List (Str × Addr)) (fp : List Addr), DE (X.blk s H scope (compEnvC scope cl C X.env) fp) xo elt f)
    (hbase : attributeBase (.Name y py) "values" X.env (eval (.Name y py) X.env) = eval (.Name y py) X.env := by rfl) (hline : (apos.endLine == cpos.line) = true := by rfl)
    (hs : ∀ x, foldedSetIterable (.Call (.Attribute (.Name y py) "values" apos) [] [] cpos) X.env x = pure x := by intro _; rfl) :
    DE X xo (.ListComp elt [⟨.Name x px, .Call (.Attribute (.Name y py) "values" apos) [] [] cpos, ifs, 0⟩] scope pos) (evLcV k j i (own.map (·.2)) t f) := ⟨fun W tk => by
  refine pe_imp (pe_lock (pe_lc (tt := TTo (gc X xo) (fun _ _ _ _ => False) t) (te := TEo (gc X xo) (fun _ _ _ _ => False) f) hc hN (pi_values (tg := .Name x px) hv hbase hline) ok hg (fun s H C cl fp => (ht s H C cl fp).run _ takesF) (fun s H C cl fp => (he s H C cl fp).run _ takesF) hs)) fun σ H Q ⟨F, ι, S, ρ, r, en, p⟩ => ?_
  unfold evLcV at p
  split at p
  · rename_i n e0
    split at p
    · rename_i kvs e2
      obtain ⟨v, ev, a, e1, rfl⟩ := en.at_ j _ e0
      obtain ⟨hF, _, eH, l, rfl, kv⟩ := r.at_ n a _ e1 e2 (fun z => nomatch z)
      refine ⟨a, .dK l, eH, trivial, fun od => ?_⟩
      refine ⟨.ref a, ev, a, od, l, rfl, upd_same, ?_⟩
      have r1 := r.lockD (od := od) (l := l) e1 e2
      have en1 : REnv (gc X xo) (upd F a (.frz od (.dK l))) ι σ ρ := en.mono (fz_new hF) ⟨[], by simp⟩
      have kv1 : KVR (gc X xo).calm (upd F a (.frz od (.dK l))) ι kvs l := p2imp (fun p q hh => ⟨hh.1, hh.2.mono (fz_new hF) ⟨[], by simp⟩⟩) kv
      intro D hD
      refine lc_body (W := W) (t := t) (f := f) (J := Itd a od l) (Q := fun v H' => H' a = some (.frz od (.dK l)) ∧ Q v (upd H' a (.dK l))) (C := fun F ι => F a = some (.frz od (.dK l)) ∧ KVR (gc X xo).calm F ι kvs l) hk hiv (fun F ι H F' ι' H' xx hh => ⟨xx.fz _ _ hh.1, p2imp (fun p q z => ⟨z.1, z.2.mono xx.fz xx.pre⟩) hh.2⟩) (ws := kvs.map (·.2)) (chk := fun _ => True) ?_ r1 en1 ⟨upd_same, kv1⟩ ?_ D hD
      · intro m F2 ι2 S2 H2 hm r2 hh _
        have hd := r2.frz _ _ hh.1
        refine ⟨fun u hu => ?_, fun em => ⟨hd, by rw [em, List.length_map, kvr_len hh.2]; exact Nat.le_refl _⟩⟩
        obtain ⟨kk, z, h1, h2⟩ := kvr_snd hh.2 hu
        refine ⟨⟨hd, (List.getElem?_eq_some_iff.mp h1).1⟩, fun y H' hy => ?_⟩
        obtain ⟨rfl, k', h3⟩ := hy
        rw [h1] at h3
        cases h3
        exact ⟨rfl, h2⟩
      · generalize ((if (kvs.map (·.2)).length ≤ 16777216 then lcL (fun _ => True) i t f (kvs.map (·.2)) (wipeE ρ (own.map (·.2))) (S.set n .dead) [] else .no).bind k) = res at p
        cases res with
        | no => exact p.elim
        | rz c S' => exact p.elim
        | ok w S' =>
          intro F' ι' H' x' r' v' hv'
          obtain ⟨u1, u2, u3, u4⟩ := unlockD r e1 e2 kv x' r'
          exact ⟨u1, p _ _ _ u4 u3 v' (drop_rep u2 hv')⟩
    · exact p.elim
  · exact p.elim⟩

/-! ## calls that leave nothing behind -/
def Wv.under (n : Nat) : Wv → Bool
  | .ref m => decide (m < n)
  | .exc _ => false
  | _ => true
open Classical in
noncomputable def trim (S : Store) : Res Wv → Res Wv
  | .ok w S' => if S'.take S.length = S ∧ w.under S.length = true then .ok w S else .no
  | .rz c S' => if S'.take S.length = S then .rz c S else .no
  | .no => .no
theorem p2both {α β γ : Type} {R R' : α → β → Prop} {R0 : α → γ → Prop} (h : ∀ w y z, R w y → R0 w z → R' w y) : ∀ {xs : List α} {ys : List β} {zs : List γ}, Paired R xs ys → Paired R0 xs zs → Paired R' xs ys
  | _, _, _, .nil, _ => .nil
  | _, _, _, .cons r t, .cons r0 t0 => .cons (h _ _ _ r r0) (p2both h t t0)
theorem rep_shrink {G : Gc} {F F' : Hp} {ι t : List Addr} : ∀ {w : Wv} {v v0 : V}, RepW G F' (ι ++ t) w v → RepW G F ι w v0 → RepW G F' ι w v
  | .d x, v, v0, h, _ => h
  | .ref n, v, v0, ⟨a, e, q⟩, ⟨a0, e0, _⟩ => ⟨a, by rw [List.getElem?_append_left (List.getElem?_eq_some_iff.mp e0).1] at e; exact e, q⟩
  | .scr ns, v, v0, h, _ => h
  | .exc c, v, v0, h, _ => h
theorem repO_shrink {G : Gc} {F F' : Hp} {ι t : List Addr} : ∀ {w : O} {v v0 : HO}, RepO G F' (ι ++ t) w v → RepO G F ι w v0 → RepO G F' ι w v
  | .lst ws, v, v0, ⟨xs, q, r⟩, ⟨ys, _, r0⟩ => ⟨xs, q, p2both (R := RepW G.calm F' (ι ++ t)) (R' := RepW G.calm F' ι) (R0 := RepW G.calm F ι) (fun _ _ _ a b => rep_shrink a b) r r0⟩
  | .tup ws, v, v0, ⟨xs, q, r⟩, ⟨ys, _, r0⟩ => ⟨xs, q, p2both (R := RepW G.calm F' (ι ++ t)) (R' := RepW G.calm F' ι) (R0 := RepW G.calm F ι) (fun _ _ _ a b => rep_shrink a b) r r0⟩
  | .dK ws, v, v0, ⟨xs, q, r⟩, ⟨ys, _, r0⟩ => ⟨xs, q, p2both (R := fun (p : (Key) × Wv) (q : (Key) × V) => p.1 = q.1 ∧ RepW G.calm F' (ι ++ t) p.2 q.2) (R' := fun (p : (Key) × Wv) (q : (Key) × V) => p.1 = q.1 ∧ RepW G.calm F' ι p.2 q.2) (R0 := fun (p : (Key) × Wv) (q : (Key) × V) => p.1 = q.1 ∧ RepW G.calm F ι p.2 q.2) (fun _ _ _ a b => ⟨a.1, rep_shrink a.2 b.2⟩) r r0⟩
  | .dT ws, v, v0, ⟨xs, q, r⟩, ⟨ys, _, r0⟩ => ⟨xs, q, p2both (R := fun (p : (List Key) × Wv) (q : (List Key) × V) => p.1 = q.1 ∧ RepW G.calm F' (ι ++ t) p.2 q.2) (R' := fun (p : (List Key) × Wv) (q : (List Key) × V) => p.1 = q.1 ∧ RepW G.calm F' ι p.2 q.2) (R0 := fun (p : (List Key) × Wv) (q : (List Key) × V) => p.1 = q.1 ∧ RepW G.calm F ι p.2 q.2) (fun _ _ _ a b => ⟨a.1, rep_shrink a.2 b.2⟩) r r0⟩
  | .ins C ws, v, v0, ⟨c, fs, dx, xs, q, m, k, z, r⟩, ⟨_, _, _, _, _, _, _, _, r0⟩ => ⟨c, fs, dx, xs, q, m, k, z, p2both (R := RepW G.calm F' (ι ++ t)) (R' := RepW G.calm F' ι) (R0 := RepW G.calm F ι) (fun _ _ _ a b => rep_shrink a b) r r0⟩
  | .dead, v, v0, _, _ => trivial
theorem Real.trim {G : Gc} {F F' : Hp} {ι ι' : List Addr} {S S' : Store} {H H' : Hp} (r : Real G F ι S H) (x : Ext F ι H F' ι' H') (r' : Real G F' ι' S' H') (e : S'.take S.length = S) : Real G F' ι S H' ∧ Ext F ι H F' ι H' := by
  obtain ⟨t, rfl⟩ := x.pre
  have nd := r'.nd
  refine ⟨⟨r.len, r'.frz, r.nd, fun a ha => r'.trk a (List.mem_append_left _ ha), fun n a o e1 e2 e3 => ?_, r.tp, fun n a e1 e2 => by
    obtain ⟨o, q⟩ := r.dd n a e1 e2
    exact ⟨o, x.fz _ _ q⟩⟩, ⟨x.fz, ⟨[], by simp⟩, fun b o e n => ⟨n, (x.fr b o e n).2⟩, x.fn⟩⟩
  have hn : n < S.length := (List.getElem?_eq_some_iff.mp e2).1
  have e2' : S'[n]? = some o := by rw [← e, List.getElem?_take_of_lt hn] at e2; exact e2
  obtain ⟨y, h, z, q⟩ := r'.at_ n a o (by rw [List.getElem?_append_left (by rw [r.len]; exact hn)]; exact e1) e2' e3
  obtain ⟨_, h0, _, q0⟩ := r.at_ n a o e1 e2 e3
  exact ⟨y, h, z, repO_shrink q q0⟩
theorem under_rep {G : Gc} {F : Hp} {ι ι' : List Addr} {w : Wv} {v : V} (p : ∃ t, ι' = ι ++ t) (h : RepW G F ι' w v) (u : w.under ι.length = true) : RepW G F ι w v := by
  obtain ⟨t, rfl⟩ := p
  cases w with
  | d x => exact h
  | ref n =>
    obtain ⟨a, e, q⟩ := h
    exact ⟨a, by rw [List.getElem?_append_left (of_decide_eq_true u)] at e; exact e, q⟩
  | scr ns => exact h
  | exc c => exact h
theorem trim_post {G : Gc} {W : WX} {F : Hp} {ι : List Addr} {H : Hp} {σ : St} {S : Store} {res : Res Wv} {Q : VK} (r : Real G F ι S H) (p : PostE G W F ι H σ (trim S res) Q) : PostE G W F ι H σ res Q := by
  unfold trim at p
  split at p
  · split at p
    · rename_i hh
      intro F' ι' H' x r' v hv
      obtain ⟨r2, x2⟩ := r.trim x r' hh.1
      exact p F' ι H' x2 r2 v (under_rep x.pre hv (by rw [r.len]; exact hh.2))
    · exact p.elim
  · split at p
    · rename_i hh
      intro F' ι' H' Ca x r' hc
      obtain ⟨r2, x2⟩ := r.trim x r' hh
      exact p F' ι H' Ca x2 r2 hc
    · exact p.elim
  · exact p.elim
/-- a def's meaning, less what it leaves behind -/
noncomputable def fnP (n m : Nat) (g : Sv) : Sem' := fun ws S => trim S (fnS n m g ws S)
theorem fn_okP {P : Program} {w : World} {K : PySem.W.Frag} {mg : Str → Option Value} {base : Heap} {x qual : Str} {params : Arguments} {body : List Stmt} {scope : Scope} {f : Addr} {fd : FuncData} {N ps : List Str} {k n : Nat} {g : Sv} (F : FunD K x qual params body scope [] [] f fd) (S : FnScope N ps scope) (hn : ps.length = n)
    (hb : ∀ (cdv : Value) (A : Around) (outer : List PySem.Env) (s : Shared) (H : Hp) (E : XK), Room k (A.deeper (envOfC qual scope s.heap.objs.size f cdv)) → DSs (cxOf (L2N.CX P w) P w K mg base N qual scope f cdv A outer s H E) none body g) :
    FnOk P w K mg base (L2N.CX P w) (k + 1) f fd ps (spOf K n (fnP n N.length g)) := by
  refine (fn_ok F S hn hb).imp fun vs H Q E h => ?_
  obtain ⟨hl, F, ι, St, ws, r, hw, p⟩ := h
  exact ⟨hl, F, ι, St, ws, r, hw, trim_post r p⟩
end
end DL

/-! reckoning with loops, texts, lists of the store -/
namespace DL
open PySem PySem.Spec PyProof.Rows L2
abbrev I (i : Int) : Wv := .d (.int i)
abbrev T (x : Str) : Wv := .d (.str x)
abbrev Bo (b : Bool) : Wv := .d (.bl b)
section
variable {α β : Type} {S S1 : Store} {ρ ρ1 : Env}
@[simp] theorem sFor_s (i : Nat) (f : Env → Store → Res Itms) (g : Sv) : sFor i f g ρ S = (f ρ S).toS ρ fun q S1 => sForL q.2.2 i g q.2.1 ρ S1 := rfl
/-- a loop that runs to its end: what holds of the env and the store, by a state -/
theorem for_fold (chk : Store → Prop) (i : Nat) (g : Sv) (inj : α → Wv) (R : β → Env → Store → Prop) (step : β → α → β) (hc : ∀ b ρ S, R b ρ S → chk S) : ∀ (as : List α) (b : β) (ρ : Env) (S : Store),
    (∀ a ∈ as, ∀ b ρ S, R b ρ S → ∃ ρ' S', (g (ρ.set i (some (inj a))) S = .nx ρ' S' ∨ g (ρ.set i (some (inj a))) S = .ct ρ' S') ∧ R (step b a) ρ' S') → R b ρ S →
    ∃ ρ' S', sForL chk i g (as.map inj) ρ S = .nx ρ' S' ∧ R (as.foldl step b) ρ' S'
  | [], b, ρ, S, _, h => ⟨ρ, S, by rw [List.map_nil, sForL, if_pos (hc _ _ _ h)], h⟩
  | a :: as, b, ρ, S, hs, h => by
    obtain ⟨ρ1, S1, e, h1⟩ := hs a List.mem_cons_self b ρ S h
    obtain ⟨ρ2, S2, e2, h2⟩ := for_fold chk i g inj R step hc as (step b a) ρ1 S1 (fun a ha => hs a (List.mem_cons_of_mem _ ha)) h1
    refine ⟨ρ2, S2, ?_, h2⟩
    rw [List.map_cons, sForL, if_pos (hc _ _ _ h)]
    rcases e with e | e
    · rw [e]; exact e2
    · rw [e]; exact e2
/-- .. with what the items before have in common -/
theorem for_pre (chk : Store → Prop) (i : Nat) (g : Sv) (inj : α → Wv) (R : List α → Env → Store → Prop) (hc : ∀ b ρ S, R b ρ S → chk S) (all : List α) : ∀ (as pre : List α) (ρ : Env) (S : Store), all = pre ++ as →
    (∀ pre a post ρ S, all = pre ++ a :: post → R pre ρ S → ∃ ρ' S', (g (ρ.set i (some (inj a))) S = .nx ρ' S' ∨ g (ρ.set i (some (inj a))) S = .ct ρ' S') ∧ R (pre ++ [a]) ρ' S') → R pre ρ S →
    ∃ ρ' S', sForL chk i g (as.map inj) ρ S = .nx ρ' S' ∧ R all ρ' S'
  | [], pre, ρ, S, ea, _, h => ⟨ρ, S, by rw [List.map_nil, sForL, if_pos (hc _ _ _ h)], by rw [ea, List.append_nil]; exact h⟩
  | a :: as, pre, ρ, S, ea, hs, h => by
    obtain ⟨ρ1, S1, e, h1⟩ := hs pre a as ρ S ea h
    obtain ⟨ρ2, S2, e2, h2⟩ := for_pre chk i g inj R hc all as (pre ++ [a]) ρ1 S1 (by rw [ea]; simp) hs h1
    refine ⟨ρ2, S2, ?_, h2⟩
    rw [List.map_cons, sForL, if_pos (hc _ _ _ h)]
    rcases e with e | e
    · rw [e]; exact e2
    · rw [e]; exact e2
/-- a comprehension -/
theorem lc_eq (chk : Store → Prop) (i : Nat) (t : Env → Store → Res Bool) (f : Ev) (inj : α → Wv) (p : α → Bool) (out : α → Wv) (hc : chk S) (ho : ∀ a, (out a).calm = true) : ∀ (as : List α) (acc : List Wv),
    (∀ a ∈ as, t (ρ.set i (some (inj a))) S = .ok (p a) S ∧ (p a = true → f (ρ.set i (some (inj a))) S = .ok (out a) S)) →
    lcL chk i t f (as.map inj) ρ S acc = .ok (acc ++ (as.filter p).map out) S
  | [], acc, _ => by rw [List.map_nil, lcL, if_pos hc]; simp
  | a :: as, acc, h => by
    obtain ⟨h1, h2⟩ := h a List.mem_cons_self
    have ih := fun acc => lc_eq chk i t f inj p out hc ho as acc fun a ha => h a (List.mem_cons_of_mem _ ha)
    rw [List.map_cons, lcL, if_pos hc, h1]
    cases e : p a with
    | true =>
      simp only [h2 e, ho, if_true]
      rw [ih]
      simp [List.filter_cons, e]
    | false =>
      simp only
      rw [ih]
      simp [List.filter_cons, e]
theorem lc_map (chk : Store → Prop) (i : Nat) (f : Ev) (inj : α → Wv) (out : α → Wv) (hc : chk S) (ho : ∀ a, (out a).calm = true) (as : List α) (h : ∀ a ∈ as, f (ρ.set i (some (inj a))) S = .ok (out a) S) :
    lcL chk i evYes f (as.map inj) ρ S [] = .ok (as.map out) S := by
  have := lc_eq (S := S) (ρ := ρ) chk i evYes f inj (fun _ => true) out hc ho as [] fun a ha => ⟨rfl, fun _ => h a ha⟩
  rw [this, List.filter_eq_self.mpr (fun _ _ => rfl), List.nil_append]
theorem evLc_s (k : List Wv → Store → Res Wv) (fi : Env → Store → Res Itms) (i : Nat) (vs : List Nat) (t : Env → Store → Res Bool) (f : Ev) : evLc k fi i vs t f ρ S = (fi ρ S).bind fun q S1 => (if q.2.1.length ≤ 16777216 then lcL q.2.2 i t f q.2.1 (wipeE ρ vs) S1 [] else .no).bind k := by
  unfold evLc evLc0
  rw [Res.bind_assoc]
@[simp] theorem wipeE_nil : wipeE ρ [] = ρ := rfl
@[simp] theorem wipeE_cons (v : Nat) (vs : List Nat) : wipeE ρ (v :: vs) = (wipeE ρ vs).set v none := rfl
@[simp] theorem evYes_s : evYes ρ S = .ok true S := rfl
@[simp] theorem evNoPart_s : evNoPart ρ S = .ok none S := rfl
def asPart : Wv → Store → Res (Option Int) := fun w S1 => match w with
  | .d (.int i) => .ok (some i) S1
  | _ => .no
@[simp] theorem asPart_int (i : Int) : asPart (I i) S = .ok (some i) S := rfl
@[simp] theorem evPart_s (f : Ev) : evPart f ρ S = (f ρ S).bind asPart := rfl
@[simp] theorem evSl_s (f : Ev) (fl fh : Env → Store → Res (Option Int)) : evSl f fl fh ρ S = (f ρ S).bind fun w S1 => (fl ρ S1).bind fun lo S2 => (fh ρ S2).bind fun hi S3 => gSl w lo hi S3 := rfl
theorem seqW_tup' (ds : List D) : seqW S (.d (.tup ds)) = some (false, ds.map .d) := rfl
theorem cut_map (f : α → β) (xs : List α) (lo hi : Option Int) : cut (xs.map f) lo hi = (cut xs lo hi).map f := by
  unfold cut
  rw [List.length_map, List.map_take, List.map_drop]
@[simp] theorem gSl_lst (ds : List D) (lo hi : Option Int) : gSl (.d (.lst ds)) lo hi S = .ok (.d (.lst (cut ds lo hi))) S := by simp [gSl, seqW, allD_map]
@[simp] theorem gSl_scr (ns : List Int) (lo hi : Option Int) : gSl (.scr ns) lo hi S = .ok (.d (.lst ((cut ns lo hi).map .int))) S := by
  have : allD (ns.map fun i => Wv.d (.int i)) = some (ns.map .int) := by
    rw [← allD_map (ns.map D.int), List.map_map]; rfl
  simp [gSl, seqW, this, cut_map]
theorem gSl_tup (ds : List D) (lo hi : Option Int) (h : ¬ (HT.sIx ds.length 0 lo = 0 ∧ HT.sIx ds.length ds.length hi = ds.length)) : gSl (.d (.tup ds)) lo hi S = .ok (.d (.tup (cut ds lo hi))) S := by
  unfold gSl
  simp only [seqW_tup', allD_map, List.length_map]
  rw [if_neg h]
theorem gSl_ref {n : Nat} {ds : List D} (h : S[n]? = some (.lst (ds.map .d))) (lo hi : Option Int) : gSl (.ref n) lo hi S = .ok (.d (.lst (cut ds lo hi))) S := by simp [gSl, seqW, h, allD_map]
/-- what is walked -/
def itW : Wv → Store → Res Itms := fun w S1 => match w with
  | .d (.str z) => .ok (w, (z.cps.toList.map fun c => .d (.str ⟨#[c]⟩)), fun _ => True) S1
  | w => match seqW S1 w with
    | some (k, ws) => .ok (w, ws, fun S => seqW S w = some (k, ws)) S1
    | none => .no
@[simp] theorem evItems_s (f : Ev) : evItems f ρ S = (f ρ S).bind itW := rfl
@[simp] theorem seqW_lst (ds : List D) : seqW S (.d (.lst ds)) = some (true, ds.map .d) := rfl
@[simp] theorem seqW_tup (ds : List D) : seqW S (.d (.tup ds)) = some (false, ds.map .d) := rfl
@[simp] theorem seqW_scr (ns : List Int) : seqW S (.scr ns) = some (true, ns.map fun i => .d (.int i)) := rfl
theorem seqW_ref {n : Nat} {ws : List Wv} (h : S[n]? = some (.lst ws)) : seqW S (.ref n) = some (true, ws) := by simp [seqW, h]
@[simp] theorem itW_str (z : Str) : itW (.d (.str z)) S = .ok (.d (.str z), (z.cps.toList.map fun c => .d (.str ⟨#[c]⟩)), fun _ => True) S := rfl
@[simp] theorem itW_lst (ds : List D) : itW (.d (.lst ds)) S = .ok (.d (.lst ds), ds.map .d, fun S => seqW S (.d (.lst ds)) = some (true, ds.map .d)) S := rfl
@[simp] theorem itW_tup (ds : List D) : itW (.d (.tup ds)) S = .ok (.d (.tup ds), ds.map .d, fun S => seqW S (.d (.tup ds)) = some (false, ds.map .d)) S := rfl
theorem itW_of {w : Wv} {k : Bool} {ws : List Wv} (h : seqW S w = some (k, ws)) : itW w S = .ok (w, ws, fun S => seqW S w = some (k, ws)) S := by
  cases w with
  | d x =>
    cases x with
    | str z => cases h
    | lst ds => cases h; rfl
    | tup ds => cases h; rfl
    | _ => cases h
  | ref n => simp only [itW, h]
  | scr ns => cases h; rfl
  | exc c => cases h
@[simp] theorem evRange_s (g : List Wv → Store → Res Itms) (fs : Env → Store → Res (List Wv)) : evRange g fs ρ S = (fs ρ S).bind g := rfl
@[simp] theorem gRange1_s (j : Int) : gRange1 [I j] S = if j.natAbs < 4611686018427387904 then .ok (.d .non, rangeW 0 j.toNat 1, fun _ => True) S else .no := rfl
@[simp] theorem gRange2_s (i j : Int) : gRange2 [I i, I j] S = if i.natAbs < 4611686018427387904 ∧ j.natAbs < 4611686018427387904 then .ok (.d .non, rangeW i (j - i).toNat 1, fun _ => True) S else .no := rfl
theorem rangeW_map (lo : Int) (n : Nat) (c : Int) : rangeW lo n c = (List.range n).map fun (k : Nat) => I (lo + (k : Int) * c) := rfl
/-! lists of the store -/
theorem lstOf_ref {n : Nat} {ws : List Wv} (h : S[n]? = some (.lst ws)) : lstOf S (.ref n) = some (n, ws) := by simp [lstOf, h]
@[simp] theorem evLm_s (g : Wv → Wv → Store → Res Wv) (fo fa : Ev) : evLm g fo fa ρ S = (fo ρ S).bind fun w S1 => if (lstOf S1 w).isSome = true then (fa ρ S1).bind fun u S2 => g w u S2 else .no := rfl
theorem gAppend_ref {n : Nat} {ws : List Wv} {u : Wv} (h : S[n]? = some (.lst ws)) (hu : u.calm = true) (hl : ws.length < 16777216) : gAppend (.ref n) u S = .ok (.d .non) (S.set n (.lst (ws ++ [u]))) := by
  simp [gAppend, hu, lstOf_ref h, hl]
theorem gList_ref {n : Nat} {ds : List D} (h : S[n]? = some (.lst (ds.map .d))) : gList [.ref n] S = .ok (.d (.lst ds)) S := by simp [gList, seqW_ref h, allD_map]
theorem gListS_ref {n : Nat} {ws : List Wv} (h : S[n]? = some (.lst ws)) : gListS [.ref n] S = .ok (.ref S.length) (S ++ [.lst ws]) := by simp [gListS, seqW_ref h]
theorem gTuple_ref {n : Nat} {ds : List D} (h : S[n]? = some (.lst (ds.map .d))) : gTuple [.ref n] S = .ok (.d (.tup ds)) S := by simp [gTuple, seqW_ref h, allD_map]
theorem gLen_ref {n : Nat} {ws : List Wv} (h : S[n]? = some (.lst ws)) : gLen [.ref n] S = .ok (I ws.length) S := by simp [gLen, seqW_ref h]
theorem asD_ref {n : Nat} {ds : List D} (h : S[n]? = some (.lst (ds.map .d))) : asD S (.ref n) = some (.lst ds) := by simp [asD, h, allD_map]
@[simp] theorem asD_d (x : D) : asD S (.d x) = some x := rfl
theorem gEq_of {neg : Bool} {w u : Wv} {x y : D} (h : asD S w = some x) (h' : asD S u = some y) (hd : min x.dep y.dep ≤ 64) : gEq neg w u S = .ok (.d (.bl (if neg = true then !eqD x y else eqD x y))) S := by
  unfold gEq
  rw [h, h']
  simp only
  rw [if_pos hd]
theorem depAll_map {n : Nat} (f : α → D) : ∀ (as : List α), (∀ a ∈ as, (f a).dep ≤ n) → depAll (as.map f) ≤ n
  | [], _ => by simp
  | a :: as, h => by
    rw [List.map_cons, depAll_cons]
    have h1 := h a List.mem_cons_self
    have h2 := depAll_map f as fun b hb => h b (List.mem_cons_of_mem _ hb)
    omega
@[simp] theorem evDictK_s : evDictK ρ S = .ok (.ref S.length) (S ++ [.dK []]) := rfl
@[simp] theorem evDictT_s : evDictT ρ S = .ok (.ref S.length) (S ++ [.dT []]) := rfl
@[simp] theorem evGet2_s (fo fa fb : Ev) : evGet2 fo fa fb ρ S = (fo ρ S).bind fun d S1 => if isDictW S1 d = true then (fa ρ S1).bind fun k S2 => (fb ρ S2).bind fun x S3 => match dictW S3 d k with
  | some (some v) => .ok v S3
  | some none => .ok x S3
  | none => .no
  else .no := rfl
@[simp] theorem sDPutS_s (fo fa fv : Ev) : sDPutS fo fa fv ρ S = (fv ρ S).toS ρ fun v S1 => (fo ρ S1).toS ρ fun d S2 => (fa ρ S2).toS ρ fun k S3 => match d with
  | .ref n => match dPut S3 n k v with
    | some S4 => .nx ρ S4
    | none => .no
  | _ => .no := rfl
theorem isDict_K {n : Nat} {kvs : List (Key × Wv)} (h : S[n]? = some (.dK kvs)) : isDictW S (.ref n) = true := by simp [isDictW, h]
theorem dictW_K {n : Nat} {kvs : List (Key × Wv)} {w : Wv} {k : Key} (h : S[n]? = some (.dK kvs)) (hk : asKey w = some k) : dictW S (.ref n) w = some (atK kvs k) := by simp [dictW, dGet, h, hk]
theorem dPut_K {n : Nat} {kvs : List (Key × Wv)} {w v : Wv} {k : Key} (h : S[n]? = some (.dK kvs)) (hk : asKey w = some k) (hv : v.calm = true) (hl : kvs.length < 16777216) : dPut S n w v = some (S.set n (.dK (putKW kvs k v))) := by
  simp [dPut, h, hk, hv, hl]
@[simp] theorem asKey_str (x : Str) : asKey (.d (.str x)) = some (.inr x) := rfl
@[simp] theorem asKey_int (x : Int) : asKey (.d (.int x)) = some (.inl x) := rfl
/-! signs of a text -/
def sgn (z : Str) (i : Int) : Str := ⟨#[z.cps.toList.getD i.toNat 0]⟩
@[simp] theorem sgn_len (z : Str) (i : Int) : (sgn z i).length = 1 := rfl
@[simp] theorem str_len_add (x y : Str) : (x ++ y).length = x.length + y.length := by
  show (x.cps ++ y.cps).size = _
  rw [Array.size_append]; rfl
theorem ix_str {z : Str} {i : Int} (h0 : 0 ≤ i) (h1 : i < z.length) (hz : z.length ≤ 16777216) : gIxI (.d (.str z)) i S = .ok (.d (.str (sgn z i))) S := by
  have hl : i.toNat < z.cps.toList.length := by
    have : z.cps.toList.length = z.length := by simp; rfl
    omega
  have e : atI z.cps.toList i = some (z.cps.toList.getD i.toNat 0) := atI_of (j := i.toNat) (by omega) (by rw [List.getD_eq_getElem?_getD, List.getElem?_eq_getElem hl]; rfl)
  unfold gIxI
  simp only [seqW, gIxS]
  rw [if_pos hz, e]
  rfl
theorem allB_map (as : List α) (f : α → Bool) : allB (as.map fun a => .bl (f a)) = some (as.map f) := by
  induction as with
  | nil => rfl
  | cons b bs ih => simp [allB, ih]
theorem gAll_map (as : List α) (f : α → Bool) : gAll [.d (.lst (as.map fun a => .bl (f a)))] S = .ok (.d (.bl (as.all f))) S := by
  simp [gAll, allB_map, Function.comp_def]
theorem gFrz_map (as : List α) (f : α → D) : gFrz (as.map fun a => .d (f a)) S = .ok (.d (.lst (as.map f))) S := by
  have : allD (as.map fun a => Wv.d (f a)) = some (as.map f) := by rw [← allD_map (as.map f), List.map_map]; rfl
  simp [gFrz, this]
def cell (ns : List Int) (k : Int) : Int := ns.getD k.toNat 0
end
end DL

/-! exceptions: raise, try, isinstance of what is caught, calls within an except suite -/
namespace DL
open PySem PySem.Spec PyProof.Rows L2
section
variable {X : Cx} {xo : Option (Addr × Nat)} {pos pos2 p p2 : Pos} {x : Str}
/-! ## raise -/
def sRaise (c : Nat) : Sv := fun ρ S => .rz c ρ S
theorem exc_at {K : PySem.W.Frag} {xo : Option (Addr × Nat)} {c : Nat} {x : Str} (h : excTab[c]? = some x) : (Gc.mk K xo).exc c = some (He.ga K x) := by
  unfold Gc.exc
  rw [h]; rfl
theorem ds_raise {c : Nat} {m : Str} {j : Nat} (hx : excTab[c]? = some x) (ok : PySem.W.excIn X.K (He.ga X.K x) He.veBase "ValueError.__new__" = true ∧ PySem.W.keepIn X.K (.ref (He.ga X.K x)) = true ∧ PySem.W.subIn X.K (.ref (He.ga X.K x)) (.type "BaseException") = some true ∧ PySem.W.typeIn X.K (.ref (He.ga X.K x)) = some (.type "type"))
    (hg : Gl X x) (gC : X.mg x = some (.ref (He.ga X.K x))) (hc : X.calm = true := by rfl) (hdb : (x == ("__debug__" : Str)) = false := by decide) : DS X xo (.Raise (some (.Call (.Name x p) [.Constant (.str m) j p2] [] pos2)) none pos) (sRaise c) :=
  ⟨fun W tk => ps_imp (L2N.ps_raise hc tk (L2N.pmk_own PySem.F.excBase_ValueError ok.1 gC ok.2.1 (raises_own ok.2.2.1 ok.2.2.2) hg hdb)) fun Dn σ H ⟨F, ι, S, ρ, r, en, p⟩ => p F ι H σ _ (.refl _ _ _) r en (exc_at hx)⟩
/-! ## try -/
def isSub (c h : Nat) : Bool := h == 0 || c == h
def calmE (ρ : Env) : Bool := ρ.all fun o => match o with
  | some (.exc _) => false
  | _ => true
/-- behind a suite; i: the name of the caught one, which goes -/
def clr (oi : Option Nat) : SR → SR := fun r =>
  let f : Env → Env := fun ρ => match oi with
    | some i => ρ.set i none
    | none => ρ
  match r with
  | .nx ρ S => if calmE (f ρ) = true then .nx (f ρ) S else .no
  | .bk ρ S => if calmE (f ρ) = true then .bk (f ρ) S else .no
  | .ct ρ S => if calmE (f ρ) = true then .ct (f ρ) S else .no
  | .rt w S => .rt w S
  | _ => .no
def putX (oi : Option Nat) (c : Nat) (ρ : Env) : Env := match oi with
  | some i => ρ.set i (some (.exc c))
  | none => ρ
def hdl (c : Nat) : List (Nat × Option Nat × Sv) → Env → Store → SR
  | [], ρ, S => .rz c ρ S
  | (h, oi, g) :: r, ρ, S => if isSub c h = true then clr oi (g (putX oi c ρ) S) else hdl c r ρ S
def sTry (cs : List Nat) (g : Sv) (hs : List (Nat × Option Nat × Sv)) : Sv := fun ρ S => match g ρ S with
  | .rz c ρ' S' => if c ∈ cs then hdl c hs ρ' S' else .no
  | r => r
/-- what the clauses wish -/
def wAll (K : PySem.W.Frag) (Wout : WX) (D : Ends) : List (Value × Option Nat × (Addr → Value → Option Addr → TS)) → WX
  | [] => Wout
  | (c, oi, ts) :: r => fun cls d σ H => ∃ b, PySem.W.exmOne K cls c = some b ∧ (b = true → ∀ a, H a = none → match oi with
      | none => ts a cls d D σ H
      | some i => ts a cls d { nx := fun σ' H' => D.nx (σ'.set i none) H', rt := D.rt, bk := fun σ' H' => D.bk (σ'.set i none) H', ct := fun σ' H' => D.ct (σ'.set i none) H' } (σ.set i (some (.ref a))) H) ∧ (b = false → wAll K Wout D r cls d σ H)
inductive HdsA (X : Cx) : List ExceptHandler → List (Value × Option Nat × (Addr → Value → Option Addr → TS)) → Prop
  | nil : HdsA X [] []
  | cons {x : Str} {c : Value} {ts : Addr → Value → Option Addr → TS} {b₀ : Stmt} {suite : List Stmt} {np pos' : Pos} {hds : List ExceptHandler} {l : List (Value × Option Nat × (Addr → Value → Option Addr → TS))} (hc : Names X x c)
      (hsu : ∀ (a : Addr) (oe : Obj) (cls : Value) (d : Option Addr) (pn : List (Addr × Obj)), L2N.Zn cls d oe → (∃ vs, oe.data = .fields vs) → PSs (X.suite a ((a, oe) :: pn)) (b₀ :: suite) (ts a cls d)) (r : HdsA X hds l) :
      HdsA X (.ExceptHandler (some (.Name x np)) none (b₀ :: suite) pos' :: hds) ((c, none, ts) :: l)
  | consA {x n : Str} {i : Nat} {c : Value} {ts : Addr → Value → Option Addr → TS} {b₀ : Stmt} {suite : List Stmt} {np pos' : Pos} {hds : List ExceptHandler} {l : List (Value × Option Nat × (Addr → Value → Option Addr → TS))} (hN : X.N.Nodup) (hi : X.N[i]? = some n) (hln : X.env.kindOf n = some .local) (hc : Names X x c)
      (hsu : ∀ (a : Addr) (oe : Obj) (cls : Value) (d : Option Addr) (pn : List (Addr × Obj)), L2N.Zn cls d oe → (∃ vs, oe.data = .fields vs) → PSs (X.suite a ((a, oe) :: pn)) (b₀ :: suite) (ts a cls d)) (r : HdsA X hds l) :
      HdsA X (.ExceptHandler (some (.Name x np)) (some n) (b₀ :: suite) pos' :: hds) ((c, some i, ts) :: l)
variable {body : List Stmt} {h₀ : ExceptHandler} {hds : List ExceptHandler} {l : List (Value × Option Nat × (Addr → Value → Option Addr → TS))} {tb : WX → TS} {Wout : WX}
theorem ps_try_all (hs : X.stack = X.env :: X.outer) (hf : X.env.frame = some X.env.locals) (tk : L2N.Takes X Wout)
    (hb : ∀ (W : WX) (pn : List (Addr × Obj)) (xe : Value → Shared → Prop), L2N.Takes (X.tr pn xe) W → PassesOwn (model X.prog X.w) X.A X.env xe → PSs (X.tr pn xe) body (tb W))
    (hh : HdsA X (h₀ :: hds) l) : PS X (.Try body (h₀ :: hds) [] [] pos) (fun D σ H => tb (wAll X.K Wout D l) D σ H) := by
  refine ⟨fun pins s σ H D I h => ?_⟩
  have ok := I.ok
  have hfr : X.A.frames = some (X.env :: X.outer) := by rw [ok.frames, hs]
  refine wpAny_Try_except ?_
  refine wpAny_mono ((hb (wAll X.K Wout D l) (X.pn ++ pins) (fun e s₁ => wpAny (model X.prog X.w) X.A (noteFrame e X.env) (fun _ s₂ => wpAny (model X.prog X.w) X.A (setFlight e none) (fun _ s₃ =>
    wpAny (model X.prog X.w) X.A (handleBy e X.env (h₀ :: hds)) (SP X pins D) X.xe s₃) X.xe s₂) X.xe s₁) (fun u s' xx => ?_) PassesOwn.looking).run [] s σ H D (I.toTry _) h) (fun f s1 hsp => ?_) (fun e s1 he => he)
  · -- the catch
    obtain ⟨a, B, sI, pins', σ', H', cls, d, rfl, J', nb, up, sky, na, os, ag, w⟩ := xx
    have J : Inv X pins σ' H' sI := J'.ofTry ok
    have sky' : Sky B (X.env :: X.outer) a (L2N.Zn cls d) X.env.locals s'.heap := by rw [← hs]; exact sky
    show wpAny (model X.prog X.w) X.A (noteFrame (.ref a) X.env) _ _ _
    refine L2N.Sky.land L2N.Zn.steady hfr hf sky' fun h3 fl3 up3 => ?_
    have J3 : Inv X pins σ' H' { s' with heap := h3 } := J.landed nb fl3.1 (up.trans up3) os ag
    obtain ⟨oe3, vs3, he3, hz3, hd3⟩ := fl3.there
    have notFr : ∀ {h : Heap} {o : Obj} {vs : Array Value}, h.FunFrames B (X.env :: X.outer) → h.get? a = some o → o.data = .fields vs → a ∉ frs (X.env :: X.outer) := fun {h o vs} ff e dd hm => by
      obtain ⟨_, o', e', hnf⟩ := ff.mem hm
      rw [e] at e'; cases e'
      exact hnf _ dd
    have nfr := notFr fl3.2.2.1 he3 hd3
    have nL : a ≠ X.env.locals := fun z => nfr (List.mem_filterMap.mpr ⟨X.env, List.mem_cons_self, by rw [hf, z]⟩)
    have nF : a ∉ X.fs := fun hm => by
      obtain ⟨e, he, q⟩ := List.mem_filterMap.mp hm
      exact nfr (List.mem_filterMap.mpr ⟨e, List.mem_cons_of_mem _ he, q⟩)
    have S3 := J3.suite he3 hd3 na nL nF
    have LT : PySem.W.Looks (model X.prog X.w) h3 (typeOf (.ref a)) cls := fun A Q E s k q => wpAny_typeOf_ref (k _ _ he3) (by rw [hz3.1]; exact q)
    have test : ∀ {x : Str} {c : Value} {np : Pos}, Names X x c → ∀ {Q : Value → Shared → Prop} {E : Value → Shared → Prop}, Q c { s' with heap := h3 } → wpAny (model X.prog X.w) (X.A.mark (some (.ref a))) (eval (.Name x np) X.env) Q E { s' with heap := h3 } := fun {x c np} hc {Q E} q => by
      obtain ⟨hg, hdbg, hm | ⟨hm, hv, hnn⟩⟩ := hc
      · exact ld_glob (X := X.suite a ((a, oe3) :: (X.pn ++ pins))) S3 hg hm q hdbg
      · exact ld_blt (X := X.suite a ((a, oe3) :: (X.pn ++ pins))) S3 hg hm hv q hnn hdbg
    have go : ∀ {hds' : List ExceptHandler} {l' : List (Value × Option Nat × (Addr → Value → Option Addr → TS))}, HdsA X hds' l' → wAll X.K Wout D l' cls d σ' H' →
        wpAny (model X.prog X.w) X.A (handleBy (.ref a) X.env hds') (SP X pins D) X.xe { s' with heap := h3 } := by
      intro hds' l' hk
      induction hk with
      | nil =>
        intro w
        refine wpAny_handleBy_nil ?_
        obtain ⟨k1, k2, k3, oe, vs, T, oT, ts', he, hz, hd, h1, hr⟩ := id fl3
        unfold PySem.passOn
        refine wpAny_bind (wpAny_field he hd h1 ?_)
        rw [if_neg (show ¬ ((Value.ref T == Value.none) = true) from by simp)]
        have fin : wpAny (model X.prog X.w) X.A (setFlight (.ref a) X.env.frame) (fun _ s4 => wpAny (model X.prog X.w) X.A (throw (.ref a) : Sem Flow) (SP X pins D) X.xe s4) X.xe { s' with heap := h3 } := by
          rw [hf]
          refine HandSPX.setFlight_upZ fl3 fun h4 hh4 up4 => wpAny_throw (tk _ _ ?_)
          exact ⟨a, B, sI, pins, σ', H', cls, d, rfl, J, nb, (up.trans up3).trans up4, .inr (.inr (by rw [hs]; exact hh4)), na, os, ag, w⟩
        first
          | exact wpAny_bind (wpAny_pure (wpAny_bind fin))
          | exact wpAny_bind fin
      | @cons x c ts b₀ suite np pos' hds2 l2 hc hsu r ih =>
        intro w
        obtain ⟨b, hb1, hyes, hno⟩ := w
        refine wpAny_handleBy_cons (codeAny_handlers_test ?_) (by intro q; cases q)
        have LM := PySem.W.exm_one (M := model X.prog X.w) (J3.kIn) LT hb1
        refine test hc (LM.here ?_)
        cases b with
        | true =>
          refine codeAny_handlers_suite ?_
          refine HandSPX.lands_againZ fl3 fun h4 fl4 up4 => ?_
          have J4 : Inv X pins σ' H' { s' with heap := h4 } := J.landed nb fl4.1 ((up.trans up3).trans up4) os ag
          obtain ⟨oe4, vs4, he4, hz4, hd4⟩ := fl4.there
          have S4 := J4.suite he4 hd4 na nL nF
          refine wpAny_mono ((hsu a oe4 cls d (X.pn ++ pins) hz4 ⟨_, hd4⟩).run [] _ _ H' _ S4 (hyes rfl a na)) (fun f s6 hsp => ?_) (fun _ _ z => False.elim z)
          cases f with
          | next =>
            obtain ⟨σ6, H6, S6, q6⟩ := hsp
            exact ⟨_, _, S6.unsuite ok, q6⟩
          | brk =>
            obtain ⟨σ6, H6, S6, q6⟩ := hsp
            exact ⟨_, _, S6.unsuite ok, q6⟩
          | cont =>
            obtain ⟨σ6, H6, S6, q6⟩ := hsp
            exact ⟨_, _, S6.unsuite ok, q6⟩
          | ret u =>
            obtain ⟨v6, σ6, H6, S6, r6, q6⟩ := hsp
            exact ⟨_, _, _, S6.unsuite ok, r6, q6⟩
        | false =>
          show wpAny _ X.A (handleBy (.ref a) X.env hds2) _ _ _
          exact ih (hno rfl)
      | @consA x n i c ts b₀ suite np pos' hds2 l2 hN hi hln hc hsu r ih =>
        intro w
        obtain ⟨b, hb1, hyes, hno⟩ := w
        have hloc : Loc X.env.scope n := .inl hln
        refine wpAny_handleBy_cons (codeAny_handlers_test ?_) (by intro q; cases q)
        have LM := PySem.W.exm_one (M := model X.prog X.w) (J3.kIn) LT hb1
        refine test hc (LM.here ?_)
        cases b with
        | true =>
          refine codeAny_handlers_suite_as ?_
          refine HandSPX.lands_againZ fl3 fun h4 fl4 up4 => ?_
          have J4 : Inv X pins σ' H' { s' with heap := h4 } := J.landed nb fl4.1 ((up.trans up3).trans up4) os ag
          obtain ⟨oe4, vs4, he4, hz4, hd4⟩ := fl4.there
          have S4 := J4.suite he4 hd4 na nL nF
          refine store_ok (X := X.suite a ((a, oe4) :: (X.pn ++ pins))) (v := .ref a) S4 hN hi hloc rfl (fun s5 S5 => ?_) (.inr hln)
          refine wpAny_mono ((hsu a oe4 cls d (X.pn ++ pins) hz4 ⟨_, hd4⟩).run [] s5 _ H' _ S5 (hyes rfl a na)) (fun f s6 hsp => ?_) (fun _ _ z => False.elim z)
          have end_ : ∀ {σ6 : St} {H6 : Hp} {Q : Shared → Prop}, Inv (X.suite a ((a, oe4) :: (X.pn ++ pins))) [] σ6 H6 s6 → (∀ s7, Inv X pins (σ6.set i none) H6 s7 → Q s7) →
              wpAny (model X.prog X.w) X.A (do bindName X.env n .none; unbindBehindTheSuite X.env n pos') (fun _ s7 => Q s7) X.xe s6 := fun {σ6 H6 Q} S6 hq => gone_ok (S6.unsuite ok) hN hi hln hq
          cases f with
          | next =>
            obtain ⟨σ6, H6, S6, q6⟩ := hsp
            exact end_ S6 fun s7 J7 => ⟨_, _, J7, q6⟩
          | brk =>
            obtain ⟨σ6, H6, S6, q6⟩ := hsp
            exact end_ S6 fun s7 J7 => ⟨_, _, J7, q6⟩
          | cont =>
            obtain ⟨σ6, H6, S6, q6⟩ := hsp
            exact end_ S6 fun s7 J7 => ⟨_, _, J7, q6⟩
          | ret u =>
            obtain ⟨v6, σ6, H6, S6, r6, q6⟩ := hsp
            exact end_ S6 fun s7 J7 => ⟨_, _, _, J7, r6, q6⟩
        | false =>
          show wpAny _ X.A (handleBy (.ref a) X.env hds2) _ _ _
          exact ih (hno rfl)
    exact go hh w
  · cases f with
    | next =>
      obtain ⟨σ', H', J', q⟩ := hsp
      exact wpAny_execs_nil ⟨σ', H', J'.ofTry ok, q⟩
    | brk =>
      obtain ⟨σ', H', J', q⟩ := hsp
      exact ⟨σ', H', J'.ofTry ok, q⟩
    | cont =>
      obtain ⟨σ', H', J', q⟩ := hsp
      exact ⟨σ', H', J'.ofTry ok, q⟩
    | ret u =>
      obtain ⟨v, σ', H', J', r, q⟩ := hsp
      exact ⟨v, σ', H', J'.ofTry ok, r, q⟩
/-! ### .. by meanings -/
theorem rep_up {K : PySem.W.Frag} {F : Hp} {ι : List Addr} {o : Option (Addr × Nat)} : ∀ {w : Wv} {v : V}, RepW ⟨K, none⟩ F ι w v → RepW ⟨K, o⟩ F ι w v
  | .d x, v, h => h
  | .ref n, v, h => h
  | .scr ns, v, h => h
  | .exc c, v, ⟨a, e, _⟩ => by cases e
theorem rep_down {K : PySem.W.Frag} {F : Hp} {ι : List Addr} {o : Option (Addr × Nat)} : ∀ {w : Wv} {v : V}, RepW ⟨K, o⟩ F ι w v → (∀ c, w ≠ .exc c) → RepW ⟨K, none⟩ F ι w v
  | .d x, v, h, _ => h
  | .ref n, v, h, _ => h
  | .scr ns, v, h, _ => h
  | .exc c, v, _, n => absurd rfl (n c)
theorem REnv.up {K : PySem.W.Frag} {F : Hp} {ι : List Addr} {o : Option (Addr × Nat)} {σ : St} {ρ : Env} (r : REnv ⟨K, none⟩ F ι σ ρ) : REnv ⟨K, o⟩ F ι σ ρ :=
  ⟨r.len, fun i w e => by
    obtain ⟨v, h, q⟩ := r.at_ i w e
    exact ⟨v, h, rep_up q⟩⟩
theorem REnv.down {K : PySem.W.Frag} {F : Hp} {ι : List Addr} {o : Option (Addr × Nat)} {σ : St} {ρ : Env} (r : REnv ⟨K, o⟩ F ι σ ρ) (h : calmE ρ = true) : REnv ⟨K, none⟩ F ι σ ρ :=
  ⟨r.len, fun i w e => by
    obtain ⟨v, hv, q⟩ := r.at_ i w e
    refine ⟨v, hv, rep_down q fun c z => ?_⟩
    have := List.all_eq_true.mp h _ (List.mem_of_getElem? e)
    rw [z] at this
    cases this⟩
structure HotOk (K : PySem.W.Frag) (cs : List Nat) (oe : Obj) (c : Nat) : Prop where
  mem : c ∈ cs
  zn : ∃ Ca, (Gc.mk K none).exc c = some Ca ∧ L2N.Zn (.ref Ca) none oe
  fl : ∃ vs, oe.data = .fields vs
def exAll (K : PySem.W.Frag) (x : Str) (h : Nat) : List Nat → Prop
  | [] => True
  | c :: cs => (∃ y, excTab[c]? = some y ∧ PySem.W.exmOne K (.ref (He.ga K y)) (.ref (He.ga K x)) = some (isSub c h)) ∧ exAll K x h cs
theorem exAll_at {K : PySem.W.Frag} {x : Str} {h : Nat} : ∀ {cs : List Nat}, exAll K x h cs → ∀ c ∈ cs, ∃ y, excTab[c]? = some y ∧ PySem.W.exmOne K (.ref (He.ga K y)) (.ref (He.ga K x)) = some (isSub c h)
  | c :: cs, ⟨a, b⟩, d, hd => by
    rcases List.mem_cons.mp hd with e | e
    · rw [e]; exact a
    · exact exAll_at b d e
inductive DHs (X : Cx) (cs : List Nat) : List ExceptHandler → List (Nat × Option Nat × Sv) → Prop
  | nil : DHs X cs [] []
  | cons {x : Str} {h : Nat} {g : Sv} {b₀ : Stmt} {suite : List Stmt} {np pos' : Pos} {hds : List ExceptHandler} {l : List (Nat × Option Nat × Sv)} (hg : Gl X x) (hm : X.mg x = some (.ref (He.ga X.K x))) (hd : (x == ("__debug__" : Str)) = false) (ex : exAll X.K x h cs)
      (hsu : ∀ (a : Addr) (oe : Obj) (c : Nat) (pn : List (Addr × Obj)), HotOk X.K cs oe c → DSs (X.suite a ((a, oe) :: pn)) (some (a, c)) (b₀ :: suite) g) (r : DHs X cs hds l) :
      DHs X cs (.ExceptHandler (some (.Name x np)) none (b₀ :: suite) pos' :: hds) ((h, none, g) :: l)
  | consA {x n : Str} {i h : Nat} {g : Sv} {b₀ : Stmt} {suite : List Stmt} {np pos' : Pos} {hds : List ExceptHandler} {l : List (Nat × Option Nat × Sv)} (hN : X.N.Nodup) (hi : X.N[i]? = some n) (hln : X.env.kindOf n = some .local) (hg : Gl X x) (hm : X.mg x = some (.ref (He.ga X.K x))) (hd : (x == ("__debug__" : Str)) = false) (ex : exAll X.K x h cs)
      (hsu : ∀ (a : Addr) (oe : Obj) (c : Nat) (pn : List (Addr × Obj)), HotOk X.K cs oe c → DSs (X.suite a ((a, oe) :: pn)) (some (a, c)) (b₀ :: suite) g) (r : DHs X cs hds l) :
      DHs X cs (.ExceptHandler (some (.Name x np)) (some n) (b₀ :: suite) pos' :: hds) ((h, some i, g) :: l)
def tsOf (K : PySem.W.Frag) (cs : List Nat) (g : Sv) : Addr → Value → Option Addr → TS := fun a cls d D σ H => ∃ c Ca, c ∈ cs ∧ (Gc.mk K none).exc c = some Ca ∧ cls = .ref Ca ∧ d = none ∧ TSo ⟨K, some (a, c)⟩ (fun _ _ _ _ => False) g D σ H
theorem suite_ok {cs : List Nat} {g : Sv} {sts : List Stmt} (h : ∀ (a : Addr) (oe : Obj) (c : Nat) (pn : List (Addr × Obj)), HotOk X.K cs oe c → DSs (X.suite a ((a, oe) :: pn)) (some (a, c)) sts g) (a : Addr) (oe : Obj) (cls : Value) (d : Option Addr) (pn : List (Addr × Obj)) (hz : L2N.Zn cls d oe) (hf : ∃ vs, oe.data = .fields vs) :
    PSs (X.suite a ((a, oe) :: pn)) sts (tsOf X.K cs g a cls d) := ⟨fun pins s σ H D I ⟨c, Ca, h1, h2, h3, h4, t⟩ => by
  subst h3 h4
  exact ((h a oe c pn ⟨h1, ⟨Ca, h2, hz⟩, hf⟩).run _ takesF).run pins s σ H D I t⟩
/-- what the clauses' readings are -/
def clsOf (K : PySem.W.Frag) (cs : List Nat) (l : List (Nat × Option Nat × Sv)) (ys : List Str) : List (Value × Option Nat × (Addr → Value → Option Addr → TS)) := (l.zip ys).map fun q => (.ref (He.ga K q.2), q.1.2.1, tsOf K cs q.1.2.2)
theorem dhs_ok {cs : List Nat} {hds : List ExceptHandler} {l : List (Nat × Option Nat × Sv)} (h : DHs X cs hds l) : ∃ ys : List Str, ys.length = l.length ∧ HdsA X hds (clsOf X.K cs l ys) ∧ ∀ (i : Nat) (q : Nat × Option Nat × Sv) (y : Str), l[i]? = some q → ys[i]? = some y → exAll X.K y q.1 cs := by
  induction h with
  | nil => exact ⟨[], rfl, .nil, fun i q y e => by simp at e⟩
  | @cons x h g b₀ suite np pos' hds l hg hm hd ex hsu r ih =>
    obtain ⟨ys, e1, e2, e3⟩ := ih
    refine ⟨x :: ys, by simp [e1], .cons ⟨hg, hd, .inl hm⟩ (suite_ok hsu) e2, fun i q y f1 f2 => ?_⟩
    cases i with
    | zero => cases f1; cases f2; exact ex
    | succ i => exact e3 i q y f1 f2
  | @consA x n i h g b₀ suite np pos' hds l hN hi hln hg hm hd ex hsu r ih =>
    obtain ⟨ys, e1, e2, e3⟩ := ih
    refine ⟨x :: ys, by simp [e1], .consA hN hi hln ⟨hg, hd, .inl hm⟩ (suite_ok hsu) e2, fun i q y f1 f2 => ?_⟩
    cases i with
    | zero => cases f1; cases f2; exact ex
    | succ i => exact e3 i q y f1 f2
theorem real_xo {K : PySem.W.Frag} {o o' : Option (Addr × Nat)} {F : Hp} {ι : List Addr} {S : Store} {H : Hp} (r : Real ⟨K, o⟩ F ι S H) : Real ⟨K, o'⟩ F ι S H := Real.to (G := ⟨K, o⟩) (G' := ⟨K, o'⟩) rfl r
theorem clr_none {K : PySem.W.Frag} {W : WX} {F : Hp} {ι : List Addr} {H : Hp} {r : SR} {Dn : Ends} {o : Option (Addr × Nat)} (p : PostS ⟨K, none⟩ W F ι H (clr none r) Dn) : PostS ⟨K, o⟩ (fun _ _ _ _ => False) F ι H r Dn := by
  unfold clr at p
  cases r with
  | nx ρ S =>
    simp only at p
    split at p
    · rename_i hc
      exact fun F' ι' H' σ' x r en => p F' ι' H' σ' x (real_xo r) (en.down hc)
    · exact p.elim
  | bk ρ S =>
    simp only at p
    split at p
    · rename_i hc
      exact fun F' ι' H' σ' x r en => p F' ι' H' σ' x (real_xo r) (en.down hc)
    · exact p.elim
  | ct ρ S =>
    simp only at p
    split at p
    · rename_i hc
      exact fun F' ι' H' σ' x r en => p F' ι' H' σ' x (real_xo r) (en.down hc)
    · exact p.elim
  | rt w S => exact fun F' ι' H' v x r h => p F' ι' H' v x (real_xo r) h
  | rz c ρ S => exact p.elim
  | no => exact p.elim
theorem clr_some {K : PySem.W.Frag} {W : WX} {F : Hp} {ι : List Addr} {H : Hp} {r : SR} {Dn : Ends} {o : Option (Addr × Nat)} {i : Nat} (p : PostS ⟨K, none⟩ W F ι H (clr (some i) r) Dn) :
    PostS ⟨K, o⟩ (fun _ _ _ _ => False) F ι H r { nx := fun σ' H' => Dn.nx (σ'.set i none) H', rt := Dn.rt, bk := fun σ' H' => Dn.bk (σ'.set i none) H', ct := fun σ' H' => Dn.ct (σ'.set i none) H' } := by
  unfold clr at p
  cases r with
  | nx ρ S =>
    simp only at p
    split at p
    · rename_i hc
      exact fun F' ι' H' σ' x r en => p F' ι' H' (σ'.set i none) x (real_xo r) ((en.unset i).down hc)
    · exact p.elim
  | bk ρ S =>
    simp only at p
    split at p
    · rename_i hc
      exact fun F' ι' H' σ' x r en => p F' ι' H' (σ'.set i none) x (real_xo r) ((en.unset i).down hc)
    · exact p.elim
  | ct ρ S =>
    simp only at p
    split at p
    · rename_i hc
      exact fun F' ι' H' σ' x r en => p F' ι' H' (σ'.set i none) x (real_xo r) ((en.unset i).down hc)
    · exact p.elim
  | rt w S => exact fun F' ι' H' v x r h => p F' ι' H' v x (real_xo r) h
  | rz c ρ S => exact p.elim
  | no => exact p.elim
theorem hdl_ok {K : PySem.W.Frag} {cs : List Nat} {Wout : WX} {Dn : Ends} {c : Nat} (hc : c ∈ cs) : ∀ (l : List (Nat × Option Nat × Sv)) (ys : List Str), ys.length = l.length → (∀ (i : Nat) (q : Nat × Option Nat × Sv) (y : Str), l[i]? = some q → ys[i]? = some y → exAll K y q.1 cs) →
    ∀ {F : Hp} {ι : List Addr} {S : Store} {H : Hp} {σ : St} {ρ : Env} {Ca : Addr}, Real ⟨K, none⟩ F ι S H → REnv ⟨K, none⟩ F ι σ ρ → (Gc.mk K none).exc c = some Ca → PostS ⟨K, none⟩ Wout F ι H (hdl c l ρ S) Dn → wAll K Wout Dn (clsOf K cs l ys) (.ref Ca) none σ H
  | [], [], _, _, F, ι, S, H, σ, ρ, Ca, r, en, ec, p => p F ι H σ Ca (.refl _ _ _) r en ec
  | [], y :: ys, hl, _, F, ι, S, H, σ, ρ, Ca, r, en, ec, p => by simp at hl
  | q :: l, [], hl, _, F, ι, S, H, σ, ρ, Ca, r, en, ec, p => by simp at hl
  | (h, oi, g) :: l, y :: ys, hl, he, F, ι, S, H, σ, ρ, Ca, r, en, ec, p => by
    have h0 := he 0 (h, oi, g) y rfl rfl
    obtain ⟨z, e1, e2⟩ := exAll_at h0 c hc
    have e3 := exc_at (K := K) (xo := none) e1
    rw [ec] at e3
    cases e3
    refine ⟨isSub c h, e2, fun hb => ?_, fun hb => ?_⟩
    · intro a na
      rw [hdl, if_pos hb] at p
      cases oi with
      | none => exact ⟨c, _, hc, ec, rfl, rfl, F, ι, S, ρ, real_xo r, en.up, clr_none p⟩
      | some i => exact ⟨c, _, hc, ec, rfl, rfl, F, ι, S, _, real_xo r, en.up.set i (w := .exc c) (v := .ref a) ⟨a, rfl, rfl⟩, clr_some p⟩
    · rw [hdl, if_neg (by rw [hb]; exact Bool.false_ne_true)] at p
      exact hdl_ok hc l ys (by simpa using hl) (fun i q y f1 f2 => he (i + 1) q y f1 f2) r en ec p
theorem ds_try {cs : List Nat} {g : Sv} {hs : List (Nat × Option Nat × Sv)} (hs0 : X.stack = X.env :: X.outer) (hf : X.env.frame = some X.env.locals)
    (hb : ∀ (pn : List (Addr × Obj)) (xe : Value → Shared → Prop), PassesOwn (model X.prog X.w) X.A X.env xe → DSs (X.tr pn xe) none body g) (hh : DHs X cs (h₀ :: hds) hs) :
    DS X none (.Try body (h₀ :: hds) [] [] pos) (sTry cs g hs) := by
  obtain ⟨ys, e1, e2, e3⟩ := dhs_ok hh
  refine ⟨fun W tk => ps_imp (ps_try_all (tb := fun W => TSo (gc X none) W g) hs0 hf tk (fun W pn xe tk hp => (hb pn xe hp).run W tk) e2) fun Dn σ H ⟨F, ι, S, ρ, r, en, p⟩ => ⟨F, ι, S, ρ, r, en, ?_⟩⟩
  unfold sTry at p
  cases q : g ρ S with
  | rz c ρ' S' =>
    rw [q] at p
    simp only at p
    split at p
    · rename_i hc
      exact fun F' ι' H' σ' Ca x r' en' ec => hdl_ok hc hs ys e1 e3 r' en' ec (p.ext x)
    · exact p.elim
  | nx _ _ => rw [q] at p; exact p
  | rt _ _ => rw [q] at p; exact p
  | bk _ _ => rw [q] at p; exact p
  | ct _ _ => rw [q] at p; exact p
  | no => rw [q] at p; exact p.elim
end
end DL

/-! within an except suite: isinstance of what is caught, calls of defs and methods -/
namespace L2H
open PySem L2
theorem RoomH.units {k : Nat} {A : Around} (r : RoomH k A) : A.units + 64 < cLine := by have := r.un; omega
end L2H
namespace DL
open PySem PySem.Spec PyProof.Rows L2
/-- the context bears the exception c, handled, at a -/
structure Hot (X : Cx) (cs : List Nat) (a : Addr) (c : Nat) : Prop where
  ex : ∃ oe, (a, oe) ∈ X.pn ∧ HotOk X.K cs oe c ∧ X.A.handled = some (.ref a)
theorem zn_zc {cls : Value} {d : Option Addr} {oe : Obj} (h : L2N.Zn cls d oe) : Zc cls d oe := ⟨h.1, h.2.1⟩
section
variable {X : Cx} {pos p p2 apos : Pos} {e o : Expr} {es : List Expr} {fs : Env → Store → Res (List Wv)} {x y m : Str} {f : Addr} {n k : Nat} {sem : Sem'} {cs : List Nat} {a : Addr} {c : Nat} {fe fo : Ev}
theorem call_isEX {D : Addr} {oe : Obj} (hp : (a, oe) ∈ X.pn) (C : ExcC X.K D) (hz : Zc (.ref D) none oe) (hf : ∃ vs, oe.data = .fields vs) : CallR X (.builtin "isinstance") (rIsE X.K D a) := by
  intro pins s σ H xs us Q I r h
  obtain ⟨c, cv, b, rfl, hcv, e, q⟩ := h
  cases r with
  | cons rx rr =>
    cases rr with
    | cons rt rr =>
      cases rr
      cases rx
      have ec := hcv _ rt
      subst ec
      obtain ⟨hget, _⟩ := I.pin (a, oe) (List.mem_append.mpr (.inl hp))
      obtain ⟨vs, hv⟩ := hf
      have J : PySem.W.InstAt s.heap a oe D none := by
        obtain ⟨oc, od, oda, osl⟩ := oe
        obtain ⟨h1, h2⟩ := hz
        dsimp only at h1 h2 hv
        subst h1 h2 hv
        exact ⟨hget, rfl, rfl, trivial⟩
      exact PySem.W.kia_one (PySem.W.handS_kitx_exc C.hg C.hk C.hs C.hd C.ha C.hn C.ht C.hm) I.kIn J e (fun z => nomatch z) fun tk => ⟨.bl b, H, I.kept (t' := tk) fun _ _ z => z, rfl, q⟩
/-- isinstance(e, Y), Y a class of the text -/
def evIsE (h : Nat) (fe : Ev) : Ev := fun ρ S => (fe ρ S).bind fun w S1 => match w with
  | .exc c => .ok (.d (.bl (isSub c h))) S1
  | _ => .no
def evIsV (fe : Ev) : Ev := fun ρ S => (fe ρ S).bind fun w S1 => match w with
  | .exc c => .ok (.d (.bl true)) S1
  | _ => .no
def isAll (K : PySem.W.Frag) (y : Str) (h : Nat) : List Nat → Prop
  | [] => True
  | c :: cs => (∃ z, excTab[c]? = some z ∧ ExcC K (He.ga K z) ∧ PySem.W.kitOne K (.ref (He.ga K z)) (.ref (He.ga K y)) = some (isSub c h)) ∧ isAll K y h cs
theorem isAll_at {K : PySem.W.Frag} {y : Str} {h : Nat} : ∀ {cs : List Nat}, isAll K y h cs → ∀ c ∈ cs, ∃ z, excTab[c]? = some z ∧ ExcC K (He.ga K z) ∧ PySem.W.kitOne K (.ref (He.ga K z)) (.ref (He.ga K y)) = some (isSub c h)
  | c :: cs, ⟨a, b⟩, d, hd => by
    rcases List.mem_cons.mp hd with e | e
    · rw [e]; exact a
    · exact isAll_at b d e
def isAllV (K : PySem.W.Frag) : List Nat → Prop
  | [] => True
  | c :: cs => (∃ z, excTab[c]? = some z ∧ ExcC K (He.ga K z) ∧ PySem.W.kitOne K (.ref (He.ga K z)) (.type "ValueError") = some true) ∧ isAllV K cs
theorem isAllV_at {K : PySem.W.Frag} : ∀ {cs : List Nat}, isAllV K cs → ∀ c ∈ cs, ∃ z, excTab[c]? = some z ∧ ExcC K (He.ga K z) ∧ PySem.W.kitOne K (.ref (He.ga K z)) (.type "ValueError") = some true
  | c :: cs, ⟨a, b⟩, d, hd => by
    rcases List.mem_cons.mp hd with e | e
    · rw [e]; exact a
    · exact isAllV_at b d e
theorem hot_cls {K : PySem.W.Frag} {z : Str} {oe : Obj} (hk : HotOk K cs oe c) (e : excTab[c]? = some z) : L2N.Zn (.ref (He.ga K z)) none oe := by
  obtain ⟨Ca, h1, h2⟩ := hk.zn
  rw [exc_at e] at h1
  cases h1
  exact h2
theorem de_isE {h : Nat} (ht : Hot X cs a c) (al : isAll X.K y h cs) (hg : Gl X x) (hm : X.mg x = none) (hv : bootBuiltins x = some (.builtin "isinstance")) (he : DE X (some (a, c)) e fe) (hg2 : Gl X y) (hm2 : X.mg y = some (.ref (He.ga X.K y)))
    (hn : x ≠ "__name__" := by decide) (hdb : (x == ("__debug__" : Str)) = false := by decide) (hdb2 : (y == ("__debug__" : Str)) = false := by decide)
    (hs : starEach [e, .Name y p2] X.env = (false, eval e X.env) :: starEach [.Name y p2] X.env := by rfl) (hs2 : starEach [.Name y p2] X.env = (false, eval (.Name y p2) X.env) :: starEach [] X.env := by rfl)
    (hpl : (backTo pos (starEach [.Name y p2] X.env)).any (·.1) = false := by rfl) : DE X (some (a, c)) (.Call (.Name x p) [e, .Name y p2] [] pos) (evIsE h fe) := by
  obtain ⟨oe, hp, hk, hh⟩ := ht.ex
  obtain ⟨z, e1, e2, e3⟩ := isAll_at al c hk.mem
  refine ⟨fun W tk => pe_imp (pe_callB (call_isEX hp e2 (zn_zc (hot_cls hk e1)) hk.fl) hg hm hv (pa_cons (he.run W tk) (pa_cons (pe_glob (v := .ref (He.ga X.K y)) hg2 hm2 rfl hdb2) pa_nil hs2) hs) hn hdb hs hpl) fun σ H Q ⟨F, ι, S, ρ, rl, en, q⟩ => TEo.step rl en q fun F1 ι1 S1 H1 w v x1 r1 en1 hw p1 => ?_⟩
  split at p1
  · rename_i c'
    obtain ⟨a', ea, rfl⟩ := hw
    cases ea
    exact ⟨_, .ref (He.ga X.K y), _, rfl, fun u ru => by cases ru; rfl, e3, ret_bl p1 r1⟩
  · exact p1.elim
theorem de_isV (ht : Hot X cs a c) (al : isAllV X.K cs) (hg : Gl X x) (hm : X.mg x = none) (hv : bootBuiltins x = some (.builtin "isinstance")) (he : DE X (some (a, c)) e fe) (hg2 : Gl X y) (hm2 : X.mg y = none) (hv2 : bootBuiltins y = some (.type "ValueError"))
    (hn : x ≠ "__name__" := by decide) (hdb : (x == ("__debug__" : Str)) = false := by decide) (hn2 : y ≠ "__name__" := by decide) (hdb2 : (y == ("__debug__" : Str)) = false := by decide)
    (hs : starEach [e, .Name y p2] X.env = (false, eval e X.env) :: starEach [.Name y p2] X.env := by rfl) (hs2 : starEach [.Name y p2] X.env = (false, eval (.Name y p2) X.env) :: starEach [] X.env := by rfl)
    (hpl : (backTo pos (starEach [.Name y p2] X.env)).any (·.1) = false := by rfl) : DE X (some (a, c)) (.Call (.Name x p) [e, .Name y p2] [] pos) (evIsV fe) := by
  obtain ⟨oe, hp, hk, hh⟩ := ht.ex
  obtain ⟨z, e1, e2, e3⟩ := isAllV_at al c hk.mem
  refine ⟨fun W tk => pe_imp (pe_callB (call_isEX hp e2 (zn_zc (hot_cls hk e1)) hk.fl) hg hm hv (pa_cons (he.run W tk) (pa_cons (pe_bltn (v := .ty "ValueError") hg2 hm2 hv2 rfl hn2 hdb2) pa_nil hs2) hs) hn hdb hs hpl) fun σ H Q ⟨F, ι, S, ρ, rl, en, q⟩ => TEo.step rl en q fun F1 ι1 S1 H1 w v x1 r1 en1 hw p1 => ?_⟩
  split at p1
  · rename_i c'
    obtain ⟨a', ea, rfl⟩ := hw
    cases ea
    exact ⟨_, .type "ValueError", _, rfl, fun u ru => by cases ru; rfl, e3, ret_bl p1 r1⟩
  · exact p1.elim
end
/-! ### defs that are called there -/
structure FnX (P : Program) (w : World) (K : PySem.W.Frag) (mg : Str → Option Value) (base : Heap) (cs : List Nat) (k : Nat) (f : Addr) (fd : FuncData) (ps : List Str) (sp : Addr → Nat → Sp) : Prop where
  len : ∀ a c vs H Q E, sp a c vs H Q E → vs.length = ps.length
  run : ∀ (A : Around) (outer : List PySem.Env) (s : Shared) (H : Hp) (args : Args) (us : List Value) (vs : List V) (Q : VK) (E : XK) (p : Addr × Obj) (c : Nat), L2H.RoomH k A → L2H.Hot1 A p → HotOk K cs p.2 c → L2H.PinOk outer H s p → Env0 P w K mg base A outer s H → BindsTo s fd args (ps.zip us) → Vals vs us → sp p.1 c vs H Q E →
    codeAny (model P w) A (.call (.ref f) args) (CR (L2N.CX P w) outer P w H s Q E) s
theorem fn_ofX {P : Program} {w : World} {K : PySem.W.Frag} {mg : Str → Option Value} {base : Heap} {cs : List Nat} {k : Nat} {f : Addr} {name qual : Str} {params : Arguments} {body : List Stmt} {scope : Scope} {dV kV doc pm cdv ct oc : Value} {an od : Option Addr}
    {osl : Array (Option Value)} {N ps : List Str} {sp : Addr → Nat → Sp} (lk : K.lookup f = some ⟨oc, od, .func (PySem.W.fnOf name qual params body scope dV kV doc pm an cdv ct), osl⟩) (hcd : PySem.W.codeIn K cdv qual = true) (S : FnScope N ps scope)
    (len : ∀ a c vs H Q E, sp a c vs H Q E → vs.length = ps.length)
    (hbody : ∀ (A : Around) (outer : List PySem.Env) (s : Shared) (H : Hp) (vs : List V) (Q : VK) (E : XK) (p : Addr × Obj) (c : Nat), L2H.Hot1 A p → HotOk K cs p.2 c → L2H.RoomH k (A.deeper (envOfC qual scope s.heap.objs.size f cdv)) → sp p.1 c vs H Q E →
      ∃ t, PSs (L2H.cxH (L2N.CX P w) P w K mg base N qual scope f cdv A outer s H E p) body t ∧ t { nx := fun _ H' => Q .non H', rt := Q } (L2.start N vs) H) :
    FnX P w K mg base cs (k + 1) f (PySem.W.fnOf name qual params body scope dV kV doc pm an cdv ct) ps sp := by
  refine ⟨len, fun A outer s H args us vs Q E p c hr hot hk hpin e0 hb r hsp => ?_⟩
  have hl := len _ _ _ _ _ _ hsp
  have KX : K.In s.heap := e0.mod.kin.keeps fun b o e => (e0.bs b o e).1
  have lim : s.heap.NoLimit := e0.mod.nolimit.keeps fun b o e => (e0.bs b o e).1
  have hkind : ∀ y ∈ ps.zip us, scope.names.lookup y.1 = some .local ∨ (scope.names.lookup y.1 = some .cell ∧ ((cellsFrom (s.heap.objs.size + 1) scope.names []).lookup y.1).isSome = true) := fun ⟨n, v⟩ hy => by
    rcases S.par n (List.of_mem_zip hy).1 with q | q
    · exact .inl q
    · exact .inr ⟨q, PySem.W.cellsFrom_some _ _ _ (.inl q)⟩
  refine codeAny_call_function hr.depth (KX _ _ lk) rfl S.co S.gen rfl (PySem.W.codeRec_of KX hcd) (hb _ _ _ _ ?_)
  refine wpAny_newFunctionEnv_cells S.kind hkind fun env he s1 x => ?_
  subst he
  refine ⟨lim.keeps x.toInCall.keep, codeAny_func ?_⟩
  obtain ⟨t, ht, hq⟩ := hbody A outer s H vs Q E p c hot hk (hr.deeper _) hsp
  have I : Inv (L2H.cxH (L2N.CX P w) P w K mg base N qual scope f cdv A outer s H E p) [] (L2.start N vs) H s1 := L2H.inv_startH S hpin e0 hl r x
  refine wpAny_mono (ht.run [] s1 (L2.start N vs) H _ I hq) (fun fl s' hs => ?_) fun e s' hs => hs
  have fin : ∀ {σ' : St} {H' : Hp} {v : V} {u : Value}, Inv (L2H.cxH (L2N.CX P w) P w K mg base N qual scope f cdv A outer s H E p) [] σ' H' s' → RelV v u → Q v H' → CE outer P w H s Q u s' :=
    fun {σ' H' v u} J rv q => ⟨v, H', J.os, J.bare, J.base, J.hok, rv, q⟩
  cases fl with
  | ret u =>
    obtain ⟨v, σ', H', J, rv, q⟩ := hs
    exact fin J rv q
  | next =>
    obtain ⟨σ', H', J, q⟩ := hs
    exact fin (v := V.non) (u := Value.none) J rfl q
  | brk =>
    obtain ⟨_, _, _, q⟩ := hs
    exact False.elim q
  | cont =>
    obtain ⟨_, _, _, q⟩ := hs
    exact False.elim q
def spX (K : PySem.W.Frag) (n : Nat) (sem : Sem') (a : Addr) (c : Nat) : Sp := fun vs H Q E => vs.length = n ∧ ∃ F ι S ws, Real ⟨K, some (a, c)⟩ F ι S H ∧ RepWs ⟨K, some (a, c)⟩ F ι ws vs ∧
  Post ⟨K, some (a, c)⟩ (fun c d _ H' => E c d H') F ι H [] (sem ws S) fun F' ι' H' w _ => ∀ v, RepW ⟨K, none⟩ F' ι' w v → Q v H'
theorem renv_startG {G : Gc} {F : Hp} {ι : List Addr} {N : List Str} {ws : List Wv} {vs : List V} {n : Nat} (h : RepWs G F ι ws vs) (hn : vs.length = n) : REnv G F ι (L2.start N vs) (ws.map some ++ List.replicate (N.length - n) none) := by
  have hl := h.length
  refine ⟨by unfold L2.start; simp [hl, hn], fun i w e => ?_⟩
  by_cases hi : i < ws.length
  · rw [List.getElem?_append_left (by simpa using hi), List.getElem?_map] at e
    cases q : ws[i]? with
    | none => rw [q] at e; cases e
    | some u =>
      rw [q] at e
      cases e
      obtain ⟨v, h1, h2⟩ := p2get h q
      refine ⟨v, ?_, h2⟩
      unfold L2.start
      rw [List.getElem?_append_left (by simp; omega), List.getElem?_map, h1]
      rfl
  · rw [List.getElem?_append_right (by simpa using hi), List.getElem?_replicate] at e
    split at e <;> cases e
section
variable {P : Program} {w : World} {K : PySem.W.Frag} {mg : Str → Option Value} {base : Heap} {x qual : Str} {params : Arguments} {body : List Stmt} {scope : Scope} {f : Addr} {fd : FuncData} {cs : List Nat}
theorem fnx_ok {N ps : List Str} {k n : Nat} {g : Sv} (F : FunD K x qual params body scope [] [] f fd) (S : FnScope N ps scope) (hn : ps.length = n)
    (hb : ∀ (cdv : Value) (A : Around) (outer : List PySem.Env) (s : Shared) (H : Hp) (E : XK) (p : Addr × Obj) (c : Nat), L2H.RoomH k (A.deeper (envOfC qual scope s.heap.objs.size f cdv)) → Hot (L2H.cxH (L2N.CX P w) P w K mg base N qual scope f cdv A outer s H E p) cs p.1 c →
      DSs (L2H.cxH (L2N.CX P w) P w K mg base N qual scope f cdv A outer s H E p) (some (p.1, c)) body g) :
    FnX P w K mg base cs (k + 1) f fd ps (spX K n (fnS n N.length g)) := by
  obtain ⟨oc, od, dV, kV, doc, pm, an, cdv, ct, osl, rfl, lk, hcd, _, _⟩ := F.ex
  refine fn_ofX lk hcd S (fun a c vs H Q E h => by rw [h.1, hn]) fun A outer s H vs Q E p c hot hk hr h => ?_
  obtain ⟨hl, F, ι, St, ws, r, hw, q⟩ := h
  have ht : Hot (L2H.cxH (L2N.CX P w) P w K mg base N qual scope f cdv A outer s H E p) cs p.1 c := ⟨p.2, List.mem_singleton.mpr rfl, hk, hot.1⟩
  refine ⟨_, (hb cdv A outer s H E p c hr ht).run _ (L2N.takes_of (E := E) rfl rfl rfl rfl), F, ι, St, _, r, renv_startG (N := N) hw hl, ?_⟩
  unfold fnS at q
  rw [if_pos (by rw [hw.length]; exact hl)] at q
  cases e : g (ws.map some ++ List.replicate (N.length - n) none) St with
  | nx ρ' S' => rw [e] at q; exact fun F' ι' H' σ' x r' en' => q F' ι' H' x r' _ (w_non.mpr rfl)
  | rt u S' => rw [e] at q; exact fun F' ι' H' v x r' hv => q F' ι' H' x r' v hv
  | rz c ρ' S' => rw [e] at q; exact fun F' ι' H' σ' Ca x r' en' hc => q F' ι' H' Ca x r' hc
  | bk _ _ => rw [e] at q; exact q.elim
  | ct _ _ => rw [e] at q; exact q.elim
  | no => rw [e] at q; exact q.elim
end
structure FnE (P : Program) (w : World) (K : PySem.W.Frag) (mg : Str → Option Value) (base : Heap) (cs : List Nat) (f : Addr) (n k : Nat) (sem : Sem') : Prop where
  ex : ∃ fd ps, ps.length = n ∧ FnX P w K mg base cs k f fd ps (spX K n sem) ∧ Binds K fd ps [] ∧ PySem.W.keepIn K (.ref f) = true
theorem fne_of {P : Program} {w : World} {K : PySem.W.Frag} {mg : Str → Option Value} {base : Heap} {cs : List Nat} {x qual : Str} {params : Arguments} {body : List Stmt} {scope : Scope} {f : Addr} {fd : FuncData} {ps : List Str} {n k : Nat} {sem : Sem'}
    (F : FunD K x qual params body scope [] [] f fd) (hn : ps.length = n) (ok : FnX P w K mg base cs k f fd ps (spX K n sem)) (b : Binds K fd ps []) : FnE P w K mg base cs f n k sem := ⟨fd, ps, hn, ok, b, F.kp⟩
section
variable {X : Cx} {pos p p2 apos : Pos} {e o : Expr} {es : List Expr} {fs : Env → Store → Res (List Wv)} {x y m : Str} {f : Addr} {n k : Nat} {sem : Sem'} {cs : List Nat} {a : Addr} {c : Nat} {fe fo : Ev}
theorem run_fnX {fd : FuncData} {ps : List Str} {sp : Addr → Nat → Sp} {E : St → XK} {pins : List (Addr × Obj)} {σ : St} {H : Hp} {s : Shared} {Q : VK} {us : List Value} {vs : List V} (F : FnX X.prog X.w X.K X.mg X.base cs k f fd ps sp) (hr : L2H.RoomH k X.A) (ht : Hot X cs a c) (hb : Binds X.K fd ps []) (hx : PassesAt (L2N.CX X.prog X.w) X σ (E σ))
    (I : Inv X pins σ H s) (r : Vals vs us) (h : sp a c vs H Q (E σ)) : wpAny (model X.prog X.w) X.A (call (.ref f) us) (EP X pins σ Q) X.xe s := by
  obtain ⟨oe, hp, hk, hh⟩ := ht.ex
  have hl : us.length = ps.length := by rw [← r.length]; exact F.len _ _ _ _ _ _ h
  have b := hb s us I.kIn (by rw [List.append_nil]; exact hl)
  rw [List.append_nil] at b
  have P1 := I.pin (a, oe) (List.mem_append_left _ hp)
  have hpin : L2H.PinOk X.stack H s (a, oe) := ⟨P1.1, P1.2.1, fun hm => (List.mem_cons.mp (I.stkSub a hm)).elim P1.2.2.1 P1.2.2.2.1, P1.2.2.2.2⟩
  have hot : L2H.Hot1 X.A (a, oe) := ⟨hh, by
    obtain ⟨vs, hv⟩ := hk.fl
    obtain ⟨Ca, _, hz⟩ := hk.zn
    exact ⟨vs, hv, hz.2.2 vs hv⟩⟩
  refine wpAny_call (codeAny_mono (F.run X.A X.stack s H ⟨us, []⟩ us vs Q (E σ) (a, oe) c hr hot hk hpin I.env0 b r h) fun r s' hq => ?_)
  cases r with
  | error e => exact hx pins H s e s' I hq
  | ok fl =>
    cases fl with
    | ret u => exact I.after hq
    | next => exact False.elim hq
    | brk => exact False.elim hq
    | cont => exact False.elim hq
theorem spX_use {W : WX} {K : PySem.W.Frag} {σ : St} {F : Hp} {ι : List Addr} {S : Store} {H : Hp} {ws : List Wv} {vs : List V} {Q : VK} (hl : ws.length = n) (r : Real ⟨K, some (a, c)⟩ F ι S H) (h : RepWs ⟨K, some (a, c)⟩ F ι ws vs) (p : PostE ⟨K, some (a, c)⟩ W F ι H σ (sem ws S) Q) : spX K n sem a c vs H Q (WE W σ) := by
  refine ⟨by rw [← h.length]; exact hl, F, ι, S, ws, r, h, ?_⟩
  cases q : sem ws S with
  | ok u S' => rw [q] at p; exact fun F' ι' H' x r' v hv => p F' ι' H' x r' v (rep_up hv)
  | rz c S' => rw [q] at p; exact p
  | no => rw [q] at p; exact p
theorem de_callX (F : FnE X.prog X.w X.K X.mg X.base cs f n k sem) (hr : L2H.RoomH k X.A) (ht : Hot X cs a c) (hg : Gl X x) (hm : X.mg x = some (.ref f)) (ha : DA X (some (a, c)) (e :: es) fs) (hdb : (x == ("__debug__" : Str)) = false := by decide)
    (he : starEach (e :: es) X.env = (false, eval e X.env) :: starEach es X.env := by rfl) (hpl : (backTo pos (starEach es X.env)).any (·.1) = false := by rfl) : DE X (some (a, c)) (.Call (.Name x p) (e :: es) [] pos) (evN (gCall n sem) fs) := by
  obtain ⟨fd, ps, hn, ok, b, kp⟩ := F.ex
  have rule : ∀ (W : WX), L2N.Takes X W → ∀ {t : TA}, PA X (e :: es) t → PE X (.Call (.Name x p) (e :: es) [] pos) (tCallS (spX X.K n sem a c) (WE W) t) := fun W tk {t} ha => ⟨fun pins s σ H Q I h => by
    refine wpAny_Call_Name_kw (ld_glob I hg hm ?_ hdb)
    refine PySem.W.callWith_K (h₀ := X.base) I.ok.mod.kin kp (thn (ha.run pos pins s σ H _ I h) fun us s1 ⟨vs, H1, I1, r, q⟩ => ⟨I1.kIn, ?_⟩) he hpl
    exact run_fnX ok hr ht b (L2N.passAt tk σ) I1 r q⟩
  refine ⟨fun W tk => pe_imp (rule W tk (ha.run W tk)) fun σ H Q ⟨F, ι, S, ρ, rl, en, q⟩ => TAo.step rl en q fun F1 ι1 S1 H1 ws vs x1 r1 en1 hv p1 => ?_⟩
  unfold gCall at p1
  split at p1
  · rename_i hl
    exact spX_use hl r1 hv p1
  · exact p1.elim
theorem isIns_repX {K : PySem.W.Frag} {xo : Option (Addr × Nat)} {F : Hp} {ι : List Addr} {S : Store} {H : Hp} {w : Wv} {v : V} {C : Nat} {Ca : Addr} {fs : List Str} (r : Real ⟨K, xo⟩ F ι S H) (h : RepW ⟨K, xo⟩ F ι w v) (c : isIns C S w = true) (hc : (⟨K, none⟩ : Gc).cls C = some (Ca, fs)) (hm : m ∉ fs) :
    ∃ a dx l, v = .ref a ∧ H a = some (.ins Ca dx l) ∧ l.lookup m = none := isIns_rep (K := K) (real_xo r) (rep_down h fun c' z => by subst z; cases c) c hc hm
theorem de_meth0X {C : Nat} {pl : Sem Bool} (M : MthOk X.K C m f) (F : FnE X.prog X.w X.K X.mg X.base cs f n k sem) (hr : L2H.RoomH k X.A) (hot : Hot X cs a c) (ho : DE X (some (a, c)) o fo)
    (ht : eval (.Call (.Attribute o m apos) [] [] pos) X.env = (do
      let ov ← eval o X.env
      standAt apos.atName
      let (f, first) ← holding [ov] (getMethod ov m pl)
      callWith pos f first (backTo pos (starEach [] X.env)) (backToKw pos (keywordEach [] X.env))) := by rfl) : DE X (some (a, c)) (.Call (.Attribute o m apos) [] [] pos) (evMeth C n sem fo evNil) := by
  obtain ⟨fd, ps, hn, ok, b, kp⟩ := F.ex
  obtain ⟨Ca, fl, hC, hmf, cl, mt⟩ := M.ex
  have rule : ∀ (W : WX), L2N.Takes X W → ∀ {t : TE}, PE X o t → PE X (.Call (.Attribute o m apos) [] [] pos) (tMethS Ca m (spX X.K n sem a c) (WE W) t tNil) := fun W tk {t} he => ⟨fun pins s σ H Q I h => by
    refine PySem.W.methodCall_KW (pl := pl) (thn (he.run pins s σ H _ I h) fun u s1 ⟨x, H1, I1, rx, a', dx, fs, ex, ea, l, q⟩ => ?_) ht
    subst ex
    obtain rfl : u = Value.ref a' := rx
    exact getmeth_ok I1 ea cl mt l (PySem.W.callWith_K0 (first := [.ref a']) I1.kIn mt.kp (run_fnX (us := [.ref a']) (vs := [.ref a']) ok hr hot b (L2N.passAt tk σ) I1 (.cons rfl .nil) q))⟩
  refine ⟨fun W tk => pe_imp (rule W tk (ho.run W tk)) fun σ H Q ⟨F, ι, S, ρ, rl, en, q⟩ => TEo.step rl en q fun F1 ι1 S1 H1 w v x1 r1 en1 hv p1 => ?_⟩
  split at p1
  · rename_i hi
    obtain ⟨a', dx, l, rfl, ea, lk⟩ := isIns_repX r1 hv hi hC hmf
    refine ⟨a', dx, l, rfl, ea, lk, ?_⟩
    unfold evNil gCall at p1
    have p2 : PostE ⟨X.K, some (a, c)⟩ W F1 ι1 H1 σ (if [w].length = n then sem [w] S1 else .no) Q := p1
    split at p2
    · rename_i hl
      exact spX_use hl r1 (.cons hv .nil) p2
    · exact p2.elim
  · exact p1.elim
end
end DL

/-! the facts of a text, with those of its exceptions' classes -/
namespace DL
open PySem PySem.Spec PyProof.Rows L2 He
/-- room in a suite -/
theorem hotR {k : Nat} {A : Around} {v : Option Value} (r : Room k A) : L2H.RoomH k (A.mark v) := ⟨r.dp, r.un⟩
/-- isinstance asks instances of x rightly; .. answers b to a class of the text; true to ValueError -/
inductive Ex where
  | ask (x : Str) | kit (x y : Str) (b : Bool) | val (x : Str)
def askB (K : PySem.W.Frag) (D : Addr) : Bool :=
  eqO (PySem.W.findIn K (.ref D) "__getattribute__") (some (some (.builtin "BaseException.__getattribute__"))) && (eqO (PySem.W.findIn K (.ref D) "__getattr__") (some none) &&
  (decide (PySem.W.subIn K (.ref D) (.type "BaseException") = some true) && (PySem.W.hasDictIn K D && (eqO (PySem.W.findIn K (.ref D) "__class__") (some (some (.builtin "object.__class__"))) &&
  (eqO (PySem.W.specialIn K (.builtin "object.__class__") "__get__") (some (some (.builtin "getset_descriptor.__get__"))) && (decide (PySem.W.takesIn K (.builtin "object.__class__") = some true) && decide (PySem.W.mroIn K D (.type "object") = some true)))))))
theorem askB_ok {K : PySem.W.Frag} {D : Addr} (h : askB K D = true) : ExcC K D := by
  obtain ⟨h1, h⟩ := ba h
  obtain ⟨h2, h⟩ := ba h
  obtain ⟨h3, h⟩ := ba h
  obtain ⟨h4, h⟩ := ba h
  obtain ⟨h5, h⟩ := ba h
  obtain ⟨h6, h⟩ := ba h
  obtain ⟨h7, h8⟩ := ba h
  exact ⟨eqO_ok h1, eqO_ok h2, of_decide_eq_true h3, h4, eqO_ok h5, eqO_ok h6, of_decide_eq_true h7, of_decide_eq_true h8⟩
def Ex.ok (K : PySem.W.Frag) : Ex → Bool
  | .ask x => askB K (ga K x)
  | .kit x y b => decide (PySem.W.kitOne K (.ref (ga K x)) (.ref (ga K y)) = some b)
  | .val x => decide (PySem.W.kitOne K (.ref (ga K x)) (.type "ValueError") = some true)
abbrev AlE : Type := AlD × Bool
def obsE (fa : List Fa) (fn : List DefD) (ex : List Ex) (K : PySem.W.Frag) : AlE := (obsD fa fn K, ex.all fun f => f.ok K)
structure SaysE (fa : List Fa) (fn : List DefD) (ex : List Ex) (K : PySem.W.Frag) : Prop where
  d : SaysD fa fn K
  e : (ex.all fun f => f.ok K) = true
def obsEG (n : Nat) (fa : List Fa) (fn : List DefD) (ex : List Ex) (g : Addr → Option Obj) : AlE := obsE fa fn ex (frG g (He.asD g n))
def hookE (n : Nat) (fa : List Fa) (fn : List DefD) (ex : List Ex) : PySem.W.Hook where
  α := AlE
  obs := fun s => obsEG n fa fn ex s.heap.get?
  val := fun _ => (valD fn, true)
  says := fun _ h => ∃ K : PySem.W.Frag, K.In h ∧ SaysE fa fn ex K
  of := fun _ _ e => ⟨_, frG_in, ⟨congrArg (fun z : AlE => z.1) e, congrArg (fun z : AlE => z.2) e⟩⟩
  keeps := fun _ _ _ ⟨K, hK, c⟩ k => ⟨K, PySem.W.Frag.In.keeps hK k, c⟩
theorem obsEG_eq {n : Nat} {fa : List Fa} {fn : List DefD} {ex : List Ex} {g : Addr → Option Obj} {s : Shared} (h : ∀ a, g a = s.heap.get? a) : obsEG n fa fn ex g = (hookE n fa fn ex).obs s := by
  have e : g = s.heap.get? := funext h
  rw [e] <;> rfl
section
variable {fa : List Fa} {fn : List DefD} {ex : List Ex} {K : PySem.W.Frag}
theorem SaysE.fact (c : SaysE fa fn ex K) (i : Nat) {f : Fa} (h : fa[i]? = some f := by rfl) : f.ok K = true := c.d.fact i h
theorem SaysE.def_ (c : SaysE fa fn ex K) (i : Nat) {d : DefD} (h : fn[i]? = some d := by rfl) : ∃ fd, FunD K d.name d.qual d.params d.body d.scope (d.dvs K) (d.kws K) (fAd K d.at_) fd := c.d.def_ i h
theorem SaysE.exf (c : SaysE fa fn ex K) (i : Nat) {f : Ex} (h : ex[i]? = some f := by rfl) : f.ok K = true := List.all_eq_true.mp c.e f (List.mem_of_getElem? h)
theorem SaysE.ask (c : SaysE fa fn ex K) (i : Nat) {x : Str} (h : ex[i]? = some (.ask x)) : ExcC K (ga K x) := askB_ok (c.exf i h)
theorem SaysE.kit (c : SaysE fa fn ex K) (i : Nat) {x y : Str} {b : Bool} (h : ex[i]? = some (.kit x y b)) : PySem.W.kitOne K (.ref (ga K x)) (.ref (ga K y)) = some b := of_decide_eq_true (c.exf i h)
theorem SaysE.val (c : SaysE fa fn ex K) (i : Nat) {x : Str} (h : ex[i]? = some (.val x)) : PySem.W.kitOne K (.ref (ga K x)) (.type "ValueError") = some true := of_decide_eq_true (c.exf i h)
theorem isAll_nil {y : Str} {h : Nat} : isAll K y h [] := trivial
theorem isAll_cons {y z : Str} {h c : Nat} {cs : List Nat} (e : excTab[c]? = some z) (x : ExcC K (ga K z)) (k : PySem.W.kitOne K (.ref (ga K z)) (.ref (ga K y)) = some (isSub c h)) (r : isAll K y h cs) : isAll K y h (c :: cs) := ⟨⟨z, e, x, k⟩, r⟩
theorem isAllV_nil : isAllV K [] := trivial
theorem isAllV_cons {z : Str} {c : Nat} {cs : List Nat} (e : excTab[c]? = some z) (x : ExcC K (ga K z)) (k : PySem.W.kitOne K (.ref (ga K z)) (.type "ValueError") = some true) (r : isAllV K cs) : isAllV K (c :: cs) := ⟨⟨z, e, x, k⟩, r⟩
theorem exAll_nil {x : Str} {h : Nat} : exAll K x h [] := trivial
theorem exAll_cons {x y : Str} {h c : Nat} {cs : List Nat} (e : excTab[c]? = some y) (k : PySem.W.exmOne K (.ref (ga K y)) (.ref (ga K x)) = some (isSub c h)) (r : exAll K x h cs) : exAll K x h (c :: cs) := ⟨⟨y, e, k⟩, r⟩
end
end DL

/-! reckoning with objects and exceptions -/
namespace DL
open PySem PySem.Spec PyProof.Rows L2
section
variable {S S1 : Store} {ρ ρ1 : Env}
@[simp] theorem evMeth_s (C n : Nat) (sem : Sem') (fo : Ev) (fs : Env → Store → Res (List Wv)) : evMeth C n sem fo fs ρ S = (fo ρ S).bind fun w S1 => if isIns C S1 w = true then (fs ρ S1).bind fun ws S2 => gCall n sem (w :: ws) S2 else .no := rfl
theorem gMake_s (C n : Nat) (sem : Sem') (ws : List Wv) : gMake C n sem ws S = (gCall n sem (.ref S.length :: ws) (S ++ [.ins C []])).bind fun w S2 => match w with
  | .d .non => .ok (.ref S.length) S2
  | _ => .no := rfl
theorem gFld_of {n C : Nat} {ws : List Wv} (h : S[n]? = some (.ins C ws)) (i : Nat) : gFld C i (.ref n) S = match ws[i]? with
  | some x => .ok x S
  | none => .no := by
  unfold gFld
  simp only [h, if_true] <;> rfl
theorem isIns_of {n C : Nat} {ws : List Wv} (h : S[n]? = some (.ins C ws)) : isIns C S (.ref n) = true := by
  unfold isIns
  simp only [h]
  simp
@[simp] theorem sFld_s (C i : Nat) (fo fv : Ev) : sFld C i fo fv ρ S = (fv ρ S).toS ρ fun v S1 => (fo ρ S1).toS ρ fun w S2 => match fldPut S2 C i w v with
  | some S3 => .nx ρ S3
  | none => .no := rfl
theorem fldPut_of {n C : Nat} {ws : List Wv} (h : S[n]? = some (.ins C ws)) {i : Nat} {v : Wv} (hi : i ≤ ws.length) (hv : v.calm = true) : fldPut S C i (.ref n) v = some (S.set n (.ins C (putWs i v ws))) := by
  unfold fldPut
  simp only [h]
  exact if_pos ⟨trivial, hi, hv⟩
@[simp] theorem sRaise_s (c : Nat) : sRaise c ρ S = .rz c ρ S := rfl
def SR.tr (cs : List Nat) (hs : List (Nat × Option Nat × Sv)) : SR → SR := fun r => match r with
  | .rz c ρ' S' => if c ∈ cs then hdl c hs ρ' S' else .no
  | r => r
@[simp] theorem sTry_s (cs : List Nat) (g : Sv) (hs : List (Nat × Option Nat × Sv)) : sTry cs g hs ρ S = (g ρ S).tr cs hs := by
  unfold sTry SR.tr
  cases g ρ S <;> rfl
variable {cs : List Nat} {hs : List (Nat × Option Nat × Sv)}
@[simp] theorem tr_nx : (SR.nx ρ S).tr cs hs = .nx ρ S := rfl
@[simp] theorem tr_rt (w : Wv) : (SR.rt w S).tr cs hs = .rt w S := rfl
@[simp] theorem tr_rz (c : Nat) : (SR.rz c ρ S).tr cs hs = if c ∈ cs then hdl c hs ρ S else .no := rfl
@[simp] theorem hdl_nil (c : Nat) : hdl c [] ρ S = .rz c ρ S := rfl
@[simp] theorem hdl_cons (c h : Nat) (oi : Option Nat) (g : Sv) (r : List (Nat × Option Nat × Sv)) : hdl c ((h, oi, g) :: r) ρ S = if isSub c h = true then clr oi (g (putX oi c ρ) S) else hdl c r ρ S := rfl
@[simp] theorem clr_rt (oi : Option Nat) (w : Wv) : clr oi (.rt w S) = .rt w S := rfl
@[simp] theorem putX_some (i c : Nat) : putX (some i) c ρ = ρ.set i (some (.exc c)) := rfl
@[simp] theorem putX_none (c : Nat) : putX none c ρ = ρ := rfl
@[simp] theorem isSub_zero (c : Nat) : isSub c 0 = true := rfl
theorem isSub_lit (c h : Nat) : isSub c h = (h == 0 || c == h) := rfl
def askE (h : Nat) : Wv → Store → Res Wv := fun w S1 => match w with
  | .exc c => .ok (.d (.bl (isSub c h))) S1
  | _ => .no
@[simp] theorem evIsE_s (h : Nat) (fe : Ev) : evIsE h fe ρ S = (fe ρ S).bind (askE h) := rfl
@[simp] theorem askE_s (h c : Nat) : askE h (.exc c) S = .ok (.d (.bl (isSub c h))) S := rfl
def askV : Wv → Store → Res Wv := fun w S1 => match w with
  | .exc c => .ok (.d (.bl true)) S1
  | _ => .no
@[simp] theorem evIsV_s (fe : Ev) : evIsV fe ρ S = (fe ρ S).bind askV := rfl
@[simp] theorem askV_s (c : Nat) : askV (.exc c) S = .ok (.d (.bl true)) S := rfl
theorem fnP_s {n m : Nat} {g : Sv} {ws : List Wv} : fnP n m g ws S = trim S (fnS n m g ws S) := rfl
theorem trim_ok {w : Wv} {t : List O} (h : w.under S.length = true) : trim S (.ok w (S ++ t)) = .ok w S := by
  unfold trim
  exact if_pos ⟨by simp, h⟩
theorem trim_ok0 {w : Wv} (h : w.under S.length = true) : trim S (.ok w S) = .ok w S := by
  unfold trim
  exact if_pos ⟨by simp, h⟩
@[simp] theorem under_d (x : D) (n : Nat) : (Wv.d x).under n = true := rfl
theorem gRange3_s (i j c : Int) : gRange3 [I i, I j, I c] S = if c ≠ 0 ∧ c.natAbs < 1073741824 ∧ Builtin.Range.small i j c = true ∧ 0 ≤ Builtin.Range.rangeSize i j c then .ok (.d .non, rangeW i (Builtin.Range.rangeSize i j c).toNat c, fun _ => True) S else .no := rfl
@[simp] theorem eqDs_cn (x : D) (xs : List D) : eqDs (x :: xs) [] = false := by simp [eqDs]
@[simp] theorem eqDs_nc (x : D) (xs : List D) : eqDs [] (x :: xs) = false := by simp [eqDs]
def rangeN (i j c : Int) : Nat := (Builtin.Range.rangeSize i j c).toNat
theorem range3 {i j c : Int} (hc : 0 < c ∧ c ≤ 1000) (hi : i.natAbs ≤ 1000000) (hj : j.natAbs ≤ 1000000) : gRange3 [I i, I j, I c] S = .ok (.d .non, rangeW i (rangeN i j c) c, fun _ => True) S := by
  have hs : 0 ≤ Builtin.Range.rangeSize i j c ∧ Builtin.Range.rangeSize i j c ≤ 2000001 := by
    unfold Builtin.Range.rangeSize
    rw [if_pos (by omega)]
    split
    · have h1 : 0 ≤ (j - i - 1) / c := Int.ediv_nonneg (by omega) (by omega)
      have h2 : (j - i - 1) / c ≤ j - i - 1 := Int.ediv_le_self _ (by omega)
      omega
    · omega
  have hsm : Builtin.Range.small i j c = true := by
    unfold Builtin.Range.small Builtin.Range.rangeFitsLong
    generalize Builtin.Range.rangeSize i j c = z at hs
    have hc' : c > 0 := hc.1
    simp [hc']
    omega
  rw [gRange3_s, if_pos ⟨by omega, by omega, hsm, hs.1⟩]
  rfl
theorem rangeN_lt {i j c : Int} (hc : 0 < c) {k : Nat} (h : k < rangeN i j c) : i + (k : Int) * c < j := by
  unfold rangeN Builtin.Range.rangeSize at h
  rw [if_pos (by omega)] at h
  split at h
  · have h1 : (k : Int) ≤ (j - i - 1) / c := by omega
    have h2 := Int.mul_le_of_le_ediv hc h1
    omega
  · simp at h
theorem rangeN_le {i j c : Int} (hc : 0 < c) : (rangeN i j c : Int) ≤ max 0 (j - i) := by
  unfold rangeN Builtin.Range.rangeSize
  rw [if_pos (by omega)]
  split
  · have h1 : 0 ≤ (j - i - 1) / c := Int.ediv_nonneg (by omega) (by omega)
    have h2 : (j - i - 1) / c ≤ j - i - 1 := Int.ediv_le_self _ (by omega)
    omega
  · simp; omega
/-- membership of one sign -/
theorem gIn_sign {neg : Bool} {c : Nat} {z : Str} : gIn neg (.d (.str ⟨#[c]⟩)) (.d (.str z)) S = .ok (.d (.bl (if neg = true then !decide (c ∈ z.cps.toList) else decide (c ∈ z.cps.toList)))) S := rfl
end
end DL

/-! methods of texts -/
namespace DL
open PySem PySem.Spec PyProof.Rows L2
def allStr : List D → Option (List Str)
  | [] => some []
  | .str b :: r => (allStr r).map (b :: ·)
  | _ :: _ => none
theorem allStr_rep {F : Hp} : ∀ {ds : List D} {xs : List V} {bs : List Str}, Paired (Rep F) ds xs → allStr ds = some bs → xs = bs.map V.str
  | [], _, _, .nil, e => by cases e; rfl
  | d :: ds, _, bs, .cons r t, e => by
    cases d with
    | str b =>
      have e' : (allStr ds).map (b :: ·) = some bs := e
      cases q : allStr ds with
      | none => rw [q] at e'; cases e'
      | some l =>
        rw [q] at e'; cases e'
        rw [rep_str.mp r, allStr_rep t q]; rfl
    | _ => cases e
theorem strs_rep {F : Hp} : ∀ ys : List Str, Paired (Rep F) (ys.map D.str) (ys.map V.str)
  | [] => .nil
  | y :: ys => .cons (rep_str.mpr rfl) (strs_rep ys)
def gJoin (z : Str) (u : Wv) (S : Store) : Res Wv := match seqW S u with
  | some (_, ws) => match allD ws with
    | some ds => match allStr ds with
      | some ys => if (ys.map (·.length)).sum + ys.length * z.length ≤ 16777216 then .ok (.d (.str (Txt.join z ys))) S else .no
      | none => .no
    | none => .no
  | none => .no
def gSplit (z : Str) (u : Wv) (S : Store) : Res Wv := match u with
  | .d (.str b) => if (b.length == 0) = false ∧ z.length + 2 ≤ 16777216 then .ok (.d (.lst ((Txt.split z b).map .str))) S else .no
  | _ => .no
def gPartition (z : Str) (u : Wv) (S : Store) : Res Wv := match u with
  | .d (.str b) => if (b.length == 0) = false ∧ z.length ≤ 16777216 then .ok (.d (.tup [.str (Txt.partition z b).1, .str (Txt.partition z b).2.1, .str (Txt.partition z b).2.2])) S else .no
  | _ => .no
def evSm (g : Str → Wv → Store → Res Wv) (fo fa : Ev) : Ev := fun ρ S => (fo ρ S).bind fun w S1 => match w with
  | .d (.str z) => (fa ρ S1).bind fun u S2 => g z u S2
  | _ => .no
def gUpper (w : Wv) (S : Store) : Res Wv := match w with
  | .d (.str z) => if z.length ≤ 5592405 then .ok (.d (.str (Txt.upper z))) S else .no
  | _ => .no
section
variable {X : Cx} {xo : Option (Addr × Nat)} {pos apos : Pos} {o e : Expr} {fo fa : Ev}
theorem de_sm {name : Str} {r : V → List V → Hp → VK → Prop} {g : Str → Wv → Store → Res Wv} (rule : ∀ {to te : TE}, PE X o to → PE X e te → PE X (.Call (.Attribute o name apos) [e] [] pos) (tM1 r to te))
    (ok : ∀ (W : WX) (F : Hp) (ι : List Addr) (S : Store) (H : Hp) (σ : St) (z : Str) (y : V) (u : Wv) (Q : VK), Real (gc X xo) F ι S H → RepW (gc X xo) F ι u y → PostE (gc X xo) W F ι H σ (g z u S) Q → r (.str z) [y] H Q)
    (ho : DE X xo o fo) (ha : DE X xo e fa) : DE X xo (.Call (.Attribute o name apos) [e] [] pos) (evSm g fo fa) :=
  ⟨fun W tk => pe_imp (rule (ho.run W tk) (ha.run W tk)) fun σ H Q ⟨F, ι, S, ρ, rl, en, p⟩ => TEo.step rl en p fun F1 ι1 S1 H1 w v x1 r1 en1 hv p1 => by
    split at p1
    · rename_i z
      cases w_str.mp hv
      exact ⟨⟨z, rfl⟩, TEo.step r1 en1 p1 fun F2 ι2 S2 H2 u y x2 r2 en2 hy p2 => ok W F2 ι2 S2 H2 σ z y u Q r2 hy p2⟩
    · exact p1.elim⟩
theorem de_join (ho : DE X xo o fo) (ha : DE X xo e fa) (hs : starEach [e] X.env = [(false, eval e X.env)] := by rfl) (hbase : attributeBase o "join" X.env (eval o X.env) = eval o X.env := by rfl) (hline : (apos.endLine == pos.line) = true := by rfl) :
    DE X xo (.Call (.Attribute o "join" apos) [e] [] pos) (evSm gJoin fo fa) :=
  de_sm (fun p q => pe_join p q hs hbase hline) (fun W F ι S H σ z y u Q r hu p => by
    unfold gJoin at p
    split at p
    · rename_i k ws e1
      split at p
      · rename_i ds e2
        split at p
        · rename_i ys e3
          split at p
          · rename_i hz
            obtain ⟨a, xs, rfl, q, h⟩ := seqW_or r hu e1
            rw [allD_eq e2] at h
            have ex := allStr_rep (repWs_d h) e3
            subst ex
            exact ⟨z, a, ys, rfl, rfl, q, hz, ret_str p r⟩
          · exact p.elim
        · exact p.elim
      · exact p.elim
    · exact p.elim) ho ha
theorem de_split (ho : DE X xo o fo) (ha : DE X xo e fa) (hs : starEach [e] X.env = [(false, eval e X.env)] := by rfl) (hbase : attributeBase o "split" X.env (eval o X.env) = eval o X.env := by rfl) (hline : (apos.endLine == pos.line) = true := by rfl) :
    DE X xo (.Call (.Attribute o "split" apos) [e] [] pos) (evSm gSplit fo fa) :=
  de_sm (fun p q => pe_split p q hs hbase hline) (fun W F ι S H σ z y u Q r hu p => by
    unfold gSplit at p
    split at p
    · rename_i b
      split at p
      · rename_i hz
        exact ⟨z, b, rfl, by rw [w_str.mp hu], hz.1, by rw [sizeLine_eq]; exact hz.2, fun q hq => ret_lst p r (strs_rep _) q hq⟩
      · exact p.elim
    · exact p.elim) ho ha
theorem de_partition (ho : DE X xo o fo) (ha : DE X xo e fa) (hs : starEach [e] X.env = [(false, eval e X.env)] := by rfl) (hbase : attributeBase o "partition" X.env (eval o X.env) = eval o X.env := by rfl) (hline : (apos.endLine == pos.line) = true := by rfl) :
    DE X xo (.Call (.Attribute o "partition" apos) [e] [] pos) (evSm gPartition fo fa) :=
  de_sm (fun p q => pe_partition p q hs hbase hline) (fun W F ι S H σ z y u Q r hu p => by
    unfold gPartition at p
    split at p
    · rename_i b
      split at p
      · rename_i hz
        exact ⟨z, b, rfl, by rw [w_str.mp hu], hz.1, by rw [sizeLine_eq]; exact hz.2, fun q hq => ret_tup p r (.cons (rep_str.mpr rfl) (.cons (rep_str.mpr rfl) (.cons (rep_str.mpr rfl) .nil))) q hq⟩
      · exact p.elim
    · exact p.elim) ho ha
theorem de_upper (ho : DE X xo o fo) (hbase : attributeBase o "upper" X.env (eval o X.env) = eval o X.env := by rfl) (hline : (apos.endLine == pos.line) = true := by rfl) :
    DE X xo (.Call (.Attribute o "upper" apos) [] [] pos) (evUn gUpper fo) :=
  ⟨fun W tk => pe_imp (pe_upper (ho.run W tk) hbase hline) fun σ H Q ⟨F, ι, S, ρ, rl, en, p⟩ => TEo.step rl en p fun F1 ι1 S1 H1 w v x1 r1 en1 hv p1 => by
    unfold gUpper at p1
    split at p1
    · rename_i z
      split at p1
      · rename_i hz
        cases w_str.mp hv
        exact ⟨⟨z, rfl⟩, z, rfl, rfl, hz, ret_str p1 r1⟩
      · exact p1.elim
    · exact p1.elim⟩
end
/-! ### concatenation of what is kept -/
/-- a new list that is kept -/
def gAddS (w u : Wv) (S : Store) : Res Wv := match lstAny S w, lstAny S u with
  | some ws, some us => if ws.length + us.length ≤ 16777216 then .ok (.ref S.length) (S ++ [.lst (ws ++ us)]) else .no
  | _, _ => .no
/-- a new list that is not changed, of lists wherever they are -/
def gAddL (w u : Wv) (S : Store) : Res Wv := match lstAny S w, lstAny S u with
  | some ws, some us => if ws.length + us.length ≤ 16777216 then (match allD (ws ++ us) with
    | some ds => .ok (.d (.lst ds)) S
    | none => .no) else .no
  | _, _ => .no
theorem o2_addS {G : Gc} : Op2 G (rAddAll G.K) gAddS := by
  intro W F ι S H σ x y w u Q rl hx hy p
  unfold gAddS at p
  split at p
  · rename_i ws us e1 e2
    split at p
    · rename_i hz
      obtain ⟨a, xs, rfl, q1, p1⟩ := lstAny_rep rl hx e1
      obtain ⟨b, ys, rfl, q2, p2⟩ := lstAny_rep rl hy e2
      exact .inr (.inr (.inl ⟨a, b, xs, ys, rfl, rfl, q1, q2, by rw [← p1.length, ← p2.length, sizeLine_eq]; exact hz, fun q hq => ret_new p rl q hq ⟨_, rfl, p2imp (fun _ _ z => z.mono (fun _ _ e => e) ⟨[q], rfl⟩) (p2app p1 p2)⟩⟩))
    · exact p.elim
  · exact p.elim
theorem o2_addL {G : Gc} : Op2 G (rAddAll G.K) gAddL := by
  intro W F ι S H σ x y w u Q rl hx hy p
  unfold gAddL at p
  split at p
  · rename_i ws us e1 e2
    split at p
    · rename_i hz
      split at p
      · rename_i ds e3
        obtain ⟨a, xs, rfl, q1, p1⟩ := lstAny_rep rl hx e1
        obtain ⟨b, ys, rfl, q2, p2⟩ := lstAny_rep rl hy e2
        have h := p2app p1 p2
        rw [allD_eq e3] at h
        exact .inr (.inr (.inl ⟨a, b, xs, ys, rfl, rfl, q1, q2, by rw [← p1.length, ← p2.length, sizeLine_eq]; exact hz, fun q hq => ret_lst p rl (repWs_d h) q hq⟩))
      · exact p.elim
    · exact p.elim
  · exact p.elim
section
variable {X : Cx} {xo : Option (Addr × Nat)} {pos : Pos} {a b : Expr} {fa fb : Ev}
theorem de_addS (ha : DE X xo a fa) (hb : DE X xo b fb) : DE X xo (.BinOp a .Add b pos) (evBin gAddS fa fb) := de_bin op_addAll o2_addS ha hb
theorem de_addL (ha : DE X xo a fa) (hb : DE X xo b fb) : DE X xo (.BinOp a .Add b pos) (evBin gAddL fa fb) := de_bin op_addAll o2_addL ha hb
end
end DL

/-! reckoning: loops that raise or return at the first that is wrong, membership, texts -/
namespace DL
open PySem PySem.Spec PyProof.Rows L2
section
variable {α β : Type} {S S1 : Store} {ρ ρ1 : Env}
theorem for_first (chk : Store → Prop) (i : Nat) (g : Sv) (inj : α → Wv) (R : Env → Prop) (err : α → Option Nat) (S : Store) (hc : chk S) : ∀ (as : List α) (ρ : Env),
    (∀ a ∈ as, ∀ ρ, R ρ → match err a with
      | some e => ∃ ρ', g (ρ.set i (some (inj a))) S = .rz e ρ' S
      | none => ∃ ρ', g (ρ.set i (some (inj a))) S = .nx ρ' S ∧ R ρ') → R ρ →
    match as.findSome? err with
    | some e => ∃ ρ', sForL chk i g (as.map inj) ρ S = .rz e ρ' S
    | none => ∃ ρ', sForL chk i g (as.map inj) ρ S = .nx ρ' S ∧ R ρ'
  | [], ρ, _, h => ⟨ρ, by rw [List.map_nil, sForL, if_pos hc], h⟩
  | a :: as, ρ, hs, h => by
    have h0 := hs a List.mem_cons_self ρ h
    rw [List.findSome?_cons]
    cases q : err a with
    | some e =>
      rw [q] at h0
      obtain ⟨ρ', e1⟩ := h0
      refine ⟨ρ', ?_⟩
      rw [List.map_cons, sForL, if_pos hc, e1]
    | none =>
      rw [q] at h0
      obtain ⟨ρ1, e1, h1⟩ := h0
      have ih := for_first chk i g inj R err S hc as ρ1 (fun b hb => hs b (List.mem_cons_of_mem _ hb)) h1
      simp only
      cases q2 : as.findSome? err with
      | some e =>
        rw [q2] at ih
        obtain ⟨ρ', e2⟩ := ih
        refine ⟨ρ', ?_⟩
        rw [List.map_cons, sForL, if_pos hc, e1]
        exact e2
      | none =>
        rw [q2] at ih
        obtain ⟨ρ', e2, h2⟩ := ih
        refine ⟨ρ', ?_, h2⟩
        rw [List.map_cons, sForL, if_pos hc, e1]
        exact e2
/-- a loop that leaves the store and what R says alone -/
theorem for_stay (chk : Store → Prop) (i : Nat) (g : Sv) (inj : α → Wv) (R : Env → Prop) (S : Store) (hc : chk S) (as : List α) (ρ : Env)
    (hs : ∀ a ∈ as, ∀ ρ, R ρ → ∃ ρ', g (ρ.set i (some (inj a))) S = .nx ρ' S ∧ R ρ') (h : R ρ) : ∃ ρ', sForL chk i g (as.map inj) ρ S = .nx ρ' S ∧ R ρ' := by
  have := for_first chk i g inj R (fun _ => none) S hc as ρ (fun a ha ρ hr => hs a ha ρ hr) h
  rw [List.findSome?_eq_none_iff.mpr (fun _ _ => rfl)] at this
  exact this
theorem any_str (x : Str) : ∀ l : List Str, ((l.map D.str).any fun y => eqD y (.str x)) = decide (x ∈ l)
  | [] => by simp
  | y :: l => by
    rw [List.map_cons, List.any_cons, any_str x l, eqD_str]
    by_cases h : y = x
    · simp [h]
    · have h' : ¬ x = y := fun e => h e.symm
      simp [h, h']
theorem allD_T (l : List Str) : allD (l.map T) = some (l.map .str) := by rw [← allD_map (l.map D.str), List.map_map]; rfl
theorem all_flat_str (l : List Str) : (l.map D.str).all flatD = true := by simp [flatD]
theorem gIn_names {neg : Bool} {m : Nat} {l : List Str} (h : S[m]? = some (.lst (l.map T))) (x : Str) : gIn neg (.d (.str x)) (.ref m) S = .ok (.d (.bl (if neg = true then !decide (x ∈ l) else decide (x ∈ l)))) S := by
  unfold gIn memW
  simp only [seqW_ref h, allD_T, all_flat_str, Bool.and_true]
  rw [if_pos (show flatD (.str x) = true from rfl)]
  simp only [any_str]
theorem gIn_lstS {neg : Bool} {l : List Str} (x : Str) : gIn neg (.d (.str x)) (.d (.lst (l.map .str))) S = .ok (.d (.bl (if neg = true then !decide (x ∈ l) else decide (x ∈ l)))) S := by
  have e : (l.map D.str).map Wv.d = l.map T := by rw [List.map_map]; rfl
  unfold gIn memW
  simp only [seqW_lst, e, allD_T, all_flat_str, Bool.and_true]
  rw [if_pos (show flatD (.str x) = true from rfl)]
  simp only [any_str]
@[simp] theorem evSm_s (g : Str → Wv → Store → Res Wv) (fo fa : Ev) : evSm g fo fa ρ S = (fo ρ S).bind fun w S1 => match w with
  | .d (.str z) => (fa ρ S1).bind fun u S2 => g z u S2
  | _ => .no := rfl
theorem allStr_map (f : α → Str) : ∀ as : List α, allStr (as.map fun a => .str (f a)) = some (as.map f)
  | [] => rfl
  | a :: as => by simp [allStr, allStr_map f as]
theorem gJoin_map (z : Str) (f : α → Str) (as : List α) (h : ((as.map f).map (·.length)).sum + (as.map f).length * z.length ≤ 16777216) : gJoin z (.d (.lst (as.map fun a => .str (f a)))) S = .ok (.d (.str (Txt.join z (as.map f)))) S := by
  unfold gJoin
  simp only [seqW_lst, allD_map, allStr_map]
  rw [if_pos h]
@[simp] theorem gAdd_strI (x y : Str) : gAdd (T x) (T y) S = if x.length + y.length ≤ 16777216 then .ok (.d (.str (x ++ y))) S else .no := rfl
theorem gAddS_of {w u : Wv} {ws us : List Wv} (h : lstAny S w = some ws) (h' : lstAny S u = some us) (hl : ws.length + us.length ≤ 16777216) : gAddS w u S = .ok (.ref S.length) (S ++ [.lst (ws ++ us)]) := by
  unfold gAddS
  rw [h, h']
  simp only
  rw [if_pos hl]
theorem lstAny_ref {n : Nat} {ws : List Wv} (h : S[n]? = some (.lst ws)) : lstAny S (.ref n) = some ws := by simp [lstAny, h]
@[simp] theorem lstAny_lst (ds : List D) : lstAny S (.d (.lst ds)) = some (ds.map .d) := rfl
theorem gExtend_ref {n : Nat} {ws us : List Wv} {u : Wv} (h : S[n]? = some (.lst ws)) (h' : lstAny S u = some us) (hl : ws.length + us.length ≤ 16777216) : gExtend (.ref n) u S = .ok (.d .non) (S.set n (.lst (ws ++ us))) := by
  unfold gExtend
  rw [lstOf_ref h, h']
  simp only
  rw [if_pos hl]
@[simp] theorem sLPut_s (fo fa fv : Ev) : sLPut fo fa fv ρ S = (fv ρ S).toS ρ fun v S1 => (fo ρ S1).toS ρ fun d S2 => (fa ρ S2).toS ρ fun k S3 => match k with
  | .d (.int i) => if v.calm = true then match lstOf S3 d with
    | some (n, ws) => match ixN ws.length i with
      | some j => .nx ρ (S3.set n (.lst (ws.set j v)))
      | none => .no
    | none => .no
    else .no
  | _ => .no := rfl
theorem gIxI_ref {n : Nat} {ws : List Wv} (h : S[n]? = some (.lst ws)) (i : Int) : gIxI (.ref n) i S = match atI ws i with
  | some x => .ok x S
  | none => .no := by
  unfold gIxI
  rw [seqW_ref h]
  try rfl
/-- the size of a number's text -/
theorem num_len {i : Int} {k : Nat} (hk : 0 < k) (h : i.natAbs < 10 ^ k) : (Str.ofString (toString i)).length ≤ k + 1 := by
  rw [PySem.ofString_length]
  exact PySem.int_text_length_le10 hk h
end
end DL

/-! a dict of one key; a walk over a dict's keys whose values are all nought -/
namespace DL
open PySem PySem.Spec PyProof.Rows L2
/-- {"k": v} -/
def evDisp1 (x : Str) (fv : Ev) : Ev := fun ρ S => match fv ρ S with
  | .ok v S1 => if v.calm = true then .ok (.ref S1.length) (S1 ++ [.dK [(.inr x, v)]]) else .no
  | _ => .no
section
variable {X : Cx} {xo : Option (Addr × Nat)} {pos : Pos}
theorem de_disp1 {x : Str} {j : Nat} {cpos : Pos} {e : Expr} {fv : Ev} (he : DE X xo e fv) : DE X xo (.Dict [some (.Constant (.str x) j cpos)] [e] pos) (evDisp1 x fv) :=
  ⟨fun W tk => pe_imp (pe_disp (pps_cons pe_str (he.run W tk) pps_nil) rfl rfl (by simp) (by simp)) fun σ H Q ⟨F, ι, S, ρ, rl, en, p⟩ => by
    intro q hq
    have hF := rl.fnone hq
    have hi := rl.notin hq
    unfold evDisp1 at p
    show TEo (gc X xo) W fv σ (upd H q (.dK [])) _
    refine ⟨F, ι, S, ρ, rl.other hF hi, en, ?_⟩
    cases ef : fv ρ S with
    | no => rw [ef] at p; exact p.elim
    | rz c S1 => rw [ef] at p; exact p.elim
    | ok w S1 =>
      rw [ef] at p
      intro F1 ι1 H1 x1 r1 v hv
      obtain ⟨hi1, hq1⟩ := x1.fr q _ upd_same hi
      have hF1 := x1.fn q _ upd_same hi hF (fun _ z => nomatch z)
      refine ⟨hq1, [(.inr x, v)], rfl, by simp, ?_⟩
      simp only at p
      split at p
      · rename_i hc
        have hm : mergeK [] [((.inr x : Key), v)] = [(.inr x, v)] := rfl
        rw [hm]
        refine p F1 (ι1 ++ [q]) (upd H1 q (.dK [(.inr x, v)])) ⟨x1.fz, ?_, fun b o e n => ?_, fun b o e n f g => ?_⟩ ((r1.other (o := .dK [(.inr x, v)]) hF1 hi1).toS upd_same hF1 hi1 ⟨_, rfl, .cons ⟨rfl, (calm_of hv hc).mono (fun _ _ z => z) ⟨[q], rfl⟩⟩ .nil⟩) _ ⟨q, by rw [← r1.len]; simp, rfl⟩
        · obtain ⟨t, e⟩ := x1.pre
          exact ⟨t ++ [q], by rw [e, List.append_assoc]⟩
        · have nb := ne_of_none e hq
          obtain ⟨n1, e1⟩ := x1.fr b o (by rw [upd_ne nb]; exact e) n
          exact ⟨by simp [n1, nb], by rw [upd_ne nb]; exact e1⟩
        · have nb := ne_of_none e hq
          exact x1.fn b o (by rw [upd_ne nb]; exact e) n f g
      · exact p.elim⟩
def keyW : Key → Wv
  | .inl i => .d (.int i)
  | .inr x => .d (.str x)
/-- for x in d: if d[x] != 0: .. -/
def sForZ (j i : Nat) : Sv := fun ρ S => match ρ[j]? with
  | some (some (.ref n)) => match S[n]? with
    | some (.dK kvs) => if i < ρ.length ∧ i ≠ j ∧ (kvs.all fun p => match p.2 with
        | .d (.int z) => decide (z = 0)
        | _ => false) = true then .nx (match kvs.getLast? with
        | some p => ρ.set i (some (keyW p.1))
        | none => ρ) S else .no
    | _ => .no
  | _ => .no
theorem keyW_rep {G : Gc} {F : Hp} {ι : List Addr} : ∀ k : Key, RepW G F ι (keyW k) (kV k)
  | .inl i => w_int.mpr rfl
  | .inr x => w_str.mpr rfl
theorem valV_zero {l : List (Key × V)} (h : ∀ p ∈ l, p.2 = .int 0) {k : Key} {v : V} {n : Nat} (e : l[n]? = some (k, v)) : valV l k = some (.int 0) := by
  unfold valV
  cases q : l.find? fun kv => decide (kv.1 = k) with
  | none =>
    have := List.find?_eq_none.mp q (k, v) (List.mem_of_getElem? e)
    simp at this
  | some p => rw [Option.map_some, h p (List.mem_of_find?_eq_some q)]
/-- where the walk is after some keys -/
def atK' (σ : St) (i : Nat) (l : List (Key × V)) (k : Nat) : St := match (l.take k).getLast? with
  | some p => σ.set i (some (kV p.1))
  | none => σ
theorem ds_forZ {i j : Nat} {x y : Str} {px py p1 p2 p3 cp cpos ipos : Pos} {jj : Nat} {bd : List Stmt} (hp : PassesOwn (model X.prog X.w) X.A X.env X.xe) (hc : X.calm = true) (hu : X.A.units + 64 < cLine) (hN : X.N.Nodup) (hi : X.N[i]? = some x) (hx : Loc X.env.scope x)
    (vy : ∀ p, PE X (.Name y p) (tVar j)) (vx : ∀ p, PE X (.Name x p) (tVar i)) (hf : X.fn x = true ∨ X.env.scope.names.lookup x = some .local := by first | exact .inl rfl | exact .inr rfl | assumption)
    (hs : ∀ z, foldedSetIterable (.Name y py) X.env z = pure z := by intro _; rfl) (hpl : PlainIx (.Name x p2) := by intro _ _; rfl) :
    DS X xo (.For (.Name x px) (.Name y py) [.If (.Compare (.Subscript (.Name y p1) (.Name x p2) p3) [.NotEq] [.Constant (.int 0) jj cp] cpos) bd [] ipos] [] pos) (sForZ j i) := ⟨fun W tk => by
  obtain ⟨r, hr, o⟩ := (cm_ne (X := X) (xo := xo) hu).ex
  have never : PSs X bd (fun _ _ _ => False) := ⟨fun _ _ _ _ _ _ h => h.elim⟩
  refine ps_imp (ps_lock (ps_for hp hc (pi_keys (vy py)) (pg_name hN hi hx hf) (pss_one (ps_if (pt_cmpR hr (pe_ix (ix_all (by omega)) (vy p1) (vx p2) hpl) pe_int (nomark _)) never pss_nil)) hs)) fun Dn σ H ⟨F, ι, S, ρ, rl, en, p⟩ => ?_
  unfold sForZ at p
  split at p
  · rename_i n e0
    split at p
    · rename_i kvs e2
      split at p
      · rename_i hcond
        obtain ⟨hil, hij, hall⟩ := hcond
        obtain ⟨v, ev, a, e1, rfl⟩ := en.at_ j _ e0
        obtain ⟨hF, _, eH, l, rfl, kv⟩ := rl.at_ n a _ e1 e2 (fun z => nomatch z)
        have hz : ∀ q ∈ l, q.2 = .int 0 := fun q hq => by
          obtain ⟨m, hm⟩ := List.getElem?_of_mem hq
          have hml := (List.getElem?_eq_some_iff.mp hm).1
          have hkl := kvr_len kv
          have hk : kvs[m]? = some kvs[m] := List.getElem?_eq_getElem (by omega)
          obtain ⟨y', h1, h2, h3⟩ := p2get kv hk
          rw [hm] at h1
          cases h1
          have ha := List.all_eq_true.mp hall kvs[m] (List.getElem_mem _)
          generalize kvs[m] = w at *
          obtain ⟨wk, wv⟩ := w
          simp only at ha h3
          split at ha
          · have := of_decide_eq_true ha
            subst this
            exact w_int.mp h3
          · cases ha
        refine ⟨a, .dK l, eH, trivial, fun od => ?_⟩
        have r1 := rl.lockD (od := od) (l := l) e1 e2
        have hl0 : kvs.length = l.length := kvr_len kv
        have hSS : (S.set n .dead).set n (.dK kvs) = S := by
          rw [List.set_set]
          apply List.ext_getElem?
          intro m
          by_cases hm : n = m
          · subst hm
            rw [List.getElem?_set_self (List.getElem?_eq_some_iff.mp e2).1, e2]
          · rw [List.getElem?_set_ne hm]
        refine ⟨.ref a, ev, a, od, rfl, .inl ⟨l, upd_same, ?_⟩⟩
        refine ⟨fun k m σ' H' => m = l.length - k ∧ k ≤ l.length ∧ (∃ F' ι', Ext (upd F a (.frz od (.dK l))) ι (upd H a (.frz od (.dK l))) F' ι' H' ∧ Real (gc X xo) F' ι' (S.set n .dead) H') ∧ σ' = atK' σ i l k, ⟨l.length, by simp, Nat.zero_le _, ⟨_, _, .refl _ _ _, r1⟩, by simp [atK']⟩, ?_⟩
        rintro k m σ2 H2 ⟨rfl, hk, ⟨F2, ι2, x2, r2⟩, rfl⟩
        have hH2 : H2 a = some (.frz od (.dK l)) := r2.frz _ _ (x2.fz _ _ upd_same)
        by_cases hlt : k < l.length
        · right
          refine ⟨⟨hH2, hlt⟩, fun σ' H' => (∃ F' ι', Ext (upd F a (.frz od (.dK l))) ι (upd H a (.frz od (.dK l))) F' ι' H' ∧ Real (gc X xo) F' ι' (S.set n .dead) H') ∧ σ' = atK' σ i l (k + 1), fun σ' H' hh => ⟨l.length - (k + 1), by omega, rfl, hlt, hh.1, hh.2⟩, fun z H' hy => ?_⟩
          obtain ⟨rfl, kk, vv, hkk, rfl⟩ := hy
          have hset : (atK' σ i l k).set i (some (kV kk)) = atK' σ i l (k + 1) := by
            have hl2 : (l.take (k + 1)).getLast? = some (kk, vv) := by
              rw [List.getLast?_eq_getElem?, List.length_take, Nat.min_eq_left hlt, List.getElem?_take_of_lt (by omega)]
              exact hkk
            unfold atK'
            rw [hl2]
            cases (l.take k).getLast? <;> simp
          have hlen : σ.length = ρ.length := en.len
          have hsj : (atK' σ i l (k + 1))[j]? = some (some (.ref a)) := by
            rw [← hset]
            rw [List.getElem?_set_ne hij]
            unfold atK'
            split
            · rw [List.getElem?_set_ne hij]; exact ev
            · exact ev
          have hsi : (atK' σ i l (k + 1))[i]? = some (some (kV kk)) := by
            rw [← hset, List.getElem?_set_self]
            unfold atK'
            split
            · rw [List.length_set]; omega
            · omega
          show tTest (tOp r (tOp (rIxAll X.K) (tVar j) (tVar i)) (tC (V.int 0))) ((atK' σ i l k).set i (some (kV kk))) _ _
          rw [hset]
          refine ⟨.ref a, hsj, kV kk, hsi, .inr ⟨a, .int 0, rfl, .inl ⟨l, kk, .inr ⟨od, hH2⟩, rfl, (valV_zero hz hkk).symm⟩, ?_⟩⟩
          refine o W F2 ι2 (S.set n .dead) _ (atK' σ i l (k + 1)) (.int 0) (.int 0) (.d (.int 0)) (.d (.int 0)) _ r2 (w_int.mpr rfl) (w_int.mpr rfl) ?_
          have hg : gEq true (.d (.int 0)) (.d (.int 0)) (S.set n .dead) = .ok (.d (.bl false)) (S.set n .dead) := by simp
          rw [hg]
          intro F3 ι3 H3 x3 r3 v3 h3
          have hv3 : v3 = .bl false := w_bl.mp h3
          refine ⟨false, hv3, ?_⟩
          show (∃ F' ι', Ext (upd F a (.frz od (.dK l))) ι (upd H a (.frz od (.dK l))) F' ι' H3 ∧ Real (gc X xo) F' ι' (S.set n .dead) H3) ∧ atK' σ i l (k + 1) = atK' σ i l (k + 1)
          exact ⟨⟨F3, ι3, x2.trans x3, r3⟩, rfl⟩
        · left
          have ek : k = l.length := by omega
          subst ek
          refine ⟨⟨hH2, Nat.le_refl _⟩, hH2, ?_⟩
          obtain ⟨_, _, r3, x3⟩ := unlockD rl e1 e2 kv x2 r2
          rw [hSS] at r3
          refine p _ _ _ _ x3 r3 ?_
          have en3 := en.ext x3
          unfold atK'
          rw [List.take_length]
          have hlast : (kvs.getLast? = none ∧ l.getLast? = none) ∨ ∃ q q', kvs.getLast? = some q ∧ l.getLast? = some q' ∧ q.1 = q'.1 := by
            rw [List.getLast?_eq_getElem?, List.getLast?_eq_getElem?, hl0]
            cases hq : kvs[l.length - 1]? with
            | none => exact .inl ⟨rfl, List.getElem?_eq_none (by have := List.getElem?_eq_none_iff.mp hq; omega)⟩
            | some q =>
              obtain ⟨q', h1, h2, _⟩ := p2get kv hq
              exact .inr ⟨q, q', rfl, h1, h2⟩
          rcases hlast with ⟨h1, h2⟩ | ⟨q, q', h1, h2, h3⟩
          · rw [h1, h2]; exact en3
          · rw [h1, h2]
            simp only
            rw [← h3]
            exact en3.set i (keyW_rep q.1)
      · exact p.elim
    · exact p.elim
  · exact p.elim⟩
end
end DL

/-! sorted of pairs of whole numbers -/
namespace DL
open PySem PySem.Spec PyProof.Rows L2
def insP (x : Int × Int) : List (Int × Int) → List (Int × Int)
  | [] => [x]
  | y :: l => if SrtO.lexB y x = true then y :: insP x l else x :: y :: l
def sortP (l : List (Int × Int)) : List (Int × Int) := l.foldr insP []
theorem insP_perm (x : Int × Int) : ∀ l, (insP x l).Perm (x :: l)
  | [] => .refl _
  | y :: l => by
    unfold insP
    split
    · exact ((insP_perm x l).cons y).trans (.swap x y l)
    · exact .refl _
theorem sortP_perm : ∀ l, (sortP l).Perm l
  | [] => .refl _
  | x :: l => (insP_perm x (sortP l)).trans ((sortP_perm l).cons x)
theorem insP_srtd (x : Int × Int) : ∀ l, SrtO.Srtd SrtO.lexB l → SrtO.Srtd SrtO.lexB (insP x l)
  | [], _ => List.pairwise_singleton _ _
  | y :: l, h => by
    obtain ⟨h1, h2⟩ := List.pairwise_cons.mp h
    unfold insP
    split
    · rename_i hyx
      refine List.pairwise_cons.mpr ⟨fun z hz => ?_, insP_srtd x l h2⟩
      rcases List.mem_cons.mp ((insP_perm x l).mem_iff.mp hz) with rfl | hz
      · have := SrtO.lexB_iff.mp hyx
        exact SrtO.lexB_no.mpr (by omega)
      · exact h1 z hz
    · rename_i hyx
      have hyx' : SrtO.lexB y x = false := by cases q : SrtO.lexB y x <;> simp_all
      refine List.pairwise_cons.mpr ⟨fun z hz => ?_, h⟩
      rcases List.mem_cons.mp hz with rfl | hz
      · exact hyx'
      · have a := SrtO.lexB_no.mp hyx'
        have b := SrtO.lexB_no.mp (h1 z hz)
        exact SrtO.lexB_no.mpr (by omega)
theorem sortP_srtd : ∀ l, SrtO.Srtd SrtO.lexB (sortP l)
  | [] => List.Pairwise.nil
  | x :: l => insP_srtd x _ (sortP_srtd l)
theorem insP_cls (x z : Int × Int) : ∀ l, (insP x l).filter (SrtO.eqv SrtO.lexB z) = (x :: l).filter (SrtO.eqv SrtO.lexB z)
  | [] => rfl
  | y :: l => by
    unfold insP
    split
    · rename_i hyx
      rw [List.filter_cons, insP_cls x z l, List.filter_cons, List.filter_cons, List.filter_cons]
      by_cases h1 : SrtO.eqv SrtO.lexB z y = true
      · by_cases h2 : SrtO.eqv SrtO.lexB z x = true
        · obtain ⟨a1, a2⟩ := SrtO.eqv_iff.mp h1
          obtain ⟨b1, b2⟩ := SrtO.eqv_iff.mp h2
          have c := SrtO.lexB_iff.mp hyx
          have := SrtO.lexB_no.mp a1
          have := SrtO.lexB_no.mp a2
          have := SrtO.lexB_no.mp b1
          have := SrtO.lexB_no.mp b2
          omega
        · simp [h1, h2]
      · simp [h1]
    · rfl
theorem sortP_cls (z : Int × Int) : ∀ l, (sortP l).filter (SrtO.eqv SrtO.lexB z) = l.filter (SrtO.eqv SrtO.lexB z)
  | [] => rfl
  | x :: l => by
    show (insP x (sortP l)).filter _ = _
    rw [insP_cls, List.filter_cons, List.filter_cons, sortP_cls z l]
theorem lexB_swo : SrtO.Swo SrtO.lexB := by
  refine ⟨fun x y h => ?_, fun x y z h1 h2 => ?_⟩
  · have a := SrtO.lexB_iff.mp h
    exact SrtO.lexB_no.mpr (by omega)
  · have a := SrtO.lexB_no.mp h1
    have b := SrtO.lexB_no.mp h2
    exact SrtO.lexB_no.mpr (by omega)
theorem sortP_uniq {l m : List (Int × Int)} (h : SrtO.Srtd SrtO.lexB m) (s : SrtO.Stb SrtO.lexB m l) : m = sortP l :=
  SrtO.stb_uniq lexB_swo h (sortP_srtd l) ⟨s.perm.trans (sortP_perm l).symm, fun x => by rw [s.cls x, sortP_cls]⟩
def pD (p : Int × Int) : D := .tup [.int p.1, .int p.2]
def pairsOf : List D → Option (List (Int × Int))
  | [] => some []
  | .tup [.int i, .int j] :: r => (pairsOf r).map ((i, j) :: ·)
  | _ :: _ => none
theorem pairsOf_eq : ∀ {ds : List D} {ps : List (Int × Int)}, pairsOf ds = some ps → ds = ps.map pD
  | [], ps, e => by cases e; rfl
  | d :: ds, ps, e => by
    unfold pairsOf at e
    split at e
    · cases e; contradiction
    · rename_i i j r heq
      cases heq
      cases q : pairsOf ds with
      | none => rw [q] at e; cases e
      | some l =>
        rw [q] at e
        cases e
        rw [pairsOf_eq q]; rfl
    · cases e
theorem pairsOf_map : ∀ ps : List (Int × Int), pairsOf (ps.map pD) = some ps
  | [] => rfl
  | p :: ps => by simp [pairsOf, pD, pairsOf_map ps]
def gSorted : List Wv → Store → Res Wv
  | [.d (.lst ds)], S => match pairsOf ds with
    | some ps => .ok (.d (.lst ((sortP ps).map pD))) S
    | none => .no
  | _, _ => .no
theorem gSorted_s (ps : List (Int × Int)) (S : Store) : gSorted [.d (.lst (ps.map pD))] S = .ok (.d (.lst ((sortP ps).map pD))) S := by
  unfold gSorted
  simp only [pairsOf_map]
def keyV (H : Hp) (x : V) : Int × Int := match x with
  | .ref t => match H t with
    | some (.tup [.int i, .int j]) => (i, j)
    | _ => (0, 0)
  | _ => (0, 0)
theorem keyV_eq {H : Hp} {t : Addr} {i j : Int} (h : H t = some (.tup [.int i, .int j])) : keyV H (.ref t) = (i, j) := by
  unfold keyV
  simp only [h]
theorem pairs_rep {F : Hp} {ps : List (Int × Int)} : ∀ {l : List (Int × Int)} {xs : List V}, Paired (Rep F) (l.map pD) xs → ∀ x ∈ xs, ∃ t i j, x = V.ref t ∧ F t = some (.tup [.int i, .int j])
  | [], _, .nil, x, h => by cases h
  | p :: l, _, .cons r t, x, h => by
    rcases List.mem_cons.mp h with rfl | h
    · obtain ⟨a, ys, rfl, q, q2⟩ := rep_tup.mp r
      cases q2 with
      | cons r1 t1 =>
        cases t1 with
        | cons r2 t2 =>
          cases t2
          have e1 := rep_int.mp r1
          have e2 := rep_int.mp r2
          subst e1 e2
          exact ⟨a, p.1, p.2, rfl, q⟩
    · exact pairs_rep (ps := ps) t x h
theorem pairs_keys {F H : Hp} (fs : ∀ a o, F a = some o → H a = some o) : ∀ {l : List (Int × Int)} {xs : List V}, Paired (Rep F) (l.map pD) xs → xs.map (keyV H) = l
  | [], _, .nil => rfl
  | p :: l, _, .cons r t => by
    rw [List.map_cons, pairs_keys fs t]
    obtain ⟨a, ys, rfl, q, q2⟩ := rep_tup.mp r
    cases q2 with
    | cons r1 t1 =>
      cases t1 with
      | cons r2 t2 =>
        cases t2
        have e1 := rep_int.mp r1
        have e2 := rep_int.mp r2
        subst e1 e2
        rw [keyV_eq (fs _ _ q)]
section
variable {X : Cx} {xo : Option (Addr × Nat)}
theorem cg_sorted : CallG X xo (.builtin "sorted") gSorted := ⟨_, cr_sortedPO, by
  intro W F ι S H σ xs ws Q r h p
  unfold gSorted at p
  split at p
  · obtain ⟨v, rfl, hv⟩ := ws1 h
    split at p
    · rename_i ds ps e
      obtain ⟨a, ys, rfl, q, q2⟩ := w_lst.mp hv
      have ed := pairsOf_eq e
      subst ed
      refine ⟨a, ys, keyV H, rfl, SqL.of (r.frz _ _ q), fun x hx => ?_, fun zs pq hs hst hq => ?_⟩
      · obtain ⟨t, i, j, rfl, ht⟩ := pairs_rep (ps := ps) q2 x hx
        have hH := r.frz _ _ ht
        refine ⟨t, rfl, ?_⟩
        rw [keyV_eq hH]
        exact hH
      · have hk : zs.map (keyV H) = sortP ps := by
          have h1 := SrtO.srtd_map (lt := SrtO.lexB) (f := keyV H) hs
          have h2 := SrtO.Stb.map (lt := SrtO.lexB) lexB_swo (keyV H) hst
          rw [pairs_keys r.frz q2] at h2
          exact sortP_uniq h1 h2
        have hrep : Paired (Rep F) ((zs.map (keyV H)).map pD) zs := by
          have hmem : ∀ z ∈ zs, ∃ t i j, z = V.ref t ∧ F t = some (.tup [.int i, .int j]) := fun z hz => pairs_rep (ps := ps) q2 z (hst.perm.mem_iff.mp hz)
          clear hk hs hst
          induction zs with
          | nil => exact .nil
          | cons z zs ih =>
            obtain ⟨t, i, j, rfl, ht⟩ := hmem z List.mem_cons_self
            refine .cons ?_ (ih fun y hy => hmem y (List.mem_cons_of_mem _ hy))
            rw [keyV_eq (r.frz _ _ ht)]
            exact rep_tup.mpr ⟨t, _, rfl, ht, .cons (rep_int.mpr rfl) (.cons (rep_int.mpr rfl) .nil)⟩
        rw [hk] at hrep
        exact ret_lst p r hrep pq hq
    · exact p.elim
  · exact p.elim⟩
end
end DL

/-! the facts of a text, read from a smaller part of the heap (cheap for the kernel) -/
namespace DL
open PySem PySem.Spec PyProof.Rows L2 He
def frN {α : Type} (n : Nat) (k : Nat → α) : α := match n with
  | 0 => k 0
  | m + 1 => k (m + 1)
/-- those that were not seen; seen is a number with a bit for each address -/
def addNew {α : Type} : List Addr → Nat → List Addr → (Nat → List Addr → α) → α
  | [], seen, out, k => k seen out
  | a :: r, seen, out, k => frN a fun a => match Nat.beq (Nat.land (Nat.shiftRight seen a) 1) 1 with
    | true => addNew r seen out k
    | false => frN (Nat.lor seen (Nat.shiftLeft 1 a)) fun s => addNew r s (a :: out) k
def bfs (g : Addr → Option Obj) : Nat → List Addr → Nat → List Addr → List Addr
  | 0, _, _, acc => acc
  | n + 1, fr, seen, acc => addNew (fr.flatMap fun a => match g a with
    | some o => refsD o
    | none => []) seen [] fun s new => bfs g n new s (acc ++ new)
def reach (g : Addr → Option Obj) (n : Nat) : List Addr := bfs g n [mainGlobals] (Nat.shiftLeft 1 mainGlobals) [mainGlobals]
def obsR (n : Nat) (fa : List Fa) (fn : List DefD) (ex : List Ex) (g : Addr → Option Obj) : AlE := obsE fa fn ex (frG g (reach g n))
def hookR (n : Nat) (fa : List Fa) (fn : List DefD) (ex : List Ex) : PySem.W.Hook where
  α := AlE
  obs := fun s => obsR n fa fn ex s.heap.get?
  val := fun _ => (valD fn, true)
  says := fun _ h => ∃ K : PySem.W.Frag, K.In h ∧ SaysE fa fn ex K
  of := fun _ _ e => ⟨_, frG_in, ⟨congrArg (fun z : AlE => z.1) e, congrArg (fun z : AlE => z.2) e⟩⟩
  keeps := fun _ _ _ ⟨K, hK, c⟩ k => ⟨K, PySem.W.Frag.In.keeps hK k, c⟩
theorem obsR_eq {n : Nat} {fa : List Fa} {fn : List DefD} {ex : List Ex} {g : Addr → Option Obj} {s : Shared} (h : ∀ a, g a = s.heap.get? a) : obsR n fa fn ex g = (hookR n fa fn ex).obs s := by
  have e : g = s.heap.get? := funext h
  rw [e] <;> rfl
theorem join3 {α β γ δ : Type} {x : Option α} {f : α → β} {g : α → γ} {h : α → δ} {a : β} {b : γ} {c : δ} (h1 : x.map f = some a) (h2 : x.map g = some b) (h3 : x.map h = some c) : x.map (fun s => (f s, g s, h s)) = some (a, b, c) := by
  cases x with
  | none => cases h1
  | some s =>
    have e1 := Option.some.inj h1
    have e2 := Option.some.inj h2
    have e3 := Option.some.inj h3
    show some (f s, g s, h s) = _
    rw [e1, e2, e3]
end DL

/-! the keys of a dict (pairs of texts) as a list, and such a list sorted -/
/-! ### the order -/
namespace SrtO
open PySem PyProof.Rows Srt
def lexS (p q : PySem.Str × PySem.Str) : Bool := if p.1 = q.1 then decide (p.2.cps.toList < q.2.cps.toList) else decide (p.1.cps.toList < q.1.cps.toList)
def LS (p q : PySem.Str × PySem.Str) : Prop := p.1.cps.toList < q.1.cps.toList ∨ (p.1 = q.1 ∧ p.2.cps.toList < q.2.cps.toList)
theorem str_eq {x y : PySem.Str} (h : x.cps.toList = y.cps.toList) : x = y := by
  obtain ⟨⟨a⟩⟩ := x
  obtain ⟨⟨b⟩⟩ := y
  simp at h
  rw [h]
theorem tri3 (x y : PySem.Str) : x.cps.toList < y.cps.toList ∨ x = y ∨ y.cps.toList < x.cps.toList := by
  by_cases h1 : x.cps.toList < y.cps.toList
  · exact .inl h1
  · by_cases h2 : y.cps.toList < x.cps.toList
    · exact .inr (.inr h2)
    · exact .inr (.inl (str_eq (List.le_antisymm (List.not_lt.mp h2) (List.not_lt.mp h1))))
theorem ltI (x : PySem.Str) : ¬ x.cps.toList < x.cps.toList := List.lt_irrefl _
theorem ltT {x y z : PySem.Str} (h : x.cps.toList < y.cps.toList) (h' : y.cps.toList < z.cps.toList) : x.cps.toList < z.cps.toList := List.lt_trans h h'
theorem lexS_iff {p q : PySem.Str × PySem.Str} : lexS p q = true ↔ LS p q := by
  unfold lexS LS
  by_cases e : p.1 = q.1
  · rw [if_pos e, decide_eq_true_eq]
    constructor
    · exact fun h => .inr ⟨e, h⟩
    · rintro (h | h)
      · rw [e] at h; exact absurd h (ltI _)
      · exact h.2
  · rw [if_neg e, decide_eq_true_eq]
    constructor
    · exact fun h => .inl h
    · rintro (h | h)
      · exact h
      · exact absurd h.1 e
theorem lexS_no {p q : PySem.Str × PySem.Str} : lexS p q = false ↔ ¬ LS p q := by
  rw [← lexS_iff]
  cases lexS p q <;> simp
theorem LS_tr {p q r : PySem.Str × PySem.Str} (h : LS p q) (h' : LS q r) : LS p r := by
  rcases h with h | ⟨e, h⟩ <;> rcases h' with h' | ⟨e', h'⟩
  · exact .inl (ltT h h')
  · exact .inl (by rw [← e']; exact h)
  · exact .inl (by rw [e]; exact h')
  · exact .inr ⟨e.trans e', ltT h h'⟩
theorem LS_ir (p : PySem.Str × PySem.Str) : ¬ LS p p := fun h => by
  rcases h with h | ⟨_, h⟩ <;> exact ltI _ h
theorem LS_tri (p q : PySem.Str × PySem.Str) : LS p q ∨ p = q ∨ LS q p := by
  rcases tri3 p.1 q.1 with h | h | h
  · exact .inl (.inl h)
  · rcases tri3 p.2 q.2 with h2 | h2 | h2
    · exact .inl (.inr ⟨h, h2⟩)
    · exact .inr (.inl (Prod.ext h h2))
    · exact .inr (.inr (.inr ⟨h.symm, h2⟩))
  · exact .inr (.inr (.inl h))
theorem lexS_swo : Swo lexS := by
  refine ⟨fun x y h => ?_, fun x y z h1 h2 => ?_⟩
  · have a := lexS_iff.mp h
    exact lexS_no.mpr fun b => LS_ir _ (LS_tr a b)
  · have a := lexS_no.mp h1
    have b := lexS_no.mp h2
    refine lexS_no.mpr fun c => ?_
    rcases LS_tri y x with d | d | d
    · exact a d
    · subst d; exact b c
    · exact b (LS_tr c d)
theorem swo_lexS {α : Type} (k : α → PySem.Str × PySem.Str) : Swo fun v u => lexS (k v) (k u) :=
  ⟨fun x y h => lexS_swo.asym (k x) (k y) h, fun x y z h1 h2 => lexS_swo.tr (k x) (k y) (k z) h1 h2⟩
/-! ### sorted by that -/
section
variable {prog : Program} {w : World} {A : Around} {E : Value → Shared → Prop} {s : Shared}
def IsPairS (h : Heap) (v : Value) (x y : PySem.Str) : Prop := ∃ a o t u n, v = .ref a ∧ h.get? a = some o ∧ o.cls = .type "tuple" ∧ o.data = .seq #[.str x t, .str y u] n
theorem IsPairS.keeps {h h' : Heap} {v : Value} {x y : PySem.Str} (p : IsPairS h v x y) (k : ∀ b o, h.get? b = some o → o.cls = .type "tuple" → h'.get? b = some o) : IsPairS h' v x y := by
  obtain ⟨a, o, t, u, n, e, ho, hc, hd⟩ := p
  exact ⟨a, o, t, u, n, e, k _ _ ho hc, hc, hd⟩
theorem firsts_ofS {h : Heap} : ∀ {vs : List Value}, (∀ v ∈ vs, ∃ x y, IsPairS h v x y) → ∃ fs : List Value, PySem.W.KatTups h vs fs ∧ fs.length = vs.length ∧ ∀ f ∈ fs, ∃ x t, f = Value.str x t
  | [], _ => ⟨[], PySem.W.KatTups.nil, rfl, fun _ hm => by simp at hm⟩
  | v :: vs, hp => by
    obtain ⟨fs, h1, h2, h3⟩ := firsts_ofS (vs := vs) fun v' hm => hp v' (List.mem_cons_of_mem _ hm)
    obtain ⟨x, y, a, o, t, u, n, e, ho, hc, hd⟩ := hp v (List.mem_cons_self ..)
    subst e
    refine ⟨.str x t :: fs, PySem.W.KatTups.cons ho hc hd rfl h1, by rw [List.length_cons, List.length_cons, h2], fun f hm => ?_⟩
    rcases List.mem_cons.mp hm with rfl | hm
    · exact ⟨x, t, rfl⟩
    · exact h3 f hm
theorem beq_str {x y : PySem.Str} : (x == y) = true ↔ x = y := beq_iff_eq
theorem pair_cmpS {vs : List Value} {k : Value → PySem.Str × PySem.Str} (hp : ∀ v ∈ vs, IsPairS s.heap v (k v).1 (k v).2) : Cmp prog w A s (tuples' true) (fun p => p.1 ∈ vs) (lt2 fun v u => lexS (k v) (k u)) := by
  intro p q hm hm'
  have h1 := hp _ hm
  have h2 := hp _ hm'
  show wpAny (model prog w) A (keyLt' (tuples' true) p.1 q.1) (fun r s' => s' = s ∧ r = lexS (k p.1) (k q.1)) (fun _ _ => False) s
  unfold lexS
  generalize (k p.1).1 = x at h1 ⊢
  generalize (k p.1).2 = y at h1 ⊢
  generalize (k q.1).1 = x' at h2 ⊢
  generalize (k q.1).2 = y' at h2 ⊢
  obtain ⟨a, o, t, u, n, e, ho, hc, hd⟩ := h1
  obtain ⟨a', o', t', u', n', e', ho', hc', hd'⟩ := h2
  rw [e, e']
  refine PySem.W.kat_lt ho hd ho' hd' ?_
  show PySem.W.KatLex prog w A true (decide (2 < 2)) _ [(.str x t, .str x' t'), (.str y u, .str y' u')] 0 s
  refine PySem.W.kat_cons (SeqAt.EqAt.str_str x t x' t' prog w _ _ ?_)
  refine PySem.W.kat_go (fun e1 => ?_) (fun e1 => ?_)
  · have ex : x = x' := by simpa using e1
    refine PySem.W.kat_yes (PySem.W.kat_cons (SeqAt.EqAt.str_str y u y' u' prog w _ _ ?_))
    refine PySem.W.kat_go (fun e2 => ?_) (fun e2 => ?_)
    · have ey : y = y' := by simpa using e2
      have e3 : (if x = x' then decide (y.cps.toList < y'.cps.toList) else decide (x.cps.toList < x'.cps.toList)) = false := by
        rw [if_pos ex, ey]
        exact decide_eq_false (ltI _)
      exact PySem.W.kat_yes (PySem.W.kat_nil ⟨rfl, e3.symm⟩)
    · have e3 : (if x = x' then decide (y.cps.toList < y'.cps.toList) else decide (x.cps.toList < x'.cps.toList)) = decide (y.cps.toList < y'.cps.toList) := if_pos ex
      refine PySem.W.kat_no (PySem.W.kat_one _ _ (PyProof.Rows.lt_str ?_))
      exact (show s = s ∧ decide (y.cps.toList < y'.cps.toList) = (if x = x' then decide (y.cps.toList < y'.cps.toList) else decide (x.cps.toList < x'.cps.toList)) from ⟨rfl, e3.symm⟩)
  · have ex : ¬ x = x' := by simpa using e1
    have e3 : (if x = x' then decide (y.cps.toList < y'.cps.toList) else decide (x.cps.toList < x'.cps.toList)) = decide (x.cps.toList < x'.cps.toList) := if_neg ex
    exact PySem.W.kat_no (oneLt_str ⟨rfl, e3.symm⟩)
theorem pairs_sortableS {a : Addr} {vs : List Value} {k : Value → PySem.Str × PySem.Str} (h0 : 0 < vs.length) (hp : ∀ v ∈ vs, IsPairS s.heap v (k v).1 (k v).2) (ha : ∀ o, s.heap.get? a = some o → o.cls ≠ .type "tuple") : SortableO prog w A s a vs fun v u => lexS (k v) (k u) := by
  intro h' keep
  have hp' : ∀ v ∈ vs, IsPairS h' v (k v).1 (k v).2 := fun v hm => (hp v hm).keeps fun b o e c => keep b o (fun z => by subst z; exact ha o e c) e
  obtain ⟨fs, h1, h2, h3⟩ := firsts_ofS fun v hm => ⟨_, _, hp' v hm⟩
  refine ⟨tuples' true, fun Q E hq => ?_, pair_cmpS hp'⟩
  refine PySem.W.kat_kind (T := .type "str") h1 (by omega) (fun f hm => ?_) (by rfl) ?_
  · obtain ⟨x, t, rfl⟩ := h3 f hm
    exact PySem.W.Looks.now
  · have e : (Value.type "str" != Value.type "tuple") = true := by first | decide +kernel | rfl | decide
    rw [e]
    exact hq
theorem sorted_pairsS {l : Addr} {vs : List Value} {k : Value → PySem.Str × PySem.Str} {Q : Value → Shared → Prop} (hl : s.heap.IsList l vs.toArray) (hz : vs.length ≤ sizeLine) (hp : ∀ v ∈ vs, IsPairS s.heap v (k v).1 (k v).2)
    (h : ∀ (h' : Heap) (d : Addr) (out : List Value), Srtd (fun v u => lexS (k v) (k u)) out → Stb (fun v u => lexS (k v) (k u)) out vs → (∀ b o, s.heap.get? b = some o → h'.get? b = some o) → s.heap.objs.size ≤ d → (∃ n, h'.get? d = some (seqObj "list" out.toArray n)) → Q (.ref d) { s with heap := h' }) :
    wpAny (model prog w) A (call (.builtin "sorted") [.ref l]) Q E s := by
  refine sorted_ord (swo_lexS k) hl hz (fun h2 h₁ a ha kk => ?_) fun out hs hb => ?_
  · refine pairs_sortableS (s := { s with heap := h₁ }) (by omega) (fun v hm => (hp v hm).keeps fun b o e _ => (kk b o e).2) fun o e => ?_
    have e' : some o = some (seqObj "list" vs.toArray 0) := e.symm.trans ha
    cases e'
    intro c
    exact absurd (Value.type.inj c) (by decide)
  · exact h _ _ out hs hb (fun b o e => sortedAll_old e) (Nat.le_succ _) (sortedAll_at s.heap vs out.toArray)
end
end SrtO

/-! ### the same as a function -/
namespace DL
open PySem PySem.Spec PyProof.Rows L2
section
variable {α : Type} {lt : α → α → Bool}
def insG (lt : α → α → Bool) (x : α) : List α → List α
  | [] => [x]
  | y :: l => if lt y x = true then y :: insG lt x l else x :: y :: l
def sortG (lt : α → α → Bool) (l : List α) : List α := l.foldr (insG lt) []
theorem insG_perm (x : α) : ∀ l, (insG lt x l).Perm (x :: l)
  | [] => .refl _
  | y :: l => by
    unfold insG
    split
    · exact ((insG_perm x l).cons y).trans (.swap x y l)
    · exact .refl _
theorem sortG_perm : ∀ l, (sortG lt l).Perm l
  | [] => .refl _
  | x :: l => (insG_perm x (sortG lt l)).trans ((sortG_perm l).cons x)
theorem insG_srtd (O : SrtO.Swo lt) (x : α) : ∀ l, SrtO.Srtd lt l → SrtO.Srtd lt (insG lt x l)
  | [], _ => List.pairwise_singleton _ _
  | y :: l, h => by
    obtain ⟨h1, h2⟩ := List.pairwise_cons.mp h
    unfold insG
    split
    · rename_i hyx
      refine List.pairwise_cons.mpr ⟨fun z hz => ?_, insG_srtd O x l h2⟩
      rcases List.mem_cons.mp ((insG_perm x l).mem_iff.mp hz) with rfl | hz
      · exact O.asym _ _ hyx
      · exact h1 z hz
    · rename_i hyx
      have hyx' : lt y x = false := by cases q : lt y x <;> simp_all
      refine List.pairwise_cons.mpr ⟨fun z hz => ?_, h⟩
      rcases List.mem_cons.mp hz with rfl | hz
      · exact hyx'
      · exact O.tr _ _ _ hyx' (h1 z hz)
theorem sortG_srtd (O : SrtO.Swo lt) : ∀ l, SrtO.Srtd lt (sortG lt l)
  | [] => List.Pairwise.nil
  | x :: l => insG_srtd O x _ (sortG_srtd O l)
theorem insG_cls (O : SrtO.Swo lt) (x z : α) : ∀ l, (insG lt x l).filter (SrtO.eqv lt z) = (x :: l).filter (SrtO.eqv lt z)
  | [] => rfl
  | y :: l => by
    unfold insG
    split
    · rename_i hyx
      rw [List.filter_cons, insG_cls O x z l, List.filter_cons, List.filter_cons, List.filter_cons]
      by_cases h1 : SrtO.eqv lt z y = true
      · by_cases h2 : SrtO.eqv lt z x = true
        · obtain ⟨a1, a2⟩ := SrtO.eqv_iff.mp h1
          obtain ⟨b1, b2⟩ := SrtO.eqv_iff.mp h2
          have c := O.tr _ _ _ b1 a2
          rw [hyx] at c
          cases c
        · simp [h1, h2]
      · simp [h1]
    · rfl
theorem sortG_cls (O : SrtO.Swo lt) (z : α) : ∀ l, (sortG lt l).filter (SrtO.eqv lt z) = l.filter (SrtO.eqv lt z)
  | [] => rfl
  | x :: l => by
    show (insG lt x (sortG lt l)).filter _ = _
    rw [insG_cls O, List.filter_cons, List.filter_cons, sortG_cls O z l]
theorem sortG_uniq (O : SrtO.Swo lt) {l m : List α} (h : SrtO.Srtd lt m) (s : SrtO.Stb lt m l) : m = sortG lt l :=
  SrtO.stb_uniq O h (sortG_srtd O l) ⟨s.perm.trans (sortG_perm l).symm, fun x => by rw [s.cls x, sortG_cls O]⟩
end
abbrev sortS (l : List (PySem.Str × PySem.Str)) : List (PySem.Str × PySem.Str) := sortG SrtO.lexS l
def pS (p : PySem.Str × PySem.Str) : D := .tup [.str p.1, .str p.2]
def strsOf : List D → Option (List (PySem.Str × PySem.Str))
  | [] => some []
  | .tup [.str i, .str j] :: r => (strsOf r).map ((i, j) :: ·)
  | _ :: _ => none
theorem strsOf_eq : ∀ {ds : List D} {ps : List (PySem.Str × PySem.Str)}, strsOf ds = some ps → ds = ps.map pS
  | [], ps, e => by cases e; rfl
  | d :: ds, ps, e => by
    unfold strsOf at e
    split at e
    · cases e; contradiction
    · rename_i i j r heq
      cases heq
      cases q : strsOf ds with
      | none => rw [q] at e; cases e
      | some l =>
        rw [q] at e
        cases e
        rw [strsOf_eq q]; rfl
    · cases e
theorem strsOf_map : ∀ ps : List (PySem.Str × PySem.Str), strsOf (ps.map pS) = some ps
  | [] => rfl
  | p :: ps => by simp [strsOf, pS, strsOf_map ps]
def gSortedS : List Wv → Store → Res Wv
  | [.d (.lst ds)], S => match strsOf ds with
    | some ps => .ok (.d (.lst ((sortS ps).map pS))) S
    | none => .no
  | _, _ => .no
theorem gSortedS_s (ps : List (PySem.Str × PySem.Str)) (S : Store) : gSortedS [.d (.lst (ps.map pS))] S = .ok (.d (.lst ((sortS ps).map pS))) S := by
  unfold gSortedS
  simp only [strsOf_map]
/-! ### the rule -/
def rSortedS2 (K : PySem.W.Frag) : List V → Hp → VK → Prop := fun vs H Q => ∃ (a : Addr) (xs : List V) (k : V → PySem.Str × PySem.Str), vs = [V.ref a] ∧ SqL K H a xs ∧ (∀ x ∈ xs, ∃ t, x = V.ref t ∧ H t = some (.tup [.str (k x).1, .str (k x).2])) ∧
  ∀ ys p, SrtO.Srtd (fun x y => SrtO.lexS (k x) (k y)) ys → SrtO.Stb (fun x y => SrtO.lexS (k x) (k y)) ys xs → H p = none → Q (.ref p) (upd H p (.lst ys))
section
variable {X : Cx} {xo : Option (Addr × Nat)}
theorem cr_sortedS2 : CallR X (.builtin "sorted") (rSortedS2 X.K) := by
  intro pins s σ H vs us Q I r h
  obtain ⟨a, xs, k, rfl, hs, hx, q⟩ := h
  obtain ⟨its, rv, hl, hz⟩ := I.list hs
  obtain ⟨u, rfl, ru⟩ := vals1 r
  obtain rfl : u = Value.ref a := ru
  obtain ⟨e1, e2⟩ := refs_back rv fun x m => by
    obtain ⟨t, e, _⟩ := hx x m
    exact ⟨t, e⟩
  refine SrtO.sorted_pairsS (k := fun u => k (backV u)) hl.isList (by rw [← rv.length]; exact hz) (fun v hv => ?_) fun h' d out h1 h2 kp hd hn => ?_
  · obtain ⟨t, rfl⟩ := e2 v hv
    have hm : V.ref t ∈ xs := by rw [e1]; exact List.mem_map.mpr ⟨_, hv, rfl⟩
    obtain ⟨t', e, ht⟩ := hx _ hm
    cases e
    obtain ⟨_, its2, r2, o, ho, hc, n, hd⟩ := I.hok _ _ ht
    obtain ⟨u1, u2, rfl, ri, rj⟩ := vals2 r2
    obtain ⟨t1, rfl⟩ := ri
    obtain ⟨t2, rfl⟩ := rj
    exact ⟨t, o, t1, t2, n, rfl, ho, hc, hd⟩
  · have h3 : ∀ u ∈ out, ∃ a, u = Value.ref a := fun u hu => e2 u (h2.perm.mem_iff.mp hu)
    obtain ⟨n, hn⟩ := hn
    have hb : SrtO.Stb (fun x y => SrtO.lexS (k x) (k y)) (out.map backV) xs := by
      rw [e1]
      exact SrtO.Stb.map (SrtO.swo_lexS k) backV h2
    refine ⟨.ref d, upd H d (.lst (out.map backV)), I.laid (t' := s.toks) kp hd ⟨?_, out, n, vals_back h3, hn⟩, rfl, q _ d (SrtO.srtd_map h1) hb (I.hok.fresh hd)⟩
    rw [hb.len]
    exact hz
def keyS (H : Hp) (x : V) : PySem.Str × PySem.Str := match x with
  | .ref t => match H t with
    | some (.tup [.str i, .str j]) => (i, j)
    | _ => (Str.empty, Str.empty)
  | _ => (Str.empty, Str.empty)
theorem keyS_eq {H : Hp} {t : Addr} {i j : PySem.Str} (h : H t = some (.tup [.str i, .str j])) : keyS H (.ref t) = (i, j) := by
  unfold keyS
  simp only [h]
theorem pairs2_rep {F : Hp} : ∀ {l : List (PySem.Str × PySem.Str)} {xs : List V}, Paired (Rep F) (l.map pS) xs → ∀ x ∈ xs, ∃ t i j, x = V.ref t ∧ F t = some (.tup [.str i, .str j])
  | [], _, .nil, x, h => by cases h
  | p :: l, _, .cons r t, x, h => by
    rcases List.mem_cons.mp h with rfl | h
    · obtain ⟨a, ys, rfl, q, q2⟩ := rep_tup.mp r
      cases q2 with
      | cons r1 t1 =>
        cases t1 with
        | cons r2 t2 =>
          cases t2
          have e1 := rep_str.mp r1
          have e2 := rep_str.mp r2
          subst e1 e2
          exact ⟨a, p.1, p.2, rfl, q⟩
    · exact pairs2_rep t x h
theorem strs_keys {F H : Hp} (fs : ∀ a o, F a = some o → H a = some o) : ∀ {l : List (PySem.Str × PySem.Str)} {xs : List V}, Paired (Rep F) (l.map pS) xs → xs.map (keyS H) = l
  | [], _, .nil => rfl
  | p :: l, _, .cons r t => by
    rw [List.map_cons, strs_keys fs t]
    obtain ⟨a, ys, rfl, q, q2⟩ := rep_tup.mp r
    cases q2 with
    | cons r1 t1 =>
      cases t1 with
      | cons r2 t2 =>
        cases t2
        have e1 := rep_str.mp r1
        have e2 := rep_str.mp r2
        subst e1 e2
        rw [keyS_eq (fs _ _ q)]
theorem cg_sortedS : CallG X xo (.builtin "sorted") gSortedS := ⟨_, cr_sortedS2, by
  intro W F ι S H σ xs ws Q r h p
  unfold gSortedS at p
  split at p
  · obtain ⟨v, rfl, hv⟩ := ws1 h
    split at p
    · rename_i ds ps e
      obtain ⟨a, ys, rfl, q, q2⟩ := w_lst.mp hv
      have ed := strsOf_eq e
      subst ed
      refine ⟨a, ys, keyS H, rfl, SqL.of (r.frz _ _ q), fun x hx => ?_, fun zs pq hs hst hq => ?_⟩
      · obtain ⟨t, i, j, rfl, ht⟩ := pairs2_rep q2 x hx
        have hH := r.frz _ _ ht
        refine ⟨t, rfl, ?_⟩
        rw [keyS_eq hH]
        exact hH
      · have hk : zs.map (keyS H) = sortS ps := by
          have h1 := SrtO.srtd_map (lt := SrtO.lexS) (f := keyS H) hs
          have h2 := SrtO.Stb.map (lt := SrtO.lexS) SrtO.lexS_swo (keyS H) hst
          rw [strs_keys r.frz q2] at h2
          exact sortG_uniq SrtO.lexS_swo h1 h2
        have hrep : Paired (Rep F) ((zs.map (keyS H)).map pS) zs := by
          have hmem : ∀ z ∈ zs, ∃ t i j, z = V.ref t ∧ F t = some (.tup [.str i, .str j]) := fun z hz => pairs2_rep q2 z (hst.perm.mem_iff.mp hz)
          clear hk hs hst
          induction zs with
          | nil => exact .nil
          | cons z zs ih =>
            obtain ⟨t, i, j, rfl, ht⟩ := hmem z List.mem_cons_self
            refine .cons ?_ (ih fun y hy => hmem y (List.mem_cons_of_mem _ hy))
            rw [keyS_eq (r.frz _ _ ht)]
            exact rep_tup.mpr ⟨t, _, rfl, ht, .cons (rep_str.mpr rfl) (.cons (rep_str.mpr rfl) .nil)⟩
        rw [hk] at hrep
        exact ret_lst p r hrep pq hq
    · exact p.elim
  · exact p.elim⟩
/-! ### the keys of a dict -/
def kD1 : Key → D
  | .inl i => .int i
  | .inr x => .str x
def kD (k : List Key) : D := .tup (k.map kD1)
theorem kD1_rep {F : Hp} : ∀ k : Key, Rep F (kD1 k) (kV k)
  | .inl i => rep_int.mpr rfl
  | .inr x => rep_str.mpr rfl
theorem kD1_reps {F : Hp} : ∀ ks : List Key, Paired (Rep F) (ks.map kD1) (ks.map kV)
  | [] => .nil
  | k :: ks => .cons (kD1_rep k) (kD1_reps ks)
/-- the plain tuples among what is there can be frozen -/
theorem freezeKeys {G : Gc} {ι : List Addr} {S : Store} {H : Hp} : ∀ {l : List (List Key × V)} {bs : List Addr} {F : Hp}, Real G F ι S H → IsKeys H l bs → ∃ F', Real G F' ι S H ∧ Ext F ι H F' ι H ∧ Paired (fun p b => F' b = some (.tup (p.1.map kV))) l bs
  | [], _, F, r, .nil => ⟨F, r, .refl _ _ _, .nil⟩
  | p :: l, _, F, r, .cons (b := b) hb t => by
    have step : ∃ F1, Real G F1 ι S H ∧ Ext F ι H F1 ι H ∧ F1 b = some (.tup (p.1.map kV)) := by
      cases q : F b with
      | some o =>
        have e := r.frz _ _ q
        rw [hb] at e
        cases e
        exact ⟨F, r, .refl _ _ _, q⟩
      | none =>
        have hi : b ∉ ι := fun hm => by
          obtain ⟨n, hn⟩ := List.getElem?_of_mem hm
          have hl : n < S.length := by rw [← r.len]; exact (List.getElem?_eq_some_iff.mp hn).1
          have hS := List.getElem?_eq_getElem hl
          by_cases hd : S[n] = .dead
          · rw [hd] at hS
            obtain ⟨o, ho⟩ := r.dd n b hn hS
            rw [q] at ho
            cases ho
          · obtain ⟨_, h, hh, ro⟩ := r.at_ n b _ hn hS hd
            rw [hb] at hh
            cases hh
            cases hs : S[n] with
            | tup ws =>
              rw [hs] at hS ro
              have ht := r.tp n ws hS
              obtain ⟨xs, ex, rw'⟩ := ro
              cases ex
              have : ∀ {ws : List Wv} {ks : List Key}, RepWs G.calm F ι ws (ks.map kV) → ws.all Wv.isD = true := fun {ws ks} => by
                induction ks generalizing ws with
                | nil => intro h; cases h; rfl
                | cons k ks ih =>
                  intro h
                  cases h with
                  | cons h1 h2 =>
                    rename_i w ws'
                    rw [List.all_cons, ih h2, Bool.and_true]
                    cases w with
                    | d x => rfl
                    | ref m => obtain ⟨_, _, e⟩ := h1; cases k <;> cases e
                    | scr ns => obtain ⟨_, e, _⟩ := h1; cases k <;> cases e
                    | exc c => obtain ⟨_, e, _⟩ := h1; cases e
              rw [this rw'] at ht
              cases ht
            | lst ws => rw [hs] at ro; obtain ⟨_, e, _⟩ := ro; cases e
            | dK ws => rw [hs] at ro; obtain ⟨_, e, _⟩ := ro; cases e
            | dT ws => rw [hs] at ro; obtain ⟨_, e, _⟩ := ro; cases e
            | ins C ws => rw [hs] at ro; obtain ⟨_, _, _, _, e, _⟩ := ro; cases e
            | dead => exact hd hs
        exact ⟨upd F b (.tup (p.1.map kV)), r.toF hb q hi, ⟨fz_new q, ⟨[], by simp⟩, fun c o e n => ⟨n, e⟩, fun c o e n f g => by
          have nb : c ≠ b := fun z => by subst z; rw [hb] at e; cases e; exact g _ rfl
          rw [upd_ne nb]; exact f⟩, upd_same⟩
    obtain ⟨F1, r1, x1, e1⟩ := step
    obtain ⟨F2, r2, x2, e2⟩ := freezeKeys r1 t
    exact ⟨F2, r2, x1.trans x2, .cons (x2.fz _ _ e1) e2⟩
def gListT : List Wv → Store → Res Wv
  | [.ref n], S => match S[n]? with
    | some (.dT kvs) => .ok (.d (.lst (kvs.map fun kv => kD kv.1))) S
    | _ => .no
  | _, _ => .no
theorem gListT_s {n : Nat} {kvs : List (List Key × Wv)} {S : Store} (h : S[n]? = some (.dT kvs)) : gListT [.ref n] S = .ok (.d (.lst (kvs.map fun kv => kD kv.1))) S := by
  unfold gListT
  simp only [h]
theorem keys_reps {F : Hp} : ∀ {kvs : List (List Key × Wv)} {l : List (List Key × V)} {bs : List Addr} {R : List Key × Wv → List Key × V → Prop}, (∀ p q, R p q → p.1 = q.1) → Paired R kvs l → Paired (fun p b => F b = some (.tup (p.1.map kV))) l bs → Paired (Rep F) (kvs.map fun kv => kD kv.1) (bs.map V.ref)
  | _, _, _, R, hR, .nil, .nil => .nil
  | _, _, _, R, hR, .cons (a := p) h t, .cons e u => .cons (by
      show Rep F (kD p.1) _
      rw [hR _ _ h]
      exact rep_tup.mpr ⟨_, _, rfl, e, kD1_reps _⟩) (keys_reps hR t u)
theorem cg_listT (hc : X.calm = true) : CallG X xo (.type "list") gListT := ⟨_, call_list_dT hc, by
  intro W F ι S H σ xs ws Q r h p
  unfold gListT at p
  split at p
  · rename_i n
    obtain ⟨v, rfl, hv⟩ := ws1 h
    split at p
    · rename_i kvs e
      obtain ⟨a, ea, rfl⟩ := hv
      obtain ⟨_, ho, hH, l, rfl, pr⟩ := r.at_ n a _ ea e (fun z => nomatch z)
      refine ⟨a, l, rfl, .inl hH, fun q bs hq hk => ?_⟩
      obtain ⟨F', r', x', hb⟩ := freezeKeys r hk
      have hrep := keys_reps (fun _ _ h => h.1) pr hb
      exact ret_lst (Post.ext x' p) r' hrep q hq
    · exact p.elim
  · exact p.elim⟩
end
end DL

/-! a list of the store that is not changed any more becomes plain data -/
namespace DL
open PySem PySem.Spec PyProof.Rows L2
def fz1 : Wv → Store → Res Wv
  | .ref n, S => match S[n]? with
    | some (.lst ws) => match allD ws with
      | some ds => .ok (.d (.lst ds)) (S.set n .dead)
      | none => .no
    | _ => .ok (.ref n) S
  | w, S => .ok w S
def evFz (f : Ev) : Ev := evUn fz1 f
theorem fz1_ref {S : Store} {n : Nat} {ds : List D} (h : S[n]? = some (.lst (ds.map .d))) : fz1 (.ref n) S = .ok (.d (.lst ds)) (S.set n .dead) := by
  unfold fz1
  simp only [h, allD_map]
@[simp] theorem fz1_d {S : Store} (x : D) : fz1 (.d x) S = .ok (.d x) S := rfl
@[simp] theorem evFz_s {S : Store} {ρ : Env} (f : Ev) : evFz f ρ S = (f ρ S).bind fz1 := rfl
section
variable {X : Cx} {xo : Option (Addr × Nat)}
theorem de_fz {e : Expr} {f : Ev} (h : DE X xo e f) : DE X xo e (evFz f) := ⟨fun W tk => pe_imp (h.run W tk) fun σ H Q ⟨F, ι, S, ρ, r, en, p⟩ =>
  TEo.step r en p fun F1 ι1 S1 H1 w v x r1 en1 hv p1 => by
    cases w with
    | ref n =>
      unfold fz1 at p1
      simp only at p1
      split at p1
      · rename_i ws e2
        split at p1
        · rename_i ds ea
          obtain ⟨a, e1, rfl⟩ := hv
          obtain ⟨hF, ho, hH, xs, rfl, rp⟩ := r1.at_ n a _ e1 e2 (fun z => nomatch z)
          have ed := allD_eq ea
          subst ed
          refine p1 _ _ _ (.freeze r1 e1 e2 (fun z => nomatch z)) (r1.freeze e1 e2 (fun z => nomatch z) hH) _ (w_lst.mpr ⟨a, xs, rfl, upd_same, ?_⟩)
          exact p2imp (fun _ _ z => z.mono (.of (fz_new hF))) (p2mapL' (R := Rep F1) (f := Wv.d) (fun _ _ z => z) rp)
        · exact p1.elim
      · exact ret_w p1 r1 hv
    | d x => exact ret_w p1 r1 hv
    | scr ns => exact ret_w p1 r1 hv
    | exc c => exact ret_w p1 r1 hv⟩
end
end DL

namespace DL
open PySem PySem.Spec PyProof.Rows L2
noncomputable section
abbrev csl : List Nat := [1, 2, 3, 4, 5, 6, 7, 8, 9, 10, 11, 12, 13, 15]
abbrev lb_law_name_1 : Sv :=
    (sSet 2 (evBin gAdd (evVar 2) (evBin gIx (evVar 1) (evBin gMod (evBin gAdd (evBin gFloor (evVar 3) (evC (.int 12))) (evBin gMul (evBin gFloor (evVar 3) (evC (.int 432))) (evVar 4))) (evC (.int 36))))))
/-- _law_name(_law_cell_here): 0 _law_cell_here 1 _law_signs 2 _law_found 3 _law_left 4 _law_k -/
def sem_law_name : Sem' := fnS 1 5
    (sSeq (sSet 1 (evC (.str "abcdefghijklmnopqrstuvwxyz0123456789")))
    (sSeq (sSet 2 (evBin gIx (evVar 1) (evBin gMod (evVar 0) (evC (.int 26)))))
    (sSeq (sSet 3 (evBin gFloor (evVar 0) (evC (.int 26))))
    (sSeq (sFor 4 (evRange gRange1 (evCons (evBin gMod (evVar 3) (evC (.int 12))) evNil)) lb_law_name_1)
    (sRet (evVar 2))))))
/-- _law_twin(_law_text, _law_cell_here, _law_signs): 0 _law_text 1 _law_cell_here 2 _law_signs 3 _law_at -/
def sem_law_twin : Sem' := fnS 3 4
    (sSeq (sSet 3 (evBin gMod (evVar 1) (evN gLen (evCons (evVar 0) evNil))))
    (sRet (evBin gAdd (evBin gAdd (evSl (evVar 0) evNoPart (evPart (evVar 3))) (evBin gIx (evVar 2) (evBin gMod (evBin gFloor (evVar 1) (evC (.int 13))) (evC (.int 26))))) (evSl (evVar 0) (evPart (evBin gAdd (evVar 3) (evC (.int 1)))) evNoPart))))
abbrev lb_law_names_1 : Sv :=
    (sIf (evT (evBin (gIn true) (evVar 3) (evVar 2))) (sExpr (evLm gAppend (evVar 2) (evVar 3))) sNil)
abbrev st_law_names_1 : Sv :=
    (sSet 1 (evN gLstS (evCons (evN (gCall 1 sem_law_name) (evCons (evBin gIx (evVar 0) (evC (.int 0))) evNil)) (evCons (evN (gCall 1 sem_law_name) (evCons (evBin gIx (evVar 0) (evC (.int 1))) evNil)) (evCons (evC (.str "a")) (evCons (evC (.str "z9")) evNil))))))
abbrev st_law_names_2 : Sv :=
    (sIf (evT (evBin (gEq false) (evBin gMod (evBin gIx (evVar 0) (evC (.int 1))) (evC (.int 2))) (evC (.int 1)))) (sLPut (evVar 1) (evC (.int 1)) (evN (gCall 3 sem_law_twin) (evCons (evBin gIx (evVar 1) (evC (.int 0))) (evCons (evBin gFloor (evBin gIx (evVar 0) (evC (.int 1))) (evC (.int 2))) (evCons (evC (.str "abcdefghijklmnopqrstuvwxyz")) evNil))))) sNil)
abbrev st_law_names_3 : Sv :=
    (sSet 2 (evN gLstS (evCons (evC (.str "exchange")) evNil)))
abbrev st_law_names_4 : Sv :=
    (sFor 3 (evItems (evVar 1)) lb_law_names_1)
abbrev st_law_names_5 : Sv :=
    (sRet (evVar 2))
/-- _law_names(_law_cells): 0 _law_cells 1 _law_some 2 _law_found 3 _law_name_here -/
def sem_law_names : Sem' := fnS 1 4
    (sSeq st_law_names_1
    (sSeq st_law_names_2
    (sSeq st_law_names_3
    (sSeq st_law_names_4
    st_law_names_5))))
/-- _law_cell(_law_script, _law_k): 0 _law_script 1 _law_k -/
def sem_law_cell : Sem' := fnS 2 2
    (sSeq (sIf (evT (evBin gLt (evVar 1) (evN gLen (evCons (evVar 0) evNil)))) (sRet (evBin gIx (evVar 0) (evVar 1))) sNil)
    (sRet (evC (.int 0))))
/-- _law_currency(_law_cell_here): 0 _law_cell_here 1 _law_signs 2 _law_found -/
def sem_law_currency : Sem' := fnS 1 3
    (sSeq (sSet 1 (evC (.str "ABCDEFGHIJKLMNOPQRSTUVWXYZ")))
    (sSeq (sSet 2 (evBin gIx (evVar 1) (evBin gMod (evVar 0) (evC (.int 26)))))
    (sSeq (sSet 2 (evBin gAdd (evVar 2) (evBin gIx (evVar 1) (evBin gMod (evBin gFloor (evVar 0) (evC (.int 26))) (evC (.int 26))))))
    (sRet (evBin gAdd (evVar 2) (evBin gIx (evVar 1) (evBin gMod (evBin gFloor (evVar 0) (evC (.int 676))) (evC (.int 26)))))))))
abbrev lb_law_currencies_1 : Sv :=
    (sIf (evAnd (evT (evBin (gIn true) (evVar 4) (evVar 1))) (evT (evBin gLt (evN gLen (evCons (evVar 1) evNil)) (evVar 3)))) (sExpr (evLm gAppend (evVar 1) (evVar 4))) sNil)
abbrev st_law_currencies_1 : Sv :=
    (sSet 1 (evN gLstS evNil))
abbrev st_law_currencies_2 : Sv :=
    (sSet 2 (evN gLst (evCons (evN (gCall 1 sem_law_currency) (evCons (evBin gIx (evVar 0) (evC (.int 0))) evNil)) (evCons (evN (gCall 1 sem_law_currency) (evCons (evBin gIx (evVar 0) (evC (.int 1))) evNil)) (evCons (evC (.str "EUR")) (evCons (evC (.str "JPY")) (evCons (evC (.str "USD")) evNil)))))))
abbrev st_law_currencies_3 : Sv :=
    (sSet 2 (evBin gAddS (evVar 2) (evN gLst (evCons (evC (.str "KWD")) (evCons (evC (.str "CHF")) (evCons (evC (.str "GBP")) (evCons (evC (.str "SEK")) (evCons (evC (.str "EUS")) evNil))))))))
abbrev st_law_currencies_4 : Sv :=
    (sSet 3 (evIf (evT (evBin (gEq false) (evBin gMod (evBin gFloor (evBin gIx (evVar 0) (evC (.int 0))) (evC (.int 3))) (evC (.int 8))) (evC (.int 3)))) (evC (.int 8)) (evC (.int 4))))
abbrev st_law_currencies_5 : Sv :=
    (sIf (evT (evBin (gEq false) (evBin gMod (evBin gIx (evVar 0) (evC (.int 1))) (evC (.int 2))) (evC (.int 1)))) (sLPut (evVar 2) (evC (.int 1)) (evN (gCall 3 sem_law_twin) (evCons (evBin gIx (evVar 2) (evC (.int 0))) (evCons (evBin gFloor (evBin gIx (evVar 0) (evC (.int 1))) (evC (.int 2))) (evCons (evC (.str "ABCDEFGHIJKLMNOPQRSTUVWXYZ")) evNil))))) sNil)
abbrev st_law_currencies_6 : Sv :=
    (sFor 4 (evItems (evVar 2)) lb_law_currencies_1)
abbrev st_law_currencies_7 : Sv :=
    (sRet (evVar 1))
/-- _law_currencies(_law_cells): 0 _law_cells 1 _law_found 2 _law_some 3 _law_limit 4 _law_currency_here -/
def sem_law_currencies : Sem' := fnS 1 5
    (sSeq st_law_currencies_1
    (sSeq st_law_currencies_2
    (sSeq st_law_currencies_3
    (sSeq st_law_currencies_4
    (sSeq st_law_currencies_5
    (sSeq st_law_currencies_6
    st_law_currencies_7))))))
abbrev lb_law_plain_1 : Sv :=
    (sDPutS (evVar 1) (evVar 2) (evN gLstS evNil))
/-- _law_plain(_law_script): 0 _law_script 1 _law_plain_here 2 _law_part -/
def sem_law_plain : Sem' := fnS 1 3
    (sSeq (sSet 1 (evDisp1 "names" (evN (gCall 1 sem_law_names) (evCons (evN gLst (evCons (evN (gCall 2 sem_law_cell) (evCons (evVar 0) (evCons (evC (.int 0)) evNil))) (evCons (evN (gCall 2 sem_law_cell) (evCons (evVar 0) (evCons (evC (.int 1)) evNil))) evNil))) evNil))))
    (sSeq (sDPutS (evVar 1) (evC (.str "first")) (evN gLen (evCons (evBin gIx (evVar 1) (evC (.str "names"))) evNil)))
    (sSeq (sDPutS (evVar 1) (evC (.str "currencies")) (evN (gCall 1 sem_law_currencies) (evCons (evN gLst (evCons (evN (gCall 2 sem_law_cell) (evCons (evVar 0) (evCons (evC (.int 2)) evNil))) (evCons (evN (gCall 2 sem_law_cell) (evCons (evVar 0) (evCons (evC (.int 3)) evNil))) evNil))) evNil)))
    (sSeq (sFor 2 (evItems (evN gLst (evCons (evC (.str "entries")) (evCons (evC (.str "told")) (evCons (evC (.str "ends")) (evCons (evC (.str "backs")) (evCons (evC (.str "deeds")) evNil))))))) lb_law_plain_1)
    (sSeq (sDPutS (evVar 1) (evC (.str "most")) (evC (.int 6)))
    (sRet (evVar 1)))))))
/-- is_currency(text): 0 text 1 sign -/
def sem_is_currency : Sem' := fnS 1 2
    (sRet (evAndV (evBin (gEq false) (evN gLen (evCons (evVar 0) evNil)) (evC (.int 3))) (evN gAll (evCons (evLc gFrz (evItems (evVar 0)) 1 [1] evYes (evBin (gIn false) (evVar 1) (evC (.str "ABCDEFGHIJKLMNOPQRSTUVWXYZ")))) evNil))))
/-- Rates.__init__(self, home): 0 self 1 home -/
def sem_Rates___init__ : Sem' := fnS 2 2
    (sSeq (sFld 1 0 (evVar 0) (evVar 1))
    (sFld 1 1 (evVar 0) (evN gLstS evNil)))
/-- Book.__init__(self, home): 0 self 1 home -/
def sem_Book___init__ : Sem' := fnS 2 2
    (sSeq (sIf (evNot (evT (evN (gCall 1 sem_is_currency) (evCons (evVar 1) evNil)))) (sRaise 2) sNil)
    (sSeq (sFld 0 0 (evVar 0) (evVar 1))
    (sSeq (sFld 0 1 (evVar 0) (evN (gMake 1 2 sem_Rates___init__) (evCons (evVar 1) evNil)))
    (sSeq (sFld 0 2 (evVar 0) (evN gLstS (evCons (evC (.str "exchange")) evNil)))
    (sSeq (sFld 0 3 (evVar 0) (evN gLstS evNil))
    (sSeq (sFld 0 4 (evVar 0) (evN gLstS evNil))
    (sSeq (sFld 0 5 (evVar 0) evDictK)
    (sFld 0 6 (evVar 0) (evN gLstS (evCons (evN gTup (evCons (evC (.str "home")) (evCons (evVar 1) evNil))) evNil))))))))))
/-- is_name(text): 0 text 1 sign -/
def sem_is_name : Sem' := fnS 1 2
    (sSeq (sIf (evOr (evNot (evT (evChain gLe gLe (evC (.int 1)) (evN gLen (evCons (evVar 0) evNil)) (evC (.int 12))))) (evT (evBin (gIn true) (evBin gIx (evVar 0) (evC (.int 0))) (evC (.str "abcdefghijklmnopqrstuvwxyz"))))) (sRet (evC (.bl false))) sNil)
    (sRet (evN gAll (evCons (evLc gFrz (evItems (evVar 0)) 1 [1] evYes (evOrV (evBin (gIn false) (evVar 1) (evC (.str "abcdefghijklmnopqrstuvwxyz"))) (evBin (gIn false) (evVar 1) (evC (.str "0123456789"))))) evNil))))
/-- Book.admit(self, account): 0 self 1 account -/
def sem_Book_admit : Sem' := fnS 2 2
    (sSeq (sIf (evNot (evT (evN (gCall 1 sem_is_name) (evCons (evVar 1) evNil)))) (sRaise 1) sNil)
    (sSeq (sIf (evT (evBin (gIn false) (evVar 1) (evUn (gFld 0 2) (evVar 0)))) (sRaise 9) sNil)
    (sSeq (sExpr (evLm gAppend (evUn (gFld 0 2) (evVar 0)) (evVar 1)))
    (sExpr (evLm gAppend (evUn (gFld 0 6) (evVar 0)) (evN gTup (evCons (evC (.str "account")) (evCons (evVar 1) evNil))))))))
abbrev lb_law_book_1 : Sv :=
    (sExpr (evMeth 0 2 sem_Book_admit (evVar 1) (evCons (evVar 2) evNil)))
/-- _law_book(_law_plain_here): 0 _law_plain_here 1 _law_book_here 2 _law_name_here -/
def sem_law_book : Sem' := fnS 1 3
    (sSeq (sSet 1 (evN (gMake 0 2 sem_Book___init__) (evCons (evBin gIx (evBin gIx (evVar 0) (evC (.str "currencies"))) (evC (.int 0))) evNil)))
    (sSeq (sFor 2 (evItems (evSl (evBin gIx (evVar 0) (evC (.str "names"))) (evPart (evC (.int 1))) evNoPart)) lb_law_book_1)
    (sRet (evVar 1))))
/-- _law_closed(_law_plain_here): 0 _law_plain_here -/
def sem_law_closed : Sem' := fnS 1 1
    (sRet (evBin gIx (evBin gAddL (evN gLst (evCons (evUn gNeg (evC (.int 1))) evNil)) (evBin gIx (evVar 0) (evC (.str "ends")))) (evUn gNeg (evC (.int 1)))))
/-- _law_put(_law_plain_here, _law_day_here, _law_note_here, _law_lines_here, _law_back): 0 _law_plain_here 1 _law_day_here 2 _law_note_here 3 _law_lines_here 4 _law_back 5 _law_number -/
def sem_law_put : Sem' := fnS 5 6
    (sSeq (sSet 5 (evBin gAdd (evN gLen (evCons (evBin gIx (evVar 0) (evC (.str "entries"))) evNil)) (evC (.int 1))))
    (sSeq (sExpr (evLm gAppend (evBin gIx (evVar 0) (evC (.str "entries"))) (evN gTup (evCons (evVar 5) (evCons (evVar 1) (evCons (evVar 2) (evCons (evN gTuple (evCons (evVar 3) evNil)) (evCons (evVar 4) evNil))))))))
    (sRet (evVar 5))))
/-- is_day(day): 0 day -/
def sem_is_day : Sem' := fnS 1 1
    (sRet (evChain gLe gLe (evC (.int 0)) (evVar 0) (evC (.int (99999)))))
/-- Book.need_day(self, day): 0 self 1 day -/
def sem_Book_need_day : Sem' := fnS 2 2
    (sIf (evNot (evT (evN (gCall 1 sem_is_day) (evCons (evVar 1) evNil)))) (sRaise 4) sNil)
/-- Book.closed(self): 0 self -/
def sem_Book_closed : Sem' := fnS 1 1
    (sSeq (sIf (evT (evBin (gEq false) (evUn (gFld 0 4) (evVar 0)) (evN gLst evNil))) (sRet (evUn gNeg (evC (.int 1)))) sNil)
    (sRet (evBin gIx (evUn (gFld 0 4) (evVar 0)) (evUn gNeg (evC (.int 1))))))
/-- Book.need_open(self, day): 0 self 1 day -/
def sem_Book_need_open : Sem' := fnS 2 2
    (sSeq (sExpr (evMeth 0 2 sem_Book_need_day (evVar 0) (evCons (evVar 1) evNil)))
    (sIf (evT (evBin gLe (evVar 1) (evMeth 0 1 sem_Book_closed (evVar 0) evNil))) (sRaise 8) sNil))
/-- is_note(text): 0 text 1 sign -/
def sem_is_note : Sem' := fnS 1 2
    (sRet (evAndV (evBin gLe (evN gLen (evCons (evVar 0) evNil)) (evC (.int 40))) (evN gAll (evCons (evLc gFrz (evItems (evVar 0)) 1 [1] evYes (evChain gLe gLe (evC (.str " ")) (evVar 1) (evC (.str "~")))) evNil))))
/-- Book.need_account(self, account): 0 self 1 account -/
def sem_Book_need_account : Sem' := fnS 2 2
    (sIf (evT (evBin (gIn true) (evVar 1) (evUn (gFld 0 2) (evVar 0)))) (sRaise 11) sNil)
/-- Book.need_currency(self, currency): 0 self 1 currency -/
def sem_Book_need_currency : Sem' := fnS 2 2
    (sIf (evNot (evT (evN (gCall 1 sem_is_currency) (evCons (evVar 1) evNil)))) (sRaise 2) sNil)
/-- is_amount(amount): 0 amount -/
def sem_is_amount : Sem' := fnS 1 1
    (sRet (evAndV (evBin (gEq true) (evVar 0) (evC (.int 0))) (evBin gLt (evN gAbs (evCons (evVar 0) evNil)) (evC (.int (1000000000000000000000000000000))))))
abbrev lb_balanced_1 : Sv :=
    (sDPutS (evVar 1) (evBin gIx (evVar 2) (evC (.int 1))) (evBin gAdd (evGet2 (evVar 1) (evBin gIx (evVar 2) (evC (.int 1))) (evC (.int 0))) (evBin gIx (evVar 2) (evC (.int 2)))))
/-- balanced(lines): 0 lines 1 sums 2 line 3 value -/
def sem_balanced : Sem' := fnP 1 4
    (sSeq (sSet 1 evDictK)
    (sSeq (sFor 2 (evItems (evVar 0)) lb_balanced_1)
    (sRet (evN gAll (evCons (evLcV gFrz 1 3 [3] evYes (evBin (gEq false) (evVar 3) (evC (.int 0)))) evNil)))))
/-- Book.noted(self, day, note, lines, back): 0 self 1 day 2 note 3 lines 4 back 5 number -/
def sem_Book_noted : Sem' := fnS 5 6
    (sSeq (sSet 5 (evBin gAdd (evN gLen (evCons (evUn (gFld 0 3) (evVar 0)) evNil)) (evC (.int 1))))
    (sSeq (sExpr (evLm gAppend (evUn (gFld 0 3) (evVar 0)) (evN gTup (evCons (evVar 5) (evCons (evVar 1) (evCons (evVar 2) (evCons (evVar 3) (evCons (evVar 4) evNil))))))))
    (sRet (evVar 5))))
abbrev lb_Book_post_1 : Sv :=
    (sSeq (sExpr (evMeth 0 2 sem_Book_need_account (evVar 0) (evCons (evBin gIx (evVar 5) (evC (.int 0))) evNil)))
    (sSeq (sExpr (evMeth 0 2 sem_Book_need_currency (evVar 0) (evCons (evBin gIx (evVar 5) (evC (.int 1))) evNil)))
    (sIf (evNot (evT (evN (gCall 1 sem_is_amount) (evCons (evBin gIx (evVar 5) (evC (.int 2))) evNil)))) (sRaise 3) sNil)))
/-- Book.post(self, day, note, lines): 0 self 1 day 2 note 3 lines 4 rows 5 line -/
def sem_Book_post : Sem' := fnS 4 6
    (sSeq (sExpr (evMeth 0 2 sem_Book_need_open (evVar 0) (evCons (evVar 1) evNil)))
    (sSeq (sIf (evNot (evT (evN (gCall 1 sem_is_note) (evCons (evVar 2) evNil)))) (sRaise 5) sNil)
    (sSeq (sSet 4 (evN gTuple (evCons (evLc gFrz (evItems (evVar 3)) 5 [5] evYes (evN gTup (evCons (evBin gIx (evVar 5) (evC (.int 0))) (evCons (evBin gIx (evVar 5) (evC (.int 1))) (evCons (evBin gIx (evVar 5) (evC (.int 2))) evNil))))) evNil)))
    (sSeq (sIf (evNot (evT (evChain gLe gLe (evC (.int 2)) (evN gLen (evCons (evVar 4) evNil)) (evC (.int 60))))) (sRaise 7) sNil)
    (sSeq (sFor 5 (evItems (evVar 4)) lb_Book_post_1)
    (sSeq (sIf (evNot (evT (evN (gCall 1 sem_balanced) (evCons (evVar 4) evNil)))) (sRaise 7) sNil)
    (sSeq (sExpr (evLm gAppend (evUn (gFld 0 6) (evVar 0)) (evN gTup (evCons (evC (.str "entry")) (evCons (evVar 1) (evCons (evVar 2) (evCons (evVar 4) evNil)))))))
    (sRet (evMeth 0 5 sem_Book_noted (evVar 0) (evCons (evVar 1) (evCons (evVar 2) (evCons (evVar 4) (evCons (evC (.int 0)) evNil)))))))))))))
abbrev lb_law_bulk_1 : Sv :=
    (sSeq (sSet 8 (evN (gCall 5 sem_law_put) (evCons (evVar 1) (evCons (evN gMin2 (evCons (evC (.int 99999)) (evCons (evBin gAdd (evVar 4) (evVar 7)) evNil))) (evCons (evC (.str "again")) (evCons (evVar 6) (evCons (evC (.int 0)) evNil)))))))
    (sSeq (sExpr (evLm gAppend (evBin gIx (evVar 1) (evC (.str "deeds"))) (evN gTup (evCons (evC (.str "entry")) (evCons (evN gMin2 (evCons (evC (.int 99999)) (evCons (evBin gAdd (evVar 4) (evVar 7)) evNil))) (evCons (evC (.str "again")) (evCons (evN gTuple (evCons (evVar 6) evNil)) evNil)))))))
    (sIf (evT (evBin (gEq true) (evMeth 0 4 sem_Book_post (evVar 0) (evCons (evN gMin2 (evCons (evC (.int 99999)) (evCons (evBin gAdd (evVar 4) (evVar 7)) evNil))) (evCons (evC (.str "again")) (evCons (evVar 6) evNil)))) (evVar 8))) (sRet (evC (.bl false))) sNil)))
/-- _law_bulk(_law_book_here, _law_plain_here, _law_cell_here, _law_most): 0 _law_book_here 1 _law_plain_here 2 _law_cell_here 3 _law_most 4 _law_day_here 5 _law_currency_here 6 _law_lines_here 7 _law_k 8 _law_due -/
def sem_law_bulk : Sem' := fnS 4 9
    (sSeq (sSet 4 (evBin gAdd (evN (gCall 1 sem_law_closed) (evCons (evVar 1) evNil)) (evC (.int 1))))
    (sSeq (sSet 5 (evBin gIx (evBin gIx (evVar 1) (evC (.str "currencies"))) (evUn gNeg (evC (.int 1)))))
    (sSeq (sSet 6 (evN gLst (evCons (evN gTup (evCons (evBin gIx (evBin gIx (evVar 1) (evC (.str "names"))) (evUn gNeg (evC (.int 1)))) (evCons (evVar 5) (evCons (evC (.int 7)) evNil)))) (evCons (evN gTup (evCons (evBin gIx (evBin gIx (evVar 1) (evC (.str "names"))) (evUn gNeg (evC (.int 2)))) (evCons (evVar 5) (evCons (evUn gNeg (evC (.int 7))) evNil)))) evNil))))
    (sSeq (sIf (evT (evBin (gEq false) (evBin gMod (evVar 2) (evC (.int 8))) (evC (.int 5)))) (sSeq (sFor 7 (evRange gRange1 (evCons (evBin gMod (evBin gFloor (evVar 2) (evC (.int 8))) (evVar 3)) evNil)) lb_law_bulk_1)
    (sDPutS (evVar 1) (evC (.str "most")) (evBin gAdd (evBin gIx (evVar 1) (evC (.str "most"))) (evBin gMod (evBin gFloor (evVar 2) (evC (.int 8))) (evVar 3))))) sNil)
    (sRet (evC (.bl true)))))))
/-- _law_day(_law_plain_here, _law_cell_here): 0 _law_plain_here 1 _law_cell_here 2 _law_closed_here -/
def sem_law_day : Sem' := fnS 2 3
    (sSeq (sSet 2 (evN (gCall 1 sem_law_closed) (evCons (evVar 0) evNil)))
    (sSeq (sIf (evT (evBin (gEq false) (evBin gMod (evVar 1) (evC (.int 3))) (evC (.int 0)))) (sRet (evBin gAdd (evBin gAdd (evVar 2) (evC (.int 1))) (evBin gMod (evBin gFloor (evVar 1) (evC (.int 3))) (evBin gSub (evC (.int 99999)) (evVar 2))))) sNil)
    (sRet (evN gMin2 (evCons (evC (.int 99999)) (evCons (evBin gAdd (evBin gAdd (evVar 2) (evC (.int 1))) (evBin gMod (evBin gFloor (evVar 1) (evC (.int 3))) (evC (.int 7)))) evNil))))))
abbrev lb_law_note_1 : Sv :=
    (sSet 2 (evBin gAdd (evVar 2) (evBin gIx (evVar 1) (evBin gMod (evBin gAdd (evBin gFloor (evVar 0) (evC (.int 41))) (evBin gMul (evBin gFloor (evVar 0) (evC (.int 3854))) (evVar 3))) (evC (.int 94))))))
/-- _law_note(_law_cell_here): 0 _law_cell_here 1 _law_some 2 _law_found 3 _law_k -/
def sem_law_note : Sem' := fnS 1 4
    (sSeq (sSet 1 (evC (.str " !\"#$&'()*+,-./0123456789:;<=>?@")))
    (sSeq (sSet 1 (evBin gAdd (evVar 1) (evC (.str "ABCDEFGHIJKLMNOPQRSTUVWXYZ[\\]^_`"))))
    (sSeq (sSet 1 (evBin gAdd (evVar 1) (evC (.str "abcdefghijklmnopqrstuvwxyz{|}~"))))
    (sSeq (sSet 2 (evC (.str "")))
    (sSeq (sFor 3 (evRange gRange1 (evCons (evBin gMod (evVar 0) (evC (.int 41))) evNil)) lb_law_note_1)
    (sRet (evVar 2)))))))
/-- _law_amount(_law_cell_here): 0 _law_cell_here -/
def sem_law_amount : Sem' := fnS 1 1
    (sRet (evBin gAdd (evC (.int 1)) (evBin gMod (evBin gFloor (evVar 0) (evC (.int 4))) (evIf (evT (evBin (gEq false) (evBin gMod (evVar 0) (evC (.int 4))) (evC (.int 0)))) (evBin gMul (evC (.int 4)) (evBin gPow (evC (.int 10)) (evC (.int 29)))) (evC (.int 500))))))
abbrev lb_law_lines_1 : Sv :=
    (sSeq (sSet 7 (evBin gAdd (evBin gFloor (evVar 2) (evC (.int 3))) (evBin gMul (evC (.int 5)) (evVar 6))))
    (sSeq (sSet 8 (evBin gIx (evBin gIx (evVar 0) (evC (.str "currencies"))) (evBin gMod (evVar 7) (evN gLen (evCons (evBin gIx (evVar 0) (evC (.str "currencies"))) evNil)))))
    (sSeq (sSet 9 (evN (gCall 1 sem_law_amount) (evCons (evBin gAdd (evVar 1) (evBin gMul (evC (.int 77)) (evVar 6))) evNil)))
    (sSeq (sSet 10 (evBin gMul (evN (gCall 1 sem_law_amount) (evCons (evBin gAdd (evBin gFloor (evVar 1) (evC (.int 3))) (evVar 6)) evNil)) (evBin gSub (evBin gMod (evBin gFloor (evVar 7) (evC (.int 3))) (evC (.int 3))) (evC (.int 1)))))
    (sSeq (sExpr (evLm gAppend (evVar 4) (evN gTup (evCons (evBin gIx (evVar 3) (evBin gMod (evBin gFloor (evVar 7) (evC (.int 9))) (evN gLen (evCons (evVar 3) evNil)))) (evCons (evVar 8) (evCons (evVar 9) evNil))))))
    (sSeq (sExpr (evLm gAppend (evVar 4) (evN gTup (evCons (evBin gIx (evVar 3) (evBin gMod (evBin gFloor (evVar 7) (evC (.int 5))) (evN gLen (evCons (evVar 3) evNil)))) (evCons (evVar 8) (evCons (evBin gSub (evBin gSub (evC (.int 0)) (evVar 9)) (evVar 10)) evNil))))))
    (sExpr (evLm gAppend (evVar 4) (evN gTup (evCons (evBin gIx (evVar 3) (evBin gMod (evBin gFloor (evVar 7) (evC (.int 7))) (evN gLen (evCons (evVar 3) evNil)))) (evCons (evVar 8) (evCons (evVar 10) evNil))))))))))))
/-- _law_lines(_law_plain_here, _law_big, _law_pick): 0 _law_plain_here 1 _law_big 2 _law_pick 3 _law_names_here 4 _law_found 5 _law_many 6 _law_k 7 _law_left 8 _law_currency_here 9 _law_one 10 _law_two 11 _law_line -/
def sem_law_lines : Sem' := fnP 3 12
    (sSeq (sSet 3 (evBin gIx (evVar 0) (evC (.str "names"))))
    (sSeq (sSet 4 (evN gLstS evNil))
    (sSeq (sSet 5 (evIf (evT (evBin (gEq false) (evBin gMod (evVar 2) (evC (.int 16))) (evC (.int 7)))) (evBin gAdd (evC (.int 1)) (evBin gMod (evBin gFloor (evVar 2) (evC (.int 16))) (evC (.int 20)))) (evBin gAdd (evC (.int 1)) (evBin gMod (evVar 2) (evC (.int 3))))))
    (sSeq (sFor 6 (evRange gRange1 (evCons (evVar 5) evNil)) lb_law_lines_1)
    (sRet (evLc gFrz (evItems (evVar 4)) 11 [11] (evT (evBin (gEq true) (evBin gIx (evVar 11) (evC (.int 2))) (evC (.int 0)))) (evVar 11)))))))
/-- _law_post(_law_book_here, _law_plain_here, _law_big, _law_pick): 0 _law_book_here 1 _law_plain_here 2 _law_big 3 _law_pick 4 _law_day_here 5 _law_note_here 6 _law_lines_here 7 _law_due -/
def sem_law_post : Sem' := fnS 4 8
    (sSeq (sSet 4 (evN (gCall 2 sem_law_day) (evCons (evVar 1) (evCons (evVar 2) evNil))))
    (sSeq (sSet 5 (evN (gCall 1 sem_law_note) (evCons (evVar 3) evNil)))
    (sSeq (sSet 6 (evN (gCall 3 sem_law_lines) (evCons (evVar 1) (evCons (evBin gFloor (evVar 2) (evC (.int 5))) (evCons (evVar 3) evNil)))))
    (sSeq (sSet 7 (evN (gCall 5 sem_law_put) (evCons (evVar 1) (evCons (evVar 4) (evCons (evVar 5) (evCons (evVar 6) (evCons (evC (.int 0)) evNil)))))))
    (sSeq (sExpr (evLm gAppend (evBin gIx (evVar 1) (evC (.str "deeds"))) (evN gTup (evCons (evC (.str "entry")) (evCons (evVar 4) (evCons (evVar 5) (evCons (evN gTuple (evCons (evVar 6) evNil)) evNil)))))))
    (sRet (evBin (gEq false) (evMeth 0 4 sem_Book_post (evVar 0) (evCons (evVar 4) (evCons (evVar 5) (evCons (evVar 6) evNil)))) (evVar 7))))))))
/-- _law_admit(_law_book_here, _law_plain_here, _law_big): 0 _law_book_here 1 _law_plain_here 2 _law_big 3 _law_name_here -/
def sem_law_admit : Sem' := fnS 3 4
    (sSeq (sSet 3 (evN (gCall 1 sem_law_name) (evCons (evVar 2) evNil)))
    (sSeq (sIf (evOr (evT (evBin (gIn false) (evVar 3) (evBin gIx (evVar 1) (evC (.str "names"))))) (evT (evBin gGt (evN gLen (evCons (evBin gIx (evVar 1) (evC (.str "names"))) evNil)) (evC (.int 6))))) (sRet (evC (.bl true))) sNil)
    (sSeq (sExpr (evLm gAppend (evBin gIx (evVar 1) (evC (.str "names"))) (evVar 3)))
    (sSeq (sExpr (evLm gAppend (evBin gIx (evVar 1) (evC (.str "deeds"))) (evN gTup (evCons (evC (.str "account")) (evCons (evVar 3) evNil)))))
    (sRet (evBin (gIs false) (evMeth 0 2 sem_Book_admit (evVar 0) (evCons (evVar 3) evNil)) (evC .non)))))))
/-- is_rate(top, bottom): 0 top 1 bottom -/
def sem_is_rate : Sem' := fnS 2 2
    (sRet (evAndV (evChain gLe gLe (evC (.int 1)) (evVar 0) (evC (.int (1000000000)))) (evChain gLe gLe (evC (.int 1)) (evVar 1) (evC (.int (1000000000))))))
/-- Rates.told(self, currency, day, pair): 0 self 1 currency 2 day 3 pair -/
def sem_Rates_told : Sem' := fnS 4 4
    (sExpr (evLm gAppend (evUn (gFld 1 1) (evVar 0)) (evN gTup (evCons (evVar 1) (evCons (evVar 2) (evCons (evVar 3) evNil))))))
/-- Book.tell_rate(self, currency, day, top, bottom): 0 self 1 currency 2 day 3 top 4 bottom -/
def sem_Book_tell_rate : Sem' := fnS 5 5
    (sSeq (sExpr (evMeth 0 2 sem_Book_need_currency (evVar 0) (evCons (evVar 1) evNil)))
    (sSeq (sExpr (evMeth 0 2 sem_Book_need_open (evVar 0) (evCons (evVar 2) evNil)))
    (sSeq (sIf (evOr (evT (evBin (gEq false) (evVar 1) (evUn (gFld 0 0) (evVar 0)))) (evNot (evT (evN (gCall 2 sem_is_rate) (evCons (evVar 3) (evCons (evVar 4) evNil)))))) (sRaise 6) sNil)
    (sSeq (sExpr (evMeth 1 4 sem_Rates_told (evUn (gFld 0 1) (evVar 0)) (evCons (evVar 1) (evCons (evVar 2) (evCons (evN gTup (evCons (evVar 3) (evCons (evVar 4) evNil))) evNil)))))
    (sExpr (evLm gAppend (evUn (gFld 0 6) (evVar 0)) (evN gTup (evCons (evC (.str "rate")) (evCons (evVar 1) (evCons (evVar 2) (evCons (evVar 3) (evCons (evVar 4) evNil))))))))))))
/-- _law_tell(_law_book_here, _law_plain_here, _law_big, _law_pick): 0 _law_book_here 1 _law_plain_here 2 _law_big 3 _law_pick 4 _law_day_here 5 _law_currency_here 6 _law_row -/
def sem_law_tell : Sem' := fnS 4 7
    (sSeq (sSet 4 (evN (gCall 2 sem_law_day) (evCons (evVar 1) (evCons (evVar 2) evNil))))
    (sSeq (sSet 5 (evBin gIx (evBin gIx (evVar 1) (evC (.str "currencies"))) (evBin gAdd (evC (.int 1)) (evBin gMod (evVar 3) (evBin gSub (evN gLen (evCons (evBin gIx (evVar 1) (evC (.str "currencies"))) evNil)) (evC (.int 1)))))))
    (sSeq (sSet 6 (evN gTup (evCons (evVar 5) (evCons (evVar 4) (evCons (evBin gAdd (evC (.int 1)) (evBin gMod (evBin gFloor (evVar 3) (evC (.int 2))) (evBin gPow (evC (.int 10)) (evC (.int 9))))) (evCons (evBin gAdd (evC (.int 1)) (evBin gMod (evBin gFloor (evVar 2) (evC (.int 7))) (evBin gPow (evC (.int 10)) (evC (.int 9))))) evNil))))))
    (sSeq (sIf (evT (evBin gGt (evBin gMod (evBin gFloor (evVar 3) (evC (.int 3))) (evC (.int 3))) (evC (.int 0)))) (sSet 6 (evN gTup (evCons (evBin gIx (evVar 6) (evC (.int 0))) (evCons (evVar 4) (evCons (evBin gAdd (evC (.int 1)) (evBin gMod (evBin gFloor (evVar 3) (evC (.int 2))) (evC (.int 40)))) (evCons (evBin gAdd (evC (.int 1)) (evBin gMod (evBin gFloor (evVar 2) (evC (.int 7))) (evC (.int 40)))) evNil)))))) sNil)
    (sSeq (sExpr (evLm gAppend (evBin gIx (evVar 1) (evC (.str "told"))) (evVar 6)))
    (sSeq (sExpr (evLm gAppend (evBin gIx (evVar 1) (evC (.str "deeds"))) (evN gTup (evCons (evC (.str "rate")) (evCons (evBin gIx (evVar 6) (evC (.int 0))) (evCons (evVar 4) (evCons (evBin gIx (evVar 6) (evC (.int 2))) (evCons (evBin gIx (evVar 6) (evC (.int 3))) evNil))))))))
    (sRet (evBin (gIs false) (evMeth 0 5 sem_Book_tell_rate (evVar 0) (evCons (evBin gIx (evVar 6) (evC (.int 0))) (evCons (evVar 4) (evCons (evBin gIx (evVar 6) (evC (.int 2))) (evCons (evBin gIx (evVar 6) (evC (.int 3))) evNil))))) (evC .non)))))))))
abbrev lb_law_rate_1 : Sv :=
    (sIf (evAnd (evT (evBin (gEq false) (evBin gIx (evVar 4) (evC (.int 0))) (evVar 1))) (evAnd (evT (evBin gLe (evBin gIx (evVar 4) (evC (.int 1))) (evVar 2))) (evOr (evT (evBin (gIs false) (evVar 3) (evC .non))) (evT (evBin gGe (evBin gIx (evVar 4) (evC (.int 1))) (evBin gIx (evVar 3) (evC (.int 1)))))))) (sSet 3 (evVar 4)) sNil)
/-- _law_rate(_law_plain_here, _law_currency_here, _law_day_here): 0 _law_plain_here 1 _law_currency_here 2 _law_day_here 3 _law_found 4 _law_row -/
def sem_law_rate : Sem' := fnS 3 5
    (sSeq (sIf (evT (evBin (gEq false) (evVar 1) (evBin gIx (evBin gIx (evVar 0) (evC (.str "currencies"))) (evC (.int 0))))) (sRet (evN gTup (evCons (evC (.int 1)) (evCons (evC (.int 1)) evNil)))) sNil)
    (sSeq (sSet 3 (evC .non))
    (sSeq (sFor 4 (evItems (evBin gIx (evVar 0) (evC (.str "told")))) lb_law_rate_1)
    (sSeq (sIf (evT (evBin (gIs false) (evVar 3) (evC .non))) (sRet (evC .non)) sNil)
    (sRet (evN gTup (evCons (evBin gIx (evVar 3) (evC (.int 2))) (evCons (evBin gIx (evVar 3) (evC (.int 3))) evNil))))))))
/-- changed(amount, one, other): 0 amount 1 one 2 other -/
def sem_changed : Sem' := fnS 3 3
    (sRet (evBin gFloor (evBin gMul (evBin gMul (evVar 0) (evBin gIx (evVar 1) (evC (.int 0)))) (evBin gIx (evVar 2) (evC (.int 1)))) (evBin gMul (evBin gIx (evVar 1) (evC (.int 1))) (evBin gIx (evVar 2) (evC (.int 0))))))
abbrev lb_Rates_of_day_1 : Sv :=
    (sIf (evAnd (evT (evBin (gEq false) (evBin gIx (evVar 4) (evC (.int 0))) (evVar 1))) (evAnd (evT (evBin gLe (evBin gIx (evVar 4) (evC (.int 1))) (evVar 2))) (evOr (evT (evBin (gIs false) (evVar 3) (evC .non))) (evT (evBin gLe (evBin gIx (evVar 3) (evC (.int 1))) (evBin gIx (evVar 4) (evC (.int 1)))))))) (sSet 3 (evVar 4)) sNil)
/-- Rates.of_day(self, currency, day): 0 self 1 currency 2 day 3 found 4 row -/
def sem_Rates_of_day : Sem' := fnS 3 5
    (sSeq (sIf (evT (evBin (gEq false) (evVar 1) (evUn (gFld 1 0) (evVar 0)))) (sRet (evN gTup (evCons (evC (.int 1)) (evCons (evC (.int 1)) evNil)))) sNil)
    (sSeq (sSet 3 (evC .non))
    (sSeq (sFor 4 (evItems (evUn (gFld 1 1) (evVar 0))) lb_Rates_of_day_1)
    (sSeq (sIf (evT (evBin (gIs false) (evVar 3) (evC .non))) (sRet (evC .non)) sNil)
    (sRet (evBin gIx (evVar 3) (evC (.int 2))))))))
/-- Book.rate(self, currency, day): 0 self 1 currency 2 day 3 found -/
def sem_Book_rate : Sem' := fnS 3 4
    (sSeq (sExpr (evMeth 0 2 sem_Book_need_currency (evVar 0) (evCons (evVar 1) evNil)))
    (sSeq (sExpr (evMeth 0 2 sem_Book_need_day (evVar 0) (evCons (evVar 2) evNil)))
    (sSeq (sSet 3 (evMeth 1 3 sem_Rates_of_day (evUn (gFld 0 1) (evVar 0)) (evCons (evVar 1) (evCons (evVar 2) evNil))))
    (sSeq (sIf (evT (evBin (gIs false) (evVar 3) (evC .non))) (sRaise 13) sNil)
    (sRet (evVar 3))))))
/-- Book.got(self, day, one, amount, other): 0 self 1 day 2 one 3 amount 4 other 5 found -/
def sem_Book_got : Sem' := fnS 5 6
    (sSeq (sIf (evOr (evNot (evT (evN (gCall 1 sem_is_amount) (evCons (evVar 3) evNil)))) (evT (evBin gLt (evVar 3) (evC (.int 0))))) (sRaise 3) sNil)
    (sSeq (sSet 5 (evN (gCall 3 sem_changed) (evCons (evVar 3) (evCons (evMeth 0 3 sem_Book_rate (evVar 0) (evCons (evVar 2) (evCons (evVar 1) evNil))) (evCons (evMeth 0 3 sem_Book_rate (evVar 0) (evCons (evVar 4) (evCons (evVar 1) evNil))) evNil)))))
    (sSeq (sIf (evT (evBin (gEq false) (evVar 5) (evC (.int 0)))) (sRaise 15) sNil)
    (sSeq (sIf (evNot (evT (evN (gCall 1 sem_is_amount) (evCons (evVar 5) evNil)))) (sRaise 3) sNil)
    (sRet (evVar 5))))))
/-- Book.convert(self, day, note, giver, one, amount, taker, other): 0 self 1 day 2 note 3 giver 4 one 5 amount 6 taker 7 other 8 found 9 gone 10 come -/
def sem_Book_convert : Sem' := fnS 8 11
    (sSeq (sExpr (evMeth 0 2 sem_Book_need_open (evVar 0) (evCons (evVar 1) evNil)))
    (sSeq (sIf (evNot (evT (evN (gCall 1 sem_is_note) (evCons (evVar 2) evNil)))) (sRaise 5) sNil)
    (sSeq (sExpr (evMeth 0 2 sem_Book_need_account (evVar 0) (evCons (evVar 3) evNil)))
    (sSeq (sExpr (evMeth 0 2 sem_Book_need_account (evVar 0) (evCons (evVar 6) evNil)))
    (sSeq (sExpr (evMeth 0 2 sem_Book_need_currency (evVar 0) (evCons (evVar 4) evNil)))
    (sSeq (sExpr (evMeth 0 2 sem_Book_need_currency (evVar 0) (evCons (evVar 7) evNil)))
    (sSeq (sIf (evT (evBin (gEq false) (evVar 4) (evVar 7))) (sRaise 2) sNil)
    (sSeq (sSet 8 (evMeth 0 5 sem_Book_got (evVar 0) (evCons (evVar 1) (evCons (evVar 4) (evCons (evVar 5) (evCons (evVar 7) evNil))))))
    (sSeq (sSet 9 (evN gLst (evCons (evN gTup (evCons (evVar 3) (evCons (evVar 4) (evCons (evBin gSub (evC (.int 0)) (evVar 5)) evNil)))) (evCons (evN gTup (evCons (evC (.str "exchange")) (evCons (evVar 4) (evCons (evVar 5) evNil)))) evNil))))
    (sSeq (sSet 10 (evN gLst (evCons (evN gTup (evCons (evC (.str "exchange")) (evCons (evVar 7) (evCons (evBin gSub (evC (.int 0)) (evVar 8)) evNil)))) (evCons (evN gTup (evCons (evVar 6) (evCons (evVar 7) (evCons (evVar 8) evNil)))) evNil))))
    (sSeq (sExpr (evLm gAppend (evUn (gFld 0 6) (evVar 0)) (evN gTup (evCons (evC (.str "change")) (evCons (evVar 1) (evCons (evVar 3) (evCons (evVar 4) (evCons (evVar 5) (evCons (evVar 6) (evCons (evVar 7) (evCons (evVar 2) evNil)))))))))))
    (sRet (evMeth 0 5 sem_Book_noted (evVar 0) (evCons (evVar 1) (evCons (evVar 2) (evCons (evN gTuple (evCons (evBin gAdd (evVar 9) (evVar 10)) evNil)) (evCons (evC (.int 0)) evNil)))))))))))))))))
abbrev st_law_convert_1 : Sv :=
    (sSet 4 (evN (gCall 2 sem_law_day) (evCons (evVar 1) (evCons (evVar 2) evNil))))
abbrev st_law_convert_2 : Sv :=
    (sSet 5 (evN gLen (evCons (evBin gIx (evVar 1) (evC (.str "currencies"))) evNil)))
abbrev st_law_convert_3 : Sv :=
    (sSet 6 (evBin gIx (evBin gIx (evVar 1) (evC (.str "currencies"))) (evBin gMod (evVar 3) (evVar 5))))
abbrev st_law_convert_4 : Sv :=
    (sSet 7 (evBin gIx (evBin gIx (evVar 1) (evC (.str "currencies"))) (evBin gMod (evBin gAdd (evBin gAdd (evVar 3) (evC (.int 1))) (evBin gMod (evBin gFloor (evVar 3) (evVar 5)) (evBin gSub (evVar 5) (evC (.int 1))))) (evVar 5))))
abbrev st_law_convert_5 : Sv :=
    (sSet 8 (evBin gIx (evBin gIx (evVar 1) (evC (.str "names"))) (evBin gMod (evBin gFloor (evVar 3) (evC (.int 6))) (evN gLen (evCons (evBin gIx (evVar 1) (evC (.str "names"))) evNil)))))
abbrev st_law_convert_6 : Sv :=
    (sSet 9 (evBin gIx (evBin gIx (evVar 1) (evC (.str "names"))) (evBin gMod (evBin gFloor (evVar 3) (evC (.int 7))) (evN gLen (evCons (evBin gIx (evVar 1) (evC (.str "names"))) evNil)))))
abbrev st_law_convert_7 : Sv :=
    (sSet 10 (evN (gCall 1 sem_law_amount) (evCons (evBin gFloor (evVar 2) (evC (.int 5))) evNil)))
abbrev st_law_convert_8 : Sv :=
    (sSet 11 (evN gLst (evCons (evN (gCall 3 sem_law_rate) (evCons (evVar 1) (evCons (evVar 6) (evCons (evVar 4) evNil)))) (evCons (evN (gCall 3 sem_law_rate) (evCons (evVar 1) (evCons (evVar 7) (evCons (evVar 4) evNil)))) evNil))))
abbrev st_law_convert_9 : Sv :=
    (sIf (evOr (evT (evBin (gIs false) (evBin gIx (evVar 11) (evC (.int 0))) (evC .non))) (evT (evBin (gIs false) (evBin gIx (evVar 11) (evC (.int 1))) (evC .non)))) (sRet (evC (.bl true))) sNil)
abbrev st_law_convert_10 : Sv :=
    (sSet 12 (evBin gMul (evBin gMul (evVar 10) (evBin gIx (evBin gIx (evVar 11) (evC (.int 0))) (evC (.int 0)))) (evBin gIx (evBin gIx (evVar 11) (evC (.int 1))) (evC (.int 1)))))
abbrev st_law_convert_11 : Sv :=
    (sSet 12 (evBin gFloor (evVar 12) (evBin gMul (evBin gIx (evBin gIx (evVar 11) (evC (.int 0))) (evC (.int 1))) (evBin gIx (evBin gIx (evVar 11) (evC (.int 1))) (evC (.int 0))))))
abbrev st_law_convert_12 : Sv :=
    (sIf (evOr (evT (evBin (gEq false) (evVar 12) (evC (.int 0)))) (evT (evBin gGe (evVar 12) (evBin gPow (evC (.int 10)) (evC (.int 30)))))) (sRet (evC (.bl true))) sNil)
abbrev st_law_convert_13 : Sv :=
    (sSet 13 (evN gLst (evCons (evN gTup (evCons (evVar 8) (evCons (evVar 6) (evCons (evBin gSub (evC (.int 0)) (evVar 10)) evNil)))) (evCons (evN gTup (evCons (evC (.str "exchange")) (evCons (evVar 6) (evCons (evVar 10) evNil)))) evNil))))
abbrev st_law_convert_14 : Sv :=
    (sSet 13 (evBin gAdd (evVar 13) (evN gLst (evCons (evN gTup (evCons (evC (.str "exchange")) (evCons (evVar 7) (evCons (evBin gSub (evC (.int 0)) (evVar 12)) evNil)))) (evCons (evN gTup (evCons (evVar 9) (evCons (evVar 7) (evCons (evVar 12) evNil)))) evNil)))))
abbrev st_law_convert_15 : Sv :=
    (sSet 14 (evN (gCall 1 sem_law_note) (evCons (evBin gFloor (evVar 3) (evC (.int 2))) evNil)))
abbrev st_law_convert_16 : Sv :=
    (sSet 15 (evN (gCall 5 sem_law_put) (evCons (evVar 1) (evCons (evVar 4) (evCons (evVar 14) (evCons (evVar 13) (evCons (evC (.int 0)) evNil)))))))
abbrev st_law_convert_17 : Sv :=
    (sExpr (evLm gAppend (evBin gIx (evVar 1) (evC (.str "deeds"))) (evN gTup (evCons (evC (.str "change")) (evCons (evVar 4) (evCons (evVar 8) (evCons (evVar 6) (evCons (evVar 10) (evCons (evVar 9) (evCons (evVar 7) (evCons (evVar 14) evNil)))))))))))
abbrev st_law_convert_18 : Sv :=
    (sRet (evBin (gEq false) (evMeth 0 8 sem_Book_convert (evVar 0) (evCons (evVar 4) (evCons (evVar 14) (evCons (evVar 8) (evCons (evVar 6) (evCons (evVar 10) (evCons (evVar 9) (evCons (evVar 7) evNil)))))))) (evVar 15)))
/-- _law_convert(_law_book_here, _law_plain_here, _law_big, _law_pick): 0 _law_book_here 1 _law_plain_here 2 _law_big 3 _law_pick 4 _law_day_here 5 _law_many 6 _law_one 7 _law_other 8 _law_giver 9 _law_taker 10 _law_amount_here 11 _law_rates 12 _law_found 13 _law_lines_here 14 _law_note_here 15 _law_due -/
def sem_law_convert : Sem' := fnS 4 16
    (sSeq st_law_convert_1
    (sSeq st_law_convert_2
    (sSeq st_law_convert_3
    (sSeq st_law_convert_4
    (sSeq st_law_convert_5
    (sSeq st_law_convert_6
    (sSeq st_law_convert_7
    (sSeq st_law_convert_8
    (sSeq st_law_convert_9
    (sSeq st_law_convert_10
    (sSeq st_law_convert_11
    (sSeq st_law_convert_12
    (sSeq st_law_convert_13
    (sSeq st_law_convert_14
    (sSeq st_law_convert_15
    (sSeq st_law_convert_16
    (sSeq st_law_convert_17
    st_law_convert_18)))))))))))))))))
/-- Book.entry(self, number): 0 self 1 number -/
def sem_Book_entry : Sem' := fnS 2 2
    (sSeq (sIf (evNot (evT (evChain gLe gLe (evC (.int 1)) (evVar 1) (evN gLen (evCons (evUn (gFld 0 3) (evVar 0)) evNil))))) (sRaise 12) sNil)
    (sRet (evBin gIx (evUn (gFld 0 3) (evVar 0)) (evBin gSub (evVar 1) (evC (.int 1))))))
/-- turned(lines): 0 lines 1 line -/
def sem_turned : Sem' := fnS 1 2
    (sRet (evN gTuple (evCons (evLc gFrz (evItems (evVar 0)) 1 [1] evYes (evN gTup (evCons (evBin gIx (evVar 1) (evC (.int 0))) (evCons (evBin gIx (evVar 1) (evC (.int 1))) (evCons (evBin gSub (evC (.int 0)) (evBin gIx (evVar 1) (evC (.int 2)))) evNil))))) evNil)))
/-- Book.contrary(self, number, day): 0 self 1 number 2 day 3 entry -/
def sem_Book_contrary : Sem' := fnS 3 4
    (sSeq (sSet 3 (evMeth 0 2 sem_Book_entry (evVar 0) (evCons (evVar 1) evNil)))
    (sSeq (sIf (evOr (evT (evBin (gIn false) (evVar 1) (evUn (gFld 0 5) (evVar 0)))) (evT (evBin (gEq true) (evBin gIx (evVar 3) (evC (.int 4))) (evC (.int 0))))) (sRaise 10) sNil)
    (sSeq (sExpr (evMeth 0 2 sem_Book_need_open (evVar 0) (evCons (evVar 2) evNil)))
    (sSeq (sDPutS (evUn (gFld 0 5) (evVar 0)) (evVar 1) (evC (.bl true)))
    (sSeq (sExpr (evLm gAppend (evUn (gFld 0 6) (evVar 0)) (evN gTup (evCons (evC (.str "back")) (evCons (evVar 1) (evCons (evVar 2) evNil))))))
    (sRet (evMeth 0 5 sem_Book_noted (evVar 0) (evCons (evVar 2) (evCons (evBin gIx (evVar 3) (evC (.int 2))) (evCons (evN (gCall 1 sem_turned) (evCons (evBin gIx (evVar 3) (evC (.int 3))) evNil)) (evCons (evVar 1) evNil)))))))))))
abbrev st_law_contrary_1 : Sv :=
    (sSet 4 (evBin gAdd (evC (.int 1)) (evBin gMod (evVar 3) (evN gMax2 (evCons (evC (.int 1)) (evCons (evN gLen (evCons (evBin gIx (evVar 1) (evC (.str "entries"))) evNil)) evNil))))))
abbrev st_law_contrary_2 : Sv :=
    (sIf (evOr (evT (evBin (gEq false) (evBin gIx (evVar 1) (evC (.str "entries"))) (evN gLst evNil))) (evOr (evT (evBin (gIn false) (evVar 4) (evBin gIx (evVar 1) (evC (.str "backs"))))) (evT (evBin (gEq true) (evBin gIx (evBin gIx (evBin gIx (evVar 1) (evC (.str "entries"))) (evBin gSub (evVar 4) (evC (.int 1)))) (evC (.int 4))) (evC (.int 0)))))) (sRet (evC (.bl true))) sNil)
abbrev st_law_contrary_3 : Sv :=
    (sSet 5 (evBin gIx (evBin gIx (evVar 1) (evC (.str "entries"))) (evBin gSub (evVar 4) (evC (.int 1)))))
abbrev st_law_contrary_4 : Sv :=
    (sSet 6 (evN (gCall 2 sem_law_day) (evCons (evVar 1) (evCons (evVar 2) evNil))))
abbrev st_law_contrary_5 : Sv :=
    (sSet 7 (evLc gFrz (evItems (evBin gIx (evVar 5) (evC (.int 3)))) 9 [9] evYes (evN gTup (evCons (evBin gIx (evVar 9) (evC (.int 0))) (evCons (evBin gIx (evVar 9) (evC (.int 1))) (evCons (evBin gSub (evC (.int 0)) (evBin gIx (evVar 9) (evC (.int 2)))) evNil))))))
abbrev st_law_contrary_6 : Sv :=
    (sSet 8 (evN (gCall 5 sem_law_put) (evCons (evVar 1) (evCons (evVar 6) (evCons (evBin gIx (evVar 5) (evC (.int 2))) (evCons (evVar 7) (evCons (evVar 4) evNil)))))))
abbrev st_law_contrary_7 : Sv :=
    (sExpr (evLm gAppend (evBin gIx (evVar 1) (evC (.str "backs"))) (evVar 4)))
abbrev st_law_contrary_8 : Sv :=
    (sExpr (evLm gAppend (evBin gIx (evVar 1) (evC (.str "deeds"))) (evN gTup (evCons (evC (.str "back")) (evCons (evVar 4) (evCons (evVar 6) evNil))))))
abbrev st_law_contrary_9 : Sv :=
    (sRet (evBin (gEq false) (evMeth 0 3 sem_Book_contrary (evVar 0) (evCons (evVar 4) (evCons (evVar 6) evNil))) (evVar 8)))
/-- _law_contrary(_law_book_here, _law_plain_here, _law_big, _law_pick): 0 _law_book_here 1 _law_plain_here 2 _law_big 3 _law_pick 4 _law_number 5 _law_entry 6 _law_day_here 7 _law_lines_here 8 _law_due 9 _law_line -/
def sem_law_contrary : Sem' := fnS 4 10
    (sSeq st_law_contrary_1
    (sSeq st_law_contrary_2
    (sSeq st_law_contrary_3
    (sSeq st_law_contrary_4
    (sSeq st_law_contrary_5
    (sSeq st_law_contrary_6
    (sSeq st_law_contrary_7
    (sSeq st_law_contrary_8
    st_law_contrary_9))))))))
/-- Book.close(self, day): 0 self 1 day -/
def sem_Book_close : Sem' := fnS 2 2
    (sSeq (sExpr (evMeth 0 2 sem_Book_need_open (evVar 0) (evCons (evVar 1) evNil)))
    (sSeq (sExpr (evLm gAppend (evUn (gFld 0 4) (evVar 0)) (evVar 1)))
    (sSeq (sExpr (evLm gAppend (evUn (gFld 0 6) (evVar 0)) (evN gTup (evCons (evC (.str "close")) (evCons (evVar 1) evNil)))))
    (sRet (evN gLen (evCons (evUn (gFld 0 4) (evVar 0)) evNil))))))
/-- _law_shut(_law_book_here, _law_plain_here, _law_big): 0 _law_book_here 1 _law_plain_here 2 _law_big 3 _law_day_here -/
def sem_law_shut : Sem' := fnS 3 4
    (sSeq (sSet 3 (evN (gCall 2 sem_law_day) (evCons (evVar 1) (evCons (evVar 2) evNil))))
    (sSeq (sExpr (evLm gAppend (evBin gIx (evVar 1) (evC (.str "ends"))) (evVar 3)))
    (sSeq (sExpr (evLm gAppend (evBin gIx (evVar 1) (evC (.str "deeds"))) (evN gTup (evCons (evC (.str "close")) (evCons (evVar 3) evNil)))))
    (sRet (evBin (gEq false) (evMeth 0 2 sem_Book_close (evVar 0) (evCons (evVar 3) evNil)) (evN gLen (evCons (evBin gIx (evVar 1) (evC (.str "ends"))) evNil)))))))
/-- _law_step(_law_book_here, _law_plain_here, _law_way, _law_big, _law_pick): 0 _law_book_here 1 _law_plain_here 2 _law_way 3 _law_big 4 _law_pick -/
def sem_law_step : Sem' := fnS 5 5
    (sSeq (sIf (evOr (evT (evBin gGe (evN (gCall 1 sem_law_closed) (evCons (evVar 1) evNil)) (evC (.int 99999)))) (evT (evBin gGt (evN gLen (evCons (evBin gIx (evVar 1) (evC (.str "entries"))) evNil)) (evBin gIx (evVar 1) (evC (.str "most")))))) (sRet (evC (.bl true))) sNil)
    (sSeq (sIf (evT (evBin gLt (evBin gMod (evVar 2) (evC (.int 8))) (evC (.int 3)))) (sRet (evN (gCall 4 sem_law_post) (evCons (evVar 0) (evCons (evVar 1) (evCons (evVar 3) (evCons (evVar 4) evNil)))))) sNil)
    (sSeq (sIf (evAnd (evT (evBin (gEq false) (evBin gMod (evVar 2) (evC (.int 8))) (evC (.int 3)))) (evT (evBin (gEq false) (evBin gMod (evBin gFloor (evVar 2) (evC (.int 8))) (evC (.int 3))) (evC (.int 0))))) (sRet (evN (gCall 3 sem_law_admit) (evCons (evVar 0) (evCons (evVar 1) (evCons (evVar 3) evNil))))) sNil)
    (sSeq (sIf (evT (evBin (gEq false) (evBin gMod (evVar 2) (evC (.int 8))) (evC (.int 3)))) (sRet (evN (gCall 4 sem_law_tell) (evCons (evVar 0) (evCons (evVar 1) (evCons (evVar 3) (evCons (evVar 4) evNil)))))) sNil)
    (sSeq (sIf (evT (evBin gLt (evBin gMod (evVar 2) (evC (.int 8))) (evC (.int 6)))) (sRet (evN (gCall 4 sem_law_convert) (evCons (evVar 0) (evCons (evVar 1) (evCons (evVar 3) (evCons (evVar 4) evNil)))))) sNil)
    (sSeq (sIf (evT (evBin (gEq false) (evBin gMod (evVar 2) (evC (.int 8))) (evC (.int 6)))) (sRet (evN (gCall 4 sem_law_contrary) (evCons (evVar 0) (evCons (evVar 1) (evCons (evVar 3) (evCons (evVar 4) evNil)))))) sNil)
    (sRet (evN (gCall 3 sem_law_shut) (evCons (evVar 0) (evCons (evVar 1) (evCons (evVar 3) evNil)))))))))))
abbrev lb_law_deeds_1 : Sv :=
    (sIf (evNot (evT (evN (gCall 5 sem_law_step) (evCons (evVar 0) (evCons (evVar 1) (evCons (evBin gIx (evVar 2) (evVar 5)) (evCons (evBin gIx (evVar 2) (evBin gAdd (evVar 5) (evC (.int 1)))) (evCons (evBin gIx (evVar 2) (evBin gAdd (evVar 5) (evC (.int 2)))) evNil)))))))) (sRet (evC (.bl false))) sNil)
/-- _law_deeds(_law_book_here, _law_plain_here, _law_script, _law_first, _law_last): 0 _law_book_here 1 _law_plain_here 2 _law_script 3 _law_first 4 _law_last 5 _law_k -/
def sem_law_deeds : Sem' := fnS 5 6
    (sSeq (sFor 5 (evRange gRange3 (evCons (evVar 3) (evCons (evN gMin2 (evCons (evBin gSub (evN gLen (evCons (evVar 2) evNil)) (evC (.int 2))) (evCons (evVar 4) evNil))) (evCons (evC (.int 3)) evNil)))) lb_law_deeds_1)
    (sRet (evC (.bl true))))
/-- _law_asked_day(_law_plain_here, _law_cell_here): 0 _law_plain_here 1 _law_cell_here 2 _law_some 3 _law_entry -/
def sem_law_asked_day : Sem' := fnS 2 4
    (sSeq (sSet 2 (evBin gAdd (evN gLst (evCons (evC (.int 0)) (evCons (evN gMax2 (evCons (evC (.int 0)) (evCons (evN (gCall 1 sem_law_closed) (evCons (evVar 0) evNil)) evNil))) (evCons (evC (.int 99999)) evNil)))) (evLc gFrz (evItems (evBin gIx (evVar 0) (evC (.str "entries")))) 3 [3] evYes (evBin gIx (evVar 3) (evC (.int 1))))))
    (sSeq (sIf (evT (evBin (gEq false) (evBin gMod (evVar 1) (evC (.int 2))) (evC (.int 1)))) (sRet (evBin gIx (evVar 2) (evBin gMod (evBin gFloor (evVar 1) (evC (.int 2))) (evN gLen (evCons (evVar 2) evNil))))) sNil)
    (sRet (evBin gMod (evBin gFloor (evVar 1) (evC (.int 2))) (evC (.int 100000))))))
abbrev lb_law_sums_1 : Sv :=
    (sSeq (sSet 5 (evN gTup (evCons (evBin gIx (evVar 4) (evC (.int 0))) (evCons (evBin gIx (evVar 4) (evC (.int 1))) evNil))))
    (sDPutS (evVar 2) (evVar 5) (evBin gAdd (evGet2 (evVar 2) (evVar 5) (evC (.int 0))) (evBin gIx (evVar 4) (evC (.int 2))))))
abbrev lb_law_sums_2 : Sv :=
    (sIf (evT (evBin gLe (evBin gIx (evVar 3) (evC (.int 1))) (evVar 1))) (sFor 4 (evItems (evBin gIx (evVar 3) (evC (.int 3)))) lb_law_sums_1) sNil)
/-- _law_sums(_law_plain_here, _law_day_here): 0 _law_plain_here 1 _law_day_here 2 _law_found 3 _law_entry 4 _law_line 5 _law_pair -/
def sem_law_sums : Sem' := fnS 2 6
    (sSeq (sSet 2 evDictT)
    (sSeq (sFor 3 (evItems (evBin gIx (evVar 0) (evC (.str "entries")))) lb_law_sums_2)
    (sRet (evVar 2))))
abbrev lb_pairs_up_to_1 : Sv :=
    (sDPutS (evVar 2) (evN gTup (evCons (evBin gIx (evVar 4) (evC (.int 0))) (evCons (evBin gIx (evVar 4) (evC (.int 1))) evNil))) (evC (.bl true)))
abbrev lb_pairs_up_to_2 : Sv :=
    (sIf (evT (evBin gLe (evBin gIx (evVar 3) (evC (.int 1))) (evVar 1))) (sFor 4 (evItems (evBin gIx (evVar 3) (evC (.int 3)))) lb_pairs_up_to_1) sNil)
/-- pairs_up_to(book, last): 0 book 1 last 2 seen 3 entry 4 line -/
def sem_pairs_up_to : Sem' := fnP 2 5
    (sSeq (sSet 2 evDictT)
    (sSeq (sFor 3 (evItems (evUn (gFld 0 3) (evVar 0))) lb_pairs_up_to_2)
    (sRet (evN gSortedS (evCons (evN gListT (evCons (evVar 2) evNil)) evNil)))))
abbrev lb_Book_sum_between_1 : Sv :=
    (sIf (evAnd (evT (evBin (gEq false) (evBin gIx (evVar 7) (evC (.int 0))) (evVar 1))) (evT (evBin (gEq false) (evBin gIx (evVar 7) (evC (.int 1))) (evVar 2)))) (sSet 5 (evBin gAdd (evVar 5) (evBin gIx (evVar 7) (evC (.int 2))))) sNil)
abbrev lb_Book_sum_between_2 : Sv :=
    (sIf (evT (evChain gLe gLe (evVar 3) (evBin gIx (evVar 6) (evC (.int 1))) (evVar 4))) (sFor 7 (evItems (evBin gIx (evVar 6) (evC (.int 3)))) lb_Book_sum_between_1) sNil)
/-- Book.sum_between(self, account, currency, first, last): 0 self 1 account 2 currency 3 first 4 last 5 found 6 entry 7 line -/
def sem_Book_sum_between : Sem' := fnS 5 8
    (sSeq (sSet 5 (evC (.int 0)))
    (sSeq (sFor 6 (evItems (evUn (gFld 0 3) (evVar 0))) lb_Book_sum_between_2)
    (sRet (evVar 5))))
abbrev st_sheet_1 : Sv :=
    (sExpr (evMeth 0 2 sem_Book_need_day (evVar 0) (evCons (evVar 1) evNil)))
abbrev st_sheet_2 : Sv :=
    (sSet 2 (evLc gFrz (evItems (evN (gCall 2 sem_pairs_up_to) (evCons (evVar 0) (evCons (evVar 1) evNil)))) 3 [3] evYes (evN gTup (evCons (evBin gIx (evVar 3) (evC (.int 0))) (evCons (evBin gIx (evVar 3) (evC (.int 1))) (evCons (evMeth 0 5 sem_Book_sum_between (evVar 0) (evCons (evBin gIx (evVar 3) (evC (.int 0))) (evCons (evBin gIx (evVar 3) (evC (.int 1))) (evCons (evC (.int 0)) (evCons (evVar 1) evNil))))) evNil))))))
abbrev st_sheet_3 : Sv :=
    (sRet (evLc gKeep (evItems (evVar 2)) 4 [4] (evT (evBin (gEq true) (evBin gIx (evVar 4) (evC (.int 2))) (evC (.int 0)))) (evVar 4)))
/-- sheet(book, day): 0 book 1 day 2 rows 3 pair 4 row -/
def sem_sheet : Sem' := fnS 2 5
    (sSeq st_sheet_1
    (sSeq st_sheet_2
    st_sheet_3))
/-- _law_whole(_law_found): 0 _law_found -/
def sem_law_whole : Sem' := fnS 1 1
    (sRet (evAndV (evUn (gIsi .int) (evVar 0)) (evNotV (evUn (gIsi .bool) (evVar 0)))))
abbrev lb_law_worth_1 : Sv :=
    (sIf (evT (evBin (gEq false) (evBin gIx (evVar 6) (evC (.int 0))) (evVar 2))) (sSeq (sSet 7 (evN (gCall 3 sem_law_rate) (evCons (evVar 0) (evCons (evBin gIx (evVar 6) (evC (.int 1))) (evCons (evVar 3) evNil)))))
    (sSeq (sIf (evT (evBin (gIs false) (evVar 7) (evC .non))) (sRet (evC .non)) sNil)
    (sSeq (sSet 4 (evBin gAdd (evBin gMul (evVar 4) (evBin gIx (evVar 7) (evC (.int 1)))) (evBin gMul (evBin gMul (evBin gIx (evVar 6) (evC (.int 2))) (evBin gIx (evVar 7) (evC (.int 0)))) (evVar 5))))
    (sSet 5 (evBin gMul (evVar 5) (evBin gIx (evVar 7) (evC (.int 1)))))))) sNil)
/-- _law_worth(_law_plain_here, _law_rows, _law_account, _law_day_here): 0 _law_plain_here 1 _law_rows 2 _law_account 3 _law_day_here 4 _law_top 5 _law_bottom 6 _law_row 7 _law_pair -/
def sem_law_worth : Sem' := fnS 4 8
    (sSeq (sSet 4 (evC (.int 0)))
    (sSeq (sSet 5 (evC (.int 1)))
    (sSeq (sFor 6 (evItems (evVar 1)) lb_law_worth_1)
    (sRet (evN gTup (evCons (evVar 4) (evCons (evVar 5) evNil)))))))
/-- common(one, other): 0 one 1 other 2 rest -/
def sem_common : Sem' := fnS 2 3
    (sSeq (sWhile (evT (evBin (gEq true) (evVar 1) (evC (.int 0)))) (sSeq (sSet 2 (evBin gMod (evVar 0) (evVar 1)))
    (sSeq (sSet 0 (evVar 1))
    (sSet 1 (evVar 2)))))
    (sRet (evVar 0)))
/-- lowest(top, bottom): 0 top 1 bottom 2 part -/
def sem_lowest : Sem' := fnS 2 3
    (sSeq (sSet 2 (evN (gCall 2 sem_common) (evCons (evVar 0) (evCons (evVar 1) evNil))))
    (sRet (evN gTup (evCons (evBin gFloor (evVar 0) (evVar 2)) (evCons (evBin gFloor (evVar 1) (evVar 2)) evNil)))))
/-- added(one, other): 0 one 1 other -/
def sem_added : Sem' := fnS 2 2
    (sRet (evN (gCall 2 sem_lowest) (evCons (evBin gAdd (evBin gMul (evBin gIx (evVar 0) (evC (.int 0))) (evBin gIx (evVar 1) (evC (.int 1)))) (evBin gMul (evBin gIx (evVar 1) (evC (.int 0))) (evBin gIx (evVar 0) (evC (.int 1))))) (evCons (evBin gMul (evBin gIx (evVar 0) (evC (.int 1))) (evBin gIx (evVar 1) (evC (.int 1)))) evNil))))
abbrev lb_worth_1 : Sv :=
    (sIf (evT (evBin (gEq false) (evBin gIx (evVar 4) (evC (.int 0))) (evVar 1))) (sSeq (sSet 5 (evMeth 0 3 sem_Book_rate (evVar 0) (evCons (evBin gIx (evVar 4) (evC (.int 1))) (evCons (evVar 2) evNil))))
    (sSet 3 (evN (gCall 2 sem_added) (evCons (evVar 3) (evCons (evN gTup (evCons (evBin gMul (evBin gIx (evVar 4) (evC (.int 2))) (evBin gIx (evVar 5) (evC (.int 0)))) (evCons (evBin gIx (evVar 5) (evC (.int 1))) evNil))) evNil))))) sNil)
abbrev st_worth_1 : Sv :=
    (sExpr (evMeth 0 2 sem_Book_need_account (evVar 0) (evCons (evVar 1) evNil)))
abbrev st_worth_2 : Sv :=
    (sExpr (evMeth 0 2 sem_Book_need_day (evVar 0) (evCons (evVar 2) evNil)))
abbrev st_worth_3 : Sv :=
    (sSet 3 (evN gTup (evCons (evC (.int 0)) (evCons (evC (.int 1)) evNil))))
abbrev st_worth_4 : Sv :=
    (sFor 4 (evItems (evN (gCall 2 sem_sheet) (evCons (evVar 0) (evCons (evVar 2) evNil)))) lb_worth_1)
abbrev st_worth_5 : Sv :=
    (sRet (evVar 3))
/-- worth(book, account, day): 0 book 1 account 2 day 3 found 4 row 5 pair -/
def sem_worth : Sem' := fnP 3 6
    (sSeq st_worth_1
    (sSeq st_worth_2
    (sSeq st_worth_3
    (sSeq st_worth_4
    st_worth_5))))
/-- _law_refused(_law_book_here, _law_account, _law_day_here): 0 _law_book_here 1 _law_account 2 _law_day_here -/
def sem_law_refused : Sem' := fnS 3 3
    (sSeq (sTry csl (sExpr (evN (gCall 3 sem_worth) (evCons (evVar 0) (evCons (evVar 1) (evCons (evVar 2) evNil))))) ((13, none, (sRet (evC (.str "NoRate")))) :: ((11, none, (sRet (evC (.str "NoAccount")))) :: ((4, none, (sRet (evC (.str "BadDay")))) :: []))))
    (sRet (evC (.str ""))))
/-- _law_common(_law_one, _law_other): 0 _law_one 1 _law_other 2 _law_rest -/
def sem_law_common : Sem' := fnS 2 3
    (sSeq (sWhile (evT (evBin (gEq true) (evVar 1) (evC (.int 0)))) (sSeq (sSet 2 (evBin gMod (evVar 0) (evVar 1)))
    (sSeq (sSet 0 (evVar 1))
    (sSet 1 (evVar 2)))))
    (sRet (evVar 0)))
abbrev st_law_valued_1 : Sv :=
    (sSet 5 (evN (gCall 4 sem_law_worth) (evCons (evVar 1) (evCons (evVar 2) (evCons (evVar 3) (evCons (evVar 4) evNil))))))
abbrev st_law_valued_2 : Sv :=
    (sIf (evT (evBin (gIs false) (evVar 5) (evC .non))) (sRet (evBin (gEq false) (evN (gCall 3 sem_law_refused) (evCons (evVar 0) (evCons (evVar 3) (evCons (evVar 4) evNil)))) (evC (.str "NoRate")))) sNil)
abbrev st_law_valued_3 : Sv :=
    (sSet 6 (evN (gCall 3 sem_worth) (evCons (evVar 0) (evCons (evVar 3) (evCons (evVar 4) evNil)))))
abbrev st_law_valued_4 : Sv :=
    (sIf (evOr (evNot (evT (evUn (gIsi .tuple) (evVar 6)))) (evOr (evT (evBin (gEq true) (evN gLen (evCons (evVar 6) evNil)) (evC (.int 2)))) (evOr (evNot (evT (evN (gCall 1 sem_law_whole) (evCons (evBin gIx (evVar 6) (evC (.int 0))) evNil)))) (evNot (evT (evN (gCall 1 sem_law_whole) (evCons (evBin gIx (evVar 6) (evC (.int 1))) evNil))))))) (sRet (evC (.bl false))) sNil)
abbrev st_law_valued_5 : Sv :=
    (sIf (evOr (evT (evBin gLt (evBin gIx (evVar 6) (evC (.int 1))) (evC (.int 1)))) (evT (evBin (gEq true) (evBin gMul (evBin gIx (evVar 6) (evC (.int 0))) (evBin gIx (evVar 5) (evC (.int 1)))) (evBin gMul (evBin gIx (evVar 5) (evC (.int 0))) (evBin gIx (evVar 6) (evC (.int 1))))))) (sRet (evC (.bl false))) sNil)
abbrev st_law_valued_6 : Sv :=
    (sRet (evBin (gEq false) (evN (gCall 2 sem_law_common) (evCons (evBin gIx (evVar 6) (evC (.int 0))) (evCons (evBin gIx (evVar 6) (evC (.int 1))) evNil))) (evC (.int 1))))
/-- _law_valued(_law_book_here, _law_plain_here, _law_rows, _law_account, _law_day_here): 0 _law_book_here 1 _law_plain_here 2 _law_rows 3 _law_account 4 _law_day_here 5 _law_due 6 _law_found -/
def sem_law_valued : Sem' := fnS 5 7
    (sSeq st_law_valued_1
    (sSeq st_law_valued_2
    (sSeq st_law_valued_3
    (sSeq st_law_valued_4
    (sSeq st_law_valued_5
    st_law_valued_6)))))
abbrev lb_law_day_good_1 : Sv :=
    (sIf (evOr (evNot (evT (evUn (gIsi .tuple) (evVar 8)))) (evNot (evT (evN (gCall 1 sem_law_whole) (evCons (evBin gIx (evVar 8) (evC (.int 2))) evNil))))) (sRet (evC (.bl false))) sNil)
abbrev lb_law_day_good_2 : Sv :=
    (sIf (evNot (evT (evN (gCall 5 sem_law_valued) (evCons (evVar 0) (evCons (evVar 1) (evCons (evVar 6) (evCons (evVar 9) (evCons (evVar 2) evNil)))))))) (sRet (evC (.bl false))) sNil)
abbrev st_law_day_good_1 : Sv :=
    (sSet 5 (evN (gCall 2 sem_law_sums) (evCons (evVar 1) (evCons (evVar 2) evNil))))
abbrev st_law_day_good_2 : Sv :=
    (sSet 6 (evLc gFrz (evItems (evN gSortedS (evCons (evN gListT (evCons (evVar 5) evNil)) evNil))) 10 [10] (evT (evBin (gEq true) (evBin gIx (evVar 5) (evVar 10)) (evC (.int 0)))) (evN gTup (evCons (evBin gIx (evVar 10) (evC (.int 0))) (evCons (evBin gIx (evVar 10) (evC (.int 1))) (evCons (evBin gIx (evVar 5) (evVar 10)) evNil))))))
abbrev st_law_day_good_3 : Sv :=
    (sSet 7 (evN (gCall 2 sem_sheet) (evCons (evVar 0) (evCons (evVar 2) evNil))))
abbrev st_law_day_good_4 : Sv :=
    (sIf (evOr (evNot (evT (evUn (gIsi .list) (evVar 7)))) (evT (evBin (gEq true) (evVar 7) (evVar 6)))) (sRet (evC (.bl false))) sNil)
abbrev st_law_day_good_5 : Sv :=
    (sFor 8 (evItems (evVar 7)) lb_law_day_good_1)
abbrev st_law_day_good_6 : Sv :=
    (sExpr (evLm gAppend (evVar 7) (evC (.str "more"))))
abbrev st_law_day_good_7 : Sv :=
    (sExpr (evLm gAppend (evVar 4) (evN gTup (evCons (evVar 7) (evCons (evBin gAdd (evVar 6) (evN gLst (evCons (evC (.str "more")) evNil))) evNil)))))
abbrev st_law_day_good_8 : Sv :=
    (sFor 9 (evItems (evVar 3)) lb_law_day_good_2)
abbrev st_law_day_good_9 : Sv :=
    (sRet (evBin (gEq false) (evN (gCall 2 sem_sheet) (evCons (evVar 0) (evCons (evVar 2) evNil))) (evVar 6)))
/-- _law_day_good(_law_book_here, _law_plain_here, _law_day_here, _law_accounts, _law_held): 0 _law_book_here 1 _law_plain_here 2 _law_day_here 3 _law_accounts 4 _law_held 5 _law_sums_here 6 _law_rows 7 _law_found 8 _law_row 9 _law_account 10 _law_pair -/
def sem_law_day_good : Sem' := fnS 5 11
    (sSeq st_law_day_good_1
    (sSeq st_law_day_good_2
    (sSeq st_law_day_good_3
    (sSeq st_law_day_good_4
    (sSeq st_law_day_good_5
    (sSeq st_law_day_good_6
    (sSeq st_law_day_good_7
    (sSeq st_law_day_good_8
    st_law_day_good_9))))))))
/-- _law_based(_law_book_here, _law_day_here): 0 _law_book_here 1 _law_day_here 2 e -/
def sem_law_based : Sem' := fnS 2 3
    (sSeq (sTry csl (sExpr (evN (gCall 2 sem_sheet) (evCons (evVar 0) (evCons (evVar 1) evNil)))) ((0, some 2, (sRet (evAndV (evIsE 4 (evVar 2)) (evIsV (evVar 2))))) :: []))
    (sRet (evC (.bl false))))
abbrev st_law_1 : Sv :=
    (sSet 1 (evN (gCall 1 sem_law_plain) (evCons (evVar 0) evNil)))
abbrev st_law_2 : Sv :=
    (sSet 2 (evN (gCall 1 sem_law_book) (evCons (evVar 1) evNil)))
abbrev st_law_3 : Sv :=
    (sSet 3 (evBin gAdd (evC (.int 6)) (evBin gMul (evC (.int 3)) (evBin gMod (evBin gFloor (evN (gCall 2 sem_law_cell) (evCons (evVar 0) (evCons (evC (.int 5)) evNil))) (evC (.int 11))) (evBin gAdd (evC (.int 1)) (evBin gFloor (evN gLen (evCons (evVar 0) evNil)) (evC (.int 3))))))))
abbrev st_law_4 : Sv :=
    (sIf (evOr (evNot (evT (evN (gCall 4 sem_law_bulk) (evCons (evVar 2) (evCons (evVar 1) (evCons (evN (gCall 2 sem_law_cell) (evCons (evVar 0) (evCons (evC (.int 5)) evNil))) (evCons (evC (.int 40)) evNil))))))) (evNot (evT (evN (gCall 5 sem_law_deeds) (evCons (evVar 2) (evCons (evVar 1) (evCons (evVar 0) (evCons (evC (.int 6)) (evCons (evVar 3) evNil))))))))) (sRet (evC (.bl false))) sNil)
abbrev st_law_5 : Sv :=
    (sSet 4 (evN (gCall 2 sem_law_asked_day) (evCons (evVar 1) (evCons (evN (gCall 2 sem_law_cell) (evCons (evVar 0) (evCons (evC (.int 4)) evNil))) evNil))))
abbrev st_law_6 : Sv :=
    (sSet 5 (evBin gIx (evVar 1) (evC (.str "names"))))
abbrev st_law_7 : Sv :=
    (sSet 5 (evN gLst (evCons (evBin gIx (evVar 5) (evBin gMod (evBin gFloor (evN (gCall 2 sem_law_cell) (evCons (evVar 0) (evCons (evC (.int 5)) evNil))) (evC (.int 3))) (evN gLen (evCons (evVar 5) evNil)))) (evCons (evBin gIx (evVar 5) (evBin gMod (evBin gFloor (evN (gCall 2 sem_law_cell) (evCons (evVar 0) (evCons (evC (.int 4)) evNil))) (evC (.int 5))) (evN gLen (evCons (evVar 5) evNil)))) evNil))))
abbrev st_law_8 : Sv :=
    (sSet 6 (evN gLstS evNil))
abbrev st_law_9 : Sv :=
    (sIf (evOr (evNot (evT (evN (gCall 5 sem_law_day_good) (evCons (evVar 2) (evCons (evVar 1) (evCons (evVar 4) (evCons (evVar 5) (evCons (evVar 6) evNil)))))))) (evNot (evT (evN (gCall 5 sem_law_deeds) (evCons (evVar 2) (evCons (evVar 1) (evCons (evVar 0) (evCons (evVar 3) (evCons (evC (.int 63)) evNil))))))))) (sRet (evC (.bl false))) sNil)
abbrev st_law_10 : Sv :=
    (sSet 7 (evBin gIx (evN gLst (evCons (evUn gNeg (evC (.int 1))) (evCons (evC (.int 100000)) (evCons (evBin gSub (evBin gSub (evC (.int 0)) (evC (.int 1))) (evBin gMod (evN (gCall 2 sem_law_cell) (evCons (evVar 0) (evCons (evC (.int 5)) evNil))) (evBin gPow (evC (.int 10)) (evC (.int 9))))) evNil)))) (evBin gMod (evN (gCall 2 sem_law_cell) (evCons (evVar 0) (evCons (evC (.int 5)) evNil))) (evC (.int 3)))))
abbrev st_law_11 : Sv :=
    (sIf (evOr (evT (evBin (gEq true) (evN (gCall 3 sem_law_refused) (evCons (evVar 2) (evCons (evC (.str "stranger")) (evCons (evVar 7) evNil)))) (evC (.str "NoAccount")))) (evT (evBin (gEq true) (evN (gCall 3 sem_law_refused) (evCons (evVar 2) (evCons (evC (.str "exchange")) (evCons (evVar 7) evNil)))) (evC (.str "BadDay"))))) (sRet (evC (.bl false))) sNil)
abbrev st_law_12 : Sv :=
    (sIf (evOr (evNot (evT (evN (gCall 5 sem_law_day_good) (evCons (evVar 2) (evCons (evVar 1) (evCons (evVar 4) (evCons (evVar 5) (evCons (evVar 6) evNil)))))))) (evNot (evT (evN (gCall 2 sem_law_based) (evCons (evVar 2) (evCons (evVar 7) evNil)))))) (sRet (evC (.bl false))) sNil)
abbrev st_law_13 : Sv :=
    (sRet (evBin (gEq false) (evLc gFrz (evItems (evVar 6)) 8 [8] (evT (evBin (gEq true) (evBin gIx (evVar 8) (evC (.int 0))) (evBin gIx (evVar 8) (evC (.int 1))))) (evVar 8)) (evN gLst evNil)))
/-- law(_law_script): 0 _law_script 1 _law_plain_here 2 _law_book_here 3 _law_place 4 _law_day_here 5 _law_some 6 _law_held 7 _law_none 8 _law_one -/
def sem_law : Sem' := fnS 1 9
    (sSeq st_law_1
    (sSeq st_law_2
    (sSeq st_law_3
    (sSeq st_law_4
    (sSeq st_law_5
    (sSeq st_law_6
    (sSeq st_law_7
    (sSeq st_law_8
    (sSeq st_law_9
    (sSeq st_law_10
    (sSeq st_law_11
    (sSeq st_law_12
    st_law_13))))))))))))
end
end DL

/-! the book: what its methods answer -/
namespace DL
open PySem PySem.Spec PyProof.Rows L2
theorem sm_le {i : Int} (h : i.natAbs ≤ 10 ^ 200) : Sm i := Nat.lt_of_le_of_lt h (by decide)
theorem mulR {i j : Int} (h : j.natAbs ≤ 10 ^ 19) : MulOk i j := .inl (.inr (Nat.lt_of_le_of_lt h (by decide)))
theorem mulL {i j : Int} (h : i.natAbs ≤ 10 ^ 19) : MulOk i j := .inl (.inl (Nat.lt_of_le_of_lt h (by decide)))
theorem sm2 : Sm 2 := by decide
theorem p_cell (S : Store) (ns : List Int) (k : Int) (hk : 0 ≤ k) : sem_law_cell [.scr ns, I k] S = .ok (I (cell ns k)) S := by
  unfold sem_law_cell
  by_cases h : k < ns.length
  · have e : atI ns k = some (cell ns k) := by
      refine atI_of (j := k.toNat) (by omega) ?_
      unfold cell
      rw [List.getD_eq_getElem?_getD, List.getElem?_eq_getElem (by omega)]
      rfl
    simp [fnS_s, h, gIxI_scr, e]
  · have e : cell ns k = 0 := by
      unfold cell
      rw [List.getD_eq_getElem?_getD, List.getElem?_eq_none (by omega)]
      rfl
    simp [fnS_s, h, e]
theorem p_whole (S : Store) (i : Int) : sem_law_whole [I i] S = .ok (Bo true) S := by
  unfold sem_law_whole
  simp [fnS_s, evAndV_s, evNotV_s]
def AZ : Str := "ABCDEFGHIJKLMNOPQRSTUVWXYZ"
theorem ixAZ {S : Store} {i : Int} (h0 : 0 ≤ i) (h1 : i < 26) : gIxI (.d (.str "ABCDEFGHIJKLMNOPQRSTUVWXYZ")) i S = .ok (.d (.str (sgn AZ i))) S :=
  ix_str (z := AZ) h0 (by rw [show AZ.length = 26 by decide +kernel]; exact h1) (by rw [show AZ.length = 26 by decide +kernel]; decide)
def isCur (x : Str) : Bool := decide (x.length = 3) && x.cps.toList.all fun c => decide (c ∈ AZ.cps.toList)
theorem p_is_currency (S : Store) (x : Str) (hl : x.length ≤ 16777216) : sem_is_currency [T x] S = .ok (Bo (isCur x)) S := by
  unfold sem_is_currency isCur
  by_cases h : x.length = 3
  · have e := lc_map (S := S) (ρ := [some (T x), none]) (fun _ => True) 1 (evBin (gIn false) (evVar 1) (evC (.str "ABCDEFGHIJKLMNOPQRSTUVWXYZ"))) (fun c => .d (.str ⟨#[c]⟩)) (fun c => .d (.bl (decide (c ∈ AZ.cps.toList)))) trivial (fun _ => rfl) x.cps.toList (by
      intro c _
      simp [gIn_sign]
      rfl)
    have hl2 : x.cps.toList.length ≤ 16777216 := by
      have : x.cps.toList.length = x.length := by simp; rfl
      omega
    simp only [fnS_s, evAndV_s, evLc_s, sRet_s, evBin_s, evN_s, evCons_s, evNil_s, evVar_s, evC_s, evItems_s, List.map_cons, List.map_nil, List.replicate, List.cons_append, List.nil_append, List.getElem?_cons_zero, bind_ok, List.length_cons, List.length_nil, if_true, wipeE_cons, wipeE_nil, List.set_cons_succ, List.set_cons_zero, itW_str]
    simp [h]
    have hl3 : x.cps.size ≤ 16777216 := by simpa using hl2
    simp only [hl3, if_true, e, bind_ok, gFrz_map, gAll_map]
    simp
  · have h' : ¬ ((x.length : Int) = 3) := by omega
    simp [fnS_s, evAndV_s, hl, h, h']
/-- a told rate -/
structure RRow where
  c : Str
  d : Int
  t : Int
  q : Int
def RRow.w (r : RRow) : Wv := .d (.tup [.str r.c, .int r.d, .tup [.int r.t, .int r.q]])
/-- a line, an entry, a deed -/
structure Ln where
  a : Str
  c : Str
  x : Int
def Ln.d (l : Ln) : D := .tup [.str l.a, .str l.c, .int l.x]
def Ln.w (l : Ln) : Wv := .d l.d
structure En where
  num : Int
  day : Int
  note : Str
  ls : List Ln
  back : Int
def En.d (e : En) : D := .tup [.int e.num, .int e.day, .str e.note, .tup (e.ls.map Ln.d), .int e.back]
def En.w (e : En) : Wv := .d e.d
inductive Dd where
  | home (h : Str) | acc (a : Str) | rate (r : RRow) | ent (d : Int) (note : Str) (ls : List Ln) | chg (d : Int) (g o : Str) (x : Int) (t u note : Str) | back (n d : Int) | close (d : Int)
def Dd.d : Dd → D
  | .home h => .tup [.str "home", .str h]
  | .acc a => .tup [.str "account", .str a]
  | .rate r => .tup [.str "rate", .str r.c, .int r.d, .int r.t, .int r.q]
  | .ent d note ls => .tup [.str "entry", .int d, .str note, .tup (ls.map Ln.d)]
  | .chg d g o x t u note => .tup [.str "change", .int d, .str g, .str o, .int x, .str t, .str u, .str note]
  | .back n d => .tup [.str "back", .int n, .int d]
  | .close d => .tup [.str "close", .int d]
def Dd.w (e : Dd) : Wv := .d e.d
def backsW (l : List Int) : List (Key × Wv) := l.map fun n => (.inl n, Bo true)
/-- a book -/
structure Bk where
  home : Str
  rows : List RRow
  names : List Str
  ents : List En
  ends : List Int
  backs : List Int
  deeds : List Dd
structure At (S : Store) (n : Nat) (b : Bk) : Prop where
  h0 : S[n]? = some (.ins 0 [T b.home, .ref (n + 1), .ref (n + 3), .ref (n + 4), .ref (n + 5), .ref (n + 6), .ref (n + 7)])
  h1 : S[n + 1]? = some (.ins 1 [T b.home, .ref (n + 2)])
  h2 : S[n + 2]? = some (.lst (b.rows.map RRow.w))
  h3 : S[n + 3]? = some (.lst (b.names.map T))
  h4 : S[n + 4]? = some (.lst (b.ents.map En.w))
  h5 : S[n + 5]? = some (.lst (b.ends.map I))
  h6 : S[n + 6]? = some (.dK (backsW b.backs))
  h7 : S[n + 7]? = some (.lst (b.deeds.map Dd.w))
/-- what is not of the book stays -/
def Fr (S : Store) (n : Nat) (S' : Store) : Prop := S'.length = S.length ∧ ∀ m, m < n ∨ n + 8 ≤ m → S'[m]? = S[m]?
theorem Fr.refl (S : Store) (n : Nat) : Fr S n S := ⟨rfl, fun _ _ => rfl⟩
theorem Fr.trans {S S1 S2 : Store} {n : Nat} (a : Fr S n S1) (b : Fr S1 n S2) : Fr S n S2 := ⟨b.1.trans a.1, fun m h => (b.2 m h).trans (a.2 m h)⟩
theorem Fr.set {S : Store} {n i : Nat} {o : O} (h1 : n ≤ i) (h2 : i < n + 8) : Fr S n (S.set i o) := ⟨by simp, fun m h => List.getElem?_set_ne (by omega)⟩
/-- an object of the book is written -/
theorem At.rows' {S : Store} {n : Nat} {b : Bk} (a : At S n b) (rows : List RRow) : At (S.set (n + 2) (.lst (rows.map RRow.w))) n { b with rows := rows } := by
  have hl : n + 2 < S.length := (List.getElem?_eq_some_iff.mp a.h2).1
  exact ⟨by rw [List.getElem?_set_ne (by omega)]; exact a.h0, by rw [List.getElem?_set_ne (by omega)]; exact a.h1, by rw [List.getElem?_set_self hl], by rw [List.getElem?_set_ne (by omega)]; exact a.h3, by rw [List.getElem?_set_ne (by omega)]; exact a.h4, by rw [List.getElem?_set_ne (by omega)]; exact a.h5, by rw [List.getElem?_set_ne (by omega)]; exact a.h6, by rw [List.getElem?_set_ne (by omega)]; exact a.h7⟩
theorem At.names' {S : Store} {n : Nat} {b : Bk} (a : At S n b) (names : List Str) : At (S.set (n + 3) (.lst (names.map T))) n { b with names := names } := by
  have hl : n + 3 < S.length := (List.getElem?_eq_some_iff.mp a.h3).1
  exact ⟨by rw [List.getElem?_set_ne (by omega)]; exact a.h0, by rw [List.getElem?_set_ne (by omega)]; exact a.h1, by rw [List.getElem?_set_ne (by omega)]; exact a.h2, by rw [List.getElem?_set_self hl], by rw [List.getElem?_set_ne (by omega)]; exact a.h4, by rw [List.getElem?_set_ne (by omega)]; exact a.h5, by rw [List.getElem?_set_ne (by omega)]; exact a.h6, by rw [List.getElem?_set_ne (by omega)]; exact a.h7⟩
theorem At.ents' {S : Store} {n : Nat} {b : Bk} (a : At S n b) (ents : List En) : At (S.set (n + 4) (.lst (ents.map En.w))) n { b with ents := ents } := by
  have hl : n + 4 < S.length := (List.getElem?_eq_some_iff.mp a.h4).1
  exact ⟨by rw [List.getElem?_set_ne (by omega)]; exact a.h0, by rw [List.getElem?_set_ne (by omega)]; exact a.h1, by rw [List.getElem?_set_ne (by omega)]; exact a.h2, by rw [List.getElem?_set_ne (by omega)]; exact a.h3, by rw [List.getElem?_set_self hl], by rw [List.getElem?_set_ne (by omega)]; exact a.h5, by rw [List.getElem?_set_ne (by omega)]; exact a.h6, by rw [List.getElem?_set_ne (by omega)]; exact a.h7⟩
theorem At.ends' {S : Store} {n : Nat} {b : Bk} (a : At S n b) (ends : List Int) : At (S.set (n + 5) (.lst (ends.map I))) n { b with ends := ends } := by
  have hl : n + 5 < S.length := (List.getElem?_eq_some_iff.mp a.h5).1
  exact ⟨by rw [List.getElem?_set_ne (by omega)]; exact a.h0, by rw [List.getElem?_set_ne (by omega)]; exact a.h1, by rw [List.getElem?_set_ne (by omega)]; exact a.h2, by rw [List.getElem?_set_ne (by omega)]; exact a.h3, by rw [List.getElem?_set_ne (by omega)]; exact a.h4, by rw [List.getElem?_set_self hl], by rw [List.getElem?_set_ne (by omega)]; exact a.h6, by rw [List.getElem?_set_ne (by omega)]; exact a.h7⟩
theorem At.backs' {S : Store} {n : Nat} {b : Bk} (a : At S n b) (backs : List Int) : At (S.set (n + 6) (.dK (backsW backs))) n { b with backs := backs } := by
  have hl : n + 6 < S.length := (List.getElem?_eq_some_iff.mp a.h6).1
  exact ⟨by rw [List.getElem?_set_ne (by omega)]; exact a.h0, by rw [List.getElem?_set_ne (by omega)]; exact a.h1, by rw [List.getElem?_set_ne (by omega)]; exact a.h2, by rw [List.getElem?_set_ne (by omega)]; exact a.h3, by rw [List.getElem?_set_ne (by omega)]; exact a.h4, by rw [List.getElem?_set_ne (by omega)]; exact a.h5, by rw [List.getElem?_set_self hl], by rw [List.getElem?_set_ne (by omega)]; exact a.h7⟩
theorem At.deeds' {S : Store} {n : Nat} {b : Bk} (a : At S n b) (deeds : List Dd) : At (S.set (n + 7) (.lst (deeds.map Dd.w))) n { b with deeds := deeds } := by
  have hl : n + 7 < S.length := (List.getElem?_eq_some_iff.mp a.h7).1
  exact ⟨by rw [List.getElem?_set_ne (by omega)]; exact a.h0, by rw [List.getElem?_set_ne (by omega)]; exact a.h1, by rw [List.getElem?_set_ne (by omega)]; exact a.h2, by rw [List.getElem?_set_ne (by omega)]; exact a.h3, by rw [List.getElem?_set_ne (by omega)]; exact a.h4, by rw [List.getElem?_set_ne (by omega)]; exact a.h5, by rw [List.getElem?_set_ne (by omega)]; exact a.h6, by rw [List.getElem?_set_self hl]⟩
/-- another book's object, or none's, is written -/
theorem At.off {S S' : Store} {n : Nat} {b : Bk} (a : At S n b) (h : ∀ m, n ≤ m → m < n + 8 → S'[m]? = S[m]?) : At S' n b :=
  ⟨by rw [h _ (by omega) (by omega)]; exact a.h0, by rw [h _ (by omega) (by omega)]; exact a.h1, by rw [h _ (by omega) (by omega)]; exact a.h2, by rw [h _ (by omega) (by omega)]; exact a.h3, by rw [h _ (by omega) (by omega)]; exact a.h4, by rw [h _ (by omega) (by omega)]; exact a.h5, by rw [h _ (by omega) (by omega)]; exact a.h6, by rw [h _ (by omega) (by omega)]; exact a.h7⟩
section
variable {S : Store} {n : Nat} {b : Bk}
theorem At.i0 (a : At S n b) : isIns 0 S (.ref n) = true := isIns_of a.h0
theorem At.i1 (a : At S n b) : isIns 1 S (.ref (n + 1)) = true := isIns_of a.h1
theorem At.f0 (a : At S n b) : gFld 0 0 (.ref n) S = .ok (T b.home) S := gFld_of a.h0 0
theorem At.f1 (a : At S n b) : gFld 0 1 (.ref n) S = .ok (.ref (n + 1)) S := gFld_of a.h0 1
theorem At.f2 (a : At S n b) : gFld 0 2 (.ref n) S = .ok (.ref (n + 3)) S := gFld_of a.h0 2
theorem At.f3 (a : At S n b) : gFld 0 3 (.ref n) S = .ok (.ref (n + 4)) S := gFld_of a.h0 3
theorem At.f4 (a : At S n b) : gFld 0 4 (.ref n) S = .ok (.ref (n + 5)) S := gFld_of a.h0 4
theorem At.f5 (a : At S n b) : gFld 0 5 (.ref n) S = .ok (.ref (n + 6)) S := gFld_of a.h0 5
theorem At.f6 (a : At S n b) : gFld 0 6 (.ref n) S = .ok (.ref (n + 7)) S := gFld_of a.h0 6
theorem At.g0 (a : At S n b) : gFld 1 0 (.ref (n + 1)) S = .ok (T b.home) S := gFld_of a.h1 0
theorem At.g1 (a : At S n b) : gFld 1 1 (.ref (n + 1)) S = .ok (.ref (n + 2)) S := gFld_of a.h1 1
def isDay (d : Int) : Bool := decide (0 ≤ d) && decide (d ≤ 99999)
theorem p_is_day (S : Store) (d : Int) : sem_is_day [I d] S = .ok (Bo (isDay d)) S := by
  unfold sem_is_day isDay
  by_cases h : 0 ≤ d
  · simp [fnS_s, evChain_s, h]
  · simp [fnS_s, evChain_s, h]
theorem p_need_day (d : Int) : sem_Book_need_day [.ref n, I d] S = if isDay d = true then .ok (.d .non) S else .rz 4 S := by
  unfold sem_Book_need_day
  cases h : isDay d <;> simp [fnS_s, p_is_day, h]
theorem p_need_currency (x : Str) (hl : x.length ≤ 16777216) : sem_Book_need_currency [.ref n, T x] S = if isCur x = true then .ok (.d .non) S else .rz 2 S := by
  unfold sem_Book_need_currency
  cases h : isCur x <;> simp [fnS_s, p_is_currency, h, hl]
def closedV (ends : List Int) : Int := ends.getLast?.getD (-1)
theorem atI_last {α : Type} {xs : List α} {x : α} (h : xs.getLast? = some x) : atI xs (-1) = some x := by
  have hl : 0 < xs.length := by
    cases xs with
    | nil => cases h
    | cons a l => simp
  unfold atI ixN
  rw [if_neg (by decide), if_pos (by omega)]
  simp only [Option.bind_some]
  rw [List.getLast?_eq_getElem?] at h
  rw [← h]
  congr 1
  omega
theorem p_closed (a : At S n b) : sem_Book_closed [.ref n] S = .ok (I (closedV b.ends)) S := by
  have h5 : S[n + 5]? = some (.lst ((b.ends.map D.int).map .d)) := by rw [a.h5, List.map_map]; rfl
  have hd : depAll (b.ends.map D.int) ≤ 1 := depAll_map (n := 1) D.int _ fun _ _ => by simp
  have he : gEq false (.ref (n + 5)) (.d (.lst [])) S = .ok (Bo (eqD (.lst (b.ends.map .int)) (.lst []))) S := by
    rw [gEq_of (asD_ref h5) (asD_d _) (by rw [dep_lst]; omega)]
    rfl
  unfold sem_Book_closed closedV
  cases q : b.ends.getLast? with
  | none =>
    have : b.ends = [] := List.getLast?_eq_none_iff.mp q
    rw [this] at he
    simp [fnS_s, a.f4, he]
  | some x =>
    have hne : b.ends ≠ [] := fun e => by rw [e] at q; cases q
    have h1 : eqD (.lst (b.ends.map .int)) (.lst []) = false := by
      rw [eqD_lst]
      cases e : b.ends with
      | nil => exact absurd e hne
      | cons y ys => simp
    have h2 : gIxI (.ref (n + 5)) (-1) S = .ok (I x) S := by
      unfold gIxI
      rw [seqW_ref a.h5]
      simp only
      rw [atI_last (x := I x) (by rw [List.getLast?_map, q]; rfl)]
    simp [fnS_s, a.f4, he, h1, h2]
theorem p_need_open (a : At S n b) (d : Int) : sem_Book_need_open [.ref n, I d] S = if isDay d = true then (if d ≤ closedV b.ends then .rz 8 S else .ok (.d .non) S) else .rz 4 S := by
  unfold sem_Book_need_open
  cases h : isDay d
  · simp [fnS_s, a.i0, p_need_day, h]
  · by_cases h2 : d ≤ closedV b.ends
    · simp [fnS_s, a.i0, p_need_day, h, p_closed a, h2]
    · simp [fnS_s, a.i0, p_need_day, h, p_closed a, h2]
def isRate (t q : Int) : Bool := (decide (1 ≤ t) && decide (t ≤ 1000000000)) && (decide (1 ≤ q) && decide (q ≤ 1000000000))
theorem p_is_rate (S : Store) (t q : Int) : sem_is_rate [I t, I q] S = .ok (Bo (isRate t q)) S := by
  unfold sem_is_rate isRate
  by_cases h : 1 ≤ t <;> by_cases h2 : t ≤ 1000000000 <;> by_cases h3 : 1 ≤ q <;> simp [fnS_s, evAndV_s, evChain_s, h, h2, h3]
def pickS (c : Str) (d : Int) (f : Option RRow) (r : RRow) : Option RRow := if r.c = c then (if r.d ≤ d then (match f with
  | none => some r
  | some g => if g.d ≤ r.d then some r else f) else f) else f
def pick (c : Str) (d : Int) (rows : List RRow) : Option RRow := rows.foldl (pickS c d) none
def encF (f : RRow → Wv) : Option RRow → Wv
  | none => .d .non
  | some r => f r
theorem p_of_day (a : At S n b) (c : Str) (d : Int) : sem_Rates_of_day [.ref (n + 1), T c, I d] S = if c = b.home then .ok (.d (.tup [.int 1, .int 1])) S else match pick c d b.rows with
  | none => .ok (.d .non) S
  | some r => .ok (.d (.tup [.int r.t, .int r.q])) S := by
  obtain ⟨ρ', S', e, hr⟩ := for_fold (fun S => seqW S (.ref (n + 2)) = some (true, b.rows.map RRow.w)) 4 (sIf (evAnd (evT (evBin (gEq false) (evBin gIx (evVar 4) (evC (.int 0))) (evVar 1))) (evAnd (evT (evBin gLe (evBin gIx (evVar 4) (evC (.int 1))) (evVar 2))) (evOr (evT (evBin (gIs false) (evVar 3) (evC .non))) (evT (evBin gLe (evBin gIx (evVar 3) (evC (.int 1))) (evBin gIx (evVar 4) (evC (.int 1)))))))) (sSet 3 (evVar 4)) sNil) RRow.w
    (fun f ρ S' => S' = S ∧ ∃ r, ρ = [some (.ref (n + 1)), some (T c), some (I d), some (encF RRow.w f), r]) (pickS c d) (fun _ _ _ hh => hh.1 ▸ seqW_ref a.h2) b.rows none [some (.ref (n + 1)), some (T c), some (I d), some (.d .non), none] S (by
      rintro r _ f ρ S' ⟨rfl, z, rfl⟩
      refine ⟨_, _, .inl ?_, rfl, some r.w, rfl⟩
      by_cases h1 : r.c = c <;> by_cases h2 : r.d ≤ d
      · cases f with
        | none => simp [RRow.w, gIxI_tup, h1, h2, pickS, encF]
        | some g => by_cases h3 : g.d ≤ r.d <;> simp [RRow.w, gIxI_tup, h1, h2, h3, pickS, encF]
      · simp [RRow.w, gIxI_tup, h1, h2, pickS]
      · simp [RRow.w, gIxI_tup, h1, h2, pickS]
      · simp [RRow.w, gIxI_tup, h1, h2, pickS]) ⟨rfl, none, rfl⟩
  obtain ⟨rfl, r, rfl⟩ := hr
  unfold sem_Rates_of_day
  by_cases hc : c = b.home
  · simp [fnS_s, a.g0, hc]
  · have e' : List.foldl (pickS c d) none b.rows = pick c d b.rows := rfl
    rw [e'] at e
    cases q : pick c d b.rows with
    | none =>
      rw [q] at e
      simp [fnS_s, a.g0, a.g1, hc, itW_of (seqW_ref a.h2), e, encF]
    | some r =>
      rw [q] at e
      simp [fnS_s, a.g0, a.g1, hc, itW_of (seqW_ref a.h2), e, encF, RRow.w, gIxI_tup]
theorem p_rate (a : At S n b) (c : Str) (hl : c.length ≤ 16777216) (d : Int) : sem_Book_rate [.ref n, T c, I d] S = if isCur c = true then (if isDay d = true then (if c = b.home then .ok (.d (.tup [.int 1, .int 1])) S else match pick c d b.rows with
  | none => .rz 13 S
  | some r => .ok (.d (.tup [.int r.t, .int r.q])) S) else .rz 4 S) else .rz 2 S := by
  unfold sem_Book_rate
  cases h1 : isCur c
  · simp [fnS_s, a.i0, p_need_currency _ hl, h1]
  · cases h2 : isDay d
    · simp [fnS_s, a.i0, p_need_currency _ hl, p_need_day, h1, h2]
    · by_cases hc : c = b.home
      · subst hc
        simp [fnS_s, a.i0, a.i1, a.f1, p_need_currency _ hl, p_need_day, h1, h2, p_of_day a]
      · cases q : pick c d b.rows <;> simp [fnS_s, a.i0, a.i1, a.f1, p_need_currency _ hl, p_need_day, h1, h2, p_of_day a, hc, q]
theorem p_told (a : At S n b) (hz : b.rows.length < 16777216) (r : RRow) : ∃ S', sem_Rates_told [.ref (n + 1), T r.c, I r.d, .d (.tup [.int r.t, .int r.q])] S = .ok (.d .non) S' ∧ At S' n { b with rows := b.rows ++ [r] } ∧ Fr S n S' := by
  refine ⟨_, ?_, a.rows' (b.rows ++ [r]), Fr.set (by omega) (by omega)⟩
  have e : gAppend (.ref (n + 2)) r.w S = .ok (.d .non) (S.set (n + 2) (.lst (b.rows.map RRow.w ++ [r.w]))) := gAppend_ref a.h2 rfl (by simpa using hz)
  unfold RRow.w at e
  unfold sem_Rates_told
  simp [fnS_s, a.g1, lstOf_ref a.h2, e, RRow.w]
  rfl
theorem p_tell_rate (a : At S n b) (hz : b.rows.length < 16777216) (hz2 : b.deeds.length < 16777216) (r : RRow) (hl : r.c.length ≤ 16777216) (h1 : isCur r.c = true) (h2 : isDay r.d = true) (h3 : ¬ r.d ≤ closedV b.ends) (h4 : r.c ≠ b.home) (h5 : isRate r.t r.q = true) :
    ∃ S', sem_Book_tell_rate [.ref n, T r.c, I r.d, I r.t, I r.q] S = .ok (.d .non) S' ∧ At S' n { b with rows := b.rows ++ [r], deeds := b.deeds ++ [.rate r] } ∧ Fr S n S' := by
  obtain ⟨S1, e1, a1, f1⟩ := p_told a hz r
  have a2 := a1.deeds' (b.deeds ++ [.rate r])
  refine ⟨_, ?_, a2, f1.trans (Fr.set (by omega) (by omega))⟩
  have e : gAppend (.ref (n + 7)) (Dd.rate r).w S1 = .ok (.d .non) (S1.set (n + 7) (.lst (b.deeds.map Dd.w ++ [(Dd.rate r).w]))) := gAppend_ref a1.h7 rfl (by simpa using hz2)
  simp only [Dd.w, Dd.d] at e
  unfold sem_Book_tell_rate
  simp [fnS_s, a.i0, a.i1, a.f0, a.f1, p_need_currency _ hl, p_need_open a, h1, h2, h3, h4, p_is_rate, h5, e1, a1.f6, lstOf_ref a1.h7, e, Dd.w, Dd.d]
  try rfl
theorem p_tell_rate_no (a : At S n b) (r : RRow) (hl : r.c.length ≤ 16777216) (h : ¬ (isCur r.c = true ∧ isDay r.d = true ∧ ¬ r.d ≤ closedV b.ends ∧ r.c ≠ b.home ∧ isRate r.t r.q = true)) :
    sem_Book_tell_rate [.ref n, T r.c, I r.d, I r.t, I r.q] S = .rz (if isCur r.c = false then 2 else if isDay r.d = false then 4 else if r.d ≤ closedV b.ends then 8 else 6) S := by
  unfold sem_Book_tell_rate
  cases h1 : isCur r.c
  · simp [fnS_s, a.i0, p_need_currency _ hl, h1]
  · cases h2 : isDay r.d
    · simp [fnS_s, a.i0, p_need_currency _ hl, p_need_open a, h1, h2]
    · by_cases h3 : r.d ≤ closedV b.ends
      · simp [fnS_s, a.i0, p_need_currency _ hl, p_need_open a, h1, h2, h3]
      · by_cases h4 : r.c = b.home
        · rw [h4] at h1 hl ⊢
          simp [fnS_s, a.i0, a.f0, p_need_currency _ hl, p_need_open a, h1, h2, h3]
        · have h5 : isRate r.t r.q = false := by
            cases h5 : isRate r.t r.q
            · rfl
            · exact absurd ⟨h1, h2, h3, h4, h5⟩ h
          simp [fnS_s, a.i0, a.f0, p_need_currency _ hl, p_need_open a, h1, h2, h3, h4, p_is_rate, h5]
theorem fldPut_app {C i : Nat} {ws : List Wv} {t : List O} {v : Wv} (hi : i ≤ ws.length) (hv : v.calm = true) : fldPut (S ++ .ins C ws :: t) C i (.ref S.length) v = some (S ++ .ins C (putWs i v ws) :: t) := by
  rw [fldPut_of (ws := ws) (by simp) hi hv]
  simp
theorem fldPut_appD {C i : Nat} {ws : List Wv} {t : List O} {x : D} (hi : i ≤ ws.length) : fldPut (S ++ .ins C ws :: t) C i (.ref S.length) (.d x) = some (S ++ .ins C (putWs i (.d x) ws) :: t) := fldPut_app hi rfl
theorem fldPut_appR {C i m : Nat} {ws : List Wv} {t : List O} (hi : i ≤ ws.length) : fldPut (S ++ .ins C ws :: t) C i (.ref S.length) (.ref m) = some (S ++ .ins C (putWs i (.ref m) ws) :: t) := fldPut_app hi rfl
theorem gLstS_s (ws : List Wv) : gLstS ws S = if ws.length ≤ 1000 ∧ ws.all Wv.calm = true then .ok (.ref S.length) (S ++ [.lst ws]) else .no := rfl
theorem p_rates_make (x : Str) : gMake 1 2 sem_Rates___init__ [T x] S = .ok (.ref S.length) (S ++ [.ins 1 [T x, .ref (S.length + 1)], .lst []]) := by
  rw [gMake_s]
  unfold sem_Rates___init__
  simp [fnS_s, fldPut_appD, fldPut_appR, gLstS_s, putWs]
def bkObjs (n : Nat) (x : Str) : List O := [.ins 0 [T x, .ref (n + 1), .ref (n + 3), .ref (n + 4), .ref (n + 5), .ref (n + 6), .ref (n + 7)], .ins 1 [T x, .ref (n + 2)], .lst [], .lst [T "exchange"], .lst [], .lst [], .dK [], .lst [.d (.tup [.str "home", .str x])]]
def bk0 (h : Str) : Bk := ⟨h, [], ["exchange"], [], [], [], [.home h]⟩
theorem at_bk0 (h : Str) (t : List O) : At (bkObjs 0 h ++ t) 0 (bk0 h) := ⟨rfl, rfl, rfl, rfl, rfl, rfl, rfl, rfl⟩
theorem p_book_make (x : Str) (hl : x.length ≤ 16777216) (h : isCur x = true) : gMake 0 2 sem_Book___init__ [T x] S = .ok (.ref S.length) (S ++ bkObjs S.length x) := by
  have e := p_rates_make (S := S ++ [.ins 0 [T x]]) x
  simp only [List.length_append, List.length_singleton, List.append_assoc, List.cons_append, List.nil_append] at e
  rw [gMake_s]
  unfold sem_Book___init__
  simp [fnS_s, p_is_currency, hl, h, fldPut_appD, fldPut_appR, putWs, e, gLstS_s, bkObjs]
theorem p_book_bad (x : Str) (hl : x.length ≤ 16777216) (h : isCur x = false) : gMake 0 2 sem_Book___init__ [T x] S = .rz 2 (S ++ [.ins 0 []]) := by
  rw [gMake_s]
  unfold sem_Book___init__
  simp [fnS_s, p_is_currency, hl, h]
/-- the sum of the amounts of a currency -/
def sumOf (c : Str) : List Ln → Int
  | [] => 0
  | l :: r => (if l.c = c then l.x else 0) + sumOf c r
theorem sumOf_app (c : Str) : ∀ a b : List Ln, sumOf c (a ++ b) = sumOf c a + sumOf c b
  | [], b => by simp [sumOf]
  | l :: a, b => by simp [sumOf, sumOf_app c a b]; omega
theorem sumOf_none {c : Str} : ∀ {ls : List Ln}, (∀ l ∈ ls, l.c ≠ c) → sumOf c ls = 0
  | [], _ => rfl
  | l :: r, h => by rw [sumOf, if_neg (h l List.mem_cons_self), sumOf_none fun x hx => h x (List.mem_cons_of_mem _ hx)]; rfl
def Sums (kvs : List (Key × Wv)) (pre : List Ln) : Prop := (∀ p ∈ kvs, ∃ c, p = (.inr c, I (sumOf c pre))) ∧ ∀ l ∈ pre, ∃ p ∈ kvs, p.1 = .inr l.c
theorem atK_some {κ : Type} [DecidableEq κ] {kvs : List (κ × Wv)} {k : κ} {w : Wv} (h : atK kvs k = some w) : (k, w) ∈ kvs := by
  unfold atK at h
  cases q : kvs.find? fun kv => decide (kv.1 = k) with
  | none => rw [q] at h; cases h
  | some p =>
    rw [q] at h
    cases h
    have h1 := List.find?_some q
    have h2 := List.mem_of_find?_eq_some q
    have : p.1 = k := of_decide_eq_true h1
    rw [← this]
    exact h2
theorem atK_none {κ : Type} [DecidableEq κ] {kvs : List (κ × Wv)} {k : κ} (h : atK kvs k = none) : ∀ p ∈ kvs, p.1 ≠ k := by
  unfold atK at h
  cases q : kvs.find? fun kv => decide (kv.1 = k) with
  | some p => rw [q] at h; cases h
  | none =>
    intro p hp e
    have := List.find?_eq_none.mp q p hp
    simp [e] at this
theorem putKW_mem {κ : Type} [DecidableEq κ] {kvs : List (κ × Wv)} {k : κ} {w : Wv} {p : κ × Wv} (h : p ∈ putKW kvs k w) : p = (k, w) ∨ (p ∈ kvs ∧ p.1 ≠ k) := by
  unfold putKW at h
  split at h
  · obtain ⟨q, hq, e⟩ := List.mem_map.mp h
    by_cases hk : q.1 = k
    · rw [if_pos hk] at e; left; rw [← e, hk]
    · rw [if_neg hk] at e; right; exact ⟨e ▸ hq, e ▸ hk⟩
  · rename_i hn
    rcases List.mem_append.mp h with h | h
    · right
      refine ⟨h, fun e => hn ?_⟩
      exact List.any_eq_true.mpr ⟨p, h, decide_eq_true e⟩
    · left; simpa using h
theorem putKW_key {κ : Type} [DecidableEq κ] {kvs : List (κ × Wv)} {k j : κ} {w : Wv} (h : j = k ∨ ∃ p ∈ kvs, p.1 = j) : ∃ p ∈ putKW kvs k w, p.1 = j := by
  unfold putKW
  split
  · rename_i ha
    have go : ∀ q ∈ kvs, q.1 = j → ∃ p ∈ kvs.map (fun kv => if kv.1 = k then (kv.1, w) else kv), p.1 = j := fun q hq e => by
      refine ⟨_, List.mem_map.mpr ⟨q, hq, rfl⟩, ?_⟩
      split <;> exact e
    rcases h with rfl | ⟨p, hp, e⟩
    · obtain ⟨q, hq, e⟩ := List.any_eq_true.mp ha
      exact go q hq (of_decide_eq_true e)
    · exact go p hp e
  · rcases h with rfl | ⟨p, hp, e⟩
    · exact ⟨(j, w), List.mem_append_right _ (by simp), rfl⟩
    · exact ⟨p, List.mem_append_left _ hp, e⟩
theorem putKW_len {κ : Type} [DecidableEq κ] {kvs : List (κ × Wv)} {k : κ} {w : Wv} : (putKW kvs k w).length ≤ kvs.length + 1 := by
  unfold putKW
  split
  · simp
  · simp
theorem Sums.get {kvs : List (Key × Wv)} {pre : List Ln} (h : Sums kvs pre) (c : Str) : (atK kvs (.inr c) = none ∧ sumOf c pre = 0) ∨ atK kvs (.inr c) = some (I (sumOf c pre)) := by
  cases q : atK kvs (.inr c) with
  | none =>
    left
    refine ⟨rfl, sumOf_none fun l hl e => ?_⟩
    obtain ⟨p, hp, e2⟩ := h.2 l hl
    exact atK_none q p hp (by rw [e2, e])
  | some w =>
    right
    obtain ⟨c', e⟩ := h.1 _ (atK_some q)
    cases e
    rfl
theorem Sums.put {kvs : List (Key × Wv)} {pre : List Ln} (h : Sums kvs pre) (a : Ln) : Sums (putKW kvs (.inr a.c) (I (sumOf a.c pre + a.x))) (pre ++ [a]) := by
  refine ⟨fun p hp => ?_, fun l hl => ?_⟩
  · rcases putKW_mem hp with rfl | ⟨hp, hk⟩
    · exact ⟨a.c, by simp [sumOf_app, sumOf]⟩
    · obtain ⟨c, rfl⟩ := h.1 p hp
      have : ¬ a.c = c := fun e => hk (by rw [e])
      exact ⟨c, by simp [sumOf_app, sumOf, this]⟩
  · rcases List.mem_append.mp hl with hl | hl
    · exact putKW_key (.inr (h.2 l hl))
    · have : l = a := by simpa using hl
      exact putKW_key (.inl (by rw [this]))
def bal (ls : List Ln) : Bool := ls.all fun l => decide (sumOf l.c ls = 0)
theorem bal_iff {ls : List Ln} : bal ls = true ↔ ∀ c, sumOf c ls = 0 := by
  unfold bal
  rw [List.all_eq_true]
  refine ⟨fun h c => ?_, fun h l _ => decide_eq_true (h _)⟩
  by_cases hc : ∃ l ∈ ls, l.c = c
  · obtain ⟨l, hl, rfl⟩ := hc
    exact of_decide_eq_true (h l hl)
  · exact sumOf_none fun l hl e => hc ⟨l, hl, e⟩
theorem Sums.vals {kvs : List (Key × Wv)} {ls : List Ln} (h : Sums kvs ls) : ∃ vs : List Int, kvs.map (·.2) = vs.map I ∧ vs.all (fun v => decide (v = 0)) = bal ls := by
  have go : ∀ kvs : List (Key × Wv), (∀ p ∈ kvs, ∃ c, p = (.inr c, I (sumOf c ls))) → ∃ cs : List Str, kvs = cs.map fun c => (.inr c, I (sumOf c ls)) := by
    intro kvs
    induction kvs with
    | nil => exact fun _ => ⟨[], rfl⟩
    | cons p kvs ih =>
      intro hh
      obtain ⟨c, rfl⟩ := hh p List.mem_cons_self
      obtain ⟨cs, e⟩ := ih fun q hq => hh q (List.mem_cons_of_mem _ hq)
      exact ⟨c :: cs, by rw [e]; rfl⟩
  obtain ⟨cs, rfl⟩ := go kvs h.1
  refine ⟨cs.map fun c => sumOf c ls, by simp, ?_⟩
  rw [Bool.eq_iff_iff, bal_iff]
  simp only [List.all_map, List.all_eq_true, Function.comp_apply, decide_eq_true_eq]
  refine ⟨fun hh c => ?_, fun hh c _ => hh c⟩
  by_cases hc : ∃ l ∈ ls, l.c = c
  · obtain ⟨l, hl, rfl⟩ := hc
    obtain ⟨p, hp, e⟩ := h.2 l hl
    obtain ⟨c', hc', rfl⟩ := List.mem_map.mp hp
    have : c' = l.c := by simpa using e
    exact this ▸ hh c' hc'
  · exact sumOf_none fun l hl e => hc ⟨l, hl, e⟩
theorem p_balanced (S : Store) (w : Wv) (k : Bool) (ls : List Ln) (hl : ls.length ≤ 1000) (h : ∀ o, seqW (S ++ [o]) w = some (k, ls.map Ln.w)) : sem_balanced [w] S = .ok (Bo (bal ls)) S := by
  obtain ⟨ρ', S', e, hr⟩ := for_pre (fun S' => seqW S' w = some (k, ls.map Ln.w)) 2 (sDPutS (evVar 1) (evBin gIx (evVar 2) (evC (.int 1))) (evBin gAdd (evGet2 (evVar 1) (evBin gIx (evVar 2) (evC (.int 1))) (evC (.int 0))) (evBin gIx (evVar 2) (evC (.int 2))))) Ln.w
    (fun pre ρ S' => ∃ kvs r, S' = S ++ [.dK kvs] ∧ ρ = [some w, some (.ref S.length), r, none] ∧ Sums kvs pre ∧ kvs.length ≤ pre.length) (fun _ _ _ hh => by obtain ⟨kvs, r, rfl, _⟩ := hh; exact h _) ls ls [] [some w, some (.ref S.length), none, none] (S ++ [.dK []]) rfl (by
      rintro pre a post ρ S' ea ⟨kvs, r, rfl, rfl, hs, hz⟩
      refine ⟨_, _, .inl ?_, putKW kvs (.inr a.c) (I (sumOf a.c pre + a.x)), some a.w, rfl, rfl, hs.put a, ?_⟩
      · have e1 : (S ++ [O.dK kvs])[S.length]? = some (.dK kvs) := by simp
        have hp : pre.length + (a :: post).length = ls.length := by rw [ea, List.length_append]
        have hlk : kvs.length < 16777216 := by simp at hp; omega
        have hput : ∀ i, dPut (S ++ [O.dK kvs]) S.length (.d (.str a.c)) (.d (.int i)) = some ((S ++ [O.dK kvs]).set S.length (.dK (putKW kvs (.inr a.c) (.d (.int i))))) := fun i => dPut_K e1 (asKey_str a.c) rfl hlk
        rcases hs.get a.c with ⟨g, hg⟩ | g
        · simp [Ln.w, Ln.d, gIxI_tup, isDict_K e1, dictW_K e1 (asKey_str a.c), g, hg, hput]
        · simp [Ln.w, Ln.d, gIxI_tup, isDict_K e1, dictW_K e1 (asKey_str a.c), g, hput]
      · have := putKW_len (kvs := kvs) (k := .inr a.c) (w := I (sumOf a.c pre + a.x))
        rw [List.length_append]
        simp only [List.length_singleton]
        omega) ⟨[], none, rfl, rfl, ⟨by simp, by simp⟩, by simp⟩
  obtain ⟨kvs, r, rfl, rfl, hs, hz⟩ := hr
  obtain ⟨vs, hv, hb⟩ := hs.vals
  have e1 : (S ++ [O.dK kvs])[S.length]? = some (.dK kvs) := by simp
  have hlc := lc_map (S := (S ++ [O.dK kvs]).set S.length .dead) (ρ := [some w, some (.ref S.length), r, none]) (fun _ => True) 3 (evBin (gEq false) (evVar 3) (evC (.int 0))) DL.I (fun v => Bo (decide (v = 0))) trivial (fun _ => rfl) vs (by
    intro a _
    simp)
  have hvl : vs.length ≤ 16777216 := by have := congrArg List.length hv; simp at this; omega
  have he : evLcV gFrz 1 3 [3] evYes (evBin (gEq false) (evVar 3) (evC (.int 0))) [some w, some (.ref S.length), r, none] (S ++ [O.dK kvs]) = .ok (.d (.lst (vs.map fun v => .bl (decide (v = 0))))) (S ++ [O.dK kvs]) := by
    unfold evLcV
    simp only [List.getElem?_cons_succ, List.getElem?_cons_zero, e1]
    rw [hv]
    simp only [wipeE_cons, wipeE_nil, List.set_cons_succ, List.set_cons_zero, List.length_map]
    rw [if_pos hvl, hlc, bind_ok, gFrz_map]
    simp [unlockR]
  unfold sem_balanced
  simp [fnP, fnS_s, itW_of (h _), e, he, gAll_map, hb, trim, Wv.under]
def az : Str := "abcdefghijklmnopqrstuvwxyz"
def d09 : Str := "0123456789"
theorem ixaz {i : Int} (h0 : 0 ≤ i) (h1 : i < 26) : gIxI (.d (.str "abcdefghijklmnopqrstuvwxyz")) i S = .ok (.d (.str (sgn az i))) S :=
  ix_str (z := az) h0 (by rw [show az.length = 26 by decide +kernel]; exact h1) (by rw [show az.length = 26 by decide +kernel]; decide)
def isNameS (c : Nat) : Bool := decide (c ∈ az.cps.toList) || decide (c ∈ d09.cps.toList)
def isName (x : Str) : Bool := (decide (1 ≤ x.length) && decide (x.length ≤ 12)) && (decide (x.cps.toList.getD 0 0 ∈ az.cps.toList) && x.cps.toList.all isNameS)
theorem p_is_name (x : Str) (hl : x.length ≤ 16777216) : sem_is_name [T x] S = .ok (Bo (isName x)) S := by
  have e := lc_map (S := S) (ρ := [some (T x), none]) (fun _ => True) 1 (evOrV (evBin (gIn false) (evVar 1) (evC (.str "abcdefghijklmnopqrstuvwxyz"))) (evBin (gIn false) (evVar 1) (evC (.str "0123456789")))) (fun c => .d (.str ⟨#[c]⟩)) (fun c => .d (.bl (isNameS c))) trivial (fun _ => rfl) x.cps.toList (by
    intro c _
    have e1 : (("abcdefghijklmnopqrstuvwxyz" : Str)) = az := rfl
    have e2 : (("0123456789" : Str)) = d09 := rfl
    by_cases hc : c ∈ az.cps.toList
    · simp [evOrV_s, gIn_sign, isNameS, e1, hc]
    · simp [evOrV_s, gIn_sign, isNameS, e1, e2, hc])
  have hlen : x.cps.toList.length = x.length := by simp; rfl
  have ev : evLc gFrz (evItems (evVar 0)) 1 [1] evYes (evOrV (evBin (gIn false) (evVar 1) (evC (.str "abcdefghijklmnopqrstuvwxyz"))) (evBin (gIn false) (evVar 1) (evC (.str "0123456789")))) [some (T x), none] S = .ok (.d (.lst (x.cps.toList.map fun c => .bl (isNameS c)))) S := by
    rw [evLc_s]
    simp only [evItems_s, evVar_s, List.getElem?_cons_zero, bind_ok, itW_str, List.length_map, wipeE_cons, wipeE_nil, List.set_cons_succ, List.set_cons_zero]
    rw [if_pos (by omega), e, bind_ok, gFrz_map]
  have ga : gAll [.d (.lst (x.cps.toList.map fun c => .bl (isNameS c)))] S = .ok (Bo (x.cps.toList.all isNameS)) S := gAll_map _ _
  unfold sem_is_name isName
  generalize x.cps.toList.all isNameS = al at *
  generalize (x.cps.toList.map fun c => D.bl (isNameS c)) = L at *
  by_cases h : 1 ≤ x.length ∧ x.length ≤ 12
  · have hi : gIxI (.d (.str x)) 0 S = .ok (.d (.str ⟨#[x.cps.toList.getD 0 0]⟩)) S := ix_str (by decide) (by omega) hl
    have h1 : (1 : Int) ≤ x.length := by omega
    have h2 : (x.length : Int) ≤ 12 := by omega
    generalize x.cps.toList.getD 0 0 = c0 at *
    have hin : gIn true (.d (.str ⟨#[c0]⟩)) (.d (.str "abcdefghijklmnopqrstuvwxyz")) S = .ok (Bo (!decide (c0 ∈ az.cps.toList))) S := gIn_sign
    generalize decide (c0 ∈ az.cps.toList) = m at *
    cases m <;> simp [fnS_s, evChain_s, hl, h1, h2, hi, hin, ev, ga, h.1, h.2]
  · by_cases h1 : (1 : Int) ≤ x.length
    · have h2 : ¬ (x.length : Int) ≤ 12 := by omega
      have h3 : ¬ x.length ≤ 12 := by omega
      simp [fnS_s, evChain_s, hl, h1, h2, h3]
    · have h3 : ¬ 1 ≤ x.length := by omega
      simp [fnS_s, evChain_s, hl, h1, h3]
theorem p_need_account (a : At S n b) (x : Str) : sem_Book_need_account [.ref n, T x] S = if x ∈ b.names then .ok (.d .non) S else .rz 11 S := by
  unfold sem_Book_need_account
  by_cases h : x ∈ b.names <;> simp [fnS_s, a.f2, gIn_names a.h3, h]
theorem p_admit (a : At S n b) (hz : b.names.length < 1000000) (hz2 : b.deeds.length < 1000000) (x : Str) (hl : x.length ≤ 16777216) (h1 : isName x = true) (h2 : x ∉ b.names) :
    ∃ S', sem_Book_admit [.ref n, T x] S = .ok (.d .non) S' ∧ At S' n { b with names := b.names ++ [x], deeds := b.deeds ++ [Dd.acc x] } ∧ Fr S n S' := by
  have a1 := a.names' (b.names ++ [x])
  have a2 := a1.deeds' (b.deeds ++ [Dd.acc x])
  refine ⟨_, ?_, a2, (Fr.set (by omega) (by omega)).trans (Fr.set (by omega) (by omega))⟩
  have e0 : gAppend (.ref (n + 3)) (T x) S = .ok (.d .non) (S.set (n + 3) (.lst (b.names.map T ++ [T x]))) := gAppend_ref a.h3 rfl (by simp; omega)
  have e0' : b.names.map T ++ [T x] = (b.names ++ [x]).map T := by simp
  rw [e0'] at e0
  have e : gAppend (.ref (n + 7)) (Dd.acc x).w (S.set (n + 3) (.lst ((b.names ++ [x]).map T))) = .ok (.d .non) ((S.set (n + 3) (.lst ((b.names ++ [x]).map T))).set (n + 7) (.lst (b.deeds.map Dd.w ++ [(Dd.acc x).w]))) := gAppend_ref a1.h7 rfl (by simp; omega)
  have e' : b.deeds.map Dd.w ++ [(Dd.acc x).w] = (b.deeds ++ [Dd.acc x]).map Dd.w := by simp
  rw [e'] at e
  have l3 := lstOf_ref a.h3
  have l7 := lstOf_ref a1.h7
  have f6 := a1.f6
  simp only [Dd.w, Dd.d] at e
  generalize hS1 : S.set (n + 3) (.lst ((b.names ++ [x]).map T)) = S1 at *
  unfold sem_Book_admit
  simp [fnS_s, p_is_name _ hl, h1, a.f2, gIn_names a.h3, h2, l3, e0, f6, l7, e]
theorem p_admit_no (a : At S n b) (x : Str) (hl : x.length ≤ 16777216) (h : ¬ (isName x = true ∧ x ∉ b.names)) : sem_Book_admit [.ref n, T x] S = .rz (if isName x = false then 1 else 9) S := by
  unfold sem_Book_admit
  cases h1 : isName x
  · simp [fnS_s, p_is_name _ hl, h1]
  · have h2 : x ∈ b.names := by
      by_cases h2 : x ∈ b.names
      · exact h2
      · exact absurd ⟨h1, h2⟩ h
    simp [fnS_s, p_is_name _ hl, h1, a.f2, gIn_names a.h3, h2]
def isNoteS (c : Nat) : Bool := decide (32 ≤ c) && decide (c ≤ 126)
def isNote (x : Str) : Bool := decide (x.length ≤ 40) && x.cps.toList.all isNoteS
theorem lt_one (a c : Nat) : decide ([a] < [c]) = decide (a < c) := by
  by_cases h : a < c
  · have h1 : [a] < [c] := List.Lex.rel h
    rw [decide_eq_true h, decide_eq_true h1]
  · have h2 : ¬ [a] < [c] := fun q => by
      cases q with
      | rel q => exact h q
      | cons q => cases q
    rw [decide_eq_false h, decide_eq_false h2]
theorem le_blank (c : Nat) : gLe (.d (.str " ")) (.d (.str ⟨#[c]⟩)) S = .ok (Bo (decide (32 ≤ c))) S := by
  have e1 : (" " : Str).cps.toList = [32] := by decide +kernel
  rw [gLe_str, e1, show (⟨#[c]⟩ : Str).cps.toList = [c] from rfl, lt_one]
  by_cases h : c < 32
  · have : ¬ 32 ≤ c := by omega
    simp [h, this]
  · have : 32 ≤ c := by omega
    simp [h, this]
theorem le_tilde (c : Nat) : gLe (.d (.str ⟨#[c]⟩)) (.d (.str "~")) S = .ok (Bo (decide (c ≤ 126))) S := by
  have e1 : ("~" : Str).cps.toList = [126] := by decide +kernel
  rw [gLe_str, e1, show (⟨#[c]⟩ : Str).cps.toList = [c] from rfl, lt_one]
  by_cases h : 126 < c
  · have : ¬ c ≤ 126 := by omega
    simp [h, this]
  · have : c ≤ 126 := by omega
    simp [h, this]
theorem p_is_note (x : Str) (hl : x.length ≤ 16777216) : sem_is_note [T x] S = .ok (Bo (isNote x)) S := by
  have e := lc_map (S := S) (ρ := [some (T x), none]) (fun _ => True) 1 (evChain gLe gLe (evC (.str " ")) (evVar 1) (evC (.str "~"))) (fun c => .d (.str ⟨#[c]⟩)) (fun c => .d (.bl (isNoteS c))) trivial (fun _ => rfl) x.cps.toList (by
    intro c _
    unfold isNoteS
    simp only [evChain_s, evC_s, evVar_s, List.set_cons_succ, List.set_cons_zero, List.getElem?_cons_succ, List.getElem?_cons_zero, bind_ok, le_blank, asB_bl]
    by_cases hc : 32 ≤ c
    · rw [decide_eq_true hc, if_pos rfl, le_tilde]; rfl
    · rw [decide_eq_false hc, if_neg Bool.false_ne_true]; rfl)
  have hlen : x.cps.toList.length = x.length := by simp; rfl
  have ev : evLc gFrz (evItems (evVar 0)) 1 [1] evYes (evChain gLe gLe (evC (.str " ")) (evVar 1) (evC (.str "~"))) [some (T x), none] S = .ok (.d (.lst (x.cps.toList.map fun c => .bl (isNoteS c)))) S := by
    rw [evLc_s]
    simp only [evItems_s, evVar_s, List.getElem?_cons_zero, bind_ok, itW_str, List.length_map, wipeE_cons, wipeE_nil, List.set_cons_succ, List.set_cons_zero]
    rw [if_pos (by omega), e, bind_ok, gFrz_map]
  have ga : gAll [.d (.lst (x.cps.toList.map fun c => .bl (isNoteS c)))] S = .ok (Bo (x.cps.toList.all isNoteS)) S := gAll_map _ _
  unfold sem_is_note isNote
  generalize x.cps.toList.all isNoteS = al at *
  generalize (x.cps.toList.map fun c => D.bl (isNoteS c)) = L at *
  by_cases h : x.length ≤ 40
  · have h1 : (x.length : Int) ≤ 40 := by omega
    simp [fnS_s, evAndV_s, hl, h1, h, ev, ga]
  · have h1 : ¬ (x.length : Int) ≤ 40 := by omega
    simp [fnS_s, evAndV_s, hl, h1, h]
def isAmt (x : Int) : Bool := decide (x ≠ 0) && decide ((if x < 0 then -x else x) < 1000000000000000000000000000000)
theorem p_is_amount (x : Int) : sem_is_amount [I x] S = .ok (Bo (isAmt x)) S := by
  unfold sem_is_amount isAmt
  by_cases h : x = 0
  · simp [fnS_s, evAndV_s, h]
  · simp [fnS_s, evAndV_s, h]
theorem p_noted (a : At S n b) (hz : b.ents.length < 1000000) (day : Int) (note : Str) (ls : List Ln) (back : Int) : ∃ S', sem_Book_noted [.ref n, I day, T note, .d (.tup (ls.map Ln.d)), I back] S = .ok (I (b.ents.length + 1)) S' ∧
    At S' n { b with ents := b.ents ++ [En.mk (b.ents.length + 1) day note ls back] } ∧ Fr S n S' := by
  refine ⟨_, ?_, a.ents' (b.ents ++ [En.mk (b.ents.length + 1) day note ls back]), Fr.set (by omega) (by omega)⟩
  have e : gAppend (.ref (n + 4)) (En.mk (b.ents.length + 1) day note ls back).w S = .ok (.d .non) (S.set (n + 4) (.lst (b.ents.map En.w ++ [(En.mk (b.ents.length + 1) day note ls back).w]))) := gAppend_ref a.h4 rfl (by simp; omega)
  have e' : b.ents.map En.w ++ [(En.mk (b.ents.length + 1) day note ls back).w] = (b.ents ++ [En.mk (b.ents.length + 1) day note ls back]).map En.w := by simp
  rw [e'] at e
  generalize S.set (n + 4) (.lst ((b.ents ++ [En.mk (b.ents.length + 1) day note ls back]).map En.w)) = S1 at *
  simp only [En.w, En.d] at e
  unfold sem_Book_noted
  simp [fnS_s, a.f3, gLen_ref a.h4, lstOf_ref a.h4, e]
def lineE (b : Bk) (l : Ln) : Option Nat := if l.a ∉ b.names then some 11 else if isCur l.c = false then some 2 else if isAmt l.x = false then some 3 else none
def postE (b : Bk) (day : Int) (note : Str) (ls : List Ln) : Option Nat :=
  if isDay day = false then some 4 else if day ≤ closedV b.ends then some 8 else if isNote note = false then some 5 else if ¬ (2 ≤ ls.length ∧ ls.length ≤ 60) then some 7 else
  match ls.findSome? (lineE b) with
  | some e => some e
  | none => if bal ls = true then none else some 7
theorem map_lnw (ls : List Ln) : ls.map Ln.w = (ls.map Ln.d).map .d := by rw [List.map_map]; rfl
theorem p_post_lines (a : At S n b) (x1 x2 x3 : Option Wv) (w4 : Wv) (chk : Store → Prop) (hc : chk S) (ls : List Ln) (hl : ∀ l ∈ ls, l.c.length ≤ 16777216) (x5 : Option Wv) : match ls.findSome? (lineE b) with
    | some e => ∃ ρ', sForL chk 5 lb_Book_post_1 (ls.map Ln.w) [some (.ref n), x1, x2, x3, some w4, x5] S = .rz e ρ' S
    | none => ∃ ρ', sForL chk 5 lb_Book_post_1 (ls.map Ln.w) [some (.ref n), x1, x2, x3, some w4, x5] S = .nx ρ' S ∧ ∃ x5, ρ' = [some (.ref n), x1, x2, x3, some w4, x5] := by
  refine for_first chk 5 lb_Book_post_1 Ln.w (fun ρ => ∃ x5, ρ = [some (.ref n), x1, x2, x3, some w4, x5]) (lineE b) S hc ls _ (fun l hl' ρ hr => ?_) ⟨x5, rfl⟩
  obtain ⟨x5, rfl⟩ := hr
  have hcl := hl l hl'
  unfold lineE
  by_cases h1 : l.a ∈ b.names
  · cases h2 : isCur l.c
    · simp only [h1, not_true_eq_false, if_false, if_true]
      exact ⟨_, by simp [lb_Book_post_1, Ln.w, Ln.d, gIxI_tup, a.i0, p_need_account a, h1, p_need_currency _ hcl, h2]; rfl⟩
    · cases h3 : isAmt l.x
      · simp only [h1, not_true_eq_false, if_false, if_true, Bool.true_eq_false]
        exact ⟨_, by simp [lb_Book_post_1, Ln.w, Ln.d, gIxI_tup, a.i0, p_need_account a, h1, p_need_currency _ hcl, h2, p_is_amount, h3]; rfl⟩
      · simp only [h1, not_true_eq_false, if_false, Bool.true_eq_false]
        exact ⟨_, by simp [lb_Book_post_1, Ln.w, Ln.d, gIxI_tup, a.i0, p_need_account a, h1, p_need_currency _ hcl, h2, p_is_amount, h3]; rfl, _, rfl⟩
  · simp only [h1, not_false_eq_true, if_true]
    exact ⟨_, by simp [lb_Book_post_1, Ln.w, Ln.d, gIxI_tup, a.i0, p_need_account a, h1]; rfl⟩
theorem p_post (a : At S n b) (hz : b.ents.length < 1000000) (hz2 : b.deeds.length < 1000000) (day : Int) (note : Str) (hn : note.length ≤ 16777216) (w : Wv) (k : Bool) (ls : List Ln) (hw : seqW S w = some (k, ls.map Ln.w)) (hls : ls.length ≤ 1000) (hl : ∀ l ∈ ls, l.c.length ≤ 16777216) :
    match postE b day note ls with
    | some e => sem_Book_post [.ref n, I day, T note, w] S = .rz e S
    | none => ∃ S', sem_Book_post [.ref n, I day, T note, w] S = .ok (I (b.ents.length + 1)) S' ∧ At S' n { b with deeds := b.deeds ++ [Dd.ent day note ls], ents := b.ents ++ [En.mk (b.ents.length + 1) day note ls 0] } ∧ Fr S n S' := by
  have ec := lc_map (S := S) (ρ := [some (.ref n), some (I day), some (T note), some w, none, none]) (fun S => seqW S w = some (k, ls.map Ln.w)) 5 (evN gTup (evCons (evBin gIx (evVar 5) (evC (.int 0))) (evCons (evBin gIx (evVar 5) (evC (.int 1))) (evCons (evBin gIx (evVar 5) (evC (.int 2))) evNil)))) Ln.w (fun l => .d l.d) hw (fun _ => rfl) ls (by
    intro l _
    simp [Ln.w, Ln.d, gIxI_tup])
  have hc : evLc gFrz (evItems (evVar 3)) 5 [5] evYes (evN gTup (evCons (evBin gIx (evVar 5) (evC (.int 0))) (evCons (evBin gIx (evVar 5) (evC (.int 1))) (evCons (evBin gIx (evVar 5) (evC (.int 2))) evNil)))) [some (.ref n), some (I day), some (T note), some w, none, none] S = .ok (.d (.lst (ls.map Ln.d))) S := by
    rw [evLc_s]
    simp only [evItems_s, evVar_s, List.getElem?_cons_succ, List.getElem?_cons_zero, bind_ok, itW_of hw, List.length_map, wipeE_cons, wipeE_nil, List.set_cons_succ, List.set_cons_zero]
    rw [if_pos (by omega), ec, bind_ok, gFrz_map]
  have hlp := p_post_lines a (some (I day)) (some (T note)) (some w) (.d (.tup (ls.map Ln.d))) (fun _ => True) trivial ls hl none
  have hb : sem_balanced [.d (.tup (ls.map Ln.d))] S = .ok (Bo (bal ls)) S := p_balanced S _ false ls hls fun o => by simp [map_lnw]
  have e0 : ls.map (Wv.d ∘ Ln.d) = ls.map Ln.w := rfl
  unfold postE
  cases h1 : isDay day
  · simp only [if_true]
    unfold sem_Book_post
    simp [fnS_s, a.i0, p_need_open a, h1]
  · by_cases h2 : day ≤ closedV b.ends
    · simp only [Bool.true_eq_false, if_false, h2, if_true]
      unfold sem_Book_post
      simp [fnS_s, a.i0, p_need_open a, h1, h2]
    · cases h3 : isNote note
      · simp only [Bool.true_eq_false, if_false, h2, if_true]
        unfold sem_Book_post
        simp [fnS_s, a.i0, p_need_open a, h1, h2, p_is_note _ hn, h3]
      · by_cases h4 : 2 ≤ ls.length ∧ ls.length ≤ 60
        · have h4a : (2 : Int) ≤ ls.length := by omega
          have h4b : (ls.length : Int) ≤ 60 := by omega
          simp only [Bool.true_eq_false, if_false, h2, h4, not_true_eq_false, and_self]
          cases h5 : ls.findSome? (lineE b) with
          | some e =>
            rw [h5] at hlp
            obtain ⟨ρ', e1⟩ := hlp
            simp only
            unfold sem_Book_post
            simp [fnS_s, a.i0, p_need_open a, h1, h2, p_is_note _ hn, h3, hc, evChain_s, h4a, h4b, e0, e1]
          | none =>
            rw [h5] at hlp
            obtain ⟨ρ', e1, x5, rfl⟩ := hlp
            simp only
            cases h6 : bal ls
            · simp only [Bool.false_eq_true, if_false]
              unfold sem_Book_post
              simp [fnS_s, a.i0, p_need_open a, h1, h2, p_is_note _ hn, h3, hc, evChain_s, h4a, h4b, e0, e1, hb, h6]
            · simp only [if_true]
              have a1 := a.deeds' (b.deeds ++ [Dd.ent day note ls])
              have ed : gAppend (.ref (n + 7)) (Dd.ent day note ls).w S = .ok (.d .non) (S.set (n + 7) (.lst (b.deeds.map Dd.w ++ [(Dd.ent day note ls).w]))) := gAppend_ref a.h7 rfl (by simp; omega)
              have e' : b.deeds.map Dd.w ++ [(Dd.ent day note ls).w] = (b.deeds ++ [Dd.ent day note ls]).map Dd.w := by simp
              rw [e'] at ed
              have fr1 : Fr S n (S.set (n + 7) (.lst ((b.deeds ++ [Dd.ent day note ls]).map Dd.w))) := Fr.set (by omega) (by omega)
              generalize S.set (n + 7) (.lst ((b.deeds ++ [Dd.ent day note ls]).map Dd.w)) = S1 at *
              obtain ⟨S2, e2, a2, f2⟩ := p_noted a1 hz day note ls 0
              refine ⟨S2, ?_, a2, fr1.trans f2⟩
              simp only [Dd.w, Dd.d] at ed
              unfold sem_Book_post
              simp [fnS_s, a.i0, p_need_open a, h1, h2, p_is_note _ hn, h3, hc, evChain_s, h4a, h4b, e0, e1, hb, h6, a.f6, lstOf_ref a.h7, ed, a1.i0, e2]
        · simp only [Bool.true_eq_false, if_false, h2, h4, not_false_eq_true, if_true]
          unfold sem_Book_post
          by_cases h5 : (2 : Int) ≤ ls.length
          · have h6 : ¬ (ls.length : Int) ≤ 60 := by omega
            simp [fnS_s, a.i0, p_need_open a, h1, h2, p_is_note _ hn, h3, hc, evChain_s, h5, h6]
          · simp [fnS_s, a.i0, p_need_open a, h1, h2, p_is_note _ hn, h3, hc, evChain_s, h5]
theorem ents_at (a : At S n b) {k : Int} (h1 : 1 ≤ k) (h2 : k ≤ b.ents.length) : ∃ e, b.ents[(k - 1).toNat]? = some e ∧ gIxI (.ref (n + 4)) (k - 1) S = .ok e.w S := by
  have hl : (k - 1).toNat < b.ents.length := by omega
  refine ⟨b.ents[(k - 1).toNat], List.getElem?_eq_getElem hl, ?_⟩
  rw [gIxI_ref a.h4, atI_of (j := (k - 1).toNat) (x := (b.ents[(k - 1).toNat]).w) (by omega) (by rw [List.getElem?_map, List.getElem?_eq_getElem hl]; rfl)]
theorem p_entry (a : At S n b) (k : Int) : sem_Book_entry [.ref n, I k] S = if 1 ≤ k ∧ k ≤ b.ents.length then (match b.ents[(k - 1).toNat]? with
  | some e => .ok e.w S
  | none => .no) else .rz 12 S := by
  unfold sem_Book_entry
  by_cases h1 : 1 ≤ k
  · by_cases h2 : k ≤ b.ents.length
    · obtain ⟨e, h3, h4⟩ := ents_at a h1 h2
      rw [if_pos ⟨h1, h2⟩, h3]
      simp [fnS_s, evChain_s, a.f3, gLen_ref a.h4, h1, h2, h4, En.w]
    · have h3 : ¬ (1 ≤ k ∧ k ≤ b.ents.length) := by omega
      simp [fnS_s, evChain_s, a.f3, gLen_ref a.h4, h1, h2, h3]
  · simp [fnS_s, evChain_s, h1]
theorem p_close (a : At S n b) (hz : b.ends.length < 1000000) (hz2 : b.deeds.length < 1000000) (d : Int) (h1 : isDay d = true) (h2 : ¬ d ≤ closedV b.ends) :
    ∃ S', sem_Book_close [.ref n, I d] S = .ok (I (b.ends.length + 1)) S' ∧ At S' n { b with ends := b.ends ++ [d], deeds := b.deeds ++ [Dd.close d] } ∧ Fr S n S' := by
  have a1 := a.ends' (b.ends ++ [d])
  have a2 := a1.deeds' (b.deeds ++ [Dd.close d])
  refine ⟨_, ?_, a2, (Fr.set (by omega) (by omega)).trans (Fr.set (by omega) (by omega))⟩
  have e0 : gAppend (.ref (n + 5)) (I d) S = .ok (.d .non) (S.set (n + 5) (.lst (b.ends.map I ++ [I d]))) := gAppend_ref a.h5 rfl (by simp; omega)
  have e0' : b.ends.map I ++ [I d] = (b.ends ++ [d]).map I := by simp
  rw [e0'] at e0
  have e : gAppend (.ref (n + 7)) (Dd.close d).w (S.set (n + 5) (.lst ((b.ends ++ [d]).map I))) = .ok (.d .non) ((S.set (n + 5) (.lst ((b.ends ++ [d]).map I))).set (n + 7) (.lst (b.deeds.map Dd.w ++ [(Dd.close d).w]))) := gAppend_ref a1.h7 rfl (by simp; omega)
  have e' : b.deeds.map Dd.w ++ [(Dd.close d).w] = (b.deeds ++ [Dd.close d]).map Dd.w := by simp
  rw [e'] at e
  have l5 := lstOf_ref a.h5
  have l7 := lstOf_ref a1.h7
  have f6 := a1.f6
  have f4 := a2.f4
  have g5 := gLen_ref a2.h5
  simp only [Dd.w, Dd.d] at e
  generalize hS1 : S.set (n + 5) (.lst ((b.ends ++ [d]).map I)) = S1 at *
  generalize hS2 : S1.set (n + 7) (.lst ((b.deeds ++ [Dd.close d]).map Dd.w)) = S2 at *
  unfold sem_Book_close
  simp [fnS_s, a.i0, p_need_open a, h1, h2, a.f4, l5, e0, f6, l7, e, f4, g5]
theorem p_close_no (a : At S n b) (d : Int) (h : ¬ (isDay d = true ∧ ¬ d ≤ closedV b.ends)) : sem_Book_close [.ref n, I d] S = .rz (if isDay d = false then 4 else 8) S := by
  unfold sem_Book_close
  cases h1 : isDay d
  · simp [fnS_s, a.i0, p_need_open a, h1]
  · have h2 : d ≤ closedV b.ends := by
      by_cases h2 : d ≤ closedV b.ends
      · exact h2
      · exact absurd ⟨h1, h2⟩ h
    simp [fnS_s, a.i0, p_need_open a, h1, h2]
def Ln.neg (l : Ln) : Ln := ⟨l.a, l.c, 0 - l.x⟩
theorem p_turned (ls : List Ln) (hl : ls.length ≤ 1000) : sem_turned [.d (.tup (ls.map Ln.d))] S = .ok (.d (.tup ((ls.map Ln.neg).map Ln.d))) S := by
  have e := lc_map (S := S) (ρ := [some (.d (.tup (ls.map Ln.d))), none]) (fun S => seqW S (.d (.tup (ls.map Ln.d))) = some (false, (ls.map Ln.d).map .d)) 1 (evN gTup (evCons (evBin gIx (evVar 1) (evC (.int 0))) (evCons (evBin gIx (evVar 1) (evC (.int 1))) (evCons (evBin gSub (evC (.int 0)) (evBin gIx (evVar 1) (evC (.int 2)))) evNil)))) Ln.w (fun l => .d l.neg.d) rfl (fun _ => rfl) ls (by
    intro l _
    simp [Ln.w, Ln.d, Ln.neg, gIxI_tup])
  have ev : evLc gFrz (evItems (evVar 0)) 1 [1] evYes (evN gTup (evCons (evBin gIx (evVar 1) (evC (.int 0))) (evCons (evBin gIx (evVar 1) (evC (.int 1))) (evCons (evBin gSub (evC (.int 0)) (evBin gIx (evVar 1) (evC (.int 2)))) evNil)))) [some (.d (.tup (ls.map Ln.d))), none] S = .ok (.d (.lst (ls.map fun l => l.neg.d))) S := by
    rw [evLc_s]
    simp only [evItems_s, evVar_s, List.getElem?_cons_zero, bind_ok, itW_tup, ← map_lnw, List.length_map, wipeE_cons, wipeE_nil, List.set_cons_succ, List.set_cons_zero]
    rw [← map_lnw] at e
    rw [if_pos (by omega), e, bind_ok, gFrz_map]
  have e2 : (ls.map fun l => l.neg.d) = (ls.map Ln.neg).map Ln.d := by rw [List.map_map]; rfl
  rw [e2] at ev
  unfold sem_turned
  generalize (ls.map Ln.neg).map Ln.d = L at *
  simp [fnS_s, ev]
def backE (b : Bk) (k d : Int) : Option Nat := if ¬ (1 ≤ k ∧ k ≤ b.ents.length) then some 12 else match b.ents[(k - 1).toNat]? with
  | some e => if k ∈ b.backs ∨ e.back ≠ 0 then some 10 else if isDay d = false then some 4 else if d ≤ closedV b.ends then some 8 else none
  | none => none
theorem backs_at (l : List Int) (k : Int) : (atK (backsW l) (.inl k)).isSome = decide (k ∈ l) := by
  induction l with
  | nil => rfl
  | cons a l ih =>
    unfold backsW atK at *
    rw [List.map_cons, List.find?_cons]
    by_cases h : a = k
    · simp [h]
    · have h' : ¬ k = a := fun e => h e.symm
      simp [h, h'] at ih ⊢
      exact ih
theorem gIn_backs {m : Nat} {l : List Int} (h : S[m]? = some (.dK (backsW l))) (k : Int) : gIn false (.d (.int k)) (.ref m) S = .ok (Bo (decide (k ∈ l))) S := by
  have e1 : seqW S (.ref m) = none := by simp [seqW, h]
  have e2 : dictW S (.ref m) (.d (.int k)) = some (atK (backsW l) (.inl k)) := dictW_K h rfl
  unfold gIn memW
  simp only [e1, e2, Option.map_some, backs_at]
  rfl
theorem putK_backs {l : List Int} {k : Int} (h : k ∉ l) : putKW (backsW l) (.inl k) (Bo true) = backsW (l ++ [k]) := by
  unfold putKW
  rw [if_neg]
  · simp [backsW]
  · intro q
    obtain ⟨p, hp, e⟩ := List.any_eq_true.mp q
    obtain ⟨x, hx, rfl⟩ := List.mem_map.mp hp
    have : x = k := by simpa using e
    exact h (this ▸ hx)
theorem p_contrary (a : At S n b) (hz : b.ents.length < 1000000) (hz2 : b.deeds.length < 1000000) (hz3 : b.backs.length < 1000000) (hz4 : ∀ e ∈ b.ents, e.ls.length ≤ 1000) (k d : Int) :
    match backE b k d with
    | some e => sem_Book_contrary [.ref n, I k, I d] S = .rz e S
    | none => ∃ e S', b.ents[(k - 1).toNat]? = some e ∧ sem_Book_contrary [.ref n, I k, I d] S = .ok (I (b.ents.length + 1)) S' ∧
        At S' n { b with backs := b.backs ++ [k], deeds := b.deeds ++ [Dd.back k d], ents := b.ents ++ [En.mk (b.ents.length + 1) d e.note (e.ls.map Ln.neg) k] } ∧ Fr S n S' := by
  have pe := p_entry a k
  unfold backE
  by_cases h1 : 1 ≤ k ∧ k ≤ b.ents.length
  · rw [if_pos h1] at pe
    obtain ⟨e, h3, h4⟩ := ents_at a h1.1 h1.2
    rw [h3] at pe
    simp only [h1, not_true_eq_false, if_false, h3, and_self]
    have gi := gIn_backs a.h6 k
    simp only [En.w, En.d] at pe
    by_cases h5 : k ∈ b.backs ∨ e.back ≠ 0
    · rw [if_pos h5]
      simp only
      unfold sem_Book_contrary
      by_cases h6 : k ∈ b.backs
      · simp [fnS_s, a.i0, pe, a.f5, gi, h6]
      · have h7 : e.back ≠ 0 := h5.resolve_left h6
        simp [fnS_s, a.i0, pe, a.f5, gi, h6, gIxI_tup, h7]
    · rw [if_neg h5]
      have h6 : ¬ k ∈ b.backs := fun z => h5 (.inl z)
      have h7 : e.back = 0 := by
        by_cases h7 : e.back = 0
        · exact h7
        · exact absurd (.inr h7) h5
      cases h8 : isDay d
      · simp only [if_true]
        unfold sem_Book_contrary
        simp [fnS_s, a.i0, pe, a.f5, gi, h6, gIxI_tup, h7, p_need_open a, h8]
      · by_cases h9 : d ≤ closedV b.ends
        · simp only [Bool.true_eq_false, if_false, h9, if_true]
          unfold sem_Book_contrary
          simp [fnS_s, a.i0, pe, a.f5, gi, h6, gIxI_tup, h7, p_need_open a, h8, h9]
        · simp only [Bool.true_eq_false, if_false, h9]
          have a1 := a.backs' (b.backs ++ [k])
          have ep : dPut S (n + 6) (.d (.int k)) (.d (.bl true)) = some (S.set (n + 6) (.dK (backsW (b.backs ++ [k])))) := by
            rw [dPut_K a.h6 rfl rfl (by simp [backsW]; omega), putK_backs h6]
          have fr1 : Fr S n (S.set (n + 6) (.dK (backsW (b.backs ++ [k])))) := Fr.set (by omega) (by omega)
          generalize S.set (n + 6) (.dK (backsW (b.backs ++ [k]))) = S1 at *
          have a2 := a1.deeds' (b.deeds ++ [Dd.back k d])
          have ed : gAppend (.ref (n + 7)) (Dd.back k d).w S1 = .ok (.d .non) (S1.set (n + 7) (.lst (b.deeds.map Dd.w ++ [(Dd.back k d).w]))) := gAppend_ref a1.h7 rfl (by simp; omega)
          have ed' : b.deeds.map Dd.w ++ [(Dd.back k d).w] = (b.deeds ++ [Dd.back k d]).map Dd.w := by simp
          rw [ed'] at ed
          have fr2 : Fr S1 n (S1.set (n + 7) (.lst ((b.deeds ++ [Dd.back k d]).map Dd.w))) := Fr.set (by omega) (by omega)
          have l7 := lstOf_ref a1.h7
          have f6 := a1.f6
          generalize S1.set (n + 7) (.lst ((b.deeds ++ [Dd.back k d]).map Dd.w)) = S2 at *
          have hel : e.ls.length ≤ 1000 := hz4 e (List.mem_of_getElem? h3)
          obtain ⟨S3, e3, a3, f3⟩ := p_noted a2 hz d e.note (e.ls.map Ln.neg) k
          refine ⟨e, S3, rfl, ?_, a3, (fr1.trans fr2).trans f3⟩
          simp only [Dd.w, Dd.d] at ed
          have pt := p_turned (S := S2) e.ls hel
          generalize (e.ls.map Ln.neg).map Ln.d = L at *
          unfold sem_Book_contrary
          simp [fnS_s, a.i0, pe, a.f5, gi, h6, gIxI_tup, h7, p_need_open a, h8, h9, ep, f6, l7, ed, a2.i0, pt, e3]
  · rw [if_neg h1] at pe
    simp only [h1, not_false_eq_true, if_true]
    unfold sem_Book_contrary
    simp [fnS_s, a.i0, pe]
def sumA (x c : Str) : List Ln → Int
  | [] => 0
  | l :: r => (if l.a = x ∧ l.c = c then l.x else 0) + sumA x c r
def sumB (x c : Str) (f t : Int) : List En → Int
  | [] => 0
  | e :: r => (if f ≤ e.day ∧ e.day ≤ t then sumA x c e.ls else 0) + sumB x c f t r
theorem sumA_app (x c : Str) : ∀ a b : List Ln, sumA x c (a ++ b) = sumA x c a + sumA x c b
  | [], b => by simp [sumA]
  | l :: a, b => by rw [List.cons_append, sumA, sumA, sumA_app x c a b]; omega
theorem sumB_app (x c : Str) (f t : Int) : ∀ a b : List En, sumB x c f t (a ++ b) = sumB x c f t a + sumB x c f t b
  | [], b => by simp [sumB]
  | l :: a, b => by rw [List.cons_append, sumB, sumB, sumB_app x c f t a b]; omega
theorem p_sum_lines (x0 x3 x4 x6 : Option Wv) (x c : Str) (f0 : Int) (chk : Store → Prop) (hc : chk S) (ls : List Ln) (x7 : Option Wv) : ∃ x7', sForL chk 7 lb_Book_sum_between_1 (ls.map Ln.w) [x0, some (T x), some (T c), x3, x4, some (I f0), x6, x7] S = .nx [x0, some (T x), some (T c), x3, x4, some (I (f0 + sumA x c ls)), x6, x7'] S := by
  obtain ⟨ρ', S', e, hr⟩ := for_pre chk 7 lb_Book_sum_between_1 Ln.w (fun pre ρ S' => S' = S ∧ ∃ x7, ρ = [x0, some (T x), some (T c), x3, x4, some (I (f0 + sumA x c pre)), x6, x7]) (fun _ _ _ hh => hh.1 ▸ hc) ls ls [] [x0, some (T x), some (T c), x3, x4, some (I f0), x6, x7] S rfl (by
    rintro pre l post ρ S' ea ⟨rfl, x7, rfl⟩
    refine ⟨_, _, .inl ?_, rfl, some l.w, rfl⟩
    have ha := sumA_app x c pre [l]
    by_cases h1 : l.a = x <;> by_cases h2 : l.c = c <;> (rw [ha]; simp [lb_Book_sum_between_1, Ln.w, Ln.d, gIxI_tup, h1, h2, sumA]) <;> try omega) ⟨rfl, x7, by simp [sumA]⟩
  obtain ⟨rfl, x7', rfl⟩ := hr
  exact ⟨x7', e⟩
theorem p_sum_between (a : At S n b) (x c : Str) (f t : Int) : sem_Book_sum_between [.ref n, T x, T c, I f, I t] S = .ok (I (sumB x c f t b.ents)) S := by
  obtain ⟨ρ', S', e, hr⟩ := for_pre (fun S => seqW S (.ref (n + 4)) = some (true, b.ents.map En.w)) 6 lb_Book_sum_between_2 En.w (fun pre ρ S' => S' = S ∧ ∃ x6 x7, ρ = [some (.ref n), some (T x), some (T c), some (I f), some (I t), some (I (sumB x c f t pre)), x6, x7]) (fun _ _ _ hh => hh.1 ▸ seqW_ref a.h4) b.ents b.ents [] [some (.ref n), some (T x), some (T c), some (I f), some (I t), some (I 0), none, none] S rfl (by
    rintro pre l post ρ S' ea ⟨rfl, x6, x7, rfl⟩
    have ha := sumB_app x c f t pre [l]
    by_cases h1 : f ≤ l.day
    · by_cases h2 : l.day ≤ t
      · obtain ⟨y7, ey⟩ := p_sum_lines (S := S') (some (.ref n)) (some (I f)) (some (I t)) (some l.w) x c (sumB x c f t pre) (fun _ => True) trivial l.ls x7
        refine ⟨_, _, .inl ?_, rfl, some l.w, y7, rfl⟩
        have hw : l.ls.map (Wv.d ∘ Ln.d) = l.ls.map Ln.w := rfl
        rw [ha]
        simp only [En.w, En.d] at ey
        simp [lb_Book_sum_between_2, En.w, En.d, gIxI_tup, evChain_s, h1, h2, sumB, hw, ey]
      · refine ⟨_, _, .inl ?_, rfl, some l.w, x7, rfl⟩
        rw [ha]
        simp [lb_Book_sum_between_2, En.w, En.d, gIxI_tup, evChain_s, h1, h2, sumB]
    · refine ⟨_, _, .inl ?_, rfl, some l.w, x7, rfl⟩
      rw [ha]
      simp [lb_Book_sum_between_2, En.w, En.d, gIxI_tup, evChain_s, h1, sumB]) ⟨rfl, none, none, rfl⟩
  obtain ⟨rfl, x6, x7, rfl⟩ := hr
  unfold sem_Book_sum_between
  simp [fnS_s, a.f3, itW_of (seqW_ref a.h4), e]
theorem str_app_cps (x y : Str) : (x ++ y).cps.toList = x.cps.toList ++ y.cps.toList := by
  show (x.cps ++ y.cps).toList = _
  rw [Array.toList_append]
def numS (i : Int) : Str := Str.ofString (toString i)
theorem gStr_num {i : Int} (h : Sm i) : gStr [.d (.int i)] S = .ok (.d (.str (numS i))) S := by
  rw [gStr_int, if_pos h]
  rfl
theorem numS_len {i : Int} (h : i.natAbs < 10 ^ 40) : (numS i).length ≤ 41 := num_len (by decide) h
theorem sm40 {i : Int} (h : i.natAbs < 10 ^ 40) : Sm i := Nat.lt_trans h (by decide)
def strD : D → Str
  | .str x => x
  | .int i => numS i
  | _ => ""
def fitD : D → Prop
  | .str x => x.length ≤ 100
  | .int i => i.natAbs < 10 ^ 40
  | _ => False
theorem fitD_len {d : D} (h : fitD d) : (strD d).length ≤ 100 := by
  cases d with
  | str x => exact h
  | int i => exact Nat.le_trans (numS_len h) (by decide)
  | _ => exact h.elim
theorem sum_le {k : Nat} : ∀ {l : List Str}, (∀ x ∈ l, x.length ≤ k) → (l.map (·.length)).sum ≤ k * l.length
  | [], _ => by simp
  | x :: l, h => by
    have h1 := h x List.mem_cons_self
    have h2 := sum_le (l := l) fun y hy => h y (List.mem_cons_of_mem _ hy)
    simp only [List.map_cons, List.sum_cons, List.length_cons, Nat.mul_add, Nat.mul_one]
    omega
def lineRow (l : Ln) : Str := (((("line " ++ l.a) ++ " ") ++ l.c) ++ " ") ++ numS l.x
def headRow (d : Int) (note : Str) (ls : List Ln) : Str := (((("entry " ++ numS d) ++ " ") ++ numS ls.length) ++ " ") ++ note
def tupDs : D → List D
  | .tup ds => ds
  | _ => []
def rowsOf : Dd → List Str
  | .ent d note ls => headRow d note ls :: ls.map lineRow
  | d => [Txt.join " " ((tupDs d.d).map strD)]
def Ln.Fit (l : Ln) : Prop := l.a.length ≤ 100 ∧ l.c.length ≤ 100 ∧ l.x.natAbs < 10 ^ 40
def Dd.Fit : Dd → Prop
  | .ent d note ls => d.natAbs < 10 ^ 40 ∧ note.length ≤ 100 ∧ ls.length ≤ 1000 ∧ ∀ l ∈ ls, l.Fit
  | d => ∀ p ∈ tupDs d.d, fitD p
theorem join_len {x : Str} {l : List Str} (hx : x.length ≤ 1) (h : ∀ y ∈ l, y.length ≤ 100) : (Txt.join x l).length ≤ 101 * l.length := by
  have h1 := StrLaws.join_length_le x l
  have h2 := sum_le h
  rw [TL.join_eq]
  have h3 : l.length * x.length ≤ l.length * 1 := Nat.mul_le_mul_left _ hx
  omega
theorem rows_fit {d : Dd} (h : d.Fit) : ∀ r ∈ rowsOf d, r.length ≤ 1000 := by
  have other : ∀ ds : List D, ds.length ≤ 8 → (∀ p ∈ ds, fitD p) → (Txt.join " " (ds.map strD)).length ≤ 1000 := fun ds hl hf => by
    have := join_len (x := " ") (l := ds.map strD) (by decide +kernel) fun y hy => by
      obtain ⟨p, hp, rfl⟩ := List.mem_map.mp hy
      exact fitD_len (hf p hp)
    rw [List.length_map] at this
    omega
  intro r hr
  cases d with
  | ent d note ls =>
    obtain ⟨h1, h2, h3, h4⟩ := h
    have e1 : ("entry " : Str).length = 6 := by decide +kernel
    have e2 : (" " : Str).length = 1 := by decide +kernel
    have e3 : ("line " : Str).length = 5 := by decide +kernel
    rcases List.mem_cons.mp hr with rfl | hr
    · have n1 := numS_len h1
      have n2 := numS_len (i := (ls.length : Int)) (by omega)
      simp only [headRow, str_len_add, e1, e2]
      omega
    · obtain ⟨l, hl, rfl⟩ := List.mem_map.mp hr
      obtain ⟨f1, f2, f3⟩ := h4 l hl
      have n1 := numS_len f3
      simp only [lineRow, str_len_add, e2, e3]
      omega
  | home x => rw [List.mem_singleton.mp hr]; exact other _ (by simp [Dd.d, tupDs]) h
  | acc x => rw [List.mem_singleton.mp hr]; exact other _ (by simp [Dd.d, tupDs]) h
  | rate x => rw [List.mem_singleton.mp hr]; exact other _ (by simp [Dd.d, tupDs]) h
  | chg d g o x t u note => rw [List.mem_singleton.mp hr]; exact other _ (by simp [Dd.d, tupDs]) h
  | back x y => rw [List.mem_singleton.mp hr]; exact other _ (by simp [Dd.d, tupDs]) h
  | close x => rw [List.mem_singleton.mp hr]; exact other _ (by simp [Dd.d, tupDs]) h
def rowsAll (ds : List Dd) : List Str := ds.flatMap rowsOf
def txt (ds : List Dd) : Str := Txt.join "" ((rowsAll ds).map fun r => r ++ "\n")
theorem str_ext {x y : Str} (h : x.cps.toList = y.cps.toList) : x = y := by
  obtain ⟨⟨a⟩⟩ := x
  obtain ⟨⟨b⟩⟩ := y
  have : a = b := h
  rw [this]
theorem joinL_nil : ∀ ps : List (List Nat), TL.joinL [] ps = ps.flatten
  | [] => rfl
  | [p] => by simp [TL.joinL]
  | p :: q :: r => by
    have := joinL_nil (q :: r)
    show p ++ ([] ++ TL.joinL [] (q :: r)) = _
    rw [this]; simp
theorem txt_cps (ds : List Dd) : (txt ds).cps.toList = ((rowsAll ds).map fun r => r.cps.toList ++ [10]).flatten := by
  unfold txt
  rw [TL.join_eq]
  have := TL.tl_join "" ((rowsAll ds).map fun r => r ++ "\n")
  have e : TL.tl ("" : Str) = [] := by decide +kernel
  rw [e, joinL_nil] at this
  refine Eq.trans (show _ = TL.tl _ from rfl) (this.trans ?_)
  rw [List.map_map]
  congr 1
  apply List.map_congr_left
  intro r _
  show (r ++ "\n").cps.toList = _
  rw [str_app_cps]
  rfl
theorem txt_app (a b : List Dd) : (txt (a ++ b)).cps.toList = (txt a).cps.toList ++ (txt b).cps.toList := by
  rw [txt_cps, txt_cps, txt_cps]
  simp [rowsAll]
theorem join2 (x a b c : Str) : (Txt.join x [a, b, c]).cps.toList = a.cps.toList ++ (x.cps.toList ++ (b.cps.toList ++ (x.cps.toList ++ c.cps.toList))) := by
  rw [TL.join_eq]
  have := TL.tl_join x [a, b, c]
  refine Eq.trans (show _ = TL.tl _ from rfl) (this.trans ?_)
  rfl
theorem txt_back (ds : List Dd) (k d : Int) : txt (ds ++ [.back k d]) = ((((txt ds ++ "back ") ++ numS k) ++ " ") ++ numS d) ++ "\n" := by
  apply str_ext
  rw [txt_app]
  simp only [str_app_cps]
  rw [txt_cps [.back k d]]
  have e1 : rowsAll [.back k d] = [Txt.join " " ["back", numS k, numS d]] := rfl
  have e2 : ("back " : Str).cps.toList = ("back" : Str).cps.toList ++ (" " : Str).cps.toList := by decide +kernel
  have e3 : ("\n" : Str).cps.toList = [10] := by decide +kernel
  rw [e1, e2, e3]
  simp only [List.map_cons, List.map_nil, List.flatten_cons, List.flatten_nil, join2, List.append_assoc, List.append_nil]
def curV (k : Int) : Str := sgn AZ (k % 26) ++ sgn AZ (k / 26 % 26) ++ sgn AZ (k / 676 % 26)
theorem isCur_app (x y : Str) (hl : (x ++ y).length = 3) (hx : (x.cps.toList.all fun c => decide (c ∈ AZ.cps.toList)) = true) (hy : (y.cps.toList.all fun c => decide (c ∈ AZ.cps.toList)) = true) : isCur (x ++ y) = true := by
  unfold isCur
  rw [str_app_cps, List.all_append, hx, hy]
  simp [hl]
theorem sgn_mem (z : Str) (i : Int) (h0 : 0 ≤ i) (h1 : i < z.length) : z.cps.toList.getD i.toNat 0 ∈ z.cps.toList := by
  have hl : i.toNat < z.cps.toList.length := by
    have : z.cps.toList.length = z.length := by simp; rfl
    omega
  rw [List.getD_eq_getElem?_getD, List.getElem?_eq_getElem hl]
  exact List.getElem_mem hl
theorem az_len : az.length = 26 := by decide +kernel
theorem AZ_len : AZ.length = 26 := by decide +kernel
theorem sgn_AZ (i : Int) (h0 : 0 ≤ i) (h1 : i < 26) : ((sgn AZ i).cps.toList.all fun c => decide (c ∈ AZ.cps.toList)) = true := by
  show ([AZ.cps.toList.getD i.toNat 0].all _) = true
  simp only [List.all_cons, List.all_nil, Bool.and_true, decide_eq_true_eq]
  exact sgn_mem AZ i h0 (by rw [AZ_len]; exact h1)
theorem curV_ok (k : Int) : isCur (curV k) = true := by
  refine isCur_app _ _ rfl ?_ (sgn_AZ _ (by omega) (by omega))
  rw [str_app_cps, List.all_append, sgn_AZ _ (by omega) (by omega), sgn_AZ _ (by omega) (by omega)]
  rfl
theorem p_law_currency (k : Int) : sem_law_currency [I k] S = .ok (T (curV k)) S := by
  have s1 : Sm 26 := by decide
  have s2 : Sm 676 := by decide
  unfold sem_law_currency
  simp [fnS_s, s1, s2, ixAZ, show 0 ≤ k % 26 by omega, show k % 26 < 26 by omega, show 0 ≤ k / 26 % 26 by omega, show k / 26 % 26 < 26 by omega, show 0 ≤ k / 676 % 26 by omega, show k / 676 % 26 < 26 by omega, curV]
def amtV (c : Int) : Int := 1 + c / 4 % (if c % 4 = 0 then 400000000000000000000000000000 else 500)
theorem p_law_amount (c : Int) : sem_law_amount [I c] S = .ok (I (amtV c)) S := by
  have m1 : MulOk 4 100000000000000000000000000000 := mulL (by decide)
  have s1 : Sm 4 := by decide
  unfold sem_law_amount amtV
  by_cases h : c % 4 = 0 <;> simp [fnS_s, m1, s1, h]
theorem amtV_ok (c : Int) : 1 ≤ amtV c ∧ amtV c ≤ 400000000000000000000000000000 := by
  unfold amtV
  split <;> omega
def z36 : Str := "abcdefghijklmnopqrstuvwxyz0123456789"
theorem z36_len : z36.length = 36 := by decide +kernel
theorem ix36 {i : Int} (h0 : 0 ≤ i) (h1 : i < 36) : gIxI (.d (.str "abcdefghijklmnopqrstuvwxyz0123456789")) i S = .ok (.d (.str (sgn z36 i))) S :=
  ix_str (z := z36) h0 (by rw [z36_len]; exact h1) (by rw [z36_len]; decide)
theorem z36_name : ∀ c ∈ z36.cps.toList, isNameS c = true := by decide +kernel
theorem az_name : ∀ c ∈ az.cps.toList, isNameS c = true := by decide +kernel
theorem z36_az : ∀ k : Nat, k < 26 → z36.cps.toList.getD k 0 ∈ az.cps.toList := by decide +kernel
/-- a name so far -/
def NmOk (x : Str) (k : Nat) : Prop := x.length = k ∧ x.cps.toList.getD 0 0 ∈ az.cps.toList ∧ ∀ c ∈ x.cps.toList, isNameS c = true
theorem nm_name {x : Str} {k : Nat} (h : NmOk x k) (h1 : 1 ≤ k) (h2 : k ≤ 12) : isName x = true := by
  obtain ⟨a1, a2, a3⟩ := h
  unfold isName
  rw [a1, decide_eq_true h1, decide_eq_true h2, decide_eq_true a2, List.all_eq_true.mpr a3]
  rfl
theorem name_nm {x : Str} (h : isName x = true) : NmOk x x.length ∧ 1 ≤ x.length ∧ x.length ≤ 12 := by
  unfold isName at h
  simp only [Bool.and_eq_true, decide_eq_true_eq, List.all_eq_true] at h
  exact ⟨⟨rfl, h.2.1, h.2.2⟩, h.1.1, h.1.2⟩
theorem str_len_cps (x : Str) : x.cps.toList.length = x.length := by simp; rfl
theorem nm_more {x y : Str} {k : Nat} (h : NmOk x k) (h1 : 1 ≤ k) (hy : ∀ c ∈ y.cps.toList, isNameS c = true) : NmOk (x ++ y) (k + y.length) := by
  obtain ⟨a1, a2, a3⟩ := h
  refine ⟨by rw [str_len_add, a1], ?_, fun c hc => ?_⟩
  · rw [str_app_cps]
    have hl : 0 < x.cps.toList.length := by rw [str_len_cps]; omega
    rw [List.getD_eq_getElem?_getD] at a2 ⊢
    rw [List.getElem?_append_left hl]
    exact a2
  · rw [str_app_cps] at hc
    rcases List.mem_append.mp hc with hc | hc
    · exact a3 c hc
    · exact hy c hc
def nameStep (l : Int) (x : Str) (k : Nat) : Str := x ++ sgn z36 ((l / 12 + l / 432 * (k : Int)) % 36)
def nameV (c : Int) : Str := (List.range (c / 26 % 12).toNat).foldl (nameStep (c / 26)) (sgn z36 (c % 26))
theorem name_fold (l : Int) : ∀ (ks : List Nat) (x : Str) (n : Nat), NmOk x n → 1 ≤ n → NmOk (ks.foldl (nameStep l) x) (n + ks.length)
  | [], x, n, h, _ => h
  | k :: ks, x, n, h, hn => by
    have h1 := nm_more (y := sgn z36 ((l / 12 + l / 432 * (k : Int)) % 36)) h hn (fun c hc => by
      have : c = z36.cps.toList.getD ((l / 12 + l / 432 * (k : Int)) % 36).toNat 0 := List.mem_singleton.mp hc
      rw [this]
      exact z36_name _ (sgn_mem z36 _ (by omega) (by rw [z36_len]; omega)))
    have h2 := name_fold l ks _ (n + 1) h1 (by omega)
    rw [List.foldl_cons, List.length_cons, show n + (ks.length + 1) = n + 1 + ks.length by omega]
    exact h2
theorem nameV_ok (c : Int) : isName (nameV c) = true := by
  have h0 : NmOk (sgn z36 (c % 26)) 1 := ⟨rfl, z36_az _ (by omega), fun x hx => by
    have : x = z36.cps.toList.getD (c % 26).toNat 0 := List.mem_singleton.mp hx
    rw [this]
    exact z36_name _ (sgn_mem z36 _ (by omega) (by rw [z36_len]; omega))⟩
  have h1 := name_fold (c / 26) (List.range (c / 26 % 12).toNat) _ 1 h0 (Nat.le_refl 1)
  rw [List.length_range] at h1
  exact nm_name h1 (by omega) (by omega)
theorem p_law_name (c : Int) : sem_law_name [I c] S = .ok (T (nameV c)) S := by
  have s1 : Sm 26 := by decide
  have s2 : Sm 12 := by decide
  have s3 : Sm 432 := by decide
  obtain ⟨ρ', S', e, hr⟩ := for_pre (fun _ => True) 4 lb_law_name_1 (fun k : Nat => I (0 + (k : Int) * 1)) (fun pre ρ S' => S' = S ∧ ∃ x4, ρ = [some (I c), some (T "abcdefghijklmnopqrstuvwxyz0123456789"), some (T (pre.foldl (nameStep (c / 26)) (sgn z36 (c % 26)))), some (I (c / 26)), x4]) (fun _ _ _ _ => trivial) (List.range (c / 26 % 12).toNat) (List.range (c / 26 % 12).toNat) []
    [some (I c), some (T "abcdefghijklmnopqrstuvwxyz0123456789"), some (T (sgn z36 (c % 26))), some (I (c / 26)), none] S rfl (by
      rintro pre k post ρ S' ea ⟨rfl, x4, rfl⟩
      refine ⟨_, _, .inl ?_, rfl, some (I k), rfl⟩
      have hk : k < 12 := by
        have h1 : k ∈ List.range (c / 26 % 12).toNat := by rw [ea]; simp
        have := List.mem_range.mp h1
        omega
      have hp : pre.length ≤ 12 := by
        have h2 := congrArg List.length ea
        simp at h2
        omega
      have m1 : MulOk (c / 26 / 432) (k : Int) := mulR (by omega)
      have h0 : NmOk (sgn z36 (c % 26)) 1 := ⟨rfl, z36_az _ (by omega), fun x hx => by
        have : x = z36.cps.toList.getD (c % 26).toNat 0 := List.mem_singleton.mp hx
        rw [this]
        exact z36_name _ (sgn_mem z36 _ (by omega) (by rw [z36_len]; omega))⟩
      have hx := (name_fold (c / 26) pre _ 1 h0 (Nat.le_refl 1)).1
      rw [List.foldl_append]
      simp only [List.foldl_cons, List.foldl_nil]
      generalize pre.foldl (nameStep (c / 26)) (sgn z36 (c % 26)) = x at *
      have hx2 : x.length + 1 ≤ 16777216 := by omega
      simp [lb_law_name_1, s2, s3, m1, ix36, show 0 ≤ (c / 26 / 12 + c / 26 / 432 * (k : Int)) % 36 by omega, show (c / 26 / 12 + c / 26 / 432 * (k : Int)) % 36 < 36 by omega, hx2, nameStep]) ⟨rfl, none, rfl⟩
  obtain ⟨rfl, x4, rfl⟩ := hr
  unfold sem_law_name
  simp [fnS_s, s1, ix36, show 0 ≤ c % 26 by omega, show c % 26 < 36 by omega, show (c / 26 % 12).natAbs < 4611686018427387904 by omega, rangeW_map]
  simp at e
  rw [e]
  simp [nameV]
theorem cut_set {l : List Nat} {a : Nat} (h : a < l.length) (s : Nat) : l.take a ++ ([s] ++ l.drop (a + 1)) = l.set a s := by
  rw [List.set_eq_take_append_cons_drop, if_pos h]
  rfl
def twinV (x : Str) (c : Int) (z : Str) : Str := cutS x none (some (c % x.length)) ++ sgn z (c / 13 % 26) ++ cutS x (some (c % x.length + 1)) none
theorem twin_cps (x : Str) (c : Int) (z : Str) (hx : 1 ≤ x.length) : (twinV x c z).cps.toList = x.cps.toList.set (c % x.length).toNat (z.cps.toList.getD (c / 13 % 26).toNat 0) := by
  have h0 : 0 ≤ c % x.length := Int.emod_nonneg _ (by omega)
  have h1 : c % x.length < x.length := Int.emod_lt_of_pos _ (by omega)
  have hl := str_len_cps x
  obtain ⟨a, ha⟩ : ∃ a : Nat, c % x.length = (a : Int) := ⟨(c % x.length).toNat, by omega⟩
  unfold twinV
  rw [ha] at h1 ⊢
  rw [← cut_set (by rw [hl]; omega)]
  rw [str_app_cps, str_app_cps, List.append_assoc]
  have e1 : (cutS x none (some (a : Int))).cps.toList = x.cps.toList.take a := by
    unfold cutS
    rw [HT.sIx_none, HT.sIx_nat]
    have hsz : x.cps.size = x.length := rfl
    simp
    omega
  have e2 : (cutS x (some ((a : Int) + 1)) none).cps.toList = x.cps.toList.drop (a + 1) := by
    unfold cutS
    rw [HT.sIx_none, show ((a : Int) + 1) = ((a + 1 : Nat) : Int) by omega, HT.sIx_nat]
    simp
    rw [Nat.min_eq_left (by omega)]
    apply List.take_of_length_le
    rw [List.length_drop, hl]
    exact Nat.le_refl _
  rw [e1, e2]
  rfl
theorem twin_len (x : Str) (c : Int) (z : Str) (hx : 1 ≤ x.length) : (twinV x c z).length = x.length := by
  rw [← str_len_cps, twin_cps x c z hx, List.length_set, str_len_cps]
theorem p_law_twin (x : Str) (c : Int) (z : Str) (hx : 1 ≤ x.length) (hl : x.length ≤ 1000) (hz : z.length = 26) : sem_law_twin [T x, I c, T z] S = .ok (T (twinV x c z)) S := by
  have s1 : Sm 13 := by decide
  have hi : gIxI (.d (.str z)) (c / 13 % 26) S = .ok (.d (.str (sgn z (c / 13 % 26)))) S := ix_str (by omega) (by rw [hz]; omega) (by rw [hz]; decide)
  have h1 : (cutS x none (some (c % x.length))).length ≤ x.length := cutS_length _ _ _
  have h2 : (cutS x (some (c % x.length + 1)) none).length ≤ x.length := cutS_length _ _ _
  have g1 : ∀ lo hi, gSl (.d (.str x)) lo hi S = .ok (.d (.str (cutS x lo hi))) S := fun lo hi => by
    unfold gSl
    simp only
    rw [if_pos (by omega)]
  have hx0 : 0 < (x.length : Int) := by omega
  unfold twinV
  unfold sem_law_twin
  generalize hy1 : cutS x none (some (c % x.length)) = y1 at *
  generalize hy2 : cutS x (some (c % x.length + 1)) none = y2 at *
  have q1 : y1.length ≤ 16777215 := by omega
  have q2 : y1.length + 1 + y2.length ≤ 16777216 := by omega
  simp [fnS_s, s1, hi, g1, hx0, show 0 < x.length by omega, show x.length ≤ 16777216 by omega, hy1, hy2, q1, q2]
theorem set_all {P : Nat → Prop} {l : List Nat} {a s : Nat} (h : ∀ c ∈ l, P c) (hs : P s) : ∀ c ∈ l.set a s, P c := fun c hc => by
  rcases List.mem_or_eq_of_mem_set hc with h1 | h1
  · exact h c h1
  · rw [h1]; exact hs
theorem twin_name (x : Str) (c : Int) (h : isName x = true) : isName (twinV x c az) = true := by
  obtain ⟨⟨a1, a2, a3⟩, a4, a5⟩ := name_nm h
  have hs := sgn_mem az (c / 13 % 26) (by omega) (by rw [az_len]; omega)
  have e := twin_cps x c az a4
  refine nm_name (k := x.length) ⟨twin_len x c az a4, ?_, ?_⟩ a4 a5
  · rw [e, List.getD_eq_getElem?_getD]
    rw [List.getD_eq_getElem?_getD] at a2
    by_cases h0 : (c % x.length).toNat = 0
    · rw [h0, List.getElem?_set_self (by rw [str_len_cps]; omega)]
      exact hs
    · rw [List.getElem?_set_ne h0]
      exact a2
  · rw [e]
    exact set_all a3 (az_name _ hs)
theorem twin_cur (x : Str) (c : Int) (h : isCur x = true) : isCur (twinV x c AZ) = true := by
  unfold isCur at h ⊢
  simp only [Bool.and_eq_true, decide_eq_true_eq, List.all_eq_true] at h ⊢
  have h1 : 1 ≤ x.length := by rw [h.1]; decide
  refine ⟨by rw [twin_len x c AZ h1, h.1], ?_⟩
  rw [twin_cps x c AZ h1]
  exact set_all h.2 (sgn_mem AZ _ (by omega) (by rw [AZ_len]; omega))
def z94 : Str := (" !\"#$&'()*+,-./0123456789:;<=>?@" ++ "ABCDEFGHIJKLMNOPQRSTUVWXYZ[\\]^_`") ++ "abcdefghijklmnopqrstuvwxyz{|}~"
theorem z94_len : z94.length = 94 := by decide +kernel
theorem z94_note : ∀ c ∈ z94.cps.toList, isNoteS c = true := by decide +kernel
def noteStep (l : Int) (x : Str) (k : Nat) : Str := x ++ sgn z94 ((l / 41 + l / 3854 * (k : Int)) % 94)
def noteV (c : Int) : Str := (List.range (c % 41).toNat).foldl (noteStep c) ""
theorem note_fold (l : Int) : ∀ (ks : List Nat) (x : Str), (∀ c ∈ x.cps.toList, isNoteS c = true) → (ks.foldl (noteStep l) x).length = x.length + ks.length ∧ ∀ c ∈ (ks.foldl (noteStep l) x).cps.toList, isNoteS c = true
  | [], x, h => ⟨rfl, h⟩
  | k :: ks, x, h => by
    obtain ⟨h1, h2⟩ := note_fold l ks (noteStep l x k) fun c hc => by
      unfold noteStep at hc
      rw [str_app_cps] at hc
      rcases List.mem_append.mp hc with hc | hc
      · exact h c hc
      · have : c = z94.cps.toList.getD ((l / 41 + l / 3854 * (k : Int)) % 94).toNat 0 := List.mem_singleton.mp hc
        rw [this]
        exact z94_note _ (sgn_mem z94 _ (by omega) (by rw [z94_len]; omega))
    refine ⟨?_, h2⟩
    rw [List.foldl_cons, h1]
    unfold noteStep
    rw [str_len_add, sgn_len, List.length_cons]
    omega
theorem noteV_ok (c : Int) : isNote (noteV c) = true ∧ (noteV c).length ≤ 40 := by
  obtain ⟨h1, h2⟩ := note_fold c (List.range (c % 41).toNat) "" (by decide +kernel)
  have e : ("" : Str).length = 0 := by decide +kernel
  rw [List.length_range, e] at h1
  have hl : (noteV c).length ≤ 40 := by unfold noteV; omega
  refine ⟨?_, hl⟩
  unfold isNote
  rw [decide_eq_true hl]
  exact List.all_eq_true.mpr h2
theorem p_law_note (c : Int) : sem_law_note [I c] S = .ok (T (noteV c)) S := by
  have s2 : Sm 41 := by decide
  have s3 : Sm 3854 := by decide
  have ix94 : ∀ {i : Int}, 0 ≤ i → i < 94 → gIxI (.d (.str z94)) i S = .ok (.d (.str (sgn z94 i))) S := fun h0 h1 => ix_str (z := z94) h0 (by rw [z94_len]; exact h1) (by rw [z94_len]; decide)
  obtain ⟨ρ', S', e, hr⟩ := for_pre (fun _ => True) 3 lb_law_note_1 (fun k : Nat => I (0 + (k : Int) * 1)) (fun pre ρ S' => S' = S ∧ ∃ x3, ρ = [some (I c), some (T z94), some (T (pre.foldl (noteStep c) "")), x3]) (fun _ _ _ _ => trivial) (List.range (c % 41).toNat) (List.range (c % 41).toNat) []
    [some (I c), some (T z94), some (T ""), none] S rfl (by
      rintro pre k post ρ S' ea ⟨rfl, x4, rfl⟩
      refine ⟨_, _, .inl ?_, rfl, some (I k), rfl⟩
      have hk : k < 41 := by
        have h1 : k ∈ List.range (c % 41).toNat := by rw [ea]; simp
        have := List.mem_range.mp h1
        omega
      have hp : pre.length ≤ 41 := by
        have h2 := congrArg List.length ea
        simp at h2
        omega
      have m1 : MulOk (c / 3854) (k : Int) := mulR (by omega)
      have hx := (note_fold c pre "" (by decide +kernel)).1
      have e0 : ("" : Str).length = 0 := by decide +kernel
      rw [List.foldl_append]
      simp only [List.foldl_cons, List.foldl_nil]
      generalize pre.foldl (noteStep c) "" = x at *
      have hx2 : x.length ≤ 16777215 := by omega
      simp [lb_law_note_1, s2, s3, m1, ix94, show 0 ≤ (c / 41 + c / 3854 * (k : Int)) % 94 by omega, show (c / 41 + c / 3854 * (k : Int)) % 94 < 94 by omega, hx2, noteStep]) ⟨rfl, none, rfl⟩
  obtain ⟨rfl, x4, rfl⟩ := hr
  have l1 : (" !\"#$&'()*+,-./0123456789:;<=>?@" : Str).length = 32 := by decide +kernel
  have l2 : ("ABCDEFGHIJKLMNOPQRSTUVWXYZ[\\]^_`" : Str).length = 32 := by decide +kernel
  have l3 : ("abcdefghijklmnopqrstuvwxyz{|}~" : Str).length = 30 := by decide +kernel
  have ez : (" !\"#$&'()*+,-./0123456789:;<=>?@" ++ "ABCDEFGHIJKLMNOPQRSTUVWXYZ[\\]^_`" ++ "abcdefghijklmnopqrstuvwxyz{|}~" : Str) = z94 := rfl
  unfold sem_law_note
  simp [fnS_s, l1, l2, l3, ez, show (c % 41).natAbs < 4611686018427387904 by omega, rangeW_map]
  simp at e
  rw [e]
  simp [noteV]
def addN (l : List Str) (x : Str) : List Str := if x ∈ l then l else l ++ [x]
def addC (lim : Nat) (l : List Str) (x : Str) : List Str := if x ∉ l ∧ l.length < lim then l ++ [x] else l
theorem nodup_len : ∀ (l' l : List Str), l'.Nodup → (∀ x ∈ l', x ∈ l) → l'.length ≤ l.length
  | [], _, _, _ => Nat.zero_le _
  | x :: t, l, hn, hs => by
    rw [List.nodup_cons] at hn
    have hx := hs x List.mem_cons_self
    have h1 := nodup_len t (l.erase x) hn.2 fun y hy => (List.mem_erase_of_ne (fun e : y = x => hn.1 (by rw [← e]; exact hy))).mpr (hs y (List.mem_cons_of_mem _ hy))
    rw [List.length_erase_of_mem hx] at h1
    have : 0 < l.length := List.length_pos_of_mem hx
    simp only [List.length_cons]
    omega
theorem addN_facts : ∀ (xs l : List Str), l.Nodup → (xs.foldl addN l).Nodup ∧ (∀ x, x ∈ xs.foldl addN l ↔ x ∈ l ∨ x ∈ xs) ∧ (xs.foldl addN l).length ≤ l.length + xs.length ∧ ∃ t, xs.foldl addN l = l ++ t
  | [], l, h => ⟨h, by simp, by simp, [], by simp⟩
  | x :: xs, l, h => by
    have h1 : (addN l x).Nodup ∧ (∀ y, y ∈ addN l x ↔ y ∈ l ∨ y = x) ∧ (addN l x).length ≤ l.length + 1 ∧ ∃ t, addN l x = l ++ t := by
      unfold addN
      by_cases hx : x ∈ l
      · rw [if_pos hx]
        exact ⟨h, fun y => ⟨.inl, fun z => z.elim id fun e => by rw [e]; exact hx⟩, by omega, [], by simp⟩
      · rw [if_neg hx]
        refine ⟨?_, by simp, by simp, [x], rfl⟩
        rw [List.nodup_append]
        exact ⟨h, by simp, fun a ha b hb => by
          have : b = x := by simpa using hb
          rw [this]; exact fun e => hx (e ▸ ha)⟩
    obtain ⟨a1, a2, a3, t, a4⟩ := h1
    obtain ⟨b1, b2, b3, u, b4⟩ := addN_facts xs _ a1
    rw [List.foldl_cons]
    refine ⟨b1, fun y => ?_, by simp only [List.length_cons]; omega, t ++ u, by rw [b4, a4, List.append_assoc]⟩
    rw [b2, a2, List.mem_cons, or_assoc]
theorem addC_facts (lim : Nat) : ∀ (xs l : List Str), l.Nodup → l.length ≤ lim → (xs.foldl (addC lim) l).Nodup ∧ (∀ x, x ∈ xs.foldl (addC lim) l → x ∈ l ∨ x ∈ xs) ∧ (xs.foldl (addC lim) l).length ≤ lim ∧ ((xs.foldl (addC lim) l).length = lim ∨ ∀ x, (x ∈ l ∨ x ∈ xs) → x ∈ xs.foldl (addC lim) l) ∧ ∃ t, xs.foldl (addC lim) l = l ++ t
  | [], l, h, hl => ⟨h, by simp, hl, by simp, [], by simp⟩
  | x :: xs, l, h, hl => by
    by_cases hx : x ∉ l ∧ l.length < lim
    · have e : addC lim l x = l ++ [x] := if_pos hx
      have hn : (l ++ [x]).Nodup := by
        rw [List.nodup_append]
        exact ⟨h, by simp, fun a ha b hb => by
          have : b = x := by simpa using hb
          rw [this]; exact fun e => hx.1 (e ▸ ha)⟩
      obtain ⟨b1, b2, b3, b4, t, b5⟩ := addC_facts lim xs (l ++ [x]) hn (by simp; omega)
      rw [List.foldl_cons, e]
      refine ⟨b1, fun y hy => ?_, b3, b4.imp id fun q y hy => q y ?_, [x] ++ t, by rw [b5, List.append_assoc]⟩
      · rcases b2 y hy with z | z
        · rcases List.mem_append.mp z with z | z
          · exact .inl z
          · exact .inr (List.mem_cons.mpr (.inl (List.mem_singleton.mp z)))
        · exact .inr (List.mem_cons_of_mem _ z)
      · rcases hy with z | z
        · exact .inl (List.mem_append_left _ z)
        · rcases List.mem_cons.mp z with z | z
          · exact .inl (by rw [z]; simp)
          · exact .inr z
    · have e : addC lim l x = l := if_neg hx
      obtain ⟨b1, b2, b3, b4, t, b5⟩ := addC_facts lim xs l h hl
      rw [List.foldl_cons, e]
      refine ⟨b1, fun y hy => (b2 y hy).imp id (List.mem_cons_of_mem _), b3, ?_, t, b5⟩
      rcases b4 with q | q
      · exact .inl q
      · by_cases hl2 : l.length < lim
        · have hxl : x ∈ l := by
            by_cases hxl : x ∈ l
            · exact hxl
            · exact absurd ⟨hxl, hl2⟩ hx
          refine .inr fun y hy => q y ?_
          rcases hy with z | z
          · exact .inl z
          · rcases List.mem_cons.mp z with z | z
            · exact .inl (z ▸ hxl)
            · exact .inr z
        · left
          have h3 : (xs.foldl (addC lim) l).length = l.length + t.length := by rw [b5, List.length_append]
          omega
def names0 (c0 c1 : Int) : List Str := [nameV c0, (if c1 % 2 = 1 then twinV (nameV c0) (c1 / 2) az else nameV c1), "a", "z9"]
def namesV (c0 c1 : Int) : List Str := (names0 c0 c1).foldl addN ["exchange"]
theorem names_ok (c0 c1 : Int) : (∀ x ∈ namesV c0 c1, isName x = true) ∧ (namesV c0 c1).Nodup ∧ 3 ≤ (namesV c0 c1).length ∧ (namesV c0 c1).length ≤ 5 ∧ ∃ t : List Str, namesV c0 c1 = ("exchange" : Str) :: t := by
  obtain ⟨h1, h2, h3, t, h4⟩ := addN_facts (names0 c0 c1) ["exchange"] (by simp)
  have m1 : ∀ x, x ∈ namesV c0 c1 ↔ x ∈ (["exchange"] : List Str) ∨ x ∈ names0 c0 c1 := h2
  refine ⟨fun x hx => ?_, h1, ?_, h3, t, h4⟩
  · rcases (m1 x).mp hx with h | h
    · rw [List.mem_singleton.mp h]; decide +kernel
    · unfold names0 at h
      have : x = nameV c0 ∨ x = (if c1 % 2 = 1 then twinV (nameV c0) (c1 / 2) az else nameV c1) ∨ x = "a" ∨ x = "z9" := by simpa using h
      rcases this with rfl | rfl | rfl | rfl
      · exact nameV_ok _
      · split
        · exact twin_name _ _ (nameV_ok _)
        · exact nameV_ok _
      · decide +kernel
      · decide +kernel
  · have := nodup_len (["exchange", "a", "z9"] : List Str) (namesV c0 c1) (by decide +kernel) fun x hx => by
      refine (m1 x).mpr ?_
      rcases List.mem_cons.mp hx with h | h
      · exact .inl (by rw [h]; simp)
      · right
        unfold names0
        rcases List.mem_cons.mp h with h | h
        · rw [h]; simp
        · rw [List.mem_singleton.mp h]; simp
    exact this
theorem p_law_names (c0 c1 : Int) : sem_law_names [.d (.lst [.int c0, .int c1])] S = .ok (.ref (S.length + 1)) (S ++ [.lst ((names0 c0 c1).map T), .lst ((namesV c0 c1).map T)]) := by
  obtain ⟨ρ', S', e, hr⟩ := for_pre (fun S' => seqW S' (.ref S.length) = some (true, (names0 c0 c1).map T)) 3 lb_law_names_1 T (fun pre ρ S' => S' = S ++ [.lst ((names0 c0 c1).map T), .lst ((pre.foldl addN ["exchange"]).map T)] ∧ ∃ x3, ρ = [some (.d (.lst [.int c0, .int c1])), some (.ref S.length), some (.ref (S.length + 1)), x3])
    (fun _ _ _ hh => by rw [hh.1]; exact seqW_ref (by simp)) (names0 c0 c1) (names0 c0 c1) [] [some (.d (.lst [.int c0, .int c1])), some (.ref S.length), some (.ref (S.length + 1)), none] (S ++ [.lst ((names0 c0 c1).map T), .lst [T "exchange"]]) rfl (by
      rintro pre x post ρ S' ea ⟨rfl, x3, rfl⟩
      refine ⟨_, _, .inl ?_, rfl, some (T x), rfl⟩
      have hl : (pre.foldl addN ["exchange"]).length ≤ 100 := by
        have h1 := (addN_facts pre ["exchange"] (by simp)).2.2.1
        have h2 := congrArg List.length ea
        simp [names0] at h1 h2
        omega
      rw [List.foldl_append, List.foldl_cons, List.foldl_nil]
      generalize pre.foldl addN ["exchange"] = l at *
      generalize (names0 c0 c1).map T = L at *
      have hg : (S ++ [O.lst L, O.lst (l.map T)])[S.length + 1]? = some (.lst (l.map T)) := by simp
      have g1 := gIn_names (neg := true) hg x
      have g2 : gAppend (.ref (S.length + 1)) (T x) (S ++ [O.lst L, O.lst (l.map T)]) = .ok (.d .non) ((S ++ [O.lst L, O.lst (l.map T)]).set (S.length + 1) (.lst (l.map T ++ [T x]))) := gAppend_ref hg rfl (by simp; omega)
      have e3 : (S ++ [O.lst L, O.lst (l.map T)]).set (S.length + 1) (.lst (l.map T ++ [T x])) = S ++ [O.lst L, O.lst ((l ++ [x]).map T)] := by simp
      rw [e3] at g2
      have lo := lstOf_ref hg
      unfold addN
      by_cases hx : x ∈ l
      · rw [if_pos hx]
        simp [lb_law_names_1, g1, hx]
      · rw [if_neg hx]
        generalize S ++ [O.lst L, O.lst ((l ++ [x]).map T)] = S2 at *
        simp [lb_law_names_1, g1, hx, lo, g2]) ⟨rfl, none, rfl⟩
  obtain ⟨rfl, x3, rfl⟩ := hr
  have en : (names0 c0 c1).foldl addN ["exchange"] = namesV c0 c1 := rfl
  rw [en] at e
  obtain ⟨⟨a1, a2, a3⟩, a4, a5⟩ := name_nm (nameV_ok c0)
  have tw := p_law_twin (S := S ++ [.lst [T (nameV c0), T (nameV c1), T "a", T "z9"]]) (nameV c0) (c1 / 2) az a4 (by omega) az_len
  have i0 : gIxI (.ref S.length) 0 (S ++ [.lst [T (nameV c0), T (nameV c1), T "a", T "z9"]]) = .ok (T (nameV c0)) (S ++ [.lst [T (nameV c0), T (nameV c1), T "a", T "z9"]]) := by
    rw [gIxI_ref (ws := [T (nameV c0), T (nameV c1), T "a", T "z9"]) (by simp)]
    simp
  have lo : lstOf (S ++ [O.lst [T (nameV c0), T (nameV c1), T "a", T "z9"]]) (.ref S.length) = some (S.length, [T (nameV c0), T (nameV c1), T "a", T "z9"]) := lstOf_ref (by simp)
  have ez : ("abcdefghijklmnopqrstuvwxyz" : Str) = az := rfl
  have g1 : st_law_names_1 [some (.d (.lst [.int c0, .int c1])), none, none, none] S = .nx [some (.d (.lst [.int c0, .int c1])), some (.ref S.length), none, none] (S ++ [.lst [T (nameV c0), T (nameV c1), T "a", T "z9"]]) := by
    unfold st_law_names_1
    simp [gLstS_s, gIxI_lst, p_law_name]
  have g2 : st_law_names_2 [some (.d (.lst [.int c0, .int c1])), some (.ref S.length), none, none] (S ++ [.lst [T (nameV c0), T (nameV c1), T "a", T "z9"]]) = .nx [some (.d (.lst [.int c0, .int c1])), some (.ref S.length), none, none] (S ++ [.lst ((names0 c0 c1).map T)]) := by
    unfold st_law_names_2 names0
    by_cases h : c1 % 2 = 1
    · simp [gIxI_lst, h, i0, sm2, ez, tw, lo, ixN]
    · simp [gIxI_lst, h]
  have g3 : st_law_names_3 [some (.d (.lst [.int c0, .int c1])), some (.ref S.length), none, none] (S ++ [.lst ((names0 c0 c1).map T)]) = .nx [some (.d (.lst [.int c0, .int c1])), some (.ref S.length), some (.ref (S.length + 1)), none] (S ++ [.lst ((names0 c0 c1).map T), .lst [T "exchange"]]) := by
    unfold st_law_names_3
    simp [gLstS_s]
  have g4 : st_law_names_4 [some (.d (.lst [.int c0, .int c1])), some (.ref S.length), some (.ref (S.length + 1)), none] (S ++ [.lst ((names0 c0 c1).map T), .lst [T "exchange"]]) = .nx [some (.d (.lst [.int c0, .int c1])), some (.ref S.length), some (.ref (S.length + 1)), x3] (S ++ [.lst ((names0 c0 c1).map T), .lst ((namesV c0 c1).map T)]) := by
    unfold st_law_names_4
    have itw : itW (.ref S.length) (S ++ [.lst ((names0 c0 c1).map T), .lst [T "exchange"]]) = .ok (.ref S.length, (names0 c0 c1).map T, fun S' => seqW S' (.ref S.length) = some (true, (names0 c0 c1).map T)) (S ++ [.lst ((names0 c0 c1).map T), .lst [T "exchange"]]) := itW_of (seqW_ref (by simp))
    simp only [sFor_s, evItems_s, evVar_s, List.getElem?_cons_succ, List.getElem?_cons_zero, bind_ok, itw, toS_ok]
    exact e
  unfold sem_law_names
  rw [fnS_s, if_pos (show [Wv.d (.lst [.int c0, .int c1])].length = 1 from rfl)]
  show (sSeq _ _ [some (.d (.lst [.int c0, .int c1])), none, none, none] S).out = _
  rw [sSeq_s, g1, seq_nx, sSeq_s, g2, seq_nx, sSeq_s, g3, seq_nx, sSeq_s, g4, seq_nx]
  rfl
def curs0 (c0 c1 : Int) : List Str := [curV c0, (if c1 % 2 = 1 then twinV (curV c0) (c1 / 2) AZ else curV c1), "EUR", "JPY", "USD", "KWD", "CHF", "GBP", "SEK", "EUS"]
def limV (c0 : Int) : Nat := if c0 / 3 % 8 = 3 then 8 else 4
def cursV (c0 c1 : Int) : List Str := (curs0 c0 c1).foldl (addC (limV c0)) []
theorem curs_ok (c0 c1 : Int) : (∀ x ∈ cursV c0 c1, isCur x = true) ∧ (cursV c0 c1).Nodup ∧ (cursV c0 c1).length = limV c0 ∧ ∃ t, cursV c0 c1 = curV c0 :: t := by
  obtain ⟨h1, h2, h3, h4, t, h5⟩ := addC_facts (limV c0) (curs0 c0 c1) [] (by simp) (Nat.zero_le _)
  have m1 : ∀ x, x ∈ cursV c0 c1 → x ∈ curs0 c0 c1 := fun x hx => (h2 x hx).elim (fun z => by cases z) id
  refine ⟨fun x hx => ?_, h1, ?_, ?_⟩
  · have := m1 x hx
    unfold curs0 at this
    simp only [List.mem_cons, List.not_mem_nil, or_false] at this
    rcases this with rfl | rfl | rfl | rfl | rfl | rfl | rfl | rfl | rfl | rfl
    · exact curV_ok _
    · split
      · exact twin_cur _ _ (curV_ok _)
      · exact curV_ok _
    all_goals decide +kernel
  · rcases h4 with h4 | h4
    · exact h4
    · have := nodup_len (["EUR", "JPY", "USD", "KWD", "CHF", "GBP", "SEK", "EUS"] : List Str) (cursV c0 c1) (by decide +kernel) fun x hx => h4 x (.inr (by
        unfold curs0
        exact List.mem_cons_of_mem _ (List.mem_cons_of_mem _ hx)))
      have h6 : (cursV c0 c1).length ≤ limV c0 := h3
      have h7 : limV c0 ≤ 8 := by unfold limV; split <;> omega
      simp at this
      omega
  · obtain ⟨_, _, _, _, u, h6⟩ := addC_facts (limV c0) (curs0 c0 c1).tail [curV c0] (by simp) (by unfold limV; split <;> simp)
    refine ⟨u, ?_⟩
    have e1 : addC (limV c0) [] (curV c0) = [curV c0] := if_pos ⟨by simp, by unfold limV; split <;> simp⟩
    show (curs0 c0 c1).foldl (addC (limV c0)) [] = _
    have e2 : curs0 c0 c1 = curV c0 :: (curs0 c0 c1).tail := rfl
    rw [e2, List.foldl_cons, e1]
    exact h6
theorem p_law_currencies (c0 c1 : Int) : sem_law_currencies [.d (.lst [.int c0, .int c1])] S = .ok (.ref S.length) (S ++ [.lst ((cursV c0 c1).map T), .lst ((curs0 c0 c1).map T)]) := by
  obtain ⟨ρ', S', e, hr⟩ := for_pre (fun S' => seqW S' (.ref (S.length + 1)) = some (true, (curs0 c0 c1).map T)) 4 lb_law_currencies_1 T (fun pre ρ S' => S' = S ++ [.lst ((pre.foldl (addC (limV c0)) []).map T), .lst ((curs0 c0 c1).map T)] ∧ ∃ x4, ρ = [some (.d (.lst [.int c0, .int c1])), some (.ref S.length), some (.ref (S.length + 1)), some (I (limV c0)), x4])
    (fun _ _ _ hh => by rw [hh.1]; exact seqW_ref (by simp)) (curs0 c0 c1) (curs0 c0 c1) [] [some (.d (.lst [.int c0, .int c1])), some (.ref S.length), some (.ref (S.length + 1)), some (I (limV c0)), none] (S ++ [.lst [], .lst ((curs0 c0 c1).map T)]) rfl (by
      rintro pre x post ρ S' ea ⟨rfl, x4, rfl⟩
      refine ⟨_, _, .inl ?_, rfl, some (T x), rfl⟩
      have hl : (pre.foldl (addC (limV c0)) []).length ≤ 8 := by
        have h1 := (addC_facts (limV c0) pre [] (by simp) (Nat.zero_le _)).2.2.1
        have h7 : limV c0 ≤ 8 := by unfold limV; split <;> omega
        omega
      rw [List.foldl_append, List.foldl_cons, List.foldl_nil]
      generalize pre.foldl (addC (limV c0)) [] = l at *
      generalize (curs0 c0 c1).map T = L at *
      generalize limV c0 = lim at *
      have hg : (S ++ [O.lst (l.map T), O.lst L])[S.length]? = some (.lst (l.map T)) := by simp
      have g1 := gIn_names (neg := true) hg x
      have g2 : gAppend (.ref S.length) (T x) (S ++ [O.lst (l.map T), O.lst L]) = .ok (.d .non) ((S ++ [O.lst (l.map T), O.lst L]).set S.length (.lst (l.map T ++ [T x]))) := gAppend_ref hg rfl (by simp; omega)
      have e3 : (S ++ [O.lst (l.map T), O.lst L]).set S.length (.lst (l.map T ++ [T x])) = S ++ [O.lst ((l ++ [x]).map T), O.lst L] := by simp
      rw [e3] at g2
      have lo := lstOf_ref hg
      have gl := gLen_ref hg
      rw [List.length_map] at gl
      unfold addC
      by_cases hx : x ∈ l
      · rw [if_neg (fun z => z.1 hx)]
        simp [lb_law_currencies_1, g1, hx]
      · by_cases h2 : l.length < lim
        · rw [if_pos ⟨hx, h2⟩]
          generalize S ++ [O.lst ((l ++ [x]).map T), O.lst L] = S2 at *
          simp [lb_law_currencies_1, g1, hx, lo, g2, gl, h2]
        · rw [if_neg (fun z => h2 z.2)]
          simp [lb_law_currencies_1, g1, hx, gl, h2]) ⟨rfl, none, rfl⟩
  obtain ⟨rfl, x3, rfl⟩ := hr
  have en : (curs0 c0 c1).foldl (addC (limV c0)) [] = cursV c0 c1 := rfl
  rw [en] at e
  have l3 : (curV c0).length = 3 := rfl
  let L0 : List Wv := [T (curV c0), T (curV c1), T "EUR", T "JPY", T "USD", T "KWD", T "CHF", T "GBP", T "SEK", T "EUS"]
  have tw := p_law_twin (S := S ++ [.lst [], .lst L0]) (curV c0) (c1 / 2) AZ (by omega) (by omega) AZ_len
  have i0 : gIxI (.ref (S.length + 1)) 0 (S ++ [.lst [], .lst L0]) = .ok (T (curV c0)) (S ++ [.lst [], .lst L0]) := by
    rw [gIxI_ref (ws := L0) (by simp)]
    simp [L0]
  have lo : lstOf (S ++ [O.lst [], .lst L0]) (.ref (S.length + 1)) = some (S.length + 1, L0) := lstOf_ref (by simp)
  have ez : ("ABCDEFGHIJKLMNOPQRSTUVWXYZ" : Str) = AZ := rfl
  have itw : itW (.ref (S.length + 1)) (S ++ [.lst [], .lst ((curs0 c0 c1).map T)]) = .ok (.ref (S.length + 1), (curs0 c0 c1).map T, fun S' => seqW S' (.ref (S.length + 1)) = some (true, (curs0 c0 c1).map T)) (S ++ [.lst [], .lst ((curs0 c0 c1).map T)]) := itW_of (seqW_ref (by simp))
  have ad : ∀ u : Wv, gAddS (.d (.lst [.str (curV c0), .str (curV c1), .str "EUR", .str "JPY", .str "USD"])) (.d (.lst [.str "KWD", .str "CHF", .str "GBP", .str "SEK", .str "EUS"])) (S ++ [.lst []]) = .ok (.ref (S.length + 1)) (S ++ [.lst [], .lst L0]) := fun u => by
    rw [gAddS_of (lstAny_lst _) (lstAny_lst _) (by simp)]
    simp [L0]
  have el : ∀ k : Int, (evIf (evT (evBin (gEq false) (evBin gMod (evBin gFloor (evBin gIx (evVar 0) (evC (.int 0))) (evC (.int 3))) (evC (.int 8))) (evC (.int 3)))) (evC (.int 8)) (evC (.int 4))) [some (.d (.lst [.int c0, .int c1])), some (.ref S.length), some (.ref (S.length + 1)), none, none] (S ++ [.lst [], .lst L0]) = .ok (I (limV c0)) (S ++ [.lst [], .lst L0]) := fun k => by
    have s3 : Sm 3 := by decide
    unfold limV
    by_cases h : c0 / 3 % 8 = 3 <;> simp [gIxI_lst, s3, h]
  have ρ0 : Env := [some (.d (.lst [.int c0, .int c1])), none, none, none, none]
  have g1 : st_law_currencies_1 [some (.d (.lst [.int c0, .int c1])), none, none, none, none] S = .nx [some (.d (.lst [.int c0, .int c1])), some (.ref S.length), none, none, none] (S ++ [.lst []]) := by
    unfold st_law_currencies_1
    simp [gLstS_s]
  have g2 : st_law_currencies_2 [some (.d (.lst [.int c0, .int c1])), some (.ref S.length), none, none, none] (S ++ [.lst []]) = .nx [some (.d (.lst [.int c0, .int c1])), some (.ref S.length), some (.d (.lst [.str (curV c0), .str (curV c1), .str "EUR", .str "JPY", .str "USD"])), none, none] (S ++ [.lst []]) := by
    unfold st_law_currencies_2
    simp [gIxI_lst, p_law_currency]
  have g3 : st_law_currencies_3 [some (.d (.lst [.int c0, .int c1])), some (.ref S.length), some (.d (.lst [.str (curV c0), .str (curV c1), .str "EUR", .str "JPY", .str "USD"])), none, none] (S ++ [.lst []]) = .nx [some (.d (.lst [.int c0, .int c1])), some (.ref S.length), some (.ref (S.length + 1)), none, none] (S ++ [.lst [], .lst L0]) := by
    unfold st_law_currencies_3
    simp [ad (.d .non)]
  have g4 : st_law_currencies_4 [some (.d (.lst [.int c0, .int c1])), some (.ref S.length), some (.ref (S.length + 1)), none, none] (S ++ [.lst [], .lst L0]) = .nx [some (.d (.lst [.int c0, .int c1])), some (.ref S.length), some (.ref (S.length + 1)), some (I (limV c0)), none] (S ++ [.lst [], .lst L0]) := by
    unfold st_law_currencies_4
    rw [sSet_s, el 0]
    rfl
  have g5 : st_law_currencies_5 [some (.d (.lst [.int c0, .int c1])), some (.ref S.length), some (.ref (S.length + 1)), some (I (limV c0)), none] (S ++ [.lst [], .lst L0]) = .nx [some (.d (.lst [.int c0, .int c1])), some (.ref S.length), some (.ref (S.length + 1)), some (I (limV c0)), none] (S ++ [.lst [], .lst ((curs0 c0 c1).map T)]) := by
    unfold st_law_currencies_5
    by_cases h : c1 % 2 = 1
    · have e0 : (curs0 c0 c1).map T = L0.set 1 (T (twinV (curV c0) (c1 / 2) AZ)) := by simp [curs0, h, L0]
      have e1 : ixN L0.length 1 = some 1 := rfl
      have e2 : (S ++ [O.lst [], .lst L0]).set (S.length + 1) (.lst (L0.set 1 (T (twinV (curV c0) (c1 / 2) AZ)))) = S ++ [O.lst [], .lst (L0.set 1 (T (twinV (curV c0) (c1 / 2) AZ)))] := by simp
      rw [e0]
      generalize L0 = L at *
      generalize hL1 : L.set 1 (T (twinV (curV c0) (c1 / 2) AZ)) = L1 at *
      simp [gIxI_lst, h, i0, sm2, ez, tw, lo, e1]
      exact hL1
    · have e0 : (curs0 c0 c1).map T = L0 := by simp [curs0, h, L0]
      rw [e0]
      generalize L0 = L at *
      simp [gIxI_lst, h]
  have g6 : st_law_currencies_6 [some (.d (.lst [.int c0, .int c1])), some (.ref S.length), some (.ref (S.length + 1)), some (I (limV c0)), none] (S ++ [.lst [], .lst ((curs0 c0 c1).map T)]) = .nx [some (.d (.lst [.int c0, .int c1])), some (.ref S.length), some (.ref (S.length + 1)), some (I (limV c0)), x3] (S ++ [.lst ((cursV c0 c1).map T), .lst ((curs0 c0 c1).map T)]) := by
    unfold st_law_currencies_6
    simp only [sFor_s, evItems_s, evVar_s, List.getElem?_cons_succ, List.getElem?_cons_zero, bind_ok, itw, toS_ok]
    exact e
  unfold sem_law_currencies
  rw [fnS_s, if_pos (show [Wv.d (.lst [.int c0, .int c1])].length = 1 from rfl)]
  show (sSeq _ _ [some (.d (.lst [.int c0, .int c1])), none, none, none, none] S).out = _
  rw [sSeq_s, g1, seq_nx, sSeq_s, g2, seq_nx, sSeq_s, g3, seq_nx, sSeq_s, g4, seq_nx, sSeq_s, g5, seq_nx, sSeq_s, g6, seq_nx]
  rfl
/-- the rate of a currency on a day -/
def rateV (b : Bk) (c : Str) (d : Int) : Option (Int × Int) := if c = b.home then some (1, 1) else match pick c d b.rows with
  | none => none
  | some r => some (r.t, r.q)
def chV (x : Int) (r1 r2 : Int × Int) : Int := x * r1.1 * r2.2 / (r1.2 * r2.1)
def gotE (b : Bk) (d : Int) (c : Str) (x : Int) (u : Str) : Nat ⊕ Int :=
  if isAmt x = false ∨ x < 0 then .inl 3 else match rateV b c d with
  | none => .inl 13
  | some r1 => match rateV b u d with
    | none => .inl 13
    | some r2 => if chV x r1 r2 = 0 then .inl 15 else if isAmt (chV x r1 r2) = false then .inl 3 else .inr (chV x r1 r2)
theorem pick_mem (c : Str) (d : Int) : ∀ (rows : List RRow) (f : Option RRow) (r : RRow), rows.foldl (pickS c d) f = some r → r ∈ rows ∨ f = some r
  | [], f, r, h => .inr h
  | x :: xs, f, r, h => by
    rcases pick_mem c d xs (pickS c d f x) r h with h | h
    · exact .inl (List.mem_cons_of_mem _ h)
    · unfold pickS at h
      split at h
      · split at h
        · split at h
          · cases h; exact .inl List.mem_cons_self
          · split at h
            · cases h; exact .inl List.mem_cons_self
            · exact .inr h
        · exact .inr h
      · exact .inr h
theorem rateV_ok {b : Bk} (hR : ∀ r ∈ b.rows, isRate r.t r.q = true) {c : Str} {d : Int} {p : Int × Int} (h : rateV b c d = some p) : (1 ≤ p.1 ∧ p.1 ≤ 1000000000) ∧ 1 ≤ p.2 ∧ p.2 ≤ 1000000000 := by
  unfold rateV at h
  split at h
  · cases h; decide
  · split at h
    · cases h
    · rename_i r hr
      cases h
      rcases pick_mem c d b.rows none r hr with hm | hm
      · have := hR r hm
        unfold isRate at this
        simpa [and_assoc] using this
      · cases hm
theorem p_rateV (a : At S n b) (c : Str) (hc : isCur c = true) (d : Int) (hd : isDay d = true) : sem_Book_rate [.ref n, T c, I d] S = match rateV b c d with
    | none => .rz 13 S
    | some p => .ok (.d (.tup [.int p.1, .int p.2])) S := by
  have hl : c.length ≤ 16777216 := by
    unfold isCur at hc
    simp only [Bool.and_eq_true, decide_eq_true_eq] at hc
    omega
  rw [p_rate a c hl d, if_pos hc, if_pos hd]
  unfold rateV
  split
  · rfl
  · cases pick c d b.rows <;> rfl
theorem p_changed (x : Int) (r1 r2 : Int × Int) (h1 : (1 ≤ r1.1 ∧ r1.1 ≤ 1000000000) ∧ 1 ≤ r1.2 ∧ r1.2 ≤ 1000000000) (h2 : (1 ≤ r2.1 ∧ r2.1 ≤ 1000000000) ∧ 1 ≤ r2.2 ∧ r2.2 ≤ 1000000000) :
    sem_changed [I x, .d (.tup [.int r1.1, .int r1.2]), .d (.tup [.int r2.1, .int r2.2])] S = .ok (I (chV x r1 r2)) S := by
  obtain ⟨a, b⟩ := r1
  obtain ⟨c, d⟩ := r2
  simp only at h1 h2
  have m1 : MulOk x a := mulR (by omega)
  have m2 : MulOk (x * a) d := mulR (by omega)
  have m3 : MulOk b c := mulR (by omega)
  have hp : 0 < b * c := Int.mul_pos (by omega) (by omega)
  have hq : b * c ≤ 1000000000 * 1000000000 := Int.mul_le_mul (by omega) (by omega) (by omega) (by omega)
  have s : Sm (b * c) := sm_le (by omega)
  have hz : ¬ b * c = 0 := by omega
  have hz2 : ¬ (b = 0 ∨ c = 0) := by omega
  have hb : ¬ b = 0 := by omega
  have hcz : ¬ c = 0 := by omega
  unfold sem_changed chV
  simp [fnS_s, gIxI_tup, m1, m2, m3, s, hz, hb, hcz]
  try simp only [hp, if_true, toS_ok]
  try simp
theorem p_got (a : At S n b) (hR : ∀ r ∈ b.rows, isRate r.t r.q = true) (d : Int) (c u : Str) (x : Int) (hd : isDay d = true) (hc : isCur c = true) (hu : isCur u = true) : sem_Book_got [.ref n, I d, T c, I x, T u] S = match gotE b d c x u with
    | .inl e => .rz e S
    | .inr y => .ok (I y) S := by
  have r1 := p_rateV a c hc d hd
  have r2 := p_rateV a u hu d hd
  have ia := p_is_amount (S := S) x
  have i0 := a.i0
  unfold sem_Book_got gotE
  cases hx : isAmt x
  · rw [hx] at ia
    simp [fnS_s, ia]
  · rw [hx] at ia
    by_cases h0 : x < 0
    · simp [fnS_s, ia, h0]
    · cases q1 : rateV b c d with
      | none =>
        rw [q1] at r1
        simp [fnS_s, ia, h0, i0, r1]
      | some p1 =>
        rw [q1] at r1
        simp only at r1
        cases q2 : rateV b u d with
        | none =>
          rw [q2] at r2
          simp [fnS_s, ia, h0, i0, r1, r2]
        | some p2 =>
          rw [q2] at r2
          simp only at r2
          have ch := p_changed (S := S) x p1 p2 (rateV_ok hR q1) (rateV_ok hR q2)
          have ia2 := p_is_amount (S := S) (chV x p1 p2)
          simp only
          generalize chV x p1 p2 = y at *
          by_cases hy : y = 0
          · simp [fnS_s, ia, h0, i0, r1, r2, ch, hy]
          · cases hz : isAmt y
            · rw [hz] at ia2
              simp [fnS_s, ia, h0, i0, r1, r2, ch, hy, ia2]
            · rw [hz] at ia2
              simp [fnS_s, ia, h0, i0, r1, r2, ch, hy, ia2]
def convE (b : Bk) (day : Int) (note g o : Str) (x : Int) (t u : Str) : Nat ⊕ Int :=
  if isDay day = false then .inl 4 else if day ≤ closedV b.ends then .inl 8 else if isNote note = false then .inl 5 else if g ∉ b.names then .inl 11 else if t ∉ b.names then .inl 11 else
  if isCur o = false then .inl 2 else if isCur u = false then .inl 2 else if o = u then .inl 2 else gotE b day o x u
def convL (g o : Str) (x : Int) (t u : Str) (y : Int) : List Ln := [⟨g, o, 0 - x⟩, ⟨"exchange", o, x⟩, ⟨"exchange", u, 0 - y⟩, ⟨t, u, y⟩]
theorem p_convert (a : At S n b) (hz : b.ents.length < 1000000) (hz2 : b.deeds.length < 1000000) (hR : ∀ r ∈ b.rows, isRate r.t r.q = true) (day : Int) (note g o : Str) (x : Int) (t u : Str) (ln : note.length ≤ 16777216) (lo : o.length ≤ 16777216) (lu : u.length ≤ 16777216) :
    match convE b day note g o x t u with
    | .inl e => sem_Book_convert [.ref n, I day, T note, T g, T o, I x, T t, T u] S = .rz e S
    | .inr y => ∃ S', sem_Book_convert [.ref n, I day, T note, T g, T o, I x, T t, T u] S = .ok (I (b.ents.length + 1)) S' ∧ At S' n { b with deeds := b.deeds ++ [Dd.chg day g o x t u note], ents := b.ents ++ [En.mk (b.ents.length + 1) day note (convL g o x t u y) 0] } ∧ Fr S n S' := by
  have i0 := a.i0
  have p1 := p_need_open a day
  have p2 := p_is_note (S := S) note ln
  have p3 := p_need_account a g
  have p4 := p_need_account a t
  have p5 := p_need_currency (S := S) (n := n) o lo
  have p6 := p_need_currency (S := S) (n := n) u lu
  unfold convE
  cases h1 : isDay day
  · simp [h1] at p1
    simp only [if_true]
    unfold sem_Book_convert
    simp [fnS_s, i0, p1]
  by_cases h2 : day ≤ closedV b.ends
  · simp [h1, h2] at p1
    simp only [Bool.true_eq_false, if_false, h2, if_true]
    unfold sem_Book_convert
    simp [fnS_s, i0, p1]
  simp [h1, h2] at p1
  cases h3 : isNote note
  · rw [h3] at p2
    simp only [Bool.true_eq_false, if_false, h2, if_true]
    unfold sem_Book_convert
    simp [fnS_s, i0, p1, p2]
  rw [h3] at p2
  by_cases h4 : g ∈ b.names
  rotate_left
  · rw [if_neg h4] at p3
    simp only [Bool.true_eq_false, if_false, h2, h4, not_false_eq_true, if_true]
    unfold sem_Book_convert
    simp [fnS_s, i0, p1, p2, p3]
  rw [if_pos h4] at p3
  by_cases h5 : t ∈ b.names
  rotate_left
  · rw [if_neg h5] at p4
    simp only [Bool.true_eq_false, if_false, h2, h4, h5, not_false_eq_true, not_true_eq_false, if_true]
    unfold sem_Book_convert
    simp [fnS_s, i0, p1, p2, p3, p4]
  rw [if_pos h5] at p4
  cases h6 : isCur o
  · simp [h6] at p5
    simp only [Bool.true_eq_false, if_false, h2, h4, h5, not_true_eq_false, if_true]
    unfold sem_Book_convert
    simp [fnS_s, i0, p1, p2, p3, p4, p5]
  simp [h6] at p5
  cases h7 : isCur u
  · simp [h7] at p6
    simp only [Bool.true_eq_false, if_false, h2, h4, h5, not_true_eq_false, if_true]
    unfold sem_Book_convert
    simp [fnS_s, i0, p1, p2, p3, p4, p5, p6]
  simp [h7] at p6
  by_cases h8 : o = u
  · simp only [Bool.true_eq_false, if_false, h2, h4, h5, h8, not_true_eq_false, if_true]
    subst h8
    unfold sem_Book_convert
    simp [fnS_s, i0, p1, p2, p3, p4, p5, p6]
  have pg := p_got a hR day o u x h1 h6 h7
  simp only [Bool.true_eq_false, if_false, h2, h4, h5, h8, not_true_eq_false]
  cases q : gotE b day o x u with
  | inl e =>
    rw [q] at pg
    simp only at pg ⊢
    unfold sem_Book_convert
    simp [fnS_s, i0, p1, p2, p3, p4, p5, p6, h8, pg]
  | inr y =>
    rw [q] at pg
    simp only at pg ⊢
    have a1 := a.deeds' (b.deeds ++ [Dd.chg day g o x t u note])
    have fr1 : Fr S n (S.set (n + 7) (.lst ((b.deeds ++ [Dd.chg day g o x t u note]).map Dd.w))) := Fr.set (by omega) (by omega)
    have ed : gAppend (.ref (n + 7)) (Dd.chg day g o x t u note).w S = .ok (.d .non) (S.set (n + 7) (.lst (b.deeds.map Dd.w ++ [(Dd.chg day g o x t u note).w]))) := gAppend_ref a.h7 rfl (by simp; omega)
    have ed' : b.deeds.map Dd.w ++ [(Dd.chg day g o x t u note).w] = (b.deeds ++ [Dd.chg day g o x t u note]).map Dd.w := by simp
    rw [ed'] at ed
    generalize S.set (n + 7) (.lst ((b.deeds ++ [Dd.chg day g o x t u note]).map Dd.w)) = S1 at *
    obtain ⟨S2, e2, a2, f2⟩ := p_noted a1 hz day note (convL g o x t u y) 0
    refine ⟨S2, ?_, a2, fr1.trans f2⟩
    simp only [Dd.w, Dd.d] at ed
    simp only [convL, List.map_cons, List.map_nil, Ln.d, Int.zero_sub] at e2
    have i1 := a1.i0
    unfold sem_Book_convert
    simp [fnS_s, i0, p1, p2, p3, p4, p5, p6, h8, pg, a.f6, lstOf_ref a.h7, ed, i1, e2]
theorem cur_len {x : Str} (h : isCur x = true) : x.length ≤ 16777216 := by
  unfold isCur at h
  simp only [Bool.and_eq_true, decide_eq_true_eq] at h
  omega
theorem cur_len3 {x : Str} (h : isCur x = true) : x.length = 3 := by
  unfold isCur at h
  simp only [Bool.and_eq_true, decide_eq_true_eq] at h
  exact h.1
theorem dep_en (e : En) : e.d.dep ≤ 10 := by
  have h := depAll_map (n := 3) Ln.d e.ls (fun l _ => by simp [Ln.d])
  simp [En.d]
  omega
theorem depAll_app : ∀ a b : List D, depAll (a ++ b) = max (depAll a) (depAll b)
  | [], b => by simp
  | x :: a, b => by rw [List.cons_append, depAll_cons, depAll_cons, depAll_app a b]; omega
theorem At.app {S : Store} {n : Nat} {b : Bk} (a : At S n b) (t : List O) : At (S ++ t) n b := a.off fun m h1 h2 => List.getElem?_append_left (by
  have := (List.getElem?_eq_some_iff.mp a.h7).1
  omega)
theorem atL {S : Store} {m : Nat} {l : List Str} (hm : S[m]? = some (.lst (l.map T))) {i : Int} (h0 : 0 ≤ i) (h1 : i < l.length) : gIxI (.ref m) i S = .ok (T (l.getD i.toNat "")) S := by
  have hl : i.toNat < l.length := by omega
  rw [gIxI_ref hm, atI_of (j := i.toNat) (x := T (l.getD i.toNat "")) (by omega) (by
    rw [List.getElem?_map, List.getElem?_eq_getElem hl, List.getD_eq_getElem?_getD, List.getElem?_eq_getElem hl]
    rfl)]
theorem getD_mem {l : List Str} {k : Nat} (h : k < l.length) : l.getD k "" ∈ l := by
  rw [List.getD_eq_getElem?_getD, List.getElem?_eq_getElem h]
  exact List.getElem_mem h
def pickL (l : List Str) (i : Int) : Str := l.getD (i % l.length).toNat ""
theorem pickL_mem {l : List Str} (h : 1 ≤ l.length) (i : Int) : pickL l i ∈ l := by
  have h0 : 0 ≤ i % l.length := Int.emod_nonneg _ (by omega)
  have h1 : i % l.length < l.length := Int.emod_lt_of_pos _ (by omega)
  exact getD_mem (by omega)
theorem pickL_at {S : Store} {m : Nat} {l : List Str} (hm : S[m]? = some (.lst (l.map T))) (h : 1 ≤ l.length) (i : Int) : gIxI (.ref m) (i % l.length) S = .ok (T (pickL l i)) S :=
  atL hm (Int.emod_nonneg _ (by omega)) (Int.emod_lt_of_pos _ (by omega))
/-- how large a book is -/
structure Bnd (b : Bk) : Prop where
  e1 : b.ents.length < 1000000
  e2 : b.deeds.length < 1000000
  e3 : b.backs.length < 1000000
  e4 : ∀ e ∈ b.ents, e.ls.length ≤ 1000
  e5 : b.ends.length < 1000000
  e6 : b.rows.length < 1000000
  e7 : b.names.length < 1000000
/-- a book whose text can be written -/
structure Wrt (b : Bk) : Prop where
  fit : ∀ d ∈ b.deeds, d.Fit
  rows : (rowsAll b.deeds).length ≤ 15000
  len : (txt b.deeds).length ≤ 16000000
theorem wrt_of {b : Bk} (h1 : ∀ d ∈ b.deeds, d.Fit) (h2 : ∀ d ∈ b.deeds, (rowsOf d).length ≤ 61) (h3 : b.deeds.length ≤ 200) : Wrt b := by
  have hr : ∀ ds : List Dd, (∀ d ∈ ds, (rowsOf d).length ≤ 61) → (rowsAll ds).length ≤ 61 * ds.length := fun ds => by
    induction ds with
    | nil => simp [rowsAll]
    | cons d ds ih =>
      intro h
      have a1 := h d List.mem_cons_self
      have a2 := ih fun x hx => h x (List.mem_cons_of_mem _ hx)
      have e : rowsAll (d :: ds) = rowsOf d ++ rowsAll ds := by simp [rowsAll]
      rw [e, List.length_append, List.length_cons]
      omega
  have r1 := hr b.deeds h2
  refine ⟨h1, by omega, ?_⟩
  have hall : ∀ r ∈ (rowsAll b.deeds).map fun r : Str => r ++ ("\n" : Str), r.length ≤ 1001 := fun r hr => by
    obtain ⟨x, hx, rfl⟩ := List.mem_map.mp hr
    obtain ⟨d, hd, hx⟩ := List.mem_flatMap.mp hx
    have := rows_fit (h1 d hd) x hx
    have n1 : ("\n" : Str).length = 1 := by decide +kernel
    rw [str_len_add, n1]; omega
  have h4 := StrLaws.join_length_le "" ((rowsAll b.deeds).map fun r => r ++ "\n")
  have h5 := sum_le hall
  have e0 : ("" : Str).length = 0 := by decide +kernel
  rw [e0, Nat.mul_zero, Nat.add_zero] at h4
  unfold txt
  rw [TL.join_eq]
  rw [List.length_map] at h5
  omega
def Fits (d : Dd) : Prop := d.Fit ∧ (rowsOf d).length ≤ 61
theorem acc_fit {x : Str} (h : isName x = true) : Fits (.acc x) := by
  obtain ⟨_, _, n3⟩ := name_nm h
  refine ⟨?_, by simp [rowsOf]⟩
  show ∀ p ∈ tupDs (Dd.acc x).d, fitD p
  simp [Dd.d, tupDs, fitD]
  exact ⟨by decide +kernel, by omega⟩
theorem home_fit {x : Str} (h : isCur x = true) : Fits (.home x) := by
  refine ⟨?_, by simp [rowsOf]⟩
  show ∀ p ∈ tupDs (Dd.home x).d, fitD p
  have := cur_len3 h
  simp [Dd.d, tupDs, fitD]
  exact ⟨by decide +kernel, by omega⟩
theorem day_abs {d : Int} (h : isDay d = true) : 0 ≤ d ∧ d ≤ 99999 := by
  unfold isDay at h
  simp only [Bool.and_eq_true, decide_eq_true_eq] at h
  exact h
theorem day_of {d : Int} (h0 : 0 ≤ d) (h1 : d ≤ 99999) : isDay d = true := by
  unfold isDay
  simp [h0, h1]
theorem close_fit {d : Int} (h : isDay d = true) : Fits (.close d) := by
  refine ⟨?_, by simp [rowsOf]⟩
  show ∀ p ∈ tupDs (Dd.close d).d, fitD p
  have := day_abs h
  simp [Dd.d, tupDs, fitD]
  exact ⟨by decide +kernel, by omega⟩
theorem back_fit {k d : Int} (hk : k.natAbs < 10 ^ 40) (hd : d.natAbs < 10 ^ 40) : Fits (.back k d) := by
  refine ⟨?_, by simp [rowsOf]⟩
  show ∀ p ∈ tupDs (Dd.back k d).d, fitD p
  simp [Dd.d, tupDs, fitD]
  exact ⟨by decide +kernel, by simpa using hk, by simpa using hd⟩
theorem rate_fit {r : RRow} (h : isCur r.c = true) (hd : isDay r.d = true) (hr : isRate r.t r.q = true) : Fits (.rate r) := by
  refine ⟨?_, by simp [rowsOf]⟩
  show ∀ p ∈ tupDs (Dd.rate r).d, fitD p
  have := cur_len3 h
  have := day_abs hd
  have : (1 ≤ r.t ∧ r.t ≤ 1000000000) ∧ 1 ≤ r.q ∧ r.q ≤ 1000000000 := by
    unfold isRate at hr
    simpa [and_assoc] using hr
  simp [Dd.d, tupDs, fitD]
  exact ⟨by decide +kernel, by omega, by omega, by omega, by omega⟩
theorem ent_fit {d : Int} {note : Str} {ls : List Ln} (hd : isDay d = true) (hn : note.length ≤ 40) (hl : ls.length ≤ 60) (h : ∀ l ∈ ls, isName l.a = true ∧ isCur l.c = true ∧ l.x.natAbs < 10 ^ 40) : Fits (.ent d note ls) := by
  have := day_abs hd
  refine ⟨⟨by omega, by omega, by omega, fun l hl => ?_⟩, by simp [rowsOf]; omega⟩
  obtain ⟨a1, a2, a3⟩ := h l hl
  obtain ⟨_, _, n3⟩ := name_nm a1
  have c3 := cur_len3 a2
  exact ⟨by omega, by omega, a3⟩
theorem chg_fit {d x : Int} {g o t u note : Str} (hd : isDay d = true) (hx : x.natAbs < 10 ^ 40) (hg : isName g = true) (ho : isCur o = true) (ht : isName t = true) (hu : isCur u = true) (hn : note.length ≤ 40) : Fits (.chg d g o x t u note) := by
  refine ⟨?_, by simp [rowsOf]⟩
  show ∀ p ∈ tupDs (Dd.chg d g o x t u note).d, fitD p
  have := cur_len3 ho
  have := cur_len3 hu
  have := day_abs hd
  obtain ⟨_, _, n3⟩ := name_nm hg
  obtain ⟨_, _, n4⟩ := name_nm ht
  simp [Dd.d, tupDs, fitD]
  exact ⟨by decide +kernel, by omega, by omega, by omega, by simpa using hx, by omega, by omega, by omega⟩
theorem Wrt.more {b : Bk} (h : ∀ d ∈ b.deeds, Fits d) (h3 : b.deeds.length ≤ 200) : Wrt b := wrt_of (fun d hd => (h d hd).1) (fun d hd => (h d hd).2) h3
end
end DL

/-! reports: what they answer -/
namespace DL
open PySem PySem.Spec PyProof.Rows L2
section
variable {S : Store} {n : Nat} {b : Bk}
abbrev TKV := List (List Key × Wv)
theorem atK_put (kvs : TKV) (k j : List Key) (w : Wv) : atK (putKW kvs k w) j = if j = k then some w else atK kvs j := by
  unfold putKW
  split
  · rename_i ha
    have hm : ∀ kvs : TKV, atK (kvs.map fun kv => if kv.1 = k then (kv.1, w) else kv) j = if j = k then (if (kvs.any fun kv => decide (kv.1 = k)) = true then some w else none) else atK kvs j := fun kvs => by
      induction kvs with
      | nil => by_cases h : j = k <;> simp [atK, h]
      | cons p r ih =>
        unfold atK at *
        rw [List.map_cons, List.find?_cons, List.any_cons]
        by_cases hp : p.1 = k
        · rw [if_pos hp]
          by_cases hj : j = k
          · simp [hp, hj]
          · have hpj : ¬ p.1 = j := fun e => hj (by rw [← e, hp])
            simp only [hpj, decide_false]
            rw [ih]
            simp [hj, List.find?_cons, hpj]
        · rw [if_neg hp]
          by_cases hpj : p.1 = j
          · have hj : ¬ j = k := fun e => hp (by rw [hpj, e])
            simp [hpj, hj, List.find?_cons]
          · simp only [hpj, decide_false]
            rw [ih, show (decide (p.1 = k)) = false from decide_eq_false hp, Bool.false_or]
            simp [hpj, List.find?_cons]
    rw [hm kvs, if_pos ha]
  · rename_i ha
    by_cases hj : j = k
    · rw [if_pos hj]
      unfold atK
      rw [List.find?_append]
      have : (kvs.find? fun kv => decide (kv.1 = j)) = none := by
        rw [List.find?_eq_none]
        intro p hp hq
        exact ha (List.any_eq_true.mpr ⟨p, hp, by rw [← hj]; exact hq⟩)
      rw [this]
      simp [hj]
    · rw [if_neg hj]
      unfold atK
      rw [List.find?_append]
      have : ([(k, w)].find? fun kv => decide (kv.1 = j)) = none := by
        simp
        exact fun e => hj e.symm
      rw [this, Option.or_none]
theorem keysOf2 (x c : Str) : keysOf [.str x, .str c] = some [.inr x, .inr c] := rfl
theorem dictW_T {S : Store} {n : Nat} {kvs : TKV} (h : S[n]? = some (.dT kvs)) (x c : Str) : dictW S (.ref n) (.d (.tup [.str x, .str c])) = some (atK kvs [.inr x, .inr c]) := by
  simp [dictW, dGet, h, keysOf2]
theorem isDict_T {S : Store} {n : Nat} {kvs : TKV} (h : S[n]? = some (.dT kvs)) : isDictW S (.ref n) = true := by simp [isDictW, h]
@[simp] theorem evGet1_s {S : Store} {ρ : Env} (fo fa : Ev) : evGet1 fo fa ρ S = (fo ρ S).bind fun d S1 => if isDictW S1 d = true then (fa ρ S1).bind fun k S2 => match dictW S2 d k with
  | some (some v) => .ok v S2
  | some none => .ok (.d .non) S2
  | none => .no
  else .no := rfl
def kvT (p : Str × Str) : List Key × Wv := ([.inr p.1, .inr p.2], Bo true)
def addP (l : List (Str × Str)) (p : Str × Str) : List (Str × Str) := if p ∈ l then l else l ++ [p]
theorem put_kvT (l : List (Str × Str)) (p : Str × Str) : putKW (l.map kvT) [.inr p.1, .inr p.2] (Bo true) = (addP l p).map kvT := by
  have he : ((l.map kvT).any fun kv => decide (kv.1 = [.inr p.1, .inr p.2])) = decide (p ∈ l) := by
    rw [List.any_map]
    induction l with
    | nil => simp
    | cons q l ih =>
      rw [List.any_cons, ih]
      have : (((fun kv : List Key × Wv => decide (kv.1 = [.inr p.1, .inr p.2])) ∘ kvT) q) = decide (p = q) := by
        obtain ⟨q1, q2⟩ := q
        obtain ⟨p1, p2⟩ := p
        rw [Bool.eq_iff_iff, decide_eq_true_eq]
        show decide (([.inr q1, .inr q2] : List Key) = [.inr p1, .inr p2]) = true ↔ _
        rw [decide_eq_true_eq]
        constructor
        · intro z
          simp at z
          rw [z.1, z.2]
        · intro z
          cases z
          rfl
      rw [this]
      by_cases h : p = q <;> simp [h]
  unfold putKW addP
  by_cases h : p ∈ l
  · rw [he, decide_eq_true h, if_pos rfl, if_pos h, List.map_map]
    refine List.map_congr_left fun q _ => ?_
    show (if (kvT q).1 = [.inr p.1, .inr p.2] then ((kvT q).1, Bo true) else kvT q) = kvT q
    by_cases h : (kvT q).1 = [.inr p.1, .inr p.2]
    · rw [if_pos h]; rfl
    · rw [if_neg h]
  · rw [he, decide_eq_false h, if_neg Bool.false_ne_true, if_neg h]
    simp [kvT]
def pairL (l : List (Str × Str)) (ls : List Ln) : List (Str × Str) := ls.foldl (fun l x => addP l (x.a, x.c)) l
def pairE (d : Int) (l : List (Str × Str)) (es : List En) : List (Str × Str) := es.foldl (fun l e => if e.day ≤ d then pairL l e.ls else l) l
def pairsV (es : List En) (d : Int) : List (Str × Str) := sortS (pairE d [] es)
theorem mem_addP {l : List (Str × Str)} {p q : Str × Str} : q ∈ addP l p ↔ q ∈ l ∨ q = p := by
  unfold addP
  split
  · rename_i h
    exact ⟨.inl, fun z => z.elim id fun e => by rw [e]; exact h⟩
  · simp
theorem len_addP {l : List (Str × Str)} {p : Str × Str} : (addP l p).length ≤ l.length + 1 := by
  unfold addP
  split <;> simp
theorem mem_pairL {q : Str × Str} : ∀ {ls : List Ln} {l : List (Str × Str)}, q ∈ pairL l ls ↔ q ∈ l ∨ ∃ x ∈ ls, q = (x.a, x.c)
  | [], l => by simp [pairL]
  | x :: ls, l => by
    have ih := mem_pairL (q := q) (ls := ls) (l := addP l (x.a, x.c))
    unfold pairL at *
    rw [List.foldl_cons, ih, mem_addP]
    simp only [List.mem_cons, exists_eq_or_imp]
    exact or_assoc
theorem len_pairL : ∀ {ls : List Ln} {l : List (Str × Str)}, (pairL l ls).length ≤ l.length + ls.length
  | [], l => by simp [pairL]
  | x :: ls, l => by
    have ih := len_pairL (ls := ls) (l := addP l (x.a, x.c))
    have := len_addP (l := l) (p := (x.a, x.c))
    unfold pairL at *
    rw [List.foldl_cons, List.length_cons]
    omega
theorem mem_pairE {d : Int} {q : Str × Str} : ∀ {es : List En} {l : List (Str × Str)}, q ∈ pairE d l es ↔ q ∈ l ∨ ∃ e ∈ es, e.day ≤ d ∧ ∃ x ∈ e.ls, q = (x.a, x.c)
  | [], l => by simp [pairE]
  | e :: es, l => by
    have ih := mem_pairE (d := d) (q := q) (es := es) (l := if e.day ≤ d then pairL l e.ls else l)
    unfold pairE at *
    rw [List.foldl_cons, ih]
    by_cases h : e.day ≤ d
    · rw [if_pos h, mem_pairL]
      simp only [List.mem_cons, exists_eq_or_imp]
      constructor
      · rintro ((h1 | h1) | h1)
        · exact .inl h1
        · exact .inr (.inl ⟨h, h1⟩)
        · exact .inr (.inr h1)
      · rintro (h1 | ⟨_, h1⟩ | h1)
        · exact .inl (.inl h1)
        · exact .inl (.inr h1)
        · exact .inr h1
    · rw [if_neg h]
      simp only [List.mem_cons, exists_eq_or_imp]
      constructor
      · rintro (h1 | h1)
        · exact .inl h1
        · exact .inr (.inr h1)
      · rintro (h1 | ⟨h1, _⟩ | h1)
        · exact .inl h1
        · exact absurd h1 h
        · exact .inr h1
theorem len_pairE {d : Int} : ∀ {es : List En} {l : List (Str × Str)}, (∀ e ∈ es, e.ls.length ≤ 60) → (pairE d l es).length ≤ l.length + 60 * es.length
  | [], l, _ => by simp [pairE]
  | e :: es, l, h => by
    have ih := len_pairE (d := d) (es := es) (l := if e.day ≤ d then pairL l e.ls else l) fun y hy => h y (List.mem_cons_of_mem _ hy)
    have h0 := h e List.mem_cons_self
    have h1 := len_pairL (ls := e.ls) (l := l)
    unfold pairE at *
    rw [List.foldl_cons, List.length_cons]
    split at ih <;> rename_i hh
    · rw [if_pos hh]; omega
    · rw [if_neg hh]; omega
theorem mem_pairsV {d : Int} {q : Str × Str} {es : List En} : q ∈ pairsV es d ↔ ∃ e ∈ es, e.day ≤ d ∧ ∃ x ∈ e.ls, q = (x.a, x.c) := by
  unfold pairsV
  rw [(sortG_perm _).mem_iff, mem_pairE]
  simp
theorem len_pairsV {d : Int} {es : List En} (h : ∀ e ∈ es, e.ls.length ≤ 60) : (pairsV es d).length ≤ 60 * es.length := by
  unfold pairsV
  rw [(sortG_perm _).length_eq]
  have := len_pairE (d := d) (l := []) h
  simpa using this
theorem dPut_T {S : Store} {n : Nat} {kvs : TKV} {v : Wv} (h : S[n]? = some (.dT kvs)) (x c : Str) (hv : v.calm = true) (hl : kvs.length < 16777216) : dPut S n (.d (.tup [.str x, .str c])) v = some (S.set n (.dT (putKW kvs [.inr x, .inr c] v))) := by
  simp [dPut, h, hv, hl, keysOf2]
theorem pu_lines (chk : Store → Prop) (hc : ∀ S, chk S) (S : Store) (x0 x1 x3 : Option Wv) : ∀ (ls : List Ln) (l : List (Str × Str)) (x4 : Option Wv), l.length + ls.length ≤ 1000000 →
    ∃ y4, sForL chk 4 lb_pairs_up_to_1 (ls.map Ln.w) [x0, x1, some (.ref S.length), x3, x4] (S ++ [.dT (l.map kvT)]) = .nx [x0, x1, some (.ref S.length), x3, y4] (S ++ [.dT ((pairL l ls).map kvT)])
  | [], l, x4, _ => ⟨x4, by rw [List.map_nil, sForL, if_pos (hc _)]; rfl⟩
  | x :: ls, l, x4, hl => by
    simp only [List.length_cons] at hl
    have hla := len_addP (l := l) (p := (x.a, x.c))
    obtain ⟨y, ey⟩ := pu_lines chk hc S x0 x1 x3 ls (addP l (x.a, x.c)) (some x.w) (by omega)
    refine ⟨y, ?_⟩
    have e1 : (S ++ [O.dT (l.map kvT)])[S.length]? = some (.dT (l.map kvT)) := by simp
    have hput := dPut_T (v := Bo true) e1 x.a x.c rfl (by rw [List.length_map]; omega)
    rw [put_kvT l (x.a, x.c)] at hput
    have body : lb_pairs_up_to_1 ([x0, x1, some (.ref S.length), x3, x4].set 4 (some x.w)) (S ++ [.dT (l.map kvT)]) = .nx [x0, x1, some (.ref S.length), x3, some x.w] (S ++ [.dT ((addP l (x.a, x.c)).map kvT)]) := by
      generalize (addP l (x.a, x.c)).map kvT = K at *
      generalize l.map kvT = L at *
      simp [lb_pairs_up_to_1, Ln.w, Ln.d, gIxI_tup, hput]
    rw [List.map_cons, sForL, if_pos (hc _), body]
    exact ey
theorem pu_entries (chk : Store → Prop) (S : Store) (hc : ∀ o, chk (S ++ [o])) (x0 : Option Wv) (d : Int) : ∀ (es : List En) (l : List (Str × Str)) (x3 x4 : Option Wv), (∀ e ∈ es, e.ls.length ≤ 60) → l.length + 60 * es.length ≤ 1000000 →
    ∃ y3 y4, sForL chk 3 lb_pairs_up_to_2 (es.map En.w) [x0, some (I d), some (.ref S.length), x3, x4] (S ++ [.dT (l.map kvT)]) = .nx [x0, some (I d), some (.ref S.length), y3, y4] (S ++ [.dT ((pairE d l es).map kvT)])
  | [], l, x3, x4, _, _ => ⟨x3, x4, by rw [List.map_nil, sForL, if_pos (hc _)]; rfl⟩
  | e :: es, l, x3, x4, h, hl => by
    have h0 := h e List.mem_cons_self
    simp only [List.length_cons] at hl
    have hpl := len_pairL (ls := e.ls) (l := l)
    have x1e : ∀ S, gIxI e.w 1 S = .ok (I e.day) S := fun S => by simp [En.w, En.d, gIxI_tup]
    have x3e : ∀ S, gIxI e.w 3 S = .ok (.d (.tup (e.ls.map Ln.d))) S := fun S => by simp [En.w, En.d, gIxI_tup]
    by_cases hd : e.day ≤ d
    · obtain ⟨y4, e4⟩ := pu_lines (fun _ => True) (fun _ => trivial) S x0 (some (I d)) (some e.w) e.ls l x4 (by omega)
      obtain ⟨z3, z4, e5⟩ := pu_entries chk S hc x0 d es (pairL l e.ls) (some e.w) y4 (fun y hy => h y (List.mem_cons_of_mem _ hy)) (by omega)
      refine ⟨z3, z4, ?_⟩
      have body : lb_pairs_up_to_2 ([x0, some (I d), some (.ref S.length), x3, x4].set 3 (some e.w)) (S ++ [.dT (l.map kvT)]) = .nx [x0, some (I d), some (.ref S.length), some e.w, y4] (S ++ [.dT ((pairL l e.ls).map kvT)]) := by
        rw [map_lnw] at e4
        generalize (pairL l e.ls).map kvT = K at *
        generalize l.map kvT = L at *
        generalize e.w = w at *
        generalize e.ls.map Ln.d = M at *
        simp [lb_pairs_up_to_2, x1e, x3e, hd]
        exact e4
      rw [List.map_cons, sForL, if_pos (hc _), body]
      have : pairE d l (e :: es) = pairE d (pairL l e.ls) es := by unfold pairE; rw [List.foldl_cons, if_pos hd]
      rw [this]
      exact e5
    · obtain ⟨z3, z4, e5⟩ := pu_entries chk S hc x0 d es l (some e.w) x4 (fun y hy => h y (List.mem_cons_of_mem _ hy)) (by omega)
      refine ⟨z3, z4, ?_⟩
      have body : lb_pairs_up_to_2 ([x0, some (I d), some (.ref S.length), x3, x4].set 3 (some e.w)) (S ++ [.dT (l.map kvT)]) = .nx [x0, some (I d), some (.ref S.length), some e.w, x4] (S ++ [.dT (l.map kvT)]) := by
        generalize l.map kvT = L at *
        generalize e.w = w at *
        simp [lb_pairs_up_to_2, x1e, hd]
      rw [List.map_cons, sForL, if_pos (hc _), body]
      have : pairE d l (e :: es) = pairE d l es := by unfold pairE; rw [List.foldl_cons, if_neg hd]
      rw [this]
      exact e5
/-- the way both have: the keys as a sorted list -/
theorem pu_end (S : Store) (l : List (Str × Str)) (x0 x1 x3 x4 : Option Wv) : sRet (evN gSortedS (evCons (evN gListT (evCons (evVar 2) evNil)) evNil)) [x0, x1, some (.ref S.length), x3, x4] (S ++ [.dT (l.map kvT)]) = .rt (.d (.lst ((sortS l).map pS))) (S ++ [.dT (l.map kvT)]) := by
  have e1 : (S ++ [O.dT (l.map kvT)])[S.length]? = some (.dT (l.map kvT)) := by simp
  have g1 := gListT_s e1
  have e2 : (l.map kvT).map (fun kv => kD kv.1) = l.map pS := by rw [List.map_map]; rfl
  rw [e2] at g1
  have g2 := gSortedS_s l (S ++ [O.dT (l.map kvT)])
  generalize l.map kvT = L at *
  generalize l.map pS = M at *
  generalize (sortS l).map pS = N at *
  simp [g1, g2]
theorem p_pairs_up_to (a : At S n b) (h60 : ∀ e ∈ b.ents, e.ls.length ≤ 60) (hl : b.ents.length ≤ 1000) (d : Int) : sem_pairs_up_to [.ref n, I d] S = .ok (.d (.lst ((pairsV b.ents d).map pS))) S := by
  have a1 : ∀ o, At (S ++ [o]) n b := fun o => a.app [o]
  obtain ⟨y3, y4, e⟩ := pu_entries (fun S => seqW S (.ref (n + 4)) = some (true, b.ents.map En.w)) S (fun o => seqW_ref (a1 o).h4) (some (.ref n)) d b.ents [] none none h60 (by simp; omega)
  unfold sem_pairs_up_to
  rw [fnP_s]
  have q : fnS 2 5 (sSeq (sSet 2 evDictT) (sSeq (sFor 3 (evItems (evUn (gFld 0 3) (evVar 0))) lb_pairs_up_to_2) (sRet (evN gSortedS (evCons (evN gListT (evCons (evVar 2) evNil)) evNil))))) [.ref n, I d] S = .ok (.d (.lst ((pairsV b.ents d).map pS))) (S ++ [.dT ((pairE d [] b.ents).map kvT)]) := by
    rw [fnS_s, if_pos (by rfl)]
    show (sSeq _ _ [some (.ref n), some (I d), none, none, none] S).out = _
    have q1 : sSet 2 evDictT [some (.ref n), some (I d), none, none, none] S = .nx [some (.ref n), some (I d), some (.ref S.length), none, none] (S ++ [.dT []]) := rfl
    have q2 : sFor 3 (evItems (evUn (gFld 0 3) (evVar 0))) lb_pairs_up_to_2 [some (.ref n), some (I d), some (.ref S.length), none, none] (S ++ [.dT []]) = .nx [some (.ref n), some (I d), some (.ref S.length), y3, y4] (S ++ [.dT ((pairE d [] b.ents).map kvT)]) := by
      simp only [sFor_s, evItems_s, evUn_s, evVar_s, List.getElem?_cons_zero, bind_ok, (a1 _).f3, itW_of (seqW_ref (a1 _).h4), toS_ok]
      exact e
    rw [sSeq_s, q1, seq_nx, sSeq_s, q2, seq_nx, pu_end]
    rfl
  rw [q]
  exact trim_ok (under_d _ _)
def gv (a b : Int) : Int := if b = 0 then a else (Int.gcd a b : Int)
theorem gv_step {a b : Int} (h : 0 < b) : gv b (a % b) = gv a b := by
  have e : Int.gcd (a % b) b = Int.gcd a b := by
    rw [Int.emod_def]
    exact Int.gcd_sub_mul_left_left b a (a / b)
  have hb : ¬ b = 0 := by omega
  unfold gv
  rw [if_neg hb, ← e]
  split
  · rename_i h0
    rw [h0, Int.gcd_zero_left]
    omega
  · rw [Int.gcd_comm]
abbrev tG : Env → Store → Res Bool := evT (evBin (gEq true) (evVar 1) (evC (.int 0)))
abbrev gG : Sv := sSeq (sSet 2 (evBin gMod (evVar 0) (evVar 1))) (sSeq (sSet 0 (evVar 1)) (sSet 1 (evVar 2)))
theorem it_gcd (S : Store) : ∀ (n : Nat) (b a : Int) (r : Option Wv), 0 ≤ b → b.toNat < n → ∃ r', iter tG gG n [some (I a), some (I b), r] S = some (.nx [some (I (gv a b)), some (I 0), r'] S)
  | 0, b, a, r, h0, h => absurd h (Nat.not_lt_zero _)
  | n + 1, b, a, r, h0, h => by
    rw [iter]
    by_cases hb : b = 0
    · subst hb
      refine ⟨r, ?_⟩
      simp [gv]
    · have hp : 0 < b := by omega
      have h1 := Int.emod_nonneg a hb
      have h2 := Int.emod_lt_of_pos a hp
      obtain ⟨r', e⟩ := it_gcd S n (a % b) b (some (I (a % b))) h1 (by omega)
      refine ⟨r', ?_⟩
      rw [gv_step hp] at e
      simp [hb, hp]
      exact e
theorem p_gcd (S : Store) (a b : Int) (r : Option Wv) (h0 : 0 ≤ b) : ∃ r', sWhile tG gG [some (I a), some (I b), r] S = .nx [some (I (gv a b)), some (I 0), r'] S := by
  obtain ⟨r', e⟩ := it_gcd S (b.toNat + 1) b a r h0 (Nat.lt_succ_self _)
  exact ⟨r', sWhile_eq e⟩
theorem p_common (S : Store) (a b : Int) (h0 : 0 ≤ b) : sem_common [I a, I b] S = .ok (I (gv a b)) S := by
  obtain ⟨r', e⟩ := p_gcd S a b none h0
  unfold sem_common
  simp [fnS_s, e]
theorem gv_pos {a b : Int} (h : 0 < b) : 0 < gv a b ∧ gv a b ∣ a ∧ gv a b ∣ b := by
  unfold gv
  rw [if_neg (by omega)]
  have h1 : 0 < Int.gcd a b := Int.gcd_pos_of_ne_zero_right a (by omega)
  exact ⟨by omega, Int.gcd_dvd_left a b, Int.gcd_dvd_right a b⟩
theorem gv_one {a b : Int} (h : 0 < b) : gv (a / gv a b) (b / gv a b) = 1 := by
  obtain ⟨h1, h2, h3⟩ := gv_pos (a := a) h
  have hb : 0 < b / gv a b := Int.ediv_pos_of_pos_of_dvd h (by omega) h3
  have e : gv a b = (Int.gcd a b : Int) := by
    unfold gv
    rw [if_neg (by omega)]
  unfold gv
  rw [if_neg (by unfold gv at hb; omega), ← show gv a b = (if b = 0 then a else (Int.gcd a b : Int)) from rfl, e]
  have h4 : 0 < Int.gcd a b := Int.gcd_pos_of_ne_zero_right a (by omega)
  rw [Int.gcd_ediv_gcd_ediv_gcd h4]
  rfl
theorem p_lowest (S : Store) (a b : Int) (h0 : 0 < b) (hs : Sm b) : sem_lowest [I a, I b] S = .ok (.d (.tup [.int (a / gv a b), .int (b / gv a b)])) S := by
  obtain ⟨h1, h2, h3⟩ := gv_pos (a := a) h0
  have h4 : Sm (gv a b) := by
    have h5 := Int.le_of_dvd h0 h3
    unfold Sm at hs ⊢
    have : (gv a b).natAbs ≤ b.natAbs := by omega
    exact Nat.lt_of_le_of_lt this hs
  unfold sem_lowest
  simp [fnS_s, p_common S a b (by omega), h1, h4]
theorem mulS {i j : Int} (h : i.natAbs ≤ 10 ^ 200) (h' : j.natAbs ≤ 10 ^ 200) : MulOk i j := .inr ⟨sm_le h, sm_le h'⟩
/-- a sum of fractions on the way -/
structure Fr2 (j : Nat) (q : Int × Int) : Prop where
  pos : 1 ≤ q.2
  low : q.2 ≤ 10 ^ (9 * j)
  top : q.1.natAbs ≤ 10 ^ (40 + 10 * j)
def lowV (t q : Int) : Int × Int := (t / gv t q, q / gv t q)
theorem rt_abs {p : Int} (h : 1 ≤ p ∧ p ≤ 1000000000) : p.natAbs ≤ 10 ^ 9 := by omega
theorem top_next {j : Nat} {t q v p1 p2 : Int} (ht : t.natAbs ≤ 10 ^ (40 + 10 * j)) (hq : 1 ≤ q ∧ q ≤ 10 ^ (9 * j)) (hv : v.natAbs ≤ 10 ^ 36) (h1 : 1 ≤ p1 ∧ p1 ≤ 1000000000) (h2 : 1 ≤ p2 ∧ p2 ≤ 1000000000) : (t * p2 + v * p1 * q).natAbs ≤ 10 ^ (40 + 10 * (j + 1)) := by
  have a1 : (t * p2).natAbs ≤ 10 ^ (40 + 10 * j) * 10 ^ 9 := by rw [Int.natAbs_mul]; exact Nat.mul_le_mul ht (rt_abs h2)
  have hq' : q.natAbs ≤ 10 ^ (9 * j) := by
    have : ((10 ^ (9 * j) : Nat) : Int) = 10 ^ (9 * j) := by simp
    omega
  have a2 : (v * p1 * q).natAbs ≤ 10 ^ 36 * 10 ^ 9 * 10 ^ (9 * j) := by rw [Int.natAbs_mul, Int.natAbs_mul]; exact Nat.mul_le_mul (Nat.mul_le_mul hv (rt_abs h1)) hq'
  have a3 : 10 ^ 36 * 10 ^ 9 * 10 ^ (9 * j) ≤ 10 ^ (40 + 10 * j) * 10 ^ 9 := by
    rw [← Nat.pow_add, ← Nat.pow_add, ← Nat.pow_add]
    exact Nat.pow_le_pow_right (by decide) (by omega)
  have a4 : 10 ^ (40 + 10 * (j + 1)) = 10 ^ (40 + 10 * j) * 10 ^ 9 * 10 := by
    rw [← Nat.pow_add, ← Nat.pow_succ, show 40 + 10 * (j + 1) = (40 + 10 * j + 9).succ by omega]
  have := Int.natAbs_add_le (t * p2) (v * p1 * q)
  omega
theorem low_next {j : Nat} {q p2 : Int} (hq : 1 ≤ q ∧ q ≤ 10 ^ (9 * j)) (h2 : 1 ≤ p2 ∧ p2 ≤ 1000000000) : 1 ≤ q * p2 ∧ q * p2 ≤ 10 ^ (9 * (j + 1)) := by
  have h3 : 0 < q * p2 := Int.mul_pos (by omega) (by omega)
  refine ⟨by omega, ?_⟩
  have e : (10 : Int) ^ (9 * (j + 1)) = 10 ^ (9 * j) * 1000000000 := by
    rw [show 9 * (j + 1) = 9 * j + 9 by omega, Int.pow_add]
    rfl
  rw [e]
  exact Int.mul_le_mul hq.2 h2.2 (by omega) (by omega)
theorem Fr2.next {j : Nat} {a : Int × Int} (h : Fr2 j a) {v p1 p2 : Int} (hv : v.natAbs ≤ 10 ^ 36) (h1 : 1 ≤ p1 ∧ p1 ≤ 1000000000) (h2 : 1 ≤ p2 ∧ p2 ≤ 1000000000) : Fr2 (j + 1) (a.1 * p2 + v * p1 * a.2, a.2 * p2) :=
  ⟨(low_next ⟨h.pos, h.low⟩ h2).1, (low_next ⟨h.pos, h.low⟩ h2).2, top_next h.top ⟨h.pos, h.low⟩ hv h1 h2⟩
theorem Fr2.lowV {j : Nat} {t q : Int} (h : Fr2 j (t, q)) : Fr2 j (lowV t q) := by
  obtain ⟨h1, h2, h3⟩ := h
  obtain ⟨g1, g2, g3⟩ := gv_pos (a := t) (show 0 < q from h1)
  have hp : 0 < q / gv t q := Int.ediv_pos_of_pos_of_dvd (show 0 < q from h1) (by omega) g3
  refine ⟨hp, Int.le_trans (Int.ediv_le_self _ (show 0 ≤ q by omega)) h2, Nat.le_trans (Int.natAbs_ediv_le_natAbs t (gv t q)) h3⟩
theorem lowV_eq {t q : Int} (h : 1 ≤ q) : (lowV t q).1 * q = t * (lowV t q).2 := by
  obtain ⟨g1, g2, g3⟩ := gv_pos (a := t) (show 0 < q by omega)
  have e1 : t / gv t q * gv t q = t := Int.ediv_mul_cancel g2
  have e2 : q / gv t q * gv t q = q := Int.ediv_mul_cancel g3
  show t / gv t q * q = t * (q / gv t q)
  calc t / gv t q * q = t / gv t q * (q / gv t q * gv t q) := by rw [e2]
    _ = (t / gv t q * gv t q) * (q / gv t q) := by rw [Int.mul_assoc, Int.mul_comm (gv t q)]
    _ = t * (q / gv t q) := by rw [e1]
theorem p_added (S : Store) {j : Nat} (hj : j ≤ 8) {t q : Int} (h : Fr2 j (t, q)) {v p1 p2 : Int} (hv : v.natAbs ≤ 10 ^ 36) (h1 : 1 ≤ p1 ∧ p1 ≤ 1000000000) (h2 : 1 ≤ p2 ∧ p2 ≤ 1000000000) :
    sem_added [.d (.tup [.int t, .int q]), .d (.tup [.int (v * p1), .int p2])] S = .ok (.d (.tup [.int (lowV (t * p2 + v * p1 * q) (q * p2)).1, .int (lowV (t * p2 + v * p1 * q) (q * p2)).2])) S := by
  have l : 1 ≤ q * p2 ∧ q * p2 ≤ 10 ^ (9 * (j + 1)) := low_next ⟨h.pos, h.low⟩ h2
  have e : (10 : Int) ^ (9 * (j + 1)) ≤ 10 ^ 200 := by
    have : (10 : Nat) ^ (9 * (j + 1)) ≤ 10 ^ 200 := Nat.pow_le_pow_right (by decide) (by omega)
    exact_mod_cast this
  have e' : (10 : Int) ^ (9 * j) ≤ 10 ^ 200 := by
    have : (10 : Nat) ^ (9 * j) ≤ 10 ^ 200 := Nat.pow_le_pow_right (by decide) (by omega)
    exact_mod_cast this
  have hq1 : 1 ≤ q := h.pos
  have hq2 : q ≤ 10 ^ (9 * j) := h.low
  have hq : q.natAbs ≤ 10 ^ 200 := by
    have : ((10 ^ 200 : Nat) : Int) = 10 ^ 200 := by simp
    omega
  have hqp : (q * p2).natAbs ≤ 10 ^ 200 := by
    have : ((10 ^ 200 : Nat) : Int) = 10 ^ 200 := by simp
    omega
  have hvp : (v * p1).natAbs ≤ 10 ^ 200 := by
    rw [Int.natAbs_mul]
    exact Nat.le_trans (Nat.mul_le_mul hv (rt_abs h1)) (by decide)
  have m1 : MulOk t p2 := mulR (by omega)
  have m2 : MulOk (v * p1) q := mulS hvp hq
  have m3 : MulOk q p2 := mulR (by omega)
  have pl := p_lowest S (t * p2 + v * p1 * q) (q * p2) (by omega) (sm_le hqp)
  unfold sem_added lowV
  simp [fnS_s, gIxI_tup, m1, m2, m3, pl]
def shP (es : List En) (d : Int) (p : Str × Str) : D := .tup [.str p.1, .str p.2, .int (sumB p.1 p.2 0 d es)]
def shQ (es : List En) (d : Int) : List (Str × Str) := (pairsV es d).filter fun p => decide (sumB p.1 p.2 0 d es ≠ 0)
def shR (es : List En) (d : Int) : List D := (shQ es d).map (shP es d)
theorem shR_dep (es : List En) (d : Int) : depAll (shR es d) ≤ 1 := depAll_map (n := 1) (shP es d) _ fun q _ => by simp [shP]
theorem sh_raw (a : At S n b) (h60 : ∀ e ∈ b.ents, e.ls.length ≤ 60) (hl : b.ents.length ≤ 1000) (d : Int) :
    st_sheet_2 [some (.ref n), some (I d), none, none, none] S = .nx [some (.ref n), some (I d), some (.d (.lst ((pairsV b.ents d).map (shP b.ents d)))), none, none] S := by
  have pu := p_pairs_up_to a h60 hl d
  have hpl := len_pairsV (d := d) h60
  have i0 := a.i0
  have ec := lc_map (S := S) (ρ := [some (.ref n), some (I d), none, none, none]) (fun S => seqW S (.d (.lst ((pairsV b.ents d).map pS))) = some (true, ((pairsV b.ents d).map pS).map .d)) 3 (evN gTup (evCons (evBin gIx (evVar 3) (evC (.int 0))) (evCons (evBin gIx (evVar 3) (evC (.int 1))) (evCons (evMeth 0 5 sem_Book_sum_between (evVar 0) (evCons (evBin gIx (evVar 3) (evC (.int 0))) (evCons (evBin gIx (evVar 3) (evC (.int 1))) (evCons (evC (.int 0)) (evCons (evVar 1) evNil))))) evNil)))) (fun p : Str × Str => .d (pS p)) (fun p => .d (shP b.ents d p)) rfl (fun _ => rfl) (pairsV b.ents d) (by
    intro p _
    have ps := p_sum_between a p.1 p.2 0 d
    simp [pS, gIxI_tup, i0, ps, shP])
  have ev : evLc gFrz (evItems (evN (gCall 2 sem_pairs_up_to) (evCons (evVar 0) (evCons (evVar 1) evNil)))) 3 [3] evYes (evN gTup (evCons (evBin gIx (evVar 3) (evC (.int 0))) (evCons (evBin gIx (evVar 3) (evC (.int 1))) (evCons (evMeth 0 5 sem_Book_sum_between (evVar 0) (evCons (evBin gIx (evVar 3) (evC (.int 0))) (evCons (evBin gIx (evVar 3) (evC (.int 1))) (evCons (evC (.int 0)) (evCons (evVar 1) evNil))))) evNil)))) [some (.ref n), some (I d), none, none, none] S = .ok (.d (.lst ((pairsV b.ents d).map (shP b.ents d)))) S := by
    rw [evLc_s, evItems_s]
    simp only [evN_s, evCons_s, evNil_s, evVar_s, List.getElem?_cons_zero, List.getElem?_cons_succ, bind_ok, gCall_s, List.length_cons, List.length_nil, if_true, pu, itW_lst, List.length_map, wipeE_cons, wipeE_nil, List.set_cons_succ, List.set_cons_zero]
    rw [if_pos (by omega)]
    have em : ((pairsV b.ents d).map pS).map Wv.d = (pairsV b.ents d).map fun p => .d (pS p) := by rw [List.map_map]; rfl
    rw [em] at ec ⊢
    simp only [seqW_lst, em] at ec ⊢
    rw [ec, bind_ok, gFrz_map]
  show sSet 2 _ _ _ = _
  rw [sSet_s, ev, toS_ok]
  rfl
theorem sh_keep (a : At S n b) (h60 : ∀ e ∈ b.ents, e.ls.length ≤ 60) (hl : b.ents.length ≤ 1000) (d : Int) (k : List Wv → Store → Res Wv) :
    evLc k (evItems (evVar 2)) 4 [4] (evT (evBin (gEq true) (evBin gIx (evVar 4) (evC (.int 2))) (evC (.int 0)))) (evVar 4) [some (.ref n), some (I d), some (.d (.lst ((pairsV b.ents d).map (shP b.ents d)))), none, none] S = k ((shR b.ents d).map .d) S := by
  have hpl := len_pairsV (d := d) h60
  have ec := lc_eq (S := S) (ρ := [some (.ref n), some (I d), some (.d (.lst ((pairsV b.ents d).map (shP b.ents d)))), none, none]) (fun S => seqW S (.d (.lst ((pairsV b.ents d).map (shP b.ents d)))) = some (true, ((pairsV b.ents d).map (shP b.ents d)).map .d)) 4 (evT (evBin (gEq true) (evBin gIx (evVar 4) (evC (.int 2))) (evC (.int 0)))) (evVar 4) (fun p : Str × Str => .d (shP b.ents d p)) (fun p => decide (sumB p.1 p.2 0 d b.ents ≠ 0)) (fun p => .d (shP b.ents d p)) rfl (fun _ => rfl) (pairsV b.ents d) [] (by
    intro p _
    constructor
    · generalize (pairsV b.ents d).map (shP b.ents d) = L
      by_cases h : sumB p.1 p.2 0 d b.ents = 0 <;> simp [shP, gIxI_tup, h]
    · intro _
      rfl)
  have em : ((pairsV b.ents d).map (shP b.ents d)).map Wv.d = (pairsV b.ents d).map fun p => .d (shP b.ents d p) := by rw [List.map_map]; rfl
  have er : ((pairsV b.ents d).filter fun p => decide (sumB p.1 p.2 0 d b.ents ≠ 0)).map (fun p => Wv.d (shP b.ents d p)) = (shR b.ents d).map .d := by unfold shR shQ; rw [List.map_map]; rfl
  rw [er, List.nil_append] at ec
  rw [evLc_s, evItems_s]
  simp only [evVar_s, List.getElem?_cons_zero, List.getElem?_cons_succ, bind_ok, itW_lst, List.length_map, wipeE_cons, wipeE_nil, List.set_cons_succ, List.set_cons_zero]
  rw [if_pos (by omega)]
  simp only [seqW_lst, em] at ec ⊢
  rw [ec, bind_ok]
theorem sh_len {es : List En} (h60 : ∀ e ∈ es, e.ls.length ≤ 60) (d : Int) : (shR es d).length ≤ 60 * es.length := by
  have := len_pairsV (d := d) h60
  unfold shR shQ
  rw [List.length_map]
  exact Nat.le_trans (List.length_filter_le ..) this
theorem p_sheet_bad (i0 : isIns 0 S (.ref n) = true) (d : Int) (h : isDay d = false) : sem_sheet [.ref n, I d] S = .rz 4 S := by
  have pn := p_need_day (S := S) (n := n) d
  rw [h, if_neg Bool.false_ne_true] at pn
  unfold sem_sheet
  rw [fnS_s, if_pos (by rfl)]
  show (sSeq _ _ [some (.ref n), some (I d), none, none, none] S).out = _
  have q1 : st_sheet_1 [some (.ref n), some (I d), none, none, none] S = .rz 4 [some (.ref n), some (I d), none, none, none] S := by
    simp [i0, pn]
  rw [sSeq_s, q1]
  rfl
theorem p_sheet (a : At S n b) (h60 : ∀ e ∈ b.ents, e.ls.length ≤ 60) (hl : b.ents.length ≤ 1000) (d : Int) (h : isDay d = true) : sem_sheet [.ref n, I d] S = .ok (.ref S.length) (S ++ [.lst ((shR b.ents d).map .d)]) := by
  have pn := p_need_day (S := S) (n := n) d
  rw [h, if_pos rfl] at pn
  have i0 := a.i0
  unfold sem_sheet
  rw [fnS_s, if_pos (by rfl)]
  show (sSeq _ _ [some (.ref n), some (I d), none, none, none] S).out = _
  have q1 : st_sheet_1 [some (.ref n), some (I d), none, none, none] S = .nx [some (.ref n), some (I d), none, none, none] S := by
    simp [i0, pn]
  have q3 : st_sheet_3 [some (.ref n), some (I d), some (.d (.lst ((pairsV b.ents d).map (shP b.ents d)))), none, none] S = .rt (.ref S.length) (S ++ [.lst ((shR b.ents d).map .d)]) := by
    show sRet _ _ _ = _
    rw [sRet_s, sh_keep a h60 hl]
    rfl
  rw [sSeq_s, q1, seq_nx, sSeq_s, sh_raw a h60 hl, seq_nx, q3]
  rfl
def wF (b : Bk) (x : Str) (d : Int) : List (Str × Str) → Int × Int → Option (Int × Int)
  | [], a => some a
  | r :: rs, a => if r.1 = x then (match rateV b r.2 d with
    | none => none
    | some p => wF b x d rs (lowV (a.1 * p.2 + sumB r.1 r.2 0 d b.ents * p.1 * a.2) (a.2 * p.2))) else wF b x d rs a
def cntX (x : Str) (rs : List (Str × Str)) : Nat := (rs.filter fun r => decide (r.1 = x)).length
def worthV (b : Bk) (x : Str) (d : Int) : Option (Int × Int) := wF b x d (shQ b.ents d) (0, 1)
theorem fr0 : Fr2 0 (0, 1) := ⟨by decide, by decide, by decide⟩
theorem wo_rows (chk : Store → Prop) (hc : chk S) (a : At S n b) (hR : ∀ r ∈ b.rows, isRate r.t r.q = true) (x : Str) (d : Int) (hd : isDay d = true) (hV : ∀ p : Str × Str, (sumB p.1 p.2 0 d b.ents).natAbs ≤ 10 ^ 36) : ∀ (rs : List (Str × Str)) (acc : Int × Int) (j : Nat) (x4 x5 : Option Wv), (∀ r ∈ rs, isCur r.2 = true) → Fr2 j acc → j + cntX x rs ≤ 8 →
    match wF b x d rs acc with
    | some r => ∃ y4 y5, sForL chk 4 lb_worth_1 (rs.map fun p => .d (shP b.ents d p)) [some (.ref n), some (T x), some (I d), some (.d (.tup [.int acc.1, .int acc.2])), x4, x5] S = .nx [some (.ref n), some (T x), some (I d), some (.d (.tup [.int r.1, .int r.2])), y4, y5] S
    | none => ∃ ρ', sForL chk 4 lb_worth_1 (rs.map fun p => .d (shP b.ents d p)) [some (.ref n), some (T x), some (I d), some (.d (.tup [.int acc.1, .int acc.2])), x4, x5] S = .rz 13 ρ' S
  | [], acc, j, x4, x5, _, _, _ => ⟨x4, x5, by rw [List.map_nil, sForL, if_pos hc]⟩
  | r :: rs, acc, j, x4, x5, hcur, hf, hj => by
    have i0s : gIxI (.d (shP b.ents d r)) 0 S = .ok (T r.1) S := by simp [shP, gIxI_tup]
    have i1s : gIxI (.d (shP b.ents d r)) 1 S = .ok (T r.2) S := by simp [shP, gIxI_tup]
    have i2s : gIxI (.d (shP b.ents d r)) 2 S = .ok (I (sumB r.1 r.2 0 d b.ents)) S := by simp [shP, gIxI_tup]
    have i0 := a.i0
    have hcur' : ∀ r ∈ rs, isCur r.2 = true := fun q hq => hcur q (List.mem_cons_of_mem _ hq)
    unfold wF
    by_cases hx : r.1 = x
    · have hcx : cntX x (r :: rs) = cntX x rs + 1 := by unfold cntX; rw [List.filter_cons, if_pos (by simpa using hx), List.length_cons]
      rw [if_pos hx]
      subst hx
      have pr := p_rateV a r.2 (hcur r List.mem_cons_self) d hd
      cases hp : rateV b r.2 d with
      | none =>
        rw [hp] at pr
        simp only at pr ⊢
        refine ⟨[some (.ref n), some (T r.1), some (I d), some (.d (.tup [.int acc.1, .int acc.2])), some (.d (shP b.ents d r)), x5], ?_⟩
        have body : lb_worth_1 ([some (.ref n), some (T r.1), some (I d), some (.d (.tup [.int acc.1, .int acc.2])), x4, x5].set 4 (some (.d (shP b.ents d r)))) S = .rz 13 [some (.ref n), some (T r.1), some (I d), some (.d (.tup [.int acc.1, .int acc.2])), some (.d (shP b.ents d r)), x5] S := by
          generalize shP b.ents d r = z at *
          simp [lb_worth_1, i0s, i1s, i0, pr]
        rw [List.map_cons, sForL, if_pos hc, body]
      | some p =>
        rw [hp] at pr
        simp only at pr ⊢
        obtain ⟨r1, r2⟩ := rateV_ok hR hp
        have hv := hV r
        have pa := p_added S (j := j) (by omega) (show Fr2 j (acc.1, acc.2) from hf) hv r1 r2
        have mo : MulOk (sumB r.1 r.2 0 d b.ents) p.1 := mulR (by omega)
        have hn := (hf.next hv r1 r2).lowV
        have ih := wo_rows chk hc a hR r.1 d hd hV rs (lowV (acc.1 * p.2 + sumB r.1 r.2 0 d b.ents * p.1 * acc.2) (acc.2 * p.2)) (j + 1) (some (.d (shP b.ents d r))) (some (.d (.tup [.int p.1, .int p.2]))) hcur' hn (by omega)
        have body : lb_worth_1 ([some (.ref n), some (T r.1), some (I d), some (.d (.tup [.int acc.1, .int acc.2])), x4, x5].set 4 (some (.d (shP b.ents d r)))) S = .nx [some (.ref n), some (T r.1), some (I d), some (.d (.tup [.int (lowV (acc.1 * p.2 + sumB r.1 r.2 0 d b.ents * p.1 * acc.2) (acc.2 * p.2)).1, .int (lowV (acc.1 * p.2 + sumB r.1 r.2 0 d b.ents * p.1 * acc.2) (acc.2 * p.2)).2])), some (.d (shP b.ents d r)), some (.d (.tup [.int p.1, .int p.2]))] S := by
          generalize shP b.ents d r = z at *
          generalize lowV (acc.1 * p.2 + sumB r.1 r.2 0 d b.ents * p.1 * acc.2) (acc.2 * p.2) = w at *
          simp [lb_worth_1, i0s, i1s, i2s, i0, pr, gIxI_tup, mo, pa]
        rw [List.map_cons, sForL, if_pos hc, body]
        exact ih
    · have hcx : cntX x (r :: rs) = cntX x rs := by unfold cntX; rw [List.filter_cons, if_neg (by simpa using hx)]
      rw [if_neg hx]
      have ih := wo_rows chk hc a hR x d hd hV rs acc j (some (.d (shP b.ents d r))) x5 hcur' hf (by omega)
      have body : lb_worth_1 ([some (.ref n), some (T x), some (I d), some (.d (.tup [.int acc.1, .int acc.2])), x4, x5].set 4 (some (.d (shP b.ents d r)))) S = .nx [some (.ref n), some (T x), some (I d), some (.d (.tup [.int acc.1, .int acc.2])), some (.d (shP b.ents d r)), x5] S := by
        generalize shP b.ents d r = z at *
        simp [lb_worth_1, i0s, hx]
      rw [List.map_cons, sForL, if_pos hc, body]
      exact ih
/-- sums are small -/
theorem sumA_abs (x c : Str) : ∀ ls : List Ln, (∀ l ∈ ls, isAmt l.x = true) → (sumA x c ls).natAbs ≤ ls.length * 10 ^ 30
  | [], _ => by simp [sumA]
  | l :: ls, h => by
    have ih := sumA_abs x c ls fun y hy => h y (List.mem_cons_of_mem _ hy)
    have h0 := h l List.mem_cons_self
    have h1 : l.x.natAbs ≤ 10 ^ 30 := by
      unfold isAmt at h0
      simp at h0
      have h2 := h0.2
      split at h2 <;> omega
    rw [sumA, List.length_cons, Nat.succ_mul]
    split <;> omega
theorem sumB_abs (x c : Str) (f t : Int) : ∀ es : List En, (∀ e ∈ es, e.ls.length ≤ 60 ∧ ∀ l ∈ e.ls, isAmt l.x = true) → (sumB x c f t es).natAbs ≤ es.length * (60 * 10 ^ 30)
  | [], _ => by simp [sumB]
  | e :: es, h => by
    have ih := sumB_abs x c f t es fun y hy => h y (List.mem_cons_of_mem _ hy)
    obtain ⟨h1, h2⟩ := h e List.mem_cons_self
    have h3 := sumA_abs x c e.ls h2
    have h4 : e.ls.length * 10 ^ 30 ≤ 60 * 10 ^ 30 := Nat.mul_le_mul_right _ h1
    rw [sumB, List.length_cons, Nat.succ_mul]
    split <;> omega
theorem nd_addP {l : List (Str × Str)} (h : l.Nodup) (p : Str × Str) : (addP l p).Nodup := by
  unfold addP
  split
  · exact h
  · rename_i hn
    rw [List.nodup_append]
    exact ⟨h, by simp, fun y hy w hw => by
      have : w = p := by simpa using hw
      rw [this]; exact fun e => hn (e ▸ hy)⟩
theorem nd_pairL : ∀ (ls : List Ln) {l : List (Str × Str)}, l.Nodup → (pairL l ls).Nodup
  | [], _, h => h
  | x :: ls, l, h => by
    have := nd_pairL ls (nd_addP h (x.a, x.c))
    unfold pairL at *
    rw [List.foldl_cons]
    exact this
theorem nd_pairE (d : Int) : ∀ (es : List En) {l : List (Str × Str)}, l.Nodup → (pairE d l es).Nodup
  | [], _, h => h
  | e :: es, l, h => by
    have := nd_pairE d es (l := if e.day ≤ d then pairL l e.ls else l) (by split; exact nd_pairL _ h; exact h)
    unfold pairE at *
    rw [List.foldl_cons]
    exact this
theorem cnt_le {es : List En} {cu : List Str} (h : ∀ e ∈ es, ∀ l ∈ e.ls, l.c ∈ cu) (x : Str) (d : Int) : cntX x (shQ es d) ≤ cu.length := by
  have nd : (pairsV es d).Nodup := (sortG_perm _).nodup_iff.mpr (nd_pairE d es List.nodup_nil)
  have nd2 : ((shQ es d).filter fun r => decide (r.1 = x)).Nodup := (nd.filter _).filter _
  have nd3 : (((shQ es d).filter fun r => decide (r.1 = x)).map (·.2)).Nodup := by
    rw [List.nodup_iff_pairwise_ne, List.pairwise_map]
    refine List.Pairwise.imp_of_mem ?_ nd2
    intro p q hp hq hne e
    have e1 : p.1 = x := by simpa using (List.mem_filter.mp hp).2
    have e2 : q.1 = x := by simpa using (List.mem_filter.mp hq).2
    exact hne (Prod.ext (e1.trans e2.symm) e)
  have := nodup_len _ cu nd3 (fun y hy => by
    obtain ⟨p, hp, rfl⟩ := List.mem_map.mp hy
    have h1 := (List.mem_filter.mp (List.mem_filter.mp hp).1).1
    obtain ⟨e, he, _, l, hl, rfl⟩ := mem_pairsV.mp h1
    exact h e he l hl)
  unfold cntX
  rwa [List.length_map] at this
theorem shQ_cur {es : List En} {cu : List Str} (h : ∀ e ∈ es, ∀ l ∈ e.ls, l.c ∈ cu) (hc : ∀ x ∈ cu, isCur x = true) (d : Int) : ∀ r ∈ shQ es d, isCur r.2 = true := fun r hr => by
  obtain ⟨e, he, _, l, hl, rfl⟩ := mem_pairsV.mp (List.mem_filter.mp hr).1
  exact hc _ (h e he l hl)
/-- what is asked of a book for its worths -/
structure WOk (b : Bk) (cu : List Str) : Prop where
  h60 : ∀ e ∈ b.ents, e.ls.length ≤ 60
  hl : b.ents.length ≤ 1000
  hR : ∀ r ∈ b.rows, isRate r.t r.q = true
  hA : ∀ e ∈ b.ents, ∀ l ∈ e.ls, isAmt l.x = true
  hC : ∀ e ∈ b.ents, ∀ l ∈ e.ls, l.c ∈ cu
  c1 : ∀ x ∈ cu, isCur x = true
  c4 : cu.length ≤ 8
theorem WOk.val {b : Bk} {cu : List Str} (w : WOk b cu) (x c : Str) (f t : Int) : (sumB x c f t b.ents).natAbs ≤ 10 ^ 36 := by
  have h := sumB_abs x c f t b.ents fun e he => ⟨w.h60 e he, w.hA e he⟩
  have h2 : b.ents.length * (60 * 10 ^ 30) ≤ 1000 * (60 * 10 ^ 30) := Nat.mul_le_mul_right _ w.hl
  exact Nat.le_trans h (Nat.le_trans h2 (by decide))
theorem p_worth (a : At S n b) {cu : List Str} (w : WOk b cu) (x : Str) (d : Int)
    (hsh : isDay d = true → ∃ t : Wv × List O, sem_sheet [.ref n, I d] S = .ok t.1 (S ++ t.2) ∧ (∀ S', S' = S ++ t.2 → itW t.1 S' = .ok (t.1, (shR b.ents d).map .d, fun S => seqW S t.1 = some (true, (shR b.ents d).map .d)) S') ∧ seqW (S ++ t.2) t.1 = some (true, (shR b.ents d).map .d)) :
    sem_worth [.ref n, T x, I d] S = if x ∈ b.names then (if isDay d = true then (match worthV b x d with
      | some r => .ok (.d (.tup [.int r.1, .int r.2])) S
      | none => .rz 13 S) else .rz 4 S) else .rz 11 S := by
  have i0 := a.i0
  have p1 := p_need_account a x
  have p2 := p_need_day (S := S) (n := n) d
  unfold sem_worth
  rw [fnP_s]
  have eS : ∀ g : Sv, fnS 3 6 g [.ref n, T x, I d] S = (g [some (.ref n), some (T x), some (I d), none, none, none] S).out := fun g => by
    rw [fnS_s, if_pos (by rfl)]
    rfl
  rw [eS]
  have trz : ∀ c, trim S (Res.rz c S : Res Wv) = .rz c S := fun c => by
    unfold trim
    exact if_pos (List.take_length)
  by_cases hx : x ∈ b.names
  · rw [if_pos hx] at p1 ⊢
    have q1 : st_worth_1 [some (.ref n), some (T x), some (I d), none, none, none] S = .nx [some (.ref n), some (T x), some (I d), none, none, none] S := by simp [i0, p1]
    rw [sSeq_s, q1, seq_nx]
    cases hd : isDay d
    · rw [hd, if_neg Bool.false_ne_true] at p2
      rw [if_neg Bool.false_ne_true]
      have q2 : st_worth_2 [some (.ref n), some (T x), some (I d), none, none, none] S = .rz 4 [some (.ref n), some (T x), some (I d), none, none, none] S := by simp [i0, p2]
      rw [sSeq_s, q2]
      exact trz 4
    · rw [hd, if_pos rfl] at p2
      rw [if_pos rfl]
      obtain ⟨⟨t1, t2⟩, es, eit, esq⟩ := hsh hd
      simp only at es eit esq
      have q2 : st_worth_2 [some (.ref n), some (T x), some (I d), none, none, none] S = .nx [some (.ref n), some (T x), some (I d), none, none, none] S := by simp [i0, p2]
      have q3 : st_worth_3 [some (.ref n), some (T x), some (I d), none, none, none] S = .nx [some (.ref n), some (T x), some (I d), some (.d (.tup [.int 0, .int 1])), none, none] S := by simp
      have hcnt := cnt_le w.hC x d
      have c4 := w.c4
      have wr := wo_rows (S := S ++ t2) (fun S => seqW S t1 = some (true, (shR b.ents d).map .d)) esq (a.app t2) w.hR x d hd (fun p => w.val _ _ _ _) (shQ b.ents d) (0, 1) 0 none none (shQ_cur w.hC w.c1 d) fr0 (by omega)
      have em : (shR b.ents d).map Wv.d = (shQ b.ents d).map fun p => .d (shP b.ents d p) := by unfold shR; rw [List.map_map]; rfl
      rw [← em] at wr
      have q4 : ∀ K, sSeq st_worth_4 K [some (.ref n), some (T x), some (I d), some (.d (.tup [.int 0, .int 1])), none, none] S = (sForL (fun S => seqW S t1 = some (true, (shR b.ents d).map .d)) 4 lb_worth_1 ((shR b.ents d).map .d) [some (.ref n), some (T x), some (I d), some (.d (.tup [.int 0, .int 1])), none, none] (S ++ t2)).seq K := fun K => by
        rw [sSeq_s]
        congr 1
        show sFor 4 _ _ _ _ = _
        simp only [sFor_s, evItems_s, evN_s, evCons_s, evNil_s, evVar_s, List.getElem?_cons_zero, List.getElem?_cons_succ, bind_ok, gCall_s, List.length_cons, List.length_nil, if_true, es, eit _ rfl, toS_ok]
      rw [sSeq_s, q2, seq_nx, sSeq_s, q3, seq_nx, q4]
      unfold worthV
      cases hw : wF b x d (shQ b.ents d) (0, 1) with
      | none =>
        rw [hw] at wr
        obtain ⟨ρ', e⟩ := wr
        rw [e]
        show trim S (.rz 13 (S ++ t2)) = _
        unfold trim
        exact if_pos (List.take_left)
      | some r =>
        rw [hw] at wr
        obtain ⟨y4, y5, e⟩ := wr
        rw [e, seq_nx]
        have q5 : st_worth_5 [some (.ref n), some (T x), some (I d), some (.d (.tup [.int r.1, .int r.2])), y4, y5] (S ++ t2) = .rt (.d (.tup [.int r.1, .int r.2])) (S ++ t2) := by simp
        rw [q5]
        exact trim_ok (under_d _ _)
  · rw [if_neg hx] at p1 ⊢
    have q1 : st_worth_1 [some (.ref n), some (T x), some (I d), none, none, none] S = .rz 11 [some (.ref n), some (T x), some (I d), none, none, none] S := by simp [i0, p1]
    rw [sSeq_s, q1]
    exact trz 11
end
end DL

/-! the stranger is no account of ours -/
namespace DL
open PySem PySem.Spec PyProof.Rows L2
theorem fold_cps (l : Int) : ∀ (ks : List Nat) (x : Str), (ks.foldl (nameStep l) x).cps.toList = x.cps.toList ++ ks.map fun k : Nat => z36.cps.toList.getD ((l / 12 + l / 432 * (k : Int)) % 36).toNat 0
  | [], x => by simp
  | k :: ks, x => by
    rw [List.foldl_cons, fold_cps l ks]
    unfold nameStep
    rw [str_app_cps, List.append_assoc]
    rfl
def stL : List Nat := [115, 116, 114, 97, 110, 103, 101, 114]
theorem stL_eq : ("stranger" : Str).cps.toList = stL := by decide +kernel
theorem z_116 : ∀ i : Nat, i < 36 → z36.cps.toList.getD i 0 = 116 → i = 19 := by decide +kernel
theorem z_114 : ∀ i : Nat, i < 36 → z36.cps.toList.getD i 0 = 114 → i = 17 := by decide +kernel
theorem z_97 : ∀ i : Nat, i < 36 → z36.cps.toList.getD i 0 = 97 → i = 0 := by decide +kernel
theorem z_103 : ∀ i : Nat, i < 36 → z36.cps.toList.getD i 0 = 103 → i = 6 := by decide +kernel
theorem z_101 : ∀ i : Nat, i < 36 → z36.cps.toList.getD i 0 = 101 → i = 4 := by decide +kernel
theorem near_stranger (c : Int) (hl : (nameV c).cps.toList.length = 8) (p : Nat) (h : ∀ i, i ≠ p → (nameV c).cps.toList[i]? = stL[i]?) : False := by
  have e : (nameV c).cps.toList = (sgn z36 (c % 26)).cps.toList ++ (List.range (c / 26 % 12).toNat).map fun k : Nat => z36.cps.toList.getD ((c / 26 / 12 + c / 26 / 432 * (k : Int)) % 36).toNat 0 := by
    unfold nameV
    exact fold_cps _ _ _
  have e1 : (sgn z36 (c % 26)).cps.toList = [z36.cps.toList.getD (c % 26).toNat 0] := rfl
  rw [e1] at e
  have hn : (c / 26 % 12).toNat = 7 := by
    rw [e] at hl
    simp at hl
    omega
  rw [hn] at e
  have at' : ∀ k : Nat, k < 7 → k + 1 ≠ p → some (z36.cps.toList.getD ((c / 26 / 12 + c / 26 / 432 * (k : Int)) % 36).toNat 0) = stL[k + 1]? := fun k hk hp => by
    rw [← h (k + 1) hp, e, List.singleton_append, List.getElem?_cons_succ, List.getElem?_map, List.getElem?_range hk]
    rfl
  generalize c / 26 / 12 = A at *
  generalize c / 26 / 432 = B at *
  by_cases hp : p ≤ 3
  · have a4 := at' 4 (by decide) (by omega)
    have a5 := at' 5 (by decide) (by omega)
    have a6 := at' 6 (by decide) (by omega)
    have b4 := z_103 ((A + B * ((4 : Nat) : Int)) % 36).toNat (by omega) (Option.some.inj a4)
    have b5 := z_101 ((A + B * ((5 : Nat) : Int)) % 36).toNat (by omega) (Option.some.inj a5)
    have b6 := z_114 ((A + B * ((6 : Nat) : Int)) % 36).toNat (by omega) (Option.some.inj a6)
    omega
  · have a0 := at' 0 (by decide) (by omega)
    have a1 := at' 1 (by decide) (by omega)
    have a2 := at' 2 (by decide) (by omega)
    have b0 := z_116 ((A + B * ((0 : Nat) : Int)) % 36).toNat (by omega) (Option.some.inj a0)
    have b1 := z_114 ((A + B * ((1 : Nat) : Int)) % 36).toNat (by omega) (Option.some.inj a1)
    have b2 := z_97 ((A + B * ((2 : Nat) : Int)) % 36).toNat (by omega) (Option.some.inj a2)
    omega
theorem name_ne_st (c : Int) : nameV c ≠ "stranger" := fun e => by
  refine near_stranger c ?_ 100 fun i _ => ?_
  · rw [e, stL_eq]; rfl
  · rw [e, stL_eq]
theorem twin_ne_st (c d : Int) : twinV (nameV c) d az ≠ "stranger" := fun e => by
  obtain ⟨_, h1, _⟩ := name_nm (nameV_ok c)
  have t := twin_cps (nameV c) d az h1
  rw [e, stL_eq] at t
  refine near_stranger c ?_ (d % (nameV c).length).toNat fun i hi => ?_
  · have := congrArg List.length t
    rw [List.length_set] at this
    exact this.symm
  · rw [t, List.getElem?_set_ne (Ne.symm hi)]
theorem stranger_not (c0 c1 : Int) : ("stranger" : Str) ∉ namesV c0 c1 := fun hm => by
  have m1 := (addN_facts (names0 c0 c1) ["exchange"] (by simp)).2.1 "stranger"
  have m2 := m1.mp hm
  rcases m2 with h | h
  · exact absurd (List.mem_singleton.mp h) (by decide +kernel)
  · unfold names0 at h
    simp only [List.mem_cons, List.not_mem_nil, or_false] at h
    rcases h with h | h | h | h
    · exact name_ne_st c0 h.symm
    · split at h
      · exact twin_ne_st _ _ h.symm
      · exact name_ne_st _ h.symm
    · exact absurd h (by decide +kernel)
    · exact absurd h (by decide +kernel)
end DL

/-! the law's own book-keeping ("plain"): how it stands in the store -/
namespace DL
open PySem PySem.Spec PyProof.Rows L2
theorem atK_idx : ∀ {kvs : List (Key × Wv)} {k : Key} {i : Nat}, (kvs.map (·.1)).findIdx? (fun x => decide (x = k)) = some i → atK kvs k = (kvs[i]?).map (·.2)
  | [], k, i, h => by simp at h
  | p :: r, k, i, h => by
    rw [List.map_cons, List.findIdx?_cons] at h
    unfold atK
    rw [List.find?_cons]
    by_cases hp : p.1 = k
    · rw [if_pos (decide_eq_true hp)] at h
      cases h
      rw [decide_eq_true hp]
      rfl
    · rw [if_neg (by simpa using hp)] at h
      cases q : (r.map (·.1)).findIdx? (fun x => decide (x = k)) with
      | none => rw [q] at h; cases h
      | some m =>
        rw [q] at h
        cases h
        have := atK_idx q
        unfold atK at this
        rw [decide_eq_false hp]
        simp only
        rw [this, List.getElem?_cons_succ]
theorem putKW_new {kvs : List (Key × Wv)} {k : Key} {w : Wv} (h : ((kvs.map (·.1)).any fun x => decide (x = k)) = false) : putKW kvs k w = kvs ++ [(k, w)] := by
  unfold putKW
  rw [List.any_map] at h
  rw [if_neg]
  intro z
  have e : (kvs.any fun kv => decide (kv.1 = k)) = false := h
  rw [e] at z
  cases z
theorem putKW_old {kvs : List (Key × Wv)} {k : Key} {w : Wv} (h : ((kvs.map (·.1)).any fun x => decide (x = k)) = true) : putKW kvs k w = kvs.map fun kv => if kv.1 = k then (kv.1, w) else kv := by
  unfold putKW
  rw [List.any_map] at h
  rw [if_pos]
  exact h
theorem gIxD_K {S : Store} {n : Nat} {kvs : List (Key × Wv)} {x : Str} {w : Wv} (h : S[n]? = some (.dK kvs)) (e : atK kvs (.inr x) = some w) : gIx (.ref n) (.d (.str x)) S = .ok w S := by
  have e2 := dictW_K (w := .d (.str x)) h (asKey_str x)
  rw [e] at e2
  unfold gIx gIxD
  simp only [e2]
/-- the keys in their order -/
def kN (x : Str) : Key := .inr x
def plK (fi mo : Int) : List (Key × Wv) := [(.inr "names", .ref 1), (.inr "first", I fi), (.inr "currencies", .ref 3), (.inr "entries", .ref 5), (.inr "told", .ref 6), (.inr "ends", .ref 7), (.inr "backs", .ref 8), (.inr "deeds", .ref 9), (.inr "most", I mo)]
def keysPl : List Key := [.inr "names", .inr "first", .inr "currencies", .inr "entries", .inr "told", .inr "ends", .inr "backs", .inr "deeds", .inr "most"]
theorem plK_keys (fi mo : Int) : (plK fi mo).map (·.1) = keysPl := rfl
theorem pl_names (fi mo : Int) : atK (plK fi mo) (.inr "names") = some (.ref 1) := by rw [atK_idx (i := 0) (by rw [plK_keys]; decide +kernel)]; rfl
theorem pl_cur (fi mo : Int) : atK (plK fi mo) (.inr "currencies") = some (.ref 3) := by rw [atK_idx (i := 2) (by rw [plK_keys]; decide +kernel)]; rfl
theorem pl_ents (fi mo : Int) : atK (plK fi mo) (.inr "entries") = some (.ref 5) := by rw [atK_idx (i := 3) (by rw [plK_keys]; decide +kernel)]; rfl
theorem pl_told (fi mo : Int) : atK (plK fi mo) (.inr "told") = some (.ref 6) := by rw [atK_idx (i := 4) (by rw [plK_keys]; decide +kernel)]; rfl
theorem pl_ends (fi mo : Int) : atK (plK fi mo) (.inr "ends") = some (.ref 7) := by rw [atK_idx (i := 5) (by rw [plK_keys]; decide +kernel)]; rfl
theorem pl_backs (fi mo : Int) : atK (plK fi mo) (.inr "backs") = some (.ref 8) := by rw [atK_idx (i := 6) (by rw [plK_keys]; decide +kernel)]; rfl
theorem pl_deeds (fi mo : Int) : atK (plK fi mo) (.inr "deeds") = some (.ref 9) := by rw [atK_idx (i := 7) (by rw [plK_keys]; decide +kernel)]; rfl
theorem pl_most (fi mo : Int) : atK (plK fi mo) (.inr "most") = some (I mo) := by rw [atK_idx (i := 8) (by rw [plK_keys]; decide +kernel)]; rfl
/-- a rate as the law tells it -/
def rT (r : RRow) : Wv := .d (.tup [.str r.c, .int r.d, .int r.t, .int r.q])
structure Pl (S : Store) (b : Bk) (cu : List Str) (dd : List Dd) (fi mo : Int) : Prop where
  d : S[2]? = some (.dK (plK fi mo))
  names : S[1]? = some (.lst (b.names.map T))
  cur : S[3]? = some (.lst (cu.map T))
  ents : S[5]? = some (.lst (b.ents.map En.w))
  told : S[6]? = some (.lst (b.rows.map rT))
  ends : S[7]? = some (.lst (b.ends.map I))
  backs : S[8]? = some (.lst (b.backs.map I))
  deeds : S[9]? = some (.lst (dd.map Dd.w))
/-- what is of neither -/
def Fs (S S' : Store) : Prop := S'.length = S.length ∧ ∀ m, 18 ≤ m → S'[m]? = S[m]?
theorem Fs.refl (S : Store) : Fs S S := ⟨rfl, fun _ _ => rfl⟩
theorem Fs.trans {S S1 S2 : Store} (a : Fs S S1) (b : Fs S1 S2) : Fs S S2 := ⟨b.1.trans a.1, fun m h => (b.2 m h).trans (a.2 m h)⟩
theorem Fs.set {S : Store} {i : Nat} {o : O} (h : i < 18) : Fs S (S.set i o) := ⟨by simp, fun m hm => List.getElem?_set_ne (by omega)⟩
theorem Fs.fr {S S' : Store} (f : Fr S 10 S') : Fs S S' := ⟨f.1, fun m hm => f.2 m (.inr hm)⟩
/-- rising days -/
def Asc (l : List Int) : Prop := l.Pairwise (· < ·) ∧ ∀ d ∈ l, isDay d = true
theorem asc_le {l : List Int} (h : Asc l) : ∀ d ∈ l, d ≤ closedV l := fun d hd => by
  have h1 := h.1
  clear h
  have key : ∀ (l : List Int) (x : Int), (l ++ [x]).Pairwise (· < ·) → ∀ d ∈ l ++ [x], d ≤ x := fun l x hp d hd => by
    rw [List.pairwise_append] at hp
    rcases List.mem_append.mp hd with hd | hd
    · have := hp.2.2 d hd x (by simp)
      omega
    · rw [List.mem_singleton.mp hd]
      exact Int.le_refl _
  have hne : l ≠ [] := fun z => by rw [z] at hd; cases hd
  rw [← List.dropLast_concat_getLast hne] at hd h1 ⊢
  have hc : closedV (l.dropLast ++ [l.getLast hne]) = l.getLast hne := by unfold closedV; simp
  rw [hc]
  exact key _ _ h1 d hd
theorem Asc.app {l : List Int} (h : Asc l) {x : Int} (hx : closedV l < x) (hd : isDay x = true) : Asc (l ++ [x]) := by
  refine ⟨List.pairwise_append.mpr ⟨h.1, List.pairwise_singleton _ _, fun a ha b hb => ?_⟩, fun d hd' => ?_⟩
  · rw [List.mem_singleton.mp hb]
    have := asc_le h a ha
    omega
  · rcases List.mem_append.mp hd' with hd' | hd'
    · exact h.2 d hd'
    · rw [List.mem_singleton.mp hd']; exact hd
/-- what is known of the book through the deeds; z bounds its sizes -/
structure Iv (b : Bk) (cu : List Str) (z : Nat) : Prop where
  home : b.home = cu.getD 0 ""
  c1 : ∀ x ∈ cu, isCur x = true
  c2 : cu.Nodup
  c3 : 3 ≤ cu.length
  c4 : cu.length ≤ 8
  n1 : ∀ x ∈ b.names, isName x = true
  n2 : b.names.Nodup
  n3 : 3 ≤ b.names.length
  n4 : b.names.length ≤ 7
  n5 : ("exchange" : Str) ∈ b.names
  eday : ∀ e ∈ b.ents, isDay e.day = true
  elen : ∀ e ∈ b.ents, e.ls.length ≤ 60
  enote : ∀ e ∈ b.ents, isNote e.note = true ∧ e.note.length ≤ 40
  els : ∀ e ∈ b.ents, ∀ l ∈ e.ls, l.a ∈ b.names ∧ l.c ∈ cu ∧ isAmt l.x = true
  ebal : ∀ e ∈ b.ents, bal e.ls = true
  bk : ∀ k ∈ b.backs, 1 ≤ k ∧ k ≤ b.ents.length
  rows : ∀ r ∈ b.rows, isRate r.t r.q = true ∧ r.c ∈ cu ∧ isDay r.d = true
  cl : -1 ≤ closedV b.ends ∧ closedV b.ends ≤ 99999
  zl : z ≤ 1000
  s1 : b.ents.length ≤ z
  s2 : b.deeds.length ≤ z
  s3 : b.rows.length ≤ z
  s4 : b.ends.length ≤ z
  s5 : b.backs.length ≤ z
  st : ("stranger" : Str) ∉ b.names
  num : ∀ (i : Nat) (e : En), b.ents[i]? = some e → e.num = i + 1
  eo : Asc b.ends
theorem Iv.bnd {b : Bk} {cu : List Str} {z : Nat} (v : Iv b cu z) : Bnd b := by
  have h0 := v.zl
  have h1 := v.s1
  have h2 := v.s2
  have h3 := v.s3
  have h4 := v.s4
  have h5 := v.s5
  have h6 := v.n4
  exact ⟨by omega, by omega, by omega, fun e he => by have := v.elen e he; omega, by omega, by omega, by omega⟩
section
variable {S : Store} {b : Bk} {cu : List Str} {dd : List Dd} {fi mo : Int} {z : Nat}
theorem Pl.xN (p : Pl S b cu dd fi mo) : gIx (.ref 2) (.d (.str "names")) S = .ok (.ref 1) S := gIxD_K p.d (pl_names fi mo)
theorem Pl.xC (p : Pl S b cu dd fi mo) : gIx (.ref 2) (.d (.str "currencies")) S = .ok (.ref 3) S := gIxD_K p.d (pl_cur fi mo)
theorem Pl.xE (p : Pl S b cu dd fi mo) : gIx (.ref 2) (.d (.str "entries")) S = .ok (.ref 5) S := gIxD_K p.d (pl_ents fi mo)
theorem Pl.xT (p : Pl S b cu dd fi mo) : gIx (.ref 2) (.d (.str "told")) S = .ok (.ref 6) S := gIxD_K p.d (pl_told fi mo)
theorem Pl.xL (p : Pl S b cu dd fi mo) : gIx (.ref 2) (.d (.str "ends")) S = .ok (.ref 7) S := gIxD_K p.d (pl_ends fi mo)
theorem Pl.xB (p : Pl S b cu dd fi mo) : gIx (.ref 2) (.d (.str "backs")) S = .ok (.ref 8) S := gIxD_K p.d (pl_backs fi mo)
theorem Pl.xD (p : Pl S b cu dd fi mo) : gIx (.ref 2) (.d (.str "deeds")) S = .ok (.ref 9) S := gIxD_K p.d (pl_deeds fi mo)
theorem Pl.xM (p : Pl S b cu dd fi mo) : gIx (.ref 2) (.d (.str "most")) S = .ok (I mo) S := gIxD_K p.d (pl_most fi mo)
theorem p_lclosed (p : Pl S b cu dd fi mo) (hz : b.ends.length ≤ 1000) : sem_law_closed [.ref 2] S = .ok (I (closedV b.ends)) S := by
  have g : gAddL (.d (.lst [.int (-1)])) (.ref 7) S = .ok (.d (.lst ((-1 :: b.ends).map .int))) S := by
    unfold gAddL
    rw [lstAny_lst, lstAny_ref p.ends]
    simp only
    rw [if_pos (by simp; omega)]
    have : ([D.int (-1)].map Wv.d ++ b.ends.map I) = ((-1 :: b.ends).map D.int).map .d := by simp
    rw [this, allD_map]
  have hl : (-1 :: b.ends).getLast? = some (closedV b.ends) := by
    unfold closedV
    cases q : b.ends.getLast? with
    | none => rw [List.getLast?_eq_none_iff.mp q]; rfl
    | some d =>
      cases h : b.ends with
      | nil => rw [h] at q; cases q
      | cons x l => rw [h] at q; rw [List.getLast?_cons_cons, q]; rfl
  have gi : gIxI (.d (.lst ((-1 :: b.ends).map .int))) (-1) S = .ok (I (closedV b.ends)) S := by
    rw [gIxI_lst, atI_last (x := D.int (closedV b.ends)) (by rw [List.getLast?_map, hl]; rfl)]
  have x := p.xL
  generalize (-1 :: b.ends).map D.int = L at *
  unfold sem_law_closed
  simp [fnS_s, x, g, gi]
def dayV (cl c : Int) : Int := if c % 3 = 0 then cl + 1 + c / 3 % (99999 - cl) else (if cl + 1 + c / 3 % 7 < 99999 then cl + 1 + c / 3 % 7 else 99999)
theorem dayV_ok {cl : Int} (h0 : -1 ≤ cl) (h : cl < 99999) (c : Int) : cl < dayV cl c ∧ dayV cl c ≤ 99999 := by
  unfold dayV
  split
  · have h1 := Int.emod_nonneg (c / 3) (b := 99999 - cl) (by omega)
    have h2 := Int.emod_lt_of_pos (c / 3) (b := 99999 - cl) (by omega)
    omega
  · split <;> omega
theorem p_lday (p : Pl S b cu dd fi mo) (v : Iv b cu z) (h : closedV b.ends < 99999) (c : Int) : sem_law_day [.ref 2, I c] S = .ok (I (dayV (closedV b.ends) c)) S := by
  have pc := p_lclosed p (by have := v.s4; have := v.zl; omega)
  have s3 : Sm 3 := by decide
  generalize closedV b.ends = cl at *
  have hp : 0 < 99999 - cl := by omega
  unfold sem_law_day dayV
  by_cases h3 : c % 3 = 0
  · simp [fnS_s, pc, h3, s3, h, hp]
  · by_cases h9 : cl + 1 + c / 3 % 7 < 99999 <;> simp [fnS_s, pc, h3, s3, h9]
theorem lstr_at {m : Nat} {l : List Str} (hm : S[m]? = some (.lst (l.map T))) (h : 1 ≤ l.length) (i : Int) : gIxI (.ref m) (i % l.length) S = .ok (T (pickL l i)) S := pickL_at hm h i
/-! ### the lines of an entry -/
def tri (nm cu : List Str) (big pick : Int) (k : Nat) : List Ln :=
  let left := pick / 3 + 5 * (k : Int)
  let c := pickL cu left
  let one := amtV (big + 77 * (k : Int))
  let two := amtV (big / 3 + (k : Int)) * (left / 3 % 3 - 1)
  [⟨pickL nm (left / 9), c, one⟩, ⟨pickL nm (left / 5), c, -one - two⟩, ⟨pickL nm (left / 7), c, two⟩]
def manyV (pick : Int) : Int := if pick % 16 = 7 then 1 + pick / 16 % 20 else 1 + pick % 3
theorem manyV_ok (pick : Int) : 1 ≤ manyV pick ∧ manyV pick ≤ 20 := by
  unfold manyV
  split <;> omega
def lnsV (nm cu : List Str) (big pick : Int) : List Ln := ((List.range (manyV pick).toNat).flatMap (tri nm cu big pick)).filter fun l => decide (l.x ≠ 0)
theorem tri_len (nm cu : List Str) (big pick : Int) : ∀ l : List Nat, (l.flatMap (tri nm cu big pick)).length = 3 * l.length := fun l => by
  induction l with
  | nil => rfl
  | cons a l ih => rw [List.flatMap_cons, List.length_append, ih]; simp [tri]; omega
theorem p_llines (p : Pl S b cu dd fi mo) (v : Iv b cu z) (big pick : Int) : sem_law_lines [.ref 2, I big, I pick] S = .ok (.d (.lst ((lnsV b.names cu big pick).map Ln.d))) S := by
  have h1 : 1 ≤ b.names.length := by have := v.n3; omega
  have h3 : 1 ≤ cu.length := by have := v.c3; omega
  have l1 : 1 < S.length := (List.getElem?_eq_some_iff.mp p.names).1
  have l2 : 2 < S.length := (List.getElem?_eq_some_iff.mp p.d).1
  have l3 : 3 < S.length := (List.getElem?_eq_some_iff.mp p.cur).1
  have hd : ∀ t, (S ++ t)[2]? = some (.dK (plK fi mo)) := fun t => by rw [List.getElem?_append_left l2]; exact p.d
  have hi' : ∀ t, (S ++ t)[1]? = some (.lst (b.names.map T)) := fun t => by rw [List.getElem?_append_left l1]; exact p.names
  have hj' : ∀ t, (S ++ t)[3]? = some (.lst (cu.map T)) := fun t => by rw [List.getElem?_append_left l3]; exact p.cur
  have s3 : Sm 3 := by decide
  have s5 : Sm 5 := by decide
  have s7 : Sm 7 := by decide
  have s9 : Sm 9 := by decide
  have s16 : Sm 16 := by decide
  obtain ⟨mv1, mv2⟩ := manyV_ok pick
  generalize hnm : b.names = nm at *
  obtain ⟨ρ', S', e, hr⟩ := for_pre (fun _ => True) 6 lb_law_lines_1 (fun k : Nat => I (0 + (k : Int) * 1))
    (fun pre ρ S' => S' = S ++ [.lst ((pre.flatMap (tri nm cu big pick)).map Ln.w)] ∧ ∃ x6 x7 x8 x9 x10, ρ = [some (.ref 2), some (I big), some (I pick), some (.ref 1), some (.ref S.length), some (I (manyV pick)), x6, x7, x8, x9, x10, none]) (fun _ _ _ _ => trivial) (List.range (manyV pick).toNat) (List.range (manyV pick).toNat) []
    [some (.ref 2), some (I big), some (I pick), some (.ref 1), some (.ref S.length), some (I (manyV pick)), none, none, none, none, none, none] (S ++ [.lst []]) rfl (by
      rintro pre k post ρ S' ea ⟨rfl, x6, x7, x8, x9, x10, rfl⟩
      have hk : k < 20 := by
        have h1 : k ∈ List.range (manyV pick).toNat := by rw [ea]; simp
        have := List.mem_range.mp h1
        omega
      have hp : (pre.flatMap (tri nm cu big pick)).length ≤ 60 := by
        have h2 := congrArg List.length ea
        simp at h2
        rw [tri_len]
        omega
      have efl : (pre ++ [k]).flatMap (tri nm cu big pick) = pre.flatMap (tri nm cu big pick) ++ tri nm cu big pick k := by simp
      refine ⟨_, _, .inl ?_, by rw [efl], some (I k), some (I (pick / 3 + 5 * (k : Int))), some (T (pickL cu (pick / 3 + 5 * (k : Int)))), some (I (amtV (big + 77 * (k : Int)))), some (I (amtV (big / 3 + (k : Int)) * ((pick / 3 + 5 * (k : Int)) / 3 % 3 - 1))), rfl⟩
      generalize pre.flatMap (tri nm cu big pick) = L at *
      have m1 : MulOk 5 (k : Int) := mulL (by decide)
      have m2 : MulOk 77 (k : Int) := mulL (by decide)
      have m3 : MulOk (amtV (big / 3 + (k : Int))) ((pick / 3 + 5 * (k : Int)) / 3 % 3 - 1) := mulR (by omega)
      have c1 : ∀ (X : List Wv) (z : Int), gIxI (.ref 3) (z % cu.length) (S ++ [.lst X]) = .ok (T (pickL cu z)) (S ++ [.lst X]) := fun X z => pickL_at (hj' _) h3 z
      have c2 : ∀ (X : List Wv) (z : Int), gIxI (.ref 1) (z % nm.length) (S ++ [.lst X]) = .ok (T (pickL nm z)) (S ++ [.lst X]) := fun X z => pickL_at (hi' _) h1 z
      have c3 : ∀ X : List Wv, gLen [.ref 1] (S ++ [.lst X]) = .ok (I nm.length) (S ++ [.lst X]) := fun X => by rw [gLen_ref (hi' _), List.length_map]
      have c4 : ∀ X : List Wv, gLen [.ref 3] (S ++ [.lst X]) = .ok (I cu.length) (S ++ [.lst X]) := fun X => by rw [gLen_ref (hj' _), List.length_map]
      have c5 : ∀ X : List Wv, gIx (.ref 2) (.d (.str "currencies")) (S ++ [.lst X]) = .ok (.ref 3) (S ++ [.lst X]) := fun X => gIxD_K (hd _) (pl_cur fi mo)
      have lo : ∀ X : List Wv, lstOf (S ++ [O.lst X]) (.ref S.length) = some (S.length, X) := fun X => lstOf_ref (by simp)
      have ap : ∀ (X : List Wv) (x : D), X.length ≤ 1000 → gAppend (.ref S.length) (.d x) (S ++ [O.lst X]) = .ok (.d .non) (S ++ [O.lst (X ++ [.d x])]) := fun X x hX => by
        rw [gAppend_ref (ws := X) (by simp) rfl (by omega)]
        simp
      have hnl : 0 < (nm.length : Int) := by omega
      have hcl : 0 < (cu.length : Int) := by omega
      have a1 := fun x => ap (L.map Ln.w) x (by simp; omega)
      have a2 := fun y x => ap (L.map Ln.w ++ [y]) x (by simp; omega)
      have a3 := fun y z x => ap (L.map Ln.w ++ ([y, z])) x (by simp; omega)
      unfold tri
      simp [lb_law_lines_1, s3, s5, s7, s9, m1, m2, m3, c1, c2, c3, c4, c5, lo, hnl, hcl, p_law_amount, a1, a2, a3, show 0 < nm.length by omega, show 0 < cu.length by omega, Ln.w, Ln.d]) ⟨rfl, none, none, none, none, none, rfl⟩
  obtain ⟨rfl, x6, x7, x8, x9, x10, rfl⟩ := hr
  have hl9 := tri_len nm cu big pick (List.range (manyV pick).toNat)
  rw [List.length_range] at hl9
  have ec := lc_eq (S := S ++ [.lst (((List.range (manyV pick).toNat).flatMap (tri nm cu big pick)).map Ln.w)]) (ρ := [some (.ref 2), some (I big), some (I pick), some (.ref 1), some (.ref S.length), some (I (manyV pick)), x6, x7, x8, x9, x10, none]) (fun S' => seqW S' (.ref S.length) = some (true, ((List.range (manyV pick).toNat).flatMap (tri nm cu big pick)).map Ln.w)) 11 (evT (evBin (gEq true) (evBin gIx (evVar 11) (evC (.int 2))) (evC (.int 0)))) (evVar 11) Ln.w (fun l => decide (l.x ≠ 0)) Ln.w (seqW_ref (by simp)) (fun _ => rfl) ((List.range (manyV pick).toNat).flatMap (tri nm cu big pick)) [] (by
    intro l _
    simp [Ln.w, Ln.d, gIxI_tup])
  have ev : evLc gFrz (evItems (evVar 4)) 11 [11] (evT (evBin (gEq true) (evBin gIx (evVar 11) (evC (.int 2))) (evC (.int 0)))) (evVar 11) [some (.ref 2), some (I big), some (I pick), some (.ref 1), some (.ref S.length), some (I (manyV pick)), x6, x7, x8, x9, x10, none] (S ++ [.lst (((List.range (manyV pick).toNat).flatMap (tri nm cu big pick)).map Ln.w)]) = .ok (.d (.lst ((lnsV nm cu big pick).map Ln.d))) (S ++ [.lst (((List.range (manyV pick).toNat).flatMap (tri nm cu big pick)).map Ln.w)]) := by
    rw [evLc_s]
    simp only [evItems_s, evVar_s, List.getElem?_cons_succ, List.getElem?_cons_zero, bind_ok, itW_of (seqW_ref (show (S ++ [O.lst (((List.range (manyV pick).toNat).flatMap (tri nm cu big pick)).map Ln.w)])[S.length]? = some (.lst (((List.range (manyV pick).toNat).flatMap (tri nm cu big pick)).map Ln.w)) by simp)), List.length_map, wipeE_cons, wipeE_nil, List.set_cons_succ, List.set_cons_zero]
    rw [if_pos (by omega), ec, bind_ok, List.nil_append]
    exact gFrz_map _ _
  generalize (lnsV nm cu big pick).map Ln.d = L at *
  have xn : gIx (.ref 2) (.d (.str "names")) S = .ok (.ref 1) S := p.xN
  unfold sem_law_lines
  rw [fnP_s]
  have : fnS 3 12 (sSeq (sSet 3 (evBin gIx (evVar 0) (evC (.str "names")))) (sSeq (sSet 4 (evN gLstS evNil)) (sSeq (sSet 5 (evIf (evT (evBin (gEq false) (evBin gMod (evVar 2) (evC (.int 16))) (evC (.int 7)))) (evBin gAdd (evC (.int 1)) (evBin gMod (evBin gFloor (evVar 2) (evC (.int 16))) (evC (.int 20)))) (evBin gAdd (evC (.int 1)) (evBin gMod (evVar 2) (evC (.int 3)))))) (sSeq (sFor 6 (evRange gRange1 (evCons (evVar 5) evNil)) lb_law_lines_1) (sRet (evLc gFrz (evItems (evVar 4)) 11 [11] (evT (evBin (gEq true) (evBin gIx (evVar 11) (evC (.int 2))) (evC (.int 0)))) (evVar 11))))))) [.ref 2, I big, I pick] S = .ok (.d (.lst L)) (S ++ [.lst (((List.range (manyV pick).toNat).flatMap (tri nm cu big pick)).map Ln.w)]) := by
    rw [fnS_s, if_pos (by rfl)]
    show (sSeq _ _ [some (.ref 2), some (I big), some (I pick), none, none, none, none, none, none, none, none, none] S).out = _
    have q1 : sSet 5 (evIf (evT (evBin (gEq false) (evBin gMod (evVar 2) (evC (.int 16))) (evC (.int 7)))) (evBin gAdd (evC (.int 1)) (evBin gMod (evBin gFloor (evVar 2) (evC (.int 16))) (evC (.int 20)))) (evBin gAdd (evC (.int 1)) (evBin gMod (evVar 2) (evC (.int 3))))) [some (.ref 2), some (I big), some (I pick), some (.ref 1), some (.ref S.length), none, none, none, none, none, none, none] (S ++ [.lst []]) = .nx [some (.ref 2), some (I big), some (I pick), some (.ref 1), some (.ref S.length), some (I (manyV pick)), none, none, none, none, none, none] (S ++ [.lst []]) := by
      unfold manyV
      by_cases h : pick % 16 = 7 <;> simp [s16, h]
    have hb : (manyV pick).natAbs < 4611686018427387904 := by omega
    have q3 : sSet 3 (evBin gIx (evVar 0) (evC (.str "names"))) [some (.ref 2), some (I big), some (I pick), none, none, none, none, none, none, none, none, none] S = .nx [some (.ref 2), some (I big), some (I pick), some (.ref 1), none, none, none, none, none, none, none, none] S := by
      simp [xn]
    have q4 : sSet 4 (evN gLstS evNil) [some (.ref 2), some (I big), some (I pick), some (.ref 1), none, none, none, none, none, none, none, none] S = .nx [some (.ref 2), some (I big), some (I pick), some (.ref 1), some (.ref S.length), none, none, none, none, none, none, none] (S ++ [.lst []]) := by
      simp [gLstS_s]
    rw [sSeq_s, q3, seq_nx, sSeq_s, q4, seq_nx, sSeq_s, q1, seq_nx]
    simp [hb, rangeW_map]
    try simp at e
    rw [e]
    try simp at ev
    simp [ev]
  rw [this]
  exact trim_ok (t := [O.lst (((List.range (manyV pick).toNat).flatMap (tri nm cu big pick)).map Ln.w)]) rfl
end
end DL

/-! the law's deeds, one by one -/
namespace DL
open PySem PySem.Spec PyProof.Rows L2
/-! ### the lines -/
theorem tri_ok {nm cu : List Str} (h1 : 1 ≤ nm.length) (h3 : 1 ≤ cu.length) (big pick : Int) (k : Nat) : ∀ l ∈ tri nm cu big pick k, l.a ∈ nm ∧ l.c ∈ cu ∧ l.x.natAbs ≤ 800000000000000000000000000000 := by
  have hc : pickL cu (pick / 3 + 5 * (k : Int)) ∈ cu := pickL_mem h3 _
  have a1 := amtV_ok (big + 77 * (k : Int))
  have a2 := amtV_ok (big / 3 + (k : Int))
  have h2 : (amtV (big / 3 + (k : Int)) * ((pick / 3 + 5 * (k : Int)) / 3 % 3 - 1)).natAbs ≤ 400000000000000000000000000000 := by
    have : (pick / 3 + 5 * (k : Int)) / 3 % 3 = 0 ∨ (pick / 3 + 5 * (k : Int)) / 3 % 3 = 1 ∨ (pick / 3 + 5 * (k : Int)) / 3 % 3 = 2 := by omega
    rcases this with h | h | h <;> rw [h] <;> omega
  intro l hl
  unfold tri at hl
  simp only [List.mem_cons, List.not_mem_nil, or_false] at hl
  rcases hl with rfl | rfl | rfl
  · exact ⟨pickL_mem h1 _, hc, by show (amtV _).natAbs ≤ _; omega⟩
  · exact ⟨pickL_mem h1 _, hc, by
      show (-amtV (big + 77 * (k : Int)) - amtV (big / 3 + (k : Int)) * ((pick / 3 + 5 * (k : Int)) / 3 % 3 - 1)).natAbs ≤ _
      omega⟩
  · exact ⟨pickL_mem h1 _, hc, by
      show (amtV (big / 3 + (k : Int)) * ((pick / 3 + 5 * (k : Int)) / 3 % 3 - 1)).natAbs ≤ _
      omega⟩
theorem isAmt_of {x : Int} (h0 : x ≠ 0) (h : x.natAbs ≤ 800000000000000000000000000000) : isAmt x = true := by
  unfold isAmt
  simp [h0]
  split <;> omega
theorem amt_of {x : Int} (h : isAmt x = true) : x ≠ 0 ∧ x.natAbs < 1000000000000000000000000000000 := by
  unfold isAmt at h
  simp only [Bool.and_eq_true, decide_eq_true_eq] at h
  refine ⟨h.1, ?_⟩
  have := h.2
  split at this <;> omega
theorem amt_neg {x : Int} (h : isAmt x = true) : isAmt (0 - x) = true := by
  obtain ⟨h1, h2⟩ := amt_of h
  unfold isAmt
  simp
  constructor
  · omega
  · split <;> omega
theorem lns_ok {nm cu : List Str} (h1 : 1 ≤ nm.length) (h3 : 1 ≤ cu.length) (big pick : Int) : ∀ l ∈ lnsV nm cu big pick, l.a ∈ nm ∧ l.c ∈ cu ∧ isAmt l.x = true := fun l hl => by
  obtain ⟨h4, h5⟩ := List.mem_filter.mp hl
  obtain ⟨k, _, h6⟩ := List.mem_flatMap.mp h4
  obtain ⟨a1, a2, a3⟩ := tri_ok h1 h3 big pick k l h6
  exact ⟨a1, a2, isAmt_of (of_decide_eq_true h5) a3⟩
theorem two_of (a b d c : Str) (one two : Int) (h : one ≠ 0) : 2 ≤ (([⟨a, c, one⟩, ⟨b, c, -one - two⟩, ⟨d, c, two⟩] : List Ln).filter fun l => decide (l.x ≠ 0)).length := by
  by_cases h2 : two = 0
  · have h3 : ¬ -one - two = 0 := by omega
    simp [List.filter_cons, h, h2, h3]
    try omega
  · by_cases h3 : -one - two = 0 <;> simp [List.filter_cons, h, h2, h3]
theorem tri_two (nm cu : List Str) (big pick : Int) (k : Nat) : 2 ≤ ((tri nm cu big pick k).filter fun l => decide (l.x ≠ 0)).length :=
  two_of _ _ _ _ _ _ (by have := amtV_ok (big + 77 * (k : Int)); omega)
theorem lns_len (nm cu : List Str) (big pick : Int) : 2 ≤ (lnsV nm cu big pick).length ∧ (lnsV nm cu big pick).length ≤ 60 := by
  obtain ⟨mv1, mv2⟩ := manyV_ok pick
  constructor
  · obtain ⟨m, hm⟩ : ∃ m : Nat, (manyV pick).toNat = m + 1 := ⟨(manyV pick).toNat - 1, by omega⟩
    unfold lnsV
    rw [hm, List.range_succ, List.flatMap_append, List.filter_append, List.length_append]
    have := tri_two nm cu big pick m
    simp only [List.flatMap_cons, List.flatMap_nil, List.append_nil]
    omega
  · have h1 := List.length_filter_le (fun l : Ln => decide (l.x ≠ 0)) ((List.range (manyV pick).toNat).flatMap (tri nm cu big pick))
    rw [tri_len, List.length_range] at h1
    unfold lnsV
    omega
theorem sum_filter (c : Str) : ∀ ls : List Ln, sumOf c (ls.filter fun l => decide (l.x ≠ 0)) = sumOf c ls
  | [] => rfl
  | l :: r => by
    rw [List.filter_cons]
    by_cases h : l.x = 0
    · simp only [h, ne_eq, not_true_eq_false, decide_false, Bool.false_eq_true, if_false, sumOf, sum_filter c r]
      simp
    · simp only [h, ne_eq, not_false_eq_true, decide_true, if_true, sumOf, sum_filter c r]
theorem lns_bal (nm cu : List Str) (big pick : Int) : bal (lnsV nm cu big pick) = true := by
  rw [bal_iff]
  intro c
  unfold lnsV
  rw [sum_filter]
  have : ∀ ks : List Nat, sumOf c (ks.flatMap (tri nm cu big pick)) = 0 := fun ks => by
    induction ks with
    | nil => rfl
    | cons k ks ih =>
      rw [List.flatMap_cons, sumOf_app, ih]
      unfold tri
      simp only [sumOf]
      split <;> omega
  exact this _
theorem sum_neg (c : Str) : ∀ ls : List Ln, sumOf c (ls.map Ln.neg) = - sumOf c ls
  | [] => rfl
  | l :: r => by
    rw [List.map_cons, sumOf, sumOf, sum_neg c r]
    by_cases h : l.c = c
    · rw [if_pos (show l.neg.c = c from h), if_pos h]
      show 0 - l.x + _ = _
      omega
    · rw [if_neg (show ¬ l.neg.c = c from h), if_neg h]
      omega
theorem bal_neg {ls : List Ln} (h : bal ls = true) : bal (ls.map Ln.neg) = true := by
  rw [bal_iff] at h ⊢
  intro c
  rw [sum_neg, h c]
  rfl
section
variable {S : Store} {b : Bk} {cu : List Str} {dd : List Dd} {fi mo : Int} {z : Nat}
/-! ### what is put down -/
theorem Pl.lt (p : Pl S b cu dd fi mo) : 9 < S.length := (List.getElem?_eq_some_iff.mp p.deeds).1
theorem Pl.off {S' : Store} (p : Pl S b cu dd fi mo) (h : ∀ m, m < 10 → S'[m]? = S[m]?) : Pl S' b cu dd fi mo :=
  ⟨by rw [h _ (by decide)]; exact p.d, by rw [h _ (by decide)]; exact p.names, by rw [h _ (by decide)]; exact p.cur, by rw [h _ (by decide)]; exact p.ents, by rw [h _ (by decide)]; exact p.told, by rw [h _ (by decide)]; exact p.ends, by rw [h _ (by decide)]; exact p.backs, by rw [h _ (by decide)]; exact p.deeds⟩
theorem Pl.putE (p : Pl S b cu dd fi mo) (es : List En) : Pl (S.set 5 (.lst (es.map En.w))) { b with ents := es } cu dd fi mo := by
  have := p.lt
  exact ⟨by rw [List.getElem?_set_ne (by decide)]; exact p.d, by rw [List.getElem?_set_ne (by decide)]; exact p.names, by rw [List.getElem?_set_ne (by decide)]; exact p.cur, by rw [List.getElem?_set_self (by omega)], by rw [List.getElem?_set_ne (by decide)]; exact p.told, by rw [List.getElem?_set_ne (by decide)]; exact p.ends, by rw [List.getElem?_set_ne (by decide)]; exact p.backs, by rw [List.getElem?_set_ne (by decide)]; exact p.deeds⟩
theorem Pl.putN (p : Pl S b cu dd fi mo) (es : List Str) : Pl (S.set 1 (.lst (es.map T))) { b with names := es } cu dd fi mo := by
  have := p.lt
  exact ⟨by rw [List.getElem?_set_ne (by decide)]; exact p.d, by rw [List.getElem?_set_self (by omega)], by rw [List.getElem?_set_ne (by decide)]; exact p.cur, by rw [List.getElem?_set_ne (by decide)]; exact p.ents, by rw [List.getElem?_set_ne (by decide)]; exact p.told, by rw [List.getElem?_set_ne (by decide)]; exact p.ends, by rw [List.getElem?_set_ne (by decide)]; exact p.backs, by rw [List.getElem?_set_ne (by decide)]; exact p.deeds⟩
theorem Pl.putT (p : Pl S b cu dd fi mo) (es : List RRow) : Pl (S.set 6 (.lst (es.map rT))) { b with rows := es } cu dd fi mo := by
  have := p.lt
  exact ⟨by rw [List.getElem?_set_ne (by decide)]; exact p.d, by rw [List.getElem?_set_ne (by decide)]; exact p.names, by rw [List.getElem?_set_ne (by decide)]; exact p.cur, by rw [List.getElem?_set_ne (by decide)]; exact p.ents, by rw [List.getElem?_set_self (by omega)], by rw [List.getElem?_set_ne (by decide)]; exact p.ends, by rw [List.getElem?_set_ne (by decide)]; exact p.backs, by rw [List.getElem?_set_ne (by decide)]; exact p.deeds⟩
theorem Pl.putL (p : Pl S b cu dd fi mo) (es : List Int) : Pl (S.set 7 (.lst (es.map I))) { b with ends := es } cu dd fi mo := by
  have := p.lt
  exact ⟨by rw [List.getElem?_set_ne (by decide)]; exact p.d, by rw [List.getElem?_set_ne (by decide)]; exact p.names, by rw [List.getElem?_set_ne (by decide)]; exact p.cur, by rw [List.getElem?_set_ne (by decide)]; exact p.ents, by rw [List.getElem?_set_ne (by decide)]; exact p.told, by rw [List.getElem?_set_self (by omega)], by rw [List.getElem?_set_ne (by decide)]; exact p.backs, by rw [List.getElem?_set_ne (by decide)]; exact p.deeds⟩
theorem Pl.putB (p : Pl S b cu dd fi mo) (es : List Int) : Pl (S.set 8 (.lst (es.map I))) { b with backs := es } cu dd fi mo := by
  have := p.lt
  exact ⟨by rw [List.getElem?_set_ne (by decide)]; exact p.d, by rw [List.getElem?_set_ne (by decide)]; exact p.names, by rw [List.getElem?_set_ne (by decide)]; exact p.cur, by rw [List.getElem?_set_ne (by decide)]; exact p.ents, by rw [List.getElem?_set_ne (by decide)]; exact p.told, by rw [List.getElem?_set_ne (by decide)]; exact p.ends, by rw [List.getElem?_set_self (by omega)], by rw [List.getElem?_set_ne (by decide)]; exact p.deeds⟩
theorem Pl.putD (p : Pl S b cu dd fi mo) (ds : List Dd) : Pl (S.set 9 (.lst (ds.map Dd.w))) b cu ds fi mo := by
  have := p.lt
  exact ⟨by rw [List.getElem?_set_ne (by decide)]; exact p.d, by rw [List.getElem?_set_ne (by decide)]; exact p.names, by rw [List.getElem?_set_ne (by decide)]; exact p.cur, by rw [List.getElem?_set_ne (by decide)]; exact p.ents, by rw [List.getElem?_set_ne (by decide)]; exact p.told, by rw [List.getElem?_set_ne (by decide)]; exact p.ends, by rw [List.getElem?_set_ne (by decide)]; exact p.backs, by rw [List.getElem?_set_self (by omega)]⟩
theorem Pl.deeds' (p : Pl S b cu dd fi mo) (ds : List Dd) : Pl S { b with deeds := ds } cu dd fi mo := ⟨p.d, p.names, p.cur, p.ents, p.told, p.ends, p.backs, p.deeds⟩
theorem At.low (a : At S 10 b) {i : Nat} {o : O} (h : i < 10) : At (S.set i o) 10 b := a.off fun m h1 h2 => List.getElem?_set_ne (by omega)
theorem ap_w {m : Nat} {ws : List Wv} {u : Wv} (h : S[m]? = some (.lst ws)) (hu : u.calm = true) (hl : ws.length ≤ 1000000) : gAppend (.ref m) u S = .ok (.d .non) (S.set m (.lst (ws ++ [u]))) := gAppend_ref h hu (by omega)
theorem p_lput (p : Pl S b cu dd fi mo) (hz : b.ents.length ≤ 1000) (day : Int) (note : Str) (ls : List Ln) (back : Int) : sem_law_put [.ref 2, I day, T note, .d (.lst (ls.map Ln.d)), I back] S = .ok (I (b.ents.length + 1)) (S.set 5 (.lst ((b.ents ++ [En.mk (b.ents.length + 1) day note ls back]).map En.w))) := by
  have ap := ap_w (u := (En.mk (b.ents.length + 1) day note ls back).w) p.ents rfl (by simp; omega)
  have e' : b.ents.map En.w ++ [(En.mk (b.ents.length + 1) day note ls back).w] = (b.ents ++ [En.mk (b.ents.length + 1) day note ls back]).map En.w := by simp
  rw [e'] at ap
  have lo := lstOf_ref p.ents
  have gl := gLen_ref p.ents
  rw [List.length_map] at gl
  have x := p.xE
  generalize S.set 5 (.lst ((b.ents ++ [En.mk (b.ents.length + 1) day note ls back]).map En.w)) = S1 at *
  simp only [En.w, En.d] at ap
  generalize ls.map Ln.d = L at *
  unfold sem_law_put
  simp [fnS_s, x, gl, lo, ap]
theorem ap_deed (p : Pl S b cu dd fi mo) (hz : dd.length ≤ 1000) (x : Dd) : gAppend (.ref 9) x.w S = .ok (.d .non) (S.set 9 (.lst ((dd ++ [x]).map Dd.w))) := by
  have ap := ap_w (u := x.w) p.deeds rfl (by simp; omega)
  have e' : dd.map Dd.w ++ [x.w] = (dd ++ [x]).map Dd.w := by simp
  rw [e'] at ap
  exact ap
/-- how a book grows -/
structure Grow (b b' : Bk) : Prop where
  e : ∃ t, b'.ents = b.ents ++ t ∧ ∀ x ∈ t, closedV b.ends < x.day
  n : ∃ t, b'.names = b.names ++ t
  r : ∃ t, b'.rows = b.rows ++ t ∧ ∀ x ∈ t, closedV b.ends < x.d
  l : ∃ t, b'.ends = b.ends ++ t
  c : closedV b.ends ≤ closedV b'.ends
theorem Grow.refl (b : Bk) : Grow b b := ⟨⟨[], by simp, fun _ h => by cases h⟩, ⟨[], by simp⟩, ⟨[], by simp, fun _ h => by cases h⟩, ⟨[], by simp⟩, Int.le_refl _⟩
theorem Grow.trans {b b1 b2 : Bk} (g : Grow b b1) (h : Grow b1 b2) : Grow b b2 := by
  obtain ⟨⟨t1, e1, f1⟩, ⟨t2, e2⟩, ⟨t3, e3, f3⟩, ⟨t4, e4⟩, c1⟩ := g
  obtain ⟨⟨u1, d1, g1⟩, ⟨u2, d2⟩, ⟨u3, d3, g3⟩, ⟨u4, d4⟩, c2⟩ := h
  refine ⟨⟨t1 ++ u1, by rw [d1, e1, List.append_assoc], fun x hx => ?_⟩, ⟨t2 ++ u2, by rw [d2, e2, List.append_assoc]⟩, ⟨t3 ++ u3, by rw [d3, e3, List.append_assoc], fun x hx => ?_⟩, ⟨t4 ++ u4, by rw [d4, e4, List.append_assoc]⟩, Int.le_trans c1 c2⟩
  · rcases List.mem_append.mp hx with hx | hx
    · exact f1 x hx
    · exact Int.lt_of_le_of_lt c1 (g1 x hx)
  · rcases List.mem_append.mp hx with hx | hx
    · exact f3 x hx
    · exact Int.lt_of_le_of_lt c1 (g3 x hx)
theorem Grow.of_ent {b b' : Bk} {en : En} (he : b'.ents = b.ents ++ [en]) (hn : b'.names = b.names) (hr : b'.rows = b.rows) (hl : b'.ends = b.ends) (h : closedV b.ends < en.day) : Grow b b' :=
  ⟨⟨[en], he, fun x hx => by rw [List.mem_singleton.mp hx]; exact h⟩, ⟨[], by rw [hn]; simp⟩, ⟨[], by rw [hr]; simp, fun _ h => by cases h⟩, ⟨[], by rw [hl]; simp⟩, by rw [hl]; exact Int.le_refl _⟩
theorem Grow.of_name {b b' : Bk} {x : Str} (he : b'.ents = b.ents) (hn : b'.names = b.names ++ [x]) (hr : b'.rows = b.rows) (hl : b'.ends = b.ends) : Grow b b' :=
  ⟨⟨[], by rw [he]; simp, fun _ h => by cases h⟩, ⟨[x], hn⟩, ⟨[], by rw [hr]; simp, fun _ h => by cases h⟩, ⟨[], by rw [hl]; simp⟩, by rw [hl]; exact Int.le_refl _⟩
theorem Grow.of_rate {b b' : Bk} {x : RRow} (he : b'.ents = b.ents) (hn : b'.names = b.names) (hr : b'.rows = b.rows ++ [x]) (hl : b'.ends = b.ends) (h : closedV b.ends < x.d) : Grow b b' :=
  ⟨⟨[], by rw [he]; simp, fun _ h => by cases h⟩, ⟨[], by rw [hn]; simp⟩, ⟨[x], hr, fun y hy => by rw [List.mem_singleton.mp hy]; exact h⟩, ⟨[], by rw [hl]; simp⟩, by rw [hl]; exact Int.le_refl _⟩
theorem Grow.of_end {b b' : Bk} {x : Int} (he : b'.ents = b.ents) (hn : b'.names = b.names) (hr : b'.rows = b.rows) (hl : b'.ends = b.ends ++ [x]) (h : closedV b.ends < x) : Grow b b' :=
  ⟨⟨[], by rw [he]; simp, fun _ h => by cases h⟩, ⟨[], by rw [hn]; simp⟩, ⟨[], by rw [hr]; simp, fun _ h => by cases h⟩, ⟨[x], hl⟩, by
    rw [hl]
    have : closedV (b.ends ++ [x]) = x := by unfold closedV; simp
    omega⟩
/-- how a deed ends -/
def StepOk (r : Res Wv) (S : Store) (b : Bk) (cu : List Str) (dd : List Dd) (fi mo : Int) (z : Nat) : Prop :=
  ∃ S' b' dd', r = .ok (Bo true) S' ∧ Pl S' b' cu dd' fi mo ∧ At S' 10 b' ∧ Iv b' cu (z + 1) ∧ Fs S S' ∧ dd'.length ≤ dd.length + 1 ∧ (∃ t, b'.deeds = b.deeds ++ t ∧ dd' = dd ++ t) ∧ Grow b b'
theorem Iv.mono (v : Iv b cu z) (h : z + 1 ≤ 1000) : Iv b cu (z + 1) := ⟨v.home, v.c1, v.c2, v.c3, v.c4, v.n1, v.n2, v.n3, v.n4, v.n5, v.eday, v.elen, v.enote, v.els, v.ebal, v.bk, v.rows, v.cl, h, Nat.le_succ_of_le v.s1, Nat.le_succ_of_le v.s2, Nat.le_succ_of_le v.s3, Nat.le_succ_of_le v.s4, Nat.le_succ_of_le v.s5, v.st, v.num, v.eo⟩
theorem step_none (p : Pl S b cu dd fi mo) (a : At S 10 b) (v : Iv b cu z) (h : z + 1 ≤ 1000) : StepOk (.ok (Bo true) S) S b cu dd fi mo z :=
  ⟨S, b, dd, rfl, p, a, v.mono h, .refl S, by omega, ⟨[], by simp, by simp⟩, .refl b⟩
theorem Iv.ent (v : Iv b cu z) (h : z + 1 ≤ 1000) (x : Dd) (en : En) (h1 : isDay en.day = true) (h2 : en.ls.length ≤ 60) (h3 : isNote en.note = true ∧ en.note.length ≤ 40) (h4 : ∀ l ∈ en.ls, l.a ∈ b.names ∧ l.c ∈ cu ∧ isAmt l.x = true) (h5 : bal en.ls = true) (h6 : en.num = b.ents.length + 1) :
    Iv { b with deeds := b.deeds ++ [x], ents := b.ents ++ [en] } cu (z + 1) := by
  have s1 := v.s1
  have s2 := v.s2
  have go : ∀ {P : En → Prop}, (∀ e ∈ b.ents, P e) → P en → ∀ e ∈ b.ents ++ [en], P e := fun q r e he => by
    rcases List.mem_append.mp he with he | he
    · exact q e he
    · rw [List.mem_singleton.mp he]; exact r
  exact ⟨v.home, v.c1, v.c2, v.c3, v.c4, v.n1, v.n2, v.n3, v.n4, v.n5, go v.eday h1, go v.elen h2, go v.enote h3, go v.els h4, go v.ebal h5, fun k hk => by have := v.bk k hk; simp; omega, v.rows, v.cl, h, by simp; omega, by simp; omega, Nat.le_succ_of_le v.s3, Nat.le_succ_of_le v.s4, Nat.le_succ_of_le v.s5, v.st, fun i e hi => by
    by_cases hl : i < b.ents.length
    · rw [List.getElem?_append_left hl] at hi
      exact v.num i e hi
    · have hi2 := (List.getElem?_eq_some_iff.mp hi).1
      simp at hi2
      have : i = b.ents.length := by omega
      subst this
      rw [List.getElem?_append_right (Nat.le_refl _), Nat.sub_self] at hi
      cases hi
      exact h6, v.eo⟩
theorem postOk (v : Iv b cu z) {d : Int} {note : Str} {ls : List Ln} (h1 : isDay d = true) (h0 : closedV b.ends < d) (h2 : 2 ≤ ls.length ∧ ls.length ≤ 60) (h3 : isNote note = true) (h4 : ∀ l ∈ ls, l.a ∈ b.names ∧ l.c ∈ cu ∧ isAmt l.x = true) (h5 : bal ls = true) : postE b d note ls = none := by
  unfold postE
  rw [if_neg (by rw [h1]; exact Bool.true_eq_false.mp), if_neg (by omega), if_neg (by rw [h3]; exact Bool.true_eq_false.mp), if_neg (by omega)]
  have l1 : ls.findSome? (lineE b) = none := by
    rw [List.findSome?_eq_none_iff]
    intro l hl
    obtain ⟨q1, q2, q3⟩ := h4 l hl
    unfold lineE
    rw [if_neg (fun z => z q1), if_neg (by rw [v.c1 _ q2]; exact Bool.true_eq_false.mp), if_neg (by rw [q3]; exact Bool.true_eq_false.mp)]
  rw [l1]
  simp [h5]
theorem step_post (p : Pl S b cu dd fi mo) (a : At S 10 b) (v : Iv b cu z) (h : z + 1 ≤ 1000) (hd : dd.length ≤ 1000) (hc : closedV b.ends < 99999) (big pick : Int) : StepOk (sem_law_post [.ref 10, .ref 2, I big, I pick] S) S b cu dd fi mo z := by
  have pd := p_lday p v hc big
  obtain ⟨dv1, dv2⟩ := dayV_ok v.cl.1 hc big
  obtain ⟨nt1, nt2⟩ := noteV_ok pick
  have pn := p_law_note (S := S) pick
  have pl := p_llines p v (big / 5) pick
  have n3 := v.n3
  have c3 := v.c3
  have lok := lns_ok (nm := b.names) (cu := cu) (by omega) (by omega) (big / 5) pick
  have ll := lns_len b.names cu (big / 5) pick
  have lb := lns_bal b.names cu (big / 5) pick
  have hday : isDay (dayV (closedV b.ends) big) = true := day_of (by have := v.cl; omega) dv2
  generalize lnsV b.names cu (big / 5) pick = ls at *
  generalize noteV pick = note at *
  generalize dayV (closedV b.ends) big = day at *
  have s1 := v.s1
  have s2 := v.s2
  have zl := v.zl
  have pp := p_lput p (by omega) day note ls 0
  have p1 := p.putE (b.ents ++ [En.mk (b.ents.length + 1) day note ls 0])
  have a1 := a.low (i := 5) (o := .lst ((b.ents ++ [En.mk (b.ents.length + 1) day note ls 0]).map En.w)) (by decide)
  have f1 : Fs S (S.set 5 (.lst ((b.ents ++ [En.mk (b.ents.length + 1) day note ls 0]).map En.w))) := Fs.set (by decide)
  generalize S.set 5 (.lst ((b.ents ++ [En.mk (b.ents.length + 1) day note ls 0]).map En.w)) = S1 at *
  have ad := ap_deed p1 hd (Dd.ent day note ls)
  have p2 := p1.putD (dd ++ [Dd.ent day note ls])
  have a2 := a1.low (i := 9) (o := .lst ((dd ++ [Dd.ent day note ls]).map Dd.w)) (by decide)
  have f2 : Fs S1 (S1.set 9 (.lst ((dd ++ [Dd.ent day note ls]).map Dd.w))) := Fs.set (by decide)
  have lo := lstOf_ref p1.deeds
  have xd := p1.xD
  generalize S1.set 9 (.lst ((dd ++ [Dd.ent day note ls]).map Dd.w)) = S2 at *
  have po := p_post a2 (by omega) (by omega) day note (by omega) (.d (.lst (ls.map Ln.d))) true ls (by rw [seqW_lst, ← map_lnw]) (by omega) (fun l hl => cur_len (v.c1 _ (lok l hl).2.1))
  rw [postOk v hday dv1 ll nt1 lok lb] at po
  obtain ⟨S3, e3, a3, f3⟩ := po
  refine ⟨S3, _, dd ++ [Dd.ent day note ls], ?_, (p2.off fun m hm => f3.2 m (.inl hm)).deeds' (b.deeds ++ [Dd.ent day note ls]), a3, v.ent h _ _ hday ll.2 ⟨nt1, nt2⟩ lok lb rfl, f1.trans (f2.trans (.fr f3)), by simp, ⟨[Dd.ent day note ls], rfl, rfl⟩, .of_ent (en := En.mk (b.ents.length + 1) day note ls 0) rfl rfl rfl rfl (by show closedV b.ends < day; omega)⟩
  simp only [Dd.w, Dd.d] at ad
  have s5 : Sm 5 := by decide
  have i2 := a2.i0
  generalize ls.map Ln.d = L at *
  unfold sem_law_post
  simp [fnS_s, pd, pn, s5, pl, pp, xd, lo, ad, i2, e3]
theorem step_admit (p : Pl S b cu dd fi mo) (a : At S 10 b) (v : Iv b cu z) (h : z + 1 ≤ 1000) (hd : dd.length ≤ 1000) (big : Int) : StepOk (sem_law_admit [.ref 10, .ref 2, I big] S) S b cu dd fi mo z := by
  have pn := p_law_name (S := S) big
  have hn := nameV_ok big
  have hst := name_ne_st big
  generalize nameV big = x at *
  have xN := p.xN
  have gi := gIn_names (neg := false) p.names x
  have gl := gLen_ref p.names
  rw [List.length_map] at gl
  have n4 := v.n4
  have s2 := v.s2
  have zl := v.zl
  by_cases hm : x ∈ b.names
  · have e : sem_law_admit [.ref 10, .ref 2, I big] S = .ok (Bo true) S := by
      unfold sem_law_admit
      simp [fnS_s, pn, xN, gi, hm]
    rw [e]
    exact step_none p a v h
  · by_cases hl : 6 < b.names.length
    · have e : sem_law_admit [.ref 10, .ref 2, I big] S = .ok (Bo true) S := by
        unfold sem_law_admit
        simp [fnS_s, pn, xN, gi, hm, gl, show (6 : Int) < b.names.length by omega]
      rw [e]
      exact step_none p a v h
    · obtain ⟨_, _, xl⟩ := name_nm hn
      have ap := ap_w (u := T x) p.names rfl (by simp; omega)
      have e' : b.names.map T ++ [T x] = (b.names ++ [x]).map T := by simp
      rw [e'] at ap
      have lo1 := lstOf_ref p.names
      have p1 := p.putN (b.names ++ [x])
      have a1 := a.low (i := 1) (o := .lst ((b.names ++ [x]).map T)) (by decide)
      have f1 : Fs S (S.set 1 (.lst ((b.names ++ [x]).map T))) := Fs.set (by decide)
      generalize S.set 1 (.lst ((b.names ++ [x]).map T)) = S1 at *
      have ad := ap_deed p1 hd (Dd.acc x)
      have p2 := p1.putD (dd ++ [Dd.acc x])
      have a2 := a1.low (i := 9) (o := .lst ((dd ++ [Dd.acc x]).map Dd.w)) (by decide)
      have f2 : Fs S1 (S1.set 9 (.lst ((dd ++ [Dd.acc x]).map Dd.w))) := Fs.set (by decide)
      have lo := lstOf_ref p1.deeds
      have xd := p1.xD
      generalize S1.set 9 (.lst ((dd ++ [Dd.acc x]).map Dd.w)) = S2 at *
      obtain ⟨S3, e3, a3, f3⟩ := p_admit a2 (by omega) (by omega) x (by omega) hn hm
      refine ⟨S3, _, dd ++ [Dd.acc x], ?_, (p2.off fun m hm => f3.2 m (.inl hm)).deeds' (b.deeds ++ [Dd.acc x]), a3, ?_, f1.trans (f2.trans (.fr f3)), by simp, ⟨[Dd.acc x], rfl, rfl⟩, .of_name (x := x) rfl rfl rfl rfl⟩
      · simp only [Dd.w, Dd.d] at ad
        have i2 := a2.i0
        unfold sem_law_admit
        simp [fnS_s, pn, xN, gi, hm, gl, show ¬ (6 : Int) < b.names.length by omega, lo1, ap, xd, lo, ad, i2, e3]
      · exact ⟨v.home, v.c1, v.c2, v.c3, v.c4, fun y hy => by
          rcases List.mem_append.mp hy with hy | hy
          · exact v.n1 y hy
          · rw [List.mem_singleton.mp hy]; exact hn, by
          rw [List.nodup_append]
          exact ⟨v.n2, by simp, fun y hy w hw => by
            have : w = x := by simpa using hw
            rw [this]; exact fun e => hm (e ▸ hy)⟩, by have := v.n3; simp; omega, by simp; omega, List.mem_append_left _ v.n5, v.eday, v.elen, v.enote, fun e he l hl => by
          obtain ⟨q1, q2⟩ := v.els e he l hl
          exact ⟨List.mem_append_left _ q1, q2⟩, v.ebal, v.bk, v.rows, v.cl, h, Nat.le_succ_of_le v.s1, by simp; omega, Nat.le_succ_of_le v.s3, Nat.le_succ_of_le v.s4, Nat.le_succ_of_le v.s5, fun hm2 => by
          rcases List.mem_append.mp hm2 with hm2 | hm2
          · exact v.st hm2
          · exact hst (List.mem_singleton.mp hm2).symm, v.num, v.eo⟩
theorem step_shut2 (p : Pl S b cu dd fi mo) (a : At S 10 b) (v : Iv b cu z) (h : z + 1 ≤ 1000) (hd : dd.length ≤ 1000) (hc : closedV b.ends < 99999) (big : Int) : ∃ S' b' dd', sem_law_shut [.ref 10, .ref 2, I big] S = .ok (Bo true) S' ∧ Pl S' b' cu dd' fi mo ∧ At S' 10 b' ∧ Iv b' cu (z + 1) ∧ Fs S S' ∧ dd'.length ≤ dd.length + 1 ∧ (∃ t, b'.deeds = b.deeds ++ t ∧ dd' = dd ++ t) ∧ Grow b b' ∧ ∃ d, b'.ends = b.ends ++ [d] := by
  have pd := p_lday p v hc big
  obtain ⟨dv1, dv2⟩ := dayV_ok v.cl.1 hc big
  have hday : isDay (dayV (closedV b.ends) big) = true := day_of (by have := v.cl; omega) dv2
  generalize dayV (closedV b.ends) big = day at *
  have s4 := v.s4
  have s2 := v.s2
  have zl := v.zl
  have ap := ap_w (u := I day) p.ends rfl (by simp; omega)
  have e' : b.ends.map I ++ [I day] = (b.ends ++ [day]).map I := by simp
  rw [e'] at ap
  have xL := p.xL
  have lo1 := lstOf_ref p.ends
  have p1 := p.putL (b.ends ++ [day])
  have a1 := a.low (i := 7) (o := .lst ((b.ends ++ [day]).map I)) (by decide)
  have f1 : Fs S (S.set 7 (.lst ((b.ends ++ [day]).map I))) := Fs.set (by decide)
  generalize S.set 7 (.lst ((b.ends ++ [day]).map I)) = S1 at *
  have ad := ap_deed p1 hd (Dd.close day)
  have p2 := p1.putD (dd ++ [Dd.close day])
  have a2 := a1.low (i := 9) (o := .lst ((dd ++ [Dd.close day]).map Dd.w)) (by decide)
  have f2 : Fs S1 (S1.set 9 (.lst ((dd ++ [Dd.close day]).map Dd.w))) := Fs.set (by decide)
  have lo := lstOf_ref p1.deeds
  have xd := p1.xD
  generalize S1.set 9 (.lst ((dd ++ [Dd.close day]).map Dd.w)) = S2 at *
  obtain ⟨S3, e3, a3, f3⟩ := p_close a2 (by omega) (by omega) day hday (by omega)
  have p3 := (p2.off fun m hm => f3.2 m (.inl hm)).deeds' (b.deeds ++ [Dd.close day])
  have gl := gLen_ref p3.ends
  rw [List.length_map] at gl
  have xL3 := p3.xL
  refine ⟨S3, _, dd ++ [Dd.close day], ?_, p3, a3, ?_, f1.trans (f2.trans (.fr f3)), by simp, ⟨[Dd.close day], rfl, rfl⟩, .of_end (x := day) rfl rfl rfl rfl (by omega), ⟨day, rfl⟩⟩
  · simp only [Dd.w, Dd.d] at ad
    have i2 := a2.i0
    unfold sem_law_shut
    simp [fnS_s, pd, xL, lo1, ap, xd, lo, ad, i2, e3, xL3, gl]
  · have cv : closedV (b.ends ++ [day]) = day := by simp [closedV]
    exact ⟨v.home, v.c1, v.c2, v.c3, v.c4, v.n1, v.n2, v.n3, v.n4, v.n5, v.eday, v.elen, v.enote, v.els, v.ebal, v.bk, v.rows, by show -1 ≤ closedV (b.ends ++ [day]) ∧ closedV (b.ends ++ [day]) ≤ 99999; rw [cv]; have := v.cl; omega, h, Nat.le_succ_of_le v.s1, by simp; omega, Nat.le_succ_of_le v.s3, by simp; omega, Nat.le_succ_of_le v.s5, v.st, v.num, v.eo.app (by omega) hday⟩
theorem step_shut (p : Pl S b cu dd fi mo) (a : At S 10 b) (v : Iv b cu z) (h : z + 1 ≤ 1000) (hd : dd.length ≤ 1000) (hc : closedV b.ends < 99999) (big : Int) : StepOk (sem_law_shut [.ref 10, .ref 2, I big] S) S b cu dd fi mo z := by
  obtain ⟨S', b', dd', e1, e2, e3, e4, e5, e6, e7, e8, _⟩ := step_shut2 p a v h hd hc big
  exact ⟨S', b', dd', e1, e2, e3, e4, e5, e6, e7, e8⟩
end
end DL

namespace DL
open PySem PySem.Spec PyProof.Rows L2
section
variable {S : Store} {b : Bk} {cu : List Str} {dd : List Dd} {fi mo : Int} {z : Nat}
theorem getD_ne {k : Nat} (h2 : cu.Nodup) (hk : 1 ≤ k) (hl : k < cu.length) : cu.getD k "" ≠ cu.getD 0 "" := by
  cases cu with
  | nil => simp at hl
  | cons x u =>
    obtain ⟨m, rfl⟩ : ∃ m, k = m + 1 := ⟨k - 1, by omega⟩
    rw [List.getD_cons_succ, List.getD_cons_zero]
    rw [List.nodup_cons] at h2
    exact fun z => h2.1 (z ▸ getD_mem (by simp at hl; omega))
theorem getD_inj {l : List Str} (h : l.Nodup) {i j : Nat} (hi : i < l.length) (hj : j < l.length) (e : l.getD i "" = l.getD j "") : i = j := by
  rw [List.getD_eq_getElem?_getD, List.getD_eq_getElem?_getD, List.getElem?_eq_getElem hi, List.getElem?_eq_getElem hj] at e
  exact (List.getElem_inj h).mp (by simpa using e)
theorem step_tell (p : Pl S b cu dd fi mo) (a : At S 10 b) (v : Iv b cu z) (h : z + 1 ≤ 1000) (hd : dd.length ≤ 1000) (hc : closedV b.ends < 99999) (big pick : Int) : StepOk (sem_law_tell [.ref 10, .ref 2, I big, I pick] S) S b cu dd fi mo z := by
  have pd := p_lday p v hc big
  obtain ⟨dv1, dv2⟩ := dayV_ok v.cl.1 hc big
  have hday : isDay (dayV (closedV b.ends) big) = true := day_of (by have := v.cl; omega) dv2
  generalize dayV (closedV b.ends) big = day at *
  have s2 := v.s2
  have s3' := v.s3
  have zl := v.zl
  have c3 := v.c3
  have c4 := v.c4
  have i0 := Int.emod_nonneg pick (b := (cu.length : Int) - 1) (by omega)
  have i1 := Int.emod_lt_of_pos pick (b := (cu.length : Int) - 1) (by omega)
  have gc := atL p.cur (i := 1 + pick % ((cu.length : Int) - 1)) (by omega) (by omega)
  have gl := gLen_ref p.cur
  rw [List.length_map] at gl
  have hmem : cu.getD (1 + pick % ((cu.length : Int) - 1)).toNat "" ∈ cu := getD_mem (by omega)
  have hne : cu.getD (1 + pick % ((cu.length : Int) - 1)).toNat "" ≠ b.home := by rw [v.home]; exact getD_ne v.c2 (by omega) (by omega)
  have hpos : 0 < (cu.length : Int) - 1 := by omega
  obtain ⟨m, hm⟩ : ∃ m : Int, (cu.length : Int) = m := ⟨_, rfl⟩
  rw [hm] at gc gl hpos hmem hne
  have hpos1 : 1 < m := by omega
  generalize cu.getD (1 + pick % (m - 1)).toNat "" = c at *
  have xC := p.xC
  have w2 : Sm 2 := by decide
  have w3 : Sm 3 := by decide
  have w7 : Sm 7 := by decide
  obtain ⟨t, q, hr, ht, hrate⟩ : ∃ t q, (t = if pick / 3 % 3 > 0 then 1 + pick / 2 % 40 else 1 + pick / 2 % 1000000000) ∧ (q = if pick / 3 % 3 > 0 then 1 + big / 7 % 40 else 1 + big / 7 % 1000000000) ∧ isRate t q = true := by
    refine ⟨_, _, rfl, rfl, ?_⟩
    unfold isRate
    split <;> simp <;> omega
  have ap := ap_w (u := rT ⟨c, day, t, q⟩) p.told rfl (by simp; omega)
  have e' : b.rows.map rT ++ [rT ⟨c, day, t, q⟩] = (b.rows ++ [(⟨c, day, t, q⟩ : RRow)]).map rT := by simp
  rw [e'] at ap
  have xT := p.xT
  have lo1 := lstOf_ref p.told
  have p1 := p.putT (b.rows ++ [⟨c, day, t, q⟩])
  have a1 := a.low (i := 6) (o := .lst ((b.rows ++ [(⟨c, day, t, q⟩ : RRow)]).map rT)) (by decide)
  have f1 : Fs S (S.set 6 (.lst ((b.rows ++ [(⟨c, day, t, q⟩ : RRow)]).map rT))) := Fs.set (by decide)
  generalize S.set 6 (.lst ((b.rows ++ [(⟨c, day, t, q⟩ : RRow)]).map rT)) = S1 at *
  have ad := ap_deed p1 hd (Dd.rate ⟨c, day, t, q⟩)
  have p2 := p1.putD (dd ++ [Dd.rate ⟨c, day, t, q⟩])
  have a2 := a1.low (i := 9) (o := .lst ((dd ++ [Dd.rate ⟨c, day, t, q⟩]).map Dd.w)) (by decide)
  have f2 : Fs S1 (S1.set 9 (.lst ((dd ++ [Dd.rate ⟨c, day, t, q⟩]).map Dd.w))) := Fs.set (by decide)
  have lo := lstOf_ref p1.deeds
  have xd := p1.xD
  generalize S1.set 9 (.lst ((dd ++ [Dd.rate ⟨c, day, t, q⟩]).map Dd.w)) = S2 at *
  obtain ⟨S3, e3, a3, f3⟩ := p_tell_rate a2 (by omega) (by omega) ⟨c, day, t, q⟩ (cur_len (v.c1 _ hmem)) (v.c1 _ hmem) hday (by show ¬ day ≤ closedV b.ends; omega) hne hrate
  refine ⟨S3, _, dd ++ [Dd.rate ⟨c, day, t, q⟩], ?_, (p2.off fun m hm => f3.2 m (.inl hm)).deeds' (b.deeds ++ [Dd.rate ⟨c, day, t, q⟩]), a3, ?_, f1.trans (f2.trans (.fr f3)), by simp, ⟨[Dd.rate ⟨c, day, t, q⟩], rfl, rfl⟩, .of_rate (x := ⟨c, day, t, q⟩) rfl rfl rfl rfl (by show closedV b.ends < day; omega)⟩
  · simp only [Dd.w, Dd.d] at ad
    simp only [rT] at ap
    simp only at e3
    have i2 := a2.i0
    unfold sem_law_tell
    by_cases hk : pick / 3 % 3 > 0
    · rw [if_pos hk] at hr ht
      subst hr ht
      have hk' : 0 < pick / 3 % 3 := hk
      simp [fnS_s, pd, xC, gl, hpos, hpos1, gc, w2, w3, w7, hk', gIxI_tup, xT, lo1, ap, xd, lo, ad, i2, e3]
    · rw [if_neg hk] at hr ht
      subst hr ht
      have hk' : ¬ 0 < pick / 3 % 3 := hk
      simp [fnS_s, pd, xC, gl, hpos, hpos1, gc, w2, w3, w7, hk', gIxI_tup, xT, lo1, ap, xd, lo, ad, i2, e3]
  · exact ⟨v.home, v.c1, v.c2, v.c3, v.c4, v.n1, v.n2, v.n3, v.n4, v.n5, v.eday, v.elen, v.enote, v.els, v.ebal, v.bk, fun r hr' => by
      rcases List.mem_append.mp hr' with hr' | hr'
      · exact v.rows r hr'
      · rw [List.mem_singleton.mp hr']; exact ⟨hrate, hmem, hday⟩, v.cl, h, Nat.le_succ_of_le v.s1, by simp; omega, by simp; omega, Nat.le_succ_of_le v.s4, Nat.le_succ_of_le v.s5, v.st, v.num, v.eo⟩
/-- the law's own rate -/
def rateW : Option (Int × Int) → Wv
  | none => .d .non
  | some p => .d (.tup [.int p.1, .int p.2])
theorem p_lrate (p : Pl S b cu dd fi mo) (v : Iv b cu z) (c : Str) (d : Int) : sem_law_rate [.ref 2, T c, I d] S = .ok (rateW (rateV b c d)) S := by
  obtain ⟨ρ', S', e, hr⟩ := for_fold (fun S => seqW S (.ref 6) = some (true, b.rows.map rT)) 4 lb_law_rate_1 rT
    (fun f ρ S' => S' = S ∧ ∃ r, ρ = [some (.ref 2), some (T c), some (I d), some (encF rT f), r]) (pickS c d) (fun _ _ _ hh => hh.1 ▸ seqW_ref p.told) b.rows none [some (.ref 2), some (T c), some (I d), some (.d .non), none] S (by
      rintro r _ f ρ S' ⟨rfl, z, rfl⟩
      refine ⟨_, _, .inl ?_, rfl, some (rT r), rfl⟩
      by_cases h1 : r.c = c <;> by_cases h2 : r.d ≤ d
      · cases f with
        | none => simp [lb_law_rate_1, rT, gIxI_tup, h1, h2, pickS, encF]
        | some g => by_cases h3 : g.d ≤ r.d <;> simp [lb_law_rate_1, rT, gIxI_tup, h1, h2, h3, pickS, encF]
      · simp [lb_law_rate_1, rT, gIxI_tup, h1, h2, pickS]
      · simp [lb_law_rate_1, rT, gIxI_tup, h1, h2, pickS]
      · simp [lb_law_rate_1, rT, gIxI_tup, h1, h2, pickS]) ⟨rfl, none, rfl⟩
  obtain ⟨rfl, r, rfl⟩ := hr
  have g0 := atL p.cur (i := 0) (by decide) (by have := v.c3; omega)
  rw [show (0 : Int).toNat = 0 from rfl, ← v.home] at g0
  have e' : List.foldl (pickS c d) none b.rows = pick c d b.rows := rfl
  rw [e'] at e
  have xC := p.xC
  have xT := p.xT
  unfold sem_law_rate rateV
  by_cases hc : c = b.home
  · rw [if_pos hc]
    simp [fnS_s, xC, g0, hc, rateW]
  · rw [if_neg hc]
    cases hp : pick c d b.rows with
    | none =>
      rw [hp] at e
      simp [fnS_s, xC, xT, g0, hc, itW_of (seqW_ref p.told), e, encF, rateW]
    | some r =>
      rw [hp] at e
      simp [fnS_s, xC, xT, g0, hc, itW_of (seqW_ref p.told), e, encF, rT, rateW, gIxI_tup]
theorem conv_bal (g o t u : Str) (x y : Int) : bal (convL g o x t u y) = true := by
  rw [bal_iff]
  intro c
  simp only [convL, sumOf]
  split <;> split <;> omega
theorem step_convert (p : Pl S b cu dd fi mo) (a : At S 10 b) (v : Iv b cu z) (h : z + 1 ≤ 1000) (hd : dd.length ≤ 1000) (hc : closedV b.ends < 99999) (big pick : Int) : StepOk (sem_law_convert [.ref 10, .ref 2, I big, I pick] S) S b cu dd fi mo z := by
  have pd := p_lday p v hc big
  obtain ⟨dv1, dv2⟩ := dayV_ok v.cl.1 hc big
  have hday : isDay (dayV (closedV b.ends) big) = true := day_of (by have := v.cl; omega) dv2
  generalize dayV (closedV b.ends) big = day at *
  have n3 := v.n3
  have c3 := v.c3
  have s1 := v.s1
  have s2 := v.s2
  have zl := v.zl
  have hpos : 0 < (cu.length : Int) := by omega
  have hpos1 : 0 < (cu.length : Int) - 1 := by omega
  have r0 := Int.emod_nonneg (pick / cu.length) (b := (cu.length : Int) - 1) (by omega)
  have r1 := Int.emod_lt_of_pos (pick / cu.length) (b := (cu.length : Int) - 1) (by omega)
  have go := pickL_at p.cur (by omega) pick
  have gu := pickL_at p.cur (by omega) (pick + 1 + pick / cu.length % ((cu.length : Int) - 1))
  have gg := pickL_at p.names (by omega) (pick / 6)
  have gt := pickL_at p.names (by omega) (pick / 7)
  have gln := gLen_ref p.names
  have glc := gLen_ref p.cur
  rw [List.length_map] at gln glc
  have mo' : pickL cu pick ∈ cu := pickL_mem (by omega) _
  have mu : pickL cu (pick + 1 + pick / cu.length % ((cu.length : Int) - 1)) ∈ cu := pickL_mem (by omega) _
  have mg : pickL b.names (pick / 6) ∈ b.names := pickL_mem (by omega) _
  have mt : pickL b.names (pick / 7) ∈ b.names := pickL_mem (by omega) _
  have hne : pickL cu pick ≠ pickL cu (pick + 1 + pick / cu.length % ((cu.length : Int) - 1)) := fun e => by
    have q0 := Int.emod_nonneg pick (b := (cu.length : Int)) (by omega)
    have q1 := Int.emod_lt_of_pos pick hpos
    have q2 := Int.emod_nonneg (pick + 1 + pick / cu.length % ((cu.length : Int) - 1)) (b := (cu.length : Int)) (by omega)
    have q3 := Int.emod_lt_of_pos (pick + 1 + pick / cu.length % ((cu.length : Int) - 1)) hpos
    have e2 := getD_inj v.c2 (by omega) (by omega) e
    have e3 : (pick + 1 + pick / cu.length % ((cu.length : Int) - 1)) % cu.length = pick % cu.length := by omega
    have e4 := Int.emod_eq_emod_iff_emod_sub_eq_zero.mp e3
    have e5 : pick + 1 + pick / cu.length % ((cu.length : Int) - 1) - pick = 1 + pick / cu.length % ((cu.length : Int) - 1) := by omega
    rw [e5, Int.emod_eq_of_lt (by omega) (by omega)] at e4
    omega
  have smc : Sm (cu.length : Int) := sm_le (by have := v.c4; omega)
  obtain ⟨m, hm⟩ : ∃ m : Int, (cu.length : Int) = m := ⟨_, rfl⟩
  obtain ⟨k, hk⟩ : ∃ k : Int, (b.names.length : Int) = k := ⟨_, rfl⟩
  have hposk : 0 < (b.names.length : Int) := by omega
  rw [hm] at go gu glc hpos hpos1 hne mu smc
  rw [hk] at gg gt gln hposk
  have hpos2 : 1 < m := by omega
  generalize pickL cu (pick + 1 + pick / m % (m - 1)) = u at *
  generalize pickL cu pick = o at *
  generalize pickL b.names (pick / 6) = g at *
  generalize pickL b.names (pick / 7) = t at *
  have pa := p_law_amount (S := S) (big / 5)
  have ax := amtV_ok (big / 5)
  generalize amtV (big / 5) = x at *
  have pr1 := p_lrate p v o day
  have pr2 := p_lrate p v u day
  have xC := p.xC
  have xN := p.xN
  have w5 : Sm 5 := by decide
  have w6 : Sm 6 := by decide
  have w7 : Sm 7 := by decide
  have w2 : Sm 2 := by decide
  have hR : ∀ r ∈ b.rows, isRate r.t r.q = true := fun r hr => (v.rows r hr).1
  have g1 : st_law_convert_1 [some (.ref 10), some (.ref 2), some (I big), some (I pick), none, none, none, none, none, none, none, none, none, none, none, none] S = .nx [some (.ref 10), some (.ref 2), some (I big), some (I pick), some (I day), none, none, none, none, none, none, none, none, none, none, none] S := by
    unfold st_law_convert_1
    simp [pd]
  have g2 : st_law_convert_2 [some (.ref 10), some (.ref 2), some (I big), some (I pick), some (I day), none, none, none, none, none, none, none, none, none, none, none] S = .nx [some (.ref 10), some (.ref 2), some (I big), some (I pick), some (I day), some (I m), none, none, none, none, none, none, none, none, none, none] S := by
    unfold st_law_convert_2
    simp [xC, glc]
  have g3 : st_law_convert_3 [some (.ref 10), some (.ref 2), some (I big), some (I pick), some (I day), some (I m), none, none, none, none, none, none, none, none, none, none] S = .nx [some (.ref 10), some (.ref 2), some (I big), some (I pick), some (I day), some (I m), some (T o), none, none, none, none, none, none, none, none, none] S := by
    unfold st_law_convert_3
    simp [xC, hpos, go]
  have g4 : st_law_convert_4 [some (.ref 10), some (.ref 2), some (I big), some (I pick), some (I day), some (I m), some (T o), none, none, none, none, none, none, none, none, none] S = .nx [some (.ref 10), some (.ref 2), some (I big), some (I pick), some (I day), some (I m), some (T o), some (T u), none, none, none, none, none, none, none, none] S := by
    unfold st_law_convert_4
    simp [xC, hpos, hpos2, gu, smc]
  have g5 : st_law_convert_5 [some (.ref 10), some (.ref 2), some (I big), some (I pick), some (I day), some (I m), some (T o), some (T u), none, none, none, none, none, none, none, none] S = .nx [some (.ref 10), some (.ref 2), some (I big), some (I pick), some (I day), some (I m), some (T o), some (T u), some (T g), none, none, none, none, none, none, none] S := by
    unfold st_law_convert_5
    simp [xN, gln, hposk, gg, w6]
  have g6 : st_law_convert_6 [some (.ref 10), some (.ref 2), some (I big), some (I pick), some (I day), some (I m), some (T o), some (T u), some (T g), none, none, none, none, none, none, none] S = .nx [some (.ref 10), some (.ref 2), some (I big), some (I pick), some (I day), some (I m), some (T o), some (T u), some (T g), some (T t), none, none, none, none, none, none] S := by
    unfold st_law_convert_6
    simp [xN, gln, hposk, gt, w7]
  have g7 : st_law_convert_7 [some (.ref 10), some (.ref 2), some (I big), some (I pick), some (I day), some (I m), some (T o), some (T u), some (T g), some (T t), none, none, none, none, none, none] S = .nx [some (.ref 10), some (.ref 2), some (I big), some (I pick), some (I day), some (I m), some (T o), some (T u), some (T g), some (T t), some (I x), none, none, none, none, none] S := by
    unfold st_law_convert_7
    simp [pa, w5]
  have eF : sem_law_convert [.ref 10, .ref 2, I big, I pick] S = (sSeq st_law_convert_8 (sSeq st_law_convert_9 (sSeq st_law_convert_10 (sSeq st_law_convert_11 (sSeq st_law_convert_12 (sSeq st_law_convert_13 (sSeq st_law_convert_14 (sSeq st_law_convert_15 (sSeq st_law_convert_16 (sSeq st_law_convert_17 st_law_convert_18)))))))))  [some (.ref 10), some (.ref 2), some (I big), some (I pick), some (I day), some (I m), some (T o), some (T u), some (T g), some (T t), some (I x), none, none, none, none, none] S).out := by
    unfold sem_law_convert
    rw [fnS_s, if_pos (by rfl)]
    show (sSeq _ _ [some (.ref 10), some (.ref 2), some (I big), some (I pick), none, none, none, none, none, none, none, none, none, none, none, none] S).out = _
    rw [sSeq_s, g1, seq_nx, sSeq_s, g2, seq_nx, sSeq_s, g3, seq_nx, sSeq_s, g4, seq_nx, sSeq_s, g5, seq_nx, sSeq_s, g6, seq_nx, sSeq_s, g7, seq_nx]
  have hxa : isAmt x = true := isAmt_of (by omega) (by omega)
  rw [eF]
  cases q1 : rateV b o day with
  | none =>
    rw [q1] at pr1
    have g8 : ∀ w, sem_law_rate [.ref 2, T u, I day] S = .ok (.d w) S → st_law_convert_8 [some (.ref 10), some (.ref 2), some (I big), some (I pick), some (I day), some (I m), some (T o), some (T u), some (T g), some (T t), some (I x), none, none, none, none, none] S = .nx [some (.ref 10), some (.ref 2), some (I big), some (I pick), some (I day), some (I m), some (T o), some (T u), some (T g), some (T t), some (I x), some (.d (.lst [.non, w])), none, none, none, none] S := fun w hw => by
      unfold st_law_convert_8
      simp [pr1, hw, rateW]
    obtain ⟨w, hw⟩ : ∃ w, sem_law_rate [.ref 2, T u, I day] S = .ok (.d w) S := by rw [pr2]; cases rateV b u day <;> exact ⟨_, rfl⟩
    have g9 : st_law_convert_9 [some (.ref 10), some (.ref 2), some (I big), some (I pick), some (I day), some (I m), some (T o), some (T u), some (T g), some (T t), some (I x), some (.d (.lst [.non, w])), none, none, none, none] S = .rt (Bo true) S := by
      unfold st_law_convert_9
      simp [gIxI_lst]
    rw [sSeq_s, g8 w hw, seq_nx, sSeq_s, g9]
    exact step_none p a v h
  | some p1 =>
    rw [q1] at pr1
    obtain ⟨b1, b2⟩ := rateV_ok hR q1
    cases q2 : rateV b u day with
    | none =>
      rw [q2] at pr2
      have g8 : st_law_convert_8 [some (.ref 10), some (.ref 2), some (I big), some (I pick), some (I day), some (I m), some (T o), some (T u), some (T g), some (T t), some (I x), none, none, none, none, none] S = .nx [some (.ref 10), some (.ref 2), some (I big), some (I pick), some (I day), some (I m), some (T o), some (T u), some (T g), some (T t), some (I x), some (.d (.lst [.tup [.int p1.1, .int p1.2], .non])), none, none, none, none] S := by
        unfold st_law_convert_8
        simp [pr1, pr2, rateW]
      have g9 : st_law_convert_9 [some (.ref 10), some (.ref 2), some (I big), some (I pick), some (I day), some (I m), some (T o), some (T u), some (T g), some (T t), some (I x), some (.d (.lst [.tup [.int p1.1, .int p1.2], .non])), none, none, none, none] S = .rt (Bo true) S := by
        unfold st_law_convert_9
        simp [gIxI_lst]
      rw [sSeq_s, g8, seq_nx, sSeq_s, g9]
      exact step_none p a v h
    | some p2 =>
      rw [q2] at pr2
      obtain ⟨b3, b4⟩ := rateV_ok hR q2
      have g8 : st_law_convert_8 [some (.ref 10), some (.ref 2), some (I big), some (I pick), some (I day), some (I m), some (T o), some (T u), some (T g), some (T t), some (I x), none, none, none, none, none] S = .nx [some (.ref 10), some (.ref 2), some (I big), some (I pick), some (I day), some (I m), some (T o), some (T u), some (T g), some (T t), some (I x), some (.d (.lst [.tup [.int p1.1, .int p1.2], .tup [.int p2.1, .int p2.2]])), none, none, none, none] S := by
        unfold st_law_convert_8
        simp [pr1, pr2, rateW]
      have g9 : st_law_convert_9 [some (.ref 10), some (.ref 2), some (I big), some (I pick), some (I day), some (I m), some (T o), some (T u), some (T g), some (T t), some (I x), some (.d (.lst [.tup [.int p1.1, .int p1.2], .tup [.int p2.1, .int p2.2]])), none, none, none, none] S = .nx [some (.ref 10), some (.ref 2), some (I big), some (I pick), some (I day), some (I m), some (T o), some (T u), some (T g), some (T t), some (I x), some (.d (.lst [.tup [.int p1.1, .int p1.2], .tup [.int p2.1, .int p2.2]])), none, none, none, none] S := by
        unfold st_law_convert_9
        simp [gIxI_lst]
      have m1 : MulOk x p1.1 := mulR (by omega)
      have m2 : MulOk (x * p1.1) p2.2 := mulR (by omega)
      have m3 : MulOk p1.2 p2.1 := mulR (by omega)
      have hp : 0 < p1.2 * p2.1 := Int.mul_pos (by omega) (by omega)
      have hq : p1.2 * p2.1 ≤ 1000000000 * 1000000000 := Int.mul_le_mul (by omega) (by omega) (by omega) (by omega)
      have sE : Sm (p1.2 * p2.1) := sm_le (by omega)
      have g10 : st_law_convert_10 [some (.ref 10), some (.ref 2), some (I big), some (I pick), some (I day), some (I m), some (T o), some (T u), some (T g), some (T t), some (I x), some (.d (.lst [.tup [.int p1.1, .int p1.2], .tup [.int p2.1, .int p2.2]])), none, none, none, none] S = .nx [some (.ref 10), some (.ref 2), some (I big), some (I pick), some (I day), some (I m), some (T o), some (T u), some (T g), some (T t), some (I x), some (.d (.lst [.tup [.int p1.1, .int p1.2], .tup [.int p2.1, .int p2.2]])), some (I (x * p1.1 * p2.2)), none, none, none] S := by
        unfold st_law_convert_10
        simp [gIxI_lst, gIxI_tup, m1, m2]
      obtain ⟨y, hy⟩ : ∃ y, chV x p1 p2 = y := ⟨_, rfl⟩
      have hy2 : x * p1.1 * p2.2 / (p1.2 * p2.1) = y := hy
      have g11 : st_law_convert_11 [some (.ref 10), some (.ref 2), some (I big), some (I pick), some (I day), some (I m), some (T o), some (T u), some (T g), some (T t), some (I x), some (.d (.lst [.tup [.int p1.1, .int p1.2], .tup [.int p2.1, .int p2.2]])), some (I (x * p1.1 * p2.2)), none, none, none] S = .nx [some (.ref 10), some (.ref 2), some (I big), some (I pick), some (I day), some (I m), some (T o), some (T u), some (T g), some (T t), some (I x), some (.d (.lst [.tup [.int p1.1, .int p1.2], .tup [.int p2.1, .int p2.2]])), some (I y), none, none, none] S := by
        unfold st_law_convert_11
        generalize hE : p1.2 * p2.1 = E at *
        simp only [sSet_s, evBin_s, evVar_s, evC_s, List.getElem?_cons_succ, List.getElem?_cons_zero, bind_ok, gIx_int, gIxI_lst, at0, at1, gIxI_tup, gMul_int, if_pos m3, hE, gFloor_int, if_pos (And.intro hp sE), hy2, toS_ok, List.set_cons_succ, List.set_cons_zero]
      generalize hRT : D.lst [.tup [.int p1.1, .int p1.2], .tup [.int p2.1, .int p2.2]] = RT at *
      rw [sSeq_s, g8, seq_nx, sSeq_s, g9, seq_nx, sSeq_s, g10, seq_nx, sSeq_s, g11, seq_nx, sSeq_s]
      by_cases hno : y = 0 ∨ 1000000000000000000000000000000 ≤ y
      · have g12 : st_law_convert_12 [some (.ref 10), some (.ref 2), some (I big), some (I pick), some (I day), some (I m), some (T o), some (T u), some (T g), some (T t), some (I x), some (.d RT), some (I y), none, none, none] S = .rt (Bo true) S := by
          unfold st_law_convert_12
          by_cases y0 : y = 0
          · simp [y0]
          · simp [y0, hno.resolve_left y0]
        rw [g12]
        exact step_none p a v h
      · have y0 : ¬ y = 0 := fun w => hno (.inl w)
        have y1 : ¬ 1000000000000000000000000000000 ≤ y := fun w => hno (.inr w)
        have yp : 0 ≤ y := by rw [← hy2]; exact Int.ediv_nonneg (Int.mul_nonneg (Int.mul_nonneg (by omega) (by omega)) (by omega)) (by omega)
        have hya : isAmt y = true := by unfold isAmt; simp [y0, show ¬ y < 0 by omega]; omega
        have g12 : st_law_convert_12 [some (.ref 10), some (.ref 2), some (I big), some (I pick), some (I day), some (I m), some (T o), some (T u), some (T g), some (T t), some (I x), some (.d RT), some (I y), none, none, none] S = .nx [some (.ref 10), some (.ref 2), some (I big), some (I pick), some (I day), some (I m), some (T o), some (T u), some (T g), some (T t), some (I x), some (.d RT), some (I y), none, none, none] S := by
          unfold st_law_convert_12
          simp [y0, y1]
        have g13 : st_law_convert_13 [some (.ref 10), some (.ref 2), some (I big), some (I pick), some (I day), some (I m), some (T o), some (T u), some (T g), some (T t), some (I x), some (.d RT), some (I y), none, none, none] S = .nx [some (.ref 10), some (.ref 2), some (I big), some (I pick), some (I day), some (I m), some (T o), some (T u), some (T g), some (T t), some (I x), some (.d RT), some (I y), some (.d (.lst [.tup [.str g, .str o, .int (0 - x)], .tup [.str "exchange", .str o, .int x]])), none, none] S := by
          unfold st_law_convert_13
          simp
        have g14 : st_law_convert_14 [some (.ref 10), some (.ref 2), some (I big), some (I pick), some (I day), some (I m), some (T o), some (T u), some (T g), some (T t), some (I x), some (.d RT), some (I y), some (.d (.lst [.tup [.str g, .str o, .int (0 - x)], .tup [.str "exchange", .str o, .int x]])), none, none] S = .nx [some (.ref 10), some (.ref 2), some (I big), some (I pick), some (I day), some (I m), some (T o), some (T u), some (T g), some (T t), some (I x), some (.d RT), some (I y), some (.d (.lst ((convL g o x t u y).map Ln.d))), none, none] S := by
          unfold st_law_convert_14
          simp [convL, Ln.d]
        obtain ⟨nt1, nt2⟩ := noteV_ok (pick / 2)
        have pn := p_law_note (S := S) (pick / 2)
        generalize noteV (pick / 2) = note at *
        have lok : ∀ l ∈ convL g o x t u y, l.a ∈ b.names ∧ l.c ∈ cu ∧ isAmt l.x = true := fun l hl => by
          simp only [convL, List.mem_cons, List.not_mem_nil, or_false] at hl
          rcases hl with rfl | rfl | rfl | rfl
          · exact ⟨mg, mo', amt_neg hxa⟩
          · exact ⟨v.n5, mo', hxa⟩
          · exact ⟨v.n5, mu, amt_neg hya⟩
          · exact ⟨mt, mu, hya⟩
        have lb := conv_bal g o t u x y
        have pp := p_lput p (by omega) day note (convL g o x t u y) 0
        have p1' := p.putE (b.ents ++ [En.mk (b.ents.length + 1) day note (convL g o x t u y) 0])
        have a1 := a.low (i := 5) (o := .lst ((b.ents ++ [En.mk (b.ents.length + 1) day note (convL g o x t u y) 0]).map En.w)) (by decide)
        have f1 : Fs S (S.set 5 (.lst ((b.ents ++ [En.mk (b.ents.length + 1) day note (convL g o x t u y) 0]).map En.w))) := Fs.set (by decide)
        generalize S.set 5 (.lst ((b.ents ++ [En.mk (b.ents.length + 1) day note (convL g o x t u y) 0]).map En.w)) = S1 at *
        have ad := ap_deed p1' hd (Dd.chg day g o x t u note)
        have p2' := p1'.putD (dd ++ [Dd.chg day g o x t u note])
        have a2 := a1.low (i := 9) (o := .lst ((dd ++ [Dd.chg day g o x t u note]).map Dd.w)) (by decide)
        have f2 : Fs S1 (S1.set 9 (.lst ((dd ++ [Dd.chg day g o x t u note]).map Dd.w))) := Fs.set (by decide)
        have lo := lstOf_ref p1'.deeds
        have xd := p1'.xD
        generalize S1.set 9 (.lst ((dd ++ [Dd.chg day g o x t u note]).map Dd.w)) = S2 at *
        have po := p_convert a2 (by omega) (by omega) hR day note g o x t u (by omega) (cur_len (v.c1 _ mo')) (cur_len (v.c1 _ mu))
        have pe : convE b day note g o x t u = .inr y := by
          unfold convE
          rw [if_neg (by rw [hday]; exact Bool.true_eq_false.mp), if_neg (by omega), if_neg (by rw [nt1]; exact Bool.true_eq_false.mp), if_neg (fun w => w mg), if_neg (fun w => w mt), if_neg (by rw [v.c1 _ mo']; exact Bool.true_eq_false.mp), if_neg (by rw [v.c1 _ mu]; exact Bool.true_eq_false.mp), if_neg hne]
          unfold gotE
          rw [if_neg (by rw [hxa]; simp; omega), q1]
          simp only
          rw [q2]
          simp only
          rw [hy, if_neg y0, if_neg (by rw [hya]; exact Bool.true_eq_false.mp)]
        rw [pe] at po
        obtain ⟨S3, e3, a3, f3⟩ := po
        refine ⟨S3, _, dd ++ [Dd.chg day g o x t u note], ?_, (p2'.off fun m hm => f3.2 m (.inl hm)).deeds' (b.deeds ++ [Dd.chg day g o x t u note]), a3, v.ent h _ _ hday (by show 4 ≤ 60; decide) ⟨nt1, nt2⟩ lok lb rfl, f1.trans (f2.trans (.fr f3)), by simp, ⟨[Dd.chg day g o x t u note], rfl, rfl⟩, .of_ent (en := En.mk (b.ents.length + 1) day note (convL g o x t u y) 0) rfl rfl rfl rfl (by show closedV b.ends < day; omega)⟩
        generalize (convL g o x t u y).map Ln.d = LL at *
        have g15 : st_law_convert_15 [some (.ref 10), some (.ref 2), some (I big), some (I pick), some (I day), some (I m), some (T o), some (T u), some (T g), some (T t), some (I x), some (.d RT), some (I y), some (.d (.lst LL)), none, none] S = .nx [some (.ref 10), some (.ref 2), some (I big), some (I pick), some (I day), some (I m), some (T o), some (T u), some (T g), some (T t), some (I x), some (.d RT), some (I y), some (.d (.lst LL)), some (T note), none] S := by
          unfold st_law_convert_15
          simp [pn, w2]
        have g16 : st_law_convert_16 [some (.ref 10), some (.ref 2), some (I big), some (I pick), some (I day), some (I m), some (T o), some (T u), some (T g), some (T t), some (I x), some (.d RT), some (I y), some (.d (.lst LL)), some (T note), none] S = .nx [some (.ref 10), some (.ref 2), some (I big), some (I pick), some (I day), some (I m), some (T o), some (T u), some (T g), some (T t), some (I x), some (.d RT), some (I y), some (.d (.lst LL)), some (T note), some (I (b.ents.length + 1))] S1 := by
          unfold st_law_convert_16
          simp [pp]
        have g17 : st_law_convert_17 [some (.ref 10), some (.ref 2), some (I big), some (I pick), some (I day), some (I m), some (T o), some (T u), some (T g), some (T t), some (I x), some (.d RT), some (I y), some (.d (.lst LL)), some (T note), some (I (b.ents.length + 1))] S1 = .nx [some (.ref 10), some (.ref 2), some (I big), some (I pick), some (I day), some (I m), some (T o), some (T u), some (T g), some (T t), some (I x), some (.d RT), some (I y), some (.d (.lst LL)), some (T note), some (I (b.ents.length + 1))] S2 := by
          simp only [Dd.w, Dd.d] at ad
          unfold st_law_convert_17
          simp [xd, lo, ad]
        have g18 : st_law_convert_18 [some (.ref 10), some (.ref 2), some (I big), some (I pick), some (I day), some (I m), some (T o), some (T u), some (T g), some (T t), some (I x), some (.d RT), some (I y), some (.d (.lst LL)), some (T note), some (I (b.ents.length + 1))] S2 = .rt (Bo true) S3 := by
          have i2 := a2.i0
          unfold st_law_convert_18
          simp [i2, e3]
        rw [g12, seq_nx, sSeq_s, g13, seq_nx, sSeq_s, g14, seq_nx, sSeq_s, g15, seq_nx, sSeq_s, g16, seq_nx, sSeq_s, g17, seq_nx, g18]
        rfl
end
end DL

namespace DL
open PySem PySem.Spec PyProof.Rows L2
theorem any_int (x : Int) : ∀ l : List Int, ((l.map D.int).any fun y => eqD y (.int x)) = decide (x ∈ l)
  | [] => by simp
  | y :: l => by
    rw [List.map_cons, List.any_cons, any_int x l, eqD_int]
    by_cases h : y = x
    · simp [h]
    · have h' : ¬ x = y := fun e => h e.symm
      simp [h, h']
theorem gIn_ints {S : Store} {neg : Bool} {m : Nat} {l : List Int} (h : S[m]? = some (.lst (l.map I))) (x : Int) : gIn neg (.d (.int x)) (.ref m) S = .ok (.d (.bl (if neg = true then !decide (x ∈ l) else decide (x ∈ l)))) S := by
  have e1 : allD (l.map I) = some (l.map .int) := by rw [← allD_map (l.map D.int), List.map_map]; rfl
  have e2 : (l.map D.int).all flatD = true := by simp [flatD]
  unfold gIn memW
  simp only [seqW_ref h, e1, e2, Bool.and_true]
  rw [if_pos (show flatD (.int x) = true from rfl)]
  simp only [any_int]
section
variable {S : Store} {b : Bk} {cu : List Str} {dd : List Dd} {fi mo : Int} {z : Nat}
theorem step_contrary (p : Pl S b cu dd fi mo) (a : At S 10 b) (v : Iv b cu z) (h : z + 1 ≤ 1000) (hd : dd.length ≤ 1000) (hc : closedV b.ends < 99999) (big pick : Int) : StepOk (sem_law_contrary [.ref 10, .ref 2, I big, I pick] S) S b cu dd fi mo z := by
  have pd := p_lday p v hc big
  obtain ⟨dv1, dv2⟩ := dayV_ok v.cl.1 hc big
  have hday : isDay (dayV (closedV b.ends) big) = true := day_of (by have := v.cl; omega) dv2
  generalize dayV (closedV b.ends) big = day at *
  have s1 := v.s1
  have s2 := v.s2
  have s5' := v.s5
  have zl := v.zl
  have gl := gLen_ref p.ents
  rw [List.length_map] at gl
  have xE := p.xE
  have xB := p.xB
  have hE : S[5]? = some (.lst ((b.ents.map En.d).map .d)) := by rw [p.ents, List.map_map]; rfl
  have hdp : depAll (b.ents.map En.d) ≤ 10 := depAll_map _ _ fun e _ => dep_en e
  have ge : gEq false (.ref 5) (.d (.lst [])) S = .ok (Bo (eqD (.lst (b.ents.map En.d)) (.lst []))) S := by
    rw [gEq_of (asD_ref hE) (asD_d _) (by rw [dep_lst]; omega)]
    rfl
  obtain ⟨k, hk⟩ : ∃ k, 1 + pick % (if 1 < (b.ents.length : Int) then (b.ents.length : Int) else 1) = k := ⟨_, rfl⟩
  have g1 : st_law_contrary_1 [some (.ref 10), some (.ref 2), some (I big), some (I pick), none, none, none, none, none, none] S = .nx [some (.ref 10), some (.ref 2), some (I big), some (I pick), some (I k), none, none, none, none, none] S := by
    unfold st_law_contrary_1
    by_cases h1 : 1 < (b.ents.length : Int)
    · rw [if_pos h1] at hk
      have h2 : 0 < (b.ents.length : Int) := by omega
      have h3 : 1 < b.ents.length := by omega
      have h4 : 0 < b.ents.length := by omega
      simp [xE, gl, h1, h2, h3, h4, hk]
    · rw [if_neg h1] at hk
      have h3 : ¬ 1 < b.ents.length := by omega
      have hk1 : k = 1 := by omega
      rw [hk1]
      simp [xE, gl, h1, h3]
  have eF : sem_law_contrary [.ref 10, .ref 2, I big, I pick] S = (sSeq st_law_contrary_2 (sSeq st_law_contrary_3 (sSeq st_law_contrary_4 (sSeq st_law_contrary_5 (sSeq st_law_contrary_6 (sSeq st_law_contrary_7 (sSeq st_law_contrary_8 st_law_contrary_9)))))) [some (.ref 10), some (.ref 2), some (I big), some (I pick), some (I k), none, none, none, none, none] S).out := by
    unfold sem_law_contrary
    rw [fnS_s, if_pos (by rfl)]
    show (sSeq _ _ [some (.ref 10), some (.ref 2), some (I big), some (I pick), none, none, none, none, none, none] S).out = _
    rw [sSeq_s, g1, seq_nx]
  rw [eF, sSeq_s]
  have gi := gIn_ints (neg := false) p.backs k
  simp only [Bool.false_eq_true, if_false] at gi
  by_cases hne : b.ents = []
  · have e2 : st_law_contrary_2 [some (.ref 10), some (.ref 2), some (I big), some (I pick), some (I k), none, none, none, none, none] S = .rt (Bo true) S := by
      rw [hne] at ge
      simp only [List.map_nil, eqD_lst, eqDs_nil] at ge
      unfold st_law_contrary_2
      simp [xE, ge]
    rw [e2]
    exact step_none p a v h
  · have hlen : 1 ≤ b.ents.length := by
      cases q : b.ents with
      | nil => exact absurd q hne
      | cons x l => simp
    have hkr : 1 ≤ k ∧ k ≤ b.ents.length := by
      split at hk
      · have := Int.emod_nonneg pick (b := (b.ents.length : Int)) (by omega)
        have := Int.emod_lt_of_pos pick (b := (b.ents.length : Int)) (by omega)
        omega
      · omega
    obtain ⟨e, he, hgi⟩ : ∃ e, b.ents[(k - 1).toNat]? = some e ∧ gIxI (.ref 5) (k - 1) S = .ok e.w S := by
      have hl : (k - 1).toNat < b.ents.length := by omega
      refine ⟨b.ents[(k - 1).toNat], List.getElem?_eq_getElem hl, ?_⟩
      rw [gIxI_ref p.ents, atI_of (j := (k - 1).toNat) (x := (b.ents[(k - 1).toNat]).w) (by omega) (by rw [List.getElem?_map, List.getElem?_eq_getElem hl]; rfl)]
    have hem : e ∈ b.ents := List.mem_of_getElem? he
    have ge' : gEq false (.ref 5) (.d (.lst [])) S = .ok (Bo false) S := by
      rw [ge]
      cases q : b.ents with
      | nil => exact absurd q hne
      | cons x l => rw [List.map_cons, eqD_lst, eqDs_cn]
    have ei4 : gIxI e.w 4 S = .ok (I e.back) S := by simp [En.w, En.d, gIxI_tup]
    have ei3 : gIxI e.w 3 S = .ok (.d (.tup (e.ls.map Ln.d))) S := by simp [En.w, En.d, gIxI_tup]
    by_cases hno : k ∈ b.backs ∨ e.back ≠ 0
    · have e2 : st_law_contrary_2 [some (.ref 10), some (.ref 2), some (I big), some (I pick), some (I k), none, none, none, none, none] S = .rt (Bo true) S := by
        unfold st_law_contrary_2
        by_cases hb : k ∈ b.backs
        · simp [xE, xB, ge', gi, hb]
        · have hb2 := hno.resolve_left hb
          simp [xE, xB, ge', gi, hb, hgi, ei4, hb2]
      rw [e2]
      exact step_none p a v h
    · have hb : k ∉ b.backs := fun w => hno (.inl w)
      have hb2 : e.back = 0 := by
        by_cases w : e.back = 0
        · exact w
        · exact absurd (.inr w) hno
      have g2 : st_law_contrary_2 [some (.ref 10), some (.ref 2), some (I big), some (I pick), some (I k), none, none, none, none, none] S = .nx [some (.ref 10), some (.ref 2), some (I big), some (I pick), some (I k), none, none, none, none, none] S := by
        unfold st_law_contrary_2
        simp [xE, xB, ge', gi, hb, hgi, ei4, hb2]
      have g3 : st_law_contrary_3 [some (.ref 10), some (.ref 2), some (I big), some (I pick), some (I k), none, none, none, none, none] S = .nx [some (.ref 10), some (.ref 2), some (I big), some (I pick), some (I k), some e.w, none, none, none, none] S := by
        unfold st_law_contrary_3
        simp [xE, hgi]
      have g4 : st_law_contrary_4 [some (.ref 10), some (.ref 2), some (I big), some (I pick), some (I k), some e.w, none, none, none, none] S = .nx [some (.ref 10), some (.ref 2), some (I big), some (I pick), some (I k), some e.w, some (I day), none, none, none] S := by
        unfold st_law_contrary_4
        generalize e.w = w at *
        simp [pd]
      have hel := v.elen e hem
      have g5 : st_law_contrary_5 [some (.ref 10), some (.ref 2), some (I big), some (I pick), some (I k), some e.w, some (I day), none, none, none] S = .nx [some (.ref 10), some (.ref 2), some (I big), some (I pick), some (I k), some e.w, some (I day), some (.d (.lst ((e.ls.map Ln.neg).map Ln.d))), none, none] S := by
        have l := lc_map (S := S) (ρ := [some (.ref 10), some (.ref 2), some (I big), some (I pick), some (I k), some e.w, some (I day), none, none, none]) (fun S => seqW S (.d (.tup (e.ls.map Ln.d))) = some (false, (e.ls.map Ln.d).map .d)) 9 (evN gTup (evCons (evBin gIx (evVar 9) (evC (.int 0))) (evCons (evBin gIx (evVar 9) (evC (.int 1))) (evCons (evBin gSub (evC (.int 0)) (evBin gIx (evVar 9) (evC (.int 2)))) evNil)))) Ln.w (fun l => .d l.neg.d) rfl (fun _ => rfl) e.ls (by
          intro l _
          simp [Ln.w, Ln.d, Ln.neg, gIxI_tup])
        have ei : evBin gIx (evVar 5) (evC (.int 3)) [some (.ref 10), some (.ref 2), some (I big), some (I pick), some (I k), some e.w, some (I day), none, none, none] S = .ok (.d (.tup (e.ls.map Ln.d))) S := by
          simp [ei3]
        have ev : evLc gFrz (evItems (evBin gIx (evVar 5) (evC (.int 3)))) 9 [9] evYes (evN gTup (evCons (evBin gIx (evVar 9) (evC (.int 0))) (evCons (evBin gIx (evVar 9) (evC (.int 1))) (evCons (evBin gSub (evC (.int 0)) (evBin gIx (evVar 9) (evC (.int 2)))) evNil)))) [some (.ref 10), some (.ref 2), some (I big), some (I pick), some (I k), some e.w, some (I day), none, none, none] S = .ok (.d (.lst (e.ls.map fun l => l.neg.d))) S := by
          rw [evLc_s]
          rw [evItems_s, ei]
          simp only [bind_ok, itW_tup, ← map_lnw, List.length_map, wipeE_cons, wipeE_nil, List.set_cons_succ, List.set_cons_zero]
          rw [← map_lnw] at l
          rw [if_pos (by omega), l, bind_ok, gFrz_map]
        have e2 : (e.ls.map fun l => l.neg.d) = (e.ls.map Ln.neg).map Ln.d := by rw [List.map_map]; rfl
        rw [e2] at ev
        unfold st_law_contrary_5
        generalize (e.ls.map Ln.neg).map Ln.d = L at *
        simp [ev]
      have pp := p_lput p (by omega) day e.note (e.ls.map Ln.neg) k
      obtain ⟨en, hen⟩ : ∃ en : En, En.mk (b.ents.length + 1) day e.note (e.ls.map Ln.neg) k = en := ⟨_, rfl⟩
      rw [hen] at pp
      have p1 := p.putE (b.ents ++ [en])
      have a1 := a.low (i := 5) (o := .lst ((b.ents ++ [en]).map En.w)) (by decide)
      have f1 : Fs S (S.set 5 (.lst ((b.ents ++ [en]).map En.w))) := Fs.set (by decide)
      generalize S.set 5 (.lst ((b.ents ++ [en]).map En.w)) = S1 at *
      have ap := ap_w (u := I k) p1.backs rfl (by simp; omega)
      have e' : b.backs.map I ++ [I k] = (b.backs ++ [k]).map I := by simp
      simp only at ap
      rw [e'] at ap
      have lo1 := lstOf_ref p1.backs
      have xB1 := p1.xB
      have p2 := p1.putB (b.backs ++ [k])
      have a2 := a1.low (i := 8) (o := .lst ((b.backs ++ [k]).map I)) (by decide)
      have f2 : Fs S1 (S1.set 8 (.lst ((b.backs ++ [k]).map I))) := Fs.set (by decide)
      generalize S1.set 8 (.lst ((b.backs ++ [k]).map I)) = S2 at *
      have ad := ap_deed p2 hd (Dd.back k day)
      have p3 := p2.putD (dd ++ [Dd.back k day])
      have a3 := a2.low (i := 9) (o := .lst ((dd ++ [Dd.back k day]).map Dd.w)) (by decide)
      have f3 : Fs S2 (S2.set 9 (.lst ((dd ++ [Dd.back k day]).map Dd.w))) := Fs.set (by decide)
      have lo2 := lstOf_ref p2.deeds
      have xd := p2.xD
      generalize S2.set 9 (.lst ((dd ++ [Dd.back k day]).map Dd.w)) = S3 at *
      have B := v.bnd
      have po := p_contrary a3 B.e1 B.e2 B.e3 B.e4 k day
      have pe : backE b k day = none := by
        unfold backE
        rw [if_neg (by omega), he]
        simp only
        rw [if_neg (by simp [hb, hb2]), if_neg (by rw [hday]; exact Bool.true_eq_false.mp), if_neg (by omega)]
      rw [pe] at po
      obtain ⟨e1, S4, q1, e4, a4, f4⟩ := po
      rw [he] at q1
      cases q1
      rw [hen] at a4
      have hen2 : en.day = day ∧ en.note = e.note ∧ en.ls = e.ls.map Ln.neg := by rw [← hen]; exact ⟨rfl, rfl, rfl⟩
      obtain ⟨d1, d2, d3⟩ := hen2
      have w := v.ent h (Dd.back k day) en (by rw [d1]; exact hday) (by rw [d3]; simpa using hel) (by rw [d2]; exact v.enote e hem) (fun l hl => by
        rw [d3] at hl
        obtain ⟨l0, hl0, rfl⟩ := List.mem_map.mp hl
        obtain ⟨w1, w2, w3⟩ := v.els e hem l0 hl0
        exact ⟨w1, w2, amt_neg w3⟩) (by rw [d3]; exact bal_neg (v.ebal e hem)) (by rw [← hen])
      refine ⟨S4, _, dd ++ [Dd.back k day], ?_, (p3.off fun m hm => f4.2 m (.inl hm)).deeds' (b.deeds ++ [Dd.back k day]), a4, ⟨w.home, w.c1, w.c2, w.c3, w.c4, w.n1, w.n2, w.n3, w.n4, w.n5, w.eday, w.elen, w.enote, w.els, w.ebal, fun x hx => ?_, w.rows, w.cl, w.zl, w.s1, w.s2, w.s3, w.s4, by simp; omega, w.st, w.num, w.eo⟩, f1.trans (f2.trans (f3.trans (.fr f4))), by simp, ⟨[Dd.back k day], rfl, rfl⟩, .of_ent (en := en) rfl rfl rfl rfl (by rw [d1]; omega)⟩
      · have ei2 : gIxI e.w 2 S = .ok (T e.note) S := by simp [En.w, En.d, gIxI_tup]
        generalize (e.ls.map Ln.neg).map Ln.d = L at *
        generalize hW : e.w = W at *
        have g6 : st_law_contrary_6 [some (.ref 10), some (.ref 2), some (I big), some (I pick), some (I k), some W, some (I day), some (.d (.lst L)), none, none] S = .nx [some (.ref 10), some (.ref 2), some (I big), some (I pick), some (I k), some W, some (I day), some (.d (.lst L)), some (I (b.ents.length + 1)), none] S1 := by
          unfold st_law_contrary_6
          simp [ei2, pp]
        have g7 : st_law_contrary_7 [some (.ref 10), some (.ref 2), some (I big), some (I pick), some (I k), some W, some (I day), some (.d (.lst L)), some (I (b.ents.length + 1)), none] S1 = .nx [some (.ref 10), some (.ref 2), some (I big), some (I pick), some (I k), some W, some (I day), some (.d (.lst L)), some (I (b.ents.length + 1)), none] S2 := by
          unfold st_law_contrary_7
          simp [xB1, lo1, ap]
        have g8 : st_law_contrary_8 [some (.ref 10), some (.ref 2), some (I big), some (I pick), some (I k), some W, some (I day), some (.d (.lst L)), some (I (b.ents.length + 1)), none] S2 = .nx [some (.ref 10), some (.ref 2), some (I big), some (I pick), some (I k), some W, some (I day), some (.d (.lst L)), some (I (b.ents.length + 1)), none] S3 := by
          simp only [Dd.w, Dd.d] at ad
          unfold st_law_contrary_8
          simp [xd, lo2, ad]
        have g9 : st_law_contrary_9 [some (.ref 10), some (.ref 2), some (I big), some (I pick), some (I k), some W, some (I day), some (.d (.lst L)), some (I (b.ents.length + 1)), none] S3 = .rt (Bo true) S4 := by
          have i3 := a3.i0
          unfold st_law_contrary_9
          simp [i3, e4]
        rw [g2, seq_nx, sSeq_s, g3, seq_nx, sSeq_s, g4, seq_nx, sSeq_s, g5, seq_nx, sSeq_s, g6, seq_nx, sSeq_s, g7, seq_nx, sSeq_s, g8, seq_nx, g9]
        rfl
      · rcases List.mem_append.mp hx with hx | hx
        · have := v.bk x hx
          simp
          omega
        · rw [List.mem_singleton.mp hx]
          simp
          omega
theorem StepOk.ok {r : Res Wv} (h : StepOk r S b cu dd fi mo z) : ∃ S', r = .ok (Bo true) S' := by
  obtain ⟨S', _, _, e, _⟩ := h
  exact ⟨S', e⟩
theorem p_step (p : Pl S b cu dd fi mo) (a : At S 10 b) (v : Iv b cu z) (h : z + 1 ≤ 1000) (hd : dd.length ≤ 1000) (way big pick : Int) : StepOk (sem_law_step [.ref 10, .ref 2, I way, I big, I pick] S) S b cu dd fi mo z := by
  have pc := p_lclosed p (by have := v.s4; have := v.zl; omega)
  have gl := gLen_ref p.ents
  rw [List.length_map] at gl
  have xE := p.xE
  have xM := p.xM
  have w8 : Sm 8 := by decide
  by_cases h1 : 99999 ≤ closedV b.ends
  · have e : sem_law_step [.ref 10, .ref 2, I way, I big, I pick] S = .ok (Bo true) S := by
      unfold sem_law_step
      simp [fnS_s, pc, h1]
    rw [e]
    exact step_none p a v h
  · by_cases h2 : mo < (b.ents.length : Int)
    · have e : sem_law_step [.ref 10, .ref 2, I way, I big, I pick] S = .ok (Bo true) S := by
        unfold sem_law_step
        simp [fnS_s, pc, h1, xE, gl, xM, h2]
      rw [e]
      exact step_none p a v h
    · have hc : closedV b.ends < 99999 := by omega
      by_cases h3 : way % 8 < 3
      · have s := step_post p a v h hd hc big pick
        obtain ⟨S', e⟩ := s.ok
        have e2 : sem_law_step [.ref 10, .ref 2, I way, I big, I pick] S = sem_law_post [.ref 10, .ref 2, I big, I pick] S := by
          rw [e]
          unfold sem_law_step
          simp [fnS_s, pc, h1, xE, gl, xM, h2, h3, e]
        rw [e2]
        exact s
      · by_cases h4 : way % 8 = 3
        · by_cases h5 : way / 8 % 3 = 0
          · have s := step_admit p a v h hd big
            obtain ⟨S', e⟩ := s.ok
            have e2 : sem_law_step [.ref 10, .ref 2, I way, I big, I pick] S = sem_law_admit [.ref 10, .ref 2, I big] S := by
              rw [e]
              unfold sem_law_step
              simp [fnS_s, pc, h1, xE, gl, xM, h2, h3, h4, h5, w8, e]
            rw [e2]
            exact s
          · have s := step_tell p a v h hd hc big pick
            obtain ⟨S', e⟩ := s.ok
            have e2 : sem_law_step [.ref 10, .ref 2, I way, I big, I pick] S = sem_law_tell [.ref 10, .ref 2, I big, I pick] S := by
              rw [e]
              unfold sem_law_step
              simp [fnS_s, pc, h1, xE, gl, xM, h2, h3, h4, h5, w8, e]
            rw [e2]
            exact s
        · by_cases h5 : way % 8 < 6
          · have s := step_convert p a v h hd hc big pick
            obtain ⟨S', e⟩ := s.ok
            have e2 : sem_law_step [.ref 10, .ref 2, I way, I big, I pick] S = sem_law_convert [.ref 10, .ref 2, I big, I pick] S := by
              rw [e]
              unfold sem_law_step
              simp [fnS_s, pc, h1, xE, gl, xM, h2, h3, h4, h5, w8, e]
            rw [e2]
            exact s
          · by_cases h6 : way % 8 = 6
            · have s := step_contrary p a v h hd hc big pick
              obtain ⟨S', e⟩ := s.ok
              have e2 : sem_law_step [.ref 10, .ref 2, I way, I big, I pick] S = sem_law_contrary [.ref 10, .ref 2, I big, I pick] S := by
                rw [e]
                unfold sem_law_step
                simp [fnS_s, pc, h1, xE, gl, xM, h2, h3, h4, h5, h6, w8, e]
              rw [e2]
              exact s
            · have s := step_shut p a v h hd hc big
              obtain ⟨S', e⟩ := s.ok
              have e2 : sem_law_step [.ref 10, .ref 2, I way, I big, I pick] S = sem_law_shut [.ref 10, .ref 2, I big] S := by
                rw [e]
                unfold sem_law_step
                simp [fnS_s, pc, h1, xE, gl, xM, h2, h3, h4, h5, h6, w8, e]
              rw [e2]
              exact s
theorem scr_at {ns : List Int} {k : Int} (h0 : 0 ≤ k) (h1 : k < ns.length) : gIxI (.scr ns) k S = .ok (I (cell ns k)) S := by
  have e : atI ns k = some (cell ns k) := by
    refine atI_of (j := k.toNat) (by omega) ?_
    unfold cell
    rw [List.getD_eq_getElem?_getD, List.getElem?_eq_getElem (by omega)]
    rfl
  simp [gIxI_scr, e]
theorem p_deeds (p : Pl S b cu dd fi mo) (a : At S 10 b) (v : Iv b cu z) (h : z + 100 ≤ 1000) (hd : dd.length ≤ 500) (ns : List Int) (hn : ns.length ≤ 63) (first last : Int) (h0 : 0 ≤ first) (hf : first ≤ 1000) (hl : 0 ≤ last) (hl2 : last ≤ 1000) :
    ∃ S' b' dd', sem_law_deeds [.ref 10, .ref 2, .scr ns, I first, I last] S = .ok (Bo true) S' ∧ Pl S' b' cu dd' fi mo ∧ At S' 10 b' ∧ Iv b' cu (z + 63) ∧ Fs S S' ∧ dd'.length ≤ dd.length + 63 ∧ (∃ t, b'.deeds = b.deeds ++ t ∧ dd' = dd ++ t) ∧ Grow b b' := by
  obtain ⟨j, hj⟩ : ∃ j, (if last < (ns.length : Int) - 2 then last else (ns.length : Int) - 2) = j := ⟨_, rfl⟩
  have hj1 : j ≤ (ns.length : Int) - 2 := by split at hj <;> omega
  have hj2 : -2 ≤ j := by split at hj <;> omega
  have hrn := rangeN_le (i := first) (j := j) (c := 3) (by decide)
  have hrl : rangeN first j 3 ≤ 63 := by omega
  obtain ⟨ρ', S', e, x5, b', dd', p', a', v', f', q1, q2, q3, rfl⟩ := for_pre (fun _ => True) 5 lb_law_deeds_1 (fun k : Nat => I (first + (k : Int) * 3))
    (fun pre ρ S' => ∃ x5 b' dd', Pl S' b' cu dd' fi mo ∧ At S' 10 b' ∧ Iv b' cu (z + pre.length) ∧ Fs S S' ∧ dd'.length ≤ dd.length + pre.length ∧ (∃ t, b'.deeds = b.deeds ++ t ∧ dd' = dd ++ t) ∧ Grow b b' ∧ ρ = [some (.ref 10), some (.ref 2), some (.scr ns), some (I first), some (I last), x5]) (fun _ _ _ _ => trivial) (List.range (rangeN first j 3)) (List.range (rangeN first j 3)) []
    [some (.ref 10), some (.ref 2), some (.scr ns), some (I first), some (I last), none] S rfl (by
      rintro pre k post ρ S' ea ⟨x5, b', dd', p', a', v', f', q1, ⟨t, q2, q2'⟩, q3, rfl⟩
      have hk : k < rangeN first j 3 := by
        have h1 : k ∈ List.range (rangeN first j 3) := by rw [ea]; simp
        exact List.mem_range.mp h1
      have hpl : pre.length < 63 := by
        have h2 := congrArg List.length ea
        simp at h2
        omega
      have hlt := rangeN_lt (i := first) (j := j) (c := 3) (by decide) hk
      obtain ⟨S2, b2, d2, e2, p2, a2, v2, f2, r1, ⟨t2, r2, r2'⟩, r3⟩ := p_step p' a' v' (by omega) (by omega) (cell ns (first + (k : Int) * 3)) (cell ns (first + (k : Int) * 3 + 1)) (cell ns (first + (k : Int) * 3 + 2))
      have g0 := scr_at (S := S') (ns := ns) (k := first + (k : Int) * 3) (by omega) (by omega)
      have g1 := scr_at (S := S') (ns := ns) (k := first + (k : Int) * 3 + 1) (by omega) (by omega)
      have g2 := scr_at (S := S') (ns := ns) (k := first + (k : Int) * 3 + 2) (by omega) (by omega)
      refine ⟨_, S2, .inl ?_, some (I (first + (k : Int) * 3)), b2, d2, p2, a2, by simpa [Nat.add_assoc] using v2, f'.trans f2, by simp; omega, ⟨t ++ t2, by rw [r2, q2, List.append_assoc], by rw [r2', q2', List.append_assoc]⟩, q3.trans r3, rfl⟩
      simp [lb_law_deeds_1, g0, g1, g2, e2]) ⟨none, b, dd, p, a, by simpa using v, .refl S, by simp, ⟨[], by simp, by simp⟩, .refl b, rfl⟩
  refine ⟨S', b', dd', ?_, p', a', ?_, f', ?_, q2, q3⟩
  · have r3 := range3 (S := S) (i := first) (j := j) (c := 3) (by decide) (by omega) (by omega)
    unfold sem_law_deeds
    rw [fnS_s, if_pos (by rfl)]
    show (sSeq _ _ [some (.ref 10), some (.ref 2), some (.scr ns), some (I first), some (I last), none] S).out = _
    have hmin : gMin2 [I ((ns.length : Int) - 2), I last] S = .ok (I j) S := by
      rw [gMin2_int, hj]
    have eI : evRange gRange3 (evCons (evVar 3) (evCons (evN gMin2 (evCons (evBin gSub (evN gLen (evCons (evVar 2) evNil)) (evC (.int 2))) (evCons (evVar 4) evNil))) (evCons (evC (.int 3)) evNil))) [some (.ref 10), some (.ref 2), some (.scr ns), some (I first), some (I last), none] S = .ok (.d .non, rangeW first (rangeN first j 3) 3, fun _ => True) S := by
      simp only [evRange_s, evCons_s, evNil_s, evVar_s, evN_s, evBin_s, evC_s, List.getElem?_cons_succ, List.getElem?_cons_zero, bind_ok, gLen_scr, gSub_int, hmin, r3]
    rw [sSeq_s, sFor_s, eI, toS_ok]
    simp only [rangeW_map]
    rw [e]
    simp
  · have hl3 : (List.range (rangeN first j 3)).length ≤ 63 := by simpa using hrl
    have w := v'
    exact ⟨w.home, w.c1, w.c2, w.c3, w.c4, w.n1, w.n2, w.n3, w.n4, w.n5, w.eday, w.elen, w.enote, w.els, w.ebal, w.bk, w.rows, w.cl, by omega, by have := w.s1; omega, by have := w.s2; omega, by have := w.s3; omega, by have := w.s4; omega, by have := w.s5; omega, w.st, w.num, w.eo⟩
  · have hl3 : (List.range (rangeN first j 3)).length ≤ 63 := by simpa using hrl
    omega
end
end DL

/-! how a law with deeds begins -/
namespace DL
open PySem PySem.Spec PyProof.Rows L2
theorem dput_new {S : Store} {n : Nat} {kvs : List (Key × Wv)} {x : Str} {v : Wv} (h : S[n]? = some (.dK kvs)) (hk : ((kvs.map (·.1)).any fun y => decide (y = (.inr x : Key))) = false) (hv : v.calm = true) (hl : kvs.length ≤ 100) : dPut S n (.d (.str x)) v = some (S.set n (.dK (kvs ++ [(.inr x, v)]))) := by
  rw [dPut_K h (asKey_str x) hv (by omega), putKW_new hk]
theorem putR {S S' : Store} {n : Nat} {k v : Wv} {ρ : Env} (h : dPut S n k v = some S') : (match dPut S n k v with
    | some S4 => SR.nx ρ S4
    | none => .no) = .nx ρ S' := by rw [h]
theorem p_plain (ns : List Int) : ∃ n0 nm cu u0 : List Str, sem_law_plain [.scr ns] [] = .ok (.ref 2) [.lst (n0.map T), .lst (nm.map T), .dK (plK nm.length 6), .lst (cu.map T), .lst (u0.map T), .lst [], .lst [], .lst [], .lst [], .lst []] ∧
    (∀ x ∈ nm, isName x = true) ∧ nm.Nodup ∧ 3 ≤ nm.length ∧ nm.length ≤ 5 ∧ (∃ t, nm = ("exchange" : Str) :: t) ∧ (∀ x ∈ cu, isCur x = true) ∧ cu.Nodup ∧ 3 ≤ cu.length ∧ cu.length ≤ 8 ∧ ("stranger" : Str) ∉ nm := by
  have hst := stranger_not (cell ns 0) (cell ns 1)
  obtain ⟨n1, n2, n3, n4, t, n5⟩ := names_ok (cell ns 0) (cell ns 1)
  obtain ⟨c1, c2, c3, u, c4⟩ := curs_ok (cell ns 2) (cell ns 3)
  have pn := p_law_names (S := []) (cell ns 0) (cell ns 1)
  have hcl : 3 ≤ (cursV (cell ns 2) (cell ns 3)).length ∧ (cursV (cell ns 2) (cell ns 3)).length ≤ 8 := by
    rw [c3]; unfold limV; split <;> omega
  have pc := fun S => p_law_currencies (S := S) (cell ns 2) (cell ns 3)
  refine ⟨names0 (cell ns 0) (cell ns 1), namesV (cell ns 0) (cell ns 1), cursV (cell ns 2) (cell ns 3), curs0 (cell ns 2) (cell ns 3), ?_, n1, n2, n3, n4, ⟨t, n5⟩, c1, c2, hcl.1, hcl.2, hst⟩
  generalize names0 (cell ns 0) (cell ns 1) = n0 at *
  generalize curs0 (cell ns 2) (cell ns 3) = u0 at *
  generalize namesV (cell ns 0) (cell ns 1) = nm at *
  generalize cursV (cell ns 2) (cell ns 3) = cu at *
  simp only [List.length_nil, Nat.zero_add, List.nil_append] at pn
  have hN : (nm.map T).length = nm.length := List.length_map ..
  generalize nm.map T = N at *
  generalize n0.map T = N0 at *
  generalize cu.map T = C at *
  generalize u0.map T = U at *
  let k0 : List (Key × Wv) := [(.inr "names", .ref 1)]
  let k1 : List (Key × Wv) := k0 ++ [(.inr "first", I nm.length)]
  let k2 : List (Key × Wv) := k1 ++ [(.inr "currencies", .ref 3)]
  let k3 : List (Key × Wv) := k2 ++ [(.inr "entries", .ref 5)]
  let k4 : List (Key × Wv) := k3 ++ [(.inr "told", .ref 6)]
  let k5 : List (Key × Wv) := k4 ++ [(.inr "ends", .ref 7)]
  let k6 : List (Key × Wv) := k5 ++ [(.inr "backs", .ref 8)]
  let k7 : List (Key × Wv) := k6 ++ [(.inr "deeds", .ref 9)]
  have q1 : sSet 1 (evDisp1 "names" (evN (gCall 1 sem_law_names) (evCons (evN gLst (evCons (evN (gCall 2 sem_law_cell) (evCons (evVar 0) (evCons (evC (.int 0)) evNil))) (evCons (evN (gCall 2 sem_law_cell) (evCons (evVar 0) (evCons (evC (.int 1)) evNil))) evNil))) evNil))) [some (.scr ns), none, none] [] = .nx [some (.scr ns), some (.ref 2), none] [.lst N0, .lst N, .dK k0] := by
    have : (evN (gCall 1 sem_law_names) (evCons (evN gLst (evCons (evN (gCall 2 sem_law_cell) (evCons (evVar 0) (evCons (evC (.int 0)) evNil))) (evCons (evN (gCall 2 sem_law_cell) (evCons (evVar 0) (evCons (evC (.int 1)) evNil))) evNil))) evNil)) [some (.scr ns), none, none] [] = .ok (.ref 1) [.lst N0, .lst N] := by
      simp [p_cell, pn]
    rw [sSet_s]
    unfold evDisp1
    rw [this]
    rfl
  have x1 : gIx (.ref 2) (.d (.str "names")) [.lst N0, .lst N, .dK k0] = .ok (.ref 1) [.lst N0, .lst N, .dK k0] := gIxD_K (kvs := k0) rfl (by rw [atK_idx (i := 0) (by show ([.inr "names"] : List Key).findIdx? _ = _; decide +kernel)]; rfl)
  have d1 : dPut [.lst N0, .lst N, .dK k0] 2 (.d (.str "first")) (I nm.length) = some [.lst N0, .lst N, .dK k1] := dput_new (kvs := k0) rfl (by show (([.inr "names"] : List Key).any _) = false; decide +kernel) rfl (by decide)
  have gN : gLen [.ref 1] [.lst N0, .lst N, .dK k0] = .ok (I nm.length) [.lst N0, .lst N, .dK k0] := by rw [gLen_ref (ws := N) rfl, hN]
  have q2 : sDPutS (evVar 1) (evC (.str "first")) (evN gLen (evCons (evBin gIx (evVar 1) (evC (.str "names"))) evNil)) [some (.scr ns), some (.ref 2), none] [.lst N0, .lst N, .dK k0] = .nx [some (.scr ns), some (.ref 2), none] [.lst N0, .lst N, .dK k1] := by
    simp only [sDPutS_s, evN_s, evCons_s, evNil_s, evBin_s, evVar_s, evC_s, List.getElem?_cons_succ, List.getElem?_cons_zero, bind_ok, x1, gN, toS_ok]
    exact putR d1
  have d2 : dPut [.lst N0, .lst N, .dK k1, .lst C, .lst U] 2 (.d (.str "currencies")) (.ref 3) = some [.lst N0, .lst N, .dK k2, .lst C, .lst U] := dput_new (kvs := k1) rfl (by show (([.inr "names", .inr "first"] : List Key).any _) = false; decide +kernel) rfl (by show 2 ≤ 100; decide)
  have pc1 := pc [.lst N0, .lst N, .dK k1]
  simp only [List.length_cons, List.length_nil, Nat.zero_add, Nat.reduceAdd, List.cons_append, List.nil_append] at pc1
  have q3 : sDPutS (evVar 1) (evC (.str "currencies")) (evN (gCall 1 sem_law_currencies) (evCons (evN gLst (evCons (evN (gCall 2 sem_law_cell) (evCons (evVar 0) (evCons (evC (.int 2)) evNil))) (evCons (evN (gCall 2 sem_law_cell) (evCons (evVar 0) (evCons (evC (.int 3)) evNil))) evNil))) evNil)) [some (.scr ns), some (.ref 2), none] [.lst N0, .lst N, .dK k1] = .nx [some (.scr ns), some (.ref 2), none] [.lst N0, .lst N, .dK k2, .lst C, .lst U] := by
    have : (evN (gCall 1 sem_law_currencies) (evCons (evN gLst (evCons (evN (gCall 2 sem_law_cell) (evCons (evVar 0) (evCons (evC (.int 2)) evNil))) (evCons (evN (gCall 2 sem_law_cell) (evCons (evVar 0) (evCons (evC (.int 3)) evNil))) evNil))) evNil)) [some (.scr ns), some (.ref 2), none] [.lst N0, .lst N, .dK k1] = .ok (.ref 3) [.lst N0, .lst N, .dK k1, .lst C, .lst U] := by
      simp [p_cell, pc1]
    rw [sDPutS_s, this]
    simp only [evVar_s, evC_s, List.getElem?_cons_succ, List.getElem?_cons_zero, toS_ok]
    exact putR d2
  have one : ∀ (S S' : Store) (x : Str) (ρ2 : Option Wv), dPut (S ++ [.lst []]) 2 (.d (.str x)) (.ref S.length) = some S' → lb_law_plain_1 [some (.scr ns), some (.ref 2), some (T x)] S = .nx [some (.scr ns), some (.ref 2), some (T x)] S' := fun S S' x ρ2 hd => by
    show sDPutS (evVar 1) (evVar 2) (evN gLstS evNil) [some (.scr ns), some (.ref 2), some (T x)] S = _
    rw [sDPutS_s]
    simp only [evN_s, evNil_s, bind_ok, gLstS_s, List.length_nil, List.all_nil, Nat.zero_le, and_self, if_true, toS_ok, evVar_s, List.getElem?_cons_succ, List.getElem?_cons_zero]
    exact putR hd
  have l1 := one [.lst N0, .lst N, .dK k2, .lst C, .lst U] [.lst N0, .lst N, .dK k3, .lst C, .lst U, .lst []] "entries" none (dput_new (kvs := k2) rfl (by show (([.inr "names", .inr "first", .inr "currencies"] : List Key).any _) = false; decide +kernel) rfl (by show 3 ≤ 100; decide))
  have l2 := one [.lst N0, .lst N, .dK k3, .lst C, .lst U, .lst []] [.lst N0, .lst N, .dK k4, .lst C, .lst U, .lst [], .lst []] "told" none (dput_new (kvs := k3) rfl (by show (([.inr "names", .inr "first", .inr "currencies", .inr "entries"] : List Key).any _) = false; decide +kernel) rfl (by show 4 ≤ 100; decide))
  have l3 := one [.lst N0, .lst N, .dK k4, .lst C, .lst U, .lst [], .lst []] [.lst N0, .lst N, .dK k5, .lst C, .lst U, .lst [], .lst [], .lst []] "ends" none (dput_new (kvs := k4) rfl (by show (([.inr "names", .inr "first", .inr "currencies", .inr "entries", .inr "told"] : List Key).any _) = false; decide +kernel) rfl (by show 5 ≤ 100; decide))
  have l4 := one [.lst N0, .lst N, .dK k5, .lst C, .lst U, .lst [], .lst [], .lst []] [.lst N0, .lst N, .dK k6, .lst C, .lst U, .lst [], .lst [], .lst [], .lst []] "backs" none (dput_new (kvs := k5) rfl (by show (([.inr "names", .inr "first", .inr "currencies", .inr "entries", .inr "told", .inr "ends"] : List Key).any _) = false; decide +kernel) rfl (by show 6 ≤ 100; decide))
  have l5 := one [.lst N0, .lst N, .dK k6, .lst C, .lst U, .lst [], .lst [], .lst [], .lst []] [.lst N0, .lst N, .dK k7, .lst C, .lst U, .lst [], .lst [], .lst [], .lst [], .lst []] "deeds" none (dput_new (kvs := k6) rfl (by show (([.inr "names", .inr "first", .inr "currencies", .inr "entries", .inr "told", .inr "ends", .inr "backs"] : List Key).any _) = false; decide +kernel) rfl (by show 7 ≤ 100; decide))
  have d9 : dPut [.lst N0, .lst N, .dK k7, .lst C, .lst U, .lst [], .lst [], .lst [], .lst [], .lst []] 2 (.d (.str "most")) (I 6) = some [.lst N0, .lst N, .dK (plK nm.length 6), .lst C, .lst U, .lst [], .lst [], .lst [], .lst [], .lst []] := dput_new (kvs := k7) rfl (by show (([.inr "names", .inr "first", .inr "currencies", .inr "entries", .inr "told", .inr "ends", .inr "backs", .inr "deeds"] : List Key).any _) = false; decide +kernel) rfl (by show 8 ≤ 100; decide)
  have q4 : sFor 2 (evItems (evN gLst (evCons (evC (.str "entries")) (evCons (evC (.str "told")) (evCons (evC (.str "ends")) (evCons (evC (.str "backs")) (evCons (evC (.str "deeds")) evNil))))))) lb_law_plain_1 [some (.scr ns), some (.ref 2), none] [.lst N0, .lst N, .dK k2, .lst C, .lst U] = .nx [some (.scr ns), some (.ref 2), some (T "deeds")] [.lst N0, .lst N, .dK k7, .lst C, .lst U, .lst [], .lst [], .lst [], .lst [], .lst []] := by
    have it : evItems (evN gLst (evCons (evC (.str "entries")) (evCons (evC (.str "told")) (evCons (evC (.str "ends")) (evCons (evC (.str "backs")) (evCons (evC (.str "deeds")) evNil)))))) [some (.scr ns), some (.ref 2), none] [.lst N0, .lst N, .dK k2, .lst C, .lst U] = .ok (.d (.lst [.str "entries", .str "told", .str "ends", .str "backs", .str "deeds"]), [T "entries", T "told", T "ends", T "backs", T "deeds"], fun S => seqW S (.d (.lst [.str "entries", .str "told", .str "ends", .str "backs", .str "deeds"])) = some (true, [T "entries", T "told", T "ends", T "backs", T "deeds"])) [.lst N0, .lst N, .dK k2, .lst C, .lst U] := by
      simp
    have hsq : ∀ S, seqW S (.d (.lst [.str "entries", .str "told", .str "ends", .str "backs", .str "deeds"])) = some (true, [T "entries", T "told", T "ends", T "backs", T "deeds"]) := fun _ => rfl
    rw [sFor_s, it, toS_ok]
    simp only
    rw [sForL, if_pos (hsq _)]
    simp only [List.set_cons_succ, List.set_cons_zero]
    rw [l1]
    simp only
    rw [sForL, if_pos (hsq _)]
    simp only [List.set_cons_succ, List.set_cons_zero]
    rw [l2]
    simp only
    rw [sForL, if_pos (hsq _)]
    simp only [List.set_cons_succ, List.set_cons_zero]
    rw [l3]
    simp only
    rw [sForL, if_pos (hsq _)]
    simp only [List.set_cons_succ, List.set_cons_zero]
    rw [l4]
    simp only
    rw [sForL, if_pos (hsq _)]
    simp only [List.set_cons_succ, List.set_cons_zero]
    rw [l5]
    simp only
    rw [sForL, if_pos (hsq _)]
  have q5 : sDPutS (evVar 1) (evC (.str "most")) (evC (.int 6)) [some (.scr ns), some (.ref 2), some (T "deeds")] [.lst N0, .lst N, .dK k7, .lst C, .lst U, .lst [], .lst [], .lst [], .lst [], .lst []] = .nx [some (.scr ns), some (.ref 2), some (T "deeds")] [.lst N0, .lst N, .dK (plK nm.length 6), .lst C, .lst U, .lst [], .lst [], .lst [], .lst [], .lst []] := by
    simp only [sDPutS_s, evVar_s, evC_s, List.getElem?_cons_succ, List.getElem?_cons_zero, toS_ok]
    exact putR d9
  unfold sem_law_plain
  rw [fnS_s, if_pos (by rfl)]
  show (sSeq _ _ [some (.scr ns), none, none] []).out = _
  rw [sSeq_s, q1, seq_nx, sSeq_s, q2, seq_nx, sSeq_s, q3, seq_nx, sSeq_s, q4, seq_nx, sSeq_s, q5, seq_nx]
  rfl
theorem bk_admits (x0 : Option Wv) (h : Str) : ∀ (xs nm0 : List Str) (ds : List Dd) (S : Store) (x2 : Option Wv), At S 10 { bk0 h with names := nm0, deeds := ds } → (nm0 ++ xs).Nodup → (∀ x ∈ xs, isName x = true) → nm0.length + xs.length ≤ 1000 → ds.length + xs.length ≤ 1000 →
    ∃ S' x2', sForL (fun _ => True) 2 lb_law_book_1 (xs.map T) [x0, some (.ref 10), x2] S = .nx [x0, some (.ref 10), x2'] S' ∧ At S' 10 { bk0 h with names := nm0 ++ xs, deeds := ds ++ xs.map Dd.acc } ∧ Fr S 10 S'
  | [], nm0, ds, S, x4, a, _, _, _, _ => ⟨S, x4, by rw [List.map_nil, sForL, if_pos trivial], by simpa using a, Fr.refl _ _⟩
  | x :: xs, nm0, ds, S, x4, a, hn, hx, hl1, hl2 => by
    obtain ⟨_, _, n3⟩ := name_nm (hx x List.mem_cons_self)
    have hni : x ∉ nm0 := fun z => by
      rw [List.nodup_append] at hn
      exact hn.2.2 x z x List.mem_cons_self rfl
    simp only [List.length_cons] at hl1 hl2
    obtain ⟨S1, e1, a1, f1⟩ := p_admit a (by show nm0.length < _; omega) (by show ds.length < _; omega) x (by omega) (hx x List.mem_cons_self) hni
    have i0 := a.i0
    obtain ⟨S2, y4, e2, a2, f2⟩ := bk_admits x0 h xs (nm0 ++ [x]) (ds ++ [Dd.acc x]) S1 (some (T x)) a1 (by simpa using hn) (fun y hy => hx y (List.mem_cons_of_mem _ hy)) (by simp; omega) (by simp; omega)
    refine ⟨S2, y4, ?_, by simpa using a2, f1.trans f2⟩
    rw [List.map_cons, sForL, if_pos trivial]
    have : lb_law_book_1 ([x0, some (.ref 10), x4].set 2 (some (T x))) S = .nx [x0, some (.ref 10), some (T x)] S1 := by
      simp [lb_law_book_1, i0, e1]
    rw [this]
    exact e2
/-- the plain book and the book, as they begin -/
theorem p_begin (ns : List Int) : ∃ S0 S b cu fi, sem_law_plain [.scr ns] [] = .ok (.ref 2) S0 ∧ sem_law_book [.ref 2] S0 = .ok (.ref 10) S ∧ Pl S b cu [] fi 6 ∧ At S 10 b ∧ Iv b cu 10 ∧ S.length = 18 ∧ b.ents = [] ∧ b.ends = [] ∧ b.rows = [] ∧ b.backs = [] ∧ b.names.length ≤ 5 ∧ b.deeds.length ≤ 5 := by
  obtain ⟨n0, nm, cu, u0, e0, n1, n2, n3, n4, ⟨t, n5⟩, c1, c2, c3, c4, hst⟩ := p_plain ns
  obtain ⟨h, hh⟩ : ∃ h, cu.getD 0 "" = h := ⟨_, rfl⟩
  have hc : isCur h = true := by rw [← hh]; exact c1 _ (getD_mem (by omega))
  let S0 : Store := [.lst (n0.map T), .lst (nm.map T), .dK (plK nm.length 6), .lst (cu.map T), .lst (u0.map T), .lst [], .lst [], .lst [], .lst [], .lst []]
  have em := p_book_make (S := S0) h (cur_len hc) hc
  have a0 : At (S0 ++ bkObjs 10 h) 10 { bk0 h with names := ["exchange"], deeds := [Dd.home h] } := ⟨rfl, rfl, rfl, rfl, rfl, rfl, rfl, rfl⟩
  have k0 : ∀ m, m < 10 → (S0 ++ bkObjs 10 h)[m]? = S0[m]? := fun m hm => List.getElem?_append_left hm
  have hl : (S0 ++ bkObjs 10 h).length = 18 := rfl
  have x1 : gIx (.ref 2) (.d (.str "currencies")) S0 = .ok (.ref 3) S0 := gIxD_K (kvs := plK nm.length 6) rfl (pl_cur _ _)
  have x2 : gIxI (.ref 3) 0 S0 = .ok (T h) S0 := by
    have := atL (S := S0) (m := 3) (l := cu) rfl (i := 0) (by decide) (by omega)
    rw [show (0 : Int).toNat = 0 from rfl, hh] at this
    exact this
  have x3 : gIx (.ref 2) (.d (.str "names")) (S0 ++ bkObjs 10 h) = .ok (.ref 1) (S0 ++ bkObjs 10 h) := gIxD_K (kvs := plK nm.length 6) rfl (pl_names _ _)
  have hm : (S0 ++ bkObjs 10 h)[1]? = some (.lst ((nm.map D.str).map .d)) := by
    rw [List.map_map]; rfl
  have gs := gSl_ref hm (some 1) none
  have e2 : cut (nm.map D.str) (some 1) none = t.map D.str := by
    rw [n5]
    simp [cut, HT.sIx]
    exact List.take_of_length_le (by simp)
  rw [e2] at gs
  have e3 : List.map (Wv.d ∘ D.str) t = t.map T := rfl
  have tl : t.length ≤ 4 := by rw [n5] at n4; simp at n4; omega
  obtain ⟨S4, y2, e4, a4, f4⟩ := bk_admits (some (.ref 2)) h t ["exchange"] [Dd.home h] (S0 ++ bkObjs 10 h) none a0 (by show ("exchange" :: t : List Str).Nodup; rw [← n5]; exact n2) (fun x hx => n1 x (by rw [n5]; exact List.mem_cons_of_mem _ hx)) (by simp; omega) (by simp; omega)
  have ln : S0.length = 10 := rfl
  rw [ln] at em
  have g1 : sSet 1 (evN (gMake 0 2 sem_Book___init__) (evCons (evBin gIx (evBin gIx (evVar 0) (evC (.str "currencies"))) (evC (.int 0))) evNil)) [some (.ref 2), none, none] S0 = .nx [some (.ref 2), some (.ref 10), none] (S0 ++ bkObjs 10 h) := by
    generalize S0 ++ bkObjs 10 h = S1 at *
    generalize S0 = S at *
    simp [x1, x2, em]
  have g2 : sFor 2 (evItems (evSl (evBin gIx (evVar 0) (evC (.str "names"))) (evPart (evC (.int 1))) evNoPart)) lb_law_book_1 [some (.ref 2), some (.ref 10), none] (S0 ++ bkObjs 10 h) = .nx [some (.ref 2), some (.ref 10), y2] S4 := by
    generalize S0 ++ bkObjs 10 h = S1 at *
    simp [x3, gs, e3]
    exact e4
  have hb : ({ bk0 h with names := [("exchange" : Str)] ++ t, deeds := [Dd.home h] ++ t.map Dd.acc } : Bk).names = nm := by rw [n5]; rfl
  refine ⟨S0, S4, _, cu, nm.length, e0, ?_, ?_, a4, ⟨hh.symm, c1, c2, c3, c4, ?_, ?_, ?_, ?_, ?_, (fun e he => by cases he), (fun e he => by cases he), (fun e he => by cases he), (fun e he => by cases he), (fun e he => by cases he), (fun e he => by cases he), (fun e he => by cases he), by show -1 ≤ (-1 : Int) ∧ (-1 : Int) ≤ 99999; decide, by decide, by show 0 ≤ 10; decide, by simp; omega, by show 0 ≤ 10; decide, by show 0 ≤ 10; decide, by show 0 ≤ 10; decide, by rw [hb]; exact hst, (fun i e he => by cases he), ⟨List.Pairwise.nil, fun _ h => by cases h⟩⟩, ?_, rfl, rfl, rfl, rfl, by rw [hb]; exact n4, by simp; omega⟩
  · unfold sem_law_book
    rw [fnS_s, if_pos (by rfl)]
    show (sSeq _ _ [some (.ref 2), none, none] S0).out = _
    rw [sSeq_s, g1, seq_nx, sSeq_s, g2, seq_nx]
    rfl
  · have q : ∀ m, m < 10 → S4[m]? = S0[m]? := fun m hm => by rw [f4.2 m (.inl hm), k0 m hm]
    exact ⟨by rw [q 2 (by decide)]; rfl, by rw [q 1 (by decide), hb]; rfl, by rw [q 3 (by decide)]; rfl, by rw [q 5 (by decide)]; rfl, by rw [q 6 (by decide)]; rfl, by rw [q 7 (by decide)]; rfl, by rw [q 8 (by decide)]; rfl, by rw [q 9 (by decide)]; rfl⟩
  · rw [hb]; exact n1
  · rw [hb]; exact n2
  · rw [hb]; exact n3
  · rw [hb]; omega
  · rw [hb, n5]; simp
  · rw [f4.1, hl]
end DL

namespace DL
open PySem PySem.Spec PyProof.Rows L2
section
variable {S : Store} {b : Bk} {cu : List Str} {dd : List Dd} {fi mo : Int} {z : Nat}
theorem put_most (p : Pl S b cu dd fi mo) (m : Int) : dPut S 2 (.d (.str "most")) (I m) = some (S.set 2 (.dK (plK fi m))) := by
  have hk : ((plK fi mo).map (·.1)).any (fun x => decide (x = (.inr "most" : Key))) = true := by
    rw [plK_keys]; decide +kernel
  rw [dPut_K p.d (asKey_str "most") rfl (by show 9 < 16777216; decide), putKW_old hk]
  have n1 : ¬ (("names" : Str) = "most") := by decide +kernel
  have n2 : ¬ (("first" : Str) = "most") := by decide +kernel
  have n3 : ¬ (("currencies" : Str) = "most") := by decide +kernel
  have n4 : ¬ (("entries" : Str) = "most") := by decide +kernel
  have n5 : ¬ (("told" : Str) = "most") := by decide +kernel
  have n6 : ¬ (("ends" : Str) = "most") := by decide +kernel
  have n7 : ¬ (("backs" : Str) = "most") := by decide +kernel
  have n8 : ¬ (("deeds" : Str) = "most") := by decide +kernel
  unfold plK
  simp [n1, n2, n3, n4, n5, n6, n7, n8]
theorem Pl.putM (p : Pl S b cu dd fi mo) (m : Int) : Pl (S.set 2 (.dK (plK fi m))) b cu dd fi m := by
  have := p.lt
  exact ⟨by rw [List.getElem?_set_self (by omega)], by rw [List.getElem?_set_ne (by decide)]; exact p.names, by rw [List.getElem?_set_ne (by decide)]; exact p.cur, by rw [List.getElem?_set_ne (by decide)]; exact p.ents, by rw [List.getElem?_set_ne (by decide)]; exact p.told, by rw [List.getElem?_set_ne (by decide)]; exact p.ends, by rw [List.getElem?_set_ne (by decide)]; exact p.backs, by rw [List.getElem?_set_ne (by decide)]; exact p.deeds⟩
theorem at_neg2 {l : List Str} (h : 2 ≤ l.length) : atI (l.map T) (-2) = some (T (l.getD (l.length - 2) "")) := by
  unfold atI ixN
  rw [if_neg (by decide), if_pos (by rw [List.length_map]; omega)]
  simp only [Option.bind_some, List.length_map]
  have : ((-2 : Int) + (l.length : Int)).toNat = l.length - 2 := by omega
  rw [this, List.getElem?_map, List.getElem?_eq_getElem (by omega), List.getD_eq_getElem?_getD, List.getElem?_eq_getElem (by omega)]
  rfl
/-- a day that is asked for -/
theorem p_asked_day (p : Pl S b cu dd fi mo) (v : Iv b cu z) (c : Int) : ∃ d, isDay d = true ∧ sem_law_asked_day [.ref 2, I c] S = .ok (I d) S := by
  have pc := p_lclosed p (by have := v.s4; have := v.zl; omega)
  have xE := p.xE
  have hz : b.ents.length ≤ 1000 := by have := v.s1; have := v.zl; omega
  have hcl := v.cl
  have ec := lc_map (S := S) (ρ := [some (.ref 2), some (I c), none, none]) (fun S => seqW S (.ref 5) = some (true, b.ents.map En.w)) 3 (evBin gIx (evVar 3) (evC (.int 1))) En.w (fun e => I e.day) (seqW_ref p.ents) (fun _ => rfl) b.ents (by
    intro e _
    simp [En.w, En.d, gIxI_tup])
  have ev : evLc gFrz (evItems (evBin gIx (evVar 0) (evC (.str "entries")))) 3 [3] evYes (evBin gIx (evVar 3) (evC (.int 1))) [some (.ref 2), some (I c), none, none] S = .ok (.d (.lst ((b.ents.map (·.day)).map .int))) S := by
    rw [evLc_s, evItems_s]
    simp only [evBin_s, evVar_s, evC_s, List.getElem?_cons_zero, bind_ok, xE, itW_of (seqW_ref p.ents), List.length_map, wipeE_cons, wipeE_nil, List.set_cons_succ, List.set_cons_zero]
    rw [if_pos (by omega), ec, bind_ok, gFrz_map, List.map_map]
    rfl
  obtain ⟨mx, hmx, hmd⟩ : ∃ mx : Int, gMax2 [I 0, I (closedV b.ends)] S = .ok (I mx) S ∧ isDay mx = true := by
    refine ⟨_, gMax2_int _ _, ?_⟩
    apply day_of
    · split <;> omega
    · split <;> omega
  let L : List Int := [0, mx, 99999] ++ b.ents.map (·.day)
  have hL : ∀ d ∈ L, isDay d = true := fun d hd => by
    rcases List.mem_append.mp hd with hd | hd
    · simp only [List.mem_cons, List.not_mem_nil, or_false] at hd
      rcases hd with rfl | rfl | rfl
      · decide
      · exact hmd
      · decide
    · obtain ⟨e, he, rfl⟩ := List.mem_map.mp hd
      exact v.eday e he
  have eL : [D.int 0, .int mx, .int 99999] ++ (b.ents.map (·.day)).map D.int = L.map .int := by simp [L]
  have hlen : L.length = 3 + b.ents.length := by simp [L]; omega
  have g1 : sSet 2 (evBin gAdd (evN gLst (evCons (evC (.int 0)) (evCons (evN gMax2 (evCons (evC (.int 0)) (evCons (evN (gCall 1 sem_law_closed) (evCons (evVar 0) evNil)) evNil))) (evCons (evC (.int 99999)) evNil)))) (evLc gFrz (evItems (evBin gIx (evVar 0) (evC (.str "entries")))) 3 [3] evYes (evBin gIx (evVar 3) (evC (.int 1))))) [some (.ref 2), some (I c), none, none] S = .nx [some (.ref 2), some (I c), some (.d (.lst (L.map .int))), none] S := by
    have hadd : gAdd (.d (.lst [.int 0, .int mx, .int 99999])) (.d (.lst ((b.ents.map (·.day)).map .int))) S = .ok (.d (.lst (L.map .int))) S := by
      rw [gAdd_lst, if_pos (by simp; omega), eL]
    generalize (b.ents.map (·.day)).map D.int = Y at *
    generalize L.map D.int = Z at *
    generalize closedV b.ends = cv at *
    rw [sSet_s, evBin_s]
    have e1 : (evN gLst (evCons (evC (.int 0)) (evCons (evN gMax2 (evCons (evC (.int 0)) (evCons (evN (gCall 1 sem_law_closed) (evCons (evVar 0) evNil)) evNil))) (evCons (evC (.int 99999)) evNil)))) [some (.ref 2), some (I c), none, none] S = .ok (.d (.lst [.int 0, .int mx, .int 99999])) S := by
      simp only [evN_s, evCons_s, evNil_s, evC_s, evVar_s, List.getElem?_cons_zero, bind_ok, gCall_s, List.length_cons, List.length_nil, if_true, pc, hmx]
      simp
    rw [e1, bind_ok, ev, bind_ok, hadd, toS_ok]
    rfl
  have w2 : Sm 2 := by decide
  by_cases h : c % 2 = 1
  · have hpos : 0 < ((L.map D.int).length : Int) := by rw [List.length_map]; omega
    have r0 := Int.emod_nonneg (c / 2) (b := ((L.map D.int).length : Int)) (by omega)
    have r1 := Int.emod_lt_of_pos (c / 2) hpos
    obtain ⟨i, hi⟩ : ∃ i : Nat, c / 2 % ((L.map D.int).length : Int) = i := ⟨(c / 2 % ((L.map D.int).length : Int)).toNat, by omega⟩
    have hil : i < L.length := by rw [List.length_map] at r1 hi; omega
    refine ⟨L[i], hL _ (List.getElem_mem hil), ?_⟩
    have gi : gIxI (.d (.lst (L.map .int))) (c / 2 % ((L.map D.int).length : Int)) S = .ok (I L[i]) S := by
      rw [gIxI_lst, atI_of (j := i) hi (x := D.int L[i]) (by rw [List.getElem?_map, List.getElem?_eq_getElem hil]; rfl)]
    generalize L[i] = y at *
    unfold sem_law_asked_day
    rw [fnS_s, if_pos (by rfl)]
    show (sSeq _ _ [some (.ref 2), some (I c), none, none] S).out = _
    rw [sSeq_s, g1, seq_nx]
    generalize L.map D.int = Z at *
    have hpos' : 0 < Z.length := by omega
    simp [h, w2, hpos, hpos', gi]
  · refine ⟨c / 2 % 100000, day_of (by omega) (by omega), ?_⟩
    unfold sem_law_asked_day
    rw [fnS_s, if_pos (by rfl)]
    show (sSeq _ _ [some (.ref 2), some (I c), none, none] S).out = _
    rw [sSeq_s, g1, seq_nx]
    generalize L.map D.int = Z at *
    simp [h, w2]
end
end DL

/-! what is kept of a store; what is held -/
namespace DL
open PySem PySem.Spec PyProof.Rows L2
section
variable {S : Store} {b : Bk} {cu : List Str} {dd : List Dd} {fi mo : Int} {z : Nat}
theorem gIxI_rtup {n : Nat} {ws : List Wv} {x : Wv} {i : Int} (h : S[n]? = some (.tup ws)) (e : atI ws i = some x) : gIxI (.ref n) i S = .ok x S := by
  unfold gIxI
  have : seqW S (.ref n) = some (false, ws) := by simp [seqW, h]
  rw [this]
  simp only [e]
/-- what is kept of a store, but for the held list -/
def Kp18 (S S' : Store) : Prop := S.length ≤ S'.length ∧ ∀ m, m < S.length → m ≠ 18 → S'[m]? = S[m]?
theorem Kp18.app (S : Store) (t : List O) : Kp18 S (S ++ t) := ⟨by simp, fun m hm _ => List.getElem?_append_left hm⟩
theorem Kp18.set (S : Store) (o : O) : Kp18 S (S.set 18 o) := ⟨by simp, fun m _ hm => List.getElem?_set_ne (by omega)⟩
theorem Kp18.refl (S : Store) : Kp18 S S := ⟨Nat.le_refl _, fun _ _ _ => rfl⟩
theorem Kp18.trans {S S1 S2 : Store} (a : Kp18 S S1) (b : Kp18 S1 S2) : Kp18 S S2 := ⟨Nat.le_trans a.1 b.1, fun m h1 h2 => (b.2 m (Nat.lt_of_lt_of_le h1 a.1) h2).trans (a.2 m h1 h2)⟩
theorem Kp18.set' {S S1 : Store} {i : Nat} {o : O} (a : Kp18 S S1) (h : S.length ≤ i) : Kp18 S (S1.set i o) := ⟨by simp; exact a.1, fun m h1 h2 => by rw [List.getElem?_set_ne (by omega)]; exact a.2 m h1 h2⟩
theorem Kp18.pl {S' : Store} (k : Kp18 S S') (p : Pl S b cu dd fi mo) (h : 18 < S.length) : Pl S' b cu dd fi mo := p.off fun m hm => k.2 m (by omega) (by omega)
theorem Kp18.at {S' : Store} (k : Kp18 S S') (a : At S 10 b) (h : 18 < S.length) : At S' 10 b := a.off fun m h1 h2 => k.2 m (by omega) (by omega)
theorem day_nn {d : Int} (h : isDay d = true) : 0 ≤ d := by
  unfold isDay at h
  simp at h
  omega
/-- what is held: a pair of equal ones -/
def HeldOk (S : Store) (w : Wv) : Prop := (∃ x : D, w = .d (.tup [x, x]) ∧ x.dep ≤ 60) ∨ ∃ (r k : Nat) (L : List D), 18 < r ∧ 18 < k ∧ w = .ref r ∧ S[r]? = some (.tup [.ref k, .d (.lst L)]) ∧ S[k]? = some (.lst (L.map .d)) ∧ depAll L ≤ 50
theorem getL_lt {S : Store} {i : Nat} {o : O} (h : S[i]? = some o) : i < S.length := (List.getElem?_eq_some_iff.mp h).1
theorem HeldOk.kp {S S' : Store} {w : Wv} (h : HeldOk S w) (k : Kp18 S S') : HeldOk S' w := by
  rcases h with h | ⟨r, m, L, h1, h2, h3, h4, h5, h6⟩
  · exact .inl h
  · exact .inr ⟨r, m, L, h1, h2, h3, (k.2 r (getL_lt h4) (by omega)).trans h4, (k.2 m (getL_lt h5) (by omega)).trans h5, h6⟩
theorem Iv.up {b : Bk} {cu : List Str} {z z' : Nat} (w : Iv b cu z) (h : z ≤ z') (h2 : z' ≤ 1000) : Iv b cu z' := ⟨w.home, w.c1, w.c2, w.c3, w.c4, w.n1, w.n2, w.n3, w.n4, w.n5, w.eday, w.elen, w.enote, w.els, w.ebal, w.bk, w.rows, w.cl, h2, Nat.le_trans w.s1 h, Nat.le_trans w.s2 h, Nat.le_trans w.s3 h, Nat.le_trans w.s4 h, Nat.le_trans w.s5 h, w.st, w.num, w.eo⟩
theorem HeldOk.fs {S S' : Store} {w : Wv} (h : HeldOk S w) (k : Fs S S') : HeldOk S' w := by
  rcases h with h | ⟨r, m, L, h1, h2, h3, h4, h5, h6⟩
  · exact .inl h
  · exact .inr ⟨r, m, L, h1, h2, h3, (k.2 r (by omega)).trans h4, (k.2 m (by omega)).trans h5, h6⟩
theorem HeldOk.eq {S : Store} {w : Wv} (h : HeldOk S w) : ∃ u v, gIxI w 0 S = .ok u S ∧ gIxI w 1 S = .ok v S ∧ gEq true u v S = .ok (Bo false) S := by
  rcases h with ⟨x, rfl, hx⟩ | ⟨r, m, L, h1, h2, rfl, h4, h5, h6⟩
  · refine ⟨.d x, .d x, rfl, rfl, ?_⟩
    rw [gEq_of (asD_d _) (asD_d _) (by omega), eqD_refl]
    rfl
  · refine ⟨.ref m, .d (.lst L), gIxI_rtup h4 rfl, gIxI_rtup h4 rfl, ?_⟩
    rw [gEq_of (asD_ref h5) (asD_d _) (by rw [dep_lst]; omega), eqD_refl]
    rfl
/-- none of those that are held has changed -/
theorem held_eq {S : Store} {ρ : Env} {i j : Nat} {H : List Wv} {n : Nat} (hi : ρ[i]? = some (some (.ref n))) (hj : ∀ (w : Wv) , (ρ.set j (some w))[j]? = some (some w)) (h18 : S[n]? = some (.lst H)) (hl : H.length ≤ 10000) (hH : ∀ w ∈ H, HeldOk S w) :
    evLc gFrz (evItems (evVar i)) j [j] (evT (evBin (gEq true) (evBin gIx (evVar j) (evC (.int 0))) (evBin gIx (evVar j) (evC (.int 1))))) (evVar j) ρ S = .ok (.d (.lst [])) S := by
  have ec := lc_eq (S := S) (ρ := ρ.set j none) (fun S => seqW S (.ref n) = some (true, H)) j (evT (evBin (gEq true) (evBin gIx (evVar j) (evC (.int 0))) (evBin gIx (evVar j) (evC (.int 1))))) (evVar j) (fun w : Wv => w) (fun _ => false) (fun _ => .d .non) (seqW_ref h18) (fun _ => rfl) H [] (by
    intro w hw
    obtain ⟨u, v, h1, h2, h3⟩ := (hH w hw).eq
    refine ⟨?_, fun z => Bool.noConfusion z⟩
    have h1' : gIx w (.d (.int 0)) S = .ok u S := h1
    have h2' : gIx w (.d (.int 1)) S = .ok v S := h2
    have hs : (ρ.set j none).set j (some w) = ρ.set j (some w) := by simp
    rw [hs]
    simp only [evT_s, evBin_s, evVar_s, evC_s, hj, bind_ok, h1', h2', h3]
    rfl)
  have fe : H.filter (fun _ => false) = [] := by simp
  rw [fe, List.map_id'] at ec
  rw [evLc_s, evItems_s]
  simp only [evVar_s, hi, bind_ok, itW_of (seqW_ref h18), wipeE_cons, wipeE_nil]
  rw [if_pos (by omega), ec, bind_ok]
  rfl
end
end DL

/-! many entries ahead, told of as deeds -/
namespace DL
open PySem PySem.Spec PyProof.Rows L2
section
variable {S : Store} {b : Bk} {cu : List Str} {dd : List Dd} {fi mo : Int} {z : Nat}
theorem p_bulk (p : Pl S b cu dd fi mo) (a : At S 10 b) (v : Iv b cu z) (he : b.ends = []) (cc m : Int) (hm : 1 ≤ m ∧ m ≤ 40) (hz : z ≤ 100) (hdd : dd.length ≤ 100) : ∃ S' b' dd' mo', sem_law_bulk [.ref 10, .ref 2, I cc, I m] S = .ok (Bo true) S' ∧ Pl S' b' cu dd' fi mo' ∧ At S' 10 b' ∧ Iv b' cu (z + 40) ∧ Fs S S' ∧ dd'.length ≤ dd.length + 40 ∧ b'.ends = [] ∧ ∃ t, b'.deeds = b.deeds ++ t ∧ dd' = dd ++ t := by
  have n3 := v.n3
  have c3 := v.c3
  have xC := p.xC
  have xN := p.xN
  have pc := p_lclosed p (by have := v.s4; have := v.zl; omega)
  rw [he] at pc
  have pc' : sem_law_closed [.ref 2] S = .ok (I (-1)) S := pc
  obtain ⟨c, hc⟩ : ∃ c, cu.getLast? = some c := by
    cases q : cu.getLast? with
    | none => rw [List.getLast?_eq_none_iff.mp q] at c3; simp at c3
    | some c => exact ⟨c, rfl⟩
  obtain ⟨x, hx⟩ : ∃ c, b.names.getLast? = some c := by
    cases q : b.names.getLast? with
    | none => rw [List.getLast?_eq_none_iff.mp q] at n3; simp at n3
    | some c => exact ⟨c, rfl⟩
  have g1 : gIxI (.ref 3) (-1) S = .ok (T c) S := by rw [gIxI_ref p.cur, atI_last (x := T c) (by rw [List.getLast?_map, hc]; rfl)]
  have g2 : gIxI (.ref 1) (-1) S = .ok (T x) S := by rw [gIxI_ref p.names, atI_last (x := T x) (by rw [List.getLast?_map, hx]; rfl)]
  obtain ⟨y, hy⟩ : ∃ y, b.names.getD (b.names.length - 2) "" = y := ⟨_, rfl⟩
  have g3 : gIxI (.ref 1) (-2) S = .ok (T y) S := by rw [gIxI_ref p.names, at_neg2 (by omega), hy]
  have mc : c ∈ cu := List.mem_of_getLast? hc
  have mx : x ∈ b.names := List.mem_of_getLast? hx
  have my : y ∈ b.names := by rw [← hy]; exact getD_mem (by omega)
  obtain ⟨ls, hls⟩ : ∃ ls : List Ln, ls = [⟨x, c, 7⟩, ⟨y, c, -7⟩] := ⟨_, rfl⟩
  have hll : ls.length = 2 := by rw [hls]; rfl
  have lok : ∀ (nm : List Str), x ∈ nm → y ∈ nm → ∀ l ∈ ls, l.a ∈ nm ∧ l.c ∈ cu ∧ isAmt l.x = true := fun nm h1 h2 l hl => by
    have : l = ⟨x, c, 7⟩ ∨ l = ⟨y, c, -7⟩ := by simpa [hls] using hl
    rcases this with rfl | rfl
    · exact ⟨h1, mc, by show isAmt 7 = true; decide⟩
    · exact ⟨h2, mc, by show isAmt (-7) = true; decide⟩
  have lb : bal ls = true := by
    rw [bal_iff]
    intro q
    simp only [hls, sumOf]
    split <;> omega
  have la : ("again" : Str).length = 5 := by decide +kernel
  have q4 : sSet 4 (evBin gAdd (evN (gCall 1 sem_law_closed) (evCons (evVar 1) evNil)) (evC (.int 1))) [some (.ref 10), some (.ref 2), some (I cc), some (I m), none, none, none, none, none] S = .nx [some (.ref 10), some (.ref 2), some (I cc), some (I m), some (I 0), none, none, none, none] S := by
    simp [pc']
  have q5 : sSet 5 (evBin gIx (evBin gIx (evVar 1) (evC (.str "currencies"))) (evUn gNeg (evC (.int 1)))) [some (.ref 10), some (.ref 2), some (I cc), some (I m), some (I 0), none, none, none, none] S = .nx [some (.ref 10), some (.ref 2), some (I cc), some (I m), some (I 0), some (T c), none, none, none] S := by
    simp [xC, g1]
  have q6 : sSet 6 (evN gLst (evCons (evN gTup (evCons (evBin gIx (evBin gIx (evVar 1) (evC (.str "names"))) (evUn gNeg (evC (.int 1)))) (evCons (evVar 5) (evCons (evC (.int 7)) evNil)))) (evCons (evN gTup (evCons (evBin gIx (evBin gIx (evVar 1) (evC (.str "names"))) (evUn gNeg (evC (.int 2)))) (evCons (evVar 5) (evCons (evUn gNeg (evC (.int 7))) evNil)))) evNil))) [some (.ref 10), some (.ref 2), some (I cc), some (I m), some (I 0), some (T c), none, none, none] S = .nx [some (.ref 10), some (.ref 2), some (I cc), some (I m), some (I 0), some (T c), some (.d (.lst (ls.map Ln.d))), none, none] S := by
    simp [xN, g2, g3, hls, Ln.d]
  have w8 : Sm 8 := by decide
  by_cases h8 : cc % 8 = 5
  · obtain ⟨n, hn⟩ : ∃ n : Nat, cc / 8 % m = n := ⟨(cc / 8 % m).toNat, by have := Int.emod_nonneg (cc / 8) (b := m) (by omega); omega⟩
    have hn40 : n ≤ 40 := by have := Int.emod_lt_of_pos (cc / 8) (b := m) (by omega); omega
    obtain ⟨ρ', S', e, x7, x8, b', dd', p', a', v', f', q1, q2, q3, q9, rfl⟩ := for_pre (fun _ => True) 7 lb_law_bulk_1 (fun k : Nat => I (0 + (k : Int) * 1))
      (fun pre ρ S' => ∃ x7 x8 b' dd', Pl S' b' cu dd' fi mo ∧ At S' 10 b' ∧ Iv b' cu (z + pre.length) ∧ Fs S S' ∧ b'.names = b.names ∧ b'.ends = [] ∧ dd'.length = dd.length + pre.length ∧ (∃ t, b'.deeds = b.deeds ++ t ∧ dd' = dd ++ t) ∧ ρ = [some (.ref 10), some (.ref 2), some (I cc), some (I m), some (I 0), some (T c), some (.d (.lst (ls.map Ln.d))), x7, x8]) (fun _ _ _ _ => trivial) (List.range n) (List.range n) []
      [some (.ref 10), some (.ref 2), some (I cc), some (I m), some (I 0), some (T c), some (.d (.lst (ls.map Ln.d))), none, none] S rfl (by
        rintro pre k post ρ S' ea ⟨x7, x8, b', dd', p', a', v', f', q1, q2, q3, ⟨t, q9, q9'⟩, rfl⟩
        have hk : k < n := by
          have h1 : k ∈ List.range n := by rw [ea]; simp
          exact List.mem_range.mp h1
        have hpl : pre.length < 40 := by
          have h2 := congrArg List.length ea
          simp at h2
          omega
        have s1 := v'.s1
        have s2 := v'.s2
        have hday : isDay (k : Int) = true := day_of (by omega) (by omega)
        have lok' := lok b'.names (by rw [q1]; exact mx) (by rw [q1]; exact my)
        have mn : ∀ S, gMin2 [I 99999, I (k : Int)] S = .ok (I k) S := fun S => by rw [gMin2_int, if_pos (by omega)]
        have pp := p_lput p' (by omega) (k : Int) "again" ls 0
        have p1 := p'.putE (b'.ents ++ [En.mk (b'.ents.length + 1) (k : Int) "again" ls 0])
        have a1 := a'.low (i := 5) (o := .lst ((b'.ents ++ [En.mk (b'.ents.length + 1) (k : Int) "again" ls 0]).map En.w)) (by decide)
        have f1 : Fs S' (S'.set 5 (.lst ((b'.ents ++ [En.mk (b'.ents.length + 1) (k : Int) "again" ls 0]).map En.w))) := Fs.set (by decide)
        generalize S'.set 5 (.lst ((b'.ents ++ [En.mk (b'.ents.length + 1) (k : Int) "again" ls 0]).map En.w)) = S1 at *
        have ad := ap_deed p1 (by omega) (Dd.ent (k : Int) "again" ls)
        have p2 := p1.putD (dd' ++ [Dd.ent (k : Int) "again" ls])
        have a2 := a1.low (i := 9) (o := .lst ((dd' ++ [Dd.ent (k : Int) "again" ls]).map Dd.w)) (by decide)
        have f2 : Fs S1 (S1.set 9 (.lst ((dd' ++ [Dd.ent (k : Int) "again" ls]).map Dd.w))) := Fs.set (by decide)
        have lo := lstOf_ref p1.deeds
        have xd := p1.xD
        generalize S1.set 9 (.lst ((dd' ++ [Dd.ent (k : Int) "again" ls]).map Dd.w)) = S2 at *
        have po := p_post a2 (by omega) (by omega) (k : Int) "again" (by rw [la]; decide) (.d (.lst (ls.map Ln.d))) true ls (by rw [seqW_lst, ← map_lnw]) (by omega) (fun l hl => cur_len (v.c1 _ (lok' l hl).2.1))
        rw [postOk (ls := ls) v' hday (by rw [q2]; show (-1 : Int) < _; omega) (by omega) (by decide +kernel) lok' lb] at po
        obtain ⟨S3, e3, a3, f3⟩ := po
        refine ⟨_, S3, .inl ?_, some (I k), some (I (b'.ents.length + 1)), _, dd' ++ [Dd.ent (k : Int) "again" ls], (p2.off fun m hm => f3.2 m (.inl hm)).deeds' (b'.deeds ++ [Dd.ent (k : Int) "again" ls]), a3, ?_, f'.trans (f1.trans (f2.trans (.fr f3))), q1, q2, by simp; omega, ⟨t ++ [Dd.ent (k : Int) "again" ls], by show b'.deeds ++ _ = _; rw [q9, List.append_assoc], by rw [q9', List.append_assoc]⟩, rfl⟩
        · have i2 := a2.i0
          simp only [Dd.w, Dd.d] at ad
          generalize ls.map Ln.d = L at *
          simp [lb_law_bulk_1, -gMin2_int, mn, pp, xd, lo, ad, i2, e3]
        · have := v'.ent (by omega) (Dd.ent (k : Int) "again" ls) (En.mk (b'.ents.length + 1) (k : Int) "again" ls 0) hday (show ls.length ≤ 60 by omega) ⟨by show isNote "again" = true; decide +kernel, by show ("again" : Str).length ≤ 40; rw [la]; decide⟩ lok' lb rfl
          simpa [Nat.add_assoc] using this) ⟨none, none, b, dd, p, a, by simpa using v, .refl S, rfl, he, by simp, ⟨[], by simp, by simp⟩, rfl⟩
    rw [List.length_range] at v' q3
    refine ⟨_, b', dd', mo + n, ?_, p'.putM (mo + n), a'.low (by decide), v'.up (by omega) (by omega), f'.trans (Fs.set (by decide)), by omega, q2, q9⟩
    have pm := put_most p' (mo + n)
    have xM := p'.xM
    have hb : ((n : Nat) : Int).natAbs < 4611686018427387904 := by omega
    have hm0 : 0 < m := by omega
    have f8 : ∀ S, gFloor (I cc) (I 8) S = .ok (I (cc / 8)) S := fun S => by rw [gFloor_int, if_pos ⟨by decide, w8⟩]
    have m8 : ∀ S, gMod (I (cc / 8)) (I m) S = .ok (I n) S := fun S => by rw [gMod_int, if_pos hm0, hn]
    have q7 : sFor 7 (evRange gRange1 (evCons (evBin gMod (evBin gFloor (evVar 2) (evC (.int 8))) (evVar 3)) evNil)) lb_law_bulk_1 [some (.ref 10), some (.ref 2), some (I cc), some (I m), some (I 0), some (T c), some (.d (.lst (ls.map Ln.d))), none, none] S = .nx [some (.ref 10), some (.ref 2), some (I cc), some (I m), some (I 0), some (T c), some (.d (.lst (ls.map Ln.d))), x7, x8] S' := by
      simp only [sFor_s, evRange_s, evCons_s, evNil_s, evBin_s, evVar_s, evC_s, List.getElem?_cons_succ, List.getElem?_cons_zero, bind_ok, f8, m8, gRange1_s, if_pos hb, toS_ok, rangeW_map, Int.toNat_natCast]
      exact e
    have q8 : sDPutS (evVar 1) (evC (.str "most")) (evBin gAdd (evBin gIx (evVar 1) (evC (.str "most"))) (evBin gMod (evBin gFloor (evVar 2) (evC (.int 8))) (evVar 3))) [some (.ref 10), some (.ref 2), some (I cc), some (I m), some (I 0), some (T c), some (.d (.lst (ls.map Ln.d))), x7, x8] S' = .nx [some (.ref 10), some (.ref 2), some (I cc), some (I m), some (I 0), some (T c), some (.d (.lst (ls.map Ln.d))), x7, x8] (S'.set 2 (.dK (plK fi (mo + n)))) := by
      simp only [sDPutS_s, evBin_s, evVar_s, evC_s, List.getElem?_cons_succ, List.getElem?_cons_zero, bind_ok, xM, f8, m8, gAdd_int, toS_ok]
      exact putR pm
    unfold sem_law_bulk
    rw [fnS_s, if_pos (by rfl)]
    show (sSeq _ _ [some (.ref 10), some (.ref 2), some (I cc), some (I m), none, none, none, none, none] S).out = _
    rw [sSeq_s, q4, seq_nx, sSeq_s, q5, seq_nx, sSeq_s, q6, seq_nx, sSeq_s, sIf_s]
    have t8 : evT (evBin (gEq false) (evBin gMod (evVar 2) (evC (.int 8))) (evC (.int 5))) [some (.ref 10), some (.ref 2), some (I cc), some (I m), some (I 0), some (T c), some (.d (.lst (ls.map Ln.d))), none, none] S = .ok true S := by
      simp [h8]
    rw [t8, toS_ok, if_pos rfl, sSeq_s, q7, seq_nx, q8, seq_nx]
    rfl
  · refine ⟨S, b, dd, mo, ?_, p, a, v.up (by omega) (by omega), .refl S, by omega, he, ⟨[], by simp, by simp⟩⟩
    unfold sem_law_bulk
    rw [fnS_s, if_pos (by rfl)]
    show (sSeq _ _ [some (.ref 10), some (.ref 2), some (I cc), some (I m), none, none, none, none, none] S).out = _
    rw [sSeq_s, q4, seq_nx, sSeq_s, q5, seq_nx, sSeq_s, q6, seq_nx]
    simp [h8]
end
end DL

/-! what the law reckons itself -/
namespace DL
open PySem PySem.Spec PyProof.Rows L2
section
variable {S : Store} {b : Bk} {cu : List Str} {dd : List Dd} {fi mo : Int} {z : Nat}
/-! ### sums by pairs -/
def keyP (q : Str × Str) : List Key := [.inr q.1, .inr q.2]
def kvF (F : Str × Str → Int) (p : Str × Str) : List Key × Wv := (keyP p, I (F p))
theorem keyP_inj {p q : Str × Str} (h : keyP p = keyP q) : p = q := by
  unfold keyP at h
  simp at h
  exact Prod.ext h.1 h.2
theorem atK_kvF (F : Str × Str → Int) (q : Str × Str) : ∀ l : List (Str × Str), atK (l.map (kvF F)) (keyP q) = if q ∈ l then some (I (F q)) else none
  | [] => rfl
  | p :: l => by
    have ih := atK_kvF F q l
    unfold atK at *
    rw [List.map_cons, List.find?_cons]
    by_cases h : keyP p = keyP q
    · have e := keyP_inj h
      subst e
      have : decide ((kvF F p).1 = keyP p) = true := decide_eq_true rfl
      rw [this, if_pos List.mem_cons_self]
      rfl
    · have : decide ((kvF F p).1 = keyP q) = false := decide_eq_false h
      have hn : ¬ q = p := fun e => h (by rw [e])
      rw [this]
      simp only
      rw [ih]
      by_cases hq : q ∈ l
      · rw [if_pos hq, if_pos (List.mem_cons_of_mem _ hq)]
      · rw [if_neg hq, if_neg (fun z => (List.mem_cons.mp z).elim hn hq)]
theorem put_kvF (F : Str × Str → Int) (q : Str × Str) (x : Int) (l : List (Str × Str)) (h0 : q ∉ l → F q = 0) : putKW (l.map (kvF F)) (keyP q) (I (F q + x)) = (addP l q).map (kvF fun p => F p + if q = p then x else 0) := by
  have he : ((l.map (kvF F)).any fun kv => decide (kv.1 = keyP q)) = decide (q ∈ l) := by
    rw [Bool.eq_iff_iff, decide_eq_true_eq, List.any_eq_true]
    constructor
    · rintro ⟨kv, hkv, e⟩
      obtain ⟨p, hp, rfl⟩ := List.mem_map.mp hkv
      rw [← keyP_inj (of_decide_eq_true e)]
      exact hp
    · intro h
      exact ⟨kvF F q, List.mem_map_of_mem h, decide_eq_true rfl⟩
  unfold putKW addP
  by_cases h : q ∈ l
  · rw [he, decide_eq_true h, if_pos rfl, if_pos h, List.map_map]
    refine List.map_congr_left fun p _ => ?_
    show (if keyP p = keyP q then (keyP p, I (F q + x)) else kvF F p) = kvF _ p
    by_cases hp : q = p
    · subst hp
      rw [if_pos rfl]
      show (keyP q, I (F q + x)) = (keyP q, I (F q + if q = q then x else 0))
      rw [if_pos rfl]
    · rw [if_neg (fun e => hp (keyP_inj e).symm)]
      show (keyP p, I (F p)) = (keyP p, I (F p + if q = p then x else 0))
      rw [if_neg hp, Int.add_zero]
  · rw [he, decide_eq_false h, if_neg Bool.false_ne_true, if_neg h, List.map_append]
    congr 1
    · refine List.map_congr_left fun p hp => ?_
      have hn : ¬ q = p := fun e => h (e ▸ hp)
      show (keyP p, I (F p)) = (keyP p, I (F p + if q = p then x else 0))
      rw [if_neg hn, Int.add_zero]
    · unfold kvF
      simp
theorem su_lines (chk : Store → Prop) (hc : ∀ S, chk S) (S : Store) (x0 x1 x3 : Option Wv) : ∀ (ls : List Ln) (l : List (Str × Str)) (F : Str × Str → Int) (x4 x5 : Option Wv), (∀ q, q ∉ l → F q = 0) → l.length + ls.length ≤ 1000000 →
    ∃ y4 y5, sForL chk 4 lb_law_sums_1 (ls.map Ln.w) [x0, x1, some (.ref S.length), x3, x4, x5] (S ++ [.dT (l.map (kvF F))]) = .nx [x0, x1, some (.ref S.length), x3, y4, y5] (S ++ [.dT ((pairL l ls).map (kvF fun q => F q + sumA q.1 q.2 ls))]) ∧ ∀ q, q ∉ pairL l ls → F q + sumA q.1 q.2 ls = 0
  | [], l, F, x4, x5, h, _ => ⟨x4, x5, by rw [List.map_nil, sForL, if_pos (hc _)]; simp [sumA, pairL], fun q hq => by simp [sumA, h q hq]⟩
  | x :: ls, l, F, x4, x5, h, hl => by
    simp only [List.length_cons] at hl
    have hla := len_addP (l := l) (p := (x.a, x.c))
    have hF : ∀ q, q ∉ addP l (x.a, x.c) → F q + (if (x.a, x.c) = q then x.x else 0) = 0 := fun q hq => by
      have h1 : q ∉ l := fun z => hq (mem_addP.mpr (.inl z))
      have h2 : ¬ (x.a, x.c) = q := fun z => hq (mem_addP.mpr (.inr z.symm))
      rw [if_neg h2, h q h1]; rfl
    obtain ⟨y4, y5, ey, h2⟩ := su_lines chk hc S x0 x1 x3 ls (addP l (x.a, x.c)) (fun q => F q + if (x.a, x.c) = q then x.x else 0) (some x.w) (some (.d (pS (x.a, x.c)))) hF (by omega)
    have eF : ∀ q : Str × Str, F q + (if (x.a, x.c) = q then x.x else 0) + sumA q.1 q.2 ls = F q + sumA q.1 q.2 (x :: ls) := fun q => by
      rw [sumA]
      by_cases hq : (x.a, x.c) = q
      · subst hq
        simp
        omega
      · have : ¬ (x.a = q.1 ∧ x.c = q.2) := fun z => hq (Prod.ext z.1 z.2)
        rw [if_neg hq, if_neg this]
        omega
    refine ⟨y4, y5, ?_, fun q hq => by rw [← eF]; exact h2 q hq⟩
    have e1 : (S ++ [O.dT (l.map (kvF F))])[S.length]? = some (.dT (l.map (kvF F))) := by simp
    have hput := fun v : Int => dPut_T (v := I v) e1 x.a x.c rfl (by rw [List.length_map]; omega)
    have pk := put_kvF F (x.a, x.c) x.x l (h _)
    have dw := dictW_T e1 x.a x.c
    have hk : [Sum.inr x.a, Sum.inr x.c] = keyP (x.a, x.c) := rfl
    rw [hk, atK_kvF] at dw
    have di := isDict_T e1
    have body : lb_law_sums_1 ([x0, x1, some (.ref S.length), x3, x4, x5].set 4 (some x.w)) (S ++ [.dT (l.map (kvF F))]) = .nx [x0, x1, some (.ref S.length), x3, some x.w, some (.d (pS (x.a, x.c)))] (S ++ [.dT ((addP l (x.a, x.c)).map (kvF fun q => F q + if (x.a, x.c) = q then x.x else 0))]) := by
      have hp := hput (F (x.a, x.c) + x.x)
      rw [hk, pk] at hp
      generalize (addP l (x.a, x.c)).map (kvF fun q => F q + if (x.a, x.c) = q then x.x else 0) = K at *
      by_cases hm : (x.a, x.c) ∈ l
      · rw [if_pos hm] at dw
        generalize l.map (kvF F) = L at *
        simp [lb_law_sums_1, Ln.w, Ln.d, gIxI_tup, di, dw, hp, pS]
      · rw [if_neg hm] at dw
        have hz := h _ hm
        rw [hz] at hp
        generalize l.map (kvF F) = L at *
        simp only [Int.zero_add] at hp
        simp [lb_law_sums_1, Ln.w, Ln.d, gIxI_tup, di, dw, hp, pS]
    rw [List.map_cons, sForL, if_pos (hc _), body]
    have e2 : (fun q : Str × Str => F q + (if (x.a, x.c) = q then x.x else 0) + sumA q.1 q.2 ls) = fun q => F q + sumA q.1 q.2 (x :: ls) := funext eF
    rw [e2] at ey
    exact ey
theorem su_entries (chk : Store → Prop) (S : Store) (hc : ∀ o, chk (S ++ [o])) (x0 : Option Wv) (d : Int) : ∀ (es : List En) (l : List (Str × Str)) (F : Str × Str → Int) (x3 x4 x5 : Option Wv), (∀ q, q ∉ l → F q = 0) → (∀ e ∈ es, e.ls.length ≤ 60 ∧ 0 ≤ e.day) → l.length + 60 * es.length ≤ 1000000 →
    ∃ y3 y4 y5, sForL chk 3 lb_law_sums_2 (es.map En.w) [x0, some (I d), some (.ref S.length), x3, x4, x5] (S ++ [.dT (l.map (kvF F))]) = .nx [x0, some (I d), some (.ref S.length), y3, y4, y5] (S ++ [.dT ((pairE d l es).map (kvF fun q => F q + sumB q.1 q.2 0 d es))])
  | [], l, F, x3, x4, x5, _, _, _ => ⟨x3, x4, x5, by rw [List.map_nil, sForL, if_pos (hc _)]; simp [sumB, pairE]⟩
  | e :: es, l, F, x3, x4, x5, hF, h, hl => by
    obtain ⟨h0, h00⟩ := h e List.mem_cons_self
    simp only [List.length_cons] at hl
    have hpl := len_pairL (ls := e.ls) (l := l)
    have x1e : ∀ S, gIxI e.w 1 S = .ok (I e.day) S := fun S => by simp [En.w, En.d, gIxI_tup]
    have x3e : ∀ S, gIxI e.w 3 S = .ok (.d (.tup (e.ls.map Ln.d))) S := fun S => by simp [En.w, En.d, gIxI_tup]
    by_cases hd : e.day ≤ d
    · obtain ⟨y4, y5, e4, hF2⟩ := su_lines (fun _ => True) (fun _ => trivial) S x0 (some (I d)) (some e.w) e.ls l F x4 x5 hF (by omega)
      obtain ⟨z3, z4, z5, e5⟩ := su_entries chk S hc x0 d es (pairL l e.ls) (fun q => F q + sumA q.1 q.2 e.ls) (some e.w) y4 y5 hF2 (fun y hy => h y (List.mem_cons_of_mem _ hy)) (by omega)
      refine ⟨z3, z4, z5, ?_⟩
      have body : lb_law_sums_2 ([x0, some (I d), some (.ref S.length), x3, x4, x5].set 3 (some e.w)) (S ++ [.dT (l.map (kvF F))]) = .nx [x0, some (I d), some (.ref S.length), some e.w, y4, y5] (S ++ [.dT ((pairL l e.ls).map (kvF fun q => F q + sumA q.1 q.2 e.ls))]) := by
        rw [map_lnw] at e4
        generalize (pairL l e.ls).map (kvF fun q => F q + sumA q.1 q.2 e.ls) = K at *
        generalize l.map (kvF F) = L at *
        generalize e.w = w at *
        generalize e.ls.map Ln.d = M at *
        simp [lb_law_sums_2, x1e, x3e, hd]
        exact e4
      rw [List.map_cons, sForL, if_pos (hc _), body]
      have : pairE d l (e :: es) = pairE d (pairL l e.ls) es := by unfold pairE; rw [List.foldl_cons, if_pos hd]
      rw [this]
      have e6 : (fun q : Str × Str => F q + sumA q.1 q.2 e.ls + sumB q.1 q.2 0 d es) = fun q => F q + sumB q.1 q.2 0 d (e :: es) := funext fun q => by
        rw [sumB, if_pos ⟨h00, hd⟩]; omega
      rw [e6] at e5
      exact e5
    · obtain ⟨z3, z4, z5, e5⟩ := su_entries chk S hc x0 d es l F (some e.w) x4 x5 hF (fun y hy => h y (List.mem_cons_of_mem _ hy)) (by omega)
      refine ⟨z3, z4, z5, ?_⟩
      have body : lb_law_sums_2 ([x0, some (I d), some (.ref S.length), x3, x4, x5].set 3 (some e.w)) (S ++ [.dT (l.map (kvF F))]) = .nx [x0, some (I d), some (.ref S.length), some e.w, x4, x5] (S ++ [.dT (l.map (kvF F))]) := by
        generalize l.map (kvF F) = L at *
        generalize e.w = w at *
        simp [lb_law_sums_2, x1e, hd]
      rw [List.map_cons, sForL, if_pos (hc _), body]
      have : pairE d l (e :: es) = pairE d l es := by unfold pairE; rw [List.foldl_cons, if_neg hd]
      rw [this]
      have e6 : (fun q : Str × Str => F q + sumB q.1 q.2 0 d es) = fun q => F q + sumB q.1 q.2 0 d (e :: es) := funext fun q => by
        rw [sumB, if_neg (fun z => hd z.2)]; omega
      rw [e6] at e5
      exact e5
def smV (es : List En) (d : Int) : TKV := (pairE d [] es).map (kvF fun q => sumB q.1 q.2 0 d es)
theorem p_law_sums (p : Pl S b cu dd fi mo) (v : Iv b cu z) (d : Int) : sem_law_sums [.ref 2, I d] S = .ok (.ref S.length) (S ++ [.dT (smV b.ents d)]) := by
  have hl : b.ents.length ≤ 1000 := by have := v.s1; have := v.zl; omega
  have p1 : ∀ o, Pl (S ++ [o]) b cu dd fi mo := fun o => p.off fun m hm => List.getElem?_append_left (by have := p.lt; omega)
  obtain ⟨y3, y4, y5, e⟩ := su_entries (fun S => seqW S (.ref 5) = some (true, b.ents.map En.w)) S (fun o => seqW_ref (p1 o).ents) (some (.ref 2)) d b.ents [] (fun _ => 0) none none none (fun _ _ => rfl) (fun e he => ⟨v.elen e he, day_nn (v.eday e he)⟩) (by simp; omega)
  have e6 : (fun q : Str × Str => (0 : Int) + sumB q.1 q.2 0 d b.ents) = fun q => sumB q.1 q.2 0 d b.ents := funext fun q => by omega
  simp only [e6] at e
  unfold sem_law_sums
  rw [fnS_s, if_pos (by rfl)]
  show (sSeq _ _ [some (.ref 2), some (I d), none, none, none, none] S).out = _
  have q1 : sSet 2 evDictT [some (.ref 2), some (I d), none, none, none, none] S = .nx [some (.ref 2), some (I d), some (.ref S.length), none, none, none] (S ++ [.dT []]) := rfl
  have q2 : sFor 3 (evItems (evBin gIx (evVar 0) (evC (.str "entries")))) lb_law_sums_2 [some (.ref 2), some (I d), some (.ref S.length), none, none, none] (S ++ [.dT []]) = .nx [some (.ref 2), some (I d), some (.ref S.length), y3, y4, y5] (S ++ [.dT (smV b.ents d)]) := by
    have xE := (p1 (.dT [])).xE
    simp only [sFor_s, evItems_s, evBin_s, evVar_s, evC_s, List.getElem?_cons_zero, bind_ok, xE, itW_of (seqW_ref (p1 _).ents), toS_ok]
    exact e
  have q3 : sRet (evVar 2) [some (.ref 2), some (I d), some (.ref S.length), y3, y4, y5] (S ++ [.dT (smV b.ents d)]) = .rt (.ref S.length) (S ++ [.dT (smV b.ents d)]) := by
    generalize smV b.ents d = K
    simp
  rw [sSeq_s, q1, seq_nx, sSeq_s, q2, seq_nx, q3]
  rfl
/-! ### the law's own worth -/
def lF (b : Bk) (x : Str) (d : Int) : List (Str × Str) → Int × Int → Option (Int × Int)
  | [], a => some a
  | r :: rs, a => if r.1 = x then (match rateV b r.2 d with
    | none => none
    | some p => lF b x d rs (a.1 * p.2 + sumB r.1 r.2 0 d b.ents * p.1 * a.2, a.2 * p.2)) else lF b x d rs a
def optW : Option (Int × Int) → Wv
  | none => .d .non
  | some p => .d (.tup [.int p.1, .int p.2])
theorem pow_int {n m : Nat} (h : n ≤ m) : (10 : Int) ^ n ≤ 10 ^ m := by
  have : (10 : Nat) ^ n ≤ 10 ^ m := Nat.pow_le_pow_right (by decide) h
  exact_mod_cast this
theorem nat_of_le {q : Int} {n : Nat} (h0 : 0 ≤ q) (h : q ≤ 10 ^ n) (hn : n ≤ 200) : q.natAbs ≤ 10 ^ 200 := by
  have := pow_int hn
  have h2 : ((10 ^ 200 : Nat) : Int) = 10 ^ 200 := by simp
  omega
theorem lw_rows (chk : Store → Prop) (hc : chk S) (p : Pl S b cu dd fi mo) (v : Iv b cu z) (w : WOk b cu) (x : Str) (d : Int) (x1 : Option Wv) : ∀ (rs : List (Str × Str)) (acc : Int × Int) (j : Nat) (x6 x7 : Option Wv), Fr2 j acc → j + cntX x rs ≤ 8 →
    match lF b x d rs acc with
    | some r => ∃ y6 y7, sForL chk 6 lb_law_worth_1 (rs.map fun p => .d (shP b.ents d p)) [some (.ref 2), x1, some (T x), some (I d), some (I acc.1), some (I acc.2), x6, x7] S = .nx [some (.ref 2), x1, some (T x), some (I d), some (I r.1), some (I r.2), y6, y7] S
    | none => sForL chk 6 lb_law_worth_1 (rs.map fun p => .d (shP b.ents d p)) [some (.ref 2), x1, some (T x), some (I d), some (I acc.1), some (I acc.2), x6, x7] S = .rt (.d .non) S
  | [], acc, j, x6, x7, _, _ => ⟨x6, x7, by rw [List.map_nil, sForL, if_pos hc]⟩
  | r :: rs, acc, j, x6, x7, hf, hj => by
    have i0s : gIxI (.d (shP b.ents d r)) 0 S = .ok (T r.1) S := by simp [shP, gIxI_tup]
    have i1s : gIxI (.d (shP b.ents d r)) 1 S = .ok (T r.2) S := by simp [shP, gIxI_tup]
    have i2s : gIxI (.d (shP b.ents d r)) 2 S = .ok (I (sumB r.1 r.2 0 d b.ents)) S := by simp [shP, gIxI_tup]
    unfold lF
    by_cases hx : r.1 = x
    · have hcx : cntX x (r :: rs) = cntX x rs + 1 := by unfold cntX; rw [List.filter_cons, if_pos (by simpa using hx), List.length_cons]
      rw [if_pos hx]
      subst hx
      have pr := p_lrate p v r.2 d
      cases hp : rateV b r.2 d with
      | none =>
        rw [hp] at pr
        simp only at pr ⊢
        have body : lb_law_worth_1 ([some (.ref 2), x1, some (T r.1), some (I d), some (I acc.1), some (I acc.2), x6, x7].set 6 (some (.d (shP b.ents d r)))) S = .rt (.d .non) S := by
          generalize shP b.ents d r = z at *
          simp [lb_law_worth_1, i0s, i1s, pr, rateW]
        rw [List.map_cons, sForL, if_pos hc, body]
      | some p' =>
        rw [hp] at pr
        simp only at pr ⊢
        obtain ⟨r1, r2⟩ := rateV_ok w.hR hp
        have hv := w.val r.1 r.2 0 d
        have hq1 : 1 ≤ acc.2 := hf.pos
        have hq := nat_of_le (by omega) hf.low (show 9 * j ≤ 200 by omega)
        have m1 : MulOk acc.1 p'.2 := mulR (by omega)
        have m2 : MulOk (sumB r.1 r.2 0 d b.ents) p'.1 := mulR (by omega)
        have m3 : MulOk (sumB r.1 r.2 0 d b.ents * p'.1) acc.2 := mulS (by rw [Int.natAbs_mul]; exact Nat.le_trans (Nat.mul_le_mul hv (rt_abs r1)) (by decide)) hq
        have m4 : MulOk acc.2 p'.2 := mulR (by omega)
        have ih := lw_rows chk hc p v w r.1 d x1 rs (acc.1 * p'.2 + sumB r.1 r.2 0 d b.ents * p'.1 * acc.2, acc.2 * p'.2) (j + 1) (some (.d (shP b.ents d r))) (some (.d (.tup [.int p'.1, .int p'.2]))) (hf.next hv r1 r2) (by omega)
        have body : lb_law_worth_1 ([some (.ref 2), x1, some (T r.1), some (I d), some (I acc.1), some (I acc.2), x6, x7].set 6 (some (.d (shP b.ents d r)))) S = .nx [some (.ref 2), x1, some (T r.1), some (I d), some (I (acc.1 * p'.2 + sumB r.1 r.2 0 d b.ents * p'.1 * acc.2)), some (I (acc.2 * p'.2)), some (.d (shP b.ents d r)), some (.d (.tup [.int p'.1, .int p'.2]))] S := by
          generalize shP b.ents d r = z at *
          simp [lb_law_worth_1, i0s, i1s, i2s, pr, rateW, gIxI_tup, m1, m2, m3, m4]
        rw [List.map_cons, sForL, if_pos hc, body]
        exact ih
    · have hcx : cntX x (r :: rs) = cntX x rs := by unfold cntX; rw [List.filter_cons, if_neg (by simpa using hx)]
      rw [if_neg hx]
      have ih := lw_rows chk hc p v w x d x1 rs acc j (some (.d (shP b.ents d r))) x7 hf (by omega)
      have body : lb_law_worth_1 ([some (.ref 2), x1, some (T x), some (I d), some (I acc.1), some (I acc.2), x6, x7].set 6 (some (.d (shP b.ents d r)))) S = .nx [some (.ref 2), x1, some (T x), some (I d), some (I acc.1), some (I acc.2), some (.d (shP b.ents d r)), x7] S := by
        generalize shP b.ents d r = z at *
        simp [lb_law_worth_1, i0s, hx]
      rw [List.map_cons, sForL, if_pos hc, body]
      exact ih
theorem Iv.wok (v : Iv b cu z) : WOk b cu := ⟨v.elen, by have := v.s1; have := v.zl; omega, fun r hr => (v.rows r hr).1, fun e he l hl => (v.els e he l hl).2.2, fun e he l hl => (v.els e he l hl).2.1, v.c1, v.c4⟩
theorem p_law_worth (p : Pl S b cu dd fi mo) (v : Iv b cu z) (x : Str) (d : Int) : sem_law_worth [.ref 2, .d (.lst (shR b.ents d)), T x, I d] S = .ok (optW (lF b x d (shQ b.ents d) (0, 1))) S := by
  have w := v.wok
  have hcnt := cnt_le w.hC x d
  have c4 := w.c4
  have em : (shR b.ents d).map Wv.d = (shQ b.ents d).map fun p => .d (shP b.ents d p) := by unfold shR; rw [List.map_map]; rfl
  have lw := lw_rows (fun _ => True) trivial p v w x d (some (.d (.lst (shR b.ents d)))) (shQ b.ents d) (0, 1) 0 none none fr0 (by omega)
  rw [← em] at lw
  unfold sem_law_worth
  generalize shR b.ents d = R at *
  cases hw : lF b x d (shQ b.ents d) (0, 1) with
  | none =>
    rw [hw] at lw
    simp only at lw
    simp [fnS_s, lw, optW]
  | some r =>
    rw [hw] at lw
    obtain ⟨y6, y7, e⟩ := lw
    simp only at e
    simp [fnS_s, e, optW]
/-- both reckonings are of one worth -/
theorem wl_rows (w : WOk b cu) (x : Str) (d : Int) : ∀ (rs : List (Str × Str)) (a c : Int × Int) (j : Nat), Fr2 j a → Fr2 j c → a.1 * c.2 = c.1 * a.2 → gv a.1 a.2 = 1 →
    (wF b x d rs a = none ∧ lF b x d rs c = none) ∨ ∃ r s, wF b x d rs a = some r ∧ lF b x d rs c = some s ∧ Fr2 (j + cntX x rs) r ∧ Fr2 (j + cntX x rs) s ∧ r.1 * s.2 = s.1 * r.2 ∧ gv r.1 r.2 = 1
  | [], a, c, j, h1, h2, h3, h4 => .inr ⟨a, c, rfl, rfl, h1, h2, h3, h4⟩
  | r :: rs, a, c, j, h1, h2, h3, h4 => by
    unfold wF lF
    by_cases hx : r.1 = x
    · have hcx : cntX x (r :: rs) = cntX x rs + 1 := by unfold cntX; rw [List.filter_cons, if_pos (by simpa using hx), List.length_cons]
      rw [if_pos hx, if_pos hx, hcx]
      cases hp : rateV b r.2 d with
      | none => exact .inl ⟨rfl, rfl⟩
      | some p' =>
        simp only
        obtain ⟨r1, r2⟩ := rateV_ok w.hR hp
        have hv := w.val r.1 r.2 0 d
        have n1 := h1.next hv r1 r2
        have n2 := h2.next hv r1 r2
        have e1 := lowV_eq (t := a.1 * p'.2 + sumB r.1 r.2 0 d b.ents * p'.1 * a.2) (q := a.2 * p'.2) n1.pos
        have g1 : gv (lowV (a.1 * p'.2 + sumB r.1 r.2 0 d b.ents * p'.1 * a.2) (a.2 * p'.2)).1 (lowV (a.1 * p'.2 + sumB r.1 r.2 0 d b.ents * p'.1 * a.2) (a.2 * p'.2)).2 = 1 := gv_one (show 0 < a.2 * p'.2 from n1.pos)
        have l1 := n1.lowV
        generalize sumB r.1 r.2 0 d b.ents * p'.1 = v at *
        have e2 : (lowV (a.1 * p'.2 + v * a.2) (a.2 * p'.2)).1 * (c.2 * p'.2) = (c.1 * p'.2 + v * c.2) * (lowV (a.1 * p'.2 + v * a.2) (a.2 * p'.2)).2 := by
          have hpos : (a.2 * p'.2) ≠ 0 := by have := n1.pos; simp only at this; omega
          have key : (a.1 * p'.2 + v * a.2) * (c.2 * p'.2) = (c.1 * p'.2 + v * c.2) * (a.2 * p'.2) := by
            have : a.1 * p'.2 * (c.2 * p'.2) = c.1 * p'.2 * (a.2 * p'.2) := by
              calc a.1 * p'.2 * (c.2 * p'.2) = (a.1 * c.2) * (p'.2 * p'.2) := by ac_rfl
                _ = (c.1 * a.2) * (p'.2 * p'.2) := by rw [h3]
                _ = _ := by ac_rfl
            rw [Int.add_mul, Int.add_mul, this]
            congr 1
            ac_rfl
          generalize lowV (a.1 * p'.2 + v * a.2) (a.2 * p'.2) = l at *
          apply Int.eq_of_mul_eq_mul_right hpos
          calc l.1 * (c.2 * p'.2) * (a.2 * p'.2) = (l.1 * (a.2 * p'.2)) * (c.2 * p'.2) := by ac_rfl
            _ = ((a.1 * p'.2 + v * a.2) * l.2) * (c.2 * p'.2) := by rw [e1]
            _ = ((a.1 * p'.2 + v * a.2) * (c.2 * p'.2)) * l.2 := by ac_rfl
            _ = ((c.1 * p'.2 + v * c.2) * (a.2 * p'.2)) * l.2 := by rw [key]
            _ = _ := by ac_rfl
        have ih := wl_rows w x d rs _ _ (j + 1) l1 n2 e2 g1
        rw [show j + (cntX x rs + 1) = j + 1 + cntX x rs by omega]
        exact ih
    · have hcx : cntX x (r :: rs) = cntX x rs := by unfold cntX; rw [List.filter_cons, if_neg (by simpa using hx)]
      rw [if_neg hx, if_neg hx, hcx]
      exact wl_rows w x d rs a c j h1 h2 h3 h4
end
end DL

namespace DL
open PySem PySem.Spec PyProof.Rows L2
section
variable {S : Store} {b : Bk} {cu : List Str} {dd : List Dd} {fi mo : Int} {z : Nat}
theorem p_lcommon (S : Store) (a b : Int) (h0 : 0 ≤ b) : sem_law_common [I a, I b] S = .ok (I (gv a b)) S := by
  obtain ⟨r', e⟩ := p_gcd S a b none h0
  unfold sem_law_common
  simp [fnS_s, e]
/-- the book's answers -/
theorem p_worthI (a : At S 10 b) (v : Iv b cu z) (x : Str) (d : Int) : sem_worth [.ref 10, T x, I d] S = if x ∈ b.names then (if isDay d = true then (match worthV b x d with
      | some r => .ok (.d (.tup [.int r.1, .int r.2])) S
      | none => .rz 13 S) else .rz 4 S) else .rz 11 S :=
  p_worth a v.wok x d fun hd => ⟨(.ref S.length, [.lst ((shR b.ents d).map .d)]), p_sheet a v.elen v.wok.hl d hd, fun S' e => by
    rw [e]
    exact itW_of (seqW_ref (by simp)), seqW_ref (by simp)⟩
theorem p_valued (p : Pl S b cu dd fi mo) (a : At S 10 b) (v : Iv b cu z) (x : Str) (hx : x ∈ b.names) (d : Int) (hd : isDay d = true) : sem_law_valued [.ref 10, .ref 2, .d (.lst (shR b.ents d)), T x, I d] S = .ok (Bo true) S := by
  have w := v.wok
  have hcnt := cnt_le w.hC x d
  have c4 := w.c4
  have pw := p_worthI a v x d
  rw [if_pos hx, if_pos hd] at pw
  have pl := p_law_worth p v x d
  have rel := wl_rows w x d (shQ b.ents d) (0, 1) (0, 1) 0 fr0 fr0 rfl rfl
  rw [show wF b x d (shQ b.ents d) (0, 1) = worthV b x d from rfl] at rel
  generalize shR b.ents d = R at *
  unfold sem_law_valued
  rw [fnS_s, if_pos (by rfl)]
  show (sSeq _ _ [some (.ref 10), some (.ref 2), some (.d (.lst R)), some (T x), some (I d), none, none] S).out = _
  rcases rel with ⟨h1, h2⟩ | ⟨r, s, h1, h2, h3, h4, h5, h6⟩
  · rw [h1] at pw
    rw [h2] at pl
    have q1 : st_law_valued_1 [some (.ref 10), some (.ref 2), some (.d (.lst R)), some (T x), some (I d), none, none] S = .nx [some (.ref 10), some (.ref 2), some (.d (.lst R)), some (T x), some (I d), some (.d .non), none] S := by
      simp [pl, optW]
    have pr : sem_law_refused [.ref 10, T x, I d] S = .ok (T "NoRate") S := by
      unfold sem_law_refused
      simp [fnS_s, pw, csl, isSub_lit]
    have q2 : st_law_valued_2 [some (.ref 10), some (.ref 2), some (.d (.lst R)), some (T x), some (I d), some (.d .non), none] S = .rt (Bo true) S := by
      simp [pr]
    rw [sSeq_s, q1, seq_nx, sSeq_s, q2]
    rfl
  · rw [h1] at pw
    rw [h2] at pl
    simp only at pw
    have hj : 0 + cntX x (shQ b.ents d) ≤ 8 := by omega
    have q1 : st_law_valued_1 [some (.ref 10), some (.ref 2), some (.d (.lst R)), some (T x), some (I d), none, none] S = .nx [some (.ref 10), some (.ref 2), some (.d (.lst R)), some (T x), some (I d), some (.d (.tup [.int s.1, .int s.2])), none] S := by
      simp [pl, optW]
    have q2 : st_law_valued_2 [some (.ref 10), some (.ref 2), some (.d (.lst R)), some (T x), some (I d), some (.d (.tup [.int s.1, .int s.2])), none] S = .nx [some (.ref 10), some (.ref 2), some (.d (.lst R)), some (T x), some (I d), some (.d (.tup [.int s.1, .int s.2])), none] S := by
      simp
    have q3 : st_law_valued_3 [some (.ref 10), some (.ref 2), some (.d (.lst R)), some (T x), some (I d), some (.d (.tup [.int s.1, .int s.2])), none] S = .nx [some (.ref 10), some (.ref 2), some (.d (.lst R)), some (T x), some (I d), some (.d (.tup [.int s.1, .int s.2])), some (.d (.tup [.int r.1, .int r.2]))] S := by
      simp [pw]
    have pwh : ∀ i, sem_law_whole [I i] S = .ok (Bo true) S := p_whole S
    have q4 : st_law_valued_4 [some (.ref 10), some (.ref 2), some (.d (.lst R)), some (T x), some (I d), some (.d (.tup [.int s.1, .int s.2])), some (.d (.tup [.int r.1, .int r.2]))] S = .nx [some (.ref 10), some (.ref 2), some (.d (.lst R)), some (T x), some (I d), some (.d (.tup [.int s.1, .int s.2])), some (.d (.tup [.int r.1, .int r.2]))] S := by
      simp [gIxI_tup, pwh]
    have r1 : 1 ≤ r.2 := h3.pos
    have r1' : ¬ r.2 < 1 := by omega
    have s1 : 1 ≤ s.2 := h4.pos
    have ba : ∀ {t : Int}, t.natAbs ≤ 10 ^ (40 + 10 * (0 + cntX x (shQ b.ents d))) → t.natAbs ≤ 10 ^ 200 := fun h => Nat.le_trans h (Nat.pow_le_pow_right (by decide) (by omega))
    have m1 : MulOk r.1 s.2 := mulS (ba h3.top) (nat_of_le (by omega) h4.low (by omega))
    have m2 : MulOk s.1 r.2 := mulS (ba h4.top) (nat_of_le (by omega) h3.low (by omega))
    have q5 : st_law_valued_5 [some (.ref 10), some (.ref 2), some (.d (.lst R)), some (T x), some (I d), some (.d (.tup [.int s.1, .int s.2])), some (.d (.tup [.int r.1, .int r.2]))] S = .nx [some (.ref 10), some (.ref 2), some (.d (.lst R)), some (T x), some (I d), some (.d (.tup [.int s.1, .int s.2])), some (.d (.tup [.int r.1, .int r.2]))] S := by
      simp [gIxI_tup, r1', m1, m2, h5]
    have pc := p_lcommon S r.1 r.2 (by omega)
    rw [h6] at pc
    have q6 : st_law_valued_6 [some (.ref 10), some (.ref 2), some (.d (.lst R)), some (T x), some (I d), some (.d (.tup [.int s.1, .int s.2])), some (.d (.tup [.int r.1, .int r.2]))] S = .rt (Bo true) S := by
      simp [gIxI_tup, pc]
    rw [sSeq_s, q1, seq_nx, sSeq_s, q2, seq_nx, sSeq_s, q3, seq_nx, sSeq_s, q4, seq_nx, sSeq_s, q5, seq_nx, q6]
    rfl
theorem gIx_T {S : Store} {n : Nat} {kvs : TKV} (h : S[n]? = some (.dT kvs)) (q : Str × Str) {w : Wv} (e : atK kvs (keyP q) = some w) : gIx (.ref n) (.d (pS q)) S = .ok w S := by
  have e2 := dictW_T h q.1 q.2
  rw [show ([Sum.inr q.1, Sum.inr q.2] : List Key) = keyP q from rfl, e] at e2
  show gIxD (.ref n) (.d (.tup [.str q.1, .str q.2])) S = _
  unfold gIxD
  simp only [e2]
/-- a day asked for -/
theorem p_day_good (p : Pl S b cu dd fi mo) (a : At S 10 b) (v : Iv b cu z) (d : Int) (hd : isDay d = true) (x y : Str) (hx : x ∈ b.names) (hy : y ∈ b.names) (H : List Wv) (hH : S[18]? = some (.lst H)) (hHl : H.length ≤ 100) :
    ∃ (S' : Store) (w : Wv), sem_law_day_good [.ref 10, .ref 2, I d, .d (.lst [.str x, .str y]), .ref 18] S = .ok (Bo true) S' ∧ Kp18 S S' ∧ S'[18]? = some (.lst (H ++ [w])) ∧ HeldOk S' w := by
  have hS := getL_lt hH
  have hel : b.ents.length ≤ 1000 := v.wok.hl
  have h60 := v.elen
  have ps := p_law_sums p v d
  have hRl := sh_len h60 d
  have hRd := shR_dep b.ents d
  obtain ⟨S1, hS1⟩ : ∃ S1, S ++ [.dT (smV b.ents d)] = S1 := ⟨_, rfl⟩
  rw [hS1] at ps
  have k1 : Kp18 S S1 := hS1 ▸ .app ..
  have l1 : S1.length = S.length + 1 := by rw [← hS1]; simp
  have o1 : S1[S.length]? = some (.dT (smV b.ents d)) := by rw [← hS1]; simp
  have a1 := k1.at a hS
  have psh1 := p_sheet a1 h60 hel d hd
  -- the law's rows
  have gT := gListT_s o1
  have eT : (smV b.ents d).map (fun kv => kD kv.1) = (pairE d [] b.ents).map pS := by unfold smV; rw [List.map_map]; rfl
  rw [eT] at gT
  have gS := gSortedS_s (pairE d [] b.ents) S1
  rw [show sortS (pairE d [] b.ents) = pairsV b.ents d from rfl] at gS
  have hpl := len_pairsV (d := d) h60
  have at1 : ∀ q ∈ pairsV b.ents d, gIx (.ref S.length) (.d (pS q)) S1 = .ok (I (sumB q.1 q.2 0 d b.ents)) S1 := fun q hq => by
    refine gIx_T o1 q ?_
    have hq2 : q ∈ pairE d [] b.ents := (sortG_perm _).mem_iff.mp hq
    unfold smV
    rw [atK_kvF, if_pos hq2]
  have ec := lc_eq (S := S1) (ρ := [some (.ref 10), some (.ref 2), some (I d), some (.d (.lst [.str x, .str y])), some (.ref 18), some (.ref S.length), none, none, none, none, none]) (fun S => seqW S (.d (.lst ((pairsV b.ents d).map pS))) = some (true, ((pairsV b.ents d).map pS).map .d)) 10 (evT (evBin (gEq true) (evBin gIx (evVar 5) (evVar 10)) (evC (.int 0)))) (evN gTup (evCons (evBin gIx (evVar 10) (evC (.int 0))) (evCons (evBin gIx (evVar 10) (evC (.int 1))) (evCons (evBin gIx (evVar 5) (evVar 10)) evNil)))) (fun q : Str × Str => .d (pS q)) (fun q => decide (sumB q.1 q.2 0 d b.ents ≠ 0)) (fun q => .d (shP b.ents d q)) rfl (fun _ => rfl) (pairsV b.ents d) [] (by
    intro q hq
    have g := at1 q hq
    have i0 : gIxI (.d (pS q)) 0 S1 = .ok (T q.1) S1 := by simp [pS, gIxI_tup]
    have i1 : gIxI (.d (pS q)) 1 S1 = .ok (T q.2) S1 := by simp [pS, gIxI_tup]
    constructor
    · generalize pS q = w at *
      by_cases h : sumB q.1 q.2 0 d b.ents = 0 <;> simp [g, h]
    · intro _
      unfold shP
      generalize pS q = w at *
      simp [g, i0, i1])
  have em : ((pairsV b.ents d).map pS).map Wv.d = (pairsV b.ents d).map fun q => .d (pS q) := by rw [List.map_map]; rfl
  have er : ((pairsV b.ents d).filter fun q => decide (sumB q.1 q.2 0 d b.ents ≠ 0)).map (fun q => Wv.d (shP b.ents d q)) = (shR b.ents d).map .d := by unfold shR shQ; rw [List.map_map]; rfl
  rw [er, List.nil_append] at ec
  have q2 : st_law_day_good_2 [some (.ref 10), some (.ref 2), some (I d), some (.d (.lst [.str x, .str y])), some (.ref 18), some (.ref S.length), none, none, none, none, none] S1 = .nx [some (.ref 10), some (.ref 2), some (I d), some (.d (.lst [.str x, .str y])), some (.ref 18), some (.ref S.length), some (.d (.lst (shR b.ents d))), none, none, none, none] S1 := by
    show sSet 6 _ _ _ = _
    rw [sSet_s, evLc_s, evItems_s]
    simp only [evN_s, evCons_s, evNil_s, evVar_s, List.getElem?_cons_zero, List.getElem?_cons_succ, bind_ok, gT, gS, itW_lst, List.length_map, wipeE_cons, wipeE_nil, List.set_cons_succ, List.set_cons_zero]
    rw [if_pos (by omega)]
    simp only [seqW_lst, em] at ec ⊢
    rw [ec, bind_ok, gFrz_map, toS_ok, List.map_id'] <;> rfl
  have p1 := k1.pl p hS
  obtain ⟨R, hR⟩ : ∃ R, shR b.ents d = R := ⟨_, rfl⟩
  have hform : ∀ r ∈ R, ∃ c1 c2 i, r = .tup [.str c1, .str c2, .int i] := fun r hr => by
    rw [← hR] at hr
    obtain ⟨q, _, rfl⟩ := List.mem_map.mp hr
    exact ⟨_, _, _, rfl⟩
  have pv : ∀ {S' : Store} (_ : Pl S' b cu dd fi mo) (_ : At S' 10 b) (u : Str), u ∈ b.names → sem_law_valued [.ref 10, .ref 2, .d (.lst R), T u, I d] S' = .ok (Bo true) S' := fun p' a' u hu => by
    rw [← hR]
    exact p_valued p' a' v u hu d hd
  have psh : ∀ {S' : Store}, At S' 10 b → sem_sheet [.ref 10, I d] S' = .ok (.ref S'.length) (S' ++ [.lst (R.map .d)]) := fun a' => by
    rw [← hR]
    exact p_sheet a' h60 hel d hd
  rw [hR] at psh1 q2 hRl hRd
  obtain ⟨S2, hS2⟩ : ∃ S2, S1 ++ [.lst (R.map .d)] = S2 := ⟨_, rfl⟩
  rw [hS2] at psh1
  have k2 : Kp18 S1 S2 := hS2 ▸ .app ..
  have l2 : S2.length = S.length + 2 := by rw [← hS2]; simp [l1]
  have o2 : S2[S1.length]? = some (.lst (R.map .d)) := by rw [← hS2]; simp
  obtain ⟨S3, hS3⟩ : ∃ S3, S2.set S1.length (.lst ((R ++ [D.str "more"]).map .d)) = S3 := ⟨_, rfl⟩
  have k3 : Kp18 S1 S3 := hS3 ▸ k2.set' (Nat.le_refl _)
  have l3 : S3.length = S.length + 2 := by rw [← hS3]; simp [l2]
  have o3 : S3[S1.length]? = some (.lst ((R ++ [D.str "more"]).map .d)) := by rw [← hS3, List.getElem?_set_self (by omega)]
  obtain ⟨S4, hS4⟩ : ∃ S4, S3 ++ [.tup [.ref S1.length, .d (.lst (R ++ [D.str "more"]))]] = S4 := ⟨_, rfl⟩
  have k4 : Kp18 S3 S4 := hS4 ▸ .app ..
  have l4 : S4.length = S.length + 3 := by rw [← hS4]; simp [l3]
  have o4 : S4[S3.length]? = some (.tup [.ref S1.length, .d (.lst (R ++ [D.str "more"]))]) := by rw [← hS4]; simp
  have o4a : S4[S1.length]? = some (.lst ((R ++ [D.str "more"]).map .d)) := by rw [← hS4, List.getElem?_append_left (by omega)]; exact o3
  have h1 : S1[18]? = some (.lst H) := by rw [← hS1, List.getElem?_append_left (by omega)]; exact hH
  have h2 : S2[18]? = some (.lst H) := by rw [← hS2, List.getElem?_append_left (by omega)]; exact h1
  have h3 : S3[18]? = some (.lst H) := by rw [← hS3, List.getElem?_set_ne (by omega)]; exact h2
  have h4 : S4[18]? = some (.lst H) := by rw [← hS4, List.getElem?_append_left (by omega)]; exact h3
  obtain ⟨S5, hS5⟩ : ∃ S5, S4.set 18 (.lst (H ++ [.ref S3.length])) = S5 := ⟨_, rfl⟩
  have k5 : Kp18 S4 S5 := hS5 ▸ .set ..
  have h5 : S5[18]? = some (.lst (H ++ [.ref S3.length])) := by rw [← hS5, List.getElem?_set_self (by omega)]
  have l5 : S5.length = S.length + 3 := by rw [← hS5]; simp [l4]
  have k15 := (k3.trans k4).trans k5
  have k05 := k1.trans k15
  have p5 := k05.pl p hS
  have a5 := k05.at a hS
  obtain ⟨S6, hS6⟩ : ∃ S6, S5 ++ [.lst (R.map .d)] = S6 := ⟨_, rfl⟩
  have k6 : Kp18 S5 S6 := hS6 ▸ .app ..
  have o6 : S6[S5.length]? = some (.lst (R.map .d)) := by rw [← hS6]; simp
  have h6 : S6[18]? = some (.lst (H ++ [.ref S3.length])) := by rw [← hS6, List.getElem?_append_left (by omega)]; exact h5
  have k46 := k5.trans k6
  refine ⟨S6, .ref S3.length, ?_, k05.trans k6, h6, .inr ⟨S3.length, S1.length, R ++ [D.str "more"], by omega, by omega, rfl, (k46.2 _ (by omega) (by omega)).trans o4, (k46.2 _ (by omega) (by omega)).trans o4a, by rw [depAll_app]; simp; omega⟩⟩
  unfold sem_law_day_good
  rw [fnS_s, if_pos (by rfl)]
  show (sSeq _ _ [some (.ref 10), some (.ref 2), some (I d), some (.d (.lst [.str x, .str y])), some (.ref 18), none, none, none, none, none, none] S).out = _
  have q1 : st_law_day_good_1 [some (.ref 10), some (.ref 2), some (I d), some (.d (.lst [.str x, .str y])), some (.ref 18), none, none, none, none, none, none] S = .nx [some (.ref 10), some (.ref 2), some (I d), some (.d (.lst [.str x, .str y])), some (.ref 18), some (.ref S.length), none, none, none, none, none] S1 := by
    simp [ps]
  have q3 : st_law_day_good_3 [some (.ref 10), some (.ref 2), some (I d), some (.d (.lst [.str x, .str y])), some (.ref 18), some (.ref S.length), some (.d (.lst R)), none, none, none, none] S1 = .nx [some (.ref 10), some (.ref 2), some (I d), some (.d (.lst [.str x, .str y])), some (.ref 18), some (.ref S.length), some (.d (.lst R)), some (.ref S1.length), none, none, none] S2 := by
    simp [psh1]
  have eR : ∀ (neg : Bool) (S' : Store) (m : Nat), S'[m]? = some (.lst (R.map .d)) → gEq neg (.ref m) (.d (.lst R)) S' = .ok (Bo (if neg = true then false else true)) S' := fun neg S' m h => by
    rw [gEq_of (asD_ref h) (asD_d _) (by rw [dep_lst]; omega), eqD_refl]
    cases neg <;> rfl
  have q4 : st_law_day_good_4 [some (.ref 10), some (.ref 2), some (I d), some (.d (.lst [.str x, .str y])), some (.ref 18), some (.ref S.length), some (.d (.lst R)), some (.ref S1.length), none, none, none] S2 = .nx [some (.ref 10), some (.ref 2), some (I d), some (.d (.lst [.str x, .str y])), some (.ref 18), some (.ref S.length), some (.d (.lst R)), some (.ref S1.length), none, none, none] S2 := by
    have t2 : gIsi .list (.ref S1.length) S2 = .ok (Bo true) S2 := by
      unfold gIsi isTy
      simp only [o2]
    simp [t2, eR true S2 S1.length o2]
  obtain ⟨e5, f5, x8, rfl⟩ := for_stay (fun S => seqW S (.ref S1.length) = some (true, R.map .d)) 8 lb_law_day_good_1 (fun r : D => .d r) (fun ρ => ∃ x8, ρ = [some (.ref 10), some (.ref 2), some (I d), some (.d (.lst [.str x, .str y])), some (.ref 18), some (.ref S.length), some (.d (.lst R)), some (.ref S1.length), x8, none, none]) S2 (seqW_ref o2) R [some (.ref 10), some (.ref 2), some (I d), some (.d (.lst [.str x, .str y])), some (.ref 18), some (.ref S.length), some (.d (.lst R)), some (.ref S1.length), none, none, none] (by
    rintro r hr _ ⟨x8, rfl⟩
    obtain ⟨c1, c2, i, rfl⟩ := hform r hr
    have pw := p_whole S2 i
    refine ⟨_, ?_, some (.d (.tup [.str c1, .str c2, .int i])), rfl⟩
    simp [lb_law_day_good_1, gIxI_tup, pw]) ⟨none, rfl⟩
  have q5 : st_law_day_good_5 [some (.ref 10), some (.ref 2), some (I d), some (.d (.lst [.str x, .str y])), some (.ref 18), some (.ref S.length), some (.d (.lst R)), some (.ref S1.length), none, none, none] S2 = .nx [some (.ref 10), some (.ref 2), some (I d), some (.d (.lst [.str x, .str y])), some (.ref 18), some (.ref S.length), some (.d (.lst R)), some (.ref S1.length), x8, none, none] S2 := by
    show sFor 8 _ _ _ _ = _
    simp only [sFor_s, evItems_s, evVar_s, List.getElem?_cons_zero, List.getElem?_cons_succ, bind_ok, itW_of (seqW_ref o2), toS_ok]
    exact f5
  have q6 : st_law_day_good_6 [some (.ref 10), some (.ref 2), some (I d), some (.d (.lst [.str x, .str y])), some (.ref 18), some (.ref S.length), some (.d (.lst R)), some (.ref S1.length), x8, none, none] S2 = .nx [some (.ref 10), some (.ref 2), some (I d), some (.d (.lst [.str x, .str y])), some (.ref 18), some (.ref S.length), some (.d (.lst R)), some (.ref S1.length), x8, none, none] S3 := by
    have ap := gAppend_ref (u := T "more") o2 rfl (by rw [List.length_map]; omega)
    have e' : R.map Wv.d ++ [T "more"] = (R ++ [D.str "more"]).map .d := by simp
    rw [e', hS3] at ap
    have lo := lstOf_ref o2
    simp [lo, ap]
  have q7 : st_law_day_good_7 [some (.ref 10), some (.ref 2), some (I d), some (.d (.lst [.str x, .str y])), some (.ref 18), some (.ref S.length), some (.d (.lst R)), some (.ref S1.length), x8, none, none] S3 = .nx [some (.ref 10), some (.ref 2), some (I d), some (.d (.lst [.str x, .str y])), some (.ref 18), some (.ref S.length), some (.d (.lst R)), some (.ref S1.length), x8, none, none] S5 := by
    have lo := lstOf_ref h3
    have ap := gAppend_ref (u := .ref S3.length) h4 rfl (by omega)
    rw [hS5] at ap
    have hlen : R.length + 1 ≤ 16777216 := by omega
    simp [lo, hlen, allD, Wv.calm, hS4, ap]
  obtain ⟨e8, f8, x9, rfl⟩ := for_stay (fun S => seqW S (.d (.lst [.str x, .str y])) = some (true, [T x, T y])) 9 lb_law_day_good_2 T (fun ρ => ∃ x9, ρ = [some (.ref 10), some (.ref 2), some (I d), some (.d (.lst [.str x, .str y])), some (.ref 18), some (.ref S.length), some (.d (.lst R)), some (.ref S1.length), x8, x9, none]) S5 rfl [x, y] [some (.ref 10), some (.ref 2), some (I d), some (.d (.lst [.str x, .str y])), some (.ref 18), some (.ref S.length), some (.d (.lst R)), some (.ref S1.length), x8, none, none] (by
    rintro u hu _ ⟨x9, rfl⟩
    have hu' : u ∈ b.names := by
      simp only [List.mem_cons, List.not_mem_nil, or_false] at hu
      rcases hu with rfl | rfl <;> assumption
    have pvv := pv p5 a5 u hu'
    refine ⟨_, ?_, some (T u), rfl⟩
    simp [lb_law_day_good_2, pvv]) ⟨none, rfl⟩
  have q8 : st_law_day_good_8 [some (.ref 10), some (.ref 2), some (I d), some (.d (.lst [.str x, .str y])), some (.ref 18), some (.ref S.length), some (.d (.lst R)), some (.ref S1.length), x8, none, none] S5 = .nx [some (.ref 10), some (.ref 2), some (I d), some (.d (.lst [.str x, .str y])), some (.ref 18), some (.ref S.length), some (.d (.lst R)), some (.ref S1.length), x8, x9, none] S5 := by
    show sFor 9 _ _ _ _ = _
    simp only [sFor_s, evItems_s, evVar_s, List.getElem?_cons_zero, List.getElem?_cons_succ, bind_ok, itW_lst, toS_ok]
    exact f8
  have q9 : st_law_day_good_9 [some (.ref 10), some (.ref 2), some (I d), some (.d (.lst [.str x, .str y])), some (.ref 18), some (.ref S.length), some (.d (.lst R)), some (.ref S1.length), x8, x9, none] S5 = .rt (Bo true) S6 := by
    have ps5 := psh a5
    rw [hS6] at ps5
    simp [ps5, eR false S6 S5.length o6]
  rw [sSeq_s, q1, seq_nx, sSeq_s, q2, seq_nx, sSeq_s, q3, seq_nx, sSeq_s, q4, seq_nx, sSeq_s, q5, seq_nx, sSeq_s, q6, seq_nx, sSeq_s, q7, seq_nx, sSeq_s, q8, seq_nx, q9]
  rfl
/-! ### what is refused -/
theorem p_refusedN (a : At S 10 b) (v : Iv b cu z) (d : Int) (hd : isDay d = false) : sem_law_refused [.ref 10, T "stranger", I d] S = .ok (T "NoAccount") S ∧ sem_law_refused [.ref 10, T "exchange", I d] S = .ok (T "BadDay") S ∧ sem_law_based [.ref 10, I d] S = .ok (Bo true) S := by
  have w1 := p_worthI a v "stranger" d
  rw [if_neg v.st] at w1
  have w2 := p_worthI a v "exchange" d
  rw [if_pos v.n5, hd, if_neg Bool.false_ne_true] at w2
  have sh := p_sheet_bad a.i0 d hd
  refine ⟨?_, ?_, ?_⟩
  · unfold sem_law_refused
    simp [fnS_s, w1, csl, isSub_lit]
  · unfold sem_law_refused
    simp [fnS_s, w2, csl, isSub_lit]
  · unfold sem_law_based
    simp [fnS_s, sh, csl, isSub_lit, evAndV_s]
end
end DL

/-! the law, part by part -/
namespace DL
open PySem PySem.Spec PyProof.Rows L2
/-- up to the drawn place -/
theorem part1 (ns : List Int) (hn : ns.length ≤ 63) : ∃ S b cu dd fi mo place, 0 ≤ place ∧ place ≤ 1000 ∧ Pl S b cu dd fi mo ∧ At S 10 b ∧ Iv b cu 120 ∧ S.length = 18 ∧ dd.length ≤ 110 ∧
    ∀ K : Sv, sSeq st_law_1 (sSeq st_law_2 (sSeq st_law_3 (sSeq st_law_4 K))) [some (.scr ns), none, none, none, none, none, none, none, none] [] = K [some (.scr ns), some (.ref 2), some (.ref 10), some (I place), none, none, none, none, none] S := by
  obtain ⟨S0, S1, b, cu, fi, e0, e1, p1, a1, v1, l1, z1, z2, z3, z4, z5, z6⟩ := p_begin ns
  have g1 : st_law_1 [some (.scr ns), none, none, none, none, none, none, none, none] [] = .nx [some (.scr ns), some (.ref 2), none, none, none, none, none, none, none] S0 := by
    unfold st_law_1
    simp [e0]
  have g2 : st_law_2 [some (.scr ns), some (.ref 2), none, none, none, none, none, none, none] S0 = .nx [some (.scr ns), some (.ref 2), some (.ref 10), none, none, none, none, none, none] S1 := by
    unfold st_law_2
    simp [e1]
  have c5 := p_cell S1 ns 5 (by decide)
  obtain ⟨place, hpl⟩ : ∃ z, 6 + 3 * (cell ns 5 / 11 % (1 + (ns.length : Int) / 3)) = z := ⟨_, rfl⟩
  have hpos : 0 < 1 + (ns.length : Int) / 3 := by omega
  have r0 := Int.emod_nonneg (cell ns 5 / 11) (b := 1 + (ns.length : Int) / 3) (by omega)
  have r1 := Int.emod_lt_of_pos (cell ns 5 / 11) hpos
  have g3 : st_law_3 [some (.scr ns), some (.ref 2), some (.ref 10), none, none, none, none, none, none] S1 = .nx [some (.scr ns), some (.ref 2), some (.ref 10), some (I place), none, none, none, none, none] S1 := by
    have m3 : MulOk 3 (cell ns 5 / 11 % (1 + (ns.length : Int) / 3)) := mulL (by decide)
    have w11 : Sm 11 := by decide
    have w3 : Sm 3 := by decide
    generalize cell ns 5 = y at *
    obtain ⟨q, hq⟩ : ∃ q, 1 + (ns.length : Int) / 3 = q := ⟨_, rfl⟩
    rw [hq] at hpos m3 hpl
    unfold st_law_3
    simp [c5, w11, w3, hq, hpos, m3, hpl]
  obtain ⟨S2, b2, dd2, mo2, e2, p2, a2, v2, f2, d2, en2, _⟩ := p_bulk p1 a1 v1 z2 (cell ns 5) 40 (by decide) (by decide) (by decide)
  obtain ⟨S3, b3, dd3, e3, p3, a3, v3, f3, d3, _, _⟩ := p_deeds p2 a2 v2 (by decide) (by simp at d2; omega) ns hn 6 place (by decide) (by decide) (by omega) (by omega)
  have g4 : st_law_4 [some (.scr ns), some (.ref 2), some (.ref 10), some (I place), none, none, none, none, none] S1 = .nx [some (.scr ns), some (.ref 2), some (.ref 10), some (I place), none, none, none, none, none] S3 := by
    unfold st_law_4
    simp [c5, e2, e3]
  refine ⟨S3, b3, cu, dd3, fi, mo2, place, by omega, by omega, p3, a3, v3.up (by decide) (by decide), by rw [f3.1, f2.1, l1], by simp at d2; omega, fun K => ?_⟩
  rw [sSeq_s, g1, seq_nx, sSeq_s, g2, seq_nx, sSeq_s, g3, seq_nx, sSeq_s, g4, seq_nx]
/-- what is asked for -/
theorem part2 (ns : List Int) {S : Store} {b : Bk} {cu : List Str} {dd : List Dd} {fi mo : Int} (p : Pl S b cu dd fi mo) (a : At S 10 b) (v : Iv b cu 120) (hl : S.length = 18) (pl : Wv) :
    ∃ d x y, isDay d = true ∧ x ∈ b.names ∧ y ∈ b.names ∧ ∀ K : Sv, sSeq st_law_5 (sSeq st_law_6 (sSeq st_law_7 (sSeq st_law_8 K))) [some (.scr ns), some (.ref 2), some (.ref 10), some pl, none, none, none, none, none] S = K [some (.scr ns), some (.ref 2), some (.ref 10), some pl, some (I d), some (.d (.lst [.str x, .str y])), some (.ref 18), none, none] (S ++ [.lst []]) := by
  have c4 := p_cell S ns 4 (by decide)
  have c5 := p_cell S ns 5 (by decide)
  obtain ⟨d, hd, e5⟩ := p_asked_day p v (cell ns 4)
  have n3 := v.n3
  have g5 : st_law_5 [some (.scr ns), some (.ref 2), some (.ref 10), some pl, none, none, none, none, none] S = .nx [some (.scr ns), some (.ref 2), some (.ref 10), some pl, some (I d), none, none, none, none] S := by
    unfold st_law_5
    simp [c4, e5]
  have xN := p.xN
  have g6 : st_law_6 [some (.scr ns), some (.ref 2), some (.ref 10), some pl, some (I d), none, none, none, none] S = .nx [some (.scr ns), some (.ref 2), some (.ref 10), some pl, some (I d), some (.ref 1), none, none, none] S := by
    unfold st_law_6
    simp [xN]
  have gN := gLen_ref p.names
  rw [List.length_map] at gN
  have i1 := pickL_at p.names (by omega) (cell ns 5 / 3)
  have i2 := pickL_at p.names (by omega) (cell ns 4 / 5)
  have m1 := pickL_mem (l := b.names) (by omega) (cell ns 5 / 3)
  have m2 := pickL_mem (l := b.names) (by omega) (cell ns 4 / 5)
  have w3 : Sm 3 := by decide
  have w5 : Sm 5 := by decide
  have hnl : 0 < (b.names.length : Int) := by omega
  have hnl' : 0 < b.names.length := by omega
  generalize pickL b.names (cell ns 5 / 3) = x at *
  generalize pickL b.names (cell ns 4 / 5) = y at *
  have g7 : st_law_7 [some (.scr ns), some (.ref 2), some (.ref 10), some pl, some (I d), some (.ref 1), none, none, none] S = .nx [some (.scr ns), some (.ref 2), some (.ref 10), some pl, some (I d), some (.d (.lst [.str x, .str y])), none, none, none] S := by
    unfold st_law_7
    simp [c4, c5, w3, w5, gN, hnl, hnl', i1, i2]
  have g8 : st_law_8 [some (.scr ns), some (.ref 2), some (.ref 10), some pl, some (I d), some (.d (.lst [.str x, .str y])), none, none, none] S = .nx [some (.scr ns), some (.ref 2), some (.ref 10), some pl, some (I d), some (.d (.lst [.str x, .str y])), some (.ref 18), none, none] (S ++ [.lst []]) := by
    unfold st_law_8
    simp [gLstS_s, hl]
  refine ⟨d, x, y, hd, m1, m2, fun K => ?_⟩
  rw [sSeq_s, g5, seq_nx, sSeq_s, g6, seq_nx, sSeq_s, g7, seq_nx, sSeq_s, g8, seq_nx]
/-- asked, deeds, asked again -/
theorem part3 (ns : List Int) (hn : ns.length ≤ 63) {S : Store} {b : Bk} {cu : List Str} {dd : List Dd} {fi mo : Int} (p : Pl S b cu dd fi mo) (a : At S 10 b) (v : Iv b cu 120) (hd : dd.length ≤ 110) (place : Int) (h0 : 0 ≤ place) (h1 : place ≤ 1000)
    (h18 : S[18]? = some (.lst [])) (d : Int) (hday : isDay d = true) (x y : Str) (hx : x ∈ b.names) (hy : y ∈ b.names) :
    ∃ S', sSeq st_law_9 (sSeq st_law_10 (sSeq st_law_11 (sSeq st_law_12 st_law_13))) [some (.scr ns), some (.ref 2), some (.ref 10), some (I place), some (I d), some (.d (.lst [.str x, .str y])), some (.ref 18), none, none] S = .rt (Bo true) S' := by
  have hS := getL_lt h18
  obtain ⟨S1, w1, e1, k1, o1, q1⟩ := p_day_good p a v d hday x y hx hy [] h18 (by decide)
  have p1 := k1.pl p hS
  have a1 := k1.at a hS
  obtain ⟨S2, b2, dd2, e2, p2, a2, v2, f2, d2, _, gr⟩ := p_deeds p1 a1 v (by decide) (by omega) ns hn place 63 h0 h1 (by decide) (by decide)
  have g9 : st_law_9 [some (.scr ns), some (.ref 2), some (.ref 10), some (I place), some (I d), some (.d (.lst [.str x, .str y])), some (.ref 18), none, none] S = .nx [some (.scr ns), some (.ref 2), some (.ref 10), some (I place), some (I d), some (.d (.lst [.str x, .str y])), some (.ref 18), none, none] S2 := by
    unfold st_law_9
    simp [e1, e2]
  have o2 : S2[18]? = some (.lst [w1]) := (f2.2 18 (by decide)).trans o1
  have c5 := p_cell S2 ns 5 (by decide)
  have m9 := Int.emod_nonneg (cell ns 5) (b := 1000000000) (by decide)
  obtain ⟨k, hk, ek⟩ : ∃ k, isDay k = false ∧ gIxI (.d (.lst [.int (-1), .int 100000, .int (0 - 1 - cell ns 5 % 1000000000)])) (cell ns 5 % 3) S2 = .ok (I k) S2 := by
    have h : cell ns 5 % 3 = 0 ∨ cell ns 5 % 3 = 1 ∨ cell ns 5 % 3 = 2 := by omega
    rcases h with h | h | h <;> rw [h]
    · exact ⟨-1, by decide, rfl⟩
    · exact ⟨100000, by decide, by rw [gIxI_lst, at1]⟩
    · refine ⟨0 - 1 - cell ns 5 % 1000000000, ?_, by rw [gIxI_lst, at2]⟩
      unfold isDay
      rw [decide_eq_false (by omega)]
      rfl
  obtain ⟨L, hL⟩ : ∃ L : List D, L = [.int (-1), .int 100000, .int (0 - 1 - cell ns 5 % 1000000000)] := ⟨_, rfl⟩
  have g10 : st_law_10 [some (.scr ns), some (.ref 2), some (.ref 10), some (I place), some (I d), some (.d (.lst [.str x, .str y])), some (.ref 18), none, none] S2 = .nx [some (.scr ns), some (.ref 2), some (.ref 10), some (I place), some (I d), some (.d (.lst [.str x, .str y])), some (.ref 18), some (I k), none] S2 := by
    unfold st_law_10
    simp [c5]
    simp at ek
    rw [ek]
    rfl
  obtain ⟨r1, r2, r3⟩ := p_refusedN a2 v2 k hk
  have g11 : st_law_11 [some (.scr ns), some (.ref 2), some (.ref 10), some (I place), some (I d), some (.d (.lst [.str x, .str y])), some (.ref 18), some (I k), none] S2 = .nx [some (.scr ns), some (.ref 2), some (.ref 10), some (I place), some (I d), some (.d (.lst [.str x, .str y])), some (.ref 18), some (I k), none] S2 := by
    unfold st_law_11
    simp [r1, r2]
  have hnm : ∀ u ∈ b.names, u ∈ b2.names := fun u hu => by
    obtain ⟨t, ht⟩ := gr.n
    rw [ht]
    exact List.mem_append_left _ hu
  obtain ⟨S3, w3, e3, k3, o3, q3⟩ := p_day_good p2 a2 v2 d hday x y (hnm x hx) (hnm y hy) [w1] o2 (by simp)
  have hS2 := getL_lt o2
  have a3 := k3.at a2 hS2
  obtain ⟨_, _, r4⟩ := p_refusedN a3 v2 k hk
  have g12 : st_law_12 [some (.scr ns), some (.ref 2), some (.ref 10), some (I place), some (I d), some (.d (.lst [.str x, .str y])), some (.ref 18), some (I k), none] S2 = .nx [some (.scr ns), some (.ref 2), some (.ref 10), some (I place), some (I d), some (.d (.lst [.str x, .str y])), some (.ref 18), some (I k), none] S3 := by
    unfold st_law_12
    simp [e3, r4]
  have hH : ∀ w ∈ [w1, w3], HeldOk S3 w := fun w hw => by
    simp only [List.mem_cons, List.not_mem_nil, or_false] at hw
    rcases hw with rfl | rfl
    · exact (q1.fs f2).kp k3
    · exact q3
  have he := held_eq (S := S3) (ρ := [some (.scr ns), some (.ref 2), some (.ref 10), some (I place), some (I d), some (.d (.lst [.str x, .str y])), some (.ref 18), some (I k), none]) (i := 6) (j := 8) (n := 18) rfl (fun _ => rfl) o3 (by simp) hH
  have g13 : st_law_13 [some (.scr ns), some (.ref 2), some (.ref 10), some (I place), some (I d), some (.d (.lst [.str x, .str y])), some (.ref 18), some (I k), none] S3 = .rt (Bo true) S3 := by
    unfold st_law_13
    rw [sRet_s, evBin_s, he]
    simp
  exact ⟨S3, by rw [sSeq_s, g9, seq_nx, sSeq_s, g10, seq_nx, sSeq_s, g11, seq_nx, sSeq_s, g12, seq_nx, g13]⟩
theorem pure_law : ∀ ns : List Int, ns.length ≤ 63 → ∃ S, sem_law [.scr ns] [] = .ok (.d (.bl true)) S := by
  intro ns hn
  obtain ⟨S, b, cu, dd, fi, mo, place, h0, h1, p, a, v, hl, hd, e1⟩ := part1 ns hn
  obtain ⟨d, x, y, hday, hx, hy, e2⟩ := part2 ns p a v hl (I place)
  have p' : Pl (S ++ [.lst []]) b cu dd fi mo := p.off fun m hm => List.getElem?_append_left (by omega)
  obtain ⟨S3, e3⟩ := part3 ns hn p' (a.app _) v hd place h0 h1 (by rw [← hl]; simp) d hday x y hx hy
  refine ⟨S3, ?_⟩
  unfold sem_law
  rw [fnS_s, if_pos (show [Wv.scr ns].length = 1 from rfl)]
  show (sSeq _ _ [some (.scr ns), none, none, none, none, none, none, none, none] []).out = _
  rw [e1, e2, e3]
  rfl
end DL

namespace DL
open PySem PySem.Spec PyProof.Rows L2
def top (i : Nat) : Stmt := PySem.Challenge.pw_doubleledger_k09_sheets_and_worths.main.body.getD i (.Pass ⟨0, 0, 0, 0⟩)
abbrev s_law_name : Stmt := top 49
def dd_law_name : He.DefD := ⟨("_law_name", none), "_law_name", "_law_name", defArgs s_law_name, defBody s_law_name, defScope s_law_name, [], []⟩
abbrev s_law_twin : Stmt := top 52
def dd_law_twin : He.DefD := ⟨("_law_twin", none), "_law_twin", "_law_twin", defArgs s_law_twin, defBody s_law_twin, defScope s_law_twin, [], []⟩
abbrev s_law_names : Stmt := top 53
def dd_law_names : He.DefD := ⟨("_law_names", none), "_law_names", "_law_names", defArgs s_law_names, defBody s_law_names, defScope s_law_names, [], []⟩
abbrev s_law_cell : Stmt := top 47
def dd_law_cell : He.DefD := ⟨("_law_cell", none), "_law_cell", "_law_cell", defArgs s_law_cell, defBody s_law_cell, defScope s_law_cell, [], []⟩
abbrev s_law_currency : Stmt := top 50
def dd_law_currency : He.DefD := ⟨("_law_currency", none), "_law_currency", "_law_currency", defArgs s_law_currency, defBody s_law_currency, defScope s_law_currency, [], []⟩
abbrev s_law_currencies : Stmt := top 54
def dd_law_currencies : He.DefD := ⟨("_law_currencies", none), "_law_currencies", "_law_currencies", defArgs s_law_currencies, defBody s_law_currencies, defScope s_law_currencies, [], []⟩
abbrev s_law_plain : Stmt := top 68
def dd_law_plain : He.DefD := ⟨("_law_plain", none), "_law_plain", "_law_plain", defArgs s_law_plain, defBody s_law_plain, defScope s_law_plain, [], []⟩
abbrev s_is_currency : Stmt := top 36
def dd_is_currency : He.DefD := ⟨("is_currency", none), "is_currency", "is_currency", defArgs s_is_currency, defBody s_is_currency, defScope s_is_currency, [], []⟩
abbrev s_Rates___init__ : Stmt := inClass (top 42) 0
def dd_Rates___init__ : He.DefD := ⟨("Rates", some "__init__"), "__init__", "Rates.__init__", defArgs s_Rates___init__, defBody s_Rates___init__, defScope s_Rates___init__, [], []⟩
abbrev s_Book___init__ : Stmt := inClass (top 45) 0
def dd_Book___init__ : He.DefD := ⟨("Book", some "__init__"), "__init__", "Book.__init__", defArgs s_Book___init__, defBody s_Book___init__, defScope s_Book___init__, [], []⟩
abbrev s_is_name : Stmt := top 35
def dd_is_name : He.DefD := ⟨("is_name", none), "is_name", "is_name", defArgs s_is_name, defBody s_is_name, defScope s_is_name, [], []⟩
abbrev s_Book_admit : Stmt := inClass (top 45) 5
def dd_Book_admit : He.DefD := ⟨("Book", some "admit"), "admit", "Book.admit", defArgs s_Book_admit, defBody s_Book_admit, defScope s_Book_admit, [], []⟩
abbrev s_law_book : Stmt := top 69
def dd_law_book : He.DefD := ⟨("_law_book", none), "_law_book", "_law_book", defArgs s_law_book, defBody s_law_book, defScope s_law_book, [], []⟩
abbrev s_law_closed : Stmt := top 55
def dd_law_closed : He.DefD := ⟨("_law_closed", none), "_law_closed", "_law_closed", defArgs s_law_closed, defBody s_law_closed, defScope s_law_closed, [], []⟩
abbrev s_law_put : Stmt := top 60
def dd_law_put : He.DefD := ⟨("_law_put", none), "_law_put", "_law_put", defArgs s_law_put, defBody s_law_put, defScope s_law_put, [], []⟩
abbrev s_is_day : Stmt := top 37
def dd_is_day : He.DefD := ⟨("is_day", none), "is_day", "is_day", defArgs s_is_day, defBody s_is_day, defScope s_is_day, [], []⟩
abbrev s_Book_need_day : Stmt := inClass (top 45) 3
def dd_Book_need_day : He.DefD := ⟨("Book", some "need_day"), "need_day", "Book.need_day", defArgs s_Book_need_day, defBody s_Book_need_day, defScope s_Book_need_day, [], []⟩
abbrev s_Book_closed : Stmt := inClass (top 45) 20
def dd_Book_closed : He.DefD := ⟨("Book", some "closed"), "closed", "Book.closed", defArgs s_Book_closed, defBody s_Book_closed, defScope s_Book_closed, [], []⟩
abbrev s_Book_need_open : Stmt := inClass (top 45) 4
def dd_Book_need_open : He.DefD := ⟨("Book", some "need_open"), "need_open", "Book.need_open", defArgs s_Book_need_open, defBody s_Book_need_open, defScope s_Book_need_open, [], []⟩
abbrev s_is_note : Stmt := top 38
def dd_is_note : He.DefD := ⟨("is_note", none), "is_note", "is_note", defArgs s_is_note, defBody s_is_note, defScope s_is_note, [], []⟩
abbrev s_Book_need_account : Stmt := inClass (top 45) 1
def dd_Book_need_account : He.DefD := ⟨("Book", some "need_account"), "need_account", "Book.need_account", defArgs s_Book_need_account, defBody s_Book_need_account, defScope s_Book_need_account, [], []⟩
abbrev s_Book_need_currency : Stmt := inClass (top 45) 2
def dd_Book_need_currency : He.DefD := ⟨("Book", some "need_currency"), "need_currency", "Book.need_currency", defArgs s_Book_need_currency, defBody s_Book_need_currency, defScope s_Book_need_currency, [], []⟩
abbrev s_is_amount : Stmt := top 39
def dd_is_amount : He.DefD := ⟨("is_amount", none), "is_amount", "is_amount", defArgs s_is_amount, defBody s_is_amount, defScope s_is_amount, [], []⟩
abbrev s_balanced : Stmt := top 22
def dd_balanced : He.DefD := ⟨("balanced", none), "balanced", "balanced", defArgs s_balanced, defBody s_balanced, defScope s_balanced, [], []⟩
abbrev s_Book_noted : Stmt := inClass (top 45) 9
def dd_Book_noted : He.DefD := ⟨("Book", some "noted"), "noted", "Book.noted", defArgs s_Book_noted, defBody s_Book_noted, defScope s_Book_noted, [], []⟩
abbrev s_Book_post : Stmt := inClass (top 45) 10
def dd_Book_post : He.DefD := ⟨("Book", some "post"), "post", "Book.post", defArgs s_Book_post, defBody s_Book_post, defScope s_Book_post, [], []⟩
abbrev s_law_bulk : Stmt := top 71
def dd_law_bulk : He.DefD := ⟨("_law_bulk", none), "_law_bulk", "_law_bulk", defArgs s_law_bulk, defBody s_law_bulk, defScope s_law_bulk, [], []⟩
abbrev s_law_day : Stmt := top 56
def dd_law_day : He.DefD := ⟨("_law_day", none), "_law_day", "_law_day", defArgs s_law_day, defBody s_law_day, defScope s_law_day, [], []⟩
abbrev s_law_note : Stmt := top 51
def dd_law_note : He.DefD := ⟨("_law_note", none), "_law_note", "_law_note", defArgs s_law_note, defBody s_law_note, defScope s_law_note, [], []⟩
abbrev s_law_amount : Stmt := top 57
def dd_law_amount : He.DefD := ⟨("_law_amount", none), "_law_amount", "_law_amount", defArgs s_law_amount, defBody s_law_amount, defScope s_law_amount, [], []⟩
abbrev s_law_lines : Stmt := top 58
def dd_law_lines : He.DefD := ⟨("_law_lines", none), "_law_lines", "_law_lines", defArgs s_law_lines, defBody s_law_lines, defScope s_law_lines, [], []⟩
abbrev s_law_post : Stmt := top 61
def dd_law_post : He.DefD := ⟨("_law_post", none), "_law_post", "_law_post", defArgs s_law_post, defBody s_law_post, defScope s_law_post, [], []⟩
abbrev s_law_admit : Stmt := top 65
def dd_law_admit : He.DefD := ⟨("_law_admit", none), "_law_admit", "_law_admit", defArgs s_law_admit, defBody s_law_admit, defScope s_law_admit, [], []⟩
abbrev s_is_rate : Stmt := top 40
def dd_is_rate : He.DefD := ⟨("is_rate", none), "is_rate", "is_rate", defArgs s_is_rate, defBody s_is_rate, defScope s_is_rate, [], []⟩
abbrev s_Rates_told : Stmt := inClass (top 42) 1
def dd_Rates_told : He.DefD := ⟨("Rates", some "told"), "told", "Rates.told", defArgs s_Rates_told, defBody s_Rates_told, defScope s_Rates_told, [], []⟩
abbrev s_Book_tell_rate : Stmt := inClass (top 45) 7
def dd_Book_tell_rate : He.DefD := ⟨("Book", some "tell_rate"), "tell_rate", "Book.tell_rate", defArgs s_Book_tell_rate, defBody s_Book_tell_rate, defScope s_Book_tell_rate, [], []⟩
abbrev s_law_tell : Stmt := top 64
def dd_law_tell : He.DefD := ⟨("_law_tell", none), "_law_tell", "_law_tell", defArgs s_law_tell, defBody s_law_tell, defScope s_law_tell, [], []⟩
abbrev s_law_rate : Stmt := top 59
def dd_law_rate : He.DefD := ⟨("_law_rate", none), "_law_rate", "_law_rate", defArgs s_law_rate, defBody s_law_rate, defScope s_law_rate, [], []⟩
abbrev s_changed : Stmt := top 21
def dd_changed : He.DefD := ⟨("changed", none), "changed", "changed", defArgs s_changed, defBody s_changed, defScope s_changed, [], []⟩
abbrev s_Rates_of_day : Stmt := inClass (top 42) 2
def dd_Rates_of_day : He.DefD := ⟨("Rates", some "of_day"), "of_day", "Rates.of_day", defArgs s_Rates_of_day, defBody s_Rates_of_day, defScope s_Rates_of_day, [], []⟩
abbrev s_Book_rate : Stmt := inClass (top 45) 8
def dd_Book_rate : He.DefD := ⟨("Book", some "rate"), "rate", "Book.rate", defArgs s_Book_rate, defBody s_Book_rate, defScope s_Book_rate, [], []⟩
abbrev s_Book_got : Stmt := inClass (top 45) 11
def dd_Book_got : He.DefD := ⟨("Book", some "got"), "got", "Book.got", defArgs s_Book_got, defBody s_Book_got, defScope s_Book_got, [], []⟩
abbrev s_Book_convert : Stmt := inClass (top 45) 12
def dd_Book_convert : He.DefD := ⟨("Book", some "convert"), "convert", "Book.convert", defArgs s_Book_convert, defBody s_Book_convert, defScope s_Book_convert, [], []⟩
abbrev s_law_convert : Stmt := top 62
def dd_law_convert : He.DefD := ⟨("_law_convert", none), "_law_convert", "_law_convert", defArgs s_law_convert, defBody s_law_convert, defScope s_law_convert, [], []⟩
abbrev s_Book_entry : Stmt := inClass (top 45) 14
def dd_Book_entry : He.DefD := ⟨("Book", some "entry"), "entry", "Book.entry", defArgs s_Book_entry, defBody s_Book_entry, defScope s_Book_entry, [], []⟩
abbrev s_turned : Stmt := top 23
def dd_turned : He.DefD := ⟨("turned", none), "turned", "turned", defArgs s_turned, defBody s_turned, defScope s_turned, [], []⟩
abbrev s_Book_contrary : Stmt := inClass (top 45) 13
def dd_Book_contrary : He.DefD := ⟨("Book", some "contrary"), "contrary", "Book.contrary", defArgs s_Book_contrary, defBody s_Book_contrary, defScope s_Book_contrary, [], []⟩
abbrev s_law_contrary : Stmt := top 63
def dd_law_contrary : He.DefD := ⟨("_law_contrary", none), "_law_contrary", "_law_contrary", defArgs s_law_contrary, defBody s_law_contrary, defScope s_law_contrary, [], []⟩
abbrev s_Book_close : Stmt := inClass (top 45) 19
def dd_Book_close : He.DefD := ⟨("Book", some "close"), "close", "Book.close", defArgs s_Book_close, defBody s_Book_close, defScope s_Book_close, [], []⟩
abbrev s_law_shut : Stmt := top 66
def dd_law_shut : He.DefD := ⟨("_law_shut", none), "_law_shut", "_law_shut", defArgs s_law_shut, defBody s_law_shut, defScope s_law_shut, [], []⟩
abbrev s_law_step : Stmt := top 67
def dd_law_step : He.DefD := ⟨("_law_step", none), "_law_step", "_law_step", defArgs s_law_step, defBody s_law_step, defScope s_law_step, [], []⟩
abbrev s_law_deeds : Stmt := top 70
def dd_law_deeds : He.DefD := ⟨("_law_deeds", none), "_law_deeds", "_law_deeds", defArgs s_law_deeds, defBody s_law_deeds, defScope s_law_deeds, [], []⟩
abbrev s_law_asked_day : Stmt := top 78
def dd_law_asked_day : He.DefD := ⟨("_law_asked_day", none), "_law_asked_day", "_law_asked_day", defArgs s_law_asked_day, defBody s_law_asked_day, defScope s_law_asked_day, [], []⟩
abbrev s_law_sums : Stmt := top 72
def dd_law_sums : He.DefD := ⟨("_law_sums", none), "_law_sums", "_law_sums", defArgs s_law_sums, defBody s_law_sums, defScope s_law_sums, [], []⟩
abbrev s_pairs_up_to : Stmt := top 25
def dd_pairs_up_to : He.DefD := ⟨("pairs_up_to", none), "pairs_up_to", "pairs_up_to", defArgs s_pairs_up_to, defBody s_pairs_up_to, defScope s_pairs_up_to, [], []⟩
abbrev s_Book_sum_between : Stmt := inClass (top 45) 16
def dd_Book_sum_between : He.DefD := ⟨("Book", some "sum_between"), "sum_between", "Book.sum_between", defArgs s_Book_sum_between, defBody s_Book_sum_between, defScope s_Book_sum_between, [], []⟩
abbrev s_sheet : Stmt := top 26
def dd_sheet : He.DefD := ⟨("sheet", none), "sheet", "sheet", defArgs s_sheet, defBody s_sheet, defScope s_sheet, [], []⟩
abbrev s_law_whole : Stmt := top 48
def dd_law_whole : He.DefD := ⟨("_law_whole", none), "_law_whole", "_law_whole", defArgs s_law_whole, defBody s_law_whole, defScope s_law_whole, [], []⟩
abbrev s_law_worth : Stmt := top 74
def dd_law_worth : He.DefD := ⟨("_law_worth", none), "_law_worth", "_law_worth", defArgs s_law_worth, defBody s_law_worth, defScope s_law_worth, [], []⟩
abbrev s_common : Stmt := top 18
def dd_common : He.DefD := ⟨("common", none), "common", "common", defArgs s_common, defBody s_common, defScope s_common, [], []⟩
abbrev s_lowest : Stmt := top 19
def dd_lowest : He.DefD := ⟨("lowest", none), "lowest", "lowest", defArgs s_lowest, defBody s_lowest, defScope s_lowest, [], []⟩
abbrev s_added : Stmt := top 20
def dd_added : He.DefD := ⟨("added", none), "added", "added", defArgs s_added, defBody s_added, defScope s_added, [], []⟩
abbrev s_worth : Stmt := top 27
def dd_worth : He.DefD := ⟨("worth", none), "worth", "worth", defArgs s_worth, defBody s_worth, defScope s_worth, [], []⟩
abbrev s_law_refused : Stmt := top 75
def dd_law_refused : He.DefD := ⟨("_law_refused", none), "_law_refused", "_law_refused", defArgs s_law_refused, defBody s_law_refused, defScope s_law_refused, [], []⟩
abbrev s_law_common : Stmt := top 73
def dd_law_common : He.DefD := ⟨("_law_common", none), "_law_common", "_law_common", defArgs s_law_common, defBody s_law_common, defScope s_law_common, [], []⟩
abbrev s_law_valued : Stmt := top 77
def dd_law_valued : He.DefD := ⟨("_law_valued", none), "_law_valued", "_law_valued", defArgs s_law_valued, defBody s_law_valued, defScope s_law_valued, [], []⟩
abbrev s_law_day_good : Stmt := top 79
def dd_law_day_good : He.DefD := ⟨("_law_day_good", none), "_law_day_good", "_law_day_good", defArgs s_law_day_good, defBody s_law_day_good, defScope s_law_day_good, [], []⟩
abbrev s_law_based : Stmt := top 76
def dd_law_based : He.DefD := ⟨("_law_based", none), "_law_based", "_law_based", defArgs s_law_based, defBody s_law_based, defScope s_law_based, [], []⟩
abbrev s_law : Stmt := top 80
def dd_law : He.DefD := ⟨("law", none), "law", "law", defArgs s_law, defBody s_law, defScope s_law, [], []⟩
def fnl : List He.DefD := [dd_law_name, dd_law_twin, dd_law_names, dd_law_cell, dd_law_currency, dd_law_currencies, dd_law_plain, dd_is_currency, dd_Rates___init__, dd_Book___init__, dd_is_name, dd_Book_admit, dd_law_book, dd_law_closed, dd_law_put, dd_is_day, dd_Book_need_day, dd_Book_closed, dd_Book_need_open, dd_is_note, dd_Book_need_account, dd_Book_need_currency, dd_is_amount, dd_balanced, dd_Book_noted, dd_Book_post, dd_law_bulk, dd_law_day, dd_law_note, dd_law_amount, dd_law_lines, dd_law_post, dd_law_admit, dd_is_rate, dd_Rates_told, dd_Book_tell_rate, dd_law_tell, dd_law_rate, dd_changed, dd_Rates_of_day, dd_Book_rate, dd_Book_got, dd_Book_convert, dd_law_convert, dd_Book_entry, dd_turned, dd_Book_contrary, dd_law_contrary, dd_Book_close, dd_law_shut, dd_law_step, dd_law_deeds, dd_law_asked_day, dd_law_sums, dd_pairs_up_to, dd_Book_sum_between, dd_sheet, dd_law_whole, dd_law_worth, dd_common, dd_lowest, dd_added, dd_worth, dd_law_refused, dd_law_common, dd_law_valued, dd_law_day_good, dd_law_based, dd_law]
def fal : List He.Fa := [.free "range",
  .free "len",
  .glo "_law_name",
  .glo "_law_twin",
  .glo "_law_currency",
  .glo "_law_cell",
  .glo "_law_names",
  .glo "_law_currencies",
  .str "GREAT" "ABCDEFGHIJKLMNOPQRSTUVWXYZ",
  .free "all",
  .cls "Rates",
  .noat "Rates" "home",
  .noat "Rates" "rows",
  .glo "is_currency",
  .exc "BadCurrency",
  .glo "BadCurrency",
  .cls "Book",
  .noat "Book" "home",
  .mkr "Rates",
  .glo "Rates",
  .noat "Book" "rates",
  .str "EXCHANGE" "exchange",
  .noat "Book" "names",
  .noat "Book" "entries",
  .noat "Book" "ends",
  .noat "Book" "backs",
  .noat "Book" "deeds",
  .str "SMALL" "abcdefghijklmnopqrstuvwxyz",
  .str "FIGURES" "0123456789",
  .glo "is_name",
  .exc "BadName",
  .glo "BadName",
  .exc "Taken",
  .glo "Taken",
  .mkr "Book",
  .glo "Book",
  .meth "Book" "admit",
  .free "tuple",
  .int "LAST_DAY" (99999),
  .glo "is_day",
  .exc "BadDay",
  .glo "BadDay",
  .meth "Book" "need_day",
  .meth "Book" "closed",
  .exc "Closed",
  .glo "Closed",
  .exc "NoAccount",
  .glo "NoAccount",
  .free "abs",
  .int "MOST_AMOUNT" (1000000000000000000000000000000),
  .meth "Book" "need_open",
  .glo "is_note",
  .exc "BadNote",
  .glo "BadNote",
  .exc "Unbalanced",
  .glo "Unbalanced",
  .meth "Book" "need_account",
  .meth "Book" "need_currency",
  .glo "is_amount",
  .exc "BadAmount",
  .glo "BadAmount",
  .glo "balanced",
  .meth "Book" "noted",
  .glo "_law_closed",
  .free "min",
  .glo "_law_put",
  .meth "Book" "post",
  .glo "_law_amount",
  .glo "_law_day",
  .glo "_law_note",
  .glo "_law_lines",
  .int "MOST_RATE" (1000000000),
  .glo "is_rate",
  .exc "BadRate",
  .glo "BadRate",
  .meth "Rates" "told",
  .meth "Book" "tell_rate",
  .meth "Rates" "of_day",
  .exc "NoRate",
  .glo "NoRate",
  .meth "Book" "rate",
  .glo "changed",
  .exc "TooSmall",
  .glo "TooSmall",
  .meth "Book" "got",
  .glo "_law_rate",
  .meth "Book" "convert",
  .exc "NoEntry",
  .glo "NoEntry",
  .meth "Book" "entry",
  .exc "TakenBack",
  .glo "TakenBack",
  .glo "turned",
  .free "max",
  .meth "Book" "contrary",
  .meth "Book" "close",
  .glo "_law_post",
  .glo "_law_admit",
  .glo "_law_tell",
  .glo "_law_convert",
  .glo "_law_contrary",
  .glo "_law_shut",
  .glo "_law_step",
  .free "list",
  .free "sorted",
  .glo "pairs_up_to",
  .meth "Book" "sum_between",
  .free "isinstance",
  .free "int",
  .free "bool",
  .glo "common",
  .glo "lowest",
  .glo "sheet",
  .glo "added",
  .glo "worth",
  .glo "_law_worth",
  .glo "_law_refused",
  .glo "_law_whole",
  .glo "_law_common",
  .glo "_law_sums",
  .glo "_law_valued",
  .free "ValueError",
  .glo "LedgerError",
  .glo "_law_plain",
  .glo "_law_book",
  .glo "_law_bulk",
  .glo "_law_deeds",
  .glo "_law_asked_day",
  .glo "_law_day_good",
  .glo "_law_based",
  .glo "law",
  .exm "TooSmall" "BadDay" false,
  .exm "NoRate" "BadDay" false,
  .exm "NoEntry" "BadDay" false,
  .exm "NoAccount" "BadDay" false,
  .exm "TakenBack" "BadDay" false,
  .exm "Taken" "BadDay" false,
  .exm "Closed" "BadDay" false,
  .exm "Unbalanced" "BadDay" false,
  .exm "BadRate" "BadDay" false,
  .exm "BadNote" "BadDay" false,
  .exm "BadDay" "BadDay" true,
  .exm "BadAmount" "BadDay" false,
  .exm "BadCurrency" "BadDay" false,
  .exm "BadName" "BadDay" false,
  .exm "TooSmall" "NoAccount" false,
  .exm "NoRate" "NoAccount" false,
  .exm "NoEntry" "NoAccount" false,
  .exm "NoAccount" "NoAccount" true,
  .exm "TakenBack" "NoAccount" false,
  .exm "Taken" "NoAccount" false,
  .exm "Closed" "NoAccount" false,
  .exm "Unbalanced" "NoAccount" false,
  .exm "BadRate" "NoAccount" false,
  .exm "BadNote" "NoAccount" false,
  .exm "BadDay" "NoAccount" false,
  .exm "BadAmount" "NoAccount" false,
  .exm "BadCurrency" "NoAccount" false,
  .exm "BadName" "NoAccount" false,
  .exm "TooSmall" "NoRate" false,
  .exm "NoRate" "NoRate" true,
  .exm "NoEntry" "NoRate" false,
  .exm "NoAccount" "NoRate" false,
  .exm "TakenBack" "NoRate" false,
  .exm "Taken" "NoRate" false,
  .exm "Closed" "NoRate" false,
  .exm "Unbalanced" "NoRate" false,
  .exm "BadRate" "NoRate" false,
  .exm "BadNote" "NoRate" false,
  .exm "BadDay" "NoRate" false,
  .exm "BadAmount" "NoRate" false,
  .exm "BadCurrency" "NoRate" false,
  .exm "BadName" "NoRate" false,
  .exm "TooSmall" "LedgerError" true,
  .exm "NoRate" "LedgerError" true,
  .exm "NoEntry" "LedgerError" true,
  .exm "NoAccount" "LedgerError" true,
  .exm "TakenBack" "LedgerError" true,
  .exm "Taken" "LedgerError" true,
  .exm "Closed" "LedgerError" true,
  .exm "Unbalanced" "LedgerError" true,
  .exm "BadRate" "LedgerError" true,
  .exm "BadNote" "LedgerError" true,
  .exm "BadDay" "LedgerError" true,
  .exm "BadAmount" "LedgerError" true,
  .exm "BadCurrency" "LedgerError" true,
  .exm "BadName" "LedgerError" true]
def exl : List Ex := [.ask "TooSmall",
  .kit "TooSmall" "BadDay" false,
  .ask "NoRate",
  .kit "NoRate" "BadDay" false,
  .ask "NoEntry",
  .kit "NoEntry" "BadDay" false,
  .ask "NoAccount",
  .kit "NoAccount" "BadDay" false,
  .ask "TakenBack",
  .kit "TakenBack" "BadDay" false,
  .ask "Taken",
  .kit "Taken" "BadDay" false,
  .ask "Closed",
  .kit "Closed" "BadDay" false,
  .ask "Unbalanced",
  .kit "Unbalanced" "BadDay" false,
  .ask "BadRate",
  .kit "BadRate" "BadDay" false,
  .ask "BadNote",
  .kit "BadNote" "BadDay" false,
  .ask "BadDay",
  .kit "BadDay" "BadDay" true,
  .ask "BadAmount",
  .kit "BadAmount" "BadDay" false,
  .ask "BadCurrency",
  .kit "BadCurrency" "BadDay" false,
  .ask "BadName",
  .kit "BadName" "BadDay" false,
  .val "TooSmall",
  .val "NoRate",
  .val "NoEntry",
  .val "NoAccount",
  .val "TakenBack",
  .val "Taken",
  .val "Closed",
  .val "Unbalanced",
  .val "BadRate",
  .val "BadNote",
  .val "BadDay",
  .val "BadAmount",
  .val "BadCurrency",
  .val "BadName"]

end DL

namespace DL
open PySem PySem.Spec PyProof.Rows L2
section
variable {P : Program} {w : World} {K : PySem.W.Frag} {h : Heap} {mg : Str → Option Value} {base : Heap}
theorem ea_BadDay (c : SaysE fal fnl exl K) : exAll K "BadDay" 4 csl := (exAll_cons rfl (He.exm_ok (c.fact 144 rfl)) (exAll_cons rfl (He.exm_ok (c.fact 143 rfl)) (exAll_cons rfl (He.exm_ok (c.fact 142 rfl)) (exAll_cons rfl (He.exm_ok (c.fact 141 rfl)) (exAll_cons rfl (He.exm_ok (c.fact 140 rfl)) (exAll_cons rfl (He.exm_ok (c.fact 139 rfl)) (exAll_cons rfl (He.exm_ok (c.fact 138 rfl)) (exAll_cons rfl (He.exm_ok (c.fact 137 rfl)) (exAll_cons rfl (He.exm_ok (c.fact 136 rfl)) (exAll_cons rfl (He.exm_ok (c.fact 135 rfl)) (exAll_cons rfl (He.exm_ok (c.fact 134 rfl)) (exAll_cons rfl (He.exm_ok (c.fact 133 rfl)) (exAll_cons rfl (He.exm_ok (c.fact 132 rfl)) (exAll_cons rfl (He.exm_ok (c.fact 131 rfl)) exAll_nil))))))))))))))
theorem ea_NoAccount (c : SaysE fal fnl exl K) : exAll K "NoAccount" 11 csl := (exAll_cons rfl (He.exm_ok (c.fact 158 rfl)) (exAll_cons rfl (He.exm_ok (c.fact 157 rfl)) (exAll_cons rfl (He.exm_ok (c.fact 156 rfl)) (exAll_cons rfl (He.exm_ok (c.fact 155 rfl)) (exAll_cons rfl (He.exm_ok (c.fact 154 rfl)) (exAll_cons rfl (He.exm_ok (c.fact 153 rfl)) (exAll_cons rfl (He.exm_ok (c.fact 152 rfl)) (exAll_cons rfl (He.exm_ok (c.fact 151 rfl)) (exAll_cons rfl (He.exm_ok (c.fact 150 rfl)) (exAll_cons rfl (He.exm_ok (c.fact 149 rfl)) (exAll_cons rfl (He.exm_ok (c.fact 148 rfl)) (exAll_cons rfl (He.exm_ok (c.fact 147 rfl)) (exAll_cons rfl (He.exm_ok (c.fact 146 rfl)) (exAll_cons rfl (He.exm_ok (c.fact 145 rfl)) exAll_nil))))))))))))))
theorem ea_NoRate (c : SaysE fal fnl exl K) : exAll K "NoRate" 13 csl := (exAll_cons rfl (He.exm_ok (c.fact 172 rfl)) (exAll_cons rfl (He.exm_ok (c.fact 171 rfl)) (exAll_cons rfl (He.exm_ok (c.fact 170 rfl)) (exAll_cons rfl (He.exm_ok (c.fact 169 rfl)) (exAll_cons rfl (He.exm_ok (c.fact 168 rfl)) (exAll_cons rfl (He.exm_ok (c.fact 167 rfl)) (exAll_cons rfl (He.exm_ok (c.fact 166 rfl)) (exAll_cons rfl (He.exm_ok (c.fact 165 rfl)) (exAll_cons rfl (He.exm_ok (c.fact 164 rfl)) (exAll_cons rfl (He.exm_ok (c.fact 163 rfl)) (exAll_cons rfl (He.exm_ok (c.fact 162 rfl)) (exAll_cons rfl (He.exm_ok (c.fact 161 rfl)) (exAll_cons rfl (He.exm_ok (c.fact 160 rfl)) (exAll_cons rfl (He.exm_ok (c.fact 159 rfl)) exAll_nil))))))))))))))
theorem ea_LedgerError (c : SaysE fal fnl exl K) : exAll K "LedgerError" 0 csl := (exAll_cons rfl (He.exm_ok (c.fact 186 rfl)) (exAll_cons rfl (He.exm_ok (c.fact 185 rfl)) (exAll_cons rfl (He.exm_ok (c.fact 184 rfl)) (exAll_cons rfl (He.exm_ok (c.fact 183 rfl)) (exAll_cons rfl (He.exm_ok (c.fact 182 rfl)) (exAll_cons rfl (He.exm_ok (c.fact 181 rfl)) (exAll_cons rfl (He.exm_ok (c.fact 180 rfl)) (exAll_cons rfl (He.exm_ok (c.fact 179 rfl)) (exAll_cons rfl (He.exm_ok (c.fact 178 rfl)) (exAll_cons rfl (He.exm_ok (c.fact 177 rfl)) (exAll_cons rfl (He.exm_ok (c.fact 176 rfl)) (exAll_cons rfl (He.exm_ok (c.fact 175 rfl)) (exAll_cons rfl (He.exm_ok (c.fact 174 rfl)) (exAll_cons rfl (He.exm_ok (c.fact 173 rfl)) exAll_nil))))))))))))))
theorem is_BadDay (c : SaysE fal fnl exl K) : isAll K "BadDay" 4 csl := (isAll_cons rfl (c.ask 26 rfl) (c.kit 27 rfl) (isAll_cons rfl (c.ask 24 rfl) (c.kit 25 rfl) (isAll_cons rfl (c.ask 22 rfl) (c.kit 23 rfl) (isAll_cons rfl (c.ask 20 rfl) (c.kit 21 rfl) (isAll_cons rfl (c.ask 18 rfl) (c.kit 19 rfl) (isAll_cons rfl (c.ask 16 rfl) (c.kit 17 rfl) (isAll_cons rfl (c.ask 14 rfl) (c.kit 15 rfl) (isAll_cons rfl (c.ask 12 rfl) (c.kit 13 rfl) (isAll_cons rfl (c.ask 10 rfl) (c.kit 11 rfl) (isAll_cons rfl (c.ask 8 rfl) (c.kit 9 rfl) (isAll_cons rfl (c.ask 6 rfl) (c.kit 7 rfl) (isAll_cons rfl (c.ask 4 rfl) (c.kit 5 rfl) (isAll_cons rfl (c.ask 2 rfl) (c.kit 3 rfl) (isAll_cons rfl (c.ask 0 rfl) (c.kit 1 rfl) isAll_nil))))))))))))))
theorem is_V (c : SaysE fal fnl exl K) : isAllV K csl := (isAllV_cons rfl (c.ask 26 rfl) (c.val 41 rfl) (isAllV_cons rfl (c.ask 24 rfl) (c.val 40 rfl) (isAllV_cons rfl (c.ask 22 rfl) (c.val 39 rfl) (isAllV_cons rfl (c.ask 20 rfl) (c.val 38 rfl) (isAllV_cons rfl (c.ask 18 rfl) (c.val 37 rfl) (isAllV_cons rfl (c.ask 16 rfl) (c.val 36 rfl) (isAllV_cons rfl (c.ask 14 rfl) (c.val 35 rfl) (isAllV_cons rfl (c.ask 12 rfl) (c.val 34 rfl) (isAllV_cons rfl (c.ask 10 rfl) (c.val 33 rfl) (isAllV_cons rfl (c.ask 8 rfl) (c.val 32 rfl) (isAllV_cons rfl (c.ask 6 rfl) (c.val 31 rfl) (isAllV_cons rfl (c.ask 4 rfl) (c.val 30 rfl) (isAllV_cons rfl (c.ask 2 rfl) (c.val 29 rfl) (isAllV_cons rfl (c.ask 0 rfl) (c.val 28 rfl) isAllV_nil))))))))))))))
theorem sc_law_name : FnScope ["_law_cell_here", "_law_signs", "_law_found", "_law_left", "_law_k"] ["_law_cell_here"] (defScope s_law_name) := ⟨rfl, rfl, rfl, by decide +kernel, rfl, by decide +kernel, by decide +kernel⟩
theorem ok_law_name (X : K.In h) (G : h.Ns mainGlobals mg) (c : SaysE fal fnl exl K) : FnG P w K mg base (He.fAd K ("_law_name", none)) 1 1 sem_law_name := by
  obtain ⟨fd, F⟩ := c.def_ 0 (d := dd_law_name) rfl
  exact fng_of (ps := ["_law_cell_here"]) F rfl (fn_ok (k := 0) F sc_law_name rfl fun cdv A outer s H E hr =>
    (dss_cons (ds_set (i := 1) sc_law_name.nd rfl (by first | exact Or.inl rfl | exact Or.inr rfl) de_str)
    (dss_cons (ds_set (i := 2) sc_law_name.nd rfl (by first | exact Or.inl rfl | exact Or.inr rfl) (de_ix hr.units (de_var (pv 1)) (de_mod (de_var (pv 0)) de_int)))
    (dss_cons (ds_set (i := 3) sc_law_name.nd rfl (by first | exact Or.inl rfl | exact Or.inr rfl) (de_floor (de_var (pv 0)) de_int))
    (dss_cons (ds_for (i := 4) (passes_of rfl) rfl sc_law_name.nd rfl (by first | exact Or.inl rfl | exact Or.inr rfl) (di_range1 rfl (He.free_ok X G (c.fact 0 rfl)) (da_cons (de_mod (de_var (pv 3)) de_int) da_nil)) (dss_one (ds_set (i := 2) sc_law_name.nd rfl (by first | exact Or.inl rfl | exact Or.inr rfl) (de_add (de_var (pv 2)) (de_ix hr.units (de_var (pv 1)) (de_mod (de_add (de_floor (de_var (pv 3)) de_int) (de_mul (de_floor (de_var (pv 3)) de_int) (de_var (pv 4)))) de_int))))))
    (dss_one (ds_ret (de_var (pv 2)))))))))
    (F.bindsN fun _ _ _ _ _ _ us hl => match us, hl with | [_], _ => rfl)
theorem sc_law_twin : FnScope ["_law_text", "_law_cell_here", "_law_signs", "_law_at"] ["_law_text", "_law_cell_here", "_law_signs"] (defScope s_law_twin) := ⟨rfl, rfl, rfl, by decide +kernel, rfl, by decide +kernel, by decide +kernel⟩
theorem ok_law_twin (X : K.In h) (G : h.Ns mainGlobals mg) (c : SaysE fal fnl exl K) : FnG P w K mg base (He.fAd K ("_law_twin", none)) 3 1 sem_law_twin := by
  obtain ⟨fd, F⟩ := c.def_ 1 (d := dd_law_twin) rfl
  exact fng_of (ps := ["_law_text", "_law_cell_here", "_law_signs"]) F rfl (fn_ok (k := 0) F sc_law_twin rfl fun cdv A outer s H E hr =>
    (dss_cons (ds_set (i := 3) sc_law_twin.nd rfl (by first | exact Or.inl rfl | exact Or.inr rfl) (de_mod (de_var (pv 1)) (de_callB cg_len rfl (He.free_ok X G (c.fact 1 rfl)) bt_len (da_cons (de_var (pv 0)) da_nil))))
    (dss_one (ds_ret (de_add (de_add (de_sl (de_var (pv 0)) do_none (do_some (de_var (pv 3)))) (de_ix hr.units (de_var (pv 2)) (de_mod (de_floor (de_var (pv 1)) de_int) de_int))) (de_sl (de_var (pv 0)) (do_some (de_add (de_var (pv 3)) de_int)) do_none))))))
    (F.bindsN fun _ _ _ _ _ _ us hl => match us, hl with | [_, _, _], _ => rfl)
theorem sc_law_names : FnScope ["_law_cells", "_law_some", "_law_found", "_law_name_here"] ["_law_cells"] (defScope s_law_names) := ⟨rfl, rfl, rfl, by decide +kernel, rfl, by decide +kernel, by decide +kernel⟩
theorem ok_law_names (X : K.In h) (G : h.Ns mainGlobals mg) (c : SaysE fal fnl exl K) : FnG P w K mg base (He.fAd K ("_law_names", none)) 1 2 sem_law_names := by
  obtain ⟨fd, F⟩ := c.def_ 2 (d := dd_law_names) rfl
  exact fng_of (ps := ["_law_cells"]) F rfl (fn_ok (k := 1) F sc_law_names rfl fun cdv A outer s H E hr =>
    (dss_cons (ds_set (i := 1) sc_law_names.nd rfl (by first | exact Or.inl rfl | exact Or.inr rfl) (de_lstS (da_cons (de_call (ok_law_name X G c) (hr.mono (by decide)) rfl (He.glo_ok X G (c.fact 2 rfl)) (da_cons (de_ix hr.units (de_var (pv 0)) de_int) da_nil)) (da_cons (de_call (ok_law_name X G c) (hr.mono (by decide)) rfl (He.glo_ok X G (c.fact 2 rfl)) (da_cons (de_ix hr.units (de_var (pv 0)) de_int) da_nil)) (da_cons de_str (da_cons de_str da_nil))))))
    (dss_cons (ds_if (dt_cmp (cm_eq hr.units) (de_mod (de_ix hr.units (de_var (pv 0)) de_int) de_int) de_int (nomark _)) (dss_one (ds_lput (de_var (pv 1)) de_int (de_call (ok_law_twin X G c) (hr.mono (by decide)) rfl (He.glo_ok X G (c.fact 3 rfl)) (da_cons (de_ix hr.units (de_var (pv 1)) de_int) (da_cons (de_floor (de_ix hr.units (de_var (pv 0)) de_int) de_int) (da_cons de_str da_nil)))))) dss_nil)
    (dss_cons (ds_set (i := 2) sc_law_names.nd rfl (by first | exact Or.inl rfl | exact Or.inr rfl) (de_lstS (da_cons de_str da_nil)))
    (dss_cons (ds_for (i := 3) (passes_of rfl) rfl sc_law_names.nd rfl (by first | exact Or.inl rfl | exact Or.inr rfl) (di_any (de_var (pv 1))) (dss_one (ds_if (dt_cmp (cm_notin hr.units) (de_var (pv 3)) (de_var (pv 2)) rfl) (dss_one (ds_expr (de_lm lm_append (de_var (pv 2)) (de_var (pv 3))))) dss_nil)))
    (dss_one (ds_ret (de_var (pv 2)))))))))
    (F.bindsN fun _ _ _ _ _ _ us hl => match us, hl with | [_], _ => rfl)
theorem sc_law_cell : FnScope ["_law_script", "_law_k"] ["_law_script", "_law_k"] (defScope s_law_cell) := ⟨rfl, rfl, rfl, by decide +kernel, rfl, by decide +kernel, by decide +kernel⟩
theorem ok_law_cell (X : K.In h) (G : h.Ns mainGlobals mg) (c : SaysE fal fnl exl K) : FnG P w K mg base (He.fAd K ("_law_cell", none)) 2 1 sem_law_cell := by
  obtain ⟨fd, F⟩ := c.def_ 3 (d := dd_law_cell) rfl
  exact fng_of (ps := ["_law_script", "_law_k"]) F rfl (fn_ok (k := 0) F sc_law_cell rfl fun cdv A outer s H E hr =>
    (dss_cons (ds_if (dt_cmp cm_lt (de_var (pv 1)) (de_callB cg_len rfl (He.free_ok X G (c.fact 1 rfl)) bt_len (da_cons (de_var (pv 0)) da_nil)) (nomark _)) (dss_one (ds_ret (de_ix hr.units (de_var (pv 0)) (de_var (pv 1))))) dss_nil)
    (dss_one (ds_ret de_int))))
    (F.bindsN fun _ _ _ _ _ _ us hl => match us, hl with | [_, _], _ => rfl)
theorem sc_law_currency : FnScope ["_law_cell_here", "_law_signs", "_law_found"] ["_law_cell_here"] (defScope s_law_currency) := ⟨rfl, rfl, rfl, by decide +kernel, rfl, by decide +kernel, by decide +kernel⟩
theorem ok_law_currency (X : K.In h) (G : h.Ns mainGlobals mg) (c : SaysE fal fnl exl K) : FnG P w K mg base (He.fAd K ("_law_currency", none)) 1 1 sem_law_currency := by
  obtain ⟨fd, F⟩ := c.def_ 4 (d := dd_law_currency) rfl
  exact fng_of (ps := ["_law_cell_here"]) F rfl (fn_ok (k := 0) F sc_law_currency rfl fun cdv A outer s H E hr =>
    (dss_cons (ds_set (i := 1) sc_law_currency.nd rfl (by first | exact Or.inl rfl | exact Or.inr rfl) de_str)
    (dss_cons (ds_set (i := 2) sc_law_currency.nd rfl (by first | exact Or.inl rfl | exact Or.inr rfl) (de_ix hr.units (de_var (pv 1)) (de_mod (de_var (pv 0)) de_int)))
    (dss_cons (ds_set (i := 2) sc_law_currency.nd rfl (by first | exact Or.inl rfl | exact Or.inr rfl) (de_add (de_var (pv 2)) (de_ix hr.units (de_var (pv 1)) (de_mod (de_floor (de_var (pv 0)) de_int) de_int))))
    (dss_one (ds_ret (de_add (de_var (pv 2)) (de_ix hr.units (de_var (pv 1)) (de_mod (de_floor (de_var (pv 0)) de_int) de_int)))))))))
    (F.bindsN fun _ _ _ _ _ _ us hl => match us, hl with | [_], _ => rfl)
theorem sc_law_currencies : FnScope ["_law_cells", "_law_found", "_law_some", "_law_limit", "_law_currency_here"] ["_law_cells"] (defScope s_law_currencies) := ⟨rfl, rfl, rfl, by decide +kernel, rfl, by decide +kernel, by decide +kernel⟩
theorem ok_law_currencies (X : K.In h) (G : h.Ns mainGlobals mg) (c : SaysE fal fnl exl K) : FnG P w K mg base (He.fAd K ("_law_currencies", none)) 1 2 sem_law_currencies := by
  obtain ⟨fd, F⟩ := c.def_ 5 (d := dd_law_currencies) rfl
  exact fng_of (ps := ["_law_cells"]) F rfl (fn_ok (k := 1) F sc_law_currencies rfl fun cdv A outer s H E hr =>
    (dss_cons (ds_set (i := 1) sc_law_currencies.nd rfl (by first | exact Or.inl rfl | exact Or.inr rfl) (de_lstS da_nil))
    (dss_cons (ds_set (i := 2) sc_law_currencies.nd rfl (by first | exact Or.inl rfl | exact Or.inr rfl) (de_lst (da_cons (de_call (ok_law_currency X G c) (hr.mono (by decide)) rfl (He.glo_ok X G (c.fact 4 rfl)) (da_cons (de_ix hr.units (de_var (pv 0)) de_int) da_nil)) (da_cons (de_call (ok_law_currency X G c) (hr.mono (by decide)) rfl (He.glo_ok X G (c.fact 4 rfl)) (da_cons (de_ix hr.units (de_var (pv 0)) de_int) da_nil)) (da_cons de_str (da_cons de_str (da_cons de_str da_nil)))))))
    (dss_cons (ds_set (i := 2) sc_law_currencies.nd rfl (by first | exact Or.inl rfl | exact Or.inr rfl) (de_addS (de_var (pv 2)) (de_lst (da_cons de_str (da_cons de_str (da_cons de_str (da_cons de_str (da_cons de_str da_nil))))))))
    (dss_cons (ds_set (i := 3) sc_law_currencies.nd rfl (by first | exact Or.inl rfl | exact Or.inr rfl) (de_if (dt_cmp (cm_eq hr.units) (de_mod (de_floor (de_ix hr.units (de_var (pv 0)) de_int) de_int) de_int) de_int (nomark _)) de_int de_int))
    (dss_cons (ds_if (dt_cmp (cm_eq hr.units) (de_mod (de_ix hr.units (de_var (pv 0)) de_int) de_int) de_int (nomark _)) (dss_one (ds_lput (de_var (pv 2)) de_int (de_call (ok_law_twin X G c) (hr.mono (by decide)) rfl (He.glo_ok X G (c.fact 3 rfl)) (da_cons (de_ix hr.units (de_var (pv 2)) de_int) (da_cons (de_floor (de_ix hr.units (de_var (pv 0)) de_int) de_int) (da_cons de_str da_nil)))))) dss_nil)
    (dss_cons (ds_for (i := 4) (passes_of rfl) rfl sc_law_currencies.nd rfl (by first | exact Or.inl rfl | exact Or.inr rfl) (di_any (de_var (pv 2))) (dss_one (ds_if (dw_t (dw_and (dt_cmp (cm_notin hr.units) (de_var (pv 4)) (de_var (pv 1)) rfl) (dw_and1 (dt_cmp cm_lt (de_callB cg_len rfl (He.free_ok X G (c.fact 1 rfl)) bt_len (da_cons (de_var (pv 1)) da_nil)) (de_var (pv 3)) (nomark _))))) (dss_one (ds_expr (de_lm lm_append (de_var (pv 1)) (de_var (pv 4))))) dss_nil)))
    (dss_one (ds_ret (de_var (pv 1)))))))))))
    (F.bindsN fun _ _ _ _ _ _ us hl => match us, hl with | [_], _ => rfl)
theorem sc_law_plain : FnScope ["_law_script", "_law_plain_here", "_law_part"] ["_law_script"] (defScope s_law_plain) := ⟨rfl, rfl, rfl, by decide +kernel, rfl, by decide +kernel, by decide +kernel⟩
theorem ok_law_plain (X : K.In h) (G : h.Ns mainGlobals mg) (c : SaysE fal fnl exl K) : FnG P w K mg base (He.fAd K ("_law_plain", none)) 1 3 sem_law_plain := by
  obtain ⟨fd, F⟩ := c.def_ 6 (d := dd_law_plain) rfl
  exact fng_of (ps := ["_law_script"]) F rfl (fn_ok (k := 2) F sc_law_plain rfl fun cdv A outer s H E hr =>
    (dss_cons (ds_set (i := 1) sc_law_plain.nd rfl (by first | exact Or.inl rfl | exact Or.inr rfl) (de_disp1 (de_call (ok_law_names X G c) (hr.mono (by decide)) rfl (He.glo_ok X G (c.fact 6 rfl)) (da_cons (de_lst (da_cons (de_call (ok_law_cell X G c) (hr.mono (by decide)) rfl (He.glo_ok X G (c.fact 5 rfl)) (da_cons (de_var (pv 0)) (da_cons de_int da_nil))) (da_cons (de_call (ok_law_cell X G c) (hr.mono (by decide)) rfl (He.glo_ok X G (c.fact 5 rfl)) (da_cons (de_var (pv 0)) (da_cons de_int da_nil))) da_nil))) da_nil))))
    (dss_cons (ds_dput hr.units (de_var (pv 1)) de_str (de_callB cg_len rfl (He.free_ok X G (c.fact 1 rfl)) bt_len (da_cons (de_ix hr.units (de_var (pv 1)) de_str) da_nil)) rfl)
    (dss_cons (ds_dput hr.units (de_var (pv 1)) de_str (de_call (ok_law_currencies X G c) (hr.mono (by decide)) rfl (He.glo_ok X G (c.fact 7 rfl)) (da_cons (de_lst (da_cons (de_call (ok_law_cell X G c) (hr.mono (by decide)) rfl (He.glo_ok X G (c.fact 5 rfl)) (da_cons (de_var (pv 0)) (da_cons de_int da_nil))) (da_cons (de_call (ok_law_cell X G c) (hr.mono (by decide)) rfl (He.glo_ok X G (c.fact 5 rfl)) (da_cons (de_var (pv 0)) (da_cons de_int da_nil))) da_nil))) da_nil)) rfl)
    (dss_cons (ds_for (i := 2) (passes_of rfl) rfl sc_law_plain.nd rfl (by first | exact Or.inl rfl | exact Or.inr rfl) (di_any (de_lst (da_cons de_str (da_cons de_str (da_cons de_str (da_cons de_str (da_cons de_str da_nil))))))) (dss_one (ds_dput hr.units (de_var (pv 1)) (de_var (pv 2)) (de_lstS da_nil) rfl)))
    (dss_cons (ds_dput hr.units (de_var (pv 1)) de_str de_int rfl)
    (dss_one (ds_ret (de_var (pv 1))))))))))
    (F.bindsN fun _ _ _ _ _ _ us hl => match us, hl with | [_], _ => rfl)
theorem sc_is_currency : FnScope ["text", "sign"] ["text"] (defScope s_is_currency) := ⟨rfl, rfl, rfl, by decide +kernel, rfl, by decide +kernel, by decide +kernel⟩
theorem ok_is_currency (X : K.In h) (G : h.Ns mainGlobals mg) (c : SaysE fal fnl exl K) : FnG P w K mg base (He.fAd K ("is_currency", none)) 1 1 sem_is_currency := by
  obtain ⟨fd, F⟩ := c.def_ 7 (d := dd_is_currency) rfl
  exact fng_of (ps := ["text"]) F rfl (fn_ok (k := 0) F sc_is_currency rfl fun cdv A outer s H E hr =>
    (dss_one (ds_ret (de_and (de_cmp (cm_eq hr.units) (de_callB cg_len rfl (He.free_ok X G (c.fact 1 rfl)) bt_len (da_cons (de_var (pv 0)) da_nil)) de_int (nomark _)) (de_one (de_callB (cg_all rfl) rfl (He.free_ok X G (c.fact 9 rfl)) bt_all (da_cons (de_lc (own := [("sign", 1)]) kp_frz rfl sc_is_currency.nd (di_any (de_var (pv 0))) (blkOk_by (N := ["text", "sign"]) (sc := defScope s_is_currency) (by decide +kernel)) (by decide) (fun _ _ _ _ _ => pg_name (i := 1) sc_is_currency.nd rfl (by first | exact Or.inl rfl | exact Or.inr rfl)) (fun _ _ _ _ _ => dts_nil) (fun _ _ _ _ _ => (de_cmp (cm_in hr.units) (de_var (pv 1)) (de_gstr (i := "ABCDEFGHIJKLMNOPQRSTUVWXYZ") rfl (He.str_ok X G (c.fact 8 rfl)).choose_spec) rfl))) da_nil)))))))
    (F.bindsN fun _ _ _ _ _ _ us hl => match us, hl with | [_], _ => rfl)
theorem sc_Rates___init__ : FnScope ["self", "home"] ["self", "home"] (defScope s_Rates___init__) := ⟨rfl, rfl, rfl, by decide +kernel, rfl, by decide +kernel, by decide +kernel⟩
theorem ok_Rates___init__ (X : K.In h) (G : h.Ns mainGlobals mg) (c : SaysE fal fnl exl K) : FnG P w K mg base (He.fAd K ("Rates", some "__init__")) 2 1 sem_Rates___init__ := by
  obtain ⟨fd, F⟩ := c.def_ 8 (d := dd_Rates___init__) rfl
  exact fng_of (ps := ["self", "home"]) F rfl (fn_ok (k := 0) F sc_Rates___init__ rfl fun cdv A outer s H E hr =>
    (dss_cons (ds_fld ⟨_, _, rfl, fl1_nd, rfl, He.cls_ok (c.fact 10 rfl), He.noat_ok (c.fact 11 rfl)⟩ (de_var (pv 0)) (de_var (pv 1)) rfl)
    (dss_one (ds_fld ⟨_, _, rfl, fl1_nd, rfl, He.cls_ok (c.fact 10 rfl), He.noat_ok (c.fact 12 rfl)⟩ (de_var (pv 0)) (de_lstS da_nil) rfl))))
    (F.bindsN fun _ _ _ _ _ _ us hl => match us, hl with | [_, _], _ => rfl)
theorem sc_Book___init__ : FnScope ["self", "home"] ["self", "home"] (defScope s_Book___init__) := ⟨rfl, rfl, rfl, by decide +kernel, rfl, by decide +kernel, by decide +kernel⟩
theorem ok_Book___init__ (X : K.In h) (G : h.Ns mainGlobals mg) (c : SaysE fal fnl exl K) : FnG P w K mg base (He.fAd K ("Book", some "__init__")) 2 3 sem_Book___init__ := by
  obtain ⟨fd, F⟩ := c.def_ 9 (d := dd_Book___init__) rfl
  exact fng_of (ps := ["self", "home"]) F rfl (fn_ok (k := 2) F sc_Book___init__ rfl fun cdv A outer s H E hr =>
    (dss_cons (ds_if (dt_not (dt_val (de_call (ok_is_currency X G c) (hr.mono (by decide)) rfl (He.glo_ok X G (c.fact 13 rfl)) (da_cons (de_var (pv 1)) da_nil)))) (dss_one (ds_raise (c := 2) rfl (He.exc_ok (c.fact 14 rfl)) rfl (He.glo_ok X G (c.fact 15 rfl)))) dss_nil)
    (dss_cons (ds_fld ⟨_, _, rfl, fl0_nd, rfl, He.cls_ok (c.fact 16 rfl), He.noat_ok (c.fact 17 rfl)⟩ (de_var (pv 0)) (de_var (pv 1)) rfl)
    (dss_cons (ds_fld ⟨_, _, rfl, fl0_nd, rfl, He.cls_ok (c.fact 16 rfl), He.noat_ok (c.fact 20 rfl)⟩ (de_var (pv 0)) (de_make (f := He.ma K (He.ga K "Rates") "__init__") ⟨_, rfl, He.mkr_ok (c.fact 18 rfl)⟩ (ok_Rates___init__ X G c) (hr.mono (by decide)) rfl (He.glo_ok X G (c.fact 19 rfl)) (da_cons (de_var (pv 1)) da_nil)) rfl)
    (dss_cons (ds_fld ⟨_, _, rfl, fl0_nd, rfl, He.cls_ok (c.fact 16 rfl), He.noat_ok (c.fact 22 rfl)⟩ (de_var (pv 0)) (de_lstS (da_cons (de_gstr (i := "exchange") rfl (He.str_ok X G (c.fact 21 rfl)).choose_spec) da_nil)) rfl)
    (dss_cons (ds_fld ⟨_, _, rfl, fl0_nd, rfl, He.cls_ok (c.fact 16 rfl), He.noat_ok (c.fact 23 rfl)⟩ (de_var (pv 0)) (de_lstS da_nil) rfl)
    (dss_cons (ds_fld ⟨_, _, rfl, fl0_nd, rfl, He.cls_ok (c.fact 16 rfl), He.noat_ok (c.fact 24 rfl)⟩ (de_var (pv 0)) (de_lstS da_nil) rfl)
    (dss_cons (ds_fld ⟨_, _, rfl, fl0_nd, rfl, He.cls_ok (c.fact 16 rfl), He.noat_ok (c.fact 25 rfl)⟩ (de_var (pv 0)) de_dictK rfl)
    (dss_one (ds_fld ⟨_, _, rfl, fl0_nd, rfl, He.cls_ok (c.fact 16 rfl), He.noat_ok (c.fact 26 rfl)⟩ (de_var (pv 0)) (de_lstS (da_cons (de_tup (da_cons de_str (da_cons (de_var (pv 1)) da_nil))) da_nil)) rfl))))))))))
    (F.bindsN fun _ _ _ _ _ _ us hl => match us, hl with | [_, _], _ => rfl)
theorem sc_is_name : FnScope ["text", "sign"] ["text"] (defScope s_is_name) := ⟨rfl, rfl, rfl, by decide +kernel, rfl, by decide +kernel, by decide +kernel⟩
theorem ok_is_name (X : K.In h) (G : h.Ns mainGlobals mg) (c : SaysE fal fnl exl K) : FnG P w K mg base (He.fAd K ("is_name", none)) 1 1 sem_is_name := by
  obtain ⟨fd, F⟩ := c.def_ 10 (d := dd_is_name) rfl
  exact fng_of (ps := ["text"]) F rfl (fn_ok (k := 0) F sc_is_name rfl fun cdv A outer s H E hr =>
    (dss_cons (ds_if (dw_t (dw_or (dt_not (dt_chain cm_le cm_le de_int (de_callB cg_len rfl (He.free_ok X G (c.fact 1 rfl)) bt_len (da_cons (de_var (pv 0)) da_nil)) de_int)) (dw_or1 (dt_cmp (cm_notin hr.units) (de_ix hr.units (de_var (pv 0)) de_int) (de_gstr (i := "abcdefghijklmnopqrstuvwxyz") rfl (He.str_ok X G (c.fact 27 rfl)).choose_spec) rfl)))) (dss_one (ds_ret de_bl)) dss_nil)
    (dss_one (ds_ret (de_callB (cg_all rfl) rfl (He.free_ok X G (c.fact 9 rfl)) bt_all (da_cons (de_lc (own := [("sign", 1)]) kp_frz rfl sc_is_name.nd (di_any (de_var (pv 0))) (blkOk_by (N := ["text", "sign"]) (sc := defScope s_is_name) (by decide +kernel)) (by decide) (fun _ _ _ _ _ => pg_name (i := 1) sc_is_name.nd rfl (by first | exact Or.inl rfl | exact Or.inr rfl)) (fun _ _ _ _ _ => dts_nil) (fun _ _ _ _ _ => (de_or (de_cmp (cm_in hr.units) (de_var (pv 1)) (de_gstr (i := "abcdefghijklmnopqrstuvwxyz") rfl (He.str_ok X G (c.fact 27 rfl)).choose_spec) rfl) (de_one (de_cmp (cm_in hr.units) (de_var (pv 1)) (de_gstr (i := "0123456789") rfl (He.str_ok X G (c.fact 28 rfl)).choose_spec) rfl))))) da_nil))))))
    (F.bindsN fun _ _ _ _ _ _ us hl => match us, hl with | [_], _ => rfl)
theorem sc_Book_admit : FnScope ["self", "account"] ["self", "account"] (defScope s_Book_admit) := ⟨rfl, rfl, rfl, by decide +kernel, rfl, by decide +kernel, by decide +kernel⟩
theorem ok_Book_admit (X : K.In h) (G : h.Ns mainGlobals mg) (c : SaysE fal fnl exl K) : FnG P w K mg base (He.fAd K ("Book", some "admit")) 2 2 sem_Book_admit := by
  obtain ⟨fd, F⟩ := c.def_ 11 (d := dd_Book_admit) rfl
  exact fng_of (ps := ["self", "account"]) F rfl (fn_ok (k := 1) F sc_Book_admit rfl fun cdv A outer s H E hr =>
    (dss_cons (ds_if (dt_not (dt_val (de_call (ok_is_name X G c) (hr.mono (by decide)) rfl (He.glo_ok X G (c.fact 29 rfl)) (da_cons (de_var (pv 1)) da_nil)))) (dss_one (ds_raise (c := 1) rfl (He.exc_ok (c.fact 30 rfl)) rfl (He.glo_ok X G (c.fact 31 rfl)))) dss_nil)
    (dss_cons (ds_if (dt_cmp (cm_in hr.units) (de_var (pv 1)) (de_fld ⟨_, _, rfl, fl0_nd, rfl, He.cls_ok (c.fact 16 rfl), He.noat_ok (c.fact 22 rfl)⟩ (de_var (pv 0)) rfl) rfl) (dss_one (ds_raise (c := 9) rfl (He.exc_ok (c.fact 32 rfl)) rfl (He.glo_ok X G (c.fact 33 rfl)))) dss_nil)
    (dss_cons (ds_expr (de_lm lm_append (de_fld ⟨_, _, rfl, fl0_nd, rfl, He.cls_ok (c.fact 16 rfl), He.noat_ok (c.fact 22 rfl)⟩ (de_var (pv 0)) rfl) (de_var (pv 1))))
    (dss_one (ds_expr (de_lm lm_append (de_fld ⟨_, _, rfl, fl0_nd, rfl, He.cls_ok (c.fact 16 rfl), He.noat_ok (c.fact 26 rfl)⟩ (de_var (pv 0)) rfl) (de_tup (da_cons de_str (da_cons (de_var (pv 1)) da_nil))))))))))
    (F.bindsN fun _ _ _ _ _ _ us hl => match us, hl with | [_, _], _ => rfl)
theorem sc_law_book : FnScope ["_law_plain_here", "_law_book_here", "_law_name_here"] ["_law_plain_here"] (defScope s_law_book) := ⟨rfl, rfl, rfl, by decide +kernel, rfl, by decide +kernel, by decide +kernel⟩
theorem ok_law_book (X : K.In h) (G : h.Ns mainGlobals mg) (c : SaysE fal fnl exl K) : FnG P w K mg base (He.fAd K ("_law_book", none)) 1 5 sem_law_book := by
  obtain ⟨fd, F⟩ := c.def_ 12 (d := dd_law_book) rfl
  exact fng_of (ps := ["_law_plain_here"]) F rfl (fn_ok (k := 4) F sc_law_book rfl fun cdv A outer s H E hr =>
    (dss_cons (ds_set (i := 1) sc_law_book.nd rfl (by first | exact Or.inl rfl | exact Or.inr rfl) (de_make (f := He.ma K (He.ga K "Book") "__init__") ⟨_, rfl, He.mkr_ok (c.fact 34 rfl)⟩ (ok_Book___init__ X G c) (hr.mono (by decide)) rfl (He.glo_ok X G (c.fact 35 rfl)) (da_cons (de_ix hr.units (de_ix hr.units (de_var (pv 0)) de_str) de_int) da_nil)))
    (dss_cons (ds_for (i := 2) (passes_of rfl) rfl sc_law_book.nd rfl (by first | exact Or.inl rfl | exact Or.inr rfl) (di_any (de_sl (de_ix hr.units (de_var (pv 0)) de_str) (do_some de_int) do_none)) (dss_one (ds_expr (de_meth ⟨_, _, rfl, by decide +kernel, He.cls_ok (c.fact 16 rfl), He.meth_ok (c.fact 36 rfl)⟩ (ok_Book_admit X G c) (hr.mono (by decide)) (de_var (pv 1)) (da_cons (de_var (pv 2)) da_nil)))))
    (dss_one (ds_ret (de_var (pv 1)))))))
    (F.bindsN fun _ _ _ _ _ _ us hl => match us, hl with | [_], _ => rfl)
theorem sc_law_closed : FnScope ["_law_plain_here"] ["_law_plain_here"] (defScope s_law_closed) := ⟨rfl, rfl, rfl, by decide +kernel, rfl, by decide +kernel, by decide +kernel⟩
theorem ok_law_closed (X : K.In h) (G : h.Ns mainGlobals mg) (c : SaysE fal fnl exl K) : FnG P w K mg base (He.fAd K ("_law_closed", none)) 1 1 sem_law_closed := by
  obtain ⟨fd, F⟩ := c.def_ 13 (d := dd_law_closed) rfl
  exact fng_of (ps := ["_law_plain_here"]) F rfl (fn_ok (k := 0) F sc_law_closed rfl fun cdv A outer s H E hr =>
    (dss_one (ds_ret (de_ix hr.units (de_addL (de_lst (da_cons (de_neg de_int) da_nil)) (de_ix hr.units (de_var (pv 0)) de_str)) (de_neg de_int)))))
    (F.bindsN fun _ _ _ _ _ _ us hl => match us, hl with | [_], _ => rfl)
theorem sc_law_put : FnScope ["_law_plain_here", "_law_day_here", "_law_note_here", "_law_lines_here", "_law_back", "_law_number"] ["_law_plain_here", "_law_day_here", "_law_note_here", "_law_lines_here", "_law_back"] (defScope s_law_put) := ⟨rfl, rfl, rfl, by decide +kernel, rfl, by decide +kernel, by decide +kernel⟩
theorem ok_law_put (X : K.In h) (G : h.Ns mainGlobals mg) (c : SaysE fal fnl exl K) : FnG P w K mg base (He.fAd K ("_law_put", none)) 5 1 sem_law_put := by
  obtain ⟨fd, F⟩ := c.def_ 14 (d := dd_law_put) rfl
  exact fng_of (ps := ["_law_plain_here", "_law_day_here", "_law_note_here", "_law_lines_here", "_law_back"]) F rfl (fn_ok (k := 0) F sc_law_put rfl fun cdv A outer s H E hr =>
    (dss_cons (ds_set (i := 5) sc_law_put.nd rfl (by first | exact Or.inl rfl | exact Or.inr rfl) (de_add (de_callB cg_len rfl (He.free_ok X G (c.fact 1 rfl)) bt_len (da_cons (de_ix hr.units (de_var (pv 0)) de_str) da_nil)) de_int))
    (dss_cons (ds_expr (de_lm lm_append (de_ix hr.units (de_var (pv 0)) de_str) (de_tup (da_cons (de_var (pv 5)) (da_cons (de_var (pv 1)) (da_cons (de_var (pv 2)) (da_cons (de_callTy cg_tuple rfl (He.free_ok X G (c.fact 37 rfl)) bt_tuple (da_cons (de_var (pv 3)) da_nil)) (da_cons (de_var (pv 4)) da_nil))))))))
    (dss_one (ds_ret (de_var (pv 5)))))))
    (F.bindsN fun _ _ _ _ _ _ us hl => match us, hl with | [_, _, _, _, _], _ => rfl)
theorem sc_is_day : FnScope ["day"] ["day"] (defScope s_is_day) := ⟨rfl, rfl, rfl, by decide +kernel, rfl, by decide +kernel, by decide +kernel⟩
theorem ok_is_day (X : K.In h) (G : h.Ns mainGlobals mg) (c : SaysE fal fnl exl K) : FnG P w K mg base (He.fAd K ("is_day", none)) 1 1 sem_is_day := by
  obtain ⟨fd, F⟩ := c.def_ 15 (d := dd_is_day) rfl
  exact fng_of (ps := ["day"]) F rfl (fn_ok (k := 0) F sc_is_day rfl fun cdv A outer s H E hr =>
    (dss_one (ds_ret (de_chain cm_le cm_le de_int (de_var (pv 0)) (de_gint (i := 99999) rfl (He.int_ok X G (c.fact 38 rfl)).choose_spec)))))
    (F.bindsN fun _ _ _ _ _ _ us hl => match us, hl with | [_], _ => rfl)
theorem sc_Book_need_day : FnScope ["self", "day"] ["self", "day"] (defScope s_Book_need_day) := ⟨rfl, rfl, rfl, by decide +kernel, rfl, by decide +kernel, by decide +kernel⟩
theorem ok_Book_need_day (X : K.In h) (G : h.Ns mainGlobals mg) (c : SaysE fal fnl exl K) : FnG P w K mg base (He.fAd K ("Book", some "need_day")) 2 2 sem_Book_need_day := by
  obtain ⟨fd, F⟩ := c.def_ 16 (d := dd_Book_need_day) rfl
  exact fng_of (ps := ["self", "day"]) F rfl (fn_ok (k := 1) F sc_Book_need_day rfl fun cdv A outer s H E hr =>
    (dss_one (ds_if (dt_not (dt_val (de_call (ok_is_day X G c) (hr.mono (by decide)) rfl (He.glo_ok X G (c.fact 39 rfl)) (da_cons (de_var (pv 1)) da_nil)))) (dss_one (ds_raise (c := 4) rfl (He.exc_ok (c.fact 40 rfl)) rfl (He.glo_ok X G (c.fact 41 rfl)))) dss_nil)))
    (F.bindsN fun _ _ _ _ _ _ us hl => match us, hl with | [_, _], _ => rfl)
theorem sc_Book_closed : FnScope ["self"] ["self"] (defScope s_Book_closed) := ⟨rfl, rfl, rfl, by decide +kernel, rfl, by decide +kernel, by decide +kernel⟩
theorem ok_Book_closed (X : K.In h) (G : h.Ns mainGlobals mg) (c : SaysE fal fnl exl K) : FnG P w K mg base (He.fAd K ("Book", some "closed")) 1 1 sem_Book_closed := by
  obtain ⟨fd, F⟩ := c.def_ 17 (d := dd_Book_closed) rfl
  exact fng_of (ps := ["self"]) F rfl (fn_ok (k := 0) F sc_Book_closed rfl fun cdv A outer s H E hr =>
    (dss_cons (ds_if (dt_cmp (cm_eq hr.units) (de_fld ⟨_, _, rfl, fl0_nd, rfl, He.cls_ok (c.fact 16 rfl), He.noat_ok (c.fact 24 rfl)⟩ (de_var (pv 0)) rfl) (de_lst da_nil) (nomark _)) (dss_one (ds_ret (de_neg de_int))) dss_nil)
    (dss_one (ds_ret (de_ix hr.units (de_fld ⟨_, _, rfl, fl0_nd, rfl, He.cls_ok (c.fact 16 rfl), He.noat_ok (c.fact 24 rfl)⟩ (de_var (pv 0)) rfl) (de_neg de_int))))))
    (F.bindsN fun _ _ _ _ _ _ us hl => match us, hl with | [_], _ => rfl)
theorem sc_Book_need_open : FnScope ["self", "day"] ["self", "day"] (defScope s_Book_need_open) := ⟨rfl, rfl, rfl, by decide +kernel, rfl, by decide +kernel, by decide +kernel⟩
theorem ok_Book_need_open (X : K.In h) (G : h.Ns mainGlobals mg) (c : SaysE fal fnl exl K) : FnG P w K mg base (He.fAd K ("Book", some "need_open")) 2 3 sem_Book_need_open := by
  obtain ⟨fd, F⟩ := c.def_ 18 (d := dd_Book_need_open) rfl
  exact fng_of (ps := ["self", "day"]) F rfl (fn_ok (k := 2) F sc_Book_need_open rfl fun cdv A outer s H E hr =>
    (dss_cons (ds_expr (de_meth ⟨_, _, rfl, by decide +kernel, He.cls_ok (c.fact 16 rfl), He.meth_ok (c.fact 42 rfl)⟩ (ok_Book_need_day X G c) (hr.mono (by decide)) (de_var (pv 0)) (da_cons (de_var (pv 1)) da_nil)))
    (dss_one (ds_if (dt_cmp cm_le (de_var (pv 1)) (de_meth0 ⟨_, _, rfl, by decide +kernel, He.cls_ok (c.fact 16 rfl), He.meth_ok (c.fact 43 rfl)⟩ (ok_Book_closed X G c) (hr.mono (by decide)) (de_var (pv 0))) (nomark _)) (dss_one (ds_raise (c := 8) rfl (He.exc_ok (c.fact 44 rfl)) rfl (He.glo_ok X G (c.fact 45 rfl)))) dss_nil))))
    (F.bindsN fun _ _ _ _ _ _ us hl => match us, hl with | [_, _], _ => rfl)
theorem sc_is_note : FnScope ["text", "sign"] ["text"] (defScope s_is_note) := ⟨rfl, rfl, rfl, by decide +kernel, rfl, by decide +kernel, by decide +kernel⟩
theorem ok_is_note (X : K.In h) (G : h.Ns mainGlobals mg) (c : SaysE fal fnl exl K) : FnG P w K mg base (He.fAd K ("is_note", none)) 1 1 sem_is_note := by
  obtain ⟨fd, F⟩ := c.def_ 19 (d := dd_is_note) rfl
  exact fng_of (ps := ["text"]) F rfl (fn_ok (k := 0) F sc_is_note rfl fun cdv A outer s H E hr =>
    (dss_one (ds_ret (de_and (de_cmp cm_le (de_callB cg_len rfl (He.free_ok X G (c.fact 1 rfl)) bt_len (da_cons (de_var (pv 0)) da_nil)) de_int (nomark _)) (de_one (de_callB (cg_all rfl) rfl (He.free_ok X G (c.fact 9 rfl)) bt_all (da_cons (de_lc (own := [("sign", 1)]) kp_frz rfl sc_is_note.nd (di_any (de_var (pv 0))) (blkOk_by (N := ["text", "sign"]) (sc := defScope s_is_note) (by decide +kernel)) (by decide) (fun _ _ _ _ _ => pg_name (i := 1) sc_is_note.nd rfl (by first | exact Or.inl rfl | exact Or.inr rfl)) (fun _ _ _ _ _ => dts_nil) (fun _ _ _ _ _ => (de_chain cm_le cm_le de_str (de_var (pv 1)) de_str))) da_nil)))))))
    (F.bindsN fun _ _ _ _ _ _ us hl => match us, hl with | [_], _ => rfl)
theorem sc_Book_need_account : FnScope ["self", "account"] ["self", "account"] (defScope s_Book_need_account) := ⟨rfl, rfl, rfl, by decide +kernel, rfl, by decide +kernel, by decide +kernel⟩
theorem ok_Book_need_account (X : K.In h) (G : h.Ns mainGlobals mg) (c : SaysE fal fnl exl K) : FnG P w K mg base (He.fAd K ("Book", some "need_account")) 2 1 sem_Book_need_account := by
  obtain ⟨fd, F⟩ := c.def_ 20 (d := dd_Book_need_account) rfl
  exact fng_of (ps := ["self", "account"]) F rfl (fn_ok (k := 0) F sc_Book_need_account rfl fun cdv A outer s H E hr =>
    (dss_one (ds_if (dt_cmp (cm_notin hr.units) (de_var (pv 1)) (de_fld ⟨_, _, rfl, fl0_nd, rfl, He.cls_ok (c.fact 16 rfl), He.noat_ok (c.fact 22 rfl)⟩ (de_var (pv 0)) rfl) rfl) (dss_one (ds_raise (c := 11) rfl (He.exc_ok (c.fact 46 rfl)) rfl (He.glo_ok X G (c.fact 47 rfl)))) dss_nil)))
    (F.bindsN fun _ _ _ _ _ _ us hl => match us, hl with | [_, _], _ => rfl)
theorem sc_Book_need_currency : FnScope ["self", "currency"] ["self", "currency"] (defScope s_Book_need_currency) := ⟨rfl, rfl, rfl, by decide +kernel, rfl, by decide +kernel, by decide +kernel⟩
theorem ok_Book_need_currency (X : K.In h) (G : h.Ns mainGlobals mg) (c : SaysE fal fnl exl K) : FnG P w K mg base (He.fAd K ("Book", some "need_currency")) 2 2 sem_Book_need_currency := by
  obtain ⟨fd, F⟩ := c.def_ 21 (d := dd_Book_need_currency) rfl
  exact fng_of (ps := ["self", "currency"]) F rfl (fn_ok (k := 1) F sc_Book_need_currency rfl fun cdv A outer s H E hr =>
    (dss_one (ds_if (dt_not (dt_val (de_call (ok_is_currency X G c) (hr.mono (by decide)) rfl (He.glo_ok X G (c.fact 13 rfl)) (da_cons (de_var (pv 1)) da_nil)))) (dss_one (ds_raise (c := 2) rfl (He.exc_ok (c.fact 14 rfl)) rfl (He.glo_ok X G (c.fact 15 rfl)))) dss_nil)))
    (F.bindsN fun _ _ _ _ _ _ us hl => match us, hl with | [_, _], _ => rfl)
theorem sc_is_amount : FnScope ["amount"] ["amount"] (defScope s_is_amount) := ⟨rfl, rfl, rfl, by decide +kernel, rfl, by decide +kernel, by decide +kernel⟩
theorem ok_is_amount (X : K.In h) (G : h.Ns mainGlobals mg) (c : SaysE fal fnl exl K) : FnG P w K mg base (He.fAd K ("is_amount", none)) 1 1 sem_is_amount := by
  obtain ⟨fd, F⟩ := c.def_ 22 (d := dd_is_amount) rfl
  exact fng_of (ps := ["amount"]) F rfl (fn_ok (k := 0) F sc_is_amount rfl fun cdv A outer s H E hr =>
    (dss_one (ds_ret (de_and (de_cmp (cm_ne hr.units) (de_var (pv 0)) de_int (nomark _)) (de_one (de_cmp cm_lt (de_callB cg_abs rfl (He.free_ok X G (c.fact 48 rfl)) bt_abs (da_cons (de_var (pv 0)) da_nil)) (de_gint (i := 1000000000000000000000000000000) rfl (He.int_ok X G (c.fact 49 rfl)).choose_spec) (nomark _)))))))
    (F.bindsN fun _ _ _ _ _ _ us hl => match us, hl with | [_], _ => rfl)
theorem sc_balanced : FnScope ["lines", "sums", "line", "value"] ["lines"] (defScope s_balanced) := ⟨rfl, rfl, rfl, by decide +kernel, rfl, by decide +kernel, by decide +kernel⟩
theorem ok_balanced (X : K.In h) (G : h.Ns mainGlobals mg) (c : SaysE fal fnl exl K) : FnG P w K mg base (He.fAd K ("balanced", none)) 1 1 sem_balanced := by
  obtain ⟨fd, F⟩ := c.def_ 23 (d := dd_balanced) rfl
  exact fng_of (ps := ["lines"]) F rfl (fn_okP (k := 0) F sc_balanced rfl fun cdv A outer s H E hr =>
    (dss_cons (ds_set (i := 1) sc_balanced.nd rfl (by first | exact Or.inl rfl | exact Or.inr rfl) de_dictK)
    (dss_cons (ds_for (i := 2) (passes_of rfl) rfl sc_balanced.nd rfl (by first | exact Or.inl rfl | exact Or.inr rfl) (di_any (de_var (pv 0))) (dss_one (ds_dput hr.units (de_var (pv 1)) (de_ix hr.units (de_var (pv 2)) de_int) (de_add (de_get2 hr.units (de_var (pv 1)) (de_ix hr.units (de_var (pv 2)) de_int) de_int ⟨rfl, rfl, rfl, rfl⟩) (de_ix hr.units (de_var (pv 2)) de_int)) rfl)))
    (dss_one (ds_ret (de_callB (cg_all rfl) rfl (He.free_ok X G (c.fact 9 rfl)) bt_all (da_cons (de_lcV (own := [("value", 3)]) kp_frz rfl sc_balanced.nd (pv 1) (blkOk_by (N := ["lines", "sums", "line", "value"]) (sc := defScope s_balanced) (by decide +kernel)) (by decide) (fun _ _ _ _ _ => pg_name (i := 3) sc_balanced.nd rfl (by first | exact Or.inl rfl | exact Or.inr rfl)) (fun _ _ _ _ _ => dts_nil) (fun _ _ _ _ _ => (de_cmp (cm_eq hr.units) (de_var (pv 3)) de_int (nomark _)))) da_nil)))))))
    (F.bindsN fun _ _ _ _ _ _ us hl => match us, hl with | [_], _ => rfl)
theorem sc_Book_noted : FnScope ["self", "day", "note", "lines", "back", "number"] ["self", "day", "note", "lines", "back"] (defScope s_Book_noted) := ⟨rfl, rfl, rfl, by decide +kernel, rfl, by decide +kernel, by decide +kernel⟩
theorem ok_Book_noted (X : K.In h) (G : h.Ns mainGlobals mg) (c : SaysE fal fnl exl K) : FnG P w K mg base (He.fAd K ("Book", some "noted")) 5 1 sem_Book_noted := by
  obtain ⟨fd, F⟩ := c.def_ 24 (d := dd_Book_noted) rfl
  exact fng_of (ps := ["self", "day", "note", "lines", "back"]) F rfl (fn_ok (k := 0) F sc_Book_noted rfl fun cdv A outer s H E hr =>
    (dss_cons (ds_set (i := 5) sc_Book_noted.nd rfl (by first | exact Or.inl rfl | exact Or.inr rfl) (de_add (de_callB cg_len rfl (He.free_ok X G (c.fact 1 rfl)) bt_len (da_cons (de_fld ⟨_, _, rfl, fl0_nd, rfl, He.cls_ok (c.fact 16 rfl), He.noat_ok (c.fact 23 rfl)⟩ (de_var (pv 0)) rfl) da_nil)) de_int))
    (dss_cons (ds_expr (de_lm lm_append (de_fld ⟨_, _, rfl, fl0_nd, rfl, He.cls_ok (c.fact 16 rfl), He.noat_ok (c.fact 23 rfl)⟩ (de_var (pv 0)) rfl) (de_tup (da_cons (de_var (pv 5)) (da_cons (de_var (pv 1)) (da_cons (de_var (pv 2)) (da_cons (de_var (pv 3)) (da_cons (de_var (pv 4)) da_nil))))))))
    (dss_one (ds_ret (de_var (pv 5)))))))
    (F.bindsN fun _ _ _ _ _ _ us hl => match us, hl with | [_, _, _, _, _], _ => rfl)
theorem sc_Book_post : FnScope ["self", "day", "note", "lines", "rows", "line"] ["self", "day", "note", "lines"] (defScope s_Book_post) := ⟨rfl, rfl, rfl, by decide +kernel, rfl, by decide +kernel, by decide +kernel⟩
theorem ok_Book_post (X : K.In h) (G : h.Ns mainGlobals mg) (c : SaysE fal fnl exl K) : FnG P w K mg base (He.fAd K ("Book", some "post")) 4 4 sem_Book_post := by
  obtain ⟨fd, F⟩ := c.def_ 25 (d := dd_Book_post) rfl
  exact fng_of (ps := ["self", "day", "note", "lines"]) F rfl (fn_ok (k := 3) F sc_Book_post rfl fun cdv A outer s H E hr =>
    (dss_cons (ds_expr (de_meth ⟨_, _, rfl, by decide +kernel, He.cls_ok (c.fact 16 rfl), He.meth_ok (c.fact 50 rfl)⟩ (ok_Book_need_open X G c) (hr.mono (by decide)) (de_var (pv 0)) (da_cons (de_var (pv 1)) da_nil)))
    (dss_cons (ds_if (dt_not (dt_val (de_call (ok_is_note X G c) (hr.mono (by decide)) rfl (He.glo_ok X G (c.fact 51 rfl)) (da_cons (de_var (pv 2)) da_nil)))) (dss_one (ds_raise (c := 5) rfl (He.exc_ok (c.fact 52 rfl)) rfl (He.glo_ok X G (c.fact 53 rfl)))) dss_nil)
    (dss_cons (ds_set (i := 4) sc_Book_post.nd rfl (by first | exact Or.inl rfl | exact Or.inr rfl) (de_callTy cg_tuple rfl (He.free_ok X G (c.fact 37 rfl)) bt_tuple (da_cons (de_lc (own := [("line", 5)]) kp_frz rfl sc_Book_post.nd (di_any (de_var (pv 3))) (blkOk_by (N := ["self", "day", "note", "lines", "rows", "line"]) (sc := defScope s_Book_post) (by decide +kernel)) (by decide) (fun _ _ _ _ _ => pg_name (i := 5) sc_Book_post.nd rfl (by first | exact Or.inl rfl | exact Or.inr rfl)) (fun _ _ _ _ _ => dts_nil) (fun _ _ _ _ _ => (de_tup (da_cons (de_ix hr.units (de_var (pv 5)) de_int) (da_cons (de_ix hr.units (de_var (pv 5)) de_int) (da_cons (de_ix hr.units (de_var (pv 5)) de_int) da_nil)))))) da_nil)))
    (dss_cons (ds_if (dt_not (dt_chain cm_le cm_le de_int (de_callB cg_len rfl (He.free_ok X G (c.fact 1 rfl)) bt_len (da_cons (de_var (pv 4)) da_nil)) de_int)) (dss_one (ds_raise (c := 7) rfl (He.exc_ok (c.fact 54 rfl)) rfl (He.glo_ok X G (c.fact 55 rfl)))) dss_nil)
    (dss_cons (ds_for (i := 5) (passes_of rfl) rfl sc_Book_post.nd rfl (by first | exact Or.inl rfl | exact Or.inr rfl) (di_any (de_var (pv 4))) (dss_cons (ds_expr (de_meth ⟨_, _, rfl, by decide +kernel, He.cls_ok (c.fact 16 rfl), He.meth_ok (c.fact 56 rfl)⟩ (ok_Book_need_account X G c) (hr.mono (by decide)) (de_var (pv 0)) (da_cons (de_ix hr.units (de_var (pv 5)) de_int) da_nil)))
    (dss_cons (ds_expr (de_meth ⟨_, _, rfl, by decide +kernel, He.cls_ok (c.fact 16 rfl), He.meth_ok (c.fact 57 rfl)⟩ (ok_Book_need_currency X G c) (hr.mono (by decide)) (de_var (pv 0)) (da_cons (de_ix hr.units (de_var (pv 5)) de_int) da_nil)))
    (dss_one (ds_if (dt_not (dt_val (de_call (ok_is_amount X G c) (hr.mono (by decide)) rfl (He.glo_ok X G (c.fact 58 rfl)) (da_cons (de_ix hr.units (de_var (pv 5)) de_int) da_nil)))) (dss_one (ds_raise (c := 3) rfl (He.exc_ok (c.fact 59 rfl)) rfl (He.glo_ok X G (c.fact 60 rfl)))) dss_nil)))))
    (dss_cons (ds_if (dt_not (dt_val (de_call (ok_balanced X G c) (hr.mono (by decide)) rfl (He.glo_ok X G (c.fact 61 rfl)) (da_cons (de_var (pv 4)) da_nil)))) (dss_one (ds_raise (c := 7) rfl (He.exc_ok (c.fact 54 rfl)) rfl (He.glo_ok X G (c.fact 55 rfl)))) dss_nil)
    (dss_cons (ds_expr (de_lm lm_append (de_fld ⟨_, _, rfl, fl0_nd, rfl, He.cls_ok (c.fact 16 rfl), He.noat_ok (c.fact 26 rfl)⟩ (de_var (pv 0)) rfl) (de_tup (da_cons de_str (da_cons (de_var (pv 1)) (da_cons (de_var (pv 2)) (da_cons (de_var (pv 4)) da_nil)))))))
    (dss_one (ds_ret (de_meth ⟨_, _, rfl, by decide +kernel, He.cls_ok (c.fact 16 rfl), He.meth_ok (c.fact 62 rfl)⟩ (ok_Book_noted X G c) (hr.mono (by decide)) (de_var (pv 0)) (da_cons (de_var (pv 1)) (da_cons (de_var (pv 2)) (da_cons (de_var (pv 4)) (da_cons de_int da_nil)))))))))))))))
    (F.bindsN fun _ _ _ _ _ _ us hl => match us, hl with | [_, _, _, _], _ => rfl)
theorem sc_law_bulk : FnScope ["_law_book_here", "_law_plain_here", "_law_cell_here", "_law_most", "_law_day_here", "_law_currency_here", "_law_lines_here", "_law_k", "_law_due"] ["_law_book_here", "_law_plain_here", "_law_cell_here", "_law_most"] (defScope s_law_bulk) := ⟨rfl, rfl, rfl, by decide +kernel, rfl, by decide +kernel, by decide +kernel⟩
theorem ok_law_bulk (X : K.In h) (G : h.Ns mainGlobals mg) (c : SaysE fal fnl exl K) : FnG P w K mg base (He.fAd K ("_law_bulk", none)) 4 5 sem_law_bulk := by
  obtain ⟨fd, F⟩ := c.def_ 26 (d := dd_law_bulk) rfl
  exact fng_of (ps := ["_law_book_here", "_law_plain_here", "_law_cell_here", "_law_most"]) F rfl (fn_ok (k := 4) F sc_law_bulk rfl fun cdv A outer s H E hr =>
    (dss_cons (ds_set (i := 4) sc_law_bulk.nd rfl (by first | exact Or.inl rfl | exact Or.inr rfl) (de_add (de_call (ok_law_closed X G c) (hr.mono (by decide)) rfl (He.glo_ok X G (c.fact 63 rfl)) (da_cons (de_var (pv 1)) da_nil)) de_int))
    (dss_cons (ds_set (i := 5) sc_law_bulk.nd rfl (by first | exact Or.inl rfl | exact Or.inr rfl) (de_ix hr.units (de_ix hr.units (de_var (pv 1)) de_str) (de_neg de_int)))
    (dss_cons (ds_set (i := 6) sc_law_bulk.nd rfl (by first | exact Or.inl rfl | exact Or.inr rfl) (de_lst (da_cons (de_tup (da_cons (de_ix hr.units (de_ix hr.units (de_var (pv 1)) de_str) (de_neg de_int)) (da_cons (de_var (pv 5)) (da_cons de_int da_nil)))) (da_cons (de_tup (da_cons (de_ix hr.units (de_ix hr.units (de_var (pv 1)) de_str) (de_neg de_int)) (da_cons (de_var (pv 5)) (da_cons (de_neg de_int) da_nil)))) da_nil))))
    (dss_cons (ds_if (dt_cmp (cm_eq hr.units) (de_mod (de_var (pv 2)) de_int) de_int (nomark _)) (dss_cons (ds_for (i := 7) (passes_of rfl) rfl sc_law_bulk.nd rfl (by first | exact Or.inl rfl | exact Or.inr rfl) (di_range1 rfl (He.free_ok X G (c.fact 0 rfl)) (da_cons (de_mod (de_floor (de_var (pv 2)) de_int) (de_var (pv 3))) da_nil)) (dss_cons (ds_set (i := 8) sc_law_bulk.nd rfl (by first | exact Or.inl rfl | exact Or.inr rfl) (de_call (ok_law_put X G c) (hr.mono (by decide)) rfl (He.glo_ok X G (c.fact 65 rfl)) (da_cons (de_var (pv 1)) (da_cons (de_callB (cg_min rfl) rfl (He.free_ok X G (c.fact 64 rfl)) bt_min (da_cons de_int (da_cons (de_add (de_var (pv 4)) (de_var (pv 7))) da_nil))) (da_cons de_str (da_cons (de_var (pv 6)) (da_cons de_int da_nil)))))))
    (dss_cons (ds_expr (de_lm lm_append (de_ix hr.units (de_var (pv 1)) de_str) (de_tup (da_cons de_str (da_cons (de_callB (cg_min rfl) rfl (He.free_ok X G (c.fact 64 rfl)) bt_min (da_cons de_int (da_cons (de_add (de_var (pv 4)) (de_var (pv 7))) da_nil))) (da_cons de_str (da_cons (de_callTy cg_tuple rfl (He.free_ok X G (c.fact 37 rfl)) bt_tuple (da_cons (de_var (pv 6)) da_nil)) da_nil)))))))
    (dss_one (ds_if (dt_cmp (cm_ne hr.units) (de_meth ⟨_, _, rfl, by decide +kernel, He.cls_ok (c.fact 16 rfl), He.meth_ok (c.fact 66 rfl)⟩ (ok_Book_post X G c) (hr.mono (by decide)) (de_var (pv 0)) (da_cons (de_callB (cg_min rfl) rfl (He.free_ok X G (c.fact 64 rfl)) bt_min (da_cons de_int (da_cons (de_add (de_var (pv 4)) (de_var (pv 7))) da_nil))) (da_cons de_str (da_cons (de_var (pv 6)) da_nil)))) (de_var (pv 8)) (nomark _)) (dss_one (ds_ret de_bl)) dss_nil)))))
    (dss_one (ds_dput hr.units (de_var (pv 1)) de_str (de_add (de_ix hr.units (de_var (pv 1)) de_str) (de_mod (de_floor (de_var (pv 2)) de_int) (de_var (pv 3)))) rfl))) dss_nil)
    (dss_one (ds_ret de_bl)))))))
    (F.bindsN fun _ _ _ _ _ _ us hl => match us, hl with | [_, _, _, _], _ => rfl)
theorem sc_law_day : FnScope ["_law_plain_here", "_law_cell_here", "_law_closed_here"] ["_law_plain_here", "_law_cell_here"] (defScope s_law_day) := ⟨rfl, rfl, rfl, by decide +kernel, rfl, by decide +kernel, by decide +kernel⟩
theorem ok_law_day (X : K.In h) (G : h.Ns mainGlobals mg) (c : SaysE fal fnl exl K) : FnG P w K mg base (He.fAd K ("_law_day", none)) 2 2 sem_law_day := by
  obtain ⟨fd, F⟩ := c.def_ 27 (d := dd_law_day) rfl
  exact fng_of (ps := ["_law_plain_here", "_law_cell_here"]) F rfl (fn_ok (k := 1) F sc_law_day rfl fun cdv A outer s H E hr =>
    (dss_cons (ds_set (i := 2) sc_law_day.nd rfl (by first | exact Or.inl rfl | exact Or.inr rfl) (de_call (ok_law_closed X G c) (hr.mono (by decide)) rfl (He.glo_ok X G (c.fact 63 rfl)) (da_cons (de_var (pv 0)) da_nil)))
    (dss_cons (ds_if (dt_cmp (cm_eq hr.units) (de_mod (de_var (pv 1)) de_int) de_int (nomark _)) (dss_one (ds_ret (de_add (de_add (de_var (pv 2)) de_int) (de_mod (de_floor (de_var (pv 1)) de_int) (de_sub de_int (de_var (pv 2))))))) dss_nil)
    (dss_one (ds_ret (de_callB (cg_min rfl) rfl (He.free_ok X G (c.fact 64 rfl)) bt_min (da_cons de_int (da_cons (de_add (de_add (de_var (pv 2)) de_int) (de_mod (de_floor (de_var (pv 1)) de_int) de_int)) da_nil))))))))
    (F.bindsN fun _ _ _ _ _ _ us hl => match us, hl with | [_, _], _ => rfl)
theorem sc_law_note : FnScope ["_law_cell_here", "_law_some", "_law_found", "_law_k"] ["_law_cell_here"] (defScope s_law_note) := ⟨rfl, rfl, rfl, by decide +kernel, rfl, by decide +kernel, by decide +kernel⟩
theorem ok_law_note (X : K.In h) (G : h.Ns mainGlobals mg) (c : SaysE fal fnl exl K) : FnG P w K mg base (He.fAd K ("_law_note", none)) 1 1 sem_law_note := by
  obtain ⟨fd, F⟩ := c.def_ 28 (d := dd_law_note) rfl
  exact fng_of (ps := ["_law_cell_here"]) F rfl (fn_ok (k := 0) F sc_law_note rfl fun cdv A outer s H E hr =>
    (dss_cons (ds_set (i := 1) sc_law_note.nd rfl (by first | exact Or.inl rfl | exact Or.inr rfl) de_str)
    (dss_cons (ds_set (i := 1) sc_law_note.nd rfl (by first | exact Or.inl rfl | exact Or.inr rfl) (de_add (de_var (pv 1)) de_str))
    (dss_cons (ds_set (i := 1) sc_law_note.nd rfl (by first | exact Or.inl rfl | exact Or.inr rfl) (de_add (de_var (pv 1)) de_str))
    (dss_cons (ds_set (i := 2) sc_law_note.nd rfl (by first | exact Or.inl rfl | exact Or.inr rfl) de_str)
    (dss_cons (ds_for (i := 3) (passes_of rfl) rfl sc_law_note.nd rfl (by first | exact Or.inl rfl | exact Or.inr rfl) (di_range1 rfl (He.free_ok X G (c.fact 0 rfl)) (da_cons (de_mod (de_var (pv 0)) de_int) da_nil)) (dss_one (ds_set (i := 2) sc_law_note.nd rfl (by first | exact Or.inl rfl | exact Or.inr rfl) (de_add (de_var (pv 2)) (de_ix hr.units (de_var (pv 1)) (de_mod (de_add (de_floor (de_var (pv 0)) de_int) (de_mul (de_floor (de_var (pv 0)) de_int) (de_var (pv 3)))) de_int))))))
    (dss_one (ds_ret (de_var (pv 2))))))))))
    (F.bindsN fun _ _ _ _ _ _ us hl => match us, hl with | [_], _ => rfl)
theorem sc_law_amount : FnScope ["_law_cell_here"] ["_law_cell_here"] (defScope s_law_amount) := ⟨rfl, rfl, rfl, by decide +kernel, rfl, by decide +kernel, by decide +kernel⟩
theorem ok_law_amount (X : K.In h) (G : h.Ns mainGlobals mg) (c : SaysE fal fnl exl K) : FnG P w K mg base (He.fAd K ("_law_amount", none)) 1 1 sem_law_amount := by
  obtain ⟨fd, F⟩ := c.def_ 29 (d := dd_law_amount) rfl
  exact fng_of (ps := ["_law_cell_here"]) F rfl (fn_ok (k := 0) F sc_law_amount rfl fun cdv A outer s H E hr =>
    (dss_one (ds_ret (de_add de_int (de_mod (de_floor (de_var (pv 0)) de_int) (de_if (dt_cmp (cm_eq hr.units) (de_mod (de_var (pv 0)) de_int) de_int (nomark _)) (de_mul de_int (de_pow de_int de_int)) de_int))))))
    (F.bindsN fun _ _ _ _ _ _ us hl => match us, hl with | [_], _ => rfl)
theorem sc_law_lines : FnScope ["_law_plain_here", "_law_big", "_law_pick", "_law_names_here", "_law_found", "_law_many", "_law_k", "_law_left", "_law_currency_here", "_law_one", "_law_two", "_law_line"] ["_law_plain_here", "_law_big", "_law_pick"] (defScope s_law_lines) := ⟨rfl, rfl, rfl, by decide +kernel, rfl, by decide +kernel, by decide +kernel⟩
theorem ok_law_lines (X : K.In h) (G : h.Ns mainGlobals mg) (c : SaysE fal fnl exl K) : FnG P w K mg base (He.fAd K ("_law_lines", none)) 3 2 sem_law_lines := by
  obtain ⟨fd, F⟩ := c.def_ 30 (d := dd_law_lines) rfl
  exact fng_of (ps := ["_law_plain_here", "_law_big", "_law_pick"]) F rfl (fn_okP (k := 1) F sc_law_lines rfl fun cdv A outer s H E hr =>
    (dss_cons (ds_set (i := 3) sc_law_lines.nd rfl (by first | exact Or.inl rfl | exact Or.inr rfl) (de_ix hr.units (de_var (pv 0)) de_str))
    (dss_cons (ds_set (i := 4) sc_law_lines.nd rfl (by first | exact Or.inl rfl | exact Or.inr rfl) (de_lstS da_nil))
    (dss_cons (ds_set (i := 5) sc_law_lines.nd rfl (by first | exact Or.inl rfl | exact Or.inr rfl) (de_if (dt_cmp (cm_eq hr.units) (de_mod (de_var (pv 2)) de_int) de_int (nomark _)) (de_add de_int (de_mod (de_floor (de_var (pv 2)) de_int) de_int)) (de_add de_int (de_mod (de_var (pv 2)) de_int))))
    (dss_cons (ds_for (i := 6) (passes_of rfl) rfl sc_law_lines.nd rfl (by first | exact Or.inl rfl | exact Or.inr rfl) (di_range1 rfl (He.free_ok X G (c.fact 0 rfl)) (da_cons (de_var (pv 5)) da_nil)) (dss_cons (ds_set (i := 7) sc_law_lines.nd rfl (by first | exact Or.inl rfl | exact Or.inr rfl) (de_add (de_floor (de_var (pv 2)) de_int) (de_mul de_int (de_var (pv 6)))))
    (dss_cons (ds_set (i := 8) sc_law_lines.nd rfl (by first | exact Or.inl rfl | exact Or.inr rfl) (de_ix hr.units (de_ix hr.units (de_var (pv 0)) de_str) (de_mod (de_var (pv 7)) (de_callB cg_len rfl (He.free_ok X G (c.fact 1 rfl)) bt_len (da_cons (de_ix hr.units (de_var (pv 0)) de_str) da_nil)))))
    (dss_cons (ds_set (i := 9) sc_law_lines.nd rfl (by first | exact Or.inl rfl | exact Or.inr rfl) (de_call (ok_law_amount X G c) (hr.mono (by decide)) rfl (He.glo_ok X G (c.fact 67 rfl)) (da_cons (de_add (de_var (pv 1)) (de_mul de_int (de_var (pv 6)))) da_nil)))
    (dss_cons (ds_set (i := 10) sc_law_lines.nd rfl (by first | exact Or.inl rfl | exact Or.inr rfl) (de_mul (de_call (ok_law_amount X G c) (hr.mono (by decide)) rfl (He.glo_ok X G (c.fact 67 rfl)) (da_cons (de_add (de_floor (de_var (pv 1)) de_int) (de_var (pv 6))) da_nil)) (de_sub (de_mod (de_floor (de_var (pv 7)) de_int) de_int) de_int)))
    (dss_cons (ds_expr (de_lm lm_append (de_var (pv 4)) (de_tup (da_cons (de_ix hr.units (de_var (pv 3)) (de_mod (de_floor (de_var (pv 7)) de_int) (de_callB cg_len rfl (He.free_ok X G (c.fact 1 rfl)) bt_len (da_cons (de_var (pv 3)) da_nil)))) (da_cons (de_var (pv 8)) (da_cons (de_var (pv 9)) da_nil))))))
    (dss_cons (ds_expr (de_lm lm_append (de_var (pv 4)) (de_tup (da_cons (de_ix hr.units (de_var (pv 3)) (de_mod (de_floor (de_var (pv 7)) de_int) (de_callB cg_len rfl (He.free_ok X G (c.fact 1 rfl)) bt_len (da_cons (de_var (pv 3)) da_nil)))) (da_cons (de_var (pv 8)) (da_cons (de_sub (de_sub de_int (de_var (pv 9))) (de_var (pv 10))) da_nil))))))
    (dss_one (ds_expr (de_lm lm_append (de_var (pv 4)) (de_tup (da_cons (de_ix hr.units (de_var (pv 3)) (de_mod (de_floor (de_var (pv 7)) de_int) (de_callB cg_len rfl (He.free_ok X G (c.fact 1 rfl)) bt_len (da_cons (de_var (pv 3)) da_nil)))) (da_cons (de_var (pv 8)) (da_cons (de_var (pv 10)) da_nil))))))))))))))
    (dss_one (ds_ret (de_lc (own := [("_law_line", 11)]) kp_frz rfl sc_law_lines.nd (di_any (de_var (pv 4))) (blkOk_by (N := ["_law_plain_here", "_law_big", "_law_pick", "_law_names_here", "_law_found", "_law_many", "_law_k", "_law_left", "_law_currency_here", "_law_one", "_law_two", "_law_line"]) (sc := defScope s_law_lines) (by decide +kernel)) (by decide) (fun _ _ _ _ _ => pg_name (i := 11) sc_law_lines.nd rfl (by first | exact Or.inl rfl | exact Or.inr rfl)) (fun _ _ _ _ _ => (dts_one (dt_cmp (cm_ne hr.units) (de_ix hr.units (de_var (pv 11)) de_int) de_int (nomark _)))) (fun _ _ _ _ _ => (de_var (pv 11)))))))))))
    (F.bindsN fun _ _ _ _ _ _ us hl => match us, hl with | [_, _, _], _ => rfl)
theorem sc_law_post : FnScope ["_law_book_here", "_law_plain_here", "_law_big", "_law_pick", "_law_day_here", "_law_note_here", "_law_lines_here", "_law_due"] ["_law_book_here", "_law_plain_here", "_law_big", "_law_pick"] (defScope s_law_post) := ⟨rfl, rfl, rfl, by decide +kernel, rfl, by decide +kernel, by decide +kernel⟩
theorem ok_law_post (X : K.In h) (G : h.Ns mainGlobals mg) (c : SaysE fal fnl exl K) : FnG P w K mg base (He.fAd K ("_law_post", none)) 4 5 sem_law_post := by
  obtain ⟨fd, F⟩ := c.def_ 31 (d := dd_law_post) rfl
  exact fng_of (ps := ["_law_book_here", "_law_plain_here", "_law_big", "_law_pick"]) F rfl (fn_ok (k := 4) F sc_law_post rfl fun cdv A outer s H E hr =>
    (dss_cons (ds_set (i := 4) sc_law_post.nd rfl (by first | exact Or.inl rfl | exact Or.inr rfl) (de_call (ok_law_day X G c) (hr.mono (by decide)) rfl (He.glo_ok X G (c.fact 68 rfl)) (da_cons (de_var (pv 1)) (da_cons (de_var (pv 2)) da_nil))))
    (dss_cons (ds_set (i := 5) sc_law_post.nd rfl (by first | exact Or.inl rfl | exact Or.inr rfl) (de_call (ok_law_note X G c) (hr.mono (by decide)) rfl (He.glo_ok X G (c.fact 69 rfl)) (da_cons (de_var (pv 3)) da_nil)))
    (dss_cons (ds_set (i := 6) sc_law_post.nd rfl (by first | exact Or.inl rfl | exact Or.inr rfl) (de_call (ok_law_lines X G c) (hr.mono (by decide)) rfl (He.glo_ok X G (c.fact 70 rfl)) (da_cons (de_var (pv 1)) (da_cons (de_floor (de_var (pv 2)) de_int) (da_cons (de_var (pv 3)) da_nil)))))
    (dss_cons (ds_set (i := 7) sc_law_post.nd rfl (by first | exact Or.inl rfl | exact Or.inr rfl) (de_call (ok_law_put X G c) (hr.mono (by decide)) rfl (He.glo_ok X G (c.fact 65 rfl)) (da_cons (de_var (pv 1)) (da_cons (de_var (pv 4)) (da_cons (de_var (pv 5)) (da_cons (de_var (pv 6)) (da_cons de_int da_nil)))))))
    (dss_cons (ds_expr (de_lm lm_append (de_ix hr.units (de_var (pv 1)) de_str) (de_tup (da_cons de_str (da_cons (de_var (pv 4)) (da_cons (de_var (pv 5)) (da_cons (de_callTy cg_tuple rfl (He.free_ok X G (c.fact 37 rfl)) bt_tuple (da_cons (de_var (pv 6)) da_nil)) da_nil)))))))
    (dss_one (ds_ret (de_cmp (cm_eq hr.units) (de_meth ⟨_, _, rfl, by decide +kernel, He.cls_ok (c.fact 16 rfl), He.meth_ok (c.fact 66 rfl)⟩ (ok_Book_post X G c) (hr.mono (by decide)) (de_var (pv 0)) (da_cons (de_var (pv 4)) (da_cons (de_var (pv 5)) (da_cons (de_var (pv 6)) da_nil)))) (de_var (pv 7)) (nomark _))))))))))
    (F.bindsN fun _ _ _ _ _ _ us hl => match us, hl with | [_, _, _, _], _ => rfl)
theorem sc_law_admit : FnScope ["_law_book_here", "_law_plain_here", "_law_big", "_law_name_here"] ["_law_book_here", "_law_plain_here", "_law_big"] (defScope s_law_admit) := ⟨rfl, rfl, rfl, by decide +kernel, rfl, by decide +kernel, by decide +kernel⟩
theorem ok_law_admit (X : K.In h) (G : h.Ns mainGlobals mg) (c : SaysE fal fnl exl K) : FnG P w K mg base (He.fAd K ("_law_admit", none)) 3 3 sem_law_admit := by
  obtain ⟨fd, F⟩ := c.def_ 32 (d := dd_law_admit) rfl
  exact fng_of (ps := ["_law_book_here", "_law_plain_here", "_law_big"]) F rfl (fn_ok (k := 2) F sc_law_admit rfl fun cdv A outer s H E hr =>
    (dss_cons (ds_set (i := 3) sc_law_admit.nd rfl (by first | exact Or.inl rfl | exact Or.inr rfl) (de_call (ok_law_name X G c) (hr.mono (by decide)) rfl (He.glo_ok X G (c.fact 2 rfl)) (da_cons (de_var (pv 2)) da_nil)))
    (dss_cons (ds_if (dw_t (dw_or (dt_cmp (cm_in hr.units) (de_var (pv 3)) (de_ix hr.units (de_var (pv 1)) de_str) rfl) (dw_or1 (dt_cmp cm_gt (de_callB cg_len rfl (He.free_ok X G (c.fact 1 rfl)) bt_len (da_cons (de_ix hr.units (de_var (pv 1)) de_str) da_nil)) de_int (nomark _))))) (dss_one (ds_ret de_bl)) dss_nil)
    (dss_cons (ds_expr (de_lm lm_append (de_ix hr.units (de_var (pv 1)) de_str) (de_var (pv 3))))
    (dss_cons (ds_expr (de_lm lm_append (de_ix hr.units (de_var (pv 1)) de_str) (de_tup (da_cons de_str (da_cons (de_var (pv 3)) da_nil)))))
    (dss_one (ds_ret (de_cmp cm_is (de_meth ⟨_, _, rfl, by decide +kernel, He.cls_ok (c.fact 16 rfl), He.meth_ok (c.fact 36 rfl)⟩ (ok_Book_admit X G c) (hr.mono (by decide)) (de_var (pv 0)) (da_cons (de_var (pv 3)) da_nil)) de_non (nomark _)))))))))
    (F.bindsN fun _ _ _ _ _ _ us hl => match us, hl with | [_, _, _], _ => rfl)
theorem sc_is_rate : FnScope ["top", "bottom"] ["top", "bottom"] (defScope s_is_rate) := ⟨rfl, rfl, rfl, by decide +kernel, rfl, by decide +kernel, by decide +kernel⟩
theorem ok_is_rate (X : K.In h) (G : h.Ns mainGlobals mg) (c : SaysE fal fnl exl K) : FnG P w K mg base (He.fAd K ("is_rate", none)) 2 1 sem_is_rate := by
  obtain ⟨fd, F⟩ := c.def_ 33 (d := dd_is_rate) rfl
  exact fng_of (ps := ["top", "bottom"]) F rfl (fn_ok (k := 0) F sc_is_rate rfl fun cdv A outer s H E hr =>
    (dss_one (ds_ret (de_and (de_chain cm_le cm_le de_int (de_var (pv 0)) (de_gint (i := 1000000000) rfl (He.int_ok X G (c.fact 71 rfl)).choose_spec)) (de_one (de_chain cm_le cm_le de_int (de_var (pv 1)) (de_gint (i := 1000000000) rfl (He.int_ok X G (c.fact 71 rfl)).choose_spec)))))))
    (F.bindsN fun _ _ _ _ _ _ us hl => match us, hl with | [_, _], _ => rfl)
theorem sc_Rates_told : FnScope ["self", "currency", "day", "pair"] ["self", "currency", "day", "pair"] (defScope s_Rates_told) := ⟨rfl, rfl, rfl, by decide +kernel, rfl, by decide +kernel, by decide +kernel⟩
theorem ok_Rates_told (X : K.In h) (G : h.Ns mainGlobals mg) (c : SaysE fal fnl exl K) : FnG P w K mg base (He.fAd K ("Rates", some "told")) 4 1 sem_Rates_told := by
  obtain ⟨fd, F⟩ := c.def_ 34 (d := dd_Rates_told) rfl
  exact fng_of (ps := ["self", "currency", "day", "pair"]) F rfl (fn_ok (k := 0) F sc_Rates_told rfl fun cdv A outer s H E hr =>
    (dss_one (ds_expr (de_lm lm_append (de_fld ⟨_, _, rfl, fl1_nd, rfl, He.cls_ok (c.fact 10 rfl), He.noat_ok (c.fact 12 rfl)⟩ (de_var (pv 0)) rfl) (de_tup (da_cons (de_var (pv 1)) (da_cons (de_var (pv 2)) (da_cons (de_var (pv 3)) da_nil))))))))
    (F.bindsN fun _ _ _ _ _ _ us hl => match us, hl with | [_, _, _, _], _ => rfl)
theorem sc_Book_tell_rate : FnScope ["self", "currency", "day", "top", "bottom"] ["self", "currency", "day", "top", "bottom"] (defScope s_Book_tell_rate) := ⟨rfl, rfl, rfl, by decide +kernel, rfl, by decide +kernel, by decide +kernel⟩
theorem ok_Book_tell_rate (X : K.In h) (G : h.Ns mainGlobals mg) (c : SaysE fal fnl exl K) : FnG P w K mg base (He.fAd K ("Book", some "tell_rate")) 5 4 sem_Book_tell_rate := by
  obtain ⟨fd, F⟩ := c.def_ 35 (d := dd_Book_tell_rate) rfl
  exact fng_of (ps := ["self", "currency", "day", "top", "bottom"]) F rfl (fn_ok (k := 3) F sc_Book_tell_rate rfl fun cdv A outer s H E hr =>
    (dss_cons (ds_expr (de_meth ⟨_, _, rfl, by decide +kernel, He.cls_ok (c.fact 16 rfl), He.meth_ok (c.fact 57 rfl)⟩ (ok_Book_need_currency X G c) (hr.mono (by decide)) (de_var (pv 0)) (da_cons (de_var (pv 1)) da_nil)))
    (dss_cons (ds_expr (de_meth ⟨_, _, rfl, by decide +kernel, He.cls_ok (c.fact 16 rfl), He.meth_ok (c.fact 50 rfl)⟩ (ok_Book_need_open X G c) (hr.mono (by decide)) (de_var (pv 0)) (da_cons (de_var (pv 2)) da_nil)))
    (dss_cons (ds_if (dw_t (dw_or (dt_cmp (cm_eq hr.units) (de_var (pv 1)) (de_fld ⟨_, _, rfl, fl0_nd, rfl, He.cls_ok (c.fact 16 rfl), He.noat_ok (c.fact 17 rfl)⟩ (de_var (pv 0)) rfl) (nomark _)) (dw_or1 (dt_not (dt_val (de_call (ok_is_rate X G c) (hr.mono (by decide)) rfl (He.glo_ok X G (c.fact 72 rfl)) (da_cons (de_var (pv 3)) (da_cons (de_var (pv 4)) da_nil)))))))) (dss_one (ds_raise (c := 6) rfl (He.exc_ok (c.fact 73 rfl)) rfl (He.glo_ok X G (c.fact 74 rfl)))) dss_nil)
    (dss_cons (ds_expr (de_meth ⟨_, _, rfl, by decide +kernel, He.cls_ok (c.fact 10 rfl), He.meth_ok (c.fact 75 rfl)⟩ (ok_Rates_told X G c) (hr.mono (by decide)) (de_fld ⟨_, _, rfl, fl0_nd, rfl, He.cls_ok (c.fact 16 rfl), He.noat_ok (c.fact 20 rfl)⟩ (de_var (pv 0)) rfl) (da_cons (de_var (pv 1)) (da_cons (de_var (pv 2)) (da_cons (de_tup (da_cons (de_var (pv 3)) (da_cons (de_var (pv 4)) da_nil))) da_nil)))))
    (dss_one (ds_expr (de_lm lm_append (de_fld ⟨_, _, rfl, fl0_nd, rfl, He.cls_ok (c.fact 16 rfl), He.noat_ok (c.fact 26 rfl)⟩ (de_var (pv 0)) rfl) (de_tup (da_cons de_str (da_cons (de_var (pv 1)) (da_cons (de_var (pv 2)) (da_cons (de_var (pv 3)) (da_cons (de_var (pv 4)) da_nil))))))))))))))
    (F.bindsN fun _ _ _ _ _ _ us hl => match us, hl with | [_, _, _, _, _], _ => rfl)
theorem sc_law_tell : FnScope ["_law_book_here", "_law_plain_here", "_law_big", "_law_pick", "_law_day_here", "_law_currency_here", "_law_row"] ["_law_book_here", "_law_plain_here", "_law_big", "_law_pick"] (defScope s_law_tell) := ⟨rfl, rfl, rfl, by decide +kernel, rfl, by decide +kernel, by decide +kernel⟩
theorem ok_law_tell (X : K.In h) (G : h.Ns mainGlobals mg) (c : SaysE fal fnl exl K) : FnG P w K mg base (He.fAd K ("_law_tell", none)) 4 5 sem_law_tell := by
  obtain ⟨fd, F⟩ := c.def_ 36 (d := dd_law_tell) rfl
  exact fng_of (ps := ["_law_book_here", "_law_plain_here", "_law_big", "_law_pick"]) F rfl (fn_ok (k := 4) F sc_law_tell rfl fun cdv A outer s H E hr =>
    (dss_cons (ds_set (i := 4) sc_law_tell.nd rfl (by first | exact Or.inl rfl | exact Or.inr rfl) (de_call (ok_law_day X G c) (hr.mono (by decide)) rfl (He.glo_ok X G (c.fact 68 rfl)) (da_cons (de_var (pv 1)) (da_cons (de_var (pv 2)) da_nil))))
    (dss_cons (ds_set (i := 5) sc_law_tell.nd rfl (by first | exact Or.inl rfl | exact Or.inr rfl) (de_ix hr.units (de_ix hr.units (de_var (pv 1)) de_str) (de_add de_int (de_mod (de_var (pv 3)) (de_sub (de_callB cg_len rfl (He.free_ok X G (c.fact 1 rfl)) bt_len (da_cons (de_ix hr.units (de_var (pv 1)) de_str) da_nil)) de_int)))))
    (dss_cons (ds_set (i := 6) sc_law_tell.nd rfl (by first | exact Or.inl rfl | exact Or.inr rfl) (de_tup (da_cons (de_var (pv 5)) (da_cons (de_var (pv 4)) (da_cons (de_add de_int (de_mod (de_floor (de_var (pv 3)) de_int) (de_pow de_int de_int))) (da_cons (de_add de_int (de_mod (de_floor (de_var (pv 2)) de_int) (de_pow de_int de_int))) da_nil))))))
    (dss_cons (ds_if (dt_cmp cm_gt (de_mod (de_floor (de_var (pv 3)) de_int) de_int) de_int (nomark _)) (dss_one (ds_set (i := 6) sc_law_tell.nd rfl (by first | exact Or.inl rfl | exact Or.inr rfl) (de_tup (da_cons (de_ix hr.units (de_var (pv 6)) de_int) (da_cons (de_var (pv 4)) (da_cons (de_add de_int (de_mod (de_floor (de_var (pv 3)) de_int) de_int)) (da_cons (de_add de_int (de_mod (de_floor (de_var (pv 2)) de_int) de_int)) da_nil))))))) dss_nil)
    (dss_cons (ds_expr (de_lm lm_append (de_ix hr.units (de_var (pv 1)) de_str) (de_var (pv 6))))
    (dss_cons (ds_expr (de_lm lm_append (de_ix hr.units (de_var (pv 1)) de_str) (de_tup (da_cons de_str (da_cons (de_ix hr.units (de_var (pv 6)) de_int) (da_cons (de_var (pv 4)) (da_cons (de_ix hr.units (de_var (pv 6)) de_int) (da_cons (de_ix hr.units (de_var (pv 6)) de_int) da_nil))))))))
    (dss_one (ds_ret (de_cmp cm_is (de_meth ⟨_, _, rfl, by decide +kernel, He.cls_ok (c.fact 16 rfl), He.meth_ok (c.fact 76 rfl)⟩ (ok_Book_tell_rate X G c) (hr.mono (by decide)) (de_var (pv 0)) (da_cons (de_ix hr.units (de_var (pv 6)) de_int) (da_cons (de_var (pv 4)) (da_cons (de_ix hr.units (de_var (pv 6)) de_int) (da_cons (de_ix hr.units (de_var (pv 6)) de_int) da_nil))))) de_non (nomark _)))))))))))
    (F.bindsN fun _ _ _ _ _ _ us hl => match us, hl with | [_, _, _, _], _ => rfl)
theorem sc_law_rate : FnScope ["_law_plain_here", "_law_currency_here", "_law_day_here", "_law_found", "_law_row"] ["_law_plain_here", "_law_currency_here", "_law_day_here"] (defScope s_law_rate) := ⟨rfl, rfl, rfl, by decide +kernel, rfl, by decide +kernel, by decide +kernel⟩
theorem ok_law_rate (X : K.In h) (G : h.Ns mainGlobals mg) (c : SaysE fal fnl exl K) : FnG P w K mg base (He.fAd K ("_law_rate", none)) 3 1 sem_law_rate := by
  obtain ⟨fd, F⟩ := c.def_ 37 (d := dd_law_rate) rfl
  exact fng_of (ps := ["_law_plain_here", "_law_currency_here", "_law_day_here"]) F rfl (fn_ok (k := 0) F sc_law_rate rfl fun cdv A outer s H E hr =>
    (dss_cons (ds_if (dt_cmp (cm_eq hr.units) (de_var (pv 1)) (de_ix hr.units (de_ix hr.units (de_var (pv 0)) de_str) de_int) (nomark _)) (dss_one (ds_ret (de_tup (da_cons de_int (da_cons de_int da_nil))))) dss_nil)
    (dss_cons (ds_set (i := 3) sc_law_rate.nd rfl (by first | exact Or.inl rfl | exact Or.inr rfl) de_non)
    (dss_cons (ds_for (i := 4) (passes_of rfl) rfl sc_law_rate.nd rfl (by first | exact Or.inl rfl | exact Or.inr rfl) (di_any (de_ix hr.units (de_var (pv 0)) de_str)) (dss_one (ds_if (dw_t (dw_and (dt_cmp (cm_eq hr.units) (de_ix hr.units (de_var (pv 4)) de_int) (de_var (pv 1)) (nomark _)) (dw_and (dt_cmp cm_le (de_ix hr.units (de_var (pv 4)) de_int) (de_var (pv 2)) (nomark _)) (dw_and1 (dw_t (dw_or (dt_cmp cm_is (de_var (pv 3)) de_non (nomark _)) (dw_or1 (dt_cmp cm_ge (de_ix hr.units (de_var (pv 4)) de_int) (de_ix hr.units (de_var (pv 3)) de_int) (nomark _))))))))) (dss_one (ds_set (i := 3) sc_law_rate.nd rfl (by first | exact Or.inl rfl | exact Or.inr rfl) (de_var (pv 4)))) dss_nil)))
    (dss_cons (ds_if (dt_cmp cm_is (de_var (pv 3)) de_non (nomark _)) (dss_one (ds_ret de_non)) dss_nil)
    (dss_one (ds_ret (de_tup (da_cons (de_ix hr.units (de_var (pv 3)) de_int) (da_cons (de_ix hr.units (de_var (pv 3)) de_int) da_nil))))))))))
    (F.bindsN fun _ _ _ _ _ _ us hl => match us, hl with | [_, _, _], _ => rfl)
theorem sc_changed : FnScope ["amount", "one", "other"] ["amount", "one", "other"] (defScope s_changed) := ⟨rfl, rfl, rfl, by decide +kernel, rfl, by decide +kernel, by decide +kernel⟩
theorem ok_changed (X : K.In h) (G : h.Ns mainGlobals mg) (c : SaysE fal fnl exl K) : FnG P w K mg base (He.fAd K ("changed", none)) 3 1 sem_changed := by
  obtain ⟨fd, F⟩ := c.def_ 38 (d := dd_changed) rfl
  exact fng_of (ps := ["amount", "one", "other"]) F rfl (fn_ok (k := 0) F sc_changed rfl fun cdv A outer s H E hr =>
    (dss_one (ds_ret (de_floor (de_mul (de_mul (de_var (pv 0)) (de_ix hr.units (de_var (pv 1)) de_int)) (de_ix hr.units (de_var (pv 2)) de_int)) (de_mul (de_ix hr.units (de_var (pv 1)) de_int) (de_ix hr.units (de_var (pv 2)) de_int))))))
    (F.bindsN fun _ _ _ _ _ _ us hl => match us, hl with | [_, _, _], _ => rfl)
theorem sc_Rates_of_day : FnScope ["self", "currency", "day", "found", "row"] ["self", "currency", "day"] (defScope s_Rates_of_day) := ⟨rfl, rfl, rfl, by decide +kernel, rfl, by decide +kernel, by decide +kernel⟩
theorem ok_Rates_of_day (X : K.In h) (G : h.Ns mainGlobals mg) (c : SaysE fal fnl exl K) : FnG P w K mg base (He.fAd K ("Rates", some "of_day")) 3 1 sem_Rates_of_day := by
  obtain ⟨fd, F⟩ := c.def_ 39 (d := dd_Rates_of_day) rfl
  exact fng_of (ps := ["self", "currency", "day"]) F rfl (fn_ok (k := 0) F sc_Rates_of_day rfl fun cdv A outer s H E hr =>
    (dss_cons (ds_if (dt_cmp (cm_eq hr.units) (de_var (pv 1)) (de_fld ⟨_, _, rfl, fl1_nd, rfl, He.cls_ok (c.fact 10 rfl), He.noat_ok (c.fact 11 rfl)⟩ (de_var (pv 0)) rfl) (nomark _)) (dss_one (ds_ret (de_tup (da_cons de_int (da_cons de_int da_nil))))) dss_nil)
    (dss_cons (ds_set (i := 3) sc_Rates_of_day.nd rfl (by first | exact Or.inl rfl | exact Or.inr rfl) de_non)
    (dss_cons (ds_for (i := 4) (passes_of rfl) rfl sc_Rates_of_day.nd rfl (by first | exact Or.inl rfl | exact Or.inr rfl) (di_any (de_fld ⟨_, _, rfl, fl1_nd, rfl, He.cls_ok (c.fact 10 rfl), He.noat_ok (c.fact 12 rfl)⟩ (de_var (pv 0)) rfl)) (dss_one (ds_if (dw_t (dw_and (dt_cmp (cm_eq hr.units) (de_ix hr.units (de_var (pv 4)) de_int) (de_var (pv 1)) (nomark _)) (dw_and (dt_cmp cm_le (de_ix hr.units (de_var (pv 4)) de_int) (de_var (pv 2)) (nomark _)) (dw_and1 (dw_t (dw_or (dt_cmp cm_is (de_var (pv 3)) de_non (nomark _)) (dw_or1 (dt_cmp cm_le (de_ix hr.units (de_var (pv 3)) de_int) (de_ix hr.units (de_var (pv 4)) de_int) (nomark _))))))))) (dss_one (ds_set (i := 3) sc_Rates_of_day.nd rfl (by first | exact Or.inl rfl | exact Or.inr rfl) (de_var (pv 4)))) dss_nil)))
    (dss_cons (ds_if (dt_cmp cm_is (de_var (pv 3)) de_non (nomark _)) (dss_one (ds_ret de_non)) dss_nil)
    (dss_one (ds_ret (de_ix hr.units (de_var (pv 3)) de_int))))))))
    (F.bindsN fun _ _ _ _ _ _ us hl => match us, hl with | [_, _, _], _ => rfl)
theorem sc_Book_rate : FnScope ["self", "currency", "day", "found"] ["self", "currency", "day"] (defScope s_Book_rate) := ⟨rfl, rfl, rfl, by decide +kernel, rfl, by decide +kernel, by decide +kernel⟩
theorem ok_Book_rate (X : K.In h) (G : h.Ns mainGlobals mg) (c : SaysE fal fnl exl K) : FnG P w K mg base (He.fAd K ("Book", some "rate")) 3 3 sem_Book_rate := by
  obtain ⟨fd, F⟩ := c.def_ 40 (d := dd_Book_rate) rfl
  exact fng_of (ps := ["self", "currency", "day"]) F rfl (fn_ok (k := 2) F sc_Book_rate rfl fun cdv A outer s H E hr =>
    (dss_cons (ds_expr (de_meth ⟨_, _, rfl, by decide +kernel, He.cls_ok (c.fact 16 rfl), He.meth_ok (c.fact 57 rfl)⟩ (ok_Book_need_currency X G c) (hr.mono (by decide)) (de_var (pv 0)) (da_cons (de_var (pv 1)) da_nil)))
    (dss_cons (ds_expr (de_meth ⟨_, _, rfl, by decide +kernel, He.cls_ok (c.fact 16 rfl), He.meth_ok (c.fact 42 rfl)⟩ (ok_Book_need_day X G c) (hr.mono (by decide)) (de_var (pv 0)) (da_cons (de_var (pv 2)) da_nil)))
    (dss_cons (ds_set (i := 3) sc_Book_rate.nd rfl (by first | exact Or.inl rfl | exact Or.inr rfl) (de_meth ⟨_, _, rfl, by decide +kernel, He.cls_ok (c.fact 10 rfl), He.meth_ok (c.fact 77 rfl)⟩ (ok_Rates_of_day X G c) (hr.mono (by decide)) (de_fld ⟨_, _, rfl, fl0_nd, rfl, He.cls_ok (c.fact 16 rfl), He.noat_ok (c.fact 20 rfl)⟩ (de_var (pv 0)) rfl) (da_cons (de_var (pv 1)) (da_cons (de_var (pv 2)) da_nil))))
    (dss_cons (ds_if (dt_cmp cm_is (de_var (pv 3)) de_non (nomark _)) (dss_one (ds_raise (c := 13) rfl (He.exc_ok (c.fact 78 rfl)) rfl (He.glo_ok X G (c.fact 79 rfl)))) dss_nil)
    (dss_one (ds_ret (de_var (pv 3)))))))))
    (F.bindsN fun _ _ _ _ _ _ us hl => match us, hl with | [_, _, _], _ => rfl)
theorem sc_Book_got : FnScope ["self", "day", "one", "amount", "other", "found"] ["self", "day", "one", "amount", "other"] (defScope s_Book_got) := ⟨rfl, rfl, rfl, by decide +kernel, rfl, by decide +kernel, by decide +kernel⟩
theorem ok_Book_got (X : K.In h) (G : h.Ns mainGlobals mg) (c : SaysE fal fnl exl K) : FnG P w K mg base (He.fAd K ("Book", some "got")) 5 4 sem_Book_got := by
  obtain ⟨fd, F⟩ := c.def_ 41 (d := dd_Book_got) rfl
  exact fng_of (ps := ["self", "day", "one", "amount", "other"]) F rfl (fn_ok (k := 3) F sc_Book_got rfl fun cdv A outer s H E hr =>
    (dss_cons (ds_if (dw_t (dw_or (dt_not (dt_val (de_call (ok_is_amount X G c) (hr.mono (by decide)) rfl (He.glo_ok X G (c.fact 58 rfl)) (da_cons (de_var (pv 3)) da_nil)))) (dw_or1 (dt_cmp cm_lt (de_var (pv 3)) de_int (nomark _))))) (dss_one (ds_raise (c := 3) rfl (He.exc_ok (c.fact 59 rfl)) rfl (He.glo_ok X G (c.fact 60 rfl)))) dss_nil)
    (dss_cons (ds_set (i := 5) sc_Book_got.nd rfl (by first | exact Or.inl rfl | exact Or.inr rfl) (de_call (ok_changed X G c) (hr.mono (by decide)) rfl (He.glo_ok X G (c.fact 81 rfl)) (da_cons (de_var (pv 3)) (da_cons (de_meth ⟨_, _, rfl, by decide +kernel, He.cls_ok (c.fact 16 rfl), He.meth_ok (c.fact 80 rfl)⟩ (ok_Book_rate X G c) (hr.mono (by decide)) (de_var (pv 0)) (da_cons (de_var (pv 2)) (da_cons (de_var (pv 1)) da_nil))) (da_cons (de_meth ⟨_, _, rfl, by decide +kernel, He.cls_ok (c.fact 16 rfl), He.meth_ok (c.fact 80 rfl)⟩ (ok_Book_rate X G c) (hr.mono (by decide)) (de_var (pv 0)) (da_cons (de_var (pv 4)) (da_cons (de_var (pv 1)) da_nil))) da_nil)))))
    (dss_cons (ds_if (dt_cmp (cm_eq hr.units) (de_var (pv 5)) de_int (nomark _)) (dss_one (ds_raise (c := 15) rfl (He.exc_ok (c.fact 82 rfl)) rfl (He.glo_ok X G (c.fact 83 rfl)))) dss_nil)
    (dss_cons (ds_if (dt_not (dt_val (de_call (ok_is_amount X G c) (hr.mono (by decide)) rfl (He.glo_ok X G (c.fact 58 rfl)) (da_cons (de_var (pv 5)) da_nil)))) (dss_one (ds_raise (c := 3) rfl (He.exc_ok (c.fact 59 rfl)) rfl (He.glo_ok X G (c.fact 60 rfl)))) dss_nil)
    (dss_one (ds_ret (de_var (pv 5)))))))))
    (F.bindsN fun _ _ _ _ _ _ us hl => match us, hl with | [_, _, _, _, _], _ => rfl)
theorem sc_Book_convert : FnScope ["self", "day", "note", "giver", "one", "amount", "taker", "other", "found", "gone", "come"] ["self", "day", "note", "giver", "one", "amount", "taker", "other"] (defScope s_Book_convert) := ⟨rfl, rfl, rfl, by decide +kernel, rfl, by decide +kernel, by decide +kernel⟩
theorem ok_Book_convert (X : K.In h) (G : h.Ns mainGlobals mg) (c : SaysE fal fnl exl K) : FnG P w K mg base (He.fAd K ("Book", some "convert")) 8 5 sem_Book_convert := by
  obtain ⟨fd, F⟩ := c.def_ 42 (d := dd_Book_convert) rfl
  exact fng_of (ps := ["self", "day", "note", "giver", "one", "amount", "taker", "other"]) F rfl (fn_ok (k := 4) F sc_Book_convert rfl fun cdv A outer s H E hr =>
    (dss_cons (ds_expr (de_meth ⟨_, _, rfl, by decide +kernel, He.cls_ok (c.fact 16 rfl), He.meth_ok (c.fact 50 rfl)⟩ (ok_Book_need_open X G c) (hr.mono (by decide)) (de_var (pv 0)) (da_cons (de_var (pv 1)) da_nil)))
    (dss_cons (ds_if (dt_not (dt_val (de_call (ok_is_note X G c) (hr.mono (by decide)) rfl (He.glo_ok X G (c.fact 51 rfl)) (da_cons (de_var (pv 2)) da_nil)))) (dss_one (ds_raise (c := 5) rfl (He.exc_ok (c.fact 52 rfl)) rfl (He.glo_ok X G (c.fact 53 rfl)))) dss_nil)
    (dss_cons (ds_expr (de_meth ⟨_, _, rfl, by decide +kernel, He.cls_ok (c.fact 16 rfl), He.meth_ok (c.fact 56 rfl)⟩ (ok_Book_need_account X G c) (hr.mono (by decide)) (de_var (pv 0)) (da_cons (de_var (pv 3)) da_nil)))
    (dss_cons (ds_expr (de_meth ⟨_, _, rfl, by decide +kernel, He.cls_ok (c.fact 16 rfl), He.meth_ok (c.fact 56 rfl)⟩ (ok_Book_need_account X G c) (hr.mono (by decide)) (de_var (pv 0)) (da_cons (de_var (pv 6)) da_nil)))
    (dss_cons (ds_expr (de_meth ⟨_, _, rfl, by decide +kernel, He.cls_ok (c.fact 16 rfl), He.meth_ok (c.fact 57 rfl)⟩ (ok_Book_need_currency X G c) (hr.mono (by decide)) (de_var (pv 0)) (da_cons (de_var (pv 4)) da_nil)))
    (dss_cons (ds_expr (de_meth ⟨_, _, rfl, by decide +kernel, He.cls_ok (c.fact 16 rfl), He.meth_ok (c.fact 57 rfl)⟩ (ok_Book_need_currency X G c) (hr.mono (by decide)) (de_var (pv 0)) (da_cons (de_var (pv 7)) da_nil)))
    (dss_cons (ds_if (dt_cmp (cm_eq hr.units) (de_var (pv 4)) (de_var (pv 7)) (nomark _)) (dss_one (ds_raise (c := 2) rfl (He.exc_ok (c.fact 14 rfl)) rfl (He.glo_ok X G (c.fact 15 rfl)))) dss_nil)
    (dss_cons (ds_set (i := 8) sc_Book_convert.nd rfl (by first | exact Or.inl rfl | exact Or.inr rfl) (de_meth ⟨_, _, rfl, by decide +kernel, He.cls_ok (c.fact 16 rfl), He.meth_ok (c.fact 84 rfl)⟩ (ok_Book_got X G c) (hr.mono (by decide)) (de_var (pv 0)) (da_cons (de_var (pv 1)) (da_cons (de_var (pv 4)) (da_cons (de_var (pv 5)) (da_cons (de_var (pv 7)) da_nil))))))
    (dss_cons (ds_set (i := 9) sc_Book_convert.nd rfl (by first | exact Or.inl rfl | exact Or.inr rfl) (de_lst (da_cons (de_tup (da_cons (de_var (pv 3)) (da_cons (de_var (pv 4)) (da_cons (de_sub de_int (de_var (pv 5))) da_nil)))) (da_cons (de_tup (da_cons (de_gstr (i := "exchange") rfl (He.str_ok X G (c.fact 21 rfl)).choose_spec) (da_cons (de_var (pv 4)) (da_cons (de_var (pv 5)) da_nil)))) da_nil))))
    (dss_cons (ds_set (i := 10) sc_Book_convert.nd rfl (by first | exact Or.inl rfl | exact Or.inr rfl) (de_lst (da_cons (de_tup (da_cons (de_gstr (i := "exchange") rfl (He.str_ok X G (c.fact 21 rfl)).choose_spec) (da_cons (de_var (pv 7)) (da_cons (de_sub de_int (de_var (pv 8))) da_nil)))) (da_cons (de_tup (da_cons (de_var (pv 6)) (da_cons (de_var (pv 7)) (da_cons (de_var (pv 8)) da_nil)))) da_nil))))
    (dss_cons (ds_expr (de_lm lm_append (de_fld ⟨_, _, rfl, fl0_nd, rfl, He.cls_ok (c.fact 16 rfl), He.noat_ok (c.fact 26 rfl)⟩ (de_var (pv 0)) rfl) (de_tup (da_cons de_str (da_cons (de_var (pv 1)) (da_cons (de_var (pv 3)) (da_cons (de_var (pv 4)) (da_cons (de_var (pv 5)) (da_cons (de_var (pv 6)) (da_cons (de_var (pv 7)) (da_cons (de_var (pv 2)) da_nil)))))))))))
    (dss_one (ds_ret (de_meth ⟨_, _, rfl, by decide +kernel, He.cls_ok (c.fact 16 rfl), He.meth_ok (c.fact 62 rfl)⟩ (ok_Book_noted X G c) (hr.mono (by decide)) (de_var (pv 0)) (da_cons (de_var (pv 1)) (da_cons (de_var (pv 2)) (da_cons (de_callTy cg_tuple rfl (He.free_ok X G (c.fact 37 rfl)) bt_tuple (da_cons (de_add (de_var (pv 9)) (de_var (pv 10))) da_nil)) (da_cons de_int da_nil)))))))))))))))))))
    (F.bindsN fun _ _ _ _ _ _ us hl => match us, hl with | [_, _, _, _, _, _, _, _], _ => rfl)
theorem sc_law_convert : FnScope ["_law_book_here", "_law_plain_here", "_law_big", "_law_pick", "_law_day_here", "_law_many", "_law_one", "_law_other", "_law_giver", "_law_taker", "_law_amount_here", "_law_rates", "_law_found", "_law_lines_here", "_law_note_here", "_law_due"] ["_law_book_here", "_law_plain_here", "_law_big", "_law_pick"] (defScope s_law_convert) := ⟨rfl, rfl, rfl, by decide +kernel, rfl, by decide +kernel, by decide +kernel⟩
theorem ok_law_convert (X : K.In h) (G : h.Ns mainGlobals mg) (c : SaysE fal fnl exl K) : FnG P w K mg base (He.fAd K ("_law_convert", none)) 4 6 sem_law_convert := by
  obtain ⟨fd, F⟩ := c.def_ 43 (d := dd_law_convert) rfl
  exact fng_of (ps := ["_law_book_here", "_law_plain_here", "_law_big", "_law_pick"]) F rfl (fn_ok (k := 5) F sc_law_convert rfl fun cdv A outer s H E hr =>
    (dss_cons (ds_set (i := 4) sc_law_convert.nd rfl (by first | exact Or.inl rfl | exact Or.inr rfl) (de_call (ok_law_day X G c) (hr.mono (by decide)) rfl (He.glo_ok X G (c.fact 68 rfl)) (da_cons (de_var (pv 1)) (da_cons (de_var (pv 2)) da_nil))))
    (dss_cons (ds_set (i := 5) sc_law_convert.nd rfl (by first | exact Or.inl rfl | exact Or.inr rfl) (de_callB cg_len rfl (He.free_ok X G (c.fact 1 rfl)) bt_len (da_cons (de_ix hr.units (de_var (pv 1)) de_str) da_nil)))
    (dss_cons (ds_set (i := 6) sc_law_convert.nd rfl (by first | exact Or.inl rfl | exact Or.inr rfl) (de_ix hr.units (de_ix hr.units (de_var (pv 1)) de_str) (de_mod (de_var (pv 3)) (de_var (pv 5)))))
    (dss_cons (ds_set (i := 7) sc_law_convert.nd rfl (by first | exact Or.inl rfl | exact Or.inr rfl) (de_ix hr.units (de_ix hr.units (de_var (pv 1)) de_str) (de_mod (de_add (de_add (de_var (pv 3)) de_int) (de_mod (de_floor (de_var (pv 3)) (de_var (pv 5))) (de_sub (de_var (pv 5)) de_int))) (de_var (pv 5)))))
    (dss_cons (ds_set (i := 8) sc_law_convert.nd rfl (by first | exact Or.inl rfl | exact Or.inr rfl) (de_ix hr.units (de_ix hr.units (de_var (pv 1)) de_str) (de_mod (de_floor (de_var (pv 3)) de_int) (de_callB cg_len rfl (He.free_ok X G (c.fact 1 rfl)) bt_len (da_cons (de_ix hr.units (de_var (pv 1)) de_str) da_nil)))))
    (dss_cons (ds_set (i := 9) sc_law_convert.nd rfl (by first | exact Or.inl rfl | exact Or.inr rfl) (de_ix hr.units (de_ix hr.units (de_var (pv 1)) de_str) (de_mod (de_floor (de_var (pv 3)) de_int) (de_callB cg_len rfl (He.free_ok X G (c.fact 1 rfl)) bt_len (da_cons (de_ix hr.units (de_var (pv 1)) de_str) da_nil)))))
    (dss_cons (ds_set (i := 10) sc_law_convert.nd rfl (by first | exact Or.inl rfl | exact Or.inr rfl) (de_call (ok_law_amount X G c) (hr.mono (by decide)) rfl (He.glo_ok X G (c.fact 67 rfl)) (da_cons (de_floor (de_var (pv 2)) de_int) da_nil)))
    (dss_cons (ds_set (i := 11) sc_law_convert.nd rfl (by first | exact Or.inl rfl | exact Or.inr rfl) (de_lst (da_cons (de_call (ok_law_rate X G c) (hr.mono (by decide)) rfl (He.glo_ok X G (c.fact 85 rfl)) (da_cons (de_var (pv 1)) (da_cons (de_var (pv 6)) (da_cons (de_var (pv 4)) da_nil)))) (da_cons (de_call (ok_law_rate X G c) (hr.mono (by decide)) rfl (He.glo_ok X G (c.fact 85 rfl)) (da_cons (de_var (pv 1)) (da_cons (de_var (pv 7)) (da_cons (de_var (pv 4)) da_nil)))) da_nil))))
    (dss_cons (ds_if (dw_t (dw_or (dt_cmp cm_is (de_ix hr.units (de_var (pv 11)) de_int) de_non (nomark _)) (dw_or1 (dt_cmp cm_is (de_ix hr.units (de_var (pv 11)) de_int) de_non (nomark _))))) (dss_one (ds_ret de_bl)) dss_nil)
    (dss_cons (ds_set (i := 12) sc_law_convert.nd rfl (by first | exact Or.inl rfl | exact Or.inr rfl) (de_mul (de_mul (de_var (pv 10)) (de_ix hr.units (de_ix hr.units (de_var (pv 11)) de_int) de_int)) (de_ix hr.units (de_ix hr.units (de_var (pv 11)) de_int) de_int)))
    (dss_cons (ds_set (i := 12) sc_law_convert.nd rfl (by first | exact Or.inl rfl | exact Or.inr rfl) (de_floor (de_var (pv 12)) (de_mul (de_ix hr.units (de_ix hr.units (de_var (pv 11)) de_int) de_int) (de_ix hr.units (de_ix hr.units (de_var (pv 11)) de_int) de_int))))
    (dss_cons (ds_if (dw_t (dw_or (dt_cmp (cm_eq hr.units) (de_var (pv 12)) de_int (nomark _)) (dw_or1 (dt_cmp cm_ge (de_var (pv 12)) (de_pow de_int de_int) (nomark _))))) (dss_one (ds_ret de_bl)) dss_nil)
    (dss_cons (ds_set (i := 13) sc_law_convert.nd rfl (by first | exact Or.inl rfl | exact Or.inr rfl) (de_lst (da_cons (de_tup (da_cons (de_var (pv 8)) (da_cons (de_var (pv 6)) (da_cons (de_sub de_int (de_var (pv 10))) da_nil)))) (da_cons (de_tup (da_cons de_str (da_cons (de_var (pv 6)) (da_cons (de_var (pv 10)) da_nil)))) da_nil))))
    (dss_cons (ds_set (i := 13) sc_law_convert.nd rfl (by first | exact Or.inl rfl | exact Or.inr rfl) (de_add (de_var (pv 13)) (de_lst (da_cons (de_tup (da_cons de_str (da_cons (de_var (pv 7)) (da_cons (de_sub de_int (de_var (pv 12))) da_nil)))) (da_cons (de_tup (da_cons (de_var (pv 9)) (da_cons (de_var (pv 7)) (da_cons (de_var (pv 12)) da_nil)))) da_nil)))))
    (dss_cons (ds_set (i := 14) sc_law_convert.nd rfl (by first | exact Or.inl rfl | exact Or.inr rfl) (de_call (ok_law_note X G c) (hr.mono (by decide)) rfl (He.glo_ok X G (c.fact 69 rfl)) (da_cons (de_floor (de_var (pv 3)) de_int) da_nil)))
    (dss_cons (ds_set (i := 15) sc_law_convert.nd rfl (by first | exact Or.inl rfl | exact Or.inr rfl) (de_call (ok_law_put X G c) (hr.mono (by decide)) rfl (He.glo_ok X G (c.fact 65 rfl)) (da_cons (de_var (pv 1)) (da_cons (de_var (pv 4)) (da_cons (de_var (pv 14)) (da_cons (de_var (pv 13)) (da_cons de_int da_nil)))))))
    (dss_cons (ds_expr (de_lm lm_append (de_ix hr.units (de_var (pv 1)) de_str) (de_tup (da_cons de_str (da_cons (de_var (pv 4)) (da_cons (de_var (pv 8)) (da_cons (de_var (pv 6)) (da_cons (de_var (pv 10)) (da_cons (de_var (pv 9)) (da_cons (de_var (pv 7)) (da_cons (de_var (pv 14)) da_nil)))))))))))
    (dss_one (ds_ret (de_cmp (cm_eq hr.units) (de_meth ⟨_, _, rfl, by decide +kernel, He.cls_ok (c.fact 16 rfl), He.meth_ok (c.fact 86 rfl)⟩ (ok_Book_convert X G c) (hr.mono (by decide)) (de_var (pv 0)) (da_cons (de_var (pv 4)) (da_cons (de_var (pv 14)) (da_cons (de_var (pv 8)) (da_cons (de_var (pv 6)) (da_cons (de_var (pv 10)) (da_cons (de_var (pv 9)) (da_cons (de_var (pv 7)) da_nil)))))))) (de_var (pv 15)) (nomark _))))))))))))))))))))))
    (F.bindsN fun _ _ _ _ _ _ us hl => match us, hl with | [_, _, _, _], _ => rfl)
theorem sc_Book_entry : FnScope ["self", "number"] ["self", "number"] (defScope s_Book_entry) := ⟨rfl, rfl, rfl, by decide +kernel, rfl, by decide +kernel, by decide +kernel⟩
theorem ok_Book_entry (X : K.In h) (G : h.Ns mainGlobals mg) (c : SaysE fal fnl exl K) : FnG P w K mg base (He.fAd K ("Book", some "entry")) 2 1 sem_Book_entry := by
  obtain ⟨fd, F⟩ := c.def_ 44 (d := dd_Book_entry) rfl
  exact fng_of (ps := ["self", "number"]) F rfl (fn_ok (k := 0) F sc_Book_entry rfl fun cdv A outer s H E hr =>
    (dss_cons (ds_if (dt_not (dt_chain cm_le cm_le de_int (de_var (pv 1)) (de_callB cg_len rfl (He.free_ok X G (c.fact 1 rfl)) bt_len (da_cons (de_fld ⟨_, _, rfl, fl0_nd, rfl, He.cls_ok (c.fact 16 rfl), He.noat_ok (c.fact 23 rfl)⟩ (de_var (pv 0)) rfl) da_nil)))) (dss_one (ds_raise (c := 12) rfl (He.exc_ok (c.fact 87 rfl)) rfl (He.glo_ok X G (c.fact 88 rfl)))) dss_nil)
    (dss_one (ds_ret (de_ix hr.units (de_fld ⟨_, _, rfl, fl0_nd, rfl, He.cls_ok (c.fact 16 rfl), He.noat_ok (c.fact 23 rfl)⟩ (de_var (pv 0)) rfl) (de_sub (de_var (pv 1)) de_int))))))
    (F.bindsN fun _ _ _ _ _ _ us hl => match us, hl with | [_, _], _ => rfl)
theorem sc_turned : FnScope ["lines", "line"] ["lines"] (defScope s_turned) := ⟨rfl, rfl, rfl, by decide +kernel, rfl, by decide +kernel, by decide +kernel⟩
theorem ok_turned (X : K.In h) (G : h.Ns mainGlobals mg) (c : SaysE fal fnl exl K) : FnG P w K mg base (He.fAd K ("turned", none)) 1 1 sem_turned := by
  obtain ⟨fd, F⟩ := c.def_ 45 (d := dd_turned) rfl
  exact fng_of (ps := ["lines"]) F rfl (fn_ok (k := 0) F sc_turned rfl fun cdv A outer s H E hr =>
    (dss_one (ds_ret (de_callTy cg_tuple rfl (He.free_ok X G (c.fact 37 rfl)) bt_tuple (da_cons (de_lc (own := [("line", 1)]) kp_frz rfl sc_turned.nd (di_any (de_var (pv 0))) (blkOk_by (N := ["lines", "line"]) (sc := defScope s_turned) (by decide +kernel)) (by decide) (fun _ _ _ _ _ => pg_name (i := 1) sc_turned.nd rfl (by first | exact Or.inl rfl | exact Or.inr rfl)) (fun _ _ _ _ _ => dts_nil) (fun _ _ _ _ _ => (de_tup (da_cons (de_ix hr.units (de_var (pv 1)) de_int) (da_cons (de_ix hr.units (de_var (pv 1)) de_int) (da_cons (de_sub de_int (de_ix hr.units (de_var (pv 1)) de_int)) da_nil)))))) da_nil)))))
    (F.bindsN fun _ _ _ _ _ _ us hl => match us, hl with | [_], _ => rfl)
theorem sc_Book_contrary : FnScope ["self", "number", "day", "entry"] ["self", "number", "day"] (defScope s_Book_contrary) := ⟨rfl, rfl, rfl, by decide +kernel, rfl, by decide +kernel, by decide +kernel⟩
theorem ok_Book_contrary (X : K.In h) (G : h.Ns mainGlobals mg) (c : SaysE fal fnl exl K) : FnG P w K mg base (He.fAd K ("Book", some "contrary")) 3 4 sem_Book_contrary := by
  obtain ⟨fd, F⟩ := c.def_ 46 (d := dd_Book_contrary) rfl
  exact fng_of (ps := ["self", "number", "day"]) F rfl (fn_ok (k := 3) F sc_Book_contrary rfl fun cdv A outer s H E hr =>
    (dss_cons (ds_set (i := 3) sc_Book_contrary.nd rfl (by first | exact Or.inl rfl | exact Or.inr rfl) (de_meth ⟨_, _, rfl, by decide +kernel, He.cls_ok (c.fact 16 rfl), He.meth_ok (c.fact 89 rfl)⟩ (ok_Book_entry X G c) (hr.mono (by decide)) (de_var (pv 0)) (da_cons (de_var (pv 1)) da_nil)))
    (dss_cons (ds_if (dw_t (dw_or (dt_cmp (cm_in hr.units) (de_var (pv 1)) (de_fld ⟨_, _, rfl, fl0_nd, rfl, He.cls_ok (c.fact 16 rfl), He.noat_ok (c.fact 25 rfl)⟩ (de_var (pv 0)) rfl) rfl) (dw_or1 (dt_cmp (cm_ne hr.units) (de_ix hr.units (de_var (pv 3)) de_int) de_int (nomark _))))) (dss_one (ds_raise (c := 10) rfl (He.exc_ok (c.fact 90 rfl)) rfl (He.glo_ok X G (c.fact 91 rfl)))) dss_nil)
    (dss_cons (ds_expr (de_meth ⟨_, _, rfl, by decide +kernel, He.cls_ok (c.fact 16 rfl), He.meth_ok (c.fact 50 rfl)⟩ (ok_Book_need_open X G c) (hr.mono (by decide)) (de_var (pv 0)) (da_cons (de_var (pv 2)) da_nil)))
    (dss_cons (ds_dput hr.units (de_fld ⟨_, _, rfl, fl0_nd, rfl, He.cls_ok (c.fact 16 rfl), He.noat_ok (c.fact 25 rfl)⟩ (de_var (pv 0)) rfl) (de_var (pv 1)) de_bl rfl)
    (dss_cons (ds_expr (de_lm lm_append (de_fld ⟨_, _, rfl, fl0_nd, rfl, He.cls_ok (c.fact 16 rfl), He.noat_ok (c.fact 26 rfl)⟩ (de_var (pv 0)) rfl) (de_tup (da_cons de_str (da_cons (de_var (pv 1)) (da_cons (de_var (pv 2)) da_nil))))))
    (dss_one (ds_ret (de_meth ⟨_, _, rfl, by decide +kernel, He.cls_ok (c.fact 16 rfl), He.meth_ok (c.fact 62 rfl)⟩ (ok_Book_noted X G c) (hr.mono (by decide)) (de_var (pv 0)) (da_cons (de_var (pv 2)) (da_cons (de_ix hr.units (de_var (pv 3)) de_int) (da_cons (de_call (ok_turned X G c) (hr.mono (by decide)) rfl (He.glo_ok X G (c.fact 92 rfl)) (da_cons (de_ix hr.units (de_var (pv 3)) de_int) da_nil)) (da_cons (de_var (pv 1)) da_nil)))))))))))))
    (F.bindsN fun _ _ _ _ _ _ us hl => match us, hl with | [_, _, _], _ => rfl)
theorem sc_law_contrary : FnScope ["_law_book_here", "_law_plain_here", "_law_big", "_law_pick", "_law_number", "_law_entry", "_law_day_here", "_law_lines_here", "_law_due", "_law_line"] ["_law_book_here", "_law_plain_here", "_law_big", "_law_pick"] (defScope s_law_contrary) := ⟨rfl, rfl, rfl, by decide +kernel, rfl, by decide +kernel, by decide +kernel⟩
theorem ok_law_contrary (X : K.In h) (G : h.Ns mainGlobals mg) (c : SaysE fal fnl exl K) : FnG P w K mg base (He.fAd K ("_law_contrary", none)) 4 5 sem_law_contrary := by
  obtain ⟨fd, F⟩ := c.def_ 47 (d := dd_law_contrary) rfl
  exact fng_of (ps := ["_law_book_here", "_law_plain_here", "_law_big", "_law_pick"]) F rfl (fn_ok (k := 4) F sc_law_contrary rfl fun cdv A outer s H E hr =>
    (dss_cons (ds_set (i := 4) sc_law_contrary.nd rfl (by first | exact Or.inl rfl | exact Or.inr rfl) (de_add de_int (de_mod (de_var (pv 3)) (de_callB (cg_max rfl) rfl (He.free_ok X G (c.fact 93 rfl)) bt_max (da_cons de_int (da_cons (de_callB cg_len rfl (He.free_ok X G (c.fact 1 rfl)) bt_len (da_cons (de_ix hr.units (de_var (pv 1)) de_str) da_nil)) da_nil))))))
    (dss_cons (ds_if (dw_t (dw_or (dt_cmp (cm_eq hr.units) (de_ix hr.units (de_var (pv 1)) de_str) (de_lst da_nil) (nomark _)) (dw_or (dt_cmp (cm_in hr.units) (de_var (pv 4)) (de_ix hr.units (de_var (pv 1)) de_str) rfl) (dw_or1 (dt_cmp (cm_ne hr.units) (de_ix hr.units (de_ix hr.units (de_ix hr.units (de_var (pv 1)) de_str) (de_sub (de_var (pv 4)) de_int)) de_int) de_int (nomark _)))))) (dss_one (ds_ret de_bl)) dss_nil)
    (dss_cons (ds_set (i := 5) sc_law_contrary.nd rfl (by first | exact Or.inl rfl | exact Or.inr rfl) (de_ix hr.units (de_ix hr.units (de_var (pv 1)) de_str) (de_sub (de_var (pv 4)) de_int)))
    (dss_cons (ds_set (i := 6) sc_law_contrary.nd rfl (by first | exact Or.inl rfl | exact Or.inr rfl) (de_call (ok_law_day X G c) (hr.mono (by decide)) rfl (He.glo_ok X G (c.fact 68 rfl)) (da_cons (de_var (pv 1)) (da_cons (de_var (pv 2)) da_nil))))
    (dss_cons (ds_setLc (j := 7) (own := [("_law_line", 9)]) kp_frz rfl sc_law_contrary.nd rfl rfl (sw_true rfl rfl rfl (by decide +kernel)) (di_any (de_ix hr.units (de_var (pv 5)) de_int)) (blkOk_by (N := ["_law_book_here", "_law_plain_here", "_law_big", "_law_pick", "_law_number", "_law_entry", "_law_day_here", "_law_lines_here", "_law_due", "_law_line"]) (sc := defScope s_law_contrary) (by decide +kernel)) (by decide) (fun _ _ _ _ _ => pg_name (i := 9) sc_law_contrary.nd rfl (by first | exact Or.inl rfl | exact Or.inr rfl)) (fun _ _ _ _ _ => dts_nil) (fun _ _ _ _ _ => (de_tup (da_cons (de_ix hr.units (de_var (pv 9)) de_int) (da_cons (de_ix hr.units (de_var (pv 9)) de_int) (da_cons (de_sub de_int (de_ix hr.units (de_var (pv 9)) de_int)) da_nil))))))
    (dss_cons (ds_set (i := 8) sc_law_contrary.nd rfl (by first | exact Or.inl rfl | exact Or.inr rfl) (de_call (ok_law_put X G c) (hr.mono (by decide)) rfl (He.glo_ok X G (c.fact 65 rfl)) (da_cons (de_var (pv 1)) (da_cons (de_var (pv 6)) (da_cons (de_ix hr.units (de_var (pv 5)) de_int) (da_cons (de_var (pv 7)) (da_cons (de_var (pv 4)) da_nil)))))))
    (dss_cons (ds_expr (de_lm lm_append (de_ix hr.units (de_var (pv 1)) de_str) (de_var (pv 4))))
    (dss_cons (ds_expr (de_lm lm_append (de_ix hr.units (de_var (pv 1)) de_str) (de_tup (da_cons de_str (da_cons (de_var (pv 4)) (da_cons (de_var (pv 6)) da_nil))))))
    (dss_one (ds_ret (de_cmp (cm_eq hr.units) (de_meth ⟨_, _, rfl, by decide +kernel, He.cls_ok (c.fact 16 rfl), He.meth_ok (c.fact 94 rfl)⟩ (ok_Book_contrary X G c) (hr.mono (by decide)) (de_var (pv 0)) (da_cons (de_var (pv 4)) (da_cons (de_var (pv 6)) da_nil))) (de_var (pv 8)) (nomark _)))))))))))))
    (F.bindsN fun _ _ _ _ _ _ us hl => match us, hl with | [_, _, _, _], _ => rfl)
theorem sc_Book_close : FnScope ["self", "day"] ["self", "day"] (defScope s_Book_close) := ⟨rfl, rfl, rfl, by decide +kernel, rfl, by decide +kernel, by decide +kernel⟩
theorem ok_Book_close (X : K.In h) (G : h.Ns mainGlobals mg) (c : SaysE fal fnl exl K) : FnG P w K mg base (He.fAd K ("Book", some "close")) 2 4 sem_Book_close := by
  obtain ⟨fd, F⟩ := c.def_ 48 (d := dd_Book_close) rfl
  exact fng_of (ps := ["self", "day"]) F rfl (fn_ok (k := 3) F sc_Book_close rfl fun cdv A outer s H E hr =>
    (dss_cons (ds_expr (de_meth ⟨_, _, rfl, by decide +kernel, He.cls_ok (c.fact 16 rfl), He.meth_ok (c.fact 50 rfl)⟩ (ok_Book_need_open X G c) (hr.mono (by decide)) (de_var (pv 0)) (da_cons (de_var (pv 1)) da_nil)))
    (dss_cons (ds_expr (de_lm lm_append (de_fld ⟨_, _, rfl, fl0_nd, rfl, He.cls_ok (c.fact 16 rfl), He.noat_ok (c.fact 24 rfl)⟩ (de_var (pv 0)) rfl) (de_var (pv 1))))
    (dss_cons (ds_expr (de_lm lm_append (de_fld ⟨_, _, rfl, fl0_nd, rfl, He.cls_ok (c.fact 16 rfl), He.noat_ok (c.fact 26 rfl)⟩ (de_var (pv 0)) rfl) (de_tup (da_cons de_str (da_cons (de_var (pv 1)) da_nil)))))
    (dss_one (ds_ret (de_callB cg_len rfl (He.free_ok X G (c.fact 1 rfl)) bt_len (da_cons (de_fld ⟨_, _, rfl, fl0_nd, rfl, He.cls_ok (c.fact 16 rfl), He.noat_ok (c.fact 24 rfl)⟩ (de_var (pv 0)) rfl) da_nil))))))))
    (F.bindsN fun _ _ _ _ _ _ us hl => match us, hl with | [_, _], _ => rfl)
theorem sc_law_shut : FnScope ["_law_book_here", "_law_plain_here", "_law_big", "_law_day_here"] ["_law_book_here", "_law_plain_here", "_law_big"] (defScope s_law_shut) := ⟨rfl, rfl, rfl, by decide +kernel, rfl, by decide +kernel, by decide +kernel⟩
theorem ok_law_shut (X : K.In h) (G : h.Ns mainGlobals mg) (c : SaysE fal fnl exl K) : FnG P w K mg base (He.fAd K ("_law_shut", none)) 3 5 sem_law_shut := by
  obtain ⟨fd, F⟩ := c.def_ 49 (d := dd_law_shut) rfl
  exact fng_of (ps := ["_law_book_here", "_law_plain_here", "_law_big"]) F rfl (fn_ok (k := 4) F sc_law_shut rfl fun cdv A outer s H E hr =>
    (dss_cons (ds_set (i := 3) sc_law_shut.nd rfl (by first | exact Or.inl rfl | exact Or.inr rfl) (de_call (ok_law_day X G c) (hr.mono (by decide)) rfl (He.glo_ok X G (c.fact 68 rfl)) (da_cons (de_var (pv 1)) (da_cons (de_var (pv 2)) da_nil))))
    (dss_cons (ds_expr (de_lm lm_append (de_ix hr.units (de_var (pv 1)) de_str) (de_var (pv 3))))
    (dss_cons (ds_expr (de_lm lm_append (de_ix hr.units (de_var (pv 1)) de_str) (de_tup (da_cons de_str (da_cons (de_var (pv 3)) da_nil)))))
    (dss_one (ds_ret (de_cmp (cm_eq hr.units) (de_meth ⟨_, _, rfl, by decide +kernel, He.cls_ok (c.fact 16 rfl), He.meth_ok (c.fact 95 rfl)⟩ (ok_Book_close X G c) (hr.mono (by decide)) (de_var (pv 0)) (da_cons (de_var (pv 3)) da_nil)) (de_callB cg_len rfl (He.free_ok X G (c.fact 1 rfl)) bt_len (da_cons (de_ix hr.units (de_var (pv 1)) de_str) da_nil)) (nomark _))))))))
    (F.bindsN fun _ _ _ _ _ _ us hl => match us, hl with | [_, _, _], _ => rfl)
theorem sc_law_step : FnScope ["_law_book_here", "_law_plain_here", "_law_way", "_law_big", "_law_pick"] ["_law_book_here", "_law_plain_here", "_law_way", "_law_big", "_law_pick"] (defScope s_law_step) := ⟨rfl, rfl, rfl, by decide +kernel, rfl, by decide +kernel, by decide +kernel⟩
theorem ok_law_step (X : K.In h) (G : h.Ns mainGlobals mg) (c : SaysE fal fnl exl K) : FnG P w K mg base (He.fAd K ("_law_step", none)) 5 7 sem_law_step := by
  obtain ⟨fd, F⟩ := c.def_ 50 (d := dd_law_step) rfl
  exact fng_of (ps := ["_law_book_here", "_law_plain_here", "_law_way", "_law_big", "_law_pick"]) F rfl (fn_ok (k := 6) F sc_law_step rfl fun cdv A outer s H E hr =>
    (dss_cons (ds_if (dw_t (dw_or (dt_cmp cm_ge (de_call (ok_law_closed X G c) (hr.mono (by decide)) rfl (He.glo_ok X G (c.fact 63 rfl)) (da_cons (de_var (pv 1)) da_nil)) de_int (nomark _)) (dw_or1 (dt_cmp cm_gt (de_callB cg_len rfl (He.free_ok X G (c.fact 1 rfl)) bt_len (da_cons (de_ix hr.units (de_var (pv 1)) de_str) da_nil)) (de_ix hr.units (de_var (pv 1)) de_str) (nomark _))))) (dss_one (ds_ret de_bl)) dss_nil)
    (dss_cons (ds_if (dt_cmp cm_lt (de_mod (de_var (pv 2)) de_int) de_int (nomark _)) (dss_one (ds_ret (de_call (ok_law_post X G c) (hr.mono (by decide)) rfl (He.glo_ok X G (c.fact 96 rfl)) (da_cons (de_var (pv 0)) (da_cons (de_var (pv 1)) (da_cons (de_var (pv 3)) (da_cons (de_var (pv 4)) da_nil))))))) dss_nil)
    (dss_cons (ds_if (dw_t (dw_and (dt_cmp (cm_eq hr.units) (de_mod (de_var (pv 2)) de_int) de_int (nomark _)) (dw_and1 (dt_cmp (cm_eq hr.units) (de_mod (de_floor (de_var (pv 2)) de_int) de_int) de_int (nomark _))))) (dss_one (ds_ret (de_call (ok_law_admit X G c) (hr.mono (by decide)) rfl (He.glo_ok X G (c.fact 97 rfl)) (da_cons (de_var (pv 0)) (da_cons (de_var (pv 1)) (da_cons (de_var (pv 3)) da_nil)))))) dss_nil)
    (dss_cons (ds_if (dt_cmp (cm_eq hr.units) (de_mod (de_var (pv 2)) de_int) de_int (nomark _)) (dss_one (ds_ret (de_call (ok_law_tell X G c) (hr.mono (by decide)) rfl (He.glo_ok X G (c.fact 98 rfl)) (da_cons (de_var (pv 0)) (da_cons (de_var (pv 1)) (da_cons (de_var (pv 3)) (da_cons (de_var (pv 4)) da_nil))))))) dss_nil)
    (dss_cons (ds_if (dt_cmp cm_lt (de_mod (de_var (pv 2)) de_int) de_int (nomark _)) (dss_one (ds_ret (de_call (ok_law_convert X G c) (hr.mono (by decide)) rfl (He.glo_ok X G (c.fact 99 rfl)) (da_cons (de_var (pv 0)) (da_cons (de_var (pv 1)) (da_cons (de_var (pv 3)) (da_cons (de_var (pv 4)) da_nil))))))) dss_nil)
    (dss_cons (ds_if (dt_cmp (cm_eq hr.units) (de_mod (de_var (pv 2)) de_int) de_int (nomark _)) (dss_one (ds_ret (de_call (ok_law_contrary X G c) (hr.mono (by decide)) rfl (He.glo_ok X G (c.fact 100 rfl)) (da_cons (de_var (pv 0)) (da_cons (de_var (pv 1)) (da_cons (de_var (pv 3)) (da_cons (de_var (pv 4)) da_nil))))))) dss_nil)
    (dss_one (ds_ret (de_call (ok_law_shut X G c) (hr.mono (by decide)) rfl (He.glo_ok X G (c.fact 101 rfl)) (da_cons (de_var (pv 0)) (da_cons (de_var (pv 1)) (da_cons (de_var (pv 3)) da_nil)))))))))))))
    (F.bindsN fun _ _ _ _ _ _ us hl => match us, hl with | [_, _, _, _, _], _ => rfl)
theorem sc_law_deeds : FnScope ["_law_book_here", "_law_plain_here", "_law_script", "_law_first", "_law_last", "_law_k"] ["_law_book_here", "_law_plain_here", "_law_script", "_law_first", "_law_last"] (defScope s_law_deeds) := ⟨rfl, rfl, rfl, by decide +kernel, rfl, by decide +kernel, by decide +kernel⟩
theorem ok_law_deeds (X : K.In h) (G : h.Ns mainGlobals mg) (c : SaysE fal fnl exl K) : FnG P w K mg base (He.fAd K ("_law_deeds", none)) 5 8 sem_law_deeds := by
  obtain ⟨fd, F⟩ := c.def_ 51 (d := dd_law_deeds) rfl
  exact fng_of (ps := ["_law_book_here", "_law_plain_here", "_law_script", "_law_first", "_law_last"]) F rfl (fn_ok (k := 7) F sc_law_deeds rfl fun cdv A outer s H E hr =>
    (dss_cons (ds_for (i := 5) (passes_of rfl) rfl sc_law_deeds.nd rfl (by first | exact Or.inl rfl | exact Or.inr rfl) (di_range3 rfl (He.free_ok X G (c.fact 0 rfl)) (da_cons (de_var (pv 3)) (da_cons (de_callB (cg_min rfl) rfl (He.free_ok X G (c.fact 64 rfl)) bt_min (da_cons (de_sub (de_callB cg_len rfl (He.free_ok X G (c.fact 1 rfl)) bt_len (da_cons (de_var (pv 2)) da_nil)) de_int) (da_cons (de_var (pv 4)) da_nil))) (da_cons de_int da_nil)))) (dss_one (ds_if (dt_not (dt_val (de_call (ok_law_step X G c) (hr.mono (by decide)) rfl (He.glo_ok X G (c.fact 102 rfl)) (da_cons (de_var (pv 0)) (da_cons (de_var (pv 1)) (da_cons (de_ix hr.units (de_var (pv 2)) (de_var (pv 5))) (da_cons (de_ix hr.units (de_var (pv 2)) (de_add (de_var (pv 5)) de_int)) (da_cons (de_ix hr.units (de_var (pv 2)) (de_add (de_var (pv 5)) de_int)) da_nil)))))))) (dss_one (ds_ret de_bl)) dss_nil)))
    (dss_one (ds_ret de_bl))))
    (F.bindsN fun _ _ _ _ _ _ us hl => match us, hl with | [_, _, _, _, _], _ => rfl)
theorem sc_law_asked_day : FnScope ["_law_plain_here", "_law_cell_here", "_law_some", "_law_entry"] ["_law_plain_here", "_law_cell_here"] (defScope s_law_asked_day) := ⟨rfl, rfl, rfl, by decide +kernel, rfl, by decide +kernel, by decide +kernel⟩
theorem ok_law_asked_day (X : K.In h) (G : h.Ns mainGlobals mg) (c : SaysE fal fnl exl K) : FnG P w K mg base (He.fAd K ("_law_asked_day", none)) 2 2 sem_law_asked_day := by
  obtain ⟨fd, F⟩ := c.def_ 52 (d := dd_law_asked_day) rfl
  exact fng_of (ps := ["_law_plain_here", "_law_cell_here"]) F rfl (fn_ok (k := 1) F sc_law_asked_day rfl fun cdv A outer s H E hr =>
    (dss_cons (ds_set (i := 2) sc_law_asked_day.nd rfl (by first | exact Or.inl rfl | exact Or.inr rfl) (de_add (de_lst (da_cons de_int (da_cons (de_callB (cg_max rfl) rfl (He.free_ok X G (c.fact 93 rfl)) bt_max (da_cons de_int (da_cons (de_call (ok_law_closed X G c) (hr.mono (by decide)) rfl (He.glo_ok X G (c.fact 63 rfl)) (da_cons (de_var (pv 0)) da_nil)) da_nil))) (da_cons de_int da_nil)))) (de_lc (own := [("_law_entry", 3)]) kp_frz rfl sc_law_asked_day.nd (di_any (de_ix hr.units (de_var (pv 0)) de_str)) (blkOk_by (N := ["_law_plain_here", "_law_cell_here", "_law_some", "_law_entry"]) (sc := defScope s_law_asked_day) (by decide +kernel)) (by decide) (fun _ _ _ _ _ => pg_name (i := 3) sc_law_asked_day.nd rfl (by first | exact Or.inl rfl | exact Or.inr rfl)) (fun _ _ _ _ _ => dts_nil) (fun _ _ _ _ _ => (de_ix hr.units (de_var (pv 3)) de_int)))))
    (dss_cons (ds_if (dt_cmp (cm_eq hr.units) (de_mod (de_var (pv 1)) de_int) de_int (nomark _)) (dss_one (ds_ret (de_ix hr.units (de_var (pv 2)) (de_mod (de_floor (de_var (pv 1)) de_int) (de_callB cg_len rfl (He.free_ok X G (c.fact 1 rfl)) bt_len (da_cons (de_var (pv 2)) da_nil)))))) dss_nil)
    (dss_one (ds_ret (de_mod (de_floor (de_var (pv 1)) de_int) de_int))))))
    (F.bindsN fun _ _ _ _ _ _ us hl => match us, hl with | [_, _], _ => rfl)
theorem sc_law_sums : FnScope ["_law_plain_here", "_law_day_here", "_law_found", "_law_entry", "_law_line", "_law_pair"] ["_law_plain_here", "_law_day_here"] (defScope s_law_sums) := ⟨rfl, rfl, rfl, by decide +kernel, rfl, by decide +kernel, by decide +kernel⟩
theorem ok_law_sums (X : K.In h) (G : h.Ns mainGlobals mg) (c : SaysE fal fnl exl K) : FnG P w K mg base (He.fAd K ("_law_sums", none)) 2 1 sem_law_sums := by
  obtain ⟨fd, F⟩ := c.def_ 53 (d := dd_law_sums) rfl
  exact fng_of (ps := ["_law_plain_here", "_law_day_here"]) F rfl (fn_ok (k := 0) F sc_law_sums rfl fun cdv A outer s H E hr =>
    (dss_cons (ds_set (i := 2) sc_law_sums.nd rfl (by first | exact Or.inl rfl | exact Or.inr rfl) de_dictT)
    (dss_cons (ds_for (i := 3) (passes_of rfl) rfl sc_law_sums.nd rfl (by first | exact Or.inl rfl | exact Or.inr rfl) (di_any (de_ix hr.units (de_var (pv 0)) de_str)) (dss_one (ds_if (dt_cmp cm_le (de_ix hr.units (de_var (pv 3)) de_int) (de_var (pv 1)) (nomark _)) (dss_one (ds_for (i := 4) (passes_of rfl) rfl sc_law_sums.nd rfl (by first | exact Or.inl rfl | exact Or.inr rfl) (di_any (de_ix hr.units (de_var (pv 3)) de_int)) (dss_cons (ds_set (i := 5) sc_law_sums.nd rfl (by first | exact Or.inl rfl | exact Or.inr rfl) (de_tup (da_cons (de_ix hr.units (de_var (pv 4)) de_int) (da_cons (de_ix hr.units (de_var (pv 4)) de_int) da_nil))))
    (dss_one (ds_dput hr.units (de_var (pv 2)) (de_var (pv 5)) (de_add (de_get2 hr.units (de_var (pv 2)) (de_var (pv 5)) de_int ⟨rfl, rfl, rfl, rfl⟩) (de_ix hr.units (de_var (pv 4)) de_int)) rfl))))) dss_nil)))
    (dss_one (ds_ret (de_var (pv 2)))))))
    (F.bindsN fun _ _ _ _ _ _ us hl => match us, hl with | [_, _], _ => rfl)
theorem sc_pairs_up_to : FnScope ["book", "last", "seen", "entry", "line"] ["book", "last"] (defScope s_pairs_up_to) := ⟨rfl, rfl, rfl, by decide +kernel, rfl, by decide +kernel, by decide +kernel⟩
theorem ok_pairs_up_to (X : K.In h) (G : h.Ns mainGlobals mg) (c : SaysE fal fnl exl K) : FnG P w K mg base (He.fAd K ("pairs_up_to", none)) 2 1 sem_pairs_up_to := by
  obtain ⟨fd, F⟩ := c.def_ 54 (d := dd_pairs_up_to) rfl
  exact fng_of (ps := ["book", "last"]) F rfl (fn_okP (k := 0) F sc_pairs_up_to rfl fun cdv A outer s H E hr =>
    (dss_cons (ds_set (i := 2) sc_pairs_up_to.nd rfl (by first | exact Or.inl rfl | exact Or.inr rfl) de_dictT)
    (dss_cons (ds_for (i := 3) (passes_of rfl) rfl sc_pairs_up_to.nd rfl (by first | exact Or.inl rfl | exact Or.inr rfl) (di_any (de_fld ⟨_, _, rfl, fl0_nd, rfl, He.cls_ok (c.fact 16 rfl), He.noat_ok (c.fact 23 rfl)⟩ (de_var (pv 0)) rfl)) (dss_one (ds_if (dt_cmp cm_le (de_ix hr.units (de_var (pv 3)) de_int) (de_var (pv 1)) (nomark _)) (dss_one (ds_for (i := 4) (passes_of rfl) rfl sc_pairs_up_to.nd rfl (by first | exact Or.inl rfl | exact Or.inr rfl) (di_any (de_ix hr.units (de_var (pv 3)) de_int)) (dss_one (ds_dput hr.units (de_var (pv 2)) (de_tup (da_cons (de_ix hr.units (de_var (pv 4)) de_int) (da_cons (de_ix hr.units (de_var (pv 4)) de_int) da_nil))) de_bl rfl)))) dss_nil)))
    (dss_one (ds_ret (de_callB cg_sortedS rfl (He.free_ok X G (c.fact 104 rfl)) bt_sorted (da_cons (de_callTy (cg_listT rfl) rfl (He.free_ok X G (c.fact 103 rfl)) bt_list (da_cons (de_var (pv 2)) da_nil)) da_nil)))))))
    (F.bindsN fun _ _ _ _ _ _ us hl => match us, hl with | [_, _], _ => rfl)
theorem sc_Book_sum_between : FnScope ["self", "account", "currency", "first", "last", "found", "entry", "line"] ["self", "account", "currency", "first", "last"] (defScope s_Book_sum_between) := ⟨rfl, rfl, rfl, by decide +kernel, rfl, by decide +kernel, by decide +kernel⟩
theorem ok_Book_sum_between (X : K.In h) (G : h.Ns mainGlobals mg) (c : SaysE fal fnl exl K) : FnG P w K mg base (He.fAd K ("Book", some "sum_between")) 5 1 sem_Book_sum_between := by
  obtain ⟨fd, F⟩ := c.def_ 55 (d := dd_Book_sum_between) rfl
  exact fng_of (ps := ["self", "account", "currency", "first", "last"]) F rfl (fn_ok (k := 0) F sc_Book_sum_between rfl fun cdv A outer s H E hr =>
    (dss_cons (ds_set (i := 5) sc_Book_sum_between.nd rfl (by first | exact Or.inl rfl | exact Or.inr rfl) de_int)
    (dss_cons (ds_for (i := 6) (passes_of rfl) rfl sc_Book_sum_between.nd rfl (by first | exact Or.inl rfl | exact Or.inr rfl) (di_any (de_fld ⟨_, _, rfl, fl0_nd, rfl, He.cls_ok (c.fact 16 rfl), He.noat_ok (c.fact 23 rfl)⟩ (de_var (pv 0)) rfl)) (dss_one (ds_if (dt_chain cm_le cm_le (de_var (pv 3)) (de_ix hr.units (de_var (pv 6)) de_int) (de_var (pv 4))) (dss_one (ds_for (i := 7) (passes_of rfl) rfl sc_Book_sum_between.nd rfl (by first | exact Or.inl rfl | exact Or.inr rfl) (di_any (de_ix hr.units (de_var (pv 6)) de_int)) (dss_one (ds_if (dw_t (dw_and (dt_cmp (cm_eq hr.units) (de_ix hr.units (de_var (pv 7)) de_int) (de_var (pv 1)) (nomark _)) (dw_and1 (dt_cmp (cm_eq hr.units) (de_ix hr.units (de_var (pv 7)) de_int) (de_var (pv 2)) (nomark _))))) (dss_one (ds_set (i := 5) sc_Book_sum_between.nd rfl (by first | exact Or.inl rfl | exact Or.inr rfl) (de_add (de_var (pv 5)) (de_ix hr.units (de_var (pv 7)) de_int)))) dss_nil)))) dss_nil)))
    (dss_one (ds_ret (de_var (pv 5)))))))
    (F.bindsN fun _ _ _ _ _ _ us hl => match us, hl with | [_, _, _, _, _], _ => rfl)
theorem sc_sheet : FnScope ["book", "day", "rows", "pair", "row"] ["book", "day"] (defScope s_sheet) := ⟨rfl, rfl, rfl, by decide +kernel, rfl, by decide +kernel, by decide +kernel⟩
theorem ok_sheet (X : K.In h) (G : h.Ns mainGlobals mg) (c : SaysE fal fnl exl K) : FnG P w K mg base (He.fAd K ("sheet", none)) 2 3 sem_sheet := by
  obtain ⟨fd, F⟩ := c.def_ 56 (d := dd_sheet) rfl
  exact fng_of (ps := ["book", "day"]) F rfl (fn_ok (k := 2) F sc_sheet rfl fun cdv A outer s H E hr =>
    (dss_cons (ds_expr (de_meth ⟨_, _, rfl, by decide +kernel, He.cls_ok (c.fact 16 rfl), He.meth_ok (c.fact 42 rfl)⟩ (ok_Book_need_day X G c) (hr.mono (by decide)) (de_var (pv 0)) (da_cons (de_var (pv 1)) da_nil)))
    (dss_cons (ds_setLc (j := 2) (own := [("pair", 3)]) kp_frz rfl sc_sheet.nd rfl rfl (sw_true rfl rfl rfl (by decide +kernel)) (di_any (de_call (ok_pairs_up_to X G c) (hr.mono (by decide)) rfl (He.glo_ok X G (c.fact 105 rfl)) (da_cons (de_var (pv 0)) (da_cons (de_var (pv 1)) da_nil)))) (blkOk_by (N := ["book", "day", "rows", "pair", "row"]) (sc := defScope s_sheet) (by decide +kernel)) (by decide) (fun _ _ _ _ _ => pg_name (i := 3) sc_sheet.nd rfl (by first | exact Or.inl rfl | exact Or.inr rfl)) (fun _ _ _ _ _ => dts_nil) (fun _ _ _ _ _ => (de_tup (da_cons (de_ix hr.units (de_var (pv 3)) de_int) (da_cons (de_ix hr.units (de_var (pv 3)) de_int) (da_cons (de_meth ⟨_, _, rfl, by decide +kernel, He.cls_ok (c.fact 16 rfl), He.meth_ok (c.fact 106 rfl)⟩ (ok_Book_sum_between X G c) (hr.mono (by decide)) (de_var (pv 0)) (da_cons (de_ix hr.units (de_var (pv 3)) de_int) (da_cons (de_ix hr.units (de_var (pv 3)) de_int) (da_cons de_int (da_cons (de_var (pv 1)) da_nil))))) da_nil))))))
    (dss_one (ds_ret (de_lc (own := [("row", 4)]) kp_keep rfl sc_sheet.nd (di_any (de_var (pv 2))) (blkOk_by (N := ["book", "day", "rows", "pair", "row"]) (sc := defScope s_sheet) (by decide +kernel)) (by decide) (fun _ _ _ _ _ => pg_name (i := 4) sc_sheet.nd rfl (by first | exact Or.inl rfl | exact Or.inr rfl)) (fun _ _ _ _ _ => (dts_one (dt_cmp (cm_ne hr.units) (de_ix hr.units (de_var (pv 4)) de_int) de_int (nomark _)))) (fun _ _ _ _ _ => (de_var (pv 4)))))))))
    (F.bindsN fun _ _ _ _ _ _ us hl => match us, hl with | [_, _], _ => rfl)
theorem sc_law_whole : FnScope ["_law_found"] ["_law_found"] (defScope s_law_whole) := ⟨rfl, rfl, rfl, by decide +kernel, rfl, by decide +kernel, by decide +kernel⟩
theorem ok_law_whole (X : K.In h) (G : h.Ns mainGlobals mg) (c : SaysE fal fnl exl K) : FnG P w K mg base (He.fAd K ("_law_whole", none)) 1 1 sem_law_whole := by
  obtain ⟨fd, F⟩ := c.def_ 57 (d := dd_law_whole) rfl
  exact fng_of (ps := ["_law_found"]) F rfl (fn_ok (k := 0) F sc_law_whole rfl fun cdv A outer s H E hr =>
    (dss_one (ds_ret (de_and (de_isi .int rfl (He.free_ok X G (c.fact 107 rfl)) bt_isinstance (de_var (pv 0)) rfl (He.free_ok X G (c.fact 108 rfl)) bt_int) (de_one (de_not (de_isi .bool rfl (He.free_ok X G (c.fact 107 rfl)) bt_isinstance (de_var (pv 0)) rfl (He.free_ok X G (c.fact 109 rfl)) bt_bool)))))))
    (F.bindsN fun _ _ _ _ _ _ us hl => match us, hl with | [_], _ => rfl)
theorem sc_law_worth : FnScope ["_law_plain_here", "_law_rows", "_law_account", "_law_day_here", "_law_top", "_law_bottom", "_law_row", "_law_pair"] ["_law_plain_here", "_law_rows", "_law_account", "_law_day_here"] (defScope s_law_worth) := ⟨rfl, rfl, rfl, by decide +kernel, rfl, by decide +kernel, by decide +kernel⟩
theorem ok_law_worth (X : K.In h) (G : h.Ns mainGlobals mg) (c : SaysE fal fnl exl K) : FnG P w K mg base (He.fAd K ("_law_worth", none)) 4 2 sem_law_worth := by
  obtain ⟨fd, F⟩ := c.def_ 58 (d := dd_law_worth) rfl
  exact fng_of (ps := ["_law_plain_here", "_law_rows", "_law_account", "_law_day_here"]) F rfl (fn_ok (k := 1) F sc_law_worth rfl fun cdv A outer s H E hr =>
    (dss_cons (ds_set (i := 4) sc_law_worth.nd rfl (by first | exact Or.inl rfl | exact Or.inr rfl) de_int)
    (dss_cons (ds_set (i := 5) sc_law_worth.nd rfl (by first | exact Or.inl rfl | exact Or.inr rfl) de_int)
    (dss_cons (ds_for (i := 6) (passes_of rfl) rfl sc_law_worth.nd rfl (by first | exact Or.inl rfl | exact Or.inr rfl) (di_any (de_var (pv 1))) (dss_one (ds_if (dt_cmp (cm_eq hr.units) (de_ix hr.units (de_var (pv 6)) de_int) (de_var (pv 2)) (nomark _)) (dss_cons (ds_set (i := 7) sc_law_worth.nd rfl (by first | exact Or.inl rfl | exact Or.inr rfl) (de_call (ok_law_rate X G c) (hr.mono (by decide)) rfl (He.glo_ok X G (c.fact 85 rfl)) (da_cons (de_var (pv 0)) (da_cons (de_ix hr.units (de_var (pv 6)) de_int) (da_cons (de_var (pv 3)) da_nil)))))
    (dss_cons (ds_if (dt_cmp cm_is (de_var (pv 7)) de_non (nomark _)) (dss_one (ds_ret de_non)) dss_nil)
    (dss_cons (ds_set (i := 4) sc_law_worth.nd rfl (by first | exact Or.inl rfl | exact Or.inr rfl) (de_add (de_mul (de_var (pv 4)) (de_ix hr.units (de_var (pv 7)) de_int)) (de_mul (de_mul (de_ix hr.units (de_var (pv 6)) de_int) (de_ix hr.units (de_var (pv 7)) de_int)) (de_var (pv 5)))))
    (dss_one (ds_set (i := 5) sc_law_worth.nd rfl (by first | exact Or.inl rfl | exact Or.inr rfl) (de_mul (de_var (pv 5)) (de_ix hr.units (de_var (pv 7)) de_int))))))) dss_nil)))
    (dss_one (ds_ret (de_tup (da_cons (de_var (pv 4)) (da_cons (de_var (pv 5)) da_nil)))))))))
    (F.bindsN fun _ _ _ _ _ _ us hl => match us, hl with | [_, _, _, _], _ => rfl)
theorem sc_common : FnScope ["one", "other", "rest"] ["one", "other"] (defScope s_common) := ⟨rfl, rfl, rfl, by decide +kernel, rfl, by decide +kernel, by decide +kernel⟩
theorem ok_common (X : K.In h) (G : h.Ns mainGlobals mg) (c : SaysE fal fnl exl K) : FnG P w K mg base (He.fAd K ("common", none)) 2 1 sem_common := by
  obtain ⟨fd, F⟩ := c.def_ 59 (d := dd_common) rfl
  exact fng_of (ps := ["one", "other"]) F rfl (fn_ok (k := 0) F sc_common rfl fun cdv A outer s H E hr =>
    (dss_cons (ds_while (passes_of rfl) (dt_cmp (cm_ne hr.units) (de_var (pv 1)) de_int (nomark _)) (dss_cons (ds_set (i := 2) sc_common.nd rfl (by first | exact Or.inl rfl | exact Or.inr rfl) (de_mod (de_var (pv 0)) (de_var (pv 1))))
    (dss_cons (ds_set (i := 0) sc_common.nd rfl (by first | exact Or.inl rfl | exact Or.inr rfl) (de_var (pv 1)))
    (dss_one (ds_set (i := 1) sc_common.nd rfl (by first | exact Or.inl rfl | exact Or.inr rfl) (de_var (pv 2)))))))
    (dss_one (ds_ret (de_var (pv 0))))))
    (F.bindsN fun _ _ _ _ _ _ us hl => match us, hl with | [_, _], _ => rfl)
theorem sc_lowest : FnScope ["top", "bottom", "part"] ["top", "bottom"] (defScope s_lowest) := ⟨rfl, rfl, rfl, by decide +kernel, rfl, by decide +kernel, by decide +kernel⟩
theorem ok_lowest (X : K.In h) (G : h.Ns mainGlobals mg) (c : SaysE fal fnl exl K) : FnG P w K mg base (He.fAd K ("lowest", none)) 2 2 sem_lowest := by
  obtain ⟨fd, F⟩ := c.def_ 60 (d := dd_lowest) rfl
  exact fng_of (ps := ["top", "bottom"]) F rfl (fn_ok (k := 1) F sc_lowest rfl fun cdv A outer s H E hr =>
    (dss_cons (ds_set (i := 2) sc_lowest.nd rfl (by first | exact Or.inl rfl | exact Or.inr rfl) (de_call (ok_common X G c) (hr.mono (by decide)) rfl (He.glo_ok X G (c.fact 110 rfl)) (da_cons (de_var (pv 0)) (da_cons (de_var (pv 1)) da_nil))))
    (dss_one (ds_ret (de_tup (da_cons (de_floor (de_var (pv 0)) (de_var (pv 2))) (da_cons (de_floor (de_var (pv 1)) (de_var (pv 2))) da_nil)))))))
    (F.bindsN fun _ _ _ _ _ _ us hl => match us, hl with | [_, _], _ => rfl)
theorem sc_added : FnScope ["one", "other"] ["one", "other"] (defScope s_added) := ⟨rfl, rfl, rfl, by decide +kernel, rfl, by decide +kernel, by decide +kernel⟩
theorem ok_added (X : K.In h) (G : h.Ns mainGlobals mg) (c : SaysE fal fnl exl K) : FnG P w K mg base (He.fAd K ("added", none)) 2 3 sem_added := by
  obtain ⟨fd, F⟩ := c.def_ 61 (d := dd_added) rfl
  exact fng_of (ps := ["one", "other"]) F rfl (fn_ok (k := 2) F sc_added rfl fun cdv A outer s H E hr =>
    (dss_one (ds_ret (de_call (ok_lowest X G c) (hr.mono (by decide)) rfl (He.glo_ok X G (c.fact 111 rfl)) (da_cons (de_add (de_mul (de_ix hr.units (de_var (pv 0)) de_int) (de_ix hr.units (de_var (pv 1)) de_int)) (de_mul (de_ix hr.units (de_var (pv 1)) de_int) (de_ix hr.units (de_var (pv 0)) de_int))) (da_cons (de_mul (de_ix hr.units (de_var (pv 0)) de_int) (de_ix hr.units (de_var (pv 1)) de_int)) da_nil))))))
    (F.bindsN fun _ _ _ _ _ _ us hl => match us, hl with | [_, _], _ => rfl)
theorem sc_worth : FnScope ["book", "account", "day", "found", "row", "pair"] ["book", "account", "day"] (defScope s_worth) := ⟨rfl, rfl, rfl, by decide +kernel, rfl, by decide +kernel, by decide +kernel⟩
theorem ok_worth (X : K.In h) (G : h.Ns mainGlobals mg) (c : SaysE fal fnl exl K) : FnG P w K mg base (He.fAd K ("worth", none)) 3 4 sem_worth := by
  obtain ⟨fd, F⟩ := c.def_ 62 (d := dd_worth) rfl
  exact fng_of (ps := ["book", "account", "day"]) F rfl (fn_okP (k := 3) F sc_worth rfl fun cdv A outer s H E hr =>
    (dss_cons (ds_expr (de_meth ⟨_, _, rfl, by decide +kernel, He.cls_ok (c.fact 16 rfl), He.meth_ok (c.fact 56 rfl)⟩ (ok_Book_need_account X G c) (hr.mono (by decide)) (de_var (pv 0)) (da_cons (de_var (pv 1)) da_nil)))
    (dss_cons (ds_expr (de_meth ⟨_, _, rfl, by decide +kernel, He.cls_ok (c.fact 16 rfl), He.meth_ok (c.fact 42 rfl)⟩ (ok_Book_need_day X G c) (hr.mono (by decide)) (de_var (pv 0)) (da_cons (de_var (pv 2)) da_nil)))
    (dss_cons (ds_set (i := 3) sc_worth.nd rfl (by first | exact Or.inl rfl | exact Or.inr rfl) (de_tup (da_cons de_int (da_cons de_int da_nil))))
    (dss_cons (ds_for (i := 4) (passes_of rfl) rfl sc_worth.nd rfl (by first | exact Or.inl rfl | exact Or.inr rfl) (di_any (de_call (ok_sheet X G c) (hr.mono (by decide)) rfl (He.glo_ok X G (c.fact 112 rfl)) (da_cons (de_var (pv 0)) (da_cons (de_var (pv 2)) da_nil)))) (dss_one (ds_if (dt_cmp (cm_eq hr.units) (de_ix hr.units (de_var (pv 4)) de_int) (de_var (pv 1)) (nomark _)) (dss_cons (ds_set (i := 5) sc_worth.nd rfl (by first | exact Or.inl rfl | exact Or.inr rfl) (de_meth ⟨_, _, rfl, by decide +kernel, He.cls_ok (c.fact 16 rfl), He.meth_ok (c.fact 80 rfl)⟩ (ok_Book_rate X G c) (hr.mono (by decide)) (de_var (pv 0)) (da_cons (de_ix hr.units (de_var (pv 4)) de_int) (da_cons (de_var (pv 2)) da_nil))))
    (dss_one (ds_set (i := 3) sc_worth.nd rfl (by first | exact Or.inl rfl | exact Or.inr rfl) (de_call (ok_added X G c) (hr.mono (by decide)) rfl (He.glo_ok X G (c.fact 113 rfl)) (da_cons (de_var (pv 3)) (da_cons (de_tup (da_cons (de_mul (de_ix hr.units (de_var (pv 4)) de_int) (de_ix hr.units (de_var (pv 5)) de_int)) (da_cons (de_ix hr.units (de_var (pv 5)) de_int) da_nil))) da_nil)))))) dss_nil)))
    (dss_one (ds_ret (de_var (pv 3)))))))))
    (F.bindsN fun _ _ _ _ _ _ us hl => match us, hl with | [_, _, _], _ => rfl)
theorem sc_law_refused : FnScope ["_law_book_here", "_law_account", "_law_day_here"] ["_law_book_here", "_law_account", "_law_day_here"] (defScope s_law_refused) := ⟨rfl, rfl, rfl, by decide +kernel, rfl, by decide +kernel, by decide +kernel⟩
theorem ok_law_refused (X : K.In h) (G : h.Ns mainGlobals mg) (c : SaysE fal fnl exl K) : FnG P w K mg base (He.fAd K ("_law_refused", none)) 3 5 sem_law_refused := by
  obtain ⟨fd, F⟩ := c.def_ 63 (d := dd_law_refused) rfl
  exact fng_of (ps := ["_law_book_here", "_law_account", "_law_day_here"]) F rfl (fn_ok (k := 4) F sc_law_refused rfl fun cdv A outer s H E hr =>
    (dss_cons (ds_try (cs := csl) rfl rfl (fun pn xe hp => (dss_one (ds_expr (de_call (ok_worth X G c) (hr.mono (by decide)) rfl (He.glo_ok X G (c.fact 114 rfl)) (da_cons (de_var (pv 0)) (da_cons (de_var (pv 1)) (da_cons (de_var (pv 2)) da_nil)))))))
    (DHs.cons rfl (He.glo_ok X G (c.fact 79 rfl)) (by decide) (ea_NoRate c) (fun a1 oe c1 pn hk => (dss_one (ds_ret de_str)))
    (DHs.cons rfl (He.glo_ok X G (c.fact 47 rfl)) (by decide) (ea_NoAccount c) (fun a1 oe c1 pn hk => (dss_one (ds_ret de_str)))
    (DHs.cons rfl (He.glo_ok X G (c.fact 41 rfl)) (by decide) (ea_BadDay c) (fun a1 oe c1 pn hk => (dss_one (ds_ret de_str)))
    .nil))))
    (dss_one (ds_ret de_str))))
    (F.bindsN fun _ _ _ _ _ _ us hl => match us, hl with | [_, _, _], _ => rfl)
theorem sc_law_common : FnScope ["_law_one", "_law_other", "_law_rest"] ["_law_one", "_law_other"] (defScope s_law_common) := ⟨rfl, rfl, rfl, by decide +kernel, rfl, by decide +kernel, by decide +kernel⟩
theorem ok_law_common (X : K.In h) (G : h.Ns mainGlobals mg) (c : SaysE fal fnl exl K) : FnG P w K mg base (He.fAd K ("_law_common", none)) 2 1 sem_law_common := by
  obtain ⟨fd, F⟩ := c.def_ 64 (d := dd_law_common) rfl
  exact fng_of (ps := ["_law_one", "_law_other"]) F rfl (fn_ok (k := 0) F sc_law_common rfl fun cdv A outer s H E hr =>
    (dss_cons (ds_while (passes_of rfl) (dt_cmp (cm_ne hr.units) (de_var (pv 1)) de_int (nomark _)) (dss_cons (ds_set (i := 2) sc_law_common.nd rfl (by first | exact Or.inl rfl | exact Or.inr rfl) (de_mod (de_var (pv 0)) (de_var (pv 1))))
    (dss_cons (ds_set (i := 0) sc_law_common.nd rfl (by first | exact Or.inl rfl | exact Or.inr rfl) (de_var (pv 1)))
    (dss_one (ds_set (i := 1) sc_law_common.nd rfl (by first | exact Or.inl rfl | exact Or.inr rfl) (de_var (pv 2)))))))
    (dss_one (ds_ret (de_var (pv 0))))))
    (F.bindsN fun _ _ _ _ _ _ us hl => match us, hl with | [_, _], _ => rfl)
theorem sc_law_valued : FnScope ["_law_book_here", "_law_plain_here", "_law_rows", "_law_account", "_law_day_here", "_law_due", "_law_found"] ["_law_book_here", "_law_plain_here", "_law_rows", "_law_account", "_law_day_here"] (defScope s_law_valued) := ⟨rfl, rfl, rfl, by decide +kernel, rfl, by decide +kernel, by decide +kernel⟩
theorem ok_law_valued (X : K.In h) (G : h.Ns mainGlobals mg) (c : SaysE fal fnl exl K) : FnG P w K mg base (He.fAd K ("_law_valued", none)) 5 6 sem_law_valued := by
  obtain ⟨fd, F⟩ := c.def_ 65 (d := dd_law_valued) rfl
  exact fng_of (ps := ["_law_book_here", "_law_plain_here", "_law_rows", "_law_account", "_law_day_here"]) F rfl (fn_ok (k := 5) F sc_law_valued rfl fun cdv A outer s H E hr =>
    (dss_cons (ds_set (i := 5) sc_law_valued.nd rfl (by first | exact Or.inl rfl | exact Or.inr rfl) (de_call (ok_law_worth X G c) (hr.mono (by decide)) rfl (He.glo_ok X G (c.fact 115 rfl)) (da_cons (de_var (pv 1)) (da_cons (de_var (pv 2)) (da_cons (de_var (pv 3)) (da_cons (de_var (pv 4)) da_nil))))))
    (dss_cons (ds_if (dt_cmp cm_is (de_var (pv 5)) de_non (nomark _)) (dss_one (ds_ret (de_cmp (cm_eq hr.units) (de_call (ok_law_refused X G c) (hr.mono (by decide)) rfl (He.glo_ok X G (c.fact 116 rfl)) (da_cons (de_var (pv 0)) (da_cons (de_var (pv 3)) (da_cons (de_var (pv 4)) da_nil)))) de_str (nomark _)))) dss_nil)
    (dss_cons (ds_set (i := 6) sc_law_valued.nd rfl (by first | exact Or.inl rfl | exact Or.inr rfl) (de_call (ok_worth X G c) (hr.mono (by decide)) rfl (He.glo_ok X G (c.fact 114 rfl)) (da_cons (de_var (pv 0)) (da_cons (de_var (pv 3)) (da_cons (de_var (pv 4)) da_nil)))))
    (dss_cons (ds_if (dw_t (dw_or (dt_not (dt_val (de_isi .tuple rfl (He.free_ok X G (c.fact 107 rfl)) bt_isinstance (de_var (pv 6)) rfl (He.free_ok X G (c.fact 37 rfl)) bt_tuple))) (dw_or (dt_cmp (cm_ne hr.units) (de_callB cg_len rfl (He.free_ok X G (c.fact 1 rfl)) bt_len (da_cons (de_var (pv 6)) da_nil)) de_int (nomark _)) (dw_or (dt_not (dt_val (de_call (ok_law_whole X G c) (hr.mono (by decide)) rfl (He.glo_ok X G (c.fact 117 rfl)) (da_cons (de_ix hr.units (de_var (pv 6)) de_int) da_nil)))) (dw_or1 (dt_not (dt_val (de_call (ok_law_whole X G c) (hr.mono (by decide)) rfl (He.glo_ok X G (c.fact 117 rfl)) (da_cons (de_ix hr.units (de_var (pv 6)) de_int) da_nil))))))))) (dss_one (ds_ret de_bl)) dss_nil)
    (dss_cons (ds_if (dw_t (dw_or (dt_cmp cm_lt (de_ix hr.units (de_var (pv 6)) de_int) de_int (nomark _)) (dw_or1 (dt_cmp (cm_ne hr.units) (de_mul (de_ix hr.units (de_var (pv 6)) de_int) (de_ix hr.units (de_var (pv 5)) de_int)) (de_mul (de_ix hr.units (de_var (pv 5)) de_int) (de_ix hr.units (de_var (pv 6)) de_int)) (nomark _))))) (dss_one (ds_ret de_bl)) dss_nil)
    (dss_one (ds_ret (de_cmp (cm_eq hr.units) (de_call (ok_law_common X G c) (hr.mono (by decide)) rfl (He.glo_ok X G (c.fact 118 rfl)) (da_cons (de_ix hr.units (de_var (pv 6)) de_int) (da_cons (de_ix hr.units (de_var (pv 6)) de_int) da_nil))) de_int (nomark _))))))))))
    (F.bindsN fun _ _ _ _ _ _ us hl => match us, hl with | [_, _, _, _, _], _ => rfl)
theorem sc_law_day_good : FnScope ["_law_book_here", "_law_plain_here", "_law_day_here", "_law_accounts", "_law_held", "_law_sums_here", "_law_rows", "_law_found", "_law_row", "_law_account", "_law_pair"] ["_law_book_here", "_law_plain_here", "_law_day_here", "_law_accounts", "_law_held"] (defScope s_law_day_good) := ⟨rfl, rfl, rfl, by decide +kernel, rfl, by decide +kernel, by decide +kernel⟩
theorem ok_law_day_good (X : K.In h) (G : h.Ns mainGlobals mg) (c : SaysE fal fnl exl K) : FnG P w K mg base (He.fAd K ("_law_day_good", none)) 5 7 sem_law_day_good := by
  obtain ⟨fd, F⟩ := c.def_ 66 (d := dd_law_day_good) rfl
  exact fng_of (ps := ["_law_book_here", "_law_plain_here", "_law_day_here", "_law_accounts", "_law_held"]) F rfl (fn_ok (k := 6) F sc_law_day_good rfl fun cdv A outer s H E hr =>
    (dss_cons (ds_set (i := 5) sc_law_day_good.nd rfl (by first | exact Or.inl rfl | exact Or.inr rfl) (de_call (ok_law_sums X G c) (hr.mono (by decide)) rfl (He.glo_ok X G (c.fact 119 rfl)) (da_cons (de_var (pv 1)) (da_cons (de_var (pv 2)) da_nil))))
    (dss_cons (ds_setLc (j := 6) (own := [("_law_pair", 10)]) kp_frz rfl sc_law_day_good.nd rfl rfl (sw_true rfl rfl rfl (by decide +kernel)) (di_any (de_callB cg_sortedS rfl (He.free_ok X G (c.fact 104 rfl)) bt_sorted (da_cons (de_callTy (cg_listT rfl) rfl (He.free_ok X G (c.fact 103 rfl)) bt_list (da_cons (de_var (pv 5)) da_nil)) da_nil))) (blkOk_by (N := ["_law_book_here", "_law_plain_here", "_law_day_here", "_law_accounts", "_law_held", "_law_sums_here", "_law_rows", "_law_found", "_law_row", "_law_account", "_law_pair"]) (sc := defScope s_law_day_good) (by decide +kernel)) (by decide) (fun _ _ _ _ _ => pg_name (i := 10) sc_law_day_good.nd rfl (by first | exact Or.inl rfl | exact Or.inr rfl)) (fun _ _ _ _ _ => (dts_one (dt_cmp (cm_ne hr.units) (de_ix hr.units (de_var (pv 5)) (de_var (pv 10))) de_int (nomark _)))) (fun _ _ _ _ _ => (de_tup (da_cons (de_ix hr.units (de_var (pv 10)) de_int) (da_cons (de_ix hr.units (de_var (pv 10)) de_int) (da_cons (de_ix hr.units (de_var (pv 5)) (de_var (pv 10))) da_nil))))))
    (dss_cons (ds_set (i := 7) sc_law_day_good.nd rfl (by first | exact Or.inl rfl | exact Or.inr rfl) (de_call (ok_sheet X G c) (hr.mono (by decide)) rfl (He.glo_ok X G (c.fact 112 rfl)) (da_cons (de_var (pv 0)) (da_cons (de_var (pv 2)) da_nil))))
    (dss_cons (ds_if (dw_t (dw_or (dt_not (dt_val (de_isi .list rfl (He.free_ok X G (c.fact 107 rfl)) bt_isinstance (de_var (pv 7)) rfl (He.free_ok X G (c.fact 103 rfl)) bt_list))) (dw_or1 (dt_cmp (cm_ne hr.units) (de_var (pv 7)) (de_var (pv 6)) (nomark _))))) (dss_one (ds_ret de_bl)) dss_nil)
    (dss_cons (ds_for (i := 8) (passes_of rfl) rfl sc_law_day_good.nd rfl (by first | exact Or.inl rfl | exact Or.inr rfl) (di_any (de_var (pv 7))) (dss_one (ds_if (dw_t (dw_or (dt_not (dt_val (de_isi .tuple rfl (He.free_ok X G (c.fact 107 rfl)) bt_isinstance (de_var (pv 8)) rfl (He.free_ok X G (c.fact 37 rfl)) bt_tuple))) (dw_or1 (dt_not (dt_val (de_call (ok_law_whole X G c) (hr.mono (by decide)) rfl (He.glo_ok X G (c.fact 117 rfl)) (da_cons (de_ix hr.units (de_var (pv 8)) de_int) da_nil))))))) (dss_one (ds_ret de_bl)) dss_nil)))
    (dss_cons (ds_expr (de_lm lm_append (de_var (pv 7)) de_str))
    (dss_cons (ds_expr (de_lm lm_append (de_var (pv 4)) (de_tup (da_cons (de_var (pv 7)) (da_cons (de_add (de_var (pv 6)) (de_lst (da_cons de_str da_nil))) da_nil)))))
    (dss_cons (ds_for (i := 9) (passes_of rfl) rfl sc_law_day_good.nd rfl (by first | exact Or.inl rfl | exact Or.inr rfl) (di_any (de_var (pv 3))) (dss_one (ds_if (dt_not (dt_val (de_call (ok_law_valued X G c) (hr.mono (by decide)) rfl (He.glo_ok X G (c.fact 120 rfl)) (da_cons (de_var (pv 0)) (da_cons (de_var (pv 1)) (da_cons (de_var (pv 6)) (da_cons (de_var (pv 9)) (da_cons (de_var (pv 2)) da_nil)))))))) (dss_one (ds_ret de_bl)) dss_nil)))
    (dss_one (ds_ret (de_cmp (cm_eq hr.units) (de_call (ok_sheet X G c) (hr.mono (by decide)) rfl (He.glo_ok X G (c.fact 112 rfl)) (da_cons (de_var (pv 0)) (da_cons (de_var (pv 2)) da_nil))) (de_var (pv 6)) (nomark _)))))))))))))
    (F.bindsN fun _ _ _ _ _ _ us hl => match us, hl with | [_, _, _, _, _], _ => rfl)
theorem sc_law_based : FnScope ["_law_book_here", "_law_day_here", "e"] ["_law_book_here", "_law_day_here"] (defScope s_law_based) := ⟨rfl, rfl, rfl, by decide +kernel, rfl, by decide +kernel, by decide +kernel⟩
theorem ok_law_based (X : K.In h) (G : h.Ns mainGlobals mg) (c : SaysE fal fnl exl K) : FnG P w K mg base (He.fAd K ("_law_based", none)) 2 4 sem_law_based := by
  obtain ⟨fd, F⟩ := c.def_ 67 (d := dd_law_based) rfl
  exact fng_of (ps := ["_law_book_here", "_law_day_here"]) F rfl (fn_ok (k := 3) F sc_law_based rfl fun cdv A outer s H E hr =>
    (dss_cons (ds_try (cs := csl) rfl rfl (fun pn xe hp => (dss_one (ds_expr (de_call (ok_sheet X G c) (hr.mono (by decide)) rfl (He.glo_ok X G (c.fact 112 rfl)) (da_cons (de_var (pv 0)) (da_cons (de_var (pv 1)) da_nil))))))
    (DHs.consA (i := 2) sc_law_based.nd rfl rfl rfl (He.glo_ok X G (c.fact 122 rfl)) (by decide) (ea_LedgerError c) (fun a1 oe c1 pn hk => (dss_one (ds_ret (de_and (de_isE (h := 4) ⟨oe, List.mem_cons_self, hk, rfl⟩ (is_BadDay c) rfl (He.free_ok X G (c.fact 107 rfl)) bt_isinstance (de_var (pv 2)) rfl (He.glo_ok X G (c.fact 41 rfl))) (de_one (de_isV ⟨oe, List.mem_cons_self, hk, rfl⟩ (is_V c) rfl (He.free_ok X G (c.fact 107 rfl)) bt_isinstance (de_var (pv 2)) rfl (He.free_ok X G (c.fact 121 rfl)) bt_ValueError))))))
    .nil))
    (dss_one (ds_ret de_bl))))
    (F.bindsN fun _ _ _ _ _ _ us hl => match us, hl with | [_, _], _ => rfl)
theorem sc_law : FnScope ["_law_script", "_law_plain_here", "_law_book_here", "_law_place", "_law_day_here", "_law_some", "_law_held", "_law_none", "_law_one"] ["_law_script"] (defScope s_law) := ⟨rfl, rfl, rfl, by decide +kernel, rfl, by decide +kernel, by decide +kernel⟩
theorem ok_law (X : K.In h) (G : h.Ns mainGlobals mg) (c : SaysE fal fnl exl K) : ∃ fd, (∀ (s : Shared) (v : Value), BindsTo s fd ⟨[v], []⟩ [("_law_script", v)]) ∧ ∀ base : Heap, FnOk P w K mg base (L2N.CX P w) 9 (He.fAd K ("law", none)) fd ["_law_script"] (spOf K 1 sem_law) := by
  obtain ⟨fd, F⟩ := c.def_ 68 (d := dd_law) rfl
  have b := FunD.bindsA (ps := ["_law_script"]) F fun _ _ _ _ _ _ us hl => match us, hl with | [_], _ => rfl
  exact ⟨fd, fun s v => b s [v] rfl, fun base => fn_ok (k := 8) F sc_law rfl fun cdv A outer s H E hr =>
    (dss_cons (ds_set (i := 1) sc_law.nd rfl (by first | exact Or.inl rfl | exact Or.inr rfl) (de_call (ok_law_plain X G c) (hr.mono (by decide)) rfl (He.glo_ok X G (c.fact 123 rfl)) (da_cons (de_var (pv 0)) da_nil)))
    (dss_cons (ds_set (i := 2) sc_law.nd rfl (by first | exact Or.inl rfl | exact Or.inr rfl) (de_call (ok_law_book X G c) (hr.mono (by decide)) rfl (He.glo_ok X G (c.fact 124 rfl)) (da_cons (de_var (pv 1)) da_nil)))
    (dss_cons (ds_set (i := 3) sc_law.nd rfl (by first | exact Or.inl rfl | exact Or.inr rfl) (de_add de_int (de_mul de_int (de_mod (de_floor (de_call (ok_law_cell X G c) (hr.mono (by decide)) rfl (He.glo_ok X G (c.fact 5 rfl)) (da_cons (de_var (pv 0)) (da_cons de_int da_nil))) de_int) (de_add de_int (de_floor (de_callB cg_len rfl (He.free_ok X G (c.fact 1 rfl)) bt_len (da_cons (de_var (pv 0)) da_nil)) de_int))))))
    (dss_cons (ds_if (dw_t (dw_or (dt_not (dt_val (de_call (ok_law_bulk X G c) (hr.mono (by decide)) rfl (He.glo_ok X G (c.fact 125 rfl)) (da_cons (de_var (pv 2)) (da_cons (de_var (pv 1)) (da_cons (de_call (ok_law_cell X G c) (hr.mono (by decide)) rfl (He.glo_ok X G (c.fact 5 rfl)) (da_cons (de_var (pv 0)) (da_cons de_int da_nil))) (da_cons de_int da_nil))))))) (dw_or1 (dt_not (dt_val (de_call (ok_law_deeds X G c) (hr.mono (by decide)) rfl (He.glo_ok X G (c.fact 126 rfl)) (da_cons (de_var (pv 2)) (da_cons (de_var (pv 1)) (da_cons (de_var (pv 0)) (da_cons de_int (da_cons (de_var (pv 3)) da_nil))))))))))) (dss_one (ds_ret de_bl)) dss_nil)
    (dss_cons (ds_set (i := 4) sc_law.nd rfl (by first | exact Or.inl rfl | exact Or.inr rfl) (de_call (ok_law_asked_day X G c) (hr.mono (by decide)) rfl (He.glo_ok X G (c.fact 127 rfl)) (da_cons (de_var (pv 1)) (da_cons (de_call (ok_law_cell X G c) (hr.mono (by decide)) rfl (He.glo_ok X G (c.fact 5 rfl)) (da_cons (de_var (pv 0)) (da_cons de_int da_nil))) da_nil))))
    (dss_cons (ds_set (i := 5) sc_law.nd rfl (by first | exact Or.inl rfl | exact Or.inr rfl) (de_ix hr.units (de_var (pv 1)) de_str))
    (dss_cons (ds_set (i := 5) sc_law.nd rfl (by first | exact Or.inl rfl | exact Or.inr rfl) (de_lst (da_cons (de_ix hr.units (de_var (pv 5)) (de_mod (de_floor (de_call (ok_law_cell X G c) (hr.mono (by decide)) rfl (He.glo_ok X G (c.fact 5 rfl)) (da_cons (de_var (pv 0)) (da_cons de_int da_nil))) de_int) (de_callB cg_len rfl (He.free_ok X G (c.fact 1 rfl)) bt_len (da_cons (de_var (pv 5)) da_nil)))) (da_cons (de_ix hr.units (de_var (pv 5)) (de_mod (de_floor (de_call (ok_law_cell X G c) (hr.mono (by decide)) rfl (He.glo_ok X G (c.fact 5 rfl)) (da_cons (de_var (pv 0)) (da_cons de_int da_nil))) de_int) (de_callB cg_len rfl (He.free_ok X G (c.fact 1 rfl)) bt_len (da_cons (de_var (pv 5)) da_nil)))) da_nil))))
    (dss_cons (ds_set (i := 6) sc_law.nd rfl (by first | exact Or.inl rfl | exact Or.inr rfl) (de_lstS da_nil))
    (dss_cons (ds_if (dw_t (dw_or (dt_not (dt_val (de_call (ok_law_day_good X G c) (hr.mono (by decide)) rfl (He.glo_ok X G (c.fact 128 rfl)) (da_cons (de_var (pv 2)) (da_cons (de_var (pv 1)) (da_cons (de_var (pv 4)) (da_cons (de_var (pv 5)) (da_cons (de_var (pv 6)) da_nil)))))))) (dw_or1 (dt_not (dt_val (de_call (ok_law_deeds X G c) (hr.mono (by decide)) rfl (He.glo_ok X G (c.fact 126 rfl)) (da_cons (de_var (pv 2)) (da_cons (de_var (pv 1)) (da_cons (de_var (pv 0)) (da_cons (de_var (pv 3)) (da_cons de_int da_nil))))))))))) (dss_one (ds_ret de_bl)) dss_nil)
    (dss_cons (ds_set (i := 7) sc_law.nd rfl (by first | exact Or.inl rfl | exact Or.inr rfl) (de_ix hr.units (de_lst (da_cons (de_neg de_int) (da_cons de_int (da_cons (de_sub (de_sub de_int de_int) (de_mod (de_call (ok_law_cell X G c) (hr.mono (by decide)) rfl (He.glo_ok X G (c.fact 5 rfl)) (da_cons (de_var (pv 0)) (da_cons de_int da_nil))) (de_pow de_int de_int))) da_nil)))) (de_mod (de_call (ok_law_cell X G c) (hr.mono (by decide)) rfl (He.glo_ok X G (c.fact 5 rfl)) (da_cons (de_var (pv 0)) (da_cons de_int da_nil))) de_int)))
    (dss_cons (ds_if (dw_t (dw_or (dt_cmp (cm_ne hr.units) (de_call (ok_law_refused X G c) (hr.mono (by decide)) rfl (He.glo_ok X G (c.fact 116 rfl)) (da_cons (de_var (pv 2)) (da_cons de_str (da_cons (de_var (pv 7)) da_nil)))) de_str (nomark _)) (dw_or1 (dt_cmp (cm_ne hr.units) (de_call (ok_law_refused X G c) (hr.mono (by decide)) rfl (He.glo_ok X G (c.fact 116 rfl)) (da_cons (de_var (pv 2)) (da_cons de_str (da_cons (de_var (pv 7)) da_nil)))) de_str (nomark _))))) (dss_one (ds_ret de_bl)) dss_nil)
    (dss_cons (ds_if (dw_t (dw_or (dt_not (dt_val (de_call (ok_law_day_good X G c) (hr.mono (by decide)) rfl (He.glo_ok X G (c.fact 128 rfl)) (da_cons (de_var (pv 2)) (da_cons (de_var (pv 1)) (da_cons (de_var (pv 4)) (da_cons (de_var (pv 5)) (da_cons (de_var (pv 6)) da_nil)))))))) (dw_or1 (dt_not (dt_val (de_call (ok_law_based X G c) (hr.mono (by decide)) rfl (He.glo_ok X G (c.fact 129 rfl)) (da_cons (de_var (pv 2)) (da_cons (de_var (pv 7)) da_nil)))))))) (dss_one (ds_ret de_bl)) dss_nil)
    (dss_one (ds_ret (de_cmp (cm_eq hr.units) (de_lc (own := [("_law_one", 8)]) kp_frz rfl sc_law.nd (di_any (de_var (pv 6))) (blkOk_by (N := ["_law_script", "_law_plain_here", "_law_book_here", "_law_place", "_law_day_here", "_law_some", "_law_held", "_law_none", "_law_one"]) (sc := defScope s_law) (by decide +kernel)) (by decide) (fun _ _ _ _ _ => pg_name (i := 8) sc_law.nd rfl (by first | exact Or.inl rfl | exact Or.inr rfl)) (fun _ _ _ _ _ => (dts_one (dt_cmp (cm_ne hr.units) (de_ix hr.units (de_var (pv 8)) de_int) (de_ix hr.units (de_var (pv 8)) de_int) (nomark _)))) (fun _ _ _ _ _ => (de_var (pv 8)))) (de_lst da_nil) (nomark _))))))))))))))))⟩
end
end DL

namespace DL
open PySem PySem.Spec PyProof.Rows L2 PySem.W PySem.Calls
def nl0 : List Str := ["_wall", "LedgerError", "BadName", "BadCurrency", "BadAmount", "BadDay", "BadNote", "BadRate", "Unbalanced", "Closed", "Taken", "TakenBack", "NoAccount", "NoEntry", "NoRate", "TooSmall", "common", "lowest", "added", "changed", "balanced", "turned", "pairs_up_to", "sheet", "worth", "SMALL", "GREAT", "FIGURES", "LAST_DAY", "MOST_AMOUNT"]
def nl1 : List Str := ["MOST_RATE", "is_name", "is_currency", "is_day", "is_note", "is_amount", "is_rate", "Rates", "EXCHANGE", "Book", "_law_cell", "_law_whole", "_law_name", "_law_currency", "_law_note", "_law_twin", "_law_names", "_law_currencies", "_law_closed", "_law_day", "_law_amount", "_law_lines", "_law_rate", "_law_put", "_law_post", "_law_convert", "_law_contrary", "_law_tell", "_law_admit", "_law_shut"]
def nl2 : List Str := ["_law_step", "_law_plain", "_law_book", "_law_deeds", "_law_bulk", "_law_sums", "_law_common", "_law_worth", "_law_refused", "_law_based", "_law_valued", "_law_asked_day", "_law_day_good"]
def nls : List Str := nl0 ++ nl1 ++ nl2
abbrev Rw : PySem.W.OpenRow := PySem.W.OpenLaw.row PySem.Challenge.rw_doubleledger_k09_sheets_and_worths
abbrev hk : PySem.W.Hook := hookR 4 fal fnl exl
def ob (s : PySem.W.SharedT) : AlE := obsR 4 fal fnl exl (HandSHeadRun.getT s)
theorem ob_eq (s : PySem.W.SharedT) : ob s = hk.obs s.abs := obsR_eq (HandSHeadRun.getT_eq s)
theorem run1 (w : World) (os : OsState) : (HandSHeadRun.endF (HandSHeadRun.stepQ (HandSHeadRun.denQ HandSHeadRun.tabQ) Rw.prog w) 40000 Rw.prog w os).map (fun s => HandSHeadRun.looksF Rw.prog (boot_heap w.params) s.abs) = some true := by
  kernel_rfl
theorem run2 (w : World) (os : OsState) : (HandSHeadRun.endF (HandSHeadRun.stepQ (HandSHeadRun.denQ HandSHeadRun.tabQ) Rw.prog w) 40000 Rw.prog w os).map (fun s => HandSHeadRun.seenQ (PySem.W.view Rw.prog [80]) nls (importedModules Rw.prog.main.body) (fun s => PySem.W.xlAt (PySem.W.view Rw.prog [80]) [] s && PySem.W.recOk Rw.toRowW.records s) s.abs) = some (openGood (PySem.W.view Rw.prog [80]) nls) := by
  kernel_rfl
theorem run3 (w : World) (os : OsState) : (HandSHeadRun.endF (HandSHeadRun.stepQ (HandSHeadRun.denQ HandSHeadRun.tabQ) Rw.prog w) 40000 Rw.prog w os).map (fun s => ob s) = some (hk.val w) := by
  kernel_rfl
theorem run (w : World) : HandSHeadRun.RunEq Rw (PySem.W.view Rw.prog [80]) hk ob 40000 nls w := fun os => join3 (run1 w os) (run2 w os) (run3 w os)

end DL

open PySem PySem.W PySem.Calls PyProof.Rows
set_option maxHeartbeats 0 in
theorem PySem.Challenge.cw_doubleledger_k09_sheets_and_worths_holds : PySem.Challenge.rw_doubleledger_k09_sheets_and_worths.Holds := by
  w_on; o_law
  refine HandSHeadRun.head_any (r := DL.Rw) (q := view DL.Rw.prog [80]) (H := DL.hk) (ob := DL.ob) (M := 40000) (loose := DL.nls) (d := HandSHeadRun.topDef DL.Rw.prog 80) (kwd := []) DL.ob_eq
    (by kernel_rfl) (fun s => by kernel_rfl) DL.run (by kernel_rfl) (by kernel_rfl) (by kernel_rfl) (by rfl) (by first | assumption | decide +kernel) (by decide +kernel) ⟨rfl, rfl, rfl, rfl, rfl, by decide +kernel⟩ ?hw ?hc
  case hw => w_witness2
  case hc =>
    refine DL.walk_E (l := PySem.Challenge.rw_doubleledger_k09_sheets_and_worths) (n := 63) (k := 9) (x := "_law_script") (CX := fun w => L2N.CX (PySem.Challenge.rw_doubleledger_k09_sheets_and_worths).prog w) rfl (by decide) (by kernel_rfl) ⟨rfl, by decide, by decide⟩ ?F (fun w H s e s' z => DL.noCX z)
    intro w mg fa h Y G hmg0
    obtain ⟨K, KX, c⟩ := Y
    have hmg : mg ("law" : PySem.Str) = some (.ref fa) := by
      have e : (HandSHeadRun.topDef DL.Rw.prog 80).name = ("law" : PySem.Str) := by kernel_rfl
      rw [← e]
      exact hmg0
    have ea := hmg.symm.trans (He.glo_ok KX G (c.fact 130 rfl))
    cases ea
    obtain ⟨fd, hb, hF⟩ := DL.ok_law (P := (PySem.Challenge.rw_doubleledger_k09_sheets_and_worths).prog) (w := w) KX G c
    exact ⟨K, fd, DL.spOf K 1 DL.sem_law, KX, hb, fun H a ns hl hS => DL.law_sp DL.pure_law H a ns hl hS, fun base _ _ => hF base⟩
