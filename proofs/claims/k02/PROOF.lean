import PyProof.Rows.All
import Wide.All
import OpenK.AllK
import Wide.FinOn
import KE.KStateDown
import HandS.ForMost
import HandS.Exc
import HandS.ExcOwn
import HandS.TryMany
import HandS.ExcCtx
import HandS.Hot
import HandS.HotCalls
import HandS.ExcIs
import HandS.IsInst
import HandS.Wide
import HandS.WordsExc
import HandS.EndBits
import HandS.HeadHook1
import HandS.RaiseMore
import HandS.Defaults
import HandS.HeadHook2
import HandS.HeadEnd
import HandS.Head0
import HandS.Head1
import HandS.Head2
import PySem.Challenge.RW_doubleledger_k02_balanced
set_option Elab.async false
set_option linter.all false
set_option maxRecDepth 100000
set_option maxHeartbeats 4000000
/-! A functional layer over HandS: each expression, statement, def of the text has a function on plain data as its meaning. -/
namespace DL
open PySem PySem.Spec PyProof.Rows L2

/-! ## data -/
inductive D where
  | non | bl (b : Bool) | int (i : Int) | str (x : Str) | tup (ds : List D) | lst (ds : List D)
inductive Wv where
  | d (x : D) | ref (n : Nat) | scr (ns : List Int) | exc (c : Nat)
inductive O where
  | lst (ws : List Wv) | tup (ws : List Wv) | dK (kvs : List (Key × Wv)) | dT (kvs : List (List Key × Wv)) | ins (C : Nat) (ws : List Wv) | dead
abbrev Store := List O
abbrev Env := List (Option Wv)
inductive Res (α : Type) where
  | ok (a : α) (S : Store) | rz (c : Nat) (S : Store) | no
def Res.bind {α β : Type} : Res α → (α → Store → Res β) → Res β
  | .ok a S, k => k a S
  | .rz c S, _ => .rz c S
  | .no, _ => .no
abbrev St := L2.St
abbrev Ev := Env → Store → Res Wv

/-! ## pairs of lists -/
section
variable {α β : Type} {R : α → β → Prop}
theorem p2get : ∀ {xs : List α} {ys : List β} {i : Nat} {x : α}, Paired R xs ys → xs[i]? = some x → ∃ y, ys[i]? = some y ∧ R x y
  | _, _, _, _, .nil, e => by simp at e
  | _, _, 0, _, .cons r _, e => by simp at e; subst e; exact ⟨_, rfl, r⟩
  | _, _, i + 1, x, .cons _ t, e => by
    obtain ⟨u, h1, h2⟩ := p2get (i := i) (x := x) t (by simpa using e)
    exact ⟨u, by simpa using h1, h2⟩
theorem p2get' : ∀ {xs : List α} {ys : List β} {i : Nat} {y : β}, Paired R xs ys → ys[i]? = some y → ∃ x, xs[i]? = some x ∧ R x y
  | _, _, _, _, .nil, e => by simp at e
  | _, _, 0, _, .cons r _, e => by simp at e; subst e; exact ⟨_, rfl, r⟩
  | _, _, i + 1, x, .cons _ t, e => by
    obtain ⟨u, h1, h2⟩ := p2get' (i := i) (y := x) t (by simpa using e)
    exact ⟨u, by simpa using h1, h2⟩
theorem p2app : ∀ {xs xs' : List α} {ys ys' : List β}, Paired R xs ys → Paired R xs' ys' → Paired R (xs ++ xs') (ys ++ ys')
  | _, _, _, _, .nil, s => s
  | _, _, _, _, .cons r t, s => .cons r (p2app t s)
theorem p2set {x : α} {y : β} (r : R x y) : ∀ {xs : List α} {ys : List β} (i : Nat), Paired R xs ys → Paired R (xs.set i x) (ys.set i y)
  | _, _, _, .nil => .nil
  | _, _, 0, .cons _ t => .cons r t
  | _, _, i + 1, .cons q t => .cons q (p2set r i t)
theorem p2take : ∀ {xs : List α} {ys : List β} (n : Nat), Paired R xs ys → Paired R (xs.take n) (ys.take n)
  | _, _, 0, _ => .nil
  | _, _, _ + 1, .nil => .nil
  | _, _, n + 1, .cons r t => .cons r (p2take n t)
theorem p2drop : ∀ {xs : List α} {ys : List β} (n : Nat), Paired R xs ys → Paired R (xs.drop n) (ys.drop n)
  | _, _, 0, r => r
  | _, _, _ + 1, .nil => .nil
  | _, _, n + 1, .cons _ t => p2drop n t
theorem p2rep {x : α} {y : β} (r : R x y) : ∀ n : Nat, Paired R (List.replicate n x) (List.replicate n y)
  | 0 => .nil
  | n + 1 => .cons r (p2rep r n)
theorem p2flat {xs : List α} {ys : List β} (r : Paired R xs ys) : ∀ n : Nat, Paired R (List.replicate n xs).flatten (List.replicate n ys).flatten
  | 0 => .nil
  | n + 1 => by
    rw [List.replicate_succ, List.replicate_succ, List.flatten_cons, List.flatten_cons]
    exact p2app r (p2flat r n)
theorem p2map {α' β' : Type} {R' : α' → β' → Prop} {f : α → α'} {g : β → β'} (h : ∀ a b, R a b → R' (f a) (g b)) : ∀ {xs : List α} {ys : List β}, Paired R xs ys → Paired R' (xs.map f) (ys.map g)
  | _, _, .nil => .nil
  | _, _, .cons r t => .cons (h _ _ r) (p2map h t)
theorem p2mapL {α' : Type} {R' : α' → β → Prop} {f : α → α'} (h : ∀ a b, R a b → R' (f a) b) : ∀ {xs : List α} {ys : List β}, Paired R xs ys → Paired R' (xs.map f) ys
  | _, _, .nil => .nil
  | _, _, .cons r t => .cons (h _ _ r) (p2mapL h t)
theorem p2mapL' {α' : Type} {R' : α' → β → Prop} {f : α → α'} (h : ∀ a b, R' (f a) b → R a b) : ∀ {xs : List α} {ys : List β}, Paired R' (xs.map f) ys → Paired R xs ys
  | [], _, .nil => .nil
  | _ :: _, _, .cons r t => .cons (h _ _ r) (p2mapL' h t)
theorem p2imp {R' : α → β → Prop} (h : ∀ a b, R a b → R' a b) : ∀ {xs : List α} {ys : List β}, Paired R xs ys → Paired R' xs ys
  | _, _, .nil => .nil
  | _, _, .cons r t => .cons (h _ _ r) (p2imp h t)
theorem p2none {xs : List α} {ys : List β} {i : Nat} (r : Paired R xs ys) (e : xs[i]? = none) : ys[i]? = none := by
  have h1 := r.length
  have h2 : xs.length ≤ i := List.getElem?_eq_none_iff.mp e
  exact List.getElem?_eq_none_iff.mpr (by omega)
end

/-! ## what stands for what -/
mutual
def Rep (F : Hp) : D → V → Prop
  | .non, v => v = .non
  | .bl b, v => v = .bl b
  | .int i, v => v = .int i
  | .str x, v => v = .str x
  | .tup ds, v => ∃ a xs, v = .ref a ∧ F a = some (.tup xs) ∧ RepL F ds xs
  | .lst ds, v => ∃ a xs, v = .ref a ∧ F a = some (.lst xs) ∧ RepL F ds xs
def RepL (F : Hp) : List D → List V → Prop
  | [], xs => xs = []
  | d :: ds, xs => ∃ v vs, xs = v :: vs ∧ Rep F d v ∧ RepL F ds vs
end
theorem repL_iff {F : Hp} : ∀ {ds : List D} {xs : List V}, RepL F ds xs ↔ Paired (Rep F) ds xs
  | [], xs => by
    rw [RepL]
    exact ⟨fun h => by rw [h]; exact .nil, fun h => by cases h; rfl⟩
  | d :: ds, xs => by
    rw [RepL]
    refine ⟨fun ⟨v, vs, e, r, t⟩ => ?_, fun h => ?_⟩
    · rw [e]
      exact .cons r (repL_iff.mp t)
    · cases h with
      | cons r t => exact ⟨_, _, rfl, r, repL_iff.mpr t⟩
theorem rep_tup {F : Hp} {ds : List D} {v : V} : Rep F (.tup ds) v ↔ ∃ a xs, v = .ref a ∧ F a = some (.tup xs) ∧ Paired (Rep F) ds xs := by
  rw [Rep]
  exact ⟨fun ⟨a, xs, e, h, r⟩ => ⟨a, xs, e, h, repL_iff.mp r⟩, fun ⟨a, xs, e, h, r⟩ => ⟨a, xs, e, h, repL_iff.mpr r⟩⟩
theorem rep_lst {F : Hp} {ds : List D} {v : V} : Rep F (.lst ds) v ↔ ∃ a xs, v = .ref a ∧ F a = some (.lst xs) ∧ Paired (Rep F) ds xs := by
  rw [Rep]
  exact ⟨fun ⟨a, xs, e, h, r⟩ => ⟨a, xs, e, h, repL_iff.mp r⟩, fun ⟨a, xs, e, h, r⟩ => ⟨a, xs, e, h, repL_iff.mpr r⟩⟩
theorem rep_int {F : Hp} {i : Int} {v : V} : Rep F (.int i) v ↔ v = .int i := by rw [Rep]
theorem rep_bl {F : Hp} {i : Bool} {v : V} : Rep F (.bl i) v ↔ v = .bl i := by rw [Rep]
theorem rep_str {F : Hp} {i : Str} {v : V} : Rep F (.str i) v ↔ v = .str i := by rw [Rep]
theorem rep_non {F : Hp} {v : V} : Rep F .non v ↔ v = .non := by rw [Rep]
/-- what a representation leans on: lists and tuples -/
def FSub (F F' : Hp) : Prop := (∀ a xs, F a = some (.lst xs) → F' a = some (.lst xs)) ∧ (∀ a xs, F a = some (.tup xs) → F' a = some (.tup xs))
theorem FSub.of {F F' : Hp} (h : ∀ a o, F a = some o → F' a = some o) : FSub F F' := ⟨fun a xs => h a _, fun a xs => h a _⟩
mutual
theorem Rep.mono {F F' : Hp} (s : FSub F F') : ∀ {d : D} {v : V}, Rep F d v → Rep F' d v
  | .non, v, h => by rw [Rep] at h ⊢; exact h
  | .bl b, v, h => by rw [Rep] at h ⊢; exact h
  | .int i, v, h => by rw [Rep] at h ⊢; exact h
  | .str x, v, h => by rw [Rep] at h ⊢; exact h
  | .tup ds, v, h => by
    rw [Rep] at h ⊢
    obtain ⟨a, xs, e, h1, h2⟩ := h
    exact ⟨a, xs, e, s.2 _ _ h1, RepL.mono s h2⟩
  | .lst ds, v, h => by
    rw [Rep] at h ⊢
    obtain ⟨a, xs, e, h1, h2⟩ := h
    exact ⟨a, xs, e, s.1 _ _ h1, RepL.mono s h2⟩
theorem RepL.mono {F F' : Hp} (s : FSub F F') : ∀ {ds : List D} {xs : List V}, RepL F ds xs → RepL F' ds xs
  | [], xs, h => by rw [RepL] at h ⊢; exact h
  | d :: ds, xs, h => by
    rw [RepL] at h ⊢
    obtain ⟨v, vs, e, h1, h2⟩ := h
    exact ⟨v, vs, e, Rep.mono s h1, RepL.mono s h2⟩
end

/-- the surroundings: the written part, the module's names, the exception that an except suite holds -/
structure Gc where
  K : PySem.W.Frag
  xo : Option (Addr × Nat) := none
/-- the text's classes with their fields in the order in which they are stored; its exceptions, any refusal first -/
def clsTab : List (Str × List Str) := [("Book", ["home", "rates", "names", "entries", "ends", "backs", "deeds"]), ("Rates", ["home", "rows"])]
def excTab : List Str := ["LedgerError", "BadName", "BadCurrency", "BadAmount", "BadDay", "BadNote", "BadRate", "Unbalanced", "Closed", "Taken", "TakenBack", "NoAccount", "NoEntry", "NoRate", "NoPeriod", "TooSmall", "BadText"]
def Gc.cls (G : Gc) (n : Nat) : Option (Addr × List Str) := clsTab[n]?.map fun p => (He.ga G.K p.1, p.2)
def Gc.exc (G : Gc) (n : Nat) : Option Addr := excTab[n]?.map (He.ga G.K)
abbrev Gc.calm (G : Gc) : Gc := { G with xo := none }
def RepW (G : Gc) (F : Hp) (ι : List Addr) : Wv → V → Prop
  | .d x, v => Rep F x v
  | .ref n, v => ∃ a, ι[n]? = some a ∧ v = .ref a
  | .scr ns, v => ∃ a, v = .ref a ∧ SqL G.K F a (ns.map V.int)
  | .exc c, v => ∃ a, G.xo = some (a, c) ∧ v = .ref a
abbrev RepWs (G : Gc) (F : Hp) (ι : List Addr) : List Wv → List V → Prop := Paired (RepW G F ι)
def RepO (G : Gc) (F : Hp) (ι : List Addr) : O → HO → Prop
  | .lst ws, h => ∃ xs, h = .lst xs ∧ RepWs G.calm F ι ws xs
  | .tup ws, h => ∃ xs, h = .tup xs ∧ RepWs G.calm F ι ws xs
  | .dK kvs, h => ∃ l : List (Key × V), h = .dK l ∧ Paired (fun p q => p.1 = q.1 ∧ RepW G.calm F ι p.2 q.2) kvs l
  | .dT kvs, h => ∃ l : List (List Key × V), h = .dT l ∧ Paired (fun p q => p.1 = q.1 ∧ RepW G.calm F ι p.2 q.2) kvs l
  | .ins C ws, h => ∃ Ca fs dx l, h = .ins Ca dx l ∧ G.cls C = some (Ca, fs) ∧ l.map (·.1) = fs.take ws.length ∧ ws.length ≤ fs.length ∧ RepWs G.calm F ι ws (l.map (·.2))
  | .dead, _ => True
/-- the sequence of extensions: what is frozen stays, the addresses of the store's objects stay, what is not ours stays -/
structure Ext (F : Hp) (ι : List Addr) (H F' : Hp) (ι' : List Addr) (H' : Hp) : Prop where
  fz : ∀ a o, F a = some o → F' a = some o
  pre : ∃ t, ι' = ι ++ t
  fr : ∀ b o, H b = some o → b ∉ ι → b ∉ ι' ∧ H' b = some o
  fn : ∀ b o, H b = some o → b ∉ ι → F b = none → F' b = none
theorem Ext.refl (F : Hp) (ι : List Addr) (H : Hp) : Ext F ι H F ι H := ⟨fun _ _ h => h, ⟨[], by simp⟩, fun _ _ h n => ⟨n, h⟩, fun _ _ _ _ h => h⟩
theorem Ext.trans {F F1 F2 : Hp} {ι ι1 ι2 : List Addr} {H H1 H2 : Hp} (a : Ext F ι H F1 ι1 H1) (b : Ext F1 ι1 H1 F2 ι2 H2) : Ext F ι H F2 ι2 H2 := by
  refine ⟨fun c o h => b.fz c o (a.fz c o h), ?_, fun c o h n => ?_, fun c o h n f => ?_⟩
  rotate_right
  · obtain ⟨n1, h1⟩ := a.fr c o h n
    exact b.fn c o h1 n1 (a.fn c o h n f)
  · obtain ⟨t, e⟩ := a.pre
    obtain ⟨u, e'⟩ := b.pre
    exact ⟨t ++ u, by rw [e', e, List.append_assoc]⟩
  · obtain ⟨n1, h1⟩ := a.fr c o h n
    exact b.fr c o h1 n1
theorem ext_ix {ι ι' : List Addr} (h : ∃ t, ι' = ι ++ t) {n : Nat} {a : Addr} (e : ι[n]? = some a) : ι'[n]? = some a := by
  obtain ⟨t, rfl⟩ := h
  rw [List.getElem?_append_left (List.getElem?_eq_some_iff.mp e).1]
  exact e
theorem sqL_mono {K : PySem.W.Frag} {F F' : Hp} (s : ∀ a o, F a = some o → F' a = some o) {a : Addr} {xs : List V} (h : SqL K F a xs) : SqL K F' a xs := by
  rcases h with (h | ⟨o, h⟩) | h
  · exact .inl (.inl (s _ _ h))
  · exact .inl (.inr ⟨o, s _ _ h⟩)
  · exact .inr h
theorem RepW.mono {G : Gc} {F F' : Hp} {ι ι' : List Addr} (s : ∀ a o, F a = some o → F' a = some o) (p : ∃ t, ι' = ι ++ t) : ∀ {w : Wv} {v : V}, RepW G F ι w v → RepW G F' ι' w v
  | .d x, v, h => Rep.mono (.of s) h
  | .ref n, v, ⟨a, h, e⟩ => ⟨a, ext_ix p h, e⟩
  | .scr ns, v, ⟨a, e, h⟩ => ⟨a, e, sqL_mono s h⟩
  | .exc c, v, h => h
theorem RepO.mono {G : Gc} {F F' : Hp} {ι ι' : List Addr} (s : ∀ a o, F a = some o → F' a = some o) (p : ∃ t, ι' = ι ++ t) : ∀ {w : O} {v : HO}, RepO G F ι w v → RepO G F' ι' w v
  | .lst ws, v, ⟨xs, e, r⟩ => ⟨xs, e, p2imp (fun _ _ h => h.mono s p) r⟩
  | .tup ws, v, ⟨xs, e, r⟩ => ⟨xs, e, p2imp (fun _ _ h => h.mono s p) r⟩
  | .dK ws, v, ⟨xs, e, r⟩ => ⟨xs, e, p2imp (fun _ _ h => ⟨h.1, h.2.mono s p⟩) r⟩
  | .dT ws, v, ⟨xs, e, r⟩ => ⟨xs, e, p2imp (fun _ _ h => ⟨h.1, h.2.mono s p⟩) r⟩
  | .ins C ws, v, ⟨c, fs, dx, xs, e, m, k, z, r⟩ => ⟨c, fs, dx, xs, e, m, k, z, p2imp (fun _ _ h => h.mono s p) r⟩
  | .dead, v, _ => trivial
structure Real (G : Gc) (F : Hp) (ι : List Addr) (S : Store) (H : Hp) : Prop where
  len : ι.length = S.length
  frz : ∀ a o, F a = some o → H a = some o
  nd : ι.Nodup
  trk : ∀ a, a ∈ ι → ∃ o, H a = some o
  at_ : ∀ (n : Nat) (a : Addr) (o : O), ι[n]? = some a → S[n]? = some o → o ≠ .dead → F a = none ∧ ∃ h, H a = some h ∧ RepO G F ι o h
theorem Real.calm {G : Gc} {F : Hp} {ι : List Addr} {S : Store} {H : Hp} (r : Real G F ι S H) : Real G.calm F ι S H :=
  ⟨r.len, r.frz, r.nd, r.trk, fun n a o h1 h2 h3 => by
    obtain ⟨x, h, y, z⟩ := r.at_ n a o h1 h2 h3
    exact ⟨x, h, y, by cases o <;> exact z⟩⟩
theorem Real.to {G G' : Gc} (hK : G.K = G'.K) {F : Hp} {ι : List Addr} {S : Store} {H : Hp} (r : Real G F ι S H) : Real G' F ι S H := by
  obtain ⟨K, xo⟩ := G
  obtain ⟨K', xo'⟩ := G'
  cases hK
  exact ⟨r.len, r.frz, r.nd, r.trk, fun n a o h1 h2 h3 => by
    obtain ⟨x, h, y, z⟩ := r.at_ n a o h1 h2 h3
    exact ⟨x, h, y, by cases o <;> exact z⟩⟩
section
variable {G : Gc} {F : Hp} {ι : List Addr} {S : Store} {H : Hp} {p : Addr} {o : HO}
theorem Real.fnone (r : Real G F ι S H) (h : H p = none) : F p = none := by
  cases e : F p with
  | none => rfl
  | some u => rw [r.frz _ _ e] at h; cases h
theorem fz_new (hF : F p = none) : ∀ a u, F a = some u → (upd F p o) a = some u := fun a u e => by
  rw [upd_ne (ne_of_none e hF)]; exact e
theorem Real.notin (r : Real G F ι S H) (h : H p = none) : p ∉ ι := fun hm => by
  obtain ⟨u, e⟩ := r.trk p hm
  rw [e] at h; cases h
/-- a new frozen object -/
theorem Real.newF (r : Real G F ι S H) (h : H p = none) : Real G (upd F p o) ι S (upd H p o) := by
  have hF := r.fnone h
  refine ⟨r.len, fun a u e => ?_, r.nd, fun a ha => ?_, fun n a u e1 e2 e3 => ?_⟩
  · by_cases hp : a = p
    · subst hp; rw [upd_same] at e ⊢; exact e
    · rw [upd_ne hp] at e ⊢; exact r.frz _ _ e
  · obtain ⟨u, e⟩ := r.trk a ha
    exact ⟨u, by rw [upd_ne (ne_of_none e h)]; exact e⟩
  · obtain ⟨x, hh, y, z⟩ := r.at_ n a u e1 e2 e3
    have np : a ≠ p := ne_of_none y h
    exact ⟨by rw [upd_ne np]; exact x, hh, by rw [upd_ne np]; exact y, z.mono (fz_new hF) ⟨[], by simp⟩⟩
theorem Ext.newF (r : Real G F ι S H) (h : H p = none) : Ext F ι H (upd F p o) ι (upd H p o) :=
  ⟨fz_new (r.fnone h), ⟨[], by simp⟩, fun b u e n => ⟨n, by rw [upd_ne (ne_of_none e h)]; exact e⟩, fun b u e n f => by rw [upd_ne (ne_of_none e h)]; exact f⟩
/-- a new object of the store -/
theorem Real.newS {q : O} (r : Real G F ι S H) (h : H p = none) (ro : RepO G F (ι ++ [p]) q o) : Real G F (ι ++ [p]) (S ++ [q]) (upd H p o) := by
  have hF := r.fnone h
  have hni := r.notin h
  refine ⟨by simp [r.len], fun a u e => by rw [upd_ne (ne_of_none e hF)]; exact r.frz _ _ e, ?_, fun a ha => ?_, fun n a u e1 e2 e3 => ?_⟩
  · rw [List.nodup_append]
    refine ⟨r.nd, by simp, fun a ha b hb => ?_⟩
    have hb' : b = p := by simpa using hb
    rw [hb']
    exact fun z => hni (z ▸ ha)
  · by_cases hp : a = p
    · exact ⟨o, by rw [hp, upd_same]⟩
    · have : a ∈ ι := by
        rcases List.mem_append.mp ha with z | z
        · exact z
        · exact absurd (by simpa using z) hp
      obtain ⟨u, e⟩ := r.trk a this
      exact ⟨u, by rw [upd_ne hp]; exact e⟩
  · by_cases hn : n < ι.length
    · rw [List.getElem?_append_left hn] at e1
      rw [List.getElem?_append_left (by rw [← r.len]; exact hn)] at e2
      obtain ⟨x, hh, y, z⟩ := r.at_ n a u e1 e2 e3
      exact ⟨x, hh, by rw [upd_ne (ne_of_none y h)]; exact y, z.mono (fun _ _ q => q) ⟨[p], rfl⟩⟩
    · have hl : n < (ι ++ [p]).length := (List.getElem?_eq_some_iff.mp e1).1
      have en : n = ι.length := by simp at hl; omega
      subst en
      rw [List.getElem?_append_right (Nat.le_refl _)] at e1
      rw [List.getElem?_append_right (by rw [r.len]; exact Nat.le_refl _)] at e2
      simp [r.len] at e1 e2
      subst e1 e2
      exact ⟨hF, o, upd_same, ro⟩
theorem Ext.newS (r : Real G F ι S H) (h : H p = none) : Ext F ι H F (ι ++ [p]) (upd H p o) :=
  ⟨fun _ _ e => e, ⟨[p], rfl⟩, fun b u e n => by
    have np := ne_of_none e h
    exact ⟨by simp [n, np], by rw [upd_ne np]; exact e⟩, fun _ _ _ _ f => f⟩
/-- an object of the store is written -/
theorem Real.put {n : Nat} {q q' : O} (r : Real G F ι S H) (e1 : ι[n]? = some p) (e2 : S[n]? = some q) (e3 : q ≠ .dead) (ro : RepO G F ι q' o) : Real G F ι (S.set n q') (upd H p o) := by
  obtain ⟨hF, h0, hh, _⟩ := r.at_ n p q e1 e2 e3
  have hn : n < S.length := (List.getElem?_eq_some_iff.mp e2).1
  refine ⟨by simp [r.len], fun a u e => by rw [upd_ne (ne_of_none e hF)]; exact r.frz _ _ e, r.nd, fun a ha => ?_, fun m a u f1 f2 f3 => ?_⟩
  · by_cases hp : a = p
    · exact ⟨o, by rw [hp, upd_same]⟩
    · obtain ⟨u, e⟩ := r.trk a ha
      exact ⟨u, by rw [upd_ne hp]; exact e⟩
  · by_cases hm : m = n
    · subst hm
      rw [List.getElem?_set_self hn] at f2
      rw [e1] at f1
      cases f1; cases f2
      exact ⟨hF, o, upd_same, ro⟩
    · rw [List.getElem?_set_ne (Ne.symm hm)] at f2
      obtain ⟨x, h1, y, z⟩ := r.at_ m a u f1 f2 f3
      have np : a ≠ p := fun e => by
        subst e
        have l1 := (List.getElem?_eq_some_iff.mp f1)
        have l2 := (List.getElem?_eq_some_iff.mp e1)
        obtain ⟨l1, g1⟩ := l1
        obtain ⟨l2, g2⟩ := l2
        exact hm ((List.getElem_inj r.nd).mp (g1.trans g2.symm))
      exact ⟨x, h1, by rw [upd_ne np]; exact y, z⟩
theorem Ext.put {n : Nat} (e1 : ι[n]? = some p) : Ext F ι H F ι (upd H p o) :=
  ⟨fun _ _ e => e, ⟨[], by simp⟩, fun b u e n => ⟨n, by
    have : b ≠ p := fun z => n (by rw [z]; exact List.mem_of_getElem? e1)
    rw [upd_ne this]; exact e⟩, fun _ _ _ _ f => f⟩
/-- a list of the store is frozen -/
theorem Real.freeze {n : Nat} {q : O} (r : Real G F ι S H) (e1 : ι[n]? = some p) (e2 : S[n]? = some q) (e3 : q ≠ .dead) (hp : H p = some o) : Real G (upd F p o) ι (S.set n .dead) H := by
  obtain ⟨hF, h0, hh, _⟩ := r.at_ n p q e1 e2 e3
  have hn : n < S.length := (List.getElem?_eq_some_iff.mp e2).1
  refine ⟨by simp [r.len], fun a u e => ?_, r.nd, r.trk, fun m a u f1 f2 f3 => ?_⟩
  · by_cases ha : a = p
    · subst ha; rw [upd_same] at e; cases e; exact hp
    · rw [upd_ne ha] at e; exact r.frz _ _ e
  · by_cases hm : m = n
    · subst hm
      rw [List.getElem?_set_self hn] at f2
      cases f2
      exact absurd rfl f3
    · rw [List.getElem?_set_ne (Ne.symm hm)] at f2
      obtain ⟨x, h1, y, z⟩ := r.at_ m a u f1 f2 f3
      have np : a ≠ p := fun e => by
        subst e
        obtain ⟨l1, g1⟩ := List.getElem?_eq_some_iff.mp f1
        obtain ⟨l2, g2⟩ := List.getElem?_eq_some_iff.mp e1
        exact hm ((List.getElem_inj r.nd).mp (g1.trans g2.symm))
      exact ⟨by rw [upd_ne np]; exact x, h1, y, z.mono (fz_new hF) ⟨[], by simp⟩⟩
theorem Ext.freeze {n : Nat} {q : O} (r : Real G F ι S H) (e1 : ι[n]? = some p) (e2 : S[n]? = some q) (e3 : q ≠ .dead) : Ext F ι H (upd F p o) ι H :=
  ⟨fz_new (r.at_ n p q e1 e2 e3).1, ⟨[], by simp⟩, fun b u e n => ⟨n, e⟩, fun b u e n f => by
    have : b ≠ p := fun z => n (by rw [z]; exact List.mem_of_getElem? e1)
    rw [upd_ne this]; exact f⟩
/-- an object that is neither frozen nor the store's is written -/
theorem Real.other (r : Real G F ι S H) (hF : F p = none) (hi : p ∉ ι) : Real G F ι S (upd H p o) := by
  refine ⟨r.len, fun a u e => by rw [upd_ne (ne_of_none e hF)]; exact r.frz _ _ e, r.nd, fun a ha => ?_, fun n a u e1 e2 e3 => ?_⟩
  · have np : a ≠ p := fun z => hi (z ▸ ha)
    obtain ⟨u, e⟩ := r.trk a ha
    exact ⟨u, by rw [upd_ne np]; exact e⟩
  · have np : a ≠ p := fun z => hi (z ▸ List.mem_of_getElem? e1)
    obtain ⟨x, hh, y, z⟩ := r.at_ n a u e1 e2 e3
    exact ⟨x, hh, by rw [upd_ne np]; exact y, z⟩
/-- such an object is frozen -/
theorem Real.toF (r : Real G F ι S H) (hp : H p = some o) (hF : F p = none) (hi : p ∉ ι) : Real G (upd F p o) ι S H := by
  refine ⟨r.len, fun a u e => ?_, r.nd, r.trk, fun n a u e1 e2 e3 => ?_⟩
  · by_cases ha : a = p
    · subst ha; rw [upd_same] at e; cases e; exact hp
    · rw [upd_ne ha] at e; exact r.frz _ _ e
  · have np : a ≠ p := fun z => hi (z ▸ List.mem_of_getElem? e1)
    obtain ⟨x, hh, y, z⟩ := r.at_ n a u e1 e2 e3
    exact ⟨by rw [upd_ne np]; exact x, hh, y, z.mono (fz_new hF) ⟨[], by simp⟩⟩
/-- .. or joins the store -/
theorem Real.toS {q : O} (r : Real G F ι S H) (hp : H p = some o) (hF : F p = none) (hi : p ∉ ι) (ro : RepO G F (ι ++ [p]) q o) : Real G F (ι ++ [p]) (S ++ [q]) H := by
  refine ⟨by simp [r.len], r.frz, ?_, fun a ha => ?_, fun n a u e1 e2 e3 => ?_⟩
  · rw [List.nodup_append]
    refine ⟨r.nd, by simp, fun a ha b hb => ?_⟩
    have hb' : b = p := by simpa using hb
    rw [hb']
    exact fun z => hi (z ▸ ha)
  · rcases List.mem_append.mp ha with z | z
    · exact r.trk a z
    · have : a = p := by simpa using z
      exact ⟨o, by rw [this]; exact hp⟩
  · by_cases hn : n < ι.length
    · rw [List.getElem?_append_left hn] at e1
      rw [List.getElem?_append_left (by rw [← r.len]; exact hn)] at e2
      obtain ⟨x, hh, y, z⟩ := r.at_ n a u e1 e2 e3
      exact ⟨x, hh, y, z.mono (fun _ _ q => q) ⟨[p], rfl⟩⟩
    · have hl : n < (ι ++ [p]).length := (List.getElem?_eq_some_iff.mp e1).1
      have en : n = ι.length := by simp at hl; omega
      subst en
      rw [List.getElem?_append_right (Nat.le_refl _)] at e1
      rw [List.getElem?_append_right (by rw [r.len]; exact Nat.le_refl _)] at e2
      simp [r.len] at e1 e2
      subst e1 e2
      exact ⟨hF, o, hp, ro⟩
end

/-! ## the environment -/
structure REnv (G : Gc) (F : Hp) (ι : List Addr) (σ : St) (ρ : Env) : Prop where
  len : σ.length = ρ.length
  at_ : ∀ (i : Nat) (w : Wv), ρ[i]? = some (some w) → ∃ v, σ[i]? = some (some v) ∧ RepW G F ι w v
theorem REnv.mono {G : Gc} {F F' : Hp} {ι ι' : List Addr} {σ : St} {ρ : Env} (s : ∀ a o, F a = some o → F' a = some o) (p : ∃ t, ι' = ι ++ t) (r : REnv G F ι σ ρ) : REnv G F' ι' σ ρ :=
  ⟨r.len, fun i w e => by
    obtain ⟨v, h, q⟩ := r.at_ i w e
    exact ⟨v, h, q.mono s p⟩⟩
theorem REnv.ext {G : Gc} {F F' : Hp} {ι ι' : List Addr} {H H' : Hp} {σ : St} {ρ : Env} (r : REnv G F ι σ ρ) (x : Ext F ι H F' ι' H') : REnv G F' ι' σ ρ := r.mono x.fz x.pre
theorem RepW.ext {G : Gc} {F F' : Hp} {ι ι' : List Addr} {H H' : Hp} {w : Wv} {v : V} (r : RepW G F ι w v) (x : Ext F ι H F' ι' H') : RepW G F' ι' w v := r.mono x.fz x.pre
theorem REnv.set {G : Gc} {F : Hp} {ι : List Addr} {σ : St} {ρ : Env} {w : Wv} {v : V} (i : Nat) (r : REnv G F ι σ ρ) (q : RepW G F ι w v) : REnv G F ι (σ.set i (some v)) (ρ.set i (some w)) := by
  refine ⟨by simp [r.len], fun j u e => ?_⟩
  by_cases hj : i = j
  · subst hj
    have hi : i < (ρ.set i (some w)).length := (List.getElem?_eq_some_iff.mp e).1
    rw [List.length_set] at hi
    rw [List.getElem?_set_self hi] at e
    cases e
    exact ⟨v, List.getElem?_set_self (by rw [r.len]; exact hi), q⟩
  · rw [List.getElem?_set_ne hj] at e
    obtain ⟨x, h, y⟩ := r.at_ j u e
    exact ⟨x, by rw [List.getElem?_set_ne hj]; exact h, y⟩
theorem REnv.unset {G : Gc} {F : Hp} {ι : List Addr} {σ : St} {ρ : Env} (i : Nat) (r : REnv G F ι σ ρ) : REnv G F ι (σ.set i none) (ρ.set i none) := by
  refine ⟨by simp [r.len], fun j u e => ?_⟩
  by_cases hj : i = j
  · subst hj
    have hi : i < (ρ.set i none).length := (List.getElem?_eq_some_iff.mp e).1
    rw [List.length_set] at hi
    rw [List.getElem?_set_self hi] at e
    cases e
  · rw [List.getElem?_set_ne hj] at e
    obtain ⟨x, h, y⟩ := r.at_ j u e
    exact ⟨x, by rw [List.getElem?_set_ne hj]; exact h, y⟩

/-! ## what is wanted behind a result -/
def Post {α : Type} (G : Gc) (W : WX) (F : Hp) (ι : List Addr) (H : Hp) (σ : St) (r : Res α) (Q : Hp → List Addr → Hp → α → Store → Prop) : Prop :=
  match r with
  | .ok a S' => ∀ F' ι' H', Ext F ι H F' ι' H' → Real G F' ι' S' H' → Q F' ι' H' a S'
  | .rz c S' => ∀ F' ι' H' Ca, Ext F ι H F' ι' H' → Real G F' ι' S' H' → G.exc c = some Ca → W (.ref Ca) none σ H'
  | .no => False
theorem Post.ext {α : Type} {G : Gc} {W : WX} {F F1 : Hp} {ι ι1 : List Addr} {H H1 : Hp} {σ : St} {r : Res α} {Q : Hp → List Addr → Hp → α → Store → Prop} (x : Ext F ι H F1 ι1 H1) (h : Post G W F ι H σ r Q) : Post G W F1 ι1 H1 σ r Q := by
  cases r with
  | ok a S' => exact fun F' ι' H' y => h F' ι' H' (x.trans y)
  | rz c S' => exact fun F' ι' H' Ca y => h F' ι' H' Ca (x.trans y)
  | no => exact h
theorem Post.bind {α β : Type} {G : Gc} {W : WX} {F : Hp} {ι : List Addr} {H : Hp} {σ : St} {r : Res α} {k : α → Store → Res β} {Q : Hp → List Addr → Hp → β → Store → Prop} (h : Post G W F ι H σ (r.bind k) Q) :
    Post G W F ι H σ r fun F1 ι1 H1 a S1 => Post G W F1 ι1 H1 σ (k a S1) Q := by
  cases r with
  | ok a S' => exact fun F' ι' H' y _ => Post.ext y (show Post G W F ι H σ (k a S') Q from h)
  | rz c S' => exact h
  | no => exact h
theorem Post.mono {α : Type} {G : Gc} {W : WX} {F : Hp} {ι : List Addr} {H : Hp} {σ : St} {r : Res α} {Q Q' : Hp → List Addr → Hp → α → Store → Prop} (h : Post G W F ι H σ r Q)
    (hq : ∀ F' ι' H' a S', Ext F ι H F' ι' H' → Real G F' ι' S' H' → Q F' ι' H' a S' → Q' F' ι' H' a S') : Post G W F ι H σ r Q' := by
  cases r with
  | ok a S' => exact fun F' ι' H' y z => hq F' ι' H' a S' y z (h F' ι' H' y z)
  | rz c S' => exact h
  | no => exact h
/-- at an answer that is there -/
theorem Post.now {α : Type} {G : Gc} {W : WX} {F F' : Hp} {ι ι' : List Addr} {H H' : Hp} {σ : St} {a : α} {S' : Store} {Q : Hp → List Addr → Hp → α → Store → Prop} (h : Post G W F ι H σ (.ok a S') Q) (x : Ext F ι H F' ι' H') (r : Real G F' ι' S' H') :
    Q F' ι' H' a S' := h F' ι' H' x r

/-! ## judgements -/
abbrev PostE (G : Gc) (W : WX) (F : Hp) (ι : List Addr) (H : Hp) (σ : St) (r : Res Wv) (Q : VK) : Prop := Post G W F ι H σ r fun F' ι' H' w _ => ∀ v, RepW G F' ι' w v → Q v H'
def TEo (G : Gc) (W : WX) (f : Ev) : TE := fun σ H Q => ∃ F ι S ρ, Real G F ι S H ∧ REnv G F ι σ ρ ∧ PostE G W F ι H σ (f ρ S) Q
def TTo (G : Gc) (W : WX) (f : Env → Store → Res Bool) : TT := fun σ H Q => ∃ F ι S ρ, Real G F ι S H ∧ REnv G F ι σ ρ ∧ Post G W F ι H σ (f ρ S) fun _ _ H' b _ => Q b H'
def TAo (G : Gc) (W : WX) (f : Env → Store → Res (List Wv)) : TA := fun σ H Q => ∃ F ι S ρ, Real G F ι S H ∧ REnv G F ι σ ρ ∧ Post G W F ι H σ (f ρ S) fun F' ι' H' ws _ => ∀ vs, RepWs G F' ι' ws vs → Q vs H'
abbrev gc (X : Cx) (xo : Option (Addr × Nat)) : Gc := ⟨X.K, xo⟩
structure DE (X : Cx) (xo : Option (Addr × Nat)) (e : Expr) (f : Ev) : Prop where
  run : ∀ W, L2N.Takes X W → PE X e (TEo (gc X xo) W f)
structure DT (X : Cx) (xo : Option (Addr × Nat)) (e : Expr) (f : Env → Store → Res Bool) : Prop where
  run : ∀ W, L2N.Takes X W → PT X e (TTo (gc X xo) W f)
structure DW (X : Cx) (xo : Option (Addr × Nat)) (e : Expr) (f : Env → Store → Res Bool) : Prop where
  run : ∀ W, L2N.Takes X W → PW X e (TTo (gc X xo) W f)
structure DA (X : Cx) (xo : Option (Addr × Nat)) (es : List Expr) (f : Env → Store → Res (List Wv)) : Prop where
  run : ∀ W, L2N.Takes X W → PA X es (TAo (gc X xo) W f)
section
variable {X : Cx} {xo : Option (Addr × Nat)}
theorem pe_imp {e : Expr} {t t' : TE} (h : PE X e t) (i : ∀ σ H Q, t' σ H Q → t σ H Q) : PE X e t' := ⟨fun pins s σ H Q I q => h.run pins s σ H Q I (i σ H Q q)⟩
theorem pt_imp {e : Expr} {t t' : TT} (h : PT X e t) (i : ∀ σ H Q, t' σ H Q → t σ H Q) : PT X e t' := ⟨fun pins s σ H Q I q => h.run pins s σ H Q I (i σ H Q q)⟩
theorem pw_imp {e : Expr} {t t' : TT} (h : PW X e t) (i : ∀ σ H Q, t' σ H Q → t σ H Q) : PW X e t' := ⟨fun wh pins s σ H Q I q => h.run wh pins s σ H Q I (i σ H Q q)⟩
theorem pa_imp {e : List Expr} {t t' : TA} (h : PA X e t) (i : ∀ σ H Q, t' σ H Q → t σ H Q) : PA X e t' := ⟨fun po pins s σ H Q I q => h.run po pins s σ H Q I (i σ H Q q)⟩
theorem ps_imp {e : Stmt} {t t' : TS} (h : PS X e t) (i : ∀ D σ H, t' D σ H → t D σ H) : PS X e t' := ⟨fun pins s σ H D I q => h.run pins s σ H D I (i D σ H q)⟩
theorem pss_imp {e : List Stmt} {t t' : TS} (h : PSs X e t) (i : ∀ D σ H, t' D σ H → t D σ H) : PSs X e t' := ⟨fun pins s σ H D I q => h.run pins s σ H D I (i D σ H q)⟩

/-! ## names, constants -/
def evVar (i : Nat) : Ev := fun ρ S => match ρ[i]? with
  | some (some w) => .ok w S
  | _ => .no
def evC (x : D) : Ev := fun _ S => .ok (.d x) S
theorem de_var {i : Nat} {e : Expr} (h : PE X e (tVar i)) : DE X xo e (evVar i) := ⟨fun W tk => pe_imp h fun σ H Q ⟨F, ι, S, ρ, r, en, p⟩ => by
  unfold evVar at p
  split at p
  · rename_i w e1
    obtain ⟨v, e2, q⟩ := en.at_ i w e1
    exact ⟨v, e2, p.now (.refl _ _ _) r v q⟩
  · exact p.elim⟩
theorem de_c {e : Expr} {x : D} {v : V} (h : PE X e (tC v)) (hr : ∀ F, Rep F x v) : DE X xo e (evC x) := ⟨fun W tk => pe_imp h fun σ H Q ⟨F, ι, S, ρ, r, en, p⟩ => p.now (.refl _ _ _) r v (hr F)⟩
theorem de_int {i : Int} {j pos} : DE X xo (.Constant (.int i) j pos) (evC (.int i)) := de_c pe_int fun F => rep_int.mpr rfl
theorem de_bl {i : Bool} {j pos} : DE X xo (.Constant (.bool i) j pos) (evC (.bl i)) := de_c pe_bl fun F => rep_bl.mpr rfl
theorem de_non {j pos} : DE X xo (.Constant .none j pos) (evC .non) := de_c pe_non fun F => rep_non.mpr rfl
theorem de_str {i : Str} {j pos} : DE X xo (.Constant (.str i) j pos) (evC (.str i)) := de_c pe_str fun F => rep_str.mpr rfl
theorem de_gint {x : Str} {i : Int} {t : Tok} {pos : Pos} (hg : Gl X x) (hm : X.mg x = some (.int i t)) (hd : (x == ("__debug__" : Str)) = false := by decide) : DE X xo (.Name x pos) (evC (.int i)) := de_c (pe_glob (v := .int i) hg hm ⟨_, rfl⟩ hd) fun F => rep_int.mpr rfl
theorem de_gstr {x : Str} {i : Str} {t : Tok} {pos : Pos} (hg : Gl X x) (hm : X.mg x = some (.str i t)) (hd : (x == ("__debug__" : Str)) = false := by decide) : DE X xo (.Name x pos) (evC (.str i)) := de_c (pe_glob (v := .str i) hg hm ⟨_, rfl⟩ hd) fun F => rep_str.mpr rfl

/-! ## operators by values -/
def evBin (g : Wv → Wv → Store → Res Wv) (fa fb : Ev) : Ev := fun ρ S => (fa ρ S).bind fun x S1 => (fb ρ S1).bind fun y S2 => g x y S2
def evUn (g : Wv → Store → Res Wv) (fa : Ev) : Ev := fun ρ S => (fa ρ S).bind fun x S1 => g x S1
/-- an operator's rule gives what g says -/
def Op2 (G : Gc) (r : R2) (g : Wv → Wv → Store → Res Wv) : Prop :=
  ∀ (W : WX) (F : Hp) (ι : List Addr) (S : Store) (H : Hp) (σ : St) (x y : V) (w u : Wv) (Q : VK), Real G F ι S H → RepW G F ι w x → RepW G F ι u y → PostE G W F ι H σ (g w u S) Q → r x y H Q
def Op1 (G : Gc) (r : V → Hp → VK → Prop) (g : Wv → Store → Res Wv) : Prop :=
  ∀ (W : WX) (F : Hp) (ι : List Addr) (S : Store) (H : Hp) (σ : St) (x : V) (w : Wv) (Q : VK), Real G F ι S H → RepW G F ι w x → PostE G W F ι H σ (g w S) Q → r x H Q
def OpN (G : Gc) (r : List V → Hp → VK → Prop) (g : List Wv → Store → Res Wv) : Prop :=
  ∀ (W : WX) (F : Hp) (ι : List Addr) (S : Store) (H : Hp) (σ : St) (xs : List V) (ws : List Wv) (Q : VK), Real G F ι S H → RepWs G F ι ws xs → PostE G W F ι H σ (g ws S) Q → r xs H Q
/-- from the reading of one part to the next -/
theorem TEo.step {G : Gc} {W : WX} {f : Ev} {β : Type} {k : Wv → Store → Res β} {σ : St} {H : Hp} {F : Hp} {ι : List Addr} {S : Store} {ρ : Env} {Qb : Hp → List Addr → Hp → β → Store → Prop} {R : V → Hp → Prop} (r : Real G F ι S H) (en : REnv G F ι σ ρ)
    (p : Post G W F ι H σ ((f ρ S).bind k) Qb)
    (n : ∀ F1 ι1 S1 H1 w v, Ext F ι H F1 ι1 H1 → Real G F1 ι1 S1 H1 → REnv G F1 ι1 σ ρ → RepW G F1 ι1 w v → Post G W F1 ι1 H1 σ (k w S1) Qb → R v H1) : TEo G W f σ H R :=
  ⟨F, ι, S, ρ, r, en, p.bind.mono fun F1 ι1 H1 w S1 x r1 q v hv => n F1 ι1 S1 H1 w v x r1 (en.ext x) hv q⟩
theorem TTo.step {G : Gc} {W : WX} {f : Env → Store → Res Bool} {β : Type} {k : Bool → Store → Res β} {σ : St} {H : Hp} {F : Hp} {ι : List Addr} {S : Store} {ρ : Env} {Qb : Hp → List Addr → Hp → β → Store → Prop} {R : Bool → Hp → Prop} (r : Real G F ι S H) (en : REnv G F ι σ ρ)
    (p : Post G W F ι H σ ((f ρ S).bind k) Qb)
    (n : ∀ F1 ι1 S1 H1 b, Ext F ι H F1 ι1 H1 → Real G F1 ι1 S1 H1 → REnv G F1 ι1 σ ρ → Post G W F1 ι1 H1 σ (k b S1) Qb → R b H1) : TTo G W f σ H R :=
  ⟨F, ι, S, ρ, r, en, p.bind.mono fun F1 ι1 H1 w S1 x r1 q => n F1 ι1 S1 H1 w x r1 (en.ext x) q⟩
theorem TAo.step {G : Gc} {W : WX} {f : Env → Store → Res (List Wv)} {β : Type} {k : List Wv → Store → Res β} {σ : St} {H : Hp} {F : Hp} {ι : List Addr} {S : Store} {ρ : Env} {Qb : Hp → List Addr → Hp → β → Store → Prop} {R : List V → Hp → Prop} (r : Real G F ι S H) (en : REnv G F ι σ ρ)
    (p : Post G W F ι H σ ((f ρ S).bind k) Qb)
    (n : ∀ F1 ι1 S1 H1 ws vs, Ext F ι H F1 ι1 H1 → Real G F1 ι1 S1 H1 → REnv G F1 ι1 σ ρ → RepWs G F1 ι1 ws vs → Post G W F1 ι1 H1 σ (k ws S1) Qb → R vs H1) : TAo G W f σ H R :=
  ⟨F, ι, S, ρ, r, en, p.bind.mono fun F1 ι1 H1 w S1 x r1 q v hv => n F1 ι1 S1 H1 w v x r1 (en.ext x) hv q⟩
theorem de_op2 {e a b : Expr} {r : R2} {fa fb : Ev} {g : Wv → Wv → Store → Res Wv} (rule : ∀ {ta tb : TE}, PE X a ta → PE X b tb → PE X e (tOp r ta tb)) (o : Op2 (gc X xo) r g) (ha : DE X xo a fa) (hb : DE X xo b fb) : DE X xo e (evBin g fa fb) :=
  ⟨fun W tk => pe_imp (rule (ha.run W tk) (hb.run W tk)) fun σ H Q ⟨F, ι, S, ρ, rl, en, p⟩ =>
    TEo.step rl en p fun F1 ι1 S1 H1 w v x1 r1 en1 hv p1 => TEo.step r1 en1 p1 fun F2 ι2 S2 H2 u y x2 r2 en2 hy p2 => o W F2 ι2 S2 H2 σ v y w u Q r2 (hv.ext x2) hy p2⟩
theorem de_op1 {e a : Expr} {r : V → Hp → VK → Prop} {fa : Ev} {g : Wv → Store → Res Wv} (rule : ∀ {ta : TE}, PE X a ta → PE X e (tUn r ta)) (o : Op1 (gc X xo) r g) (ha : DE X xo a fa) : DE X xo e (evUn g fa) :=
  ⟨fun W tk => pe_imp (rule (ha.run W tk)) fun σ H Q ⟨F, ι, S, ρ, rl, en, p⟩ => TEo.step rl en p fun F1 ι1 S1 H1 w v x1 r1 en1 hv p1 => o W F1 ι1 S1 H1 σ v w Q r1 hv p1⟩
/-- arguments -/
def evNil : Env → Store → Res (List Wv) := fun _ S => .ok [] S
def evCons (fa : Ev) (fr : Env → Store → Res (List Wv)) : Env → Store → Res (List Wv) := fun ρ S => (fa ρ S).bind fun x S1 => (fr ρ S1).bind fun xs S2 => .ok (x :: xs) S2
theorem da_nil : DA X xo [] evNil := ⟨fun W tk => pa_imp pa_nil fun σ H Q ⟨F, ι, S, ρ, rl, en, p⟩ => p.now (.refl _ _ _) rl [] .nil⟩
theorem da_cons {e : Expr} {es : List Expr} {fa : Ev} {fr : Env → Store → Res (List Wv)} (ha : DE X xo e fa) (hr : DA X xo es fr) (hs : starEach (e :: es) X.env = (false, eval e X.env) :: starEach es X.env := by rfl) : DA X xo (e :: es) (evCons fa fr) :=
  ⟨fun W tk => pa_imp (pa_cons (ha.run W tk) (hr.run W tk) hs) fun σ H Q ⟨F, ι, S, ρ, rl, en, p⟩ =>
    TEo.step rl en p fun F1 ι1 S1 H1 w v x1 r1 en1 hv p1 => TAo.step r1 en1 p1 fun F2 ι2 S2 H2 u y x2 r2 en2 hy p2 => p2.now (.refl _ _ _) r2 _ (.cons (hv.ext x2) hy)⟩
end
end DL

/-! equality of plain data; printed by gen_eq.py -/
namespace DL
open PySem PySem.Spec PyProof.Rows L2
mutual
def D.dep : D → Nat
  | .tup ds => depAll ds + 1
  | .lst ds => depAll ds + 1
  | .non => 0
  | .bl _ => 0
  | .int _ => 0
  | .str _ => 0
def depAll : List D → Nat
  | [] => 0
  | d :: ds => max d.dep (depAll ds)
end
mutual
def eqD : D → D → Bool
  | .non, .non => true
  | .bl a, .bl b => a == b
  | .bl a, .int j => (if a then 1 else 0) == j
  | .int i, .bl b => i == (if b then 1 else 0)
  | .int i, .int j => i == j
  | .str x, .str y => x == y
  | .lst xs, .lst ys => eqDs xs ys
  | .tup xs, .tup ys => eqDs xs ys
  | _, _ => false
def eqDs : List D → List D → Bool
  | [], [] => true
  | x :: xs, y :: ys => eqD x y && eqDs xs ys
  | _, _ => false
end
mutual
theorem rep_inj {F : Hp} : ∀ {d e : D} {v : V}, Rep F d v → Rep F e v → d = e
  | .non, .non, v, h, g => by
    obtain rfl := rep_non.mp h
    have e := rep_non.mp g
    rfl
  | .non, .bl y, v, h, g => by
    obtain rfl := rep_non.mp h
    have e := rep_bl.mp g
    cases e
  | .non, .int y, v, h, g => by
    obtain rfl := rep_non.mp h
    have e := rep_int.mp g
    cases e
  | .non, .str y, v, h, g => by
    obtain rfl := rep_non.mp h
    have e := rep_str.mp g
    cases e
  | .non, .lst y, v, h, g => by
    obtain rfl := rep_non.mp h
    obtain ⟨l', ys, e, q', p'⟩ := rep_lst.mp g
    cases e
  | .non, .tup y, v, h, g => by
    obtain rfl := rep_non.mp h
    obtain ⟨l', ys, e, q', p'⟩ := rep_tup.mp g
    cases e
  | .bl x, .non, v, h, g => by
    obtain rfl := rep_bl.mp h
    have e := rep_non.mp g
    cases e
  | .bl x, .bl y, v, h, g => by
    obtain rfl := rep_bl.mp h
    have e := rep_bl.mp g
    cases e
    rfl
  | .bl x, .int y, v, h, g => by
    obtain rfl := rep_bl.mp h
    have e := rep_int.mp g
    cases e
  | .bl x, .str y, v, h, g => by
    obtain rfl := rep_bl.mp h
    have e := rep_str.mp g
    cases e
  | .bl x, .lst y, v, h, g => by
    obtain rfl := rep_bl.mp h
    obtain ⟨l', ys, e, q', p'⟩ := rep_lst.mp g
    cases e
  | .bl x, .tup y, v, h, g => by
    obtain rfl := rep_bl.mp h
    obtain ⟨l', ys, e, q', p'⟩ := rep_tup.mp g
    cases e
  | .int x, .non, v, h, g => by
    obtain rfl := rep_int.mp h
    have e := rep_non.mp g
    cases e
  | .int x, .bl y, v, h, g => by
    obtain rfl := rep_int.mp h
    have e := rep_bl.mp g
    cases e
  | .int x, .int y, v, h, g => by
    obtain rfl := rep_int.mp h
    have e := rep_int.mp g
    cases e
    rfl
  | .int x, .str y, v, h, g => by
    obtain rfl := rep_int.mp h
    have e := rep_str.mp g
    cases e
  | .int x, .lst y, v, h, g => by
    obtain rfl := rep_int.mp h
    obtain ⟨l', ys, e, q', p'⟩ := rep_lst.mp g
    cases e
  | .int x, .tup y, v, h, g => by
    obtain rfl := rep_int.mp h
    obtain ⟨l', ys, e, q', p'⟩ := rep_tup.mp g
    cases e
  | .str x, .non, v, h, g => by
    obtain rfl := rep_str.mp h
    have e := rep_non.mp g
    cases e
  | .str x, .bl y, v, h, g => by
    obtain rfl := rep_str.mp h
    have e := rep_bl.mp g
    cases e
  | .str x, .int y, v, h, g => by
    obtain rfl := rep_str.mp h
    have e := rep_int.mp g
    cases e
  | .str x, .str y, v, h, g => by
    obtain rfl := rep_str.mp h
    have e := rep_str.mp g
    cases e
    rfl
  | .str x, .lst y, v, h, g => by
    obtain rfl := rep_str.mp h
    obtain ⟨l', ys, e, q', p'⟩ := rep_lst.mp g
    cases e
  | .str x, .tup y, v, h, g => by
    obtain rfl := rep_str.mp h
    obtain ⟨l', ys, e, q', p'⟩ := rep_tup.mp g
    cases e
  | .lst x, .non, v, h, g => by
    obtain ⟨l, xs, rfl, q, p⟩ := rep_lst.mp h
    have e := rep_non.mp g
    cases e
  | .lst x, .bl y, v, h, g => by
    obtain ⟨l, xs, rfl, q, p⟩ := rep_lst.mp h
    have e := rep_bl.mp g
    cases e
  | .lst x, .int y, v, h, g => by
    obtain ⟨l, xs, rfl, q, p⟩ := rep_lst.mp h
    have e := rep_int.mp g
    cases e
  | .lst x, .str y, v, h, g => by
    obtain ⟨l, xs, rfl, q, p⟩ := rep_lst.mp h
    have e := rep_str.mp g
    cases e
  | .lst x, .lst y, v, h, g => by
    obtain ⟨l, xs, rfl, q, p⟩ := rep_lst.mp h
    obtain ⟨l', ys, e, q', p'⟩ := rep_lst.mp g
    cases e
    have e2 := q.symm.trans q'
    cases e2
    rw [repL_inj (repL_iff.mpr p) (repL_iff.mpr p')]
  | .lst x, .tup y, v, h, g => by
    obtain ⟨l, xs, rfl, q, p⟩ := rep_lst.mp h
    obtain ⟨l', ys, e, q', p'⟩ := rep_tup.mp g
    cases e
    have e2 := q.symm.trans q'
    cases e2
  | .tup x, .non, v, h, g => by
    obtain ⟨l, xs, rfl, q, p⟩ := rep_tup.mp h
    have e := rep_non.mp g
    cases e
  | .tup x, .bl y, v, h, g => by
    obtain ⟨l, xs, rfl, q, p⟩ := rep_tup.mp h
    have e := rep_bl.mp g
    cases e
  | .tup x, .int y, v, h, g => by
    obtain ⟨l, xs, rfl, q, p⟩ := rep_tup.mp h
    have e := rep_int.mp g
    cases e
  | .tup x, .str y, v, h, g => by
    obtain ⟨l, xs, rfl, q, p⟩ := rep_tup.mp h
    have e := rep_str.mp g
    cases e
  | .tup x, .lst y, v, h, g => by
    obtain ⟨l, xs, rfl, q, p⟩ := rep_tup.mp h
    obtain ⟨l', ys, e, q', p'⟩ := rep_lst.mp g
    cases e
    have e2 := q.symm.trans q'
    cases e2
  | .tup x, .tup y, v, h, g => by
    obtain ⟨l, xs, rfl, q, p⟩ := rep_tup.mp h
    obtain ⟨l', ys, e, q', p'⟩ := rep_tup.mp g
    cases e
    have e2 := q.symm.trans q'
    cases e2
    rw [repL_inj (repL_iff.mpr p) (repL_iff.mpr p')]
theorem repL_inj {F : Hp} : ∀ {d e : List D} {v : List V}, RepL F d v → RepL F e v → d = e
  | [], [], _, _, _ => rfl
  | [], y :: ys, v, h, g => by
    simp only [RepL] at h g
    subst h
    obtain ⟨_, _, e, _⟩ := g
    cases e
  | x :: xs, [], v, h, g => by
    simp only [RepL] at h g
    subst g
    obtain ⟨_, _, e, _⟩ := h
    cases e
  | x :: xs, y :: ys, v, h, g => by
    rw [RepL] at h g
    obtain ⟨a, as, rfl, h1, h2⟩ := h
    obtain ⟨b, bs, e, g1, g2⟩ := g
    cases e
    rw [rep_inj h1 g1, repL_inj h2 g2]
end
mutual
theorem eqD_refl : ∀ x : D, eqD x x = true
  | .non => by rw [eqD]
  | .bl a => by rw [eqD]; exact beq_self_eq_true _
  | .int a => by rw [eqD]; exact beq_self_eq_true _
  | .str a => by rw [eqD]; exact beq_self_eq_true _
  | .lst xs => by rw [eqD]; exact eqDs_refl xs
  | .tup xs => by rw [eqD]; exact eqDs_refl xs
theorem eqDs_refl : ∀ x : List D, eqDs x x = true
  | [] => by rw [eqDs]
  | x :: xs => by rw [eqDs, eqD_refl x, eqDs_refl xs]; rfl
end
abbrev pairD (xs ys : List D) (j : Nat) : Bool := eqD (xs.getD j .non) (ys.getD j .non)
theorem eqDs_range : ∀ xs ys : List D, ((List.range (min xs.length ys.length)).all (pairD xs ys) && xs.length == ys.length) = eqDs xs ys
  | [], [] => by simp [eqDs]
  | [], _ :: _ => by simp [eqDs]
  | _ :: _, [] => by simp [eqDs]
  | x :: xs, y :: ys => by
    have ih := eqDs_range xs ys
    have e0 : min (x :: xs).length (y :: ys).length = min xs.length ys.length + 1 := by simp only [List.length_cons]; omega
    have e1 : ((x :: xs).length == (y :: ys).length) = (xs.length == ys.length) := by
      simp only [List.length_cons]
      by_cases h : xs.length = ys.length
      · rw [h]; simp
      · have h2 : ¬ xs.length + 1 = ys.length + 1 := by omega
        rw [beq_eq_false_iff_ne.mpr h, beq_eq_false_iff_ne.mpr h2]
    rw [e0, List.range_succ_eq_map, List.all_cons, List.all_map, e1, eqDs, ← ih, Bool.and_assoc]
    rfl
theorem eqDs_len {xs ys : List D} (h : ¬ xs.length = ys.length) : eqDs xs ys = false := by
  rw [← eqDs_range xs ys, beq_eq_false_iff_ne.mpr h, Bool.and_false]
theorem eqDs_eq_len {xs ys : List D} (h : eqDs xs ys = true) : xs.length = ys.length := by
  by_cases e : xs.length = ys.length
  · exact e
  · rw [eqDs_len e] at h; cases h
theorem room_here {u a b : Nat} (h : u + min a b < cLine) : u < cLine := by omega
theorem room_in {u a b : Nat} (h : u + min (a + 1) (b + 1) < cLine) : u + 1 + min a b < cLine := by omega
section
variable {P : Program} {w : World} {H : Hp} {s : Shared} {A : Around}
theorem lst_at {h : Heap} {x : List D} {vx : V} {u : Value} (hok : HOk P w H h) (hx : Rep H (.lst x) vx) (rx : RelV vx u) : ∃ (l : Addr) (its : List Value) (xs : List V), u = .ref l ∧ h.IsList l its.toArray ∧ Vals xs its ∧ H l = some (.lst xs) ∧ Paired (Rep H) x xs := by
  obtain ⟨l, xs, rfl, q, p⟩ := rep_lst.mp hx
  cases rx
  obtain ⟨_, its, n, r, e⟩ := hok l _ q
  exact ⟨l, its, xs, rfl, ⟨_, e, rfl, n, rfl⟩, r, q, p⟩
theorem tup_at {h : Heap} {x : List D} {vx : V} {u : Value} (hok : HOk P w H h) (hx : Rep H (.tup x) vx) (rx : RelV vx u) : ∃ (l : Addr) (its : List Value) (xs : List V), u = .ref l ∧ h.IsTuple l its.toArray ∧ Vals xs its ∧ H l = some (.tup xs) ∧ Paired (Rep H) x xs := by
  obtain ⟨l, xs, rfl, q, p⟩ := rep_tup.mp hx
  cases rx
  obtain ⟨_, its, r, e⟩ := hok l _ q
  exact ⟨l, its, xs, rfl, e, r, q, p⟩
mutual
theorem eqAtD {A : Around} (hok : HOk P w H s.heap) : ∀ (x y : D) (u v : Value) (vx vy : V), Rep H x vx → Rep H y vy → RelV vx u → RelV vy v → A.units + min x.dep y.dep < cLine → SeqAt.EqAt A s u v (eqD x y)
  | .non, .non, u, v, vx, vy, hx, hy, rx, ry, hu => by
    obtain rfl := rep_non.mp hx
    cases rx
    obtain rfl := rep_non.mp hy
    cases ry
    exact SeqAt.EqAt.same _
  | .non, .bl y, u, v, vx, vy, hx, hy, rx, ry, hu => by
    obtain rfl := rep_non.mp hx
    cases rx
    obtain rfl := rep_bl.mp hy
    cases ry
    exact SeqAt.EqAt.none_bool y
  | .non, .int y, u, v, vx, vy, hx, hy, rx, ry, hu => by
    obtain rfl := rep_non.mp hx
    cases rx
    obtain rfl := rep_int.mp hy
    obtain ⟨ty, rfl⟩ := ry
    exact SeqAt.EqAt.none_int y ty
  | .non, .str y, u, v, vx, vy, hx, hy, rx, ry, hu => by
    obtain rfl := rep_non.mp hx
    cases rx
    obtain rfl := rep_str.mp hy
    obtain ⟨ty, rfl⟩ := ry
    exact SeqAt.EqAt.none_str y ty
  | .non, .lst y, u, v, vx, vy, hx, hy, rx, ry, hu => by
    obtain rfl := rep_non.mp hx
    cases rx
    obtain ⟨ly, iy, sy, rfl, hy, ry1, hyl, py⟩ := lst_at hok hy ry
    exact SeqAt.EqAt.none_list hy (room_here hu)
  | .non, .tup y, u, v, vx, vy, hx, hy, rx, ry, hu => by
    obtain rfl := rep_non.mp hx
    cases rx
    obtain ⟨ly, iy, sy, rfl, hy, ry1, hyl, py⟩ := tup_at hok hy ry
    exact SeqAt.EqAt.none_tuple hy (room_here hu)
  | .bl x, .non, u, v, vx, vy, hx, hy, rx, ry, hu => by
    obtain rfl := rep_bl.mp hx
    cases rx
    obtain rfl := rep_non.mp hy
    cases ry
    exact SeqAt.EqAt.bool_none x
  | .bl x, .bl y, u, v, vx, vy, hx, hy, rx, ry, hu => by
    obtain rfl := rep_bl.mp hx
    cases rx
    obtain rfl := rep_bl.mp hy
    cases ry
    exact SeqAt.EqAt.bool_bool x y
  | .bl x, .int y, u, v, vx, vy, hx, hy, rx, ry, hu => by
    obtain rfl := rep_bl.mp hx
    cases rx
    obtain rfl := rep_int.mp hy
    obtain ⟨ty, rfl⟩ := ry
    exact SeqAt.EqAt.bool_int x y ty
  | .bl x, .str y, u, v, vx, vy, hx, hy, rx, ry, hu => by
    obtain rfl := rep_bl.mp hx
    cases rx
    obtain rfl := rep_str.mp hy
    obtain ⟨ty, rfl⟩ := ry
    exact SeqAt.EqAt.bool_str x y ty
  | .bl x, .lst y, u, v, vx, vy, hx, hy, rx, ry, hu => by
    obtain rfl := rep_bl.mp hx
    cases rx
    obtain ⟨ly, iy, sy, rfl, hy, ry1, hyl, py⟩ := lst_at hok hy ry
    exact SeqAt.EqAt.bool_list x hy (room_here hu)
  | .bl x, .tup y, u, v, vx, vy, hx, hy, rx, ry, hu => by
    obtain rfl := rep_bl.mp hx
    cases rx
    obtain ⟨ly, iy, sy, rfl, hy, ry1, hyl, py⟩ := tup_at hok hy ry
    exact SeqAt.EqAt.bool_tuple x hy (room_here hu)
  | .int x, .non, u, v, vx, vy, hx, hy, rx, ry, hu => by
    obtain rfl := rep_int.mp hx
    obtain ⟨tx, rfl⟩ := rx
    obtain rfl := rep_non.mp hy
    cases ry
    exact SeqAt.EqAt.int_none x tx
  | .int x, .bl y, u, v, vx, vy, hx, hy, rx, ry, hu => by
    obtain rfl := rep_int.mp hx
    obtain ⟨tx, rfl⟩ := rx
    obtain rfl := rep_bl.mp hy
    cases ry
    exact SeqAt.EqAt.int_bool x tx y
  | .int x, .int y, u, v, vx, vy, hx, hy, rx, ry, hu => by
    obtain rfl := rep_int.mp hx
    obtain ⟨tx, rfl⟩ := rx
    obtain rfl := rep_int.mp hy
    obtain ⟨ty, rfl⟩ := ry
    exact SeqAt.EqAt.int_int x tx y ty
  | .int x, .str y, u, v, vx, vy, hx, hy, rx, ry, hu => by
    obtain rfl := rep_int.mp hx
    obtain ⟨tx, rfl⟩ := rx
    obtain rfl := rep_str.mp hy
    obtain ⟨ty, rfl⟩ := ry
    exact SeqAt.EqAt.int_str x tx y ty
  | .int x, .lst y, u, v, vx, vy, hx, hy, rx, ry, hu => by
    obtain rfl := rep_int.mp hx
    obtain ⟨tx, rfl⟩ := rx
    obtain ⟨ly, iy, sy, rfl, hy, ry1, hyl, py⟩ := lst_at hok hy ry
    exact SeqAt.EqAt.int_list x tx hy (room_here hu)
  | .int x, .tup y, u, v, vx, vy, hx, hy, rx, ry, hu => by
    obtain rfl := rep_int.mp hx
    obtain ⟨tx, rfl⟩ := rx
    obtain ⟨ly, iy, sy, rfl, hy, ry1, hyl, py⟩ := tup_at hok hy ry
    exact SeqAt.EqAt.int_tuple x tx hy (room_here hu)
  | .str x, .non, u, v, vx, vy, hx, hy, rx, ry, hu => by
    obtain rfl := rep_str.mp hx
    obtain ⟨tx, rfl⟩ := rx
    obtain rfl := rep_non.mp hy
    cases ry
    exact SeqAt.EqAt.str_none x tx
  | .str x, .bl y, u, v, vx, vy, hx, hy, rx, ry, hu => by
    obtain rfl := rep_str.mp hx
    obtain ⟨tx, rfl⟩ := rx
    obtain rfl := rep_bl.mp hy
    cases ry
    exact SeqAt.EqAt.str_bool x tx y
  | .str x, .int y, u, v, vx, vy, hx, hy, rx, ry, hu => by
    obtain rfl := rep_str.mp hx
    obtain ⟨tx, rfl⟩ := rx
    obtain rfl := rep_int.mp hy
    obtain ⟨ty, rfl⟩ := ry
    exact SeqAt.EqAt.str_int x tx y ty
  | .str x, .str y, u, v, vx, vy, hx, hy, rx, ry, hu => by
    obtain rfl := rep_str.mp hx
    obtain ⟨tx, rfl⟩ := rx
    obtain rfl := rep_str.mp hy
    obtain ⟨ty, rfl⟩ := ry
    exact SeqAt.EqAt.str_str x tx y ty
  | .str x, .lst y, u, v, vx, vy, hx, hy, rx, ry, hu => by
    obtain rfl := rep_str.mp hx
    obtain ⟨tx, rfl⟩ := rx
    obtain ⟨ly, iy, sy, rfl, hy, ry1, hyl, py⟩ := lst_at hok hy ry
    exact SeqAt.EqAt.str_list x tx hy (room_here hu)
  | .str x, .tup y, u, v, vx, vy, hx, hy, rx, ry, hu => by
    obtain rfl := rep_str.mp hx
    obtain ⟨tx, rfl⟩ := rx
    obtain ⟨ly, iy, sy, rfl, hy, ry1, hyl, py⟩ := tup_at hok hy ry
    exact SeqAt.EqAt.str_tuple x tx hy (room_here hu)
  | .lst x, .non, u, v, vx, vy, hx, hy, rx, ry, hu => by
    obtain ⟨lx, ix, sx, rfl, hx, rx1, hxl, px⟩ := lst_at hok hx rx
    obtain rfl := rep_non.mp hy
    cases ry
    exact SeqAt.EqAt.list_none hx (room_here hu)
  | .lst x, .bl y, u, v, vx, vy, hx, hy, rx, ry, hu => by
    obtain ⟨lx, ix, sx, rfl, hx, rx1, hxl, px⟩ := lst_at hok hx rx
    obtain rfl := rep_bl.mp hy
    cases ry
    exact SeqAt.EqAt.list_bool y hx (room_here hu)
  | .lst x, .int y, u, v, vx, vy, hx, hy, rx, ry, hu => by
    obtain ⟨lx, ix, sx, rfl, hx, rx1, hxl, px⟩ := lst_at hok hx rx
    obtain rfl := rep_int.mp hy
    obtain ⟨ty, rfl⟩ := ry
    exact SeqAt.EqAt.list_int y ty hx (room_here hu)
  | .lst x, .str y, u, v, vx, vy, hx, hy, rx, ry, hu => by
    obtain ⟨lx, ix, sx, rfl, hx, rx1, hxl, px⟩ := lst_at hok hx rx
    obtain rfl := rep_str.mp hy
    obtain ⟨ty, rfl⟩ := ry
    exact SeqAt.EqAt.list_str y ty hx (room_here hu)
  | .lst x, .lst y, u, v, vx, vy, hx, hy, rx, ry, hu => by
    obtain ⟨lx, ix, sx, rfl, hx, rx1, hxl, px⟩ := lst_at hok hx rx
    obtain ⟨ly, iy, sy, rfl, hy, ry1, hyl, py⟩ := lst_at hok hy ry
    have n1 := px.length
    have n2 := py.length
    have m1 := rx1.length
    have m2 := ry1.length
    show SeqAt.EqAt A s _ _ (eqDs x y)
    by_cases hll : lx = ly
    · subst hll
      have e : x = y := by
        have e1 := hxl.symm.trans hyl
        cases e1
        exact repL_inj (repL_iff.mpr px) (repL_iff.mpr py)
      rw [e, eqDs_refl]
      exact SeqAt.EqAt.same _
    · refine SeqAt.EqAt.of_refs hll ?_
      by_cases hsz : x.length = y.length
      · have sz : ix.toArray.size = x.length := by simp; omega
        have e : eqDs x y = (List.range ix.toArray.size).all (pairD x y) := by rw [← eqDs_range x y, sz, hsz, Nat.min_self, beq_self_eq_true, Bool.and_true]
        rw [e]
        exact SeqAt.RcAt.lists hx hy (by simp; omega) (room_here hu) (fun j j1 j2 => eqAtDs hok x y _ _ _ _ px py rx1 ry1 (room_in hu) j (by simpa using j1) (by simpa using j2))
      · rw [eqDs_len hsz]
        exact SeqAt.RcAt.lists_lengths hx hy (by simp; omega) (room_here hu)
  | .lst x, .tup y, u, v, vx, vy, hx, hy, rx, ry, hu => by
    obtain ⟨lx, ix, sx, rfl, hx, rx1, hxl, px⟩ := lst_at hok hx rx
    obtain ⟨ly, iy, sy, rfl, hy, ry1, hyl, py⟩ := tup_at hok hy ry
    exact SeqAt.EqAt.list_tuple hx hy (room_here hu)
  | .tup x, .non, u, v, vx, vy, hx, hy, rx, ry, hu => by
    obtain ⟨lx, ix, sx, rfl, hx, rx1, hxl, px⟩ := tup_at hok hx rx
    obtain rfl := rep_non.mp hy
    cases ry
    exact SeqAt.EqAt.tuple_none hx (room_here hu)
  | .tup x, .bl y, u, v, vx, vy, hx, hy, rx, ry, hu => by
    obtain ⟨lx, ix, sx, rfl, hx, rx1, hxl, px⟩ := tup_at hok hx rx
    obtain rfl := rep_bl.mp hy
    cases ry
    exact SeqAt.EqAt.tuple_bool y hx (room_here hu)
  | .tup x, .int y, u, v, vx, vy, hx, hy, rx, ry, hu => by
    obtain ⟨lx, ix, sx, rfl, hx, rx1, hxl, px⟩ := tup_at hok hx rx
    obtain rfl := rep_int.mp hy
    obtain ⟨ty, rfl⟩ := ry
    exact SeqAt.EqAt.tuple_int y ty hx (room_here hu)
  | .tup x, .str y, u, v, vx, vy, hx, hy, rx, ry, hu => by
    obtain ⟨lx, ix, sx, rfl, hx, rx1, hxl, px⟩ := tup_at hok hx rx
    obtain rfl := rep_str.mp hy
    obtain ⟨ty, rfl⟩ := ry
    exact SeqAt.EqAt.tuple_str y ty hx (room_here hu)
  | .tup x, .lst y, u, v, vx, vy, hx, hy, rx, ry, hu => by
    obtain ⟨lx, ix, sx, rfl, hx, rx1, hxl, px⟩ := tup_at hok hx rx
    obtain ⟨ly, iy, sy, rfl, hy, ry1, hyl, py⟩ := lst_at hok hy ry
    exact SeqAt.EqAt.tuple_list hx hy (room_here hu)
  | .tup x, .tup y, u, v, vx, vy, hx, hy, rx, ry, hu => by
    obtain ⟨lx, ix, sx, rfl, hx, rx1, hxl, px⟩ := tup_at hok hx rx
    obtain ⟨ly, iy, sy, rfl, hy, ry1, hyl, py⟩ := tup_at hok hy ry
    have n1 := px.length
    have n2 := py.length
    have m1 := rx1.length
    have m2 := ry1.length
    show SeqAt.EqAt A s _ _ (eqDs x y)
    by_cases hll : lx = ly
    · subst hll
      have e : x = y := by
        have e1 := hxl.symm.trans hyl
        cases e1
        exact repL_inj (repL_iff.mpr px) (repL_iff.mpr py)
      rw [e, eqDs_refl]
      exact SeqAt.EqAt.same _
    · refine SeqAt.EqAt.of_refs hll ?_
      have sx : ix.toArray.size = x.length := by simp; omega
      have sy : iy.toArray.size = y.length := by simp; omega
      rw [← eqDs_range x y, ← sx, ← sy]
      exact SeqAt.RcAt.tuples hx hy (room_here hu) (fun j j1 j2 => eqAtDs hok x y _ _ _ _ px py rx1 ry1 (room_in hu) j (by simpa using j1) (by simpa using j2))
theorem eqAtDs {A : Around} (hok : HOk P w H s.heap) : ∀ (x y : List D) (us vs : List Value) (xs ys : List V), Paired (Rep H) x xs → Paired (Rep H) y ys → Vals xs us → Vals ys vs → A.units + min (depAll x) (depAll y) < cLine →
    ∀ j (h1 : j < us.length) (h2 : j < vs.length), SeqAt.EqAt A s us[j] vs[j] (pairD x y j)
  | [], _, _, _, _, _, px, _, rx, _, _, j, h1, _ => by
    cases px
    cases rx
    exact absurd h1 (Nat.not_lt_zero _)
  | _ :: _, [], _, _, _, _, _, py, _, ry, _, j, _, h2 => by
    cases py
    cases ry
    exact absurd h2 (Nat.not_lt_zero _)
  | x :: xs, y :: ys, _, _, _, _, px, py, rx, ry, hu, j, h1, h2 => by
    have hu' : A.units + min (max x.dep (depAll xs)) (max y.dep (depAll ys)) < cLine := hu
    cases px with
    | cons p1 p2 =>
      cases py with
      | cons q1 q2 =>
        cases rx with
        | cons r1 r2 =>
          cases ry with
          | cons t1 t2 =>
            cases j with
            | zero => exact eqAtD hok x y _ _ _ _ p1 q1 r1 t1 (by omega)
            | succ j => exact eqAtDs hok xs ys _ _ _ _ p2 q2 r2 t2 (by omega) j (Nat.lt_of_succ_lt_succ h1) (Nat.lt_of_succ_lt_succ h2)
end
theorem rcAtD {A : Around} (hok : HOk P w H s.heap) : ∀ (x y : D) (u v : Value) (vx vy : V), Rep H x vx → Rep H y vy → RelV vx u → RelV vy v → A.units + min x.dep y.dep < cLine → SeqAt.RcAt A s u v (eqD x y)
  | .non, .non, u, v, vx, vy, hx, hy, rx, ry, hu => by
    obtain rfl := rep_non.mp hx
    cases rx
    obtain rfl := rep_non.mp hy
    cases ry
    exact SeqAt.RcAt.none_none
  | .non, .bl y, u, v, vx, vy, hx, hy, rx, ry, hu => by
    obtain rfl := rep_non.mp hx
    cases rx
    obtain rfl := rep_bl.mp hy
    cases ry
    exact SeqAt.RcAt.none_bool y
  | .non, .int y, u, v, vx, vy, hx, hy, rx, ry, hu => by
    obtain rfl := rep_non.mp hx
    cases rx
    obtain rfl := rep_int.mp hy
    obtain ⟨ty, rfl⟩ := ry
    exact SeqAt.RcAt.none_int y ty
  | .non, .str y, u, v, vx, vy, hx, hy, rx, ry, hu => by
    obtain rfl := rep_non.mp hx
    cases rx
    obtain rfl := rep_str.mp hy
    obtain ⟨ty, rfl⟩ := ry
    exact SeqAt.RcAt.none_str y ty
  | .non, .lst y, u, v, vx, vy, hx, hy, rx, ry, hu => by
    obtain rfl := rep_non.mp hx
    cases rx
    obtain ⟨ly, iy, sy, rfl, hy, ry1, hyl, py⟩ := lst_at hok hy ry
    exact SeqAt.RcAt.none_list hy (room_here hu)
  | .non, .tup y, u, v, vx, vy, hx, hy, rx, ry, hu => by
    obtain rfl := rep_non.mp hx
    cases rx
    obtain ⟨ly, iy, sy, rfl, hy, ry1, hyl, py⟩ := tup_at hok hy ry
    exact SeqAt.RcAt.none_tuple hy (room_here hu)
  | .bl x, .non, u, v, vx, vy, hx, hy, rx, ry, hu => by
    obtain rfl := rep_bl.mp hx
    cases rx
    obtain rfl := rep_non.mp hy
    cases ry
    exact SeqAt.RcAt.bool_none x
  | .bl x, .bl y, u, v, vx, vy, hx, hy, rx, ry, hu => by
    obtain rfl := rep_bl.mp hx
    cases rx
    obtain rfl := rep_bl.mp hy
    cases ry
    exact SeqAt.RcAt.bool_bool x y
  | .bl x, .int y, u, v, vx, vy, hx, hy, rx, ry, hu => by
    obtain rfl := rep_bl.mp hx
    cases rx
    obtain rfl := rep_int.mp hy
    obtain ⟨ty, rfl⟩ := ry
    exact SeqAt.RcAt.bool_int x y ty
  | .bl x, .str y, u, v, vx, vy, hx, hy, rx, ry, hu => by
    obtain rfl := rep_bl.mp hx
    cases rx
    obtain rfl := rep_str.mp hy
    obtain ⟨ty, rfl⟩ := ry
    exact SeqAt.RcAt.bool_str x y ty
  | .bl x, .lst y, u, v, vx, vy, hx, hy, rx, ry, hu => by
    obtain rfl := rep_bl.mp hx
    cases rx
    obtain ⟨ly, iy, sy, rfl, hy, ry1, hyl, py⟩ := lst_at hok hy ry
    exact SeqAt.RcAt.bool_list x hy (room_here hu)
  | .bl x, .tup y, u, v, vx, vy, hx, hy, rx, ry, hu => by
    obtain rfl := rep_bl.mp hx
    cases rx
    obtain ⟨ly, iy, sy, rfl, hy, ry1, hyl, py⟩ := tup_at hok hy ry
    exact SeqAt.RcAt.bool_tuple x hy (room_here hu)
  | .int x, .non, u, v, vx, vy, hx, hy, rx, ry, hu => by
    obtain rfl := rep_int.mp hx
    obtain ⟨tx, rfl⟩ := rx
    obtain rfl := rep_non.mp hy
    cases ry
    exact SeqAt.RcAt.int_none x tx
  | .int x, .bl y, u, v, vx, vy, hx, hy, rx, ry, hu => by
    obtain rfl := rep_int.mp hx
    obtain ⟨tx, rfl⟩ := rx
    obtain rfl := rep_bl.mp hy
    cases ry
    exact SeqAt.RcAt.int_bool x tx y
  | .int x, .int y, u, v, vx, vy, hx, hy, rx, ry, hu => by
    obtain rfl := rep_int.mp hx
    obtain ⟨tx, rfl⟩ := rx
    obtain rfl := rep_int.mp hy
    obtain ⟨ty, rfl⟩ := ry
    exact SeqAt.RcAt.int_int x tx y ty
  | .int x, .str y, u, v, vx, vy, hx, hy, rx, ry, hu => by
    obtain rfl := rep_int.mp hx
    obtain ⟨tx, rfl⟩ := rx
    obtain rfl := rep_str.mp hy
    obtain ⟨ty, rfl⟩ := ry
    exact SeqAt.RcAt.int_str x tx y ty
  | .int x, .lst y, u, v, vx, vy, hx, hy, rx, ry, hu => by
    obtain rfl := rep_int.mp hx
    obtain ⟨tx, rfl⟩ := rx
    obtain ⟨ly, iy, sy, rfl, hy, ry1, hyl, py⟩ := lst_at hok hy ry
    exact SeqAt.RcAt.int_list x tx hy (room_here hu)
  | .int x, .tup y, u, v, vx, vy, hx, hy, rx, ry, hu => by
    obtain rfl := rep_int.mp hx
    obtain ⟨tx, rfl⟩ := rx
    obtain ⟨ly, iy, sy, rfl, hy, ry1, hyl, py⟩ := tup_at hok hy ry
    exact SeqAt.RcAt.int_tuple x tx hy (room_here hu)
  | .str x, .non, u, v, vx, vy, hx, hy, rx, ry, hu => by
    obtain rfl := rep_str.mp hx
    obtain ⟨tx, rfl⟩ := rx
    obtain rfl := rep_non.mp hy
    cases ry
    exact SeqAt.RcAt.str_none x tx
  | .str x, .bl y, u, v, vx, vy, hx, hy, rx, ry, hu => by
    obtain rfl := rep_str.mp hx
    obtain ⟨tx, rfl⟩ := rx
    obtain rfl := rep_bl.mp hy
    cases ry
    exact SeqAt.RcAt.str_bool x tx y
  | .str x, .int y, u, v, vx, vy, hx, hy, rx, ry, hu => by
    obtain rfl := rep_str.mp hx
    obtain ⟨tx, rfl⟩ := rx
    obtain rfl := rep_int.mp hy
    obtain ⟨ty, rfl⟩ := ry
    exact SeqAt.RcAt.str_int x tx y ty
  | .str x, .str y, u, v, vx, vy, hx, hy, rx, ry, hu => by
    obtain rfl := rep_str.mp hx
    obtain ⟨tx, rfl⟩ := rx
    obtain rfl := rep_str.mp hy
    obtain ⟨ty, rfl⟩ := ry
    exact SeqAt.RcAt.str_str x tx y ty
  | .str x, .lst y, u, v, vx, vy, hx, hy, rx, ry, hu => by
    obtain rfl := rep_str.mp hx
    obtain ⟨tx, rfl⟩ := rx
    obtain ⟨ly, iy, sy, rfl, hy, ry1, hyl, py⟩ := lst_at hok hy ry
    exact SeqAt.RcAt.str_list x tx hy (room_here hu)
  | .str x, .tup y, u, v, vx, vy, hx, hy, rx, ry, hu => by
    obtain rfl := rep_str.mp hx
    obtain ⟨tx, rfl⟩ := rx
    obtain ⟨ly, iy, sy, rfl, hy, ry1, hyl, py⟩ := tup_at hok hy ry
    exact SeqAt.RcAt.str_tuple x tx hy (room_here hu)
  | .lst x, .non, u, v, vx, vy, hx, hy, rx, ry, hu => by
    obtain ⟨lx, ix, sx, rfl, hx, rx1, hxl, px⟩ := lst_at hok hx rx
    obtain rfl := rep_non.mp hy
    cases ry
    exact SeqAt.RcAt.list_none hx (room_here hu)
  | .lst x, .bl y, u, v, vx, vy, hx, hy, rx, ry, hu => by
    obtain ⟨lx, ix, sx, rfl, hx, rx1, hxl, px⟩ := lst_at hok hx rx
    obtain rfl := rep_bl.mp hy
    cases ry
    exact SeqAt.RcAt.list_bool y hx (room_here hu)
  | .lst x, .int y, u, v, vx, vy, hx, hy, rx, ry, hu => by
    obtain ⟨lx, ix, sx, rfl, hx, rx1, hxl, px⟩ := lst_at hok hx rx
    obtain rfl := rep_int.mp hy
    obtain ⟨ty, rfl⟩ := ry
    exact SeqAt.RcAt.list_int y ty hx (room_here hu)
  | .lst x, .str y, u, v, vx, vy, hx, hy, rx, ry, hu => by
    obtain ⟨lx, ix, sx, rfl, hx, rx1, hxl, px⟩ := lst_at hok hx rx
    obtain rfl := rep_str.mp hy
    obtain ⟨ty, rfl⟩ := ry
    exact SeqAt.RcAt.list_str y ty hx (room_here hu)
  | .lst x, .lst y, u, v, vx, vy, hx, hy, rx, ry, hu => by
    obtain ⟨lx, ix, sx, rfl, hx, rx1, hxl, px⟩ := lst_at hok hx rx
    obtain ⟨ly, iy, sy, rfl, hy, ry1, hyl, py⟩ := lst_at hok hy ry
    have n1 := px.length
    have n2 := py.length
    have m1 := rx1.length
    have m2 := ry1.length
    show SeqAt.RcAt A s _ _ (eqDs x y)
    by_cases hsz : x.length = y.length
    · have sz : ix.toArray.size = x.length := by simp; omega
      have e : eqDs x y = (List.range ix.toArray.size).all (pairD x y) := by rw [← eqDs_range x y, sz, hsz, Nat.min_self, beq_self_eq_true, Bool.and_true]
      rw [e]
      exact SeqAt.RcAt.lists hx hy (by simp; omega) (room_here hu) (fun j j1 j2 => eqAtDs hok x y _ _ _ _ px py rx1 ry1 (room_in hu) j (by simpa using j1) (by simpa using j2))
    · rw [eqDs_len hsz]
      exact SeqAt.RcAt.lists_lengths hx hy (by simp; omega) (room_here hu)
  | .lst x, .tup y, u, v, vx, vy, hx, hy, rx, ry, hu => by
    obtain ⟨lx, ix, sx, rfl, hx, rx1, hxl, px⟩ := lst_at hok hx rx
    obtain ⟨ly, iy, sy, rfl, hy, ry1, hyl, py⟩ := tup_at hok hy ry
    exact SeqAt.RcAt.list_tuple hx hy (room_here hu)
  | .tup x, .non, u, v, vx, vy, hx, hy, rx, ry, hu => by
    obtain ⟨lx, ix, sx, rfl, hx, rx1, hxl, px⟩ := tup_at hok hx rx
    obtain rfl := rep_non.mp hy
    cases ry
    exact SeqAt.RcAt.tuple_none hx (room_here hu)
  | .tup x, .bl y, u, v, vx, vy, hx, hy, rx, ry, hu => by
    obtain ⟨lx, ix, sx, rfl, hx, rx1, hxl, px⟩ := tup_at hok hx rx
    obtain rfl := rep_bl.mp hy
    cases ry
    exact SeqAt.RcAt.tuple_bool y hx (room_here hu)
  | .tup x, .int y, u, v, vx, vy, hx, hy, rx, ry, hu => by
    obtain ⟨lx, ix, sx, rfl, hx, rx1, hxl, px⟩ := tup_at hok hx rx
    obtain rfl := rep_int.mp hy
    obtain ⟨ty, rfl⟩ := ry
    exact SeqAt.RcAt.tuple_int y ty hx (room_here hu)
  | .tup x, .str y, u, v, vx, vy, hx, hy, rx, ry, hu => by
    obtain ⟨lx, ix, sx, rfl, hx, rx1, hxl, px⟩ := tup_at hok hx rx
    obtain rfl := rep_str.mp hy
    obtain ⟨ty, rfl⟩ := ry
    exact SeqAt.RcAt.tuple_str y ty hx (room_here hu)
  | .tup x, .lst y, u, v, vx, vy, hx, hy, rx, ry, hu => by
    obtain ⟨lx, ix, sx, rfl, hx, rx1, hxl, px⟩ := tup_at hok hx rx
    obtain ⟨ly, iy, sy, rfl, hy, ry1, hyl, py⟩ := lst_at hok hy ry
    exact SeqAt.RcAt.tuple_list hx hy (room_here hu)
  | .tup x, .tup y, u, v, vx, vy, hx, hy, rx, ry, hu => by
    obtain ⟨lx, ix, sx, rfl, hx, rx1, hxl, px⟩ := tup_at hok hx rx
    obtain ⟨ly, iy, sy, rfl, hy, ry1, hyl, py⟩ := tup_at hok hy ry
    have n1 := px.length
    have n2 := py.length
    have m1 := rx1.length
    have m2 := ry1.length
    show SeqAt.RcAt A s _ _ (eqDs x y)
    have sx : ix.toArray.size = x.length := by simp; omega
    have sy : iy.toArray.size = y.length := by simp; omega
    rw [← eqDs_range x y, ← sx, ← sy]
    exact SeqAt.RcAt.tuples hx hy (room_here hu) (fun j j1 j2 => eqAtDs hok x y _ _ _ _ px py rx1 ry1 (room_in hu) j (by simpa using j1) (by simpa using j2))
theorem neAtD {A : Around} (hok : HOk P w H s.heap) : ∀ (x y : D) (u v : Value) (vx vy : V), Rep H x vx → Rep H y vy → RelV vx u → RelV vy v → A.units + min x.dep y.dep < cLine → SeqAt.RcNeAt A s u v (!eqD x y)
  | .non, .non, u, v, vx, vy, hx, hy, rx, ry, hu => by
    obtain rfl := rep_non.mp hx
    cases rx
    obtain rfl := rep_non.mp hy
    cases ry
    exact SeqAt.RcNeAt.none_none
  | .non, .bl y, u, v, vx, vy, hx, hy, rx, ry, hu => by
    obtain rfl := rep_non.mp hx
    cases rx
    obtain rfl := rep_bl.mp hy
    cases ry
    exact SeqAt.RcNeAt.none_bool y
  | .non, .int y, u, v, vx, vy, hx, hy, rx, ry, hu => by
    obtain rfl := rep_non.mp hx
    cases rx
    obtain rfl := rep_int.mp hy
    obtain ⟨ty, rfl⟩ := ry
    exact SeqAt.RcNeAt.none_int y ty
  | .non, .str y, u, v, vx, vy, hx, hy, rx, ry, hu => by
    obtain rfl := rep_non.mp hx
    cases rx
    obtain rfl := rep_str.mp hy
    obtain ⟨ty, rfl⟩ := ry
    exact SeqAt.RcNeAt.none_str y ty
  | .non, .lst y, u, v, vx, vy, hx, hy, rx, ry, hu => by
    obtain rfl := rep_non.mp hx
    cases rx
    obtain ⟨ly, iy, sy, rfl, hy, ry1, hyl, py⟩ := lst_at hok hy ry
    exact SeqAt.RcNeAt.none_list hy (room_here hu)
  | .non, .tup y, u, v, vx, vy, hx, hy, rx, ry, hu => by
    obtain rfl := rep_non.mp hx
    cases rx
    obtain ⟨ly, iy, sy, rfl, hy, ry1, hyl, py⟩ := tup_at hok hy ry
    exact SeqAt.RcNeAt.none_tuple hy (room_here hu)
  | .bl x, .non, u, v, vx, vy, hx, hy, rx, ry, hu => by
    obtain rfl := rep_bl.mp hx
    cases rx
    obtain rfl := rep_non.mp hy
    cases ry
    exact SeqAt.RcNeAt.bool_none x
  | .bl x, .bl y, u, v, vx, vy, hx, hy, rx, ry, hu => by
    obtain rfl := rep_bl.mp hx
    cases rx
    obtain rfl := rep_bl.mp hy
    cases ry
    exact SeqAt.RcNeAt.bool_bool x y
  | .bl x, .int y, u, v, vx, vy, hx, hy, rx, ry, hu => by
    obtain rfl := rep_bl.mp hx
    cases rx
    obtain rfl := rep_int.mp hy
    obtain ⟨ty, rfl⟩ := ry
    exact SeqAt.RcNeAt.bool_int x y ty
  | .bl x, .str y, u, v, vx, vy, hx, hy, rx, ry, hu => by
    obtain rfl := rep_bl.mp hx
    cases rx
    obtain rfl := rep_str.mp hy
    obtain ⟨ty, rfl⟩ := ry
    exact SeqAt.RcNeAt.bool_str x y ty
  | .bl x, .lst y, u, v, vx, vy, hx, hy, rx, ry, hu => by
    obtain rfl := rep_bl.mp hx
    cases rx
    obtain ⟨ly, iy, sy, rfl, hy, ry1, hyl, py⟩ := lst_at hok hy ry
    exact SeqAt.RcNeAt.bool_list x hy (room_here hu)
  | .bl x, .tup y, u, v, vx, vy, hx, hy, rx, ry, hu => by
    obtain rfl := rep_bl.mp hx
    cases rx
    obtain ⟨ly, iy, sy, rfl, hy, ry1, hyl, py⟩ := tup_at hok hy ry
    exact SeqAt.RcNeAt.bool_tuple x hy (room_here hu)
  | .int x, .non, u, v, vx, vy, hx, hy, rx, ry, hu => by
    obtain rfl := rep_int.mp hx
    obtain ⟨tx, rfl⟩ := rx
    obtain rfl := rep_non.mp hy
    cases ry
    exact SeqAt.RcNeAt.int_none x tx
  | .int x, .bl y, u, v, vx, vy, hx, hy, rx, ry, hu => by
    obtain rfl := rep_int.mp hx
    obtain ⟨tx, rfl⟩ := rx
    obtain rfl := rep_bl.mp hy
    cases ry
    exact SeqAt.RcNeAt.int_bool x tx y
  | .int x, .int y, u, v, vx, vy, hx, hy, rx, ry, hu => by
    obtain rfl := rep_int.mp hx
    obtain ⟨tx, rfl⟩ := rx
    obtain rfl := rep_int.mp hy
    obtain ⟨ty, rfl⟩ := ry
    exact SeqAt.RcNeAt.int_int x tx y ty
  | .int x, .str y, u, v, vx, vy, hx, hy, rx, ry, hu => by
    obtain rfl := rep_int.mp hx
    obtain ⟨tx, rfl⟩ := rx
    obtain rfl := rep_str.mp hy
    obtain ⟨ty, rfl⟩ := ry
    exact SeqAt.RcNeAt.int_str x tx y ty
  | .int x, .lst y, u, v, vx, vy, hx, hy, rx, ry, hu => by
    obtain rfl := rep_int.mp hx
    obtain ⟨tx, rfl⟩ := rx
    obtain ⟨ly, iy, sy, rfl, hy, ry1, hyl, py⟩ := lst_at hok hy ry
    exact SeqAt.RcNeAt.int_list x tx hy (room_here hu)
  | .int x, .tup y, u, v, vx, vy, hx, hy, rx, ry, hu => by
    obtain rfl := rep_int.mp hx
    obtain ⟨tx, rfl⟩ := rx
    obtain ⟨ly, iy, sy, rfl, hy, ry1, hyl, py⟩ := tup_at hok hy ry
    exact SeqAt.RcNeAt.int_tuple x tx hy (room_here hu)
  | .str x, .non, u, v, vx, vy, hx, hy, rx, ry, hu => by
    obtain rfl := rep_str.mp hx
    obtain ⟨tx, rfl⟩ := rx
    obtain rfl := rep_non.mp hy
    cases ry
    exact SeqAt.RcNeAt.str_none x tx
  | .str x, .bl y, u, v, vx, vy, hx, hy, rx, ry, hu => by
    obtain rfl := rep_str.mp hx
    obtain ⟨tx, rfl⟩ := rx
    obtain rfl := rep_bl.mp hy
    cases ry
    exact SeqAt.RcNeAt.str_bool x tx y
  | .str x, .int y, u, v, vx, vy, hx, hy, rx, ry, hu => by
    obtain rfl := rep_str.mp hx
    obtain ⟨tx, rfl⟩ := rx
    obtain rfl := rep_int.mp hy
    obtain ⟨ty, rfl⟩ := ry
    exact SeqAt.RcNeAt.str_int x tx y ty
  | .str x, .str y, u, v, vx, vy, hx, hy, rx, ry, hu => by
    obtain rfl := rep_str.mp hx
    obtain ⟨tx, rfl⟩ := rx
    obtain rfl := rep_str.mp hy
    obtain ⟨ty, rfl⟩ := ry
    exact SeqAt.RcNeAt.str_str x tx y ty
  | .str x, .lst y, u, v, vx, vy, hx, hy, rx, ry, hu => by
    obtain rfl := rep_str.mp hx
    obtain ⟨tx, rfl⟩ := rx
    obtain ⟨ly, iy, sy, rfl, hy, ry1, hyl, py⟩ := lst_at hok hy ry
    exact SeqAt.RcNeAt.str_list x tx hy (room_here hu)
  | .str x, .tup y, u, v, vx, vy, hx, hy, rx, ry, hu => by
    obtain rfl := rep_str.mp hx
    obtain ⟨tx, rfl⟩ := rx
    obtain ⟨ly, iy, sy, rfl, hy, ry1, hyl, py⟩ := tup_at hok hy ry
    exact SeqAt.RcNeAt.str_tuple x tx hy (room_here hu)
  | .lst x, .non, u, v, vx, vy, hx, hy, rx, ry, hu => by
    obtain ⟨lx, ix, sx, rfl, hx, rx1, hxl, px⟩ := lst_at hok hx rx
    obtain rfl := rep_non.mp hy
    cases ry
    exact SeqAt.RcNeAt.list_none hx (room_here hu)
  | .lst x, .bl y, u, v, vx, vy, hx, hy, rx, ry, hu => by
    obtain ⟨lx, ix, sx, rfl, hx, rx1, hxl, px⟩ := lst_at hok hx rx
    obtain rfl := rep_bl.mp hy
    cases ry
    exact SeqAt.RcNeAt.list_bool y hx (room_here hu)
  | .lst x, .int y, u, v, vx, vy, hx, hy, rx, ry, hu => by
    obtain ⟨lx, ix, sx, rfl, hx, rx1, hxl, px⟩ := lst_at hok hx rx
    obtain rfl := rep_int.mp hy
    obtain ⟨ty, rfl⟩ := ry
    exact SeqAt.RcNeAt.list_int y ty hx (room_here hu)
  | .lst x, .str y, u, v, vx, vy, hx, hy, rx, ry, hu => by
    obtain ⟨lx, ix, sx, rfl, hx, rx1, hxl, px⟩ := lst_at hok hx rx
    obtain rfl := rep_str.mp hy
    obtain ⟨ty, rfl⟩ := ry
    exact SeqAt.RcNeAt.list_str y ty hx (room_here hu)
  | .lst x, .lst y, u, v, vx, vy, hx, hy, rx, ry, hu => by
    obtain ⟨lx, ix, sx, rfl, hx, rx1, hxl, px⟩ := lst_at hok hx rx
    obtain ⟨ly, iy, sy, rfl, hy, ry1, hyl, py⟩ := lst_at hok hy ry
    have n1 := px.length
    have n2 := py.length
    have m1 := rx1.length
    have m2 := ry1.length
    show SeqAt.RcNeAt A s _ _ (!eqDs x y)
    by_cases hsz : x.length = y.length
    · have sz : ix.toArray.size = x.length := by simp; omega
      have e : eqDs x y = (List.range ix.toArray.size).all (pairD x y) := by rw [← eqDs_range x y, sz, hsz, Nat.min_self, beq_self_eq_true, Bool.and_true]
      rw [e]
      exact SeqAt.RcNeAt.lists hx hy (by simp; omega) (room_here hu) (fun j j1 j2 => eqAtDs hok x y _ _ _ _ px py rx1 ry1 (room_in hu) j (by simpa using j1) (by simpa using j2))
    · rw [eqDs_len hsz]
      exact SeqAt.RcNeAt.lists_lengths hx hy (by simp; omega) (room_here hu)
  | .lst x, .tup y, u, v, vx, vy, hx, hy, rx, ry, hu => by
    obtain ⟨lx, ix, sx, rfl, hx, rx1, hxl, px⟩ := lst_at hok hx rx
    obtain ⟨ly, iy, sy, rfl, hy, ry1, hyl, py⟩ := tup_at hok hy ry
    exact SeqAt.RcNeAt.list_tuple hx hy (room_here hu)
  | .tup x, .non, u, v, vx, vy, hx, hy, rx, ry, hu => by
    obtain ⟨lx, ix, sx, rfl, hx, rx1, hxl, px⟩ := tup_at hok hx rx
    obtain rfl := rep_non.mp hy
    cases ry
    exact SeqAt.RcNeAt.tuple_none hx (room_here hu)
  | .tup x, .bl y, u, v, vx, vy, hx, hy, rx, ry, hu => by
    obtain ⟨lx, ix, sx, rfl, hx, rx1, hxl, px⟩ := tup_at hok hx rx
    obtain rfl := rep_bl.mp hy
    cases ry
    exact SeqAt.RcNeAt.tuple_bool y hx (room_here hu)
  | .tup x, .int y, u, v, vx, vy, hx, hy, rx, ry, hu => by
    obtain ⟨lx, ix, sx, rfl, hx, rx1, hxl, px⟩ := tup_at hok hx rx
    obtain rfl := rep_int.mp hy
    obtain ⟨ty, rfl⟩ := ry
    exact SeqAt.RcNeAt.tuple_int y ty hx (room_here hu)
  | .tup x, .str y, u, v, vx, vy, hx, hy, rx, ry, hu => by
    obtain ⟨lx, ix, sx, rfl, hx, rx1, hxl, px⟩ := tup_at hok hx rx
    obtain rfl := rep_str.mp hy
    obtain ⟨ty, rfl⟩ := ry
    exact SeqAt.RcNeAt.tuple_str y ty hx (room_here hu)
  | .tup x, .lst y, u, v, vx, vy, hx, hy, rx, ry, hu => by
    obtain ⟨lx, ix, sx, rfl, hx, rx1, hxl, px⟩ := tup_at hok hx rx
    obtain ⟨ly, iy, sy, rfl, hy, ry1, hyl, py⟩ := lst_at hok hy ry
    exact SeqAt.RcNeAt.tuple_list hx hy (room_here hu)
  | .tup x, .tup y, u, v, vx, vy, hx, hy, rx, ry, hu => by
    obtain ⟨lx, ix, sx, rfl, hx, rx1, hxl, px⟩ := tup_at hok hx rx
    obtain ⟨ly, iy, sy, rfl, hy, ry1, hyl, py⟩ := tup_at hok hy ry
    have n1 := px.length
    have n2 := py.length
    have m1 := rx1.length
    have m2 := ry1.length
    show SeqAt.RcNeAt A s _ _ (!eqDs x y)
    have sx : ix.toArray.size = x.length := by simp; omega
    have sy : iy.toArray.size = y.length := by simp; omega
    rw [← eqDs_range x y, ← sx, ← sy]
    exact SeqAt.RcNeAt.tuples hx hy (room_here hu) (fun j j1 j2 => eqAtDs hok x y _ _ _ _ px py rx1 ry1 (room_in hu) j (by simpa using j1) (by simpa using j2))
end
theorem op_eqD' {X : Cx} (hu : X.A.units + 64 < cLine) : OpR X (compareOp .Eq) (fun x y H Q => ∃ d e, Rep H d x ∧ Rep H e y ∧ min d.dep e.dep ≤ 64 ∧ Q (.bl (eqD d e)) H) := by
  intro pins s σ H x y v u Q I rx ry h
  obtain ⟨d, e, hd, he, hm, q⟩ := h
  exact rcAtD (A := X.A) I.hok d e v u x y hd he rx ry (by omega) X.prog X.w _ _ ⟨.bl _, H, I, rfl, q⟩
theorem op_neD' {X : Cx} (hu : X.A.units + 64 < cLine) : OpR X (compareOp .NotEq) (fun x y H Q => ∃ d e, Rep H d x ∧ Rep H e y ∧ min d.dep e.dep ≤ 64 ∧ Q (.bl (!eqD d e)) H) := by
  intro pins s σ H x y v u Q I rx ry h
  obtain ⟨d, e, hd, he, hm, q⟩ := h
  exact neAtD (A := X.A) I.hok d e v u x y hd he rx ry (by omega) X.prog X.w _ _ ⟨.bl _, H, I, rfl, q⟩
end DL

/-! operators, tests, displays, subscripts, built-ins by values -/
namespace DL
open PySem PySem.Spec PyProof.Rows L2

/-! ## answers -/
theorem w_int {G : Gc} {F : Hp} {ι : List Addr} {i : Int} {v : V} : RepW G F ι (.d (.int i)) v ↔ v = .int i := rep_int (F := F)
theorem w_bl {G : Gc} {F : Hp} {ι : List Addr} {i : Bool} {v : V} : RepW G F ι (.d (.bl i)) v ↔ v = .bl i := rep_bl (F := F)
theorem w_str {G : Gc} {F : Hp} {ι : List Addr} {i : Str} {v : V} : RepW G F ι (.d (.str i)) v ↔ v = .str i := rep_str (F := F)
theorem w_non {G : Gc} {F : Hp} {ι : List Addr} {v : V} : RepW G F ι (.d .non) v ↔ v = .non := rep_non (F := F)
theorem w_lst {G : Gc} {F : Hp} {ι : List Addr} {ds : List D} {v : V} : RepW G F ι (.d (.lst ds)) v ↔ ∃ a xs, v = .ref a ∧ F a = some (.lst xs) ∧ Paired (Rep F) ds xs := rep_lst (F := F)
theorem w_tup {G : Gc} {F : Hp} {ι : List Addr} {ds : List D} {v : V} : RepW G F ι (.d (.tup ds)) v ↔ ∃ a xs, v = .ref a ∧ F a = some (.tup xs) ∧ Paired (Rep F) ds xs := rep_tup (F := F)
section
variable {G : Gc} {W : WX} {F : Hp} {ι : List Addr} {S : Store} {H : Hp} {σ : St} {Q : VK}
theorem ret_w {w : Wv} {v : V} (p : PostE G W F ι H σ (.ok w S) Q) (r : Real G F ι S H) (h : RepW G F ι w v) : Q v H := p.now (.refl _ _ _) r v h
theorem ret_int {i : Int} (p : PostE G W F ι H σ (.ok (.d (.int i)) S) Q) (r : Real G F ι S H) : Q (.int i) H := ret_w p r (w_int.mpr rfl)
theorem ret_bl {i : Bool} (p : PostE G W F ι H σ (.ok (.d (.bl i)) S) Q) (r : Real G F ι S H) : Q (.bl i) H := ret_w p r (w_bl.mpr rfl)
theorem ret_str {i : Str} (p : PostE G W F ι H σ (.ok (.d (.str i)) S) Q) (r : Real G F ι S H) : Q (.str i) H := ret_w p r (w_str.mpr rfl)
theorem ret_non (p : PostE G W F ι H σ (.ok (.d .non) S) Q) (r : Real G F ι S H) : Q .non H := ret_w p r (w_non.mpr rfl)
theorem ret_lst {ds : List D} {xs : List V} (p : PostE G W F ι H σ (.ok (.d (.lst ds)) S) Q) (r : Real G F ι S H) (h : Paired (Rep F) ds xs) (q : Addr) (hq : H q = none) : Q (.ref q) (upd H q (.lst xs)) :=
  p.now (.newF r hq) (r.newF hq) _ (w_lst.mpr ⟨q, xs, rfl, upd_same, p2imp (fun _ _ z => z.mono (.of (fz_new (r.fnone hq)))) h⟩)
theorem ret_tup {ds : List D} {xs : List V} (p : PostE G W F ι H σ (.ok (.d (.tup ds)) S) Q) (r : Real G F ι S H) (h : Paired (Rep F) ds xs) (q : Addr) (hq : H q = none) : Q (.ref q) (upd H q (.tup xs)) :=
  p.now (.newF r hq) (r.newF hq) _ (w_tup.mpr ⟨q, xs, rfl, upd_same, p2imp (fun _ _ z => z.mono (.of (fz_new (r.fnone hq)))) h⟩)
/-- a new object of the store -/
theorem ret_new {o : O} {ho : HO} (p : PostE G W F ι H σ (.ok (.ref S.length) (S ++ [o])) Q) (r : Real G F ι S H) (q : Addr) (hq : H q = none) (h : RepO G F (ι ++ [q]) o ho) : Q (.ref q) (upd H q ho) :=
  p.now (.newS r hq) (r.newS hq h) _ ⟨q, by rw [← r.len]; simp, rfl⟩
/-- an object of the store is written -/
theorem ret_put {n : Nat} {a : Addr} {o o' : O} {ho : HO} {w : Wv} {v : V} (p : PostE G W F ι H σ (.ok w (S.set n o')) Q) (r : Real G F ι S H) (e1 : ι[n]? = some a) (e2 : S[n]? = some o) (e3 : o ≠ .dead) (h : RepO G F ι o' ho) (hw : RepW G F ι w v) : Q v (upd H a ho) :=
  p.now (.put e1) (r.put e1 e2 e3 h) v hw
end

/-! ## data seen in the store -/
def allD : List Wv → Option (List D)
  | [] => some []
  | .d x :: r => (allD r).map (x :: ·)
  | _ :: _ => none
theorem allD_map : ∀ ds : List D, allD (ds.map .d) = some ds
  | [] => rfl
  | d :: ds => by
    show (allD (ds.map .d)).map (d :: ·) = _
    rw [allD_map ds]; rfl
theorem allD_eq : ∀ {ws : List Wv} {ds : List D}, allD ws = some ds → ws = ds.map .d
  | [], ds, h => by cases h; rfl
  | w :: ws, ds, h => by
    cases w with
    | d x =>
      have h' : (allD ws).map (x :: ·) = some ds := h
      cases e : allD ws with
      | none => rw [e] at h'; cases h'
      | some es =>
        rw [e] at h'
        cases h'
        rw [allD_eq e]; rfl
    | _ => cases h
theorem repWs_d {G : Gc} {F : Hp} {ι : List Addr} {ds : List D} {xs : List V} (h : RepWs G F ι (ds.map .d) xs) : Paired (Rep F) ds xs := p2mapL' (f := Wv.d) (R' := RepW G F ι) (fun a b z => z) h
theorem repWs_of {G : Gc} {F : Hp} {ι : List Addr} {ds : List D} {xs : List V} (h : Paired (Rep F) ds xs) : RepWs G F ι (ds.map .d) xs := p2mapL (f := Wv.d) (R' := RepW G F ι) (fun a b z => z) h
theorem uncalm {G : Gc} {F : Hp} {ι : List Addr} {w : Wv} {v : V} (h : RepW G.calm F ι w v) : RepW G F ι w v := by
  cases w with
  | d x => exact h
  | ref n => exact h
  | scr ns => exact h
  | exc c => obtain ⟨a, e, _⟩ := h; cases e
theorem uncalms {G : Gc} {F : Hp} {ι : List Addr} {ws : List Wv} {xs : List V} (h : RepWs G.calm F ι ws xs) : RepWs G F ι ws xs := p2imp (fun _ _ z => uncalm z) h
/-- what may be put into the store -/
def Wv.calm : Wv → Bool
  | .exc _ => false
  | _ => true
theorem calm_of {G : Gc} {F : Hp} {ι : List Addr} {w : Wv} {v : V} (h : RepW G F ι w v) (c : w.calm = true) : RepW G.calm F ι w v := by
  cases w with
  | d x => exact h
  | ref n => exact h
  | scr ns => exact h
  | exc c => cases c
theorem calms_of {G : Gc} {F : Hp} {ι : List Addr} : ∀ {ws : List Wv} {xs : List V}, RepWs G F ι ws xs → ws.all Wv.calm = true → RepWs G.calm F ι ws xs
  | _, _, .nil, _ => .nil
  | _, _, .cons r t, c => by
    simp only [List.all_cons, Bool.and_eq_true] at c
    exact .cons (calm_of r c.1) (calms_of t c.2)
def asD (S : Store) : Wv → Option D
  | .d x => some x
  | .ref n => match S[n]? with
    | some (.lst ws) => (allD ws).map .lst
    | some (.tup ws) => (allD ws).map .tup
    | _ => none
  | _ => none
section
variable {G : Gc} {F : Hp} {ι : List Addr} {S : Store} {H : Hp} {v : V} {w : Wv}
theorem Real.fsub (r : Real G F ι S H) : FSub F H := .of r.frz
theorem Real.ref_lst {n : Nat} {ws : List Wv} (r : Real G F ι S H) (h : RepW G F ι (.ref n) v) (e : S[n]? = some (.lst ws)) : ∃ a xs, v = .ref a ∧ ι[n]? = some a ∧ H a = some (.lst xs) ∧ RepWs G.calm F ι ws xs := by
  obtain ⟨a, e1, rfl⟩ := h
  obtain ⟨_, _, e2, xs, rfl, e3⟩ := r.at_ n a _ e1 e (fun z => nomatch z)
  exact ⟨a, xs, rfl, e1, e2, e3⟩
theorem Real.ref_tup {n : Nat} {ws : List Wv} (r : Real G F ι S H) (h : RepW G F ι (.ref n) v) (e : S[n]? = some (.tup ws)) : ∃ a xs, v = .ref a ∧ ι[n]? = some a ∧ H a = some (.tup xs) ∧ RepWs G.calm F ι ws xs := by
  obtain ⟨a, e1, rfl⟩ := h
  obtain ⟨_, _, e2, xs, rfl, e3⟩ := r.at_ n a _ e1 e (fun z => nomatch z)
  exact ⟨a, xs, rfl, e1, e2, e3⟩
theorem asD_rep {x : D} (r : Real G F ι S H) (h : RepW G F ι w v) (e : asD S w = some x) : Rep H x v := by
  cases w with
  | d y => cases e; exact Rep.mono r.fsub h
  | scr ns => cases e
  | exc c => cases e
  | ref n =>
    unfold asD at e
    simp only at e
    split at e
    · rename_i ws e1
      obtain ⟨a, xs, rfl, _, e2, e3⟩ := r.ref_lst h e1
      cases q : allD ws with
      | none => rw [q] at e; cases e
      | some ds =>
        rw [q] at e; cases e
        rw [allD_eq q] at e3
        exact rep_lst.mpr ⟨a, xs, rfl, e2, p2imp (fun _ _ z => z.mono r.fsub) (repWs_d e3)⟩
    · rename_i ws e1
      obtain ⟨a, xs, rfl, _, e2, e3⟩ := r.ref_tup h e1
      cases q : allD ws with
      | none => rw [q] at e; cases e
      | some ds =>
        rw [q] at e; cases e
        rw [allD_eq q] at e3
        exact rep_tup.mpr ⟨a, xs, rfl, e2, p2imp (fun _ _ z => z.mono r.fsub) (repWs_d e3)⟩
    · cases e
/-- the items of a list (true) or a tuple (false) -/
def seqW (S : Store) : Wv → Option (Bool × List Wv)
  | .d (.lst ds) => some (true, ds.map .d)
  | .d (.tup ds) => some (false, ds.map .d)
  | .scr ns => some (true, ns.map fun i => .d (.int i))
  | .ref n => match S[n]? with
    | some (.lst ws) => some (true, ws)
    | some (.tup ws) => some (false, ws)
    | _ => none
  | _ => none
theorem seqW_rep {k : Bool} {ws : List Wv} (r : Real G F ι S H) (h : RepW G F ι w v) (e : seqW S w = some (k, ws)) : ∃ a xs, v = .ref a ∧ (if k = true then SqL G.K H a xs else SqT G.K H a xs) ∧ RepWs G.calm F ι ws xs := by
  cases w with
  | d y =>
    cases y with
    | lst ds =>
      cases e
      obtain ⟨a, xs, rfl, q, p⟩ := w_lst.mp h
      exact ⟨a, xs, rfl, SqL.of (r.frz _ _ q), repWs_of p⟩
    | tup ds =>
      cases e
      obtain ⟨a, xs, rfl, q, p⟩ := w_tup.mp h
      exact ⟨a, xs, rfl, SqT.of (r.frz _ _ q), repWs_of p⟩
    | _ => cases e
  | scr ns =>
    cases e
    obtain ⟨a, rfl, q⟩ := h
    refine ⟨a, ns.map V.int, rfl, sqL_mono r.frz q, ?_⟩
    clear q
    induction ns with
    | nil => exact .nil
    | cons i ns ih => exact .cons (w_int.mpr rfl) ih
  | exc c => cases e
  | ref n =>
    unfold seqW at e
    simp only at e
    split at e
    · rename_i ws e1
      cases e
      obtain ⟨a, xs, rfl, _, e2, e3⟩ := r.ref_lst h e1
      exact ⟨a, xs, rfl, SqL.of e2, e3⟩
    · rename_i ws e1
      cases e
      obtain ⟨a, xs, rfl, _, e2, e3⟩ := r.ref_tup h e1
      exact ⟨a, xs, rfl, SqT.of e2, e3⟩
    · cases e
theorem seqW_or {k : Bool} {ws : List Wv} (r : Real G F ι S H) (h : RepW G F ι w v) (e : seqW S w = some (k, ws)) : ∃ a xs, v = .ref a ∧ (SqL G.K H a xs ∨ SqT G.K H a xs) ∧ RepWs G.calm F ι ws xs := by
  obtain ⟨a, xs, e1, q, p⟩ := seqW_rep r h e
  cases k with
  | true => exact ⟨a, xs, e1, .inl q, p⟩
  | false => exact ⟨a, xs, e1, .inr q, p⟩
end

/-! ## arithmetic, texts, lists: + - * // % ** -/
def gAdd : Wv → Wv → Store → Res Wv
  | .d (.int i), .d (.int j), S => .ok (.d (.int (i + j))) S
  | .d (.str x), .d (.str y), S => if x.length + y.length ≤ 16777216 then .ok (.d (.str (x ++ y))) S else .no
  | .d (.lst x), .d (.lst y), S => if x.length + y.length ≤ 16777216 then .ok (.d (.lst (x ++ y))) S else .no
  | .d (.tup x), .d (.tup y), S => if x ≠ [] ∧ y ≠ [] ∧ x.length + y.length ≤ 16777216 then .ok (.d (.tup (x ++ y))) S else .no
  | _, _, _ => .no
abbrev rAddAll (K : PySem.W.Frag) : R2 := fun x y H Q => rI0 (fun i j => .int (i + j)) x y H Q ∨ ((∃ i j, x = .str i ∧ y = .str j ∧ i.length + j.length ≤ sizeLine ∧ Q (.str (i ++ j)) H) ∨ (rCat x y H Q ∨ rCatT K x y H Q))
theorem op_addAll {X : Cx} : OpR X (binaryOp .Add) (rAddAll X.K) := op_add.or (op_add_str.or (op_cat.or op_catT))
theorem p2ne {α β : Type} {R : α → β → Prop} {xs : List α} {ys : List β} (h : Paired R xs ys) (n : xs ≠ []) : ys ≠ [] := by
  cases h with
  | nil => exact absurd rfl n
  | cons _ _ => exact List.cons_ne_nil _ _
theorem o2_add {G : Gc} : Op2 G (rAddAll G.K) gAdd := by
  intro W F ι S H σ x y w u Q rl hx hy p
  unfold gAdd at p
  split at p
  · cases w_int.mp hx; cases w_int.mp hy
    exact .inl ⟨_, _, rfl, rfl, ret_int p rl⟩
  · rename_i a b _
    cases w_str.mp hx; cases w_str.mp hy
    split at p
    · rename_i hz
      exact .inr (.inl ⟨_, _, rfl, rfl, by rw [sizeLine_eq]; exact hz, ret_str p rl⟩)
    · exact p.elim
  · split at p
    · rename_i hz
      obtain ⟨a, xs, rfl, q1, p1⟩ := w_lst.mp hx
      obtain ⟨b, ys, rfl, q2, p2⟩ := w_lst.mp hy
      refine .inr (.inr (.inl ⟨a, b, xs, ys, rfl, rfl, rl.frz _ _ q1, rl.frz _ _ q2, by rw [← p1.length, ← p2.length, sizeLine_eq]; exact hz, fun q hq => ret_lst p rl (p2app p1 p2) q hq⟩))
    · exact p.elim
  · split at p
    · rename_i hz
      obtain ⟨a, xs, rfl, q1, p1⟩ := w_tup.mp hx
      obtain ⟨b, ys, rfl, q2, p2⟩ := w_tup.mp hy
      exact .inr (.inr (.inr ⟨a, b, xs, ys, rfl, rfl, SqT.of (rl.frz _ _ q1), SqT.of (rl.frz _ _ q2), p2ne p1 hz.1, by rw [← p1.length, ← p2.length, sizeLine_eq]; exact hz.2.2, fun z => absurd z (p2ne p2 hz.2.1), fun _ q hq => ret_tup p rl (p2app p1 p2) q hq⟩))
    · exact p.elim
  · exact p.elim
def gSub : Wv → Wv → Store → Res Wv
  | .d (.int i), .d (.int j), S => .ok (.d (.int (i - j))) S
  | _, _, _ => .no
theorem o2_sub {G : Gc} : Op2 G (rI0 fun i j => .int (i - j)) gSub := by
  intro W F ι S H σ x y w u Q rl hx hy p
  unfold gSub at p
  split at p
  · cases w_int.mp hx; cases w_int.mp hy
    exact ⟨_, _, rfl, rfl, ret_int p rl⟩
  · exact p.elim
/-- a number whose size is no matter -/
def Sm (i : Int) : Prop := i.natAbs < 2 ^ 1000
instance (i : Int) : Decidable (Sm i) := Nat.decLt _ _
def MulOk (i j : Int) : Prop := (i.natAbs < 2 ^ 64 ∨ j.natAbs < 2 ^ 64) ∨ (Sm i ∧ Sm j)
instance (i j : Int) : Decidable (MulOk i j) := instDecidableOr
def gMul : Wv → Wv → Store → Res Wv
  | .d (.int i), .d (.int j), S => if MulOk i j then .ok (.d (.int (i * j))) S else .no
  | .d (.lst x), .d (.int k), S => if 0 ≤ k ∧ k < 1000000 ∧ x.length * k.toNat ≤ 16777216 then .ok (.d (.lst (List.replicate k.toNat x).flatten)) S else .no
  | _, _, _ => .no
abbrev rMulAll : R2 := fun x y H Q => rI CMul (fun i j => .int (i * j)) x y H Q ∨ (rI CMulW (fun i j => .int (i * j)) x y H Q ∨ rRep x y H Q)
theorem op_mulAll {X : Cx} : OpR X (binaryOp .Mult) rMulAll := op_mul.or (op_mulW.or op_rep)
theorem o2_mul {G : Gc} : Op2 G rMulAll gMul := by
  intro W F ι S H σ x y w u Q rl hx hy p
  unfold gMul at p
  split at p
  · split at p
    · rename_i i j _ hz
      cases w_int.mp hx; cases w_int.mp hy
      rcases hz with hz | hz
      · refine .inl ⟨_, _, rfl, rfl, ?_, ret_int p rl⟩
        have e : (2 : Nat) ^ 64 = 18446744073709551616 := by decide
        have e' : (2 : Int) ^ 64 = 18446744073709551616 := by decide
        rw [e] at hz
        rcases hz with hz | hz
        · exact .inl (by rw [e']; omega)
        · exact .inr (by rw [e']; omega)
      · exact .inr (.inl ⟨_, _, rfl, rfl, wide_mul hz.1 hz.2 (by decide) (by decide) (by decide), ret_int p rl⟩)
    · exact p.elim
  · split at p
    · rename_i hz
      obtain ⟨a, xs, rfl, q1, p1⟩ := w_lst.mp hx
      cases w_int.mp hy
      have e' : (2 : Int) ^ 63 = 9223372036854775808 := by decide
      refine .inr (.inr ⟨a, _, xs, rfl, rfl, rl.frz _ _ q1, by rw [e']; omega, by rw [e']; omega, by rw [← p1.length, sizeLine_eq]; exact hz.2.2, fun q hq => ret_lst p rl (p2flat p1 _) q hq⟩)
    · exact p.elim
  · exact p.elim
def gFloor : Wv → Wv → Store → Res Wv
  | .d (.int i), .d (.int j), S => if 0 < j ∧ Sm j then .ok (.d (.int (i / j))) S else .no
  | _, _, _ => .no
theorem o2_floor {G : Gc} : Op2 G (rI CDivW fun i j => .int (i / j)) gFloor := by
  intro W F ι S H σ x y w u Q rl hx hy p
  unfold gFloor at p
  split at p
  · split at p
    · rename_i i j _ hz
      cases w_int.mp hx; cases w_int.mp hy
      exact ⟨_, _, rfl, rfl, wide_div hz.1 hz.2 (by decide) (by decide), ret_int p rl⟩
    · exact p.elim
  · exact p.elim
def gMod : Wv → Wv → Store → Res Wv
  | .d (.int i), .d (.int j), S => if 0 < j then .ok (.d (.int (i % j))) S else .no
  | _, _, _ => .no
theorem o2_mod {G : Gc} : Op2 G (rI (fun _ j => 0 < j) fun i j => .int (i % j)) gMod := by
  intro W F ι S H σ x y w u Q rl hx hy p
  unfold gMod at p
  split at p
  · split at p
    · rename_i i j _ hz
      cases w_int.mp hx; cases w_int.mp hy
      exact ⟨_, _, rfl, rfl, hz, ret_int p rl⟩
    · exact p.elim
  · exact p.elim
def gPow : Wv → Wv → Store → Res Wv
  | .d (.int i), .d (.int j), S => if 0 ≤ j ∧ j ≤ 1000 ∧ i.natAbs < 2 ^ 64 then .ok (.d (.int (i ^ j.toNat))) S else .no
  | _, _, _ => .no
theorem o2_pow {G : Gc} : Op2 G (rI CPow fun i j => .int (i ^ j.toNat)) gPow := by
  intro W F ι S H σ x y w u Q rl hx hy p
  unfold gPow at p
  split at p
  · split at p
    · rename_i i j _ hz
      cases w_int.mp hx; cases w_int.mp hy
      exact ⟨_, _, rfl, rfl, ⟨hz.1, by omega, hz.2.2⟩, ret_int p rl⟩
    · exact p.elim
  · exact p.elim
def gNeg : Wv → Store → Res Wv
  | .d (.int i), S => .ok (.d (.int (-i))) S
  | _, _ => .no
theorem o1_neg {G : Gc} : Op1 G (rU fun i => .int (-i)) gNeg := by
  intro W F ι S H σ x w Q rl hx p
  unfold gNeg at p
  split at p
  · cases w_int.mp hx
    exact ⟨_, rfl, ret_int p rl⟩
  · exact p.elim

/-! ## comparisons -/
/-- what is compared with == by identity of kinds: min of depths bounded -/
def gEq (neg : Bool) (w u : Wv) (S : Store) : Res Wv := match asD S w, asD S u with
  | some d, some e => if min d.dep e.dep ≤ 64 then .ok (.d (.bl (if neg = true then !eqD d e else eqD d e))) S else .no
  | _, _ => .no
theorem o2_eq {G : Gc} : Op2 G (fun x y H Q => ∃ d e, Rep H d x ∧ Rep H e y ∧ min d.dep e.dep ≤ 64 ∧ Q (.bl (eqD d e)) H) (gEq false) := by
  intro W F ι S H σ x y w u Q rl hx hy p
  unfold gEq at p
  split at p
  · rename_i d e e1 e2
    split at p
    · rename_i hz
      exact ⟨d, e, asD_rep rl hx e1, asD_rep rl hy e2, hz, ret_bl p rl⟩
    · exact p.elim
  · exact p.elim
theorem o2_ne {G : Gc} : Op2 G (fun x y H Q => ∃ d e, Rep H d x ∧ Rep H e y ∧ min d.dep e.dep ≤ 64 ∧ Q (.bl (!eqD d e)) H) (gEq true) := by
  intro W F ι S H σ x y w u Q rl hx hy p
  unfold gEq at p
  split at p
  · rename_i d e e1 e2
    split at p
    · rename_i hz
      exact ⟨d, e, asD_rep rl hx e1, asD_rep rl hy e2, hz, ret_bl p rl⟩
    · exact p.elim
  · exact p.elim
def gLt : Wv → Wv → Store → Res Wv
  | .d (.int i), .d (.int j), S => .ok (.d (.bl (decide (i < j)))) S
  | _, _, _ => .no
def gGt : Wv → Wv → Store → Res Wv
  | .d (.int i), .d (.int j), S => .ok (.d (.bl (decide (j < i)))) S
  | _, _, _ => .no
def gGe : Wv → Wv → Store → Res Wv
  | .d (.int i), .d (.int j), S => .ok (.d (.bl (decide (j ≤ i)))) S
  | _, _, _ => .no
def gLe : Wv → Wv → Store → Res Wv
  | .d (.int i), .d (.int j), S => .ok (.d (.bl (decide (i ≤ j)))) S
  | .d (.str i), .d (.str j), S => .ok (.d (.bl (!decide (j.cps.toList < i.cps.toList)))) S
  | _, _, _ => .no
theorem o2_lt {G : Gc} : Op2 G (rI0 fun i j => .bl (decide (i < j))) gLt := by
  intro W F ι S H σ x y w u Q rl hx hy p
  unfold gLt at p
  split at p
  · cases w_int.mp hx; cases w_int.mp hy
    exact ⟨_, _, rfl, rfl, ret_bl p rl⟩
  · exact p.elim
theorem o2_gt {G : Gc} : Op2 G (rI0 fun i j => .bl (decide (j < i))) gGt := by
  intro W F ι S H σ x y w u Q rl hx hy p
  unfold gGt at p
  split at p
  · cases w_int.mp hx; cases w_int.mp hy
    exact ⟨_, _, rfl, rfl, ret_bl p rl⟩
  · exact p.elim
theorem o2_ge {G : Gc} : Op2 G (rI0 fun i j => .bl (decide (j ≤ i))) gGe := by
  intro W F ι S H σ x y w u Q rl hx hy p
  unfold gGe at p
  split at p
  · cases w_int.mp hx; cases w_int.mp hy
    exact ⟨_, _, rfl, rfl, ret_bl p rl⟩
  · exact p.elim
abbrev rLeAll : R2 := fun x y H Q => rI0 (fun i j => .bl (decide (i ≤ j))) x y H Q ∨ (∃ i j, x = .str i ∧ y = .str j ∧ Q (.bl (!decide (j.cps.toList < i.cps.toList))) H)
theorem op_leAll {X : Cx} : OpR X (compareOp .LtE) rLeAll := op_le.or op_le_str
theorem o2_le {G : Gc} : Op2 G rLeAll gLe := by
  intro W F ι S H σ x y w u Q rl hx hy p
  unfold gLe at p
  split at p
  · cases w_int.mp hx; cases w_int.mp hy
    exact .inl ⟨_, _, rfl, rfl, ret_bl p rl⟩
  · cases w_str.mp hx; cases w_str.mp hy
    exact .inr ⟨_, _, rfl, rfl, ret_bl p rl⟩
  · exact p.elim
/-- is None, is not None -/
def isNon : Wv → Bool
  | .d .non => true
  | _ => false
def gIs (neg : Bool) : Wv → Wv → Store → Res Wv
  | w, .d .non, S => .ok (.d (.bl (if neg = true then !isNon w else isNon w))) S
  | _, _, _ => .no
theorem isNon_rep {G : Gc} {F : Hp} {ι : List Addr} {w : Wv} {v : V} (h : RepW G F ι w v) : decide (v = .non) = isNon w := by
  cases w with
  | d x =>
    cases x with
    | non => rw [w_non.mp h]; rfl
    | bl _ => rw [w_bl.mp h]; rfl
    | int _ => rw [w_int.mp h]; rfl
    | str _ => rw [w_str.mp h]; rfl
    | tup _ => obtain ⟨a, _, rfl, _⟩ := w_tup.mp h; rfl
    | lst _ => obtain ⟨a, _, rfl, _⟩ := w_lst.mp h; rfl
  | ref n => obtain ⟨a, _, rfl⟩ := h; rfl
  | scr ns => obtain ⟨a, rfl, _⟩ := h; rfl
  | exc c => obtain ⟨a, _, rfl⟩ := h; rfl
theorem o2_is {G : Gc} : Op2 G (fun x y H Q => y = .non ∧ Q (.bl (decide (x = .non))) H) (gIs false) := by
  intro W F ι S H σ x y w u Q rl hx hy p
  unfold gIs at p
  split at p
  · exact ⟨w_non.mp hy, by rw [isNon_rep hx]; exact ret_bl p rl⟩
  · exact p.elim
theorem o2_isnt {G : Gc} : Op2 G (fun x y H Q => y = .non ∧ Q (.bl (!decide (x = .non))) H) (gIs true) := by
  intro W F ι S H σ x y w u Q rl hx hy p
  unfold gIs at p
  split at p
  · exact ⟨w_non.mp hy, by rw [isNon_rep hx]; exact ret_bl p rl⟩
  · exact p.elim
end DL

/-! membership, subscripts, slices, built-ins, displays, attributes, tests -/
namespace DL
open PySem PySem.Spec PyProof.Rows L2

/-! ## keys and dicts -/
def asKey : Wv → Option Key
  | .d (.int i) => some (.inl i)
  | .d (.str x) => some (.inr x)
  | _ => none
def keysOf : List D → Option (List Key)
  | [] => some []
  | .int i :: r => (keysOf r).map (.inl i :: ·)
  | .str x :: r => (keysOf r).map (.inr x :: ·)
  | _ :: _ => none
def atK {κ : Type} [DecidableEq κ] (kvs : List (κ × Wv)) (k : κ) : Option Wv := (kvs.find? fun kv => decide (kv.1 = k)).map (·.2)
def putKW {κ : Type} [DecidableEq κ] (kvs : List (κ × Wv)) (k : κ) (v : Wv) : List (κ × Wv) :=
  if (kvs.any fun kv => decide (kv.1 = k)) = true then kvs.map fun kv => if kv.1 = k then (kv.1, v) else kv else kvs ++ [(k, v)]
section
variable {G : Gc} {F : Hp} {ι : List Addr}
theorem asKey_rep {w : Wv} {v : V} {k : Key} (h : RepW G F ι w v) (e : asKey w = some k) : v = kV k := by
  unfold asKey at e
  split at e
  · cases e; exact w_int.mp h
  · cases e; exact w_str.mp h
  · cases e
theorem keysOf_rep : ∀ {ds : List D} {xs : List V} {ks : List Key}, Paired (Rep F) ds xs → keysOf ds = some ks → xs = ks.map kV
  | [], _, _, .nil, e => by cases e; rfl
  | d :: ds, _, ks, .cons r t, e => by
    cases d with
    | int i =>
      have e' : (keysOf ds).map (.inl i :: ·) = some ks := e
      cases q : keysOf ds with
      | none => rw [q] at e'; cases e'
      | some l =>
        rw [q] at e'; cases e'
        rw [rep_int.mp r, keysOf_rep t q]; rfl
    | str i =>
      have e' : (keysOf ds).map (.inr i :: ·) = some ks := e
      cases q : keysOf ds with
      | none => rw [q] at e'; cases e'
      | some l =>
        rw [q] at e'; cases e'
        rw [rep_str.mp r, keysOf_rep t q]; rfl
    | _ => cases e
abbrev KVR {κ : Type} (G : Gc) (F : Hp) (ι : List Addr) : List (κ × Wv) → List (κ × V) → Prop := Paired fun p q => p.1 = q.1 ∧ RepW G F ι p.2 q.2
theorem kvr_at {κ : Type} [DecidableEq κ] {kvs : List (κ × Wv)} {l : List (κ × V)} (r : KVR G F ι kvs l) (k : κ) : (atK kvs k = none ∧ valV l k = none) ∨ ∃ w v, atK kvs k = some w ∧ valV l k = some v ∧ RepW G F ι w v := by
  induction r with
  | nil => exact .inl ⟨rfl, rfl⟩
  | @cons p q ps qs h t ih =>
    obtain ⟨e1, e2⟩ := h
    by_cases hk : p.1 = k
    · refine .inr ⟨p.2, q.2, by simp [atK, hk], ?_, e2⟩
      rw [valV_pos (e1 ▸ hk)]
    · have hk' : ¬ q.1 = k := e1 ▸ hk
      rw [valV_neg hk']
      have : atK (p :: ps) k = atK ps k := by simp [atK, List.find?_cons, hk]
      rw [this]
      exact ih
theorem kvr_put {κ : Type} [DecidableEq κ] {kvs : List (κ × Wv)} {l : List (κ × V)} (r : KVR G F ι kvs l) (k : κ) {w : Wv} {v : V} (h : RepW G F ι w v) : KVR G F ι (putKW kvs k w) (putK l k v) := by
  have ea : (kvs.any fun kv => decide (kv.1 = k)) = (l.any fun kv => decide (kv.1 = k)) := by
    induction r with
    | nil => rfl
    | @cons p q ps qs hh t ih => simp only [List.any_cons, ih, hh.1]
  unfold putKW putK
  rw [ea]
  split
  · refine p2map (fun a b hh => ?_) r
    by_cases hk : a.1 = k
    · rw [if_pos hk, if_pos (hh.1 ▸ hk)]; exact ⟨hh.1, h⟩
    · rw [if_neg hk, if_neg (hh.1 ▸ hk)]; exact hh
  · exact p2app r (.cons ⟨rfl, h⟩ .nil)
theorem kvr_len {κ : Type} {kvs : List (κ × Wv)} {l : List (κ × V)} (r : KVR G F ι kvs l) : kvs.length = l.length := r.length
end
/-- d[w]: of a dict of the store -/
def dGet (S : Store) (n : Nat) (w : Wv) : Option (Option Wv) := match S[n]? with
  | some (.dK kvs) => (asKey w).map (atK kvs)
  | some (.dT kvs) => match w with
    | .d (.tup ds) => (keysOf ds).map (atK kvs)
    | _ => none
  | _ => none
theorem dGet_rep {G : Gc} {F : Hp} {ι : List Addr} {S : Store} {H : Hp} {n : Nat} {v y : V} {w : Wv} {o : Option Wv} (r : Real G F ι S H) (hv : RepW G F ι (.ref n) v) (hy : RepW G F ι w y) (e : dGet S n w = some o) :
    ∃ a, v = .ref a ∧ ((o = none ∧ DGet H a y none) ∨ ∃ u z, o = some u ∧ DGet H a y (some z) ∧ RepW G F ι u z) := by
  obtain ⟨a, e1, rfl⟩ := hv
  refine ⟨a, rfl, ?_⟩
  unfold dGet at e
  split at e
  · rename_i kvs e2
    obtain ⟨_, _, e3, l, rfl, e4⟩ := r.at_ n a _ e1 e2 (fun z => nomatch z)
    cases q : asKey w with
    | none => rw [q] at e; cases e
    | some k =>
      rw [q] at e
      cases e
      obtain rfl := asKey_rep hy q
      rcases kvr_at e4 k with ⟨h1, h2⟩ | ⟨u, z, h1, h2, h3⟩
      · exact .inl ⟨h1, h2 ▸ DGet.k e3⟩
      · exact .inr ⟨u, z, h1, h2 ▸ DGet.k e3, uncalm h3⟩
  · rename_i kvs e2
    obtain ⟨_, _, e3, l, rfl, e4⟩ := r.at_ n a _ e1 e2 (fun z => nomatch z)
    split at e
    · rename_i ds
      cases q : keysOf ds with
      | none => rw [q] at e; cases e
      | some ks =>
        rw [q] at e
        cases e
        obtain ⟨b, xs, rfl, h5, h6⟩ := w_tup.mp hy
        have ex := keysOf_rep h6 q
        subst ex
        rcases kvr_at e4 ks with ⟨h1, h2⟩ | ⟨u, z, h1, h2, h3⟩
        · exact .inl ⟨h1, h2 ▸ DGet.t e3 (r.frz _ _ h5)⟩
        · exact .inr ⟨u, z, h1, h2 ▸ DGet.t e3 (r.frz _ _ h5), uncalm h3⟩
    · cases e
  · cases e

def dictW (S : Store) (u w : Wv) : Option (Option Wv) := match u with
  | .ref n => dGet S n w
  | _ => none
theorem dictW_rep {G : Gc} {F : Hp} {ι : List Addr} {S : Store} {H : Hp} {v y : V} {u w : Wv} {o : Option Wv} (r : Real G F ι S H) (hv : RepW G F ι u v) (hy : RepW G F ι w y) (e : dictW S u w = some o) :
    ∃ a, v = .ref a ∧ ((o = none ∧ DGet H a y none) ∨ ∃ u z, o = some u ∧ DGet H a y (some z) ∧ RepW G F ι u z) := by
  unfold dictW at e
  split at e
  · exact dGet_rep r hv hy e
  · cases e

/-! ## in, not in -/
def flatD : D → Bool
  | .non => true
  | .bl _ => true
  | .int _ => true
  | .str _ => true
  | _ => false
theorem flat_rep {F : Hp} {d : D} {v : V} (h : Rep F d v) (f : flatD d = true) : flatV v = true := by
  cases d with
  | non => rw [rep_non.mp h]; rfl
  | bl _ => rw [rep_bl.mp h]; rfl
  | int _ => rw [rep_int.mp h]; rfl
  | str _ => rw [rep_str.mp h]; rfl
  | _ => cases f
theorem flat_eq {F : Hp} {d e : D} {v u : V} (h : Rep F d v) (g : Rep F e u) (f : flatD d = true) (f' : flatD e = true) : eqV v u = eqD d e := by
  cases d with
  | non => rw [rep_non.mp h]; cases e with
    | non => rw [rep_non.mp g]; rfl
    | bl _ => rw [rep_bl.mp g]; rfl
    | int _ => rw [rep_int.mp g]; rfl
    | str _ => rw [rep_str.mp g]; rfl
    | _ => cases f'
  | bl _ => rw [rep_bl.mp h]; cases e with
    | non => rw [rep_non.mp g]; rfl
    | bl _ => rw [rep_bl.mp g]; rfl
    | int _ => rw [rep_int.mp g]; rfl
    | str _ => rw [rep_str.mp g]; rfl
    | _ => cases f'
  | int _ => rw [rep_int.mp h]; cases e with
    | non => rw [rep_non.mp g]; rfl
    | bl _ => rw [rep_bl.mp g]; rfl
    | int _ => rw [rep_int.mp g]; rfl
    | str _ => rw [rep_str.mp g]; rfl
    | _ => cases f'
  | str _ => rw [rep_str.mp h]; cases e with
    | non => rw [rep_non.mp g]; rfl
    | bl _ => rw [rep_bl.mp g]; rfl
    | int _ => rw [rep_int.mp g]; rfl
    | str _ => rw [rep_str.mp g]; rfl
    | _ => cases f'
  | _ => cases f
theorem flats_rep {F : Hp} {d : D} {v : V} (h : Rep F d v) (f : flatD d = true) : ∀ {ds : List D} {xs : List V}, Paired (Rep F) ds xs → ds.all flatD = true → xs.all flatV = true ∧ inV v xs = ds.any fun y => eqD y d
  | _, _, .nil, _ => ⟨rfl, rfl⟩
  | _, _, .cons r t, c => by
    simp only [List.all_cons, Bool.and_eq_true] at c
    obtain ⟨a, b⟩ := flats_rep h f t c.2
    refine ⟨by simp only [List.all_cons, flat_rep r c.1, a]; rfl, ?_⟩
    show ((eqV _ v) || inV v _) = _
    rw [b, flat_eq r h c.1 f]; rfl
def memW (S : Store) (w u : Wv) : Option Bool := match w, u with
  | .d (.str c), .d (.str z) => if c.cps.size = 1 then some (decide (c.cps.getD 0 0 ∈ z.cps.toList)) else none
  | .d x, u => match seqW S u with
    | some (_, ws) => match allD ws with
      | some ds => if flatD x && ds.all flatD then some (ds.any fun y => eqD y x) else none
      | none => none
    | none => (dictW S u (.d x)).map Option.isSome
  | _, _ => none
def gIn (neg : Bool) (w u : Wv) (S : Store) : Res Wv := match memW S w u with
  | some b => .ok (.d (.bl (if neg = true then !b else b))) S
  | none => .no
abbrev rInAll (K : PySem.W.Frag) (neg : Bool) : R2 := fun x y H Q => (∃ (c : Nat) (z : Str), x = .str ⟨#[c]⟩ ∧ y = .str z ∧ Q (.bl (if neg = true then !decide (c ∈ z.cps.toList) else decide (c ∈ z.cps.toList))) H) ∨
  (rIn K neg x y H Q ∨ ∃ a o, y = .ref a ∧ DGet H a x o ∧ Q (.bl (if neg = true then !o.isSome else o.isSome)) H)
theorem op_inAll {X : Cx} (hu : X.A.units + 1 < cLine) : OpR X (compareOp .In) (rInAll X.K false) := op_in_sign.or (op_in_seq.or (by
  intro pins s σ H x y v u Q I rx ry h
  obtain ⟨a, o, rfl, g, q⟩ := h
  cases ry
  exact d_in hu I g rx fun s3 I3 => ⟨.bl o.isSome, H, I3, rfl, q⟩))
theorem op_notInAll {X : Cx} (hu : X.A.units + 1 < cLine) : OpR X (compareOp .NotIn) (rInAll X.K true) := op_notIn_sign.or (op_notIn_seq.or (by
  intro pins s σ H x y v u Q I rx ry h
  obtain ⟨a, o, rfl, g, q⟩ := h
  cases ry
  exact d_notIn hu I g rx fun s3 I3 => ⟨.bl (!o.isSome), H, I3, rfl, q⟩))
theorem str_one {c : Str} (h : c.cps.size = 1) : c = ⟨#[c.cps.getD 0 0]⟩ := by
  obtain ⟨⟨l⟩⟩ := c
  match l, h with
  | [a], _ => rfl
theorem o2_in {G : Gc} {neg : Bool} : Op2 G (rInAll G.K neg) (gIn neg) := by
  intro W F ι S H σ x y w u Q rl hx hy p
  unfold gIn at p
  split at p
  · rename_i b eb
    unfold memW at eb
    split at eb
    · rename_i c z
      split at eb
      · rename_i hc
        cases eb
        cases w_str.mp hx; cases w_str.mp hy
        refine .inl ⟨c.cps.getD 0 0, z, by rw [← str_one hc], rfl, ret_bl p rl⟩
      · cases eb
    · rename_i d _
      split at eb
      · rename_i k ws e1
        split at eb
        · rename_i ds e2
          split at eb
          · rename_i hf
            cases eb
            simp only [Bool.and_eq_true] at hf
            obtain ⟨a, xs, rfl, q, r⟩ := seqW_or rl hy e1
            rw [allD_eq e2] at r
            obtain ⟨h1, h2⟩ := flats_rep hx hf.1 (repWs_d r) hf.2
            refine .inr (.inl ⟨a, xs, rfl, q, flat_rep hx hf.1, h1, ?_⟩)
            rw [h2]
            exact ret_bl p rl
          · cases eb
        · cases eb
      · cases q : dictW S u (.d d) with
        | none => rw [q] at eb; cases eb
        | some o =>
          rw [q] at eb
          cases eb
          obtain ⟨a, rfl, h⟩ := dictW_rep rl hy hx q
          rcases h with ⟨rfl, h⟩ | ⟨u', z, rfl, h, _⟩
          · exact .inr (.inr ⟨a, _, rfl, h, ret_bl p rl⟩)
          · exact .inr (.inr ⟨a, _, rfl, h, ret_bl p rl⟩)
    · cases eb
  · exact p.elim

/-! ## subscripts -/
def gIxD (w u : Wv) (S : Store) : Res Wv := match dictW S w u with
  | some (some x) => .ok x S
  | _ => .no
def gIxS (w : Wv) (i : Int) (S : Store) : Res Wv := match w with
  | .d (.str z) => if z.length ≤ 16777216 then match atI z.cps.toList i with
    | some c => .ok (.d (.str ⟨#[c]⟩)) S
    | none => .no
    else .no
  | w => gIxD w (.d (.int i)) S
def gIxI (w : Wv) (i : Int) (S : Store) : Res Wv := match seqW S w with
  | some (_, ws) => match atI ws i with
    | some x => .ok x S
    | none => .no
  | none => gIxS w i S
def gIx (w u : Wv) (S : Store) : Res Wv := match u with
  | .d (.int i) => gIxI w i S
  | u => gIxD w u S
abbrev rIxAll (K : PySem.W.Frag) : R2 := fun x y H Q => rIx K x y H Q ∨ ∃ a v, x = .ref a ∧ DGet H a y (some v) ∧ Q v H
theorem ix_all {X : Cx} (hu : X.A.units + 1 < cLine) : IxR X (rIxAll X.K) := ix_seq.or (by
  intro value slice pins s σ H x y v u Q I rx ry h hs
  obtain ⟨a, z, rfl, g, q⟩ := h
  cases rx
  exact tail_any (dict_typeIs I g) PySem.F.slot_dict_getitem.lookup (d_getItem hu I g ry fun w' s3 I3 rw' => ⟨z, H, I3, rw', q⟩) hs)
theorem p2atI {α β : Type} {R : α → β → Prop} {xs : List α} {ys : List β} {i : Int} {x : α} (h : Paired R xs ys) (e : atI xs i = some x) : ∃ y, atI ys i = some y ∧ R x y := by
  unfold atI at e ⊢
  rw [← h.length]
  cases q : ixN xs.length i with
  | none => rw [q] at e; cases e
  | some j =>
    rw [q] at e
    exact p2get h e
theorem o2_ix {G : Gc} : Op2 G (rIxAll G.K) gIx := by
  intro W F ι S H σ x y w u Q rl hx hy p
  have dict : PostE G W F ι H σ (gIxD w u S) Q → rIxAll G.K x y H Q := fun p => by
    unfold gIxD at p
    split at p
    · rename_i z q
      obtain ⟨a, rfl, h⟩ := dictW_rep rl hx hy q
      rcases h with ⟨h, _⟩ | ⟨u', z', e, h, r⟩
      · cases h
      · cases e
        exact .inr ⟨a, z', rfl, h, ret_w p rl r⟩
    · exact p.elim
  unfold gIx at p
  split at p
  · rename_i i
    unfold gIxI at p
    split at p
    · rename_i k ws e1
      split at p
      · rename_i z e2
        obtain ⟨a, xs, rfl, q, r⟩ := seqW_or rl hx e1
        cases w_int.mp hy
        obtain ⟨v, e3, rv⟩ := p2atI r e2
        rcases q with q | q
        · exact .inl (.inl ⟨a, xs, i, v, rfl, rfl, q, e3, ret_w p rl (uncalm rv)⟩)
        · exact .inl (.inr (.inl ⟨a, xs, i, v, rfl, rfl, q, e3, ret_w p rl (uncalm rv)⟩))
      · exact p.elim
    · unfold gIxS at p
      split at p
      · split at p
        · rename_i hz
          split at p
          · rename_i c e2
            cases w_str.mp hx; cases w_int.mp hy
            exact .inl (.inr (.inr ⟨_, i, c, rfl, rfl, by rw [sizeLine_eq]; exact hz, e2, ret_str p rl⟩))
          · exact p.elim
        · exact p.elim
      · exact dict p
  · exact dict p
end DL

/-! slices, built-ins, displays, attributes, tests -/
namespace DL
open PySem PySem.Spec PyProof.Rows L2
section
variable {X : Cx} {xo : Option (Addr × Nat)}

/-! ## operators as expressions -/
theorem de_bin {op : Operator} {a b : Expr} {pos : Pos} {r : R2} {g : Wv → Wv → Store → Res Wv} {fa fb : Ev} (h : OpR X (binaryOp op) r) (o : Op2 (gc X xo) r g) (ha : DE X xo a fa) (hb : DE X xo b fb) : DE X xo (.BinOp a op b pos) (evBin g fa fb) :=
  de_op2 (fun p q => pe_op h p q) o ha hb
theorem de_neg {a : Expr} {pos : Pos} {fa : Ev} (ha : DE X xo a fa) : DE X xo (.UnaryOp .USub a pos) (evUn gNeg fa) := de_op1 (fun p => pe_un un_neg p) o1_neg ha
theorem de_add {a b : Expr} {pos : Pos} {fa fb : Ev} (ha : DE X xo a fa) (hb : DE X xo b fb) : DE X xo (.BinOp a .Add b pos) (evBin gAdd fa fb) := de_bin op_addAll o2_add ha hb
theorem de_sub {a b : Expr} {pos : Pos} {fa fb : Ev} (ha : DE X xo a fa) (hb : DE X xo b fb) : DE X xo (.BinOp a .Sub b pos) (evBin gSub fa fb) := de_bin op_sub o2_sub ha hb
theorem de_mul {a b : Expr} {pos : Pos} {fa fb : Ev} (ha : DE X xo a fa) (hb : DE X xo b fb) : DE X xo (.BinOp a .Mult b pos) (evBin gMul fa fb) := de_bin op_mulAll o2_mul ha hb
theorem de_floor {a b : Expr} {pos : Pos} {fa fb : Ev} (ha : DE X xo a fa) (hb : DE X xo b fb) : DE X xo (.BinOp a .FloorDiv b pos) (evBin gFloor fa fb) := de_bin op_fdivW o2_floor ha hb
theorem de_mod {a b : Expr} {pos : Pos} {fa fb : Ev} (ha : DE X xo a fa) (hb : DE X xo b fb) : DE X xo (.BinOp a .Mod b pos) (evBin gMod fa fb) := de_bin op_mod o2_mod ha hb
theorem de_pow {a b : Expr} {pos : Pos} {fa fb : Ev} (ha : DE X xo a fa) (hb : DE X xo b fb) : DE X xo (.BinOp a .Pow b pos) (evBin gPow fa fb) := de_bin op_pow o2_pow ha hb
/-- a comparison: its operator's rule, its meaning -/
structure CmpG (X : Cx) (xo : Option (Addr × Nat)) (op : CmpOp) (g : Wv → Wv → Store → Res Wv) : Prop where
  ex : ∃ r : R2, OpR X (compareOp op) r ∧ Op2 (gc X xo) r g
theorem cm_lt : CmpG X xo .Lt gLt := ⟨_, op_lt, o2_lt⟩
theorem cm_le : CmpG X xo .LtE gLe := ⟨_, op_leAll, o2_le⟩
theorem cm_gt : CmpG X xo .Gt gGt := ⟨_, op_gt, o2_gt⟩
theorem cm_ge : CmpG X xo .GtE gGe := ⟨_, op_ge, o2_ge⟩
theorem cm_eq (hu : X.A.units + 64 < cLine) : CmpG X xo .Eq (gEq false) := ⟨_, op_eqD' hu, o2_eq⟩
theorem cm_ne (hu : X.A.units + 64 < cLine) : CmpG X xo .NotEq (gEq true) := ⟨_, op_neD' hu, o2_ne⟩
theorem cm_in (hu : X.A.units + 64 < cLine) : CmpG X xo .In (gIn false) := ⟨_, op_inAll (by omega), o2_in⟩
theorem cm_notin (hu : X.A.units + 64 < cLine) : CmpG X xo .NotIn (gIn true) := ⟨_, op_notInAll (by omega), o2_in⟩
theorem cm_is : CmpG X xo .Is (gIs false) := ⟨_, op_isN, o2_is⟩
theorem cm_isnt : CmpG X xo .IsNot (gIs true) := ⟨_, op_notN, o2_isnt⟩
theorem de_cmp {op : CmpOp} {a b : Expr} {pos : Pos} {g : Wv → Wv → Store → Res Wv} {fa fb : Ev} (c : CmpG X xo op g) (ha : DE X xo a fa) (hb : DE X xo b fb) (hm : behindInMarks op b = false) : DE X xo (.Compare a [op] [b] pos) (evBin g fa fb) := by
  obtain ⟨r, h, o⟩ := c.ex
  exact de_op2 (fun p q => pe_cmpR h p q hm) o ha hb
def evT (f : Ev) : Env → Store → Res Bool := fun ρ S => (f ρ S).bind fun w S1 => match w with
  | .d (.bl b) => .ok b S1
  | _ => .no
theorem test_of {G : Gc} {W : WX} {F : Hp} {ι : List Addr} {S : Store} {H : Hp} {σ : St} {w : Wv} {v : V} {Q : Bool → Hp → Prop} (r : Real G F ι S H) (h : RepW G F ι w v)
    (p : Post G W F ι H σ (match w with
      | .d (.bl b) => Res.ok b S
      | _ => .no) fun _ _ H' b _ => Q b H') : ∃ k, v = .bl k ∧ Q k H := by
  split at p
  · exact ⟨_, w_bl.mp h, p.now (.refl _ _ _) r⟩
  · exact p.elim
theorem Res.bind_assoc {α β γ : Type} (r : Res α) (f : α → Store → Res β) (g : β → Store → Res γ) : (r.bind f).bind g = r.bind fun a S => (f a S).bind g := by
  cases r <;> rfl
theorem dt_cmp {op : CmpOp} {a b : Expr} {pos : Pos} {g : Wv → Wv → Store → Res Wv} {fa fb : Ev} (c : CmpG X xo op g) (ha : DE X xo a fa) (hb : DE X xo b fb) (hm : behindInMarks op b = false) : DT X xo (.Compare a [op] [b] pos) (evT (evBin g fa fb)) := by
  obtain ⟨r, h, o⟩ := c.ex
  refine ⟨fun W tk => pt_imp (pt_cmpR h (ha.run W tk) (hb.run W tk) hm) fun σ H Q ⟨F, ι, S, ρ, rl, en, p⟩ => ?_⟩
  unfold evT evBin at p
  rw [Res.bind_assoc] at p
  refine TEo.step rl en p fun F1 ι1 S1 H1 w v x1 r1 en1 hv p1 => ?_
  rw [Res.bind_assoc] at p1
  refine TEo.step r1 en1 p1 fun F2 ι2 S2 H2 u y x2 r2 en2 hy p2 => ?_
  exact o W F2 ι2 S2 H2 σ v y w u _ r2 (hv.ext x2) hy (p2.bind.mono fun F3 ι3 H3 z S3 x3 r3 p3 v3 h3 => test_of r3 h3 p3)
theorem dt_val {e : Expr} {f : Ev} (h : DE X xo e f) (he : ∀ whole, isTrue e X.env whole = (do let v ← whole; standAt e.pos; holding [v] (truthy v)) := by intro _; rfl) : DT X xo e (evT f) :=
  ⟨fun W tk => pt_imp (pt_val (h.run W tk) he) fun σ H Q ⟨F, ι, S, ρ, rl, en, p⟩ => TEo.step rl en p fun F1 ι1 S1 H1 w v x1 r1 en1 hv p1 => test_of r1 hv p1⟩
/-- and, or, not: tests -/
def evAnd (f g : Env → Store → Res Bool) : Env → Store → Res Bool := fun ρ S => (f ρ S).bind fun b S1 => if b = true then g ρ S1 else .ok false S1
def evOr (f g : Env → Store → Res Bool) : Env → Store → Res Bool := fun ρ S => (f ρ S).bind fun b S1 => if b = true then .ok true S1 else g ρ S1
def evNot (f : Env → Store → Res Bool) : Env → Store → Res Bool := fun ρ S => (f ρ S).bind fun b S1 => .ok (!b) S1
variable {a b : Expr} {rest : List Expr} {pos : Pos} {fa fb : Env → Store → Res Bool}
theorem dw_t (h : DW X xo a fa) : DT X xo a fa := ⟨fun W tk => (h.run W tk).pt⟩
theorem dw_and1 (ha : DT X xo a fa) : DW X xo (.BoolOp .And [a] pos) fa := ⟨fun W tk => pw_and1 (ha.run W tk)⟩
theorem dw_or1 (ha : DT X xo a fa) : DW X xo (.BoolOp .Or [a] pos) fa := ⟨fun W tk => pw_or1 (ha.run W tk)⟩
theorem ite_post {α : Type} {G : Gc} {W : WX} {F : Hp} {ι : List Addr} {H : Hp} {σ : St} {b : Bool} {x y : Res α} {Q : Hp → List Addr → Hp → α → Store → Prop} (p : Post G W F ι H σ (if b = true then x else y) Q) : if b = true then Post G W F ι H σ x Q else Post G W F ι H σ y Q := by
  cases b with
  | true => exact p
  | false => exact p
theorem dw_and (ha : DT X xo a fa) (hb : DW X xo (.BoolOp .And (b :: rest) pos) fb) : DW X xo (.BoolOp .And (a :: b :: rest) pos) (evAnd fa fb) :=
  ⟨fun W tk => pw_imp (pw_and (ha.run W tk) (hb.run W tk)) fun σ H Q ⟨F, ι, S, ρ, rl, en, p⟩ => TTo.step rl en p fun F1 ι1 S1 H1 c x1 r1 en1 p1 => by
    cases c with
    | true => exact ⟨F1, ι1, S1, ρ, r1, en1, p1⟩
    | false => exact p1.now (.refl _ _ _) r1⟩
theorem dw_or (ha : DT X xo a fa) (hb : DW X xo (.BoolOp .Or (b :: rest) pos) fb) : DW X xo (.BoolOp .Or (a :: b :: rest) pos) (evOr fa fb) :=
  ⟨fun W tk => pw_imp (pw_or (ha.run W tk) (hb.run W tk)) fun σ H Q ⟨F, ι, S, ρ, rl, en, p⟩ => TTo.step rl en p fun F1 ι1 S1 H1 c x1 r1 en1 p1 => by
    cases c with
    | true => exact p1.now (.refl _ _ _) r1
    | false => exact ⟨F1, ι1, S1, ρ, r1, en1, p1⟩⟩
theorem dt_not (ha : DT X xo a fa) : DT X xo (.UnaryOp .Not a pos) (evNot fa) :=
  ⟨fun W tk => pt_imp (pt_not (ha.run W tk)) fun σ H Q ⟨F, ι, S, ρ, rl, en, p⟩ => TTo.step rl en p fun F1 ι1 S1 H1 c x1 r1 en1 p1 => p1.now (.refl _ _ _) r1⟩
/-- .. as values (truth values alone) -/
def evAndV (f g : Ev) : Ev := fun ρ S => (f ρ S).bind fun w S1 => match w with
  | .d (.bl true) => g ρ S1
  | .d (.bl false) => .ok (.d (.bl false)) S1
  | _ => .no
def evOrV (f g : Ev) : Ev := fun ρ S => (f ρ S).bind fun w S1 => match w with
  | .d (.bl true) => .ok (.d (.bl true)) S1
  | .d (.bl false) => g ρ S1
  | _ => .no
def evNotV (f : Ev) : Ev := fun ρ S => (f ρ S).bind fun w S1 => match w with
  | .d (.bl b) => .ok (.d (.bl (!b))) S1
  | _ => .no
variable {ga gb : Ev}
theorem de_one {op} (h : DE X xo a ga) : DE X xo (.BoolOp op [a] pos) ga := ⟨fun W tk => pe_one (h.run W tk)⟩
theorem de_and (ha : DE X xo a ga) (hb : DE X xo (.BoolOp .And (b :: rest) pos) gb) : DE X xo (.BoolOp .And (a :: b :: rest) pos) (evAndV ga gb) :=
  ⟨fun W tk => pe_imp (pe_and (ha.run W tk) (hb.run W tk)) fun σ H Q ⟨F, ι, S, ρ, rl, en, p⟩ => TEo.step rl en p fun F1 ι1 S1 H1 w v x1 r1 en1 hv p1 => by
    split at p1
    · exact ⟨true, w_bl.mp hv, iteT ⟨F1, ι1, S1, ρ, r1, en1, p1⟩⟩
    · exact ⟨false, w_bl.mp hv, iteF (ret_bl p1 r1)⟩
    · exact p1.elim⟩
theorem de_or (ha : DE X xo a ga) (hb : DE X xo (.BoolOp .Or (b :: rest) pos) gb) : DE X xo (.BoolOp .Or (a :: b :: rest) pos) (evOrV ga gb) :=
  ⟨fun W tk => pe_imp (pe_or (ha.run W tk) (hb.run W tk)) fun σ H Q ⟨F, ι, S, ρ, rl, en, p⟩ => TEo.step rl en p fun F1 ι1 S1 H1 w v x1 r1 en1 hv p1 => by
    split at p1
    · exact ⟨true, w_bl.mp hv, iteT (ret_bl p1 r1)⟩
    · exact ⟨false, w_bl.mp hv, iteF ⟨F1, ι1, S1, ρ, r1, en1, p1⟩⟩
    · exact p1.elim⟩
theorem de_not (ha : DE X xo a ga) : DE X xo (.UnaryOp .Not a pos) (evNotV ga) :=
  ⟨fun W tk => pe_imp (pe_not (ha.run W tk)) fun σ H Q ⟨F, ι, S, ρ, rl, en, p⟩ => TEo.step rl en p fun F1 ι1 S1 H1 w v x1 r1 en1 hv p1 => by
    split at p1
    · exact ⟨_, w_bl.mp hv, ret_bl p1 r1⟩
    · exact p1.elim⟩
/-- a if t else b -/
def evIf (t : Env → Store → Res Bool) (f g : Ev) : Ev := fun ρ S => (t ρ S).bind fun c S1 => if c = true then f ρ S1 else g ρ S1
theorem de_if {c : Expr} {ft : Env → Store → Res Bool} (hc : DT X xo c ft) (ha : DE X xo a ga) (hb : DE X xo b gb) : DE X xo (.IfExp c a b pos) (evIf ft ga gb) :=
  ⟨fun W tk => pe_imp (pe_ifExp (hc.run W tk) (ha.run W tk) (hb.run W tk)) fun σ H Q ⟨F, ι, S, ρ, rl, en, p⟩ => TTo.step rl en p fun F1 ι1 S1 H1 c x1 r1 en1 p1 => by
    cases c with
    | true => exact ⟨F1, ι1, S1, ρ, r1, en1, p1⟩
    | false => exact ⟨F1, ι1, S1, ρ, r1, en1, p1⟩⟩
/-- a op b op' c -/
def evChain (g g' : Wv → Wv → Store → Res Wv) (fa fb fc : Ev) : Ev := fun ρ S => (fa ρ S).bind fun x S1 => (fb ρ S1).bind fun y S2 => (g x y S2).bind fun z S3 => match z with
  | .d (.bl true) => (fc ρ S3).bind fun w S4 => g' y w S4
  | .d (.bl false) => .ok (.d (.bl false)) S3
  | _ => .no
theorem chain_step {op op' : CmpOp} {c : Expr} {gc' : Ev} {g g' : Wv → Wv → Store → Res Wv} {r r' : R2} {σ : St} {H F : Hp} {ι : List Addr} {S : Store} {ρ : Env} {Q : VK} {W : WX} (o : Op2 (gc X xo) r g) (o' : Op2 (gc X xo) r' g')
    (rl : Real (gc X xo) F ι S H) (en : REnv (gc X xo) F ι σ ρ) (p : PostE (gc X xo) W F ι H σ (evChain g g' ga gb gc' ρ S) Q) : tChain r r' (TEo (gc X xo) W ga) (TEo (gc X xo) W gb) (TEo (gc X xo) W gc') σ H Q := by
  refine TEo.step rl en p fun F1 ι1 S1 H1 w v x1 r1 en1 hv p1 => TEo.step r1 en1 p1 fun F2 ι2 S2 H2 u y x2 r2 en2 hy p2 => ?_
  refine o W F2 ι2 S2 H2 σ v y w u _ r2 (hv.ext x2) hy (p2.bind.mono fun F3 ι3 H3 z S3 x3 r3 p3 v3 h3 => ?_)
  split at p3
  · refine ⟨true, w_bl.mp h3, iteT ?_⟩
    exact TEo.step r3 (en2.ext x3) p3 fun F4 ι4 S4 H4 w4 v4 x4 r4 en4 hv4 p4 => o' W F4 ι4 S4 H4 σ y v4 u w4 Q r4 ((hy.ext x3).ext x4) hv4 p4
  · exact ⟨false, w_bl.mp h3, iteF (ret_bl p3 r3)⟩
  · exact p3.elim
theorem de_chain {op op' : CmpOp} {c : Expr} {gc' : Ev} {g g' : Wv → Wv → Store → Res Wv} (k : CmpG X xo op g) (k' : CmpG X xo op' g') (ha : DE X xo a ga) (hb : DE X xo b gb) (hc : DE X xo c gc')
    (hm : lastMarks [op, op'] [b, c] = false := by with_unfolding_all rfl) : DE X xo (.Compare a [op, op'] [b, c] pos) (evChain g g' ga gb gc') := by
  obtain ⟨r, h, o⟩ := k.ex
  obtain ⟨r', h', o'⟩ := k'.ex
  exact ⟨fun W tk => pe_imp (pe_chain h h' (ha.run W tk) (hb.run W tk) (hc.run W tk) hm) fun σ H Q ⟨F, ι, S, ρ, rl, en, p⟩ => chain_step (op := op) (op' := op') (c := c) o o' rl en p⟩
theorem dt_chain {op op' : CmpOp} {c : Expr} {gc' : Ev} {g g' : Wv → Wv → Store → Res Wv} (k : CmpG X xo op g) (k' : CmpG X xo op' g') (ha : DE X xo a ga) (hb : DE X xo b gb) (hc : DE X xo c gc')
    (hm : lastMarks [op, op'] [b, c] = false := by with_unfolding_all rfl) : DT X xo (.Compare a [op, op'] [b, c] pos) (evT (evChain g g' ga gb gc')) := by
  obtain ⟨r, h, o⟩ := k.ex
  obtain ⟨r', h', o'⟩ := k'.ex
  refine ⟨fun W tk => pt_imp (pt_chain h h' (ha.run W tk) (hb.run W tk) (hc.run W tk) hm) fun σ H Q ⟨F, ι, S, ρ, rl, en, p⟩ => ?_⟩
  exact chain_step (op := op) (op' := op') (c := c) o o' rl en (p.bind.mono fun F3 ι3 H3 z S3 x3 r3 p3 v3 h3 => test_of r3 h3 p3)

/-! ## displays -/
def gTup : List Wv → Store → Res Wv := fun ws S => if ws.length ≤ 1000 then match allD ws with
  | some ds => .ok (.d (.tup ds)) S
  | none => if ws.all Wv.calm = true then .ok (.ref S.length) (S ++ [.tup ws]) else .no
  else .no
def gLst : List Wv → Store → Res Wv := fun ws S => if ws.length ≤ 1000 then match allD ws with
  | some ds => .ok (.d (.lst ds)) S
  | none => .no
  else .no
/-- a list that is kept in the store -/
def gLstS : List Wv → Store → Res Wv := fun ws S => if ws.length ≤ 1000 ∧ ws.all Wv.calm = true then .ok (.ref S.length) (S ++ [.lst ws]) else .no
def evN (g : List Wv → Store → Res Wv) (fs : Env → Store → Res (List Wv)) : Ev := fun ρ S => (fs ρ S).bind g
theorem le_line {n : Nat} (h : n ≤ 1000) : n ≤ sizeLine := by rw [sizeLine_eq]; omega
variable {es : List Expr} {fs : Env → Store → Res (List Wv)}
theorem de_tup {k} (h : DA X xo es fs) : DE X xo (.Tuple es k pos) (evN gTup fs) :=
  ⟨fun W tk => pe_imp (pe_tup (h.run W tk)) fun σ H Q ⟨F, ι, S, ρ, rl, en, p⟩ => TAo.step rl en p fun F1 ι1 S1 H1 ws vs x1 r1 en1 hv p1 => by
    unfold gTup at p1
    split at p1
    · rename_i hz
      refine ⟨by rw [← hv.length]; exact le_line hz, ?_⟩
      split at p1
      · rename_i ds e
        rw [allD_eq e] at hv
        exact fun q hq => ret_tup p1 r1 (repWs_d hv) q hq
      · split at p1
        · rename_i hc
          exact fun q hq => ret_new p1 r1 q hq ⟨vs, rfl, p2imp (fun _ _ z => z.mono (fun _ _ e => e) ⟨[q], rfl⟩) (calms_of hv hc)⟩
        · exact p1.elim
    · exact p1.elim⟩
theorem de_lst (h : DA X xo es fs) : DE X xo (.List es pos) (evN gLst fs) :=
  ⟨fun W tk => pe_imp (pe_lst (h.run W tk)) fun σ H Q ⟨F, ι, S, ρ, rl, en, p⟩ => TAo.step rl en p fun F1 ι1 S1 H1 ws vs x1 r1 en1 hv p1 => by
    unfold gLst at p1
    split at p1
    · rename_i hz
      refine ⟨by rw [← hv.length]; exact le_line hz, ?_⟩
      split at p1
      · rename_i ds e
        rw [allD_eq e] at hv
        exact fun q hq => ret_lst p1 r1 (repWs_d hv) q hq
      · exact p1.elim
    · exact p1.elim⟩
theorem de_lstS (h : DA X xo es fs) : DE X xo (.List es pos) (evN gLstS fs) :=
  ⟨fun W tk => pe_imp (pe_lst (h.run W tk)) fun σ H Q ⟨F, ι, S, ρ, rl, en, p⟩ => TAo.step rl en p fun F1 ι1 S1 H1 ws vs x1 r1 en1 hv p1 => by
    unfold gLstS at p1
    split at p1
    · rename_i hz
      exact ⟨by rw [← hv.length]; exact le_line hz.1, fun q hq => ret_new p1 r1 q hq ⟨vs, rfl, p2imp (fun _ _ z => z.mono (fun _ _ e => e) ⟨[q], rfl⟩) (calms_of hv hz.2)⟩⟩
    · exact p1.elim⟩
def evDictK : Ev := fun _ S => .ok (.ref S.length) (S ++ [.dK []])
def evDictT : Ev := fun _ S => .ok (.ref S.length) (S ++ [.dT []])
theorem de_dictK : DE X xo (.Dict [] [] pos) evDictK :=
  ⟨fun W tk => pe_imp pe_dnewK fun σ H Q ⟨F, ι, S, ρ, rl, en, p⟩ => fun q hq => ret_new p rl q hq ⟨[], rfl, .nil⟩⟩
theorem de_dictT : DE X xo (.Dict [] [] pos) evDictT :=
  ⟨fun W tk => pe_imp pe_dnewT fun σ H Q ⟨F, ι, S, ρ, rl, en, p⟩ => fun q hq => ret_new p rl q hq ⟨[], rfl, .nil⟩⟩

/-! ## subscripts, slices -/
theorem de_ix (hu : X.A.units + 64 < cLine) (ha : DE X xo a ga) (hb : DE X xo b gb) (hs : PlainIx b := by intro _ _; rfl) : DE X xo (.Subscript a b pos) (evBin gIx ga gb) :=
  de_op2 (fun p q => pe_ix (ix_all (by omega)) p q hs) o2_ix ha hb
structure DO (X : Cx) (xo : Option (Addr × Nat)) (e : Option Expr) (f : Env → Store → Res (Option Int)) : Prop where
  run : ∀ W, L2N.Takes X W → ∃ t, PO X e t ∧ ∀ σ H (Q : Option Int → Hp → Prop), (∃ F ι S ρ, Real (gc X xo) F ι S H ∧ REnv (gc X xo) F ι σ ρ ∧ Post (gc X xo) W F ι H σ (f ρ S) fun _ _ H' b _ => Q b H') → t σ H Q
def evNoPart : Env → Store → Res (Option Int) := fun _ S => .ok none S
def evPart (f : Ev) : Env → Store → Res (Option Int) := fun ρ S => (f ρ S).bind fun w S1 => match w with
  | .d (.int i) => .ok (some i) S1
  | _ => .no
theorem do_none : DO X xo none evNoPart := ⟨fun W tk => ⟨_, po_none, fun σ H Q ⟨F, ι, S, ρ, rl, en, p⟩ => p.now (.refl _ _ _) rl⟩⟩
theorem do_some (ha : DE X xo a ga) : DO X xo (some a) (evPart ga) := ⟨fun W tk => ⟨_, po_some (ha.run W tk), fun σ H Q ⟨F, ι, S, ρ, rl, en, p⟩ => TEo.step rl en p fun F1 ι1 S1 H1 w v x1 r1 en1 hv p1 => by
  split at p1
  · exact ⟨_, w_int.mp hv, p1.now (.refl _ _ _) r1⟩
  · exact p1.elim⟩⟩
def cut {α : Type} (xs : List α) (lo hi : Option Int) : List α := (xs.drop (HT.sIx xs.length 0 lo)).take (HT.sIx xs.length xs.length hi - HT.sIx xs.length 0 lo)
def gSl (w : Wv) (lo hi : Option Int) (S : Store) : Res Wv := match w with
  | .d (.str z) => if z.length ≤ 16777216 then .ok (.d (.str (cutS z lo hi))) S else .no
  | w => match seqW S w with
    | some (true, ws) => match allD ws with
      | some ds => .ok (.d (.lst (cut ds lo hi))) S
      | none => .no
    | _ => .no
def evSl (f : Ev) (fl fh : Env → Store → Res (Option Int)) : Ev := fun ρ S => (f ρ S).bind fun w S1 => (fl ρ S1).bind fun lo S2 => (fh ρ S2).bind fun hi S3 => gSl w lo hi S3
abbrev rSlAll (K : PySem.W.Frag) : V → Option Int → Option Int → Hp → VK → Prop := fun x lo hi H Q => rSlS x lo hi H Q ∨ rSlL K x lo hi H Q
theorem p2cut {α β : Type} {R : α → β → Prop} {xs : List α} {ys : List β} (h : Paired R xs ys) (lo hi : Option Int) : Paired R (cut xs lo hi) (cut ys lo hi) := by
  unfold cut
  rw [h.length]
  exact p2take _ (p2drop _ h)
theorem gSl_ok {G : Gc} {W : WX} {F : Hp} {ι : List Addr} {S : Store} {H : Hp} {σ : St} {w : Wv} {v : V} {lo hi : Option Int} {Q : VK} (r : Real G F ι S H) (h : RepW G F ι w v) (p : PostE G W F ι H σ (gSl w lo hi S) Q) : rSlAll G.K v lo hi H Q := by
  unfold gSl at p
  split at p
  · rename_i z
    split at p
    · rename_i hz
      exact .inl ⟨z, w_str.mp h, by rw [sizeLine_eq]; exact hz, ret_str p r⟩
    · exact p.elim
  · split at p
    · rename_i ws e1
      split at p
      · rename_i ds e2
        obtain ⟨q, xs, rfl, q1, q2⟩ := seqW_rep r h e1
        rw [allD_eq e2] at q2
        exact .inr ⟨q, xs, rfl, q1, fun p' hp => ret_lst p r (p2cut (repWs_d q2) lo hi) p' hp⟩
      · exact p.elim
    · exact p.elim
theorem de_sl {lo hi : Option Expr} {p2 : Pos} {fl fh : Env → Store → Res (Option Int)} (ha : DE X xo a ga) (hl : DO X xo lo fl) (hh : DO X xo hi fh) : DE X xo (.Subscript a (.Slice lo hi none p2) pos) (evSl ga fl fh) :=
  ⟨fun W tk => by
    obtain ⟨tl, h1, h2⟩ := hl.run W tk
    obtain ⟨th, h3, h4⟩ := hh.run W tk
    refine pe_imp (pe_slice (sl_str.or sl_list) (ha.run W tk) h1 h3) fun σ H Q ⟨F, ι, S, ρ, rl, en, p⟩ => ?_
    refine TEo.step rl en p fun F1 ι1 S1 H1 w v x1 r1 en1 hv p1 => h2 σ H1 _ ⟨F1, ι1, S1, ρ, r1, en1, p1.bind.mono fun F2 ι2 H2 lo S2 x2 r2 p2 => h4 σ H2 _ ⟨F2, ι2, S2, ρ, r2, en1.ext x2, p2.bind.mono fun F3 ι3 H3 hi S3 x3 r3 p3 => ?_⟩⟩
    exact gSl_ok r3 ((hv.ext x2).ext x3) p3⟩

/-! ## attributes -/
def gFld (C i : Nat) (w : Wv) (S : Store) : Res Wv := match w with
  | .ref n => match S[n]? with
    | some (.ins C' ws) => if C' = C then match ws[i]? with
      | some x => .ok x S
      | none => .no
      else .no
    | _ => .no
  | _ => .no
/-- what is known of a class and a field -/
structure FldOk (K : PySem.W.Frag) (C i : Nat) (f : Str) : Prop where
  ex : ∃ Ca fs, (⟨K, none⟩ : Gc).cls C = some (Ca, fs) ∧ fs.Nodup ∧ fs[i]? = some f ∧ Cls K Ca ∧ NoAttr K Ca f
theorem lookup_at {β : Type} : ∀ {l : List (Str × β)} {i : Nat} {f : Str} {v : β}, (l.map (·.1)).Nodup → (l.map (·.1))[i]? = some f → (l.map (·.2))[i]? = some v → l.lookup f = some v
  | [], i, f, v, _, h, _ => by simp at h
  | p :: l, 0, f, v, _, h1, h2 => by
    obtain ⟨k, x⟩ := p
    simp at h1 h2
    subst h1 h2
    simp [List.lookup_cons]
  | p :: l, i + 1, f, v, nd, h1, h2 => by
    obtain ⟨k, x⟩ := p
    simp only [List.map_cons, List.nodup_cons] at nd
    have h1' : (l.map (·.1))[i]? = some f := by simpa using h1
    have h2' : (l.map (·.2))[i]? = some v := by simpa using h2
    have ne : f ≠ k := fun e => nd.1 (e ▸ List.mem_of_getElem? h1')
    rw [List.lookup_cons, beq_eq_false_iff_ne.mpr ne]
    exact lookup_at nd.2 h1' h2'
theorem take_nodup {α : Type} {l : List α} (h : l.Nodup) (n : Nat) : (l.take n).Nodup := h.sublist (List.take_sublist n l)
theorem gFld_ok {G : Gc} {W : WX} {F : Hp} {ι : List Addr} {S : Store} {H : Hp} {σ : St} {w : Wv} {v : V} {C i : Nat} {f : Str} {Q : VK} (k : FldOk G.K C i f) (r : Real G F ι S H) (h : RepW G F ι w v) (p : PostE G W F ι H σ (gFld C i w S) Q) :
    ∃ a C dx fs z, v = .ref a ∧ H a = some (.ins C dx fs) ∧ Cls G.K C ∧ NoAttr G.K C f ∧ fs.lookup f = some z ∧ Q z H := by
  obtain ⟨Ca, fs, e1, nd, e2, c1, c2⟩ := k.ex
  unfold gFld at p
  split at p
  · rename_i n
    split at p
    · rename_i C' ws e3
      split at p
      · rename_i hC
        subst hC
        split at p
        · rename_i z e4
          obtain ⟨a, e5, rfl⟩ := h
          obtain ⟨_, _, e6, Ca', fs', dx, l, rfl, e7, e8, e9, e10⟩ := r.at_ n a _ e5 e3 (fun z => nomatch z)
          have e7' : (⟨G.K, none⟩ : Gc).cls C' = some (Ca', fs') := e7
          rw [e1] at e7'
          cases e7'
          obtain ⟨y, e11, ry⟩ := p2get e10 e4
          have hi : i < ws.length := (List.getElem?_eq_some_iff.mp e4).1
          exact ⟨a, Ca, dx, l, y, rfl, e6, c1, c2, lookup_at (by rw [e8]; exact take_nodup nd _) (by rw [e8, List.getElem?_take_of_lt hi]; exact e2) e11, ret_w p r (uncalm ry)⟩
        · exact p.elim
      · exact p.elim
    · exact p.elim
  · exact p.elim
theorem de_fld {C i : Nat} {f : Str} (k : FldOk X.K C i f) (ha : DE X xo a ga) (hb : attributeBase a f X.env (eval a X.env) = eval a X.env) : DE X xo (.Attribute a f pos) (evUn (gFld C i) ga) :=
  ⟨fun W tk => pe_imp (pe_fld (ha.run W tk) hb) fun σ H Q ⟨F, ι, S, ρ, rl, en, p⟩ => TEo.step rl en p fun F1 ι1 S1 H1 w v x1 r1 en1 hv p1 => gFld_ok k r1 hv p1⟩
end
end DL

/-! built-ins by name, methods of texts and lists, calls of defs and methods, new instances -/
namespace DL
open PySem PySem.Spec PyProof.Rows L2
section
variable {X : Cx} {xo : Option (Addr × Nat)}

/-! ## built-ins by name -/
structure CallG (X : Cx) (xo : Option (Addr × Nat)) (f : Value) (g : List Wv → Store → Res Wv) : Prop where
  ex : ∃ r, CallR X f r ∧ OpN (gc X xo) r g
theorem CallR_imp {f : Value} {r r' : List V → Hp → VK → Prop} (h : CallR X f r) (i : ∀ xs H Q, r' xs H Q → r xs H Q) : CallR X f r' := fun pins s σ H xs us Q I r q => h pins s σ H xs us Q I r (i xs H Q q)
theorem de_callB {x : Str} {id : String} {p pos : Pos} {e : Expr} {es : List Expr} {g : List Wv → Store → Res Wv} {fs : Env → Store → Res (List Wv)} (k : CallG X xo (.builtin id) g) (hg : Gl X x) (hm : X.mg x = none) (hv : bootBuiltins x = some (.builtin id)) (ha : DA X xo (e :: es) fs)
    (hn : x ≠ "__name__" := by decide) (hdb : (x == ("__debug__" : Str)) = false := by decide)
    (he : starEach (e :: es) X.env = (false, eval e X.env) :: starEach es X.env := by rfl) (hpl : (backTo pos (starEach es X.env)).any (·.1) = false := by rfl) : DE X xo (.Call (.Name x p) (e :: es) [] pos) (evN g fs) := by
  obtain ⟨r, h, o⟩ := k.ex
  exact ⟨fun W tk => pe_imp (pe_callB h hg hm hv (ha.run W tk) hn hdb he hpl) fun σ H Q ⟨F, ι, S, ρ, rl, en, q⟩ => TAo.step rl en q fun F1 ι1 S1 H1 ws vs x1 r1 en1 hv p1 => o W F1 ι1 S1 H1 σ vs ws Q r1 hv p1⟩
theorem de_callTy {x : Str} {T : String} {p pos : Pos} {e : Expr} {es : List Expr} {g : List Wv → Store → Res Wv} {fs : Env → Store → Res (List Wv)} (k : CallG X xo (.type T) g) (hg : Gl X x) (hm : X.mg x = none) (hv : bootBuiltins x = some (.type T)) (ha : DA X xo (e :: es) fs)
    (hn : x ≠ "__name__" := by decide) (hdb : (x == ("__debug__" : Str)) = false := by decide)
    (he : starEach (e :: es) X.env = (false, eval e X.env) :: starEach es X.env := by rfl) (hpl : (backTo pos (starEach es X.env)).any (·.1) = false := by rfl) : DE X xo (.Call (.Name x p) (e :: es) [] pos) (evN g fs) := by
  obtain ⟨r, h, o⟩ := k.ex
  exact ⟨fun W tk => pe_imp (pe_callTy h hg hm hv (ha.run W tk) hn hdb he hpl) fun σ H Q ⟨F, ι, S, ρ, rl, en, q⟩ => TAo.step rl en q fun F1 ι1 S1 H1 ws vs x1 r1 en1 hv p1 => o W F1 ι1 S1 H1 σ vs ws Q r1 hv p1⟩
theorem ws1 {G : Gc} {F : Hp} {ι : List Addr} {w : Wv} {vs : List V} (h : RepWs G F ι [w] vs) : ∃ v, vs = [v] ∧ RepW G F ι w v := by
  cases h with
  | cons r t => cases t; exact ⟨_, rfl, r⟩
theorem ws2 {G : Gc} {F : Hp} {ι : List Addr} {w u : Wv} {vs : List V} (h : RepWs G F ι [w, u] vs) : ∃ v y, vs = [v, y] ∧ RepW G F ι w v ∧ RepW G F ι u y := by
  cases h with
  | cons r t =>
    obtain ⟨y, rfl, q⟩ := ws1 t
    exact ⟨_, _, rfl, r, q⟩
def gLen : List Wv → Store → Res Wv
  | [w], S => match w with
    | .d (.str z) => if z.length ≤ 16777216 then .ok (.d (.int z.length)) S else .no
    | w => match seqW S w with
      | some (_, ws) => .ok (.d (.int ws.length)) S
      | none => .no
  | _, _ => .no
theorem cg_len : CallG X xo (.builtin "len") gLen := ⟨_, call_len_str.or call_len_seq, by
  intro W F ι S H σ xs ws Q r h p
  unfold gLen at p
  split at p
  · obtain ⟨v, rfl, hv⟩ := ws1 h
    split at p
    · split at p
      · rename_i z hz
        exact .inl ⟨z, by rw [w_str.mp hv], by rw [sizeLine_eq]; exact hz, ret_int p r⟩
      · exact p.elim
    · split at p
      · rename_i k ws e
        obtain ⟨a, xs, rfl, q, q2⟩ := seqW_or r hv e
        refine .inr ⟨a, xs, rfl, q, ?_⟩
        rw [← q2.length]
        exact ret_int p r
      · exact p.elim
  · exact p.elim⟩
def gAbs : List Wv → Store → Res Wv
  | [.d (.int i)], S => .ok (.d (.int (if i < 0 then -i else i))) S
  | _, _ => .no
theorem cg_abs : CallG X xo (.builtin "abs") gAbs := ⟨_, call_abs, by
  intro W F ι S H σ xs ws Q r h p
  unfold gAbs at p
  split at p
  · obtain ⟨v, rfl, hv⟩ := ws1 h
    exact ⟨_, by rw [w_int.mp hv], ret_int p r⟩
  · exact p.elim⟩
def gMax2 : List Wv → Store → Res Wv
  | [.d (.int i), .d (.int j)], S => .ok (.d (.int (if j > i then j else i))) S
  | _, _ => .no
theorem cg_max (hc : X.calm = true) : CallG X xo (.builtin "max") gMax2 := ⟨_, call_max2 hc, by
  intro W F ι S H σ xs ws Q r h p
  unfold gMax2 at p
  split at p
  · obtain ⟨v, y, rfl, hv, hy⟩ := ws2 h
    exact ⟨_, _, by rw [w_int.mp hv, w_int.mp hy], ret_int p r⟩
  · exact p.elim⟩
def gMin2 : List Wv → Store → Res Wv
  | [.d (.int i), .d (.int j)], S => .ok (.d (.int (if j < i then j else i))) S
  | _, _ => .no
theorem cg_min (hc : X.calm = true) : CallG X xo (.builtin "min") gMin2 := ⟨_, call_min2 hc, by
  intro W F ι S H σ xs ws Q r h p
  unfold gMin2 at p
  split at p
  · obtain ⟨v, y, rfl, hv, hy⟩ := ws2 h
    exact ⟨_, _, by rw [w_int.mp hv, w_int.mp hy], ret_int p r⟩
  · exact p.elim⟩
def gInt : List Wv → Store → Res Wv
  | [.d (.int i)], S => .ok (.d (.int i)) S
  | [.d (.bl b)], S => .ok (.d (.int (if b then 1 else 0))) S
  | [.d (.str x)], S => match PySem.intText? x with
    | some n => if x.length ≤ 640 then .ok (.d (.int n)) S else .no
    | none => .no
  | _, _ => .no
theorem cg_int : CallG X xo (.type "int") gInt := ⟨_, call_int1.or call_int_str, by
  intro W F ι S H σ xs ws Q r h p
  unfold gInt at p
  split at p
  · obtain ⟨v, rfl, hv⟩ := ws1 h
    exact .inl (.inl ⟨_, by rw [w_int.mp hv], ret_int p r⟩)
  · obtain ⟨v, rfl, hv⟩ := ws1 h
    exact .inl (.inr ⟨_, by rw [w_bl.mp hv], ret_int p r⟩)
  · obtain ⟨v, rfl, hv⟩ := ws1 h
    split at p
    · rename_i n e
      split at p
      · rename_i hz
        exact .inr ⟨_, n, by rw [w_str.mp hv], e, hz, ret_int p r⟩
      · exact p.elim
    · exact p.elim
  · exact p.elim⟩
def gStr : List Wv → Store → Res Wv
  | [.d (.int i)], S => if Sm i then .ok (.d (.str (toString i))) S else .no
  | [.d (.str x)], S => .ok (.d (.str x)) S
  | _, _ => .no
theorem cg_str : CallG X xo (.type "str") gStr := ⟨_, call_str_int.or SkE.call_str_str, by
  intro W F ι S H σ xs ws Q r h p
  unfold gStr at p
  split at p
  · obtain ⟨v, rfl, hv⟩ := ws1 h
    split at p
    · rename_i hz
      exact .inl ⟨_, by rw [w_int.mp hv], Nat.lt_of_lt_of_le (PySem.Flt.log2_lt_of (by decide) hz) (by decide), ret_str p r⟩
    · exact p.elim
  · obtain ⟨v, rfl, hv⟩ := ws1 h
    exact .inr ⟨_, by rw [w_str.mp hv], ret_str p r⟩
  · exact p.elim⟩
/-- list(x): a copy -/
def gList : List Wv → Store → Res Wv
  | [w], S => match seqW S w with
    | some (_, ws) => match allD ws with
      | some ds => .ok (.d (.lst ds)) S
      | none => .no
    | none => .no
  | _, _ => .no
theorem cg_list : CallG X xo (.type "list") gList := ⟨_, call_list_of, by
  intro W F ι S H σ xs ws Q r h p
  unfold gList at p
  split at p
  · obtain ⟨v, rfl, hv⟩ := ws1 h
    split at p
    · rename_i k ws e
      split at p
      · rename_i ds e2
        obtain ⟨a, xs, rfl, q, q2⟩ := seqW_or r hv e
        rw [allD_eq e2] at q2
        exact ⟨a, xs, rfl, q, fun l hl => ret_lst p r (repWs_d q2) l hl⟩
      · exact p.elim
    · exact p.elim
  · exact p.elim⟩
/-- .. that is kept in the store -/
def gListS : List Wv → Store → Res Wv
  | [w], S => match seqW S w with
    | some (_, ws) => .ok (.ref S.length) (S ++ [.lst ws])
    | none => .no
  | _, _ => .no
theorem cg_listS : CallG X xo (.type "list") gListS := ⟨_, call_list_of, by
  intro W F ι S H σ xs ws Q r h p
  unfold gListS at p
  split at p
  · obtain ⟨v, rfl, hv⟩ := ws1 h
    split at p
    · rename_i k ws e
      obtain ⟨a, xs, rfl, q, q2⟩ := seqW_or r hv e
      exact ⟨a, xs, rfl, q, fun l hl => ret_new p r l hl ⟨xs, rfl, p2imp (fun _ _ z => z.mono (fun _ _ e => e) ⟨[l], rfl⟩) q2⟩⟩
    · exact p.elim
  · exact p.elim⟩
def gTuple : List Wv → Store → Res Wv
  | [w], S => match seqW S w with
    | some (true, ws) => match allD ws with
      | some ds => .ok (.d (.tup ds)) S
      | none => .no
    | some (false, _) => .ok w S
    | none => .no
  | _, _ => .no
theorem cg_tuple : CallG X xo (.type "tuple") gTuple := ⟨_, call_tuple_of, by
  intro W F ι S H σ xs ws Q r h p
  unfold gTuple at p
  split at p
  · obtain ⟨v, rfl, hv⟩ := ws1 h
    split at p
    · rename_i ws e
      split at p
      · rename_i ds e2
        obtain ⟨a, xs, rfl, q, q2⟩ := seqW_rep r hv e
        rw [allD_eq e2] at q2
        exact ⟨a, xs, rfl, .inl ⟨q, fun l hl => ret_tup p r (repWs_d q2) l hl⟩⟩
      · exact p.elim
    · rename_i ws e
      obtain ⟨a, xs, rfl, q, q2⟩ := seqW_rep r hv e
      exact ⟨a, xs, rfl, .inr ⟨q, ret_w p r hv⟩⟩
    · exact p.elim
  · exact p.elim⟩
def allB : List D → Option (List Bool)
  | [] => some []
  | .bl b :: r => (allB r).map (b :: ·)
  | _ :: _ => none
theorem allB_rep {F : Hp} : ∀ {ds : List D} {xs : List V} {bs : List Bool}, Paired (Rep F) ds xs → allB ds = some bs → xs = bs.map V.bl
  | [], _, _, .nil, e => by cases e; rfl
  | d :: ds, _, bs, .cons r t, e => by
    cases d with
    | bl b =>
      have e' : (allB ds).map (b :: ·) = some bs := e
      cases q : allB ds with
      | none => rw [q] at e'; cases e'
      | some l =>
        rw [q] at e'; cases e'
        rw [rep_bl.mp r, allB_rep t q]; rfl
    | _ => cases e
def gAll : List Wv → Store → Res Wv
  | [.d (.lst ds)], S => match allB ds with
    | some bs => .ok (.d (.bl (bs.all id))) S
    | none => .no
  | _, _ => .no
theorem cg_all (hc : X.calm = true) : CallG X xo (.builtin "all") gAll := ⟨_, cr_all hc, by
  intro W F ι S H σ xs ws Q r h p
  unfold gAll at p
  split at p
  · obtain ⟨v, rfl, hv⟩ := ws1 h
    split at p
    · rename_i bs e
      obtain ⟨a, ys, rfl, q, q2⟩ := w_lst.mp hv
      have ey := allB_rep q2 e
      subst ey
      exact ⟨a, bs, rfl, SqL.of (r.frz _ _ q), ret_bl p r⟩
    · exact p.elim
  · exact p.elim⟩
def allI : List D → Option (List Int)
  | [] => some []
  | .int b :: r => (allI r).map (b :: ·)
  | _ :: _ => none
theorem allI_rep {F : Hp} : ∀ {ds : List D} {xs : List V} {bs : List Int}, Paired (Rep F) ds xs → allI ds = some bs → xs = bs.map V.int
  | [], _, _, .nil, e => by cases e; rfl
  | d :: ds, _, bs, .cons r t, e => by
    cases d with
    | int b =>
      have e' : (allI ds).map (b :: ·) = some bs := e
      cases q : allI ds with
      | none => rw [q] at e'; cases e'
      | some l =>
        rw [q] at e'; cases e'
        rw [rep_int.mp r, allI_rep t q]; rfl
    | _ => cases e
def gSum : List Wv → Store → Res Wv
  | [.d (.lst ds)], S => match allI ds with
    | some bs => .ok (.d (.int bs.sum)) S
    | none => .no
  | _, _ => .no
theorem cg_sum (hc : X.calm = true) : CallG X xo (.builtin "sum") gSum := ⟨_, cr_sum hc, by
  intro W F ι S H σ xs ws Q r h p
  unfold gSum at p
  split at p
  · obtain ⟨v, rfl, hv⟩ := ws1 h
    split at p
    · rename_i bs e
      obtain ⟨a, ys, rfl, q, q2⟩ := w_lst.mp hv
      have ey := allI_rep q2 e
      subst ey
      exact ⟨a, bs, rfl, SqL.of (r.frz _ _ q), ret_int p r⟩
    · exact p.elim
  · exact p.elim⟩

/-! ## isinstance of plain kinds -/
inductive Ty where
  | int | bool | str | tuple | list
def Ty.name : Ty → String
  | .int => "int" | .bool => "bool" | .str => "str" | .tuple => "tuple" | .list => "list"
/-- the kind of a value: of plain data, of lists and tuples of the store -/
def kindOf (S : Store) : Wv → Option String
  | .d .non => some "NoneType"
  | .d (.bl _) => some "bool"
  | .d (.int _) => some "int"
  | .d (.str _) => some "str"
  | .d (.tup _) => some "tuple"
  | .d (.lst _) => some "list"
  | .ref n => match S[n]? with
    | some (.lst _) => some "list"
    | some (.tup _) => some "tuple"
    | _ => none
  | _ => none
def isTy (S : Store) (T : Ty) : Wv → Option Bool
  | .d .non => some false
  | .d (.bl _) => some (match T with | .int => true | .bool => true | _ => false)
  | .d (.int _) => some (match T with | .int => true | _ => false)
  | .d (.str _) => some (match T with | .str => true | _ => false)
  | .d (.tup _) => some (match T with | .tuple => true | _ => false)
  | .d (.lst _) => some (match T with | .list => true | _ => false)
  | .ref n => match S[n]? with
    | some (.lst _) => some (match T with | .list => true | _ => false)
    | some (.tup _) => some (match T with | .tuple => true | _ => false)
    | _ => none
  | _ => none
theorem isTy_rep {G : Gc} {F : Hp} {ι : List Addr} {S : Store} {H : Hp} {v : V} {w : Wv} {T : Ty} {b : Bool} (r : Real G F ι S H) (h : RepW G F ι w v) (e : isTy S T w = some b) : ∃ k, TyOf G.K H v (.type k) ∧ kitB k T.name = some b := by
  unfold isTy at e
  split at e
  · cases e; rw [w_non.mp h]; exact ⟨_, .non, by cases T <;> decide +kernel⟩
  · cases e; rw [w_bl.mp h]; exact ⟨_, .bl _, by cases T <;> decide +kernel⟩
  · cases e; rw [w_int.mp h]; exact ⟨_, .int _, by cases T <;> decide +kernel⟩
  · cases e; rw [w_str.mp h]; exact ⟨_, .str _, by cases T <;> decide +kernel⟩
  · cases e
    obtain ⟨a, xs, rfl, q, _⟩ := w_tup.mp h
    exact ⟨_, .tup (r.frz _ _ q), by cases T <;> decide +kernel⟩
  · cases e
    obtain ⟨a, xs, rfl, q, _⟩ := w_lst.mp h
    exact ⟨_, .lst (r.frz _ _ q), by cases T <;> decide +kernel⟩
  · split at e
    · rename_i e2
      cases e
      obtain ⟨a, xs, rfl, _, q, _⟩ := r.ref_lst h e2
      exact ⟨_, .lst q, by cases T <;> decide +kernel⟩
    · rename_i e2
      cases e
      obtain ⟨a, xs, rfl, _, q, _⟩ := r.ref_tup h e2
      exact ⟨_, .tup q, by cases T <;> decide +kernel⟩
    · cases e
  · cases e
def gIsi (T : Ty) (w : Wv) (S : Store) : Res Wv := match isTy S T w with
  | some b => .ok (.d (.bl b)) S
  | none => .no
theorem de_isi {x y : Str} {p p2 pos : Pos} {e : Expr} {fa : Ev} (T : Ty) (hg : Gl X x) (hm : X.mg x = none) (hv : bootBuiltins x = some (.builtin "isinstance")) (ha : DE X xo e fa)
    (hg2 : Gl X y) (hm2 : X.mg y = none) (hv2 : bootBuiltins y = some (.type T.name))
    (hn : x ≠ "__name__" := by decide) (hdb : (x == ("__debug__" : Str)) = false := by decide) (hn2 : y ≠ "__name__" := by decide) (hdb2 : (y == ("__debug__" : Str)) = false := by decide)
    (he : starEach [e, .Name y p2] X.env = (false, eval e X.env) :: starEach [.Name y p2] X.env := by rfl) (he2 : starEach [.Name y p2] X.env = (false, eval (.Name y p2) X.env) :: starEach [] X.env := by rfl)
    (hpl : (backTo pos (starEach [.Name y p2] X.env)).any (·.1) = false := by rfl) : DE X xo (.Call (.Name x p) [e, .Name y p2] [] pos) (evUn (gIsi T) fa) :=
  ⟨fun W tk => pe_imp (pe_callB (call_isi (X := X)) hg hm hv (pa_cons (ha.run W tk) (pa_cons (pe_bltn (v := .ty T.name) hg2 hm2 hv2 rfl hn2 hdb2) pa_nil he2) he) hn hdb he hpl) fun σ H Q ⟨F, ι, S, ρ, rl, en, q⟩ => TEo.step rl en q fun F1 ι1 S1 H1 w v x1 r1 en1 hv p1 => by
    unfold gIsi at p1
    split at p1
    · rename_i b eb
      obtain ⟨k, h1, h2⟩ := isTy_rep r1 hv eb
      exact ⟨v, .ty T.name, _, _, b, rfl, .ty _, .base h1, kit_ty h2, ret_bl p1 r1⟩
    · exact p1.elim⟩
end
end DL

/-! statements, loops, comprehensions -/
namespace DL
open PySem PySem.Spec PyProof.Rows L2
inductive SR where
  | nx (ρ : Env) (S : Store) | rt (w : Wv) (S : Store) | bk (ρ : Env) (S : Store) | ct (ρ : Env) (S : Store) | rz (c : Nat) (ρ : Env) (S : Store) | no
abbrev Sv := Env → Store → SR
def Res.toS {α : Type} (r : Res α) (ρ : Env) (k : α → Store → SR) : SR := match r with
  | .ok a S => k a S
  | .rz c S => .rz c ρ S
  | .no => .no
def PostS (G : Gc) (W : WX) (F : Hp) (ι : List Addr) (H : Hp) (r : SR) (Dn : Ends) : Prop :=
  match r with
  | .nx ρ' S' => ∀ F' ι' H' σ', Ext F ι H F' ι' H' → Real G F' ι' S' H' → REnv G F' ι' σ' ρ' → Dn.nx σ' H'
  | .bk ρ' S' => ∀ F' ι' H' σ', Ext F ι H F' ι' H' → Real G F' ι' S' H' → REnv G F' ι' σ' ρ' → Dn.bk σ' H'
  | .ct ρ' S' => ∀ F' ι' H' σ', Ext F ι H F' ι' H' → Real G F' ι' S' H' → REnv G F' ι' σ' ρ' → Dn.ct σ' H'
  | .rt w S' => ∀ F' ι' H' v, Ext F ι H F' ι' H' → Real G F' ι' S' H' → RepW G.calm F' ι' w v → Dn.rt v H'
  | .rz c ρ' S' => ∀ F' ι' H' σ' Ca, Ext F ι H F' ι' H' → Real G F' ι' S' H' → REnv G F' ι' σ' ρ' → G.exc c = some Ca → W (.ref Ca) none σ' H'
  | .no => False
section
variable {G : Gc} {W : WX} {F F1 : Hp} {ι ι1 : List Addr} {S : Store} {H H1 : Hp} {σ : St} {ρ : Env} {r : SR} {Dn : Ends}
theorem PostS.ext (x : Ext F ι H F1 ι1 H1) (h : PostS G W F ι H r Dn) : PostS G W F1 ι1 H1 r Dn := by
  cases r with
  | nx ρ' S' => exact fun F' ι' H' σ' y => h F' ι' H' σ' (x.trans y)
  | bk ρ' S' => exact fun F' ι' H' σ' y => h F' ι' H' σ' (x.trans y)
  | ct ρ' S' => exact fun F' ι' H' σ' y => h F' ι' H' σ' (x.trans y)
  | rt w S' => exact fun F' ι' H' v y => h F' ι' H' v (x.trans y)
  | rz c ρ' S' => exact fun F' ι' H' σ' Ca y => h F' ι' H' σ' Ca (x.trans y)
  | no => exact h
theorem PostS.bind {α : Type} {q : Res α} {k : α → Store → SR} (en : REnv G F ι σ ρ) (h : PostS G W F ι H (q.toS ρ k) Dn) : Post G W F ι H σ q fun F1 ι1 H1 a S1 => PostS G W F1 ι1 H1 (k a S1) Dn := by
  cases q with
  | ok a S' => exact fun F' ι' H' y _ => PostS.ext y (show PostS G W F ι H (k a S') Dn from h)
  | rz c S' => exact fun F' ι' H' Ca y z e => h F' ι' H' σ Ca y z (en.ext y) e
  | no => exact h
theorem PostS.nxt {S' : Store} {ρ' : Env} {σ' : St} (h : PostS G W F ι H (.nx ρ' S') Dn) (r : Real G F ι S' H) (en : REnv G F ι σ' ρ') : Dn.nx σ' H := h F ι H σ' (.refl _ _ _) r en
theorem TEo.stepS {f : Ev} {k : Wv → Store → SR} {R : V → Hp → Prop} (r : Real G F ι S H) (en : REnv G F ι σ ρ) (p : PostS G W F ι H ((f ρ S).toS ρ k) Dn)
    (n : ∀ F1 ι1 S1 H1 w v, Ext F ι H F1 ι1 H1 → Real G F1 ι1 S1 H1 → REnv G F1 ι1 σ ρ → RepW G F1 ι1 w v → PostS G W F1 ι1 H1 (k w S1) Dn → R v H1) : TEo G W f σ H R :=
  ⟨F, ι, S, ρ, r, en, (p.bind en).mono fun F1 ι1 H1 w S1 x r1 q v hv => n F1 ι1 S1 H1 w v x r1 (en.ext x) hv q⟩
theorem TTo.stepS {f : Env → Store → Res Bool} {k : Bool → Store → SR} {R : Bool → Hp → Prop} (r : Real G F ι S H) (en : REnv G F ι σ ρ) (p : PostS G W F ι H ((f ρ S).toS ρ k) Dn)
    (n : ∀ F1 ι1 S1 H1 b, Ext F ι H F1 ι1 H1 → Real G F1 ι1 S1 H1 → REnv G F1 ι1 σ ρ → PostS G W F1 ι1 H1 (k b S1) Dn → R b H1) : TTo G W f σ H R :=
  ⟨F, ι, S, ρ, r, en, (p.bind en).mono fun F1 ι1 H1 w S1 x r1 q => n F1 ι1 S1 H1 w x r1 (en.ext x) q⟩
theorem TAo.stepS {f : Env → Store → Res (List Wv)} {k : List Wv → Store → SR} {R : List V → Hp → Prop} (r : Real G F ι S H) (en : REnv G F ι σ ρ) (p : PostS G W F ι H ((f ρ S).toS ρ k) Dn)
    (n : ∀ F1 ι1 S1 H1 ws vs, Ext F ι H F1 ι1 H1 → Real G F1 ι1 S1 H1 → REnv G F1 ι1 σ ρ → RepWs G F1 ι1 ws vs → PostS G W F1 ι1 H1 (k ws S1) Dn → R vs H1) : TAo G W f σ H R :=
  ⟨F, ι, S, ρ, r, en, (p.bind en).mono fun F1 ι1 H1 w S1 x r1 q v hv => n F1 ι1 S1 H1 w v x r1 (en.ext x) hv q⟩
end
def TSo (G : Gc) (W : WX) (g : Sv) : TS := fun Dn σ H => ∃ F ι S ρ, Real G F ι S H ∧ REnv G F ι σ ρ ∧ PostS G W F ι H (g ρ S) Dn
structure DS (X : Cx) (xo : Option (Addr × Nat)) (st : Stmt) (g : Sv) : Prop where
  run : ∀ W, L2N.Takes X W → PS X st (TSo (gc X xo) W g)
structure DSs (X : Cx) (xo : Option (Addr × Nat)) (st : List Stmt) (g : Sv) : Prop where
  run : ∀ W, L2N.Takes X W → PSs X st (TSo (gc X xo) W g)
section
variable {X : Cx} {xo : Option (Addr × Nat)} {st : Stmt} {sts : List Stmt} {g h : Sv} {pos : Pos} {e : Expr} {f : Ev}
def sNil : Sv := fun ρ S => .nx ρ S
def sSeq (g h : Sv) : Sv := fun ρ S => match g ρ S with
  | .nx ρ' S' => h ρ' S'
  | r => r
theorem dss_nil : DSs X xo [] sNil := ⟨fun W tk => pss_imp pss_nil fun Dn σ H ⟨F, ι, S, ρ, r, en, p⟩ => p.nxt r en⟩
theorem dss_cons (a : DS X xo st g) (b : DSs X xo sts h) : DSs X xo (st :: sts) (sSeq g h) := ⟨fun W tk => pss_imp (pss_cons (a.run W tk) (b.run W tk)) fun Dn σ H ⟨F, ι, S, ρ, r, en, p⟩ => by
  refine ⟨F, ι, S, ρ, r, en, ?_⟩
  unfold sSeq at p
  cases q : g ρ S with
  | nx ρ' S' =>
    rw [q] at p
    exact fun F' ι' H' σ' x r' en' => ⟨F', ι', S', ρ', r', en', p.ext x⟩
  | rt w S' => rw [q] at p; exact p
  | bk _ _ => rw [q] at p; exact p
  | ct _ _ => rw [q] at p; exact p
  | rz _ _ _ => rw [q] at p; exact p
  | no => rw [q] at p; exact p⟩
theorem dss_one (a : DS X xo st g) : DSs X xo [st] g := ⟨fun W tk => pss_one (a.run W tk)⟩
theorem ds_pass : DS X xo (.Pass pos) sNil := ⟨fun W tk => ps_imp ps_pass fun Dn σ H ⟨F, ι, S, ρ, r, en, p⟩ => p.nxt r en⟩
def sBk : Sv := fun ρ S => .bk ρ S
def sCt : Sv := fun ρ S => .ct ρ S
theorem ds_break : DS X xo (.Break pos) sBk := ⟨fun W tk => ps_imp ps_break fun Dn σ H ⟨F, ι, S, ρ, r, en, p⟩ => p F ι H σ (.refl _ _ _) r en⟩
theorem ds_continue : DS X xo (.Continue pos) sCt := ⟨fun W tk => ps_imp ps_continue fun Dn σ H ⟨F, ι, S, ρ, r, en, p⟩ => p F ι H σ (.refl _ _ _) r en⟩
def sExpr (f : Ev) : Sv := fun ρ S => (f ρ S).toS ρ fun _ S' => .nx ρ S'
theorem ds_expr (he : DE X xo e f) (hs : swapsWith e none pos.line X.env = pure false := by rfl) : DS X xo (.Expr e pos) (sExpr f) :=
  ⟨fun W tk => ps_imp (ps_expr (he.run W tk) hs) fun Dn σ H ⟨F, ι, S, ρ, r, en, p⟩ => TEo.stepS r en p fun F1 ι1 S1 H1 w v x r1 en1 hv p1 => p1.nxt r1 en1⟩
def sRet (f : Ev) : Sv := fun ρ S => (f ρ S).toS ρ fun w S' => if w.calm = true then .rt w S' else .no
theorem ds_ret (he : DE X xo e f) : DS X xo (.Return (some e) pos) (sRet f) :=
  ⟨fun W tk => ps_imp (ps_ret (he.run W tk)) fun Dn σ H ⟨F, ι, S, ρ, r, en, p⟩ => TEo.stepS r en p fun F1 ι1 S1 H1 w v x r1 en1 hv p1 => by
    split at p1
    · rename_i hc
      exact p1 F1 ι1 H1 v (.refl _ _ _) r1 (calm_of hv hc)
    · exact p1.elim⟩
def sSet (i : Nat) (f : Ev) : Sv := fun ρ S => (f ρ S).toS ρ fun w S' => .nx (ρ.set i (some w)) S'
theorem ds_set {i : Nat} {x : Str} {pos' : Pos} (hN : X.N.Nodup) (hi : X.N[i]? = some x) (hx : Loc X.env.scope x) (he : DE X xo e f) (hs : swapsWith e (some (.Name x pos')) pos.line X.env = pure false := by rfl)
    (hf : X.fn x = true ∨ X.env.scope.names.lookup x = some .local := by first | exact .inl rfl | exact .inr rfl | assumption) : DS X xo (.Assign [.Name x pos'] e pos) (sSet i f) :=
  ⟨fun W tk => ps_imp (ps_set hN hi hx (he.run W tk) hs hf) fun Dn σ H ⟨F, ι, S, ρ, r, en, p⟩ => TEo.stepS r en p fun F1 ι1 S1 H1 w v x r1 en1 hv p1 => p1.nxt r1 (en1.set i hv)⟩
def sIf (t : Env → Store → Res Bool) (g h : Sv) : Sv := fun ρ S => (t ρ S).toS ρ fun b S' => if b = true then g ρ S' else h ρ S'
theorem ds_if {c : Expr} {a b : List Stmt} {t : Env → Store → Res Bool} (hc : DT X xo c t) (ha : DSs X xo a g) (hb : DSs X xo b h) : DS X xo (.If c a b pos) (sIf t g h) :=
  ⟨fun W tk => ps_imp (ps_if (hc.run W tk) (ha.run W tk) (hb.run W tk)) fun Dn σ H ⟨F, ι, S, ρ, r, en, p⟩ => TTo.stepS r en p fun F1 ι1 S1 H1 b x r1 en1 p1 => by
    cases b with
    | true => exact ⟨F1, ι1, S1, ρ, r1, en1, p1⟩
    | false => exact ⟨F1, ι1, S1, ρ, r1, en1, p1⟩⟩

/-! ## while -/
def iter (t : Env → Store → Res Bool) (g : Sv) : Nat → Env → Store → Option SR
  | 0, _, _ => none
  | n + 1, ρ, S => match t ρ S with
    | .ok false S1 => some (.nx ρ S1)
    | .ok true S1 => match g ρ S1 with
      | .nx ρ' S' => iter t g n ρ' S'
      | .ct ρ' S' => iter t g n ρ' S'
      | .bk ρ' S' => some (.nx ρ' S')
      | r => some r
    | .rz c S1 => some (.rz c ρ S1)
    | .no => some .no
open Classical in
noncomputable def sWhile (t : Env → Store → Res Bool) (g : Sv) : Sv := fun ρ S => if h : ∃ n r, iter t g n ρ S = some r then h.choose_spec.choose else .no
theorem iter_more {t : Env → Store → Res Bool} {g : Sv} : ∀ {n : Nat} {ρ : Env} {S : Store} {r : SR}, iter t g n ρ S = some r → iter t g (n + 1) ρ S = some r
  | 0, _, _, _, h => by cases h
  | n + 1, ρ, S, r, h => by
    rw [iter] at h ⊢
    cases q : t ρ S with
    | ok b S1 =>
      rw [q] at h
      cases b with
      | false => exact h
      | true =>
        simp only at h ⊢
        cases q2 : g ρ S1 with
        | nx ρ' S' => rw [q2] at h; exact iter_more h
        | ct ρ' S' => rw [q2] at h; exact iter_more h
        | bk _ _ => rw [q2] at h; exact h
        | rt _ _ => rw [q2] at h; exact h
        | rz _ _ _ => rw [q2] at h; exact h
        | no => rw [q2] at h; exact h
    | rz c S1 => rw [q] at h; exact h
    | no => rw [q] at h; exact h
theorem iter_le {t : Env → Store → Res Bool} {g : Sv} {n : Nat} {ρ : Env} {S : Store} {r : SR} (h : iter t g n ρ S = some r) : ∀ k, iter t g (n + k) ρ S = some r
  | 0 => h
  | k + 1 => iter_more (iter_le h k)
theorem sWhile_eq {t : Env → Store → Res Bool} {g : Sv} {n : Nat} {ρ : Env} {S : Store} {r : SR} (h : iter t g n ρ S = some r) : sWhile t g ρ S = r := by
  have hex : ∃ n r, iter t g n ρ S = some r := ⟨n, r, h⟩
  unfold sWhile
  rw [dif_pos hex]
  have h1 := iter_le hex.choose_spec.choose_spec n
  have h2 := iter_le h hex.choose
  rw [Nat.add_comm] at h1
  rw [h1] at h2
  exact Option.some.inj h2
theorem ds_while {c : Expr} {body : List Stmt} {t : Env → Store → Res Bool} (hp : PassesOwn (model X.prog X.w) X.A X.env X.xe) (hc : DT X xo c t) (hb : DSs X xo body g) : DS X xo (.While c body [] pos) (sWhile t g) :=
  ⟨fun W tk => ps_imp (ps_while hp (hc.run W tk) (hb.run W tk)) fun Dn σ H ⟨F, ι, S, ρ, r, en, p⟩ => by
    have p' : ∃ n q, iter t g n ρ S = some q ∧ PostS (gc X xo) W F ι H q Dn := by
      unfold sWhile at p
      split at p
      · rename_i hh
        exact ⟨_, _, hh.choose_spec.choose_spec, p⟩
      · exact p.elim
    obtain ⟨n, q, hn, hq⟩ := p'
    refine ⟨fun m σ H => ∃ F ι S ρ q, Real (gc X xo) F ι S H ∧ REnv (gc X xo) F ι σ ρ ∧ iter t g m ρ S = some q ∧ PostS (gc X xo) W F ι H q Dn, ⟨n, F, ι, S, ρ, q, r, en, hn, hq⟩, ?_⟩
    rintro m σ2 H2 ⟨F2, ι2, S2, ρ2, q2, r2, en2, hm, hq2⟩
    cases m with
    | zero => cases hm
    | succ m =>
      rw [iter] at hm
      refine ⟨F2, ι2, S2, ρ2, r2, en2, ?_⟩
      cases e1 : t ρ2 S2 with
      | no => rw [e1] at hm; cases hm; exact hq2
      | rz c S3 =>
        rw [e1] at hm; cases hm
        exact fun F3 ι3 H3 Ca x r3 ec => hq2 F3 ι3 H3 σ2 Ca x r3 (en2.ext x) ec
      | ok b S3 =>
        rw [e1] at hm
        intro F3 ι3 H3 x3 r3
        cases b with
        | false =>
          cases hm
          exact (hq2.ext x3).nxt r3 (en2.ext x3)
        | true =>
          rw [if_pos rfl]
          simp only at hm
          refine ⟨fun σ' H' => ∃ F ι S ρ q, Real (gc X xo) F ι S H' ∧ REnv (gc X xo) F ι σ' ρ ∧ iter t g m ρ S = some q ∧ PostS (gc X xo) W F ι H' q Dn, fun σ' H' h => ⟨m, Nat.lt_succ_self _, h⟩, F3, ι3, S3, ρ2, r3, en2.ext x3, ?_⟩
          cases e2 : g ρ2 S3 with
          | nx ρ' S' => rw [e2] at hm; exact fun F4 ι4 H4 σ4 x4 r4 en4 => ⟨F4, ι4, S', ρ', q2, r4, en4, hm, hq2.ext (x3.trans x4)⟩
          | ct ρ' S' => rw [e2] at hm; exact fun F4 ι4 H4 σ4 x4 r4 en4 => ⟨F4, ι4, S', ρ', q2, r4, en4, hm, hq2.ext (x3.trans x4)⟩
          | bk ρ' S' => rw [e2] at hm; cases hm; exact hq2.ext x3
          | rt w S' => rw [e2] at hm; cases hm; exact hq2.ext x3
          | rz c ρ' S' => rw [e2] at hm; cases hm; exact hq2.ext x3
          | no => rw [e2] at hm; cases hm; exact hq2⟩

/-! ## what is walked -/
open Classical in
noncomputable def sForL (chk : Store → Prop) (i : Nat) (g : Sv) : List Wv → Env → Store → SR
  | [], ρ, S => if chk S then .nx ρ S else .no
  | w :: ws, ρ, S => if chk S then match g (ρ.set i (some w)) S with
      | .nx ρ' S' => sForL chk i g ws ρ' S'
      | .ct ρ' S' => sForL chk i g ws ρ' S'
      | .bk ρ' S' => .nx ρ' S'
      | r => r
    else .no
/-- a range's loop -/
def rangeW (lo : Int) (n : Nat) (c : Int) : List Wv := (List.range n).map fun (k : Nat) => .d (.int (lo + (k : Int) * c))
/-- an iterator that turns through the items: what it asks at a turn, what it gives -/
def Walks (G : Gc) (w : Wv) (ws : List Wv) (chk : Store → Prop) (v : V) (J : It) : Prop :=
  ∀ (i : Nat) (F : Hp) (ι : List Addr) (S : Store) (H : Hp), i ≤ ws.length → Real G F ι S H → RepW G F ι w v → chk S →
    (∀ u, ws[i]? = some u → J.go i H ∧ ∀ x H', J.yld i H x H' → H' = H ∧ RepW G.calm F ι u x) ∧ (i = ws.length → J.stop i H)
theorem walks_list {G : Gc} {w : Wv} {ws : List Wv} {a : Addr} : Walks G w ws (fun S => seqW S w = some (true, ws)) (.ref a) (Itl G.K a) := by
  intro i F ι S H hi r h e
  obtain ⟨a', xs, ea, q, p⟩ := seqW_rep r h e
  cases ea
  refine ⟨fun u hu => ?_, fun e => ⟨xs, q, by rw [← p.length, e]; exact Nat.le_refl _⟩⟩
  obtain ⟨x, h1, h2⟩ := p2get p hu
  refine ⟨⟨xs, x, q, h1⟩, fun y H' hy => ?_⟩
  obtain ⟨e1, e2⟩ := hy
  have := e2 xs q
  rw [h1] at this
  cases this
  exact ⟨e1, h2⟩
theorem walks_tup {G : Gc} {w : Wv} {ws : List Wv} {a : Addr} : Walks G w ws (fun S => seqW S w = some (false, ws)) (.ref a) (Itt G.K a) := by
  intro i F ι S H hi r h e
  obtain ⟨a', xs, ea, q, p⟩ := seqW_rep r h e
  cases ea
  refine ⟨fun u hu => ?_, fun e => ⟨xs, q, by rw [← p.length, e]; exact Nat.le_refl _⟩⟩
  obtain ⟨x, h1, h2⟩ := p2get p hu
  refine ⟨⟨xs, x, q, h1⟩, fun y H' hy => ?_⟩
  obtain ⟨e1, e2⟩ := hy
  have := e2 xs q
  rw [h1] at this
  cases this
  exact ⟨e1, h2⟩
theorem walks_str {G : Gc} {z : Str} {v : V} : Walks G (.d (.str z)) (z.cps.toList.map fun c => .d (.str ⟨#[c]⟩)) (fun _ => True) v (Its z) := by
  intro i F ι S H hi r h e
  refine ⟨fun u hu => ?_, fun e => show z.cps.size ≤ i by rw [e]; simp⟩
  rw [List.getElem?_map] at hu
  cases q : z.cps.toList[i]? with
  | none => rw [q] at hu; cases hu
  | some c =>
    rw [q] at hu
    cases hu
    have hlt : i < z.cps.toList.length := (List.getElem?_eq_some_iff.mp q).1
    refine ⟨show i < z.cps.size by simpa using hlt, fun x H' hy => ?_⟩
    obtain ⟨e1, c', e2, e3⟩ := hy
    have e4 : z.cps[i]? = some c := by simpa using q
    rw [e4] at e2
    cases e2
    exact ⟨e1, by rw [e3]; exact w_str.mpr rfl⟩
theorem rangeW_get {lo : Int} {n : Nat} {c : Int} {i : Nat} {u : Wv} (h : (rangeW lo n c)[i]? = some u) : i < n ∧ u = .d (.int (lo + (i : Int) * c)) := by
  unfold rangeW at h
  rw [List.getElem?_map] at h
  cases q : (List.range n)[i]? with
  | none => rw [q] at h; cases h
  | some k =>
    rw [q] at h
    cases h
    have hlt := (List.getElem?_eq_some_iff.mp q).1
    rw [List.length_range] at hlt
    rw [List.getElem?_range hlt] at q
    cases q
    exact ⟨hlt, rfl⟩
theorem walks_range {G : Gc} {lo c : Int} {n : Nat} {v : V} : Walks G (.d .non) (rangeW lo n c) (fun _ => True) .non (Itc lo c n) := by
  intro i F ι S H hi r h e
  refine ⟨fun u hu => ?_, fun e => show n ≤ i by rw [e]; simp [rangeW]⟩
  obtain ⟨h1, rfl⟩ := rangeW_get hu
  exact ⟨h1, fun x H' hy => ⟨hy.1, by rw [hy.2]; exact w_int.mpr rfl⟩⟩
theorem walks_range1 {G : Gc} {lo : Int} {n : Nat} {v : V} : Walks G (.d .non) (rangeW lo n 1) (fun _ => True) .non (Itr lo n) := by
  intro i F ι S H hi r h e
  refine ⟨fun u hu => ?_, fun e => show n ≤ i by rw [e]; simp [rangeW]⟩
  obtain ⟨h1, rfl⟩ := rangeW_get hu
  exact ⟨h1, fun x H' hy => ⟨hy.1, by rw [hy.2]; exact w_int.mpr (by rw [Int.mul_one])⟩⟩
/-- an iterable, whatever it is -/
structure DI (X : Cx) (xo : Option (Addr × Nat)) (tg iter : Expr) (f : Env → Store → Res (Wv × List Wv × (Store → Prop))) : Prop where
  run : ∀ W, L2N.Takes X W → ∃ wi, PI X tg iter wi ∧ ∀ σ H (R : It → Hp → Prop), (∃ F ι S ρ, Real (gc X xo) F ι S H ∧ REnv (gc X xo) F ι σ ρ ∧ Post (gc X xo) W F ι H σ (f ρ S) fun F' ι' H' q S' => q.2.2 S' ∧ ∀ v J, RepW (gc X xo) F' ι' q.1 v → Walks (gc X xo) q.1 q.2.1 q.2.2 v J → R J H') → wi σ H R
def evItems (f : Ev) : Env → Store → Res (Wv × List Wv × (Store → Prop)) := fun ρ S => (f ρ S).bind fun w S1 => match w with
  | .d (.str z) => .ok (w, (z.cps.toList.map fun c => .d (.str ⟨#[c]⟩)), fun _ => True) S1
  | w => match seqW S1 w with
    | some (k, ws) => .ok (w, ws, fun S => seqW S w = some (k, ws)) S1
    | none => .no
theorem pi_any {tg l : Expr} {tl : TE} (hl : PE X l tl) : PI X tg l (fun σ H R => tl σ H fun x H1 => (∃ a, x = .ref a ∧ (((∃ xs, SqL X.K H1 a xs) ∧ R (Itl X.K a) H1) ∨ ((∃ xs, SqT X.K H1 a xs) ∧ R (Itt X.K a) H1))) ∨ ∃ z, x = .str z ∧ R (Its z) H1) := by
  refine ⟨fun pins s σ H R I hh => ?_⟩
  refine thn (hl.run pins s σ H _ I hh) fun v s1 ⟨x, H1, I1, r1, q1⟩ => ?_
  have own : ∀ {o : Obj}, ∀ b ∈ [s1.heap.objs.size], FpOk X pins H1 b := fun b hb => by
    have e : b = s1.heap.objs.size := by simpa using hb
    subst e
    exact I1.fpOk (Nat.le_refl _) (I1.hok.fresh (Nat.le_refl _))
  rcases q1 with ⟨a, rfl, ⟨⟨xs, hq⟩, q⟩ | ⟨⟨xs, hq⟩, q⟩⟩ | ⟨z, rfl, q⟩
  · cases r1
    obtain ⟨its, rv, pl, hz⟩ := I1.list hq
    exact wpAny_pyIter_list pl.isList ⟨s1.heap.objs.size, [s1.heap.objs.size], _, _, H1, rfl, I1.kept (t' := s1.toks) fun b o e => Heap.get?_push_of_some _ e, turn_list a _, ⟨_, Heap.get?_push_size _ rfl, rfl, rfl⟩, own (o := ⟨.none, none, .fields #[], #[]⟩), q⟩
  · cases r1
    obtain ⟨its, rv, pl, hz⟩ := I1.tuple hq
    exact wpAny_pyIter_tuple (show s1.heap.IsTuple a its.toArray from pl) ⟨s1.heap.objs.size, [s1.heap.objs.size], _, _, H1, rfl, I1.kept (t' := s1.toks) fun b o e => Heap.get?_push_of_some _ e, turn_tuple a _, ⟨_, Heap.get?_push_size _ rfl, rfl, rfl⟩, own (o := ⟨.none, none, .fields #[], #[]⟩), q⟩
  · obtain ⟨t, rfl⟩ := r1
    cases ha : z.cps.all (· < 128)
    · exact wpAny_pyIter_wide ha (pi_one (tk := s1.toks) I1 _ (turn_str _ z t "str_iterator" (.inr rfl)) ⟨_, Heap.get?_push_size _ rfl, rfl, rfl⟩ q)
    · exact wpAny_pyIter_ascii ha (pi_one (tk := s1.toks) I1 _ (turn_str _ z t "str_ascii_iterator" (.inl rfl)) ⟨_, Heap.get?_push_size _ rfl, rfl, rfl⟩ q)
theorem di_any {tg l : Expr} (hl : DE X xo l f) : DI X xo tg l (evItems f) := ⟨fun W tk => ⟨_, pi_any (hl.run W tk), fun σ H R ⟨F, ι, S, ρ, r, en, p⟩ => by
  refine TEo.step r en p fun F1 ι1 S1 H1 w v x r1 en1 hv p1 => ?_
  split at p1
  · rename_i z
    have h0 := p1.now (.refl _ _ _) r1
    exact .inr ⟨z, w_str.mp hv, h0.2 v _ hv walks_str⟩
  · split at p1
    · rename_i k ws e
      have h0 := p1.now (.refl _ _ _) r1
      obtain ⟨a, xs, rfl, q, _⟩ := seqW_rep r1 hv e
      refine .inl ⟨a, rfl, ?_⟩
      cases k with
      | true => exact .inl ⟨⟨xs, q⟩, h0.2 _ _ hv walks_list⟩
      | false => exact .inr ⟨⟨xs, q⟩, h0.2 _ _ hv walks_tup⟩
    · exact p1.elim⟩⟩
abbrev Itms : Type := Wv × List Wv × (Store → Prop)
def gRange1 : List Wv → Store → Res Itms
  | [.d (.int j)], S => if j.natAbs < 4611686018427387904 then .ok (.d .non, rangeW 0 j.toNat 1, fun _ => True) S else .no
  | _, _ => .no
def gRange2 : List Wv → Store → Res Itms
  | [.d (.int i), .d (.int j)], S => if i.natAbs < 4611686018427387904 ∧ j.natAbs < 4611686018427387904 then .ok (.d .non, rangeW i (j - i).toNat 1, fun _ => True) S else .no
  | _, _ => .no
def gRange3 : List Wv → Store → Res Itms
  | [.d (.int i), .d (.int j), .d (.int c)], S => if c ≠ 0 ∧ c.natAbs < 1073741824 ∧ Builtin.Range.small i j c = true ∧ 0 ≤ Builtin.Range.rangeSize i j c then .ok (.d .non, rangeW i (Builtin.Range.rangeSize i j c).toNat c, fun _ => True) S else .no
  | _, _ => .no
def evRange (g : List Wv → Store → Res Itms) (fs : Env → Store → Res (List Wv)) : Env → Store → Res Itms := fun ρ S => (fs ρ S).bind g
theorem ws3 {G : Gc} {F : Hp} {ι : List Addr} {w u z : Wv} {vs : List V} (h : RepWs G F ι [w, u, z] vs) : ∃ v y x, vs = [v, y, x] ∧ RepW G F ι w v ∧ RepW G F ι u y ∧ RepW G F ι z x := by
  cases h with
  | cons r t =>
    obtain ⟨y, x, rfl, q, q2⟩ := ws2 t
    exact ⟨_, _, _, rfl, r, q, q2⟩
theorem two62 : (2 : Int) ^ 62 = 4611686018427387904 := by decide
theorem di_range1 {tg a : Expr} {fs : Env → Store → Res (List Wv)} {p pos : Pos} (hg : Gl X "range") (hm : X.mg "range" = none) (ha : DA X xo [a] fs) (hs : starEach [a] X.env = [(false, eval a X.env)] := by rfl) : DI X xo tg (.Call (.Name "range" p) [a] [] pos) (evRange gRange1 fs) :=
  ⟨fun W tk => ⟨_, pi_range1 hg hm (ha.run W tk) hs, fun σ H R ⟨F, ι, S, ρ, r, en, p⟩ => TAo.step r en p fun F1 ι1 S1 H1 ws vs x r1 en1 hv p1 => by
    unfold gRange1 at p1
    split at p1
    · split at p1
      · rename_i hz
        obtain ⟨v, rfl, h1⟩ := ws1 hv
        rw [w_int.mp h1]
        have h0 := p1.now (.refl _ _ _) r1
        exact ⟨_, rfl, by rw [two62]; omega, by rw [two62]; omega, h0.2 _ _ (w_non.mpr rfl) (walks_range1 (v := .non))⟩
      · exact p1.elim
    · exact p1.elim⟩⟩
theorem di_range2 {tg a b : Expr} {fs : Env → Store → Res (List Wv)} {p pos : Pos} (hg : Gl X "range") (hm : X.mg "range" = none) (ha : DA X xo [a, b] fs) (hs : starEach [a, b] X.env = [(false, eval a X.env), (false, eval b X.env)] := by rfl) (hs2 : starEach [b] X.env = [(false, eval b X.env)] := by rfl) :
    DI X xo tg (.Call (.Name "range" p) [a, b] [] pos) (evRange gRange2 fs) :=
  ⟨fun W tk => ⟨_, pi_range2 hg hm (ha.run W tk) hs hs2, fun σ H R ⟨F, ι, S, ρ, r, en, p⟩ => TAo.step r en p fun F1 ι1 S1 H1 ws vs x r1 en1 hv p1 => by
    unfold gRange2 at p1
    split at p1
    · split at p1
      · rename_i hz
        obtain ⟨v, y, rfl, h1, h2⟩ := ws2 hv
        rw [w_int.mp h1, w_int.mp h2]
        have h0 := p1.now (.refl _ _ _) r1
        exact ⟨_, _, rfl, by rw [two62]; omega, h0.2 _ _ (w_non.mpr rfl) (walks_range1 (v := .non))⟩
      · exact p1.elim
    · exact p1.elim⟩⟩
theorem di_range3 {tg a b c : Expr} {fs : Env → Store → Res (List Wv)} {p pos : Pos} (hg : Gl X "range") (hm : X.mg "range" = none) (ha : DA X xo [a, b, c] fs)
    (hs : starEach [a, b, c] X.env = (false, eval a X.env) :: starEach [b, c] X.env := by rfl) (hpl : (backTo pos (starEach [b, c] X.env)).any (·.1) = false := by rfl) : DI X xo tg (.Call (.Name "range" p) [a, b, c] [] pos) (evRange gRange3 fs) :=
  ⟨fun W tk => ⟨_, pi_range3 hg hm (ha.run W tk) hs hpl, fun σ H R ⟨F, ι, S, ρ, r, en, p⟩ => TAo.step r en p fun F1 ι1 S1 H1 ws vs x r1 en1 hv p1 => by
    unfold gRange3 at p1
    split at p1
    · split at p1
      · rename_i hz
        obtain ⟨v, y, z, rfl, h1, h2, h3⟩ := ws3 hv
        rw [w_int.mp h1, w_int.mp h2, w_int.mp h3]
        have h0 := p1.now (.refl _ _ _) r1
        exact ⟨_, _, _, _, rfl, ⟨hz.1, hz.2.1, hz.2.2.1, (Int.toNat_of_nonneg hz.2.2.2).symm⟩, h0.2 _ _ (w_non.mpr rfl) (walks_range (v := .non))⟩
      · exact p1.elim
    · exact p1.elim⟩⟩

/-! ## for -/
noncomputable def sFor (i : Nat) (f : Env → Store → Res Itms) (g : Sv) : Sv := fun ρ S => (f ρ S).toS ρ fun q S1 => sForL q.2.2 i g q.2.1 ρ S1
theorem ds_for {i : Nat} {x : Str} {pos' : Pos} {it : Expr} {body : List Stmt} {fi : Env → Store → Res Itms} (hp : PassesOwn (model X.prog X.w) X.A X.env X.xe) (hc : X.calm = true) (hN : X.N.Nodup) (hi : X.N[i]? = some x) (hx : Loc X.env.scope x)
    (hit : DI X xo (.Name x pos') it fi) (hb : DSs X xo body g) (hf : X.fn x = true ∨ X.env.scope.names.lookup x = some .local := by first | exact .inl rfl | exact .inr rfl | assumption)
    (hs : ∀ x, foldedSetIterable it X.env x = pure x := by intro _; rfl) : DS X xo (.For (.Name x pos') it body [] pos) (sFor i fi g) :=
  ⟨fun W tk => by
    obtain ⟨wi, h1, h2⟩ := hit.run W tk
    refine ps_imp (ps_for hp hc h1 (pg_name hN hi hx hf) (hb.run W tk) hs) fun Dn σ H ⟨F, ι, S, ρ, r, en, p⟩ => h2 σ H _ ⟨F, ι, S, ρ, r, en, (p.bind en).mono fun F1 ι1 H1 q S1 x1 r1 p1 => ?_⟩
    have hchk : q.2.2 S1 := by
      cases e : q.2.1 with
      | nil =>
        rw [e, sForL] at p1
        split at p1
        · assumption
        · exact p1.elim
      | cons w ws =>
        rw [e, sForL] at p1
        split at p1
        · assumption
        · exact p1.elim
    refine ⟨hchk, fun v J hv hw => ?_⟩
    refine ⟨fun k m σ H => m = q.2.1.length - k ∧ k ≤ q.2.1.length ∧ ∃ F ι S ρ, Real (gc X xo) F ι S H ∧ REnv (gc X xo) F ι σ ρ ∧ RepW (gc X xo) F ι q.1 v ∧ PostS (gc X xo) W F ι H (sForL q.2.2 i g (q.2.1.drop k) ρ S) Dn, ⟨q.2.1.length, by simp, Nat.zero_le _, F1, ι1, S1, ρ, r1, en.ext x1, hv, p1⟩, ?_⟩
    rintro k m σ2 H2 ⟨rfl, hk, F2, ι2, S2, ρ2, r2, en2, hv2, p2⟩
    by_cases hlt : k < q.2.1.length
    · right
      rw [List.drop_eq_getElem_cons hlt, sForL] at p2
      split at p2
      · rename_i hch
        obtain ⟨hg, _⟩ := hw k F2 ι2 S2 H2 hk r2 hv2 hch
        obtain ⟨hgo, hy⟩ := hg _ (List.getElem?_eq_getElem hlt)
        refine ⟨hgo, fun σ' H' => ∃ F ι S ρ, Real (gc X xo) F ι S H' ∧ REnv (gc X xo) F ι σ' ρ ∧ RepW (gc X xo) F ι q.1 v ∧ PostS (gc X xo) W F ι H' (sForL q.2.2 i g (q.2.1.drop (k + 1)) ρ S) Dn, fun σ' H' hh => ⟨q.2.1.length - (k + 1), by omega, rfl, hlt, hh⟩, fun y H' hyy => ?_⟩
        obtain ⟨rfl, ry⟩ := hy y H' hyy
        refine ⟨F2, ι2, S2, _, r2, en2.set i (uncalm ry), ?_⟩
        cases e : g (ρ2.set i (some q.2.1[k])) S2 with
        | nx ρ' S' => rw [e] at p2; exact fun F4 ι4 H4 σ4 x4 r4 en4 => ⟨F4, ι4, S', ρ', r4, en4, hv2.ext x4, p2.ext x4⟩
        | ct ρ' S' => rw [e] at p2; exact fun F4 ι4 H4 σ4 x4 r4 en4 => ⟨F4, ι4, S', ρ', r4, en4, hv2.ext x4, p2.ext x4⟩
        | bk ρ' S' => rw [e] at p2; exact p2
        | rt w S' => rw [e] at p2; exact p2
        | rz c ρ' S' => rw [e] at p2; exact p2
        | no => rw [e] at p2; exact p2
      · exact p2.elim
    · left
      have ek : k = q.2.1.length := by omega
      subst ek
      rw [List.drop_length, sForL] at p2
      split at p2
      · rename_i hch
        exact ⟨(hw _ F2 ι2 S2 H2 hk r2 hv2 hch).2 rfl, p2.nxt r2 en2⟩
      · exact p2.elim⟩

/-! ## list comprehensions -/
def wipeE (ρ : Env) : List Nat → Env
  | [] => ρ
  | v :: vs => (wipeE ρ vs).set v none
theorem REnv.wipe {G : Gc} {F : Hp} {ι : List Addr} {σ : St} {ρ : Env} (r : REnv G F ι σ ρ) : ∀ vs : List Nat, REnv G F ι (wipe σ vs) (wipeE ρ vs)
  | [] => r
  | v :: vs => (r.wipe vs).unset v
open Classical in
noncomputable def lcL (chk : Store → Prop) (i : Nat) (t : Env → Store → Res Bool) (f : Ev) : List Wv → Env → Store → List Wv → Res (List Wv)
  | [], ρ, S, acc => if chk S then .ok acc S else .no
  | w :: ws, ρ, S, acc => if chk S then match t (ρ.set i (some w)) S with
      | .ok true S1 => match f (ρ.set i (some w)) S1 with
        | .ok x S2 => if x.calm = true then lcL chk i t f ws ρ S2 (acc ++ [x]) else .no
        | _ => .no
      | .ok false S1 => lcL chk i t f ws ρ S1 acc
      | _ => .no
    else .no
/-- the tests of a comprehension -/
structure DTs (X : Cx) (xo : Option (Addr × Nat)) (es : List Expr) (t : Env → Store → Res Bool) : Prop where
  run : ∀ W, L2N.Takes X W → PTs X es (TTo (gc X xo) W t)
def evYes : Env → Store → Res Bool := fun _ S => .ok true S
theorem dts_nil : DTs X xo [] evYes := ⟨fun W tk => ⟨fun pins s σ H Q I ⟨F, ι, S, ρ, r, en, p⟩ => pts_nil.run pins s σ H Q I (p.now (.refl _ _ _) r)⟩⟩
theorem dts_one {c : Expr} {t : Env → Store → Res Bool} (h : DT X xo c t) : DTs X xo [c] t := ⟨fun W tk => pts_one (h.run W tk)⟩
/-- the list so far, then what becomes of it -/
noncomputable def evLc0 (fi : Env → Store → Res Itms) (i : Nat) (vs : List Nat) (t : Env → Store → Res Bool) (f : Ev) : Env → Store → Res (List Wv) := fun ρ S =>
  (fi ρ S).bind fun q S1 => if q.2.1.length ≤ 16777216 then lcL q.2.2 i t f q.2.1 (wipeE ρ vs) S1 [] else .no
/-- frozen, or kept in the store -/
def gFrz : List Wv → Store → Res Wv := fun ws S => match allD ws with
  | some ds => .ok (.d (.lst ds)) S
  | none => .no
def gKeep : List Wv → Store → Res Wv := fun ws S => .ok (.ref S.length) (S ++ [.lst ws])
noncomputable def evLc (k : List Wv → Store → Res Wv) (fi : Env → Store → Res Itms) (i : Nat) (vs : List Nat) (t : Env → Store → Res Bool) (f : Ev) : Ev := fun ρ S => (evLc0 fi i vs t f ρ S).bind k
/-- what a new list that we have in hand becomes -/
def Kp (G : Gc) (k : List Wv → Store → Res Wv) : Prop := ∀ (W : WX) (F0 F : Hp) (ι0 ι : List Addr) (S : Store) (H0 H : Hp) (σ : St) (ws : List Wv) (xs : List V) (D : Addr) (Q : VK), Ext F0 ι0 H0 F ι H → H0 D = none → Real G F ι S H → H D = some (.lst xs) → F D = none → D ∉ ι → RepWs G.calm F ι ws xs → PostE G W F0 ι0 H0 σ (k ws S) Q → Q (.ref D) H
theorem kp_frz {G : Gc} : Kp G gFrz := by
  intro W F0 F ι0 ι S H0 H σ ws xs D Q x h0 r hD hF hi hw p
  unfold gFrz at p
  split at p
  · rename_i ds e
    rw [allD_eq e] at hw
    refine p _ ι H ⟨fun a o q => fz_new hF a o (x.fz a o q), x.pre, x.fr, fun b o q n f => ?_⟩ (r.toF hD hF hi) _ (w_lst.mpr ⟨D, xs, rfl, upd_same, p2imp (fun _ _ z => z.mono (.of (fz_new hF))) (repWs_d hw)⟩)
    have nb : b ≠ D := fun z => by rw [z, h0] at q; cases q
    rw [upd_ne nb]
    exact x.fn b o q n f
  · exact p.elim
theorem kp_keep {G : Gc} : Kp G gKeep := by
  intro W F0 F ι0 ι S H0 H σ ws xs D Q x h0 r hD hF hi hw p
  refine p F (ι ++ [D]) H ⟨x.fz, ?_, fun b o q n => ?_, x.fn⟩ (r.toS hD hF hi ⟨xs, rfl, p2imp (fun _ _ z => z.mono (fun _ _ q => q) ⟨[D], rfl⟩) hw⟩) _ ⟨D, by rw [← r.len]; simp, rfl⟩
  · obtain ⟨t, e⟩ := x.pre
    exact ⟨t ++ [D], by rw [e, List.append_assoc]⟩
  · obtain ⟨n1, q1⟩ := x.fr b o q n
    have nb : b ≠ D := fun z => by rw [z, h0] at q; cases q
    exact ⟨by simp [n1, nb], q1⟩
theorem takesF : L2N.Takes X (fun _ _ _ _ => False) := fun _ _ x => by
  obtain ⟨_, _, _, _, _, _, _, _, _, _, _, _, _, _, _, _, z⟩ := x
  exact z.elim
theorem wipe_set {σ : St} {i : Nat} {o : Option V} : ∀ {vs : List Nat}, i ∈ vs → wipe ((wipe σ vs).set i o) vs = wipe σ vs := by
  intro vs hi
  apply List.ext_getElem?
  intro j
  have key : ∀ (τ : St) (ws : List Nat) (j : Nat), (wipe τ ws)[j]? = if j ∈ ws then (τ[j]?).map fun _ => none else τ[j]? := by
    intro τ ws
    induction ws with
    | nil => intro j; simp [wipe]
    | cons a ws ih =>
      intro j
      unfold wipe
      by_cases hj : a = j
      · subst hj
        by_cases hl : a < τ.length
        · rw [List.getElem?_set_self (by rw [wipe_length]; exact hl)]
          simp [List.getElem?_eq_getElem hl]
        · rw [List.getElem?_eq_none (by rw [List.length_set, wipe_length]; omega), List.getElem?_eq_none (by omega)]
          simp
      · rw [List.getElem?_set_ne hj, ih]
        have : j ∈ a :: ws ↔ j ∈ ws := by simp [Ne.symm hj]
        simp only [this]
  rw [key, key]
  by_cases hj : j ∈ vs
  · rw [if_pos hj, if_pos hj]
    by_cases hij : i = j
    · subst hij
      by_cases hl : i < σ.length
      · rw [List.getElem?_set_self (by rw [wipe_length]; exact hl), List.getElem?_eq_getElem hl]; rfl
      · rw [List.getElem?_eq_none (by rw [List.length_set, wipe_length]; omega), List.getElem?_eq_none (by omega)]
    · rw [List.getElem?_set_ne hij, key, if_pos hj]
      cases σ[j]? <;> rfl
  · rw [if_neg hj, if_neg hj]
    have hij : i ≠ j := fun e => hj (e ▸ hi)
    rw [List.getElem?_set_ne hij, key, if_neg hj]
/-- the reading of a comprehension's loop -/
theorem lc_read {k : List Wv → Store → Res Wv} {i : Nat} {vs : List Nat} {fi : Env → Store → Res Itms} {t : Env → Store → Res Bool} {f : Ev} {wi : TI} {W : WX} {σ : St} {H : Hp} {Q : VK} (hk : Kp (gc X xo) k) (hi : i ∈ vs)
    (h2 : ∀ σ H (R : It → Hp → Prop), (∃ F ι S ρ, Real (gc X xo) F ι S H ∧ REnv (gc X xo) F ι σ ρ ∧ Post (gc X xo) W F ι H σ (fi ρ S) fun F' ι' H' q S' => q.2.2 S' ∧ ∀ v J, RepW (gc X xo) F' ι' q.1 v → Walks (gc X xo) q.1 q.2.1 q.2.2 v J → R J H') → wi σ H R)
    (h : TEo (gc X xo) W (evLc k fi i vs t f) σ H Q) : tLc wi (gName i) (TTo (gc X xo) (fun _ _ _ _ => False) t) (TEo (gc X xo) (fun _ _ _ _ => False) f) vs σ H Q := by
  obtain ⟨F, ι, S, ρ, r, en, p⟩ := h
  unfold evLc evLc0 at p
  rw [Res.bind_assoc] at p
  refine h2 σ H _ ⟨F, ι, S, ρ, r, en, p.bind.mono fun F1 ι1 H1 q S1 x1 r1 p1 => ?_⟩
  split at p1
  rotate_left
  · exact p1.elim
  rename_i hz
  have hchk : q.2.2 S1 := by
    cases e : q.2.1 with
    | nil =>
      rw [e, lcL] at p1
      split at p1
      · assumption
      · exact p1.elim
    | cons w ws =>
      rw [e, lcL] at p1
      split at p1
      · assumption
      · exact p1.elim
  refine ⟨hchk, fun v J hv hw D hD => ?_⟩
  have en1 : REnv (gc X xo) F1 ι1 (wipe σ vs) (wipeE ρ vs) := (en.ext x1).wipe vs
  have hFD : F1 D = none := r1.fnone hD
  have hiD : D ∉ ι1 := r1.notin hD
  -- the invariant
  let Iv : Nat → Hp → Prop := fun n H => ∃ F ι S acc xs, Ext F1 ι1 H1 F ι H ∧ Real (gc X xo) F ι S H ∧ H D = some (.lst xs) ∧ F D = none ∧ D ∉ ι ∧ RepWs (gc X xo).calm F ι acc xs ∧ acc.length ≤ n ∧ RepW (gc X xo) F ι q.1 v ∧
    PostE (gc X xo) W F1 ι1 H1 σ ((lcL q.2.2 i t f (q.2.1.drop n) (wipeE ρ vs) S acc).bind k) Q
  have x0 : Ext F1 ι1 H1 F1 ι1 (upd H1 D (.lst [])) := ⟨fun _ _ e => e, ⟨[], by simp⟩, fun b o e n => ⟨n, by rw [upd_ne (ne_of_none e hD)]; exact e⟩, fun _ _ _ _ e => e⟩
  refine ⟨fun n m H => m = q.2.1.length - n ∧ n ≤ q.2.1.length ∧ Iv n H, ⟨q.2.1.length, by simp, Nat.zero_le _, F1, ι1, S1, [], [], x0, r1.other hFD hiD, upd_same, hFD, hiD, .nil, Nat.le_refl _, hv, p1⟩, ?_⟩
  rintro n m H2 ⟨rfl, hn, F2, ι2, S2, acc, xs, x2, r2, hD2, hF2, hi2, ha2, hl2, hv2, p2⟩
  by_cases hlt : n < q.2.1.length
  · right
    rw [List.drop_eq_getElem_cons hlt, lcL] at p2
    split at p2
    · rename_i hch
      obtain ⟨hg, _⟩ := hw n F2 ι2 S2 H2 hn r2 hv2 hch
      obtain ⟨hgo, hy⟩ := hg _ (List.getElem?_eq_getElem hlt)
      refine ⟨hgo, Iv (n + 1), fun H' hh => ⟨q.2.1.length - (n + 1), by omega, rfl, hlt, hh⟩, fun y H' hyy => ?_⟩
      obtain ⟨rfl, ry⟩ := hy y H' hyy
      refine ⟨wipe_set hi, ?_⟩
      have en2 : REnv (gc X xo) F2 ι2 ((wipe σ vs).set i (some y)) ((wipeE ρ vs).set i (some q.2.1[n])) := (en1.mono x2.fz x2.pre).set i (uncalm ry)
      refine ⟨F2, ι2, S2, _, r2, en2, ?_⟩
      cases e : t ((wipeE ρ vs).set i (some q.2.1[n])) S2 with
      | no => rw [e] at p2; exact p2.elim
      | rz c S3 => rw [e] at p2; exact p2.elim
      | ok b S3 =>
        rw [e] at p2
        intro F3 ι3 H3 x3 r3
        obtain ⟨hi3, hD3⟩ := x3.fr D _ hD2 hi2
        have hF3 := x3.fn D _ hD2 hi2 hF2
        cases b with
        | false =>
          rw [if_neg Bool.false_ne_true]
          exact ⟨F3, ι3, S3, acc, xs, x2.trans x3, r3, hD3, hF3, hi3, p2imp (fun _ _ z => z.ext x3) ha2, by omega, hv2.ext x3, p2⟩
        | true =>
          rw [if_pos rfl]
          simp only at p2
          refine ⟨F3, ι3, S3, _, r3, en2.ext x3, ?_⟩
          cases e2 : f ((wipeE ρ vs).set i (some q.2.1[n])) S3 with
          | no => rw [e2] at p2; exact p2.elim
          | rz c S4 => rw [e2] at p2; exact p2.elim
          | ok z S4 =>
            rw [e2] at p2
            intro F4 ι4 H4 x4 r4 zv hzv
            obtain ⟨hi4, hD4⟩ := x4.fr D _ hD3 hi3
            have hF4 := x4.fn D _ hD3 hi3 hF3
            simp only at p2
            split at p2
            · rename_i hcz
              have ha4 : RepWs (gc X xo).calm F4 ι4 acc xs := p2imp (fun _ _ z => (z.ext x3).ext x4) ha2
              have xx := (x2.trans x3).trans x4
              refine ⟨xs, hD4, ?_, F4, ι4, S4, acc ++ [z], xs ++ [zv], ⟨xx.fz, xx.pre, fun b o q n => ?_, xx.fn⟩, r4.other hF4 hi4, upd_same, hF4, hi4, p2app ha4 (.cons (calm_of hzv hcz) .nil), by simp; omega, (hv2.ext x3).ext x4, p2⟩
              · rw [← ha4.length, sizeLine_eq]
                omega
              · obtain ⟨n1, q1⟩ := xx.fr b o q n
                exact ⟨n1, by rw [upd_ne (ne_of_none q hD)]; exact q1⟩
            · exact p2.elim
    · exact p2.elim
  · left
    have en' : n = q.2.1.length := by omega
    subst en'
    rw [List.drop_length, lcL] at p2
    split at p2
    · rename_i hch
      exact ⟨(hw _ F2 ι2 S2 H2 hn r2 hv2 hch).2 rfl, hk W F1 F2 ι1 ι2 S2 H1 H2 σ acc xs D Q x2 hD r2 hD2 hF2 hi2 ha2 p2⟩
    · exact p2.elim
section
variable {i : Nat} {x : Str} {px : Pos} {elt it : Expr} {ifs : List Expr} {scope : Scope} {own : List (Str × Nat)} {fi : Env → Store → Res Itms} {t : Env → Store → Res Bool} {k : List Wv → Store → Res Wv}
theorem de_lc (hk : Kp (gc X xo) k) (hc : X.calm = true) (hN : X.N.Nodup) (hi : DI X xo (.Name x px) it fi) (ok : BlkOk X.N X.env.scope scope own) (hiv : i ∈ own.map (·.2))
    (hg : ∀ (s : Shared) (H : Hp) (C : Addr) (cl : List (Str × Addr)) (fp : List Addr), PG (X.blk s H scope (compEnvC scope cl C X.env) fp) (.Name x px) (gName i))
    (ht : ∀ (s : Shared) (H : Hp) (C : Addr) (cl : List (Str × Addr)) (fp : List Addr), DTs (X.blk s H scope (compEnvC scope cl C X.env) fp) xo ifs t)
    (he : ∀ (s : Shared) (H : Hp) (C : Addr) (cl : List (Str × Addr)) (fp : List Addr), DE (X.blk s H scope (compEnvC scope cl C X.env) fp) xo elt f) (hs : ∀ x, foldedSetIterable it X.env x = pure x := by intro _; rfl) :
    DE X xo (.ListComp elt [⟨.Name x px, it, ifs, 0⟩] scope pos) (evLc k fi i (own.map (·.2)) t f) := ⟨fun W tk => by
  obtain ⟨wi, h1, h2⟩ := hi.run W tk
  exact pe_imp (pe_lc hc hN h1 ok hg (fun s H C cl fp => (ht s H C cl fp).run _ takesF) (fun s H C cl fp => (he s H C cl fp).run _ takesF) hs) fun σ H Q q => lc_read hk hiv h2 q⟩
/-- y = [..] -/
theorem ds_setLc {j : Nat} {y : Str} {py spos : Pos} (hk : Kp (gc X xo) k) (hc : X.calm = true) (hN : X.N.Nodup) (hy : X.N[j]? = some y) (hyl : X.env.scope.names.lookup y = some .local)
    (hsw : swapsWith (.ListComp elt [⟨.Name x px, it, ifs, 0⟩] scope pos) (some (.Name y py)) spos.line X.env = pure true) (hi : DI X xo (.Name x px) it fi) (ok : BlkOk X.N X.env.scope scope own) (hiv : i ∈ own.map (·.2))
    (hg : ∀ (s : Shared) (H : Hp) (C : Addr) (cl : List (Str × Addr)) (fp : List Addr), PG (X.blk s H scope (compEnvC scope cl C X.env) fp) (.Name x px) (gName i))
    (ht : ∀ (s : Shared) (H : Hp) (C : Addr) (cl : List (Str × Addr)) (fp : List Addr), DTs (X.blk s H scope (compEnvC scope cl C X.env) fp) xo ifs t)
    (he : ∀ (s : Shared) (H : Hp) (C : Addr) (cl : List (Str × Addr)) (fp : List Addr), DE (X.blk s H scope (compEnvC scope cl C X.env) fp) xo elt f) (hs : ∀ x, foldedSetIterable it X.env x = pure x := by intro _; rfl) :
    DS X xo (.Assign [.Name y py] (.ListComp elt [⟨.Name x px, it, ifs, 0⟩] scope pos) spos) (sSet j (evLc k fi i (own.map (·.2)) t f)) := ⟨fun W tk => by
  obtain ⟨wi, h1, h2⟩ := hi.run W tk
  exact ps_imp (L2.ps_setLc hc hN hy hyl hsw h1 ok hg (fun s H C cl fp => (ht s H C cl fp).run _ takesF) (fun s H C cl fp => (he s H C cl fp).run _ takesF) hs) fun Dn σ H ⟨F, ι, S, ρ, r, en, p⟩ =>
    lc_read hk hiv h2 (TEo.stepS r en p fun F1 ι1 S1 H1 w v x1 r1 en1 hv p1 => p1.nxt r1 (en1.set j hv))⟩
end
end
end DL

/-! defs, calls of defs and methods, new instances -/
namespace DL
open PySem PySem.Spec PyProof.Rows L2
abbrev Sem' := List Wv → Store → Res Wv
/-- a def's meaning: n parameters, m names in all -/
def fnS (n m : Nat) (g : Sv) : Sem' := fun ws S => if ws.length = n then (match g (ws.map some ++ List.replicate (m - n) none) S with
  | .nx _ S' => .ok (.d .non) S'
  | .rt w S' => .ok w S'
  | .rz c _ S' => .rz c S'
  | _ => .no) else .no
def spOf (K : PySem.W.Frag) (n : Nat) (sem : Sem') : Sp := fun vs H Q E => vs.length = n ∧ ∃ F ι S ws, Real ⟨K, none⟩ F ι S H ∧ RepWs ⟨K, none⟩ F ι ws vs ∧
  Post ⟨K, none⟩ (fun c d _ H' => E c d H') F ι H [] (sem ws S) fun F' ι' H' w _ => ∀ v, RepW ⟨K, none⟩ F' ι' w v → Q v H'
theorem renv_start {K : PySem.W.Frag} {F : Hp} {ι : List Addr} {N : List Str} {ws : List Wv} {vs : List V} {n : Nat} (h : RepWs ⟨K, none⟩ F ι ws vs) (hn : vs.length = n) : REnv ⟨K, none⟩ F ι (L2.start N vs) (ws.map some ++ List.replicate (N.length - n) none) := by
  have hl := h.length
  refine ⟨by unfold L2.start; simp [hl, hn], fun i w e => ?_⟩
  by_cases hi : i < ws.length
  · rw [List.getElem?_append_left (by simpa using hi), List.getElem?_map] at e
    cases q : ws[i]? with
    | none => rw [q] at e; cases e
    | some u =>
      rw [q] at e
      cases e
      obtain ⟨v, h1, h2⟩ := p2get h q
      refine ⟨v, ?_, h2⟩
      unfold L2.start
      rw [List.getElem?_append_left (by simp; omega), List.getElem?_map, h1]
      rfl
  · rw [List.getElem?_append_right (by simpa using hi), List.getElem?_replicate] at e
    split at e <;> cases e
section
variable {P : Program} {w : World} {K : PySem.W.Frag} {mg : Str → Option Value} {base : Heap} {x qual : Str} {params : Arguments} {body : List Stmt} {scope : Scope} {f : Addr} {fd : FuncData}
/-- a def keeps the promise that its meaning makes -/
theorem fn_ok {N ps : List Str} {k n : Nat} {g : Sv} (F : FunD K x qual params body scope [] [] f fd) (S : FnScope N ps scope) (hn : ps.length = n)
    (hb : ∀ (cdv : Value) (A : Around) (outer : List PySem.Env) (s : Shared) (H : Hp) (E : XK), Room k (A.deeper (envOfC qual scope s.heap.objs.size f cdv)) → DSs (cxOf (L2N.CX P w) P w K mg base N qual scope f cdv A outer s H E) none body g) :
    FnOk P w K mg base (L2N.CX P w) (k + 1) f fd ps (spOf K n (fnS n N.length g)) := by
  refine F.ok S (fun vs H Q E h => by rw [h.1, hn]) fun cdv A outer s H vs Q E hr h => ?_
  obtain ⟨hl, F, ι, St, ws, r, hw, p⟩ := h
  refine ⟨_, (hb cdv A outer s H E hr).run _ (L2N.takes_of (E := E) rfl rfl rfl rfl), F, ι, St, _, r, renv_start (N := N) hw hl, ?_⟩
  unfold fnS at p
  rw [if_pos (by rw [hw.length]; exact hl)] at p
  cases e : g (ws.map some ++ List.replicate (N.length - n) none) St with
  | nx ρ' S' => rw [e] at p; exact fun F' ι' H' σ' x r' en' => p F' ι' H' x r' _ (w_non.mpr rfl)
  | rt u S' => rw [e] at p; exact fun F' ι' H' v x r' hv => p F' ι' H' x r' v hv
  | rz c ρ' S' => rw [e] at p; exact fun F' ι' H' σ' Ca x r' en' hc => p F' ι' H' Ca x r' hc
  | bk _ _ => rw [e] at p; exact p.elim
  | ct _ _ => rw [e] at p; exact p.elim
  | no => rw [e] at p; exact p.elim
end
/-- a def that may be called -/
structure FnG (P : Program) (w : World) (K : PySem.W.Frag) (mg : Str → Option Value) (base : Heap) (f : Addr) (n k : Nat) (sem : Sem') : Prop where
  ex : ∃ fd ps, ps.length = n ∧ FnOk P w K mg base (L2N.CX P w) k f fd ps (spOf K n sem) ∧ Binds K fd ps [] ∧ PySem.W.keepIn K (.ref f) = true
theorem fng_of {P : Program} {w : World} {K : PySem.W.Frag} {mg : Str → Option Value} {base : Heap} {x qual : Str} {params : Arguments} {body : List Stmt} {scope : Scope} {f : Addr} {fd : FuncData} {ps : List Str} {n k : Nat} {sem : Sem'}
    (F : FunD K x qual params body scope [] [] f fd) (hn : ps.length = n) (ok : FnOk P w K mg base (L2N.CX P w) k f fd ps (spOf K n sem)) (b : Binds K fd ps []) : FnG P w K mg base f n k sem := ⟨fd, ps, hn, ok, b, F.kp⟩
section
variable {X : Cx} {pos p apos : Pos} {e o : Expr} {es : List Expr} {fs : Env → Store → Res (List Wv)} {x m : Str} {f : Addr} {n k : Nat} {sem : Sem'}
theorem sp_use {W : WX} {K : PySem.W.Frag} {σ : St} {F : Hp} {ι : List Addr} {S : Store} {H : Hp} {ws : List Wv} {vs : List V} {Q : VK} (hl : ws.length = n) (r : Real ⟨K, none⟩ F ι S H) (h : RepWs ⟨K, none⟩ F ι ws vs) (p : PostE ⟨K, none⟩ W F ι H σ (sem ws S) Q) : spOf K n sem vs H Q (WE W σ) := by
  refine ⟨by rw [← h.length]; exact hl, F, ι, S, ws, r, h, ?_⟩
  cases q : sem ws S with
  | ok a S' => rw [q] at p; exact p
  | rz c S' => rw [q] at p; exact p
  | no => rw [q] at p; exact p
def gCall (n : Nat) (sem : Sem') : Sem' := fun ws S => if ws.length = n then sem ws S else .no
/-- f(e, ..) -/
theorem de_call (F : FnG X.prog X.w X.K X.mg X.base f n k sem) (hr : Room k X.A) (hg : Gl X x) (hm : X.mg x = some (.ref f)) (ha : DA X none (e :: es) fs) (hdb : (x == ("__debug__" : Str)) = false := by decide)
    (he : starEach (e :: es) X.env = (false, eval e X.env) :: starEach es X.env := by rfl) (hpl : (backTo pos (starEach es X.env)).any (·.1) = false := by rfl) : DE X none (.Call (.Name x p) (e :: es) [] pos) (evN (gCall n sem) fs) := by
  obtain ⟨fd, ps, hn, ok, b, kp⟩ := F.ex
  refine ⟨fun W tk => pe_imp (pe_callS (E := WE W) ok hr hg hm kp b (fun σ => L2N.passAt tk σ) (ha.run W tk) hdb he hpl) fun σ H Q ⟨F, ι, S, ρ, rl, en, q⟩ => TAo.step rl en q fun F1 ι1 S1 H1 ws vs x1 r1 en1 hv p1 => ?_⟩
  unfold gCall at p1
  split at p1
  · rename_i hl
    exact sp_use hl r1 hv p1
  · exact p1.elim
/-! ### methods -/
def tMethS (C : Addr) (m : Str) (sp : Sp) (E : St → XK) (ta : TE) (t : TA) : TE := fun σ H Q => ta σ H fun x H1 => ∃ a dx fs, x = .ref a ∧ H1 a = some (.ins C dx fs) ∧ fs.lookup m = none ∧ t σ H1 fun vs H2 => sp (x :: vs) H2 Q (E σ)
theorem pe_methS {CX : CXT} {C : Addr} {fd : FuncData} {ps : List Str} {sp : Sp} {E : St → XK} {ta : TE} {t : TA} {pl : Sem Bool} (he : PE X o ta) (c : Cls X.K C) (hm : Meth X.K C m f) (F : FnOk X.prog X.w X.K X.mg X.base CX k f fd ps sp) (hr : Room k X.A) (hb : Binds X.K fd ps []) (hx : ∀ σ, PassesAt CX X σ (E σ)) (ha : PA X (e :: es) t)
    (hst : starEach (e :: es) X.env = (false, eval e X.env) :: starEach es X.env := by rfl) (hpl : (backTo pos (starEach es X.env)).any (·.1) = false := by rfl)
    (ht : eval (.Call (.Attribute o m apos) (e :: es) [] pos) X.env = (do
      let ov ← eval o X.env
      standAt apos.atName
      let (f, first) ← holding [ov] (getMethod ov m pl)
      callWith pos f first (backTo pos (starEach (e :: es) X.env)) (backToKw pos (keywordEach [] X.env))) := by rfl) :
    PE X (.Call (.Attribute o m apos) (e :: es) [] pos) (tMethS C m sp E ta t) := by
  refine ⟨fun pins s σ H Q I h => PySem.W.methodCall_KW (pl := pl) (thn (he.run pins s σ H _ I h) fun u s1 ⟨x, H1, I1, rx, a, dx, fs, ex, ea, l, q⟩ => ?_) ht⟩
  subst ex
  obtain rfl : u = Value.ref a := rx
  exact getmeth_ok I1 ea c hm l (PySem.W.callWith_K (first := [.ref a]) (h₀ := X.base) I1.ok.mod.kin hm.kp (thn (ha.run pos pins s1 σ H1 _ I1 q) fun us s2 ⟨vs, H2, I2, r, q2⟩ => ⟨I2.kIn, run_fnS (us := .ref a :: us) (vs := .ref a :: vs) F hr hb (hx σ) I2 (.cons rfl r) q2⟩) hst hpl)
theorem pe_meth0S {CX : CXT} {C : Addr} {fd : FuncData} {ps : List Str} {sp : Sp} {E : St → XK} {ta : TE} {pl : Sem Bool} (he : PE X o ta) (c : Cls X.K C) (hm : Meth X.K C m f) (F : FnOk X.prog X.w X.K X.mg X.base CX k f fd ps sp) (hr : Room k X.A) (hb : Binds X.K fd ps []) (hx : ∀ σ, PassesAt CX X σ (E σ))
    (ht : eval (.Call (.Attribute o m apos) [] [] pos) X.env = (do
      let ov ← eval o X.env
      standAt apos.atName
      let (f, first) ← holding [ov] (getMethod ov m pl)
      callWith pos f first (backTo pos (starEach [] X.env)) (backToKw pos (keywordEach [] X.env))) := by rfl) :
    PE X (.Call (.Attribute o m apos) [] [] pos) (tMethS C m sp E ta tNil) := by
  refine ⟨fun pins s σ H Q I h => PySem.W.methodCall_KW (pl := pl) (thn (he.run pins s σ H _ I h) fun u s1 ⟨x, H1, I1, rx, a, dx, fs, ex, ea, l, q⟩ => ?_) ht⟩
  subst ex
  obtain rfl : u = Value.ref a := rx
  exact getmeth_ok I1 ea c hm l (PySem.W.callWith_K0 (first := [.ref a]) I1.kIn hm.kp (run_fnS (us := [.ref a]) (vs := [.ref a]) F hr hb (hx σ) I1 (.cons rfl .nil) q))
/-- what is known of a class's method -/
structure MthOk (K : PySem.W.Frag) (C : Nat) (m : Str) (f : Addr) : Prop where
  ex : ∃ Ca fs, (⟨K, none⟩ : Gc).cls C = some (Ca, fs) ∧ m ∉ fs ∧ Cls K Ca ∧ Meth K Ca m f
/-- the receiver is an instance of the class C -/
def isIns (C : Nat) (S : Store) : Wv → Bool
  | .ref n => match S[n]? with
    | some (.ins C' _) => decide (C' = C)
    | _ => false
  | _ => false
def evMeth (C n : Nat) (sem : Sem') (fo : Ev) (fs : Env → Store → Res (List Wv)) : Ev := fun ρ S => (fo ρ S).bind fun w S1 => if isIns C S1 w = true then (fs ρ S1).bind fun ws S2 => gCall n sem (w :: ws) S2 else .no
theorem isIns_rep {K : PySem.W.Frag} {F : Hp} {ι : List Addr} {S : Store} {H : Hp} {w : Wv} {v : V} {C : Nat} {Ca : Addr} {fs : List Str} (r : Real ⟨K, none⟩ F ι S H) (h : RepW ⟨K, none⟩ F ι w v) (c : isIns C S w = true) (hc : (⟨K, none⟩ : Gc).cls C = some (Ca, fs)) (hm : m ∉ fs) :
    ∃ a dx l, v = .ref a ∧ H a = some (.ins Ca dx l) ∧ l.lookup m = none := by
  unfold isIns at c
  split at c
  · split at c
    · rename_i C' ws e
      have eC : C' = C := of_decide_eq_true c
      subst eC
      obtain ⟨a, e5, rfl⟩ := h
      obtain ⟨_, _, e6, Ca', fs', dx, l, rfl, e7, e8, e9, e10⟩ := r.at_ _ a _ e5 e (fun z => nomatch z)
      have e7' : (⟨K, none⟩ : Gc).cls C' = some (Ca', fs') := e7
      rw [hc] at e7'
      cases e7'
      refine ⟨a, dx, l, rfl, e6, ?_⟩
      cases q : l.lookup m with
      | none => rfl
      | some z =>
        exfalso
        have : m ∈ l.map (·.1) := by
          clear e8 e10 e6
          induction l with
          | nil => cases q
          | cons p l ih =>
            rw [List.lookup_cons] at q
            cases q2 : (m == p.1) with
            | true => rw [beq_iff_eq.mp q2]; simp
            | false => rw [q2] at q; exact List.mem_cons_of_mem _ (ih q)
        rw [e8] at this
        exact hm (List.take_subset _ _ this)
    · cases c
  · cases c
theorem de_meth {C : Nat} {fo : Ev} {pl : Sem Bool} (M : MthOk X.K C m f) (F : FnG X.prog X.w X.K X.mg X.base f n k sem) (hr : Room k X.A) (ho : DE X none o fo) (ha : DA X none (e :: es) fs)
    (hst : starEach (e :: es) X.env = (false, eval e X.env) :: starEach es X.env := by rfl) (hpl : (backTo pos (starEach es X.env)).any (·.1) = false := by rfl)
    (ht : eval (.Call (.Attribute o m apos) (e :: es) [] pos) X.env = (do
      let ov ← eval o X.env
      standAt apos.atName
      let (f, first) ← holding [ov] (getMethod ov m pl)
      callWith pos f first (backTo pos (starEach (e :: es) X.env)) (backToKw pos (keywordEach [] X.env))) := by rfl) : DE X none (.Call (.Attribute o m apos) (e :: es) [] pos) (evMeth C n sem fo fs) := by
  obtain ⟨fd, ps, hn, ok, b, kp⟩ := F.ex
  obtain ⟨Ca, fl, hC, hmf, c, mt⟩ := M.ex
  refine ⟨fun W tk => pe_imp (pe_methS (E := WE W) (ho.run W tk) c mt ok hr b (fun σ => L2N.passAt tk σ) (ha.run W tk) hst hpl ht) fun σ H Q ⟨F, ι, S, ρ, rl, en, q⟩ => TEo.step rl en q fun F1 ι1 S1 H1 w v x1 r1 en1 hv p1 => ?_⟩
  split at p1
  · rename_i hi
    obtain ⟨a, dx, l, rfl, ea, lk⟩ := isIns_rep r1 hv hi hC hmf
    refine ⟨a, dx, l, rfl, ea, lk, TAo.step r1 en1 p1 fun F2 ι2 S2 H2 ws vs x2 r2 en2 hvs p2 => ?_⟩
    unfold gCall at p2
    split at p2
    · rename_i hl
      exact sp_use hl r2 (.cons (hv.ext x2) hvs) p2
    · exact p2.elim
  · exact p1.elim
theorem de_meth0 {C : Nat} {fo : Ev} {pl : Sem Bool} (M : MthOk X.K C m f) (F : FnG X.prog X.w X.K X.mg X.base f n k sem) (hr : Room k X.A) (ho : DE X none o fo)
    (ht : eval (.Call (.Attribute o m apos) [] [] pos) X.env = (do
      let ov ← eval o X.env
      standAt apos.atName
      let (f, first) ← holding [ov] (getMethod ov m pl)
      callWith pos f first (backTo pos (starEach [] X.env)) (backToKw pos (keywordEach [] X.env))) := by rfl) : DE X none (.Call (.Attribute o m apos) [] [] pos) (evMeth C n sem fo evNil) := by
  obtain ⟨fd, ps, hn, ok, b, kp⟩ := F.ex
  obtain ⟨Ca, fl, hC, hmf, c, mt⟩ := M.ex
  refine ⟨fun W tk => pe_imp (pe_meth0S (E := WE W) (ho.run W tk) c mt ok hr b (fun σ => L2N.passAt tk σ) ht) fun σ H Q ⟨F, ι, S, ρ, rl, en, q⟩ => TEo.step rl en q fun F1 ι1 S1 H1 w v x1 r1 en1 hv p1 => ?_⟩
  split at p1
  · rename_i hi
    obtain ⟨a, dx, l, rfl, ea, lk⟩ := isIns_rep r1 hv hi hC hmf
    refine ⟨a, dx, l, rfl, ea, lk, ?_⟩
    unfold evNil gCall at p1
    have p2 : PostE ⟨X.K, none⟩ W F1 ι1 H1 σ (if [w].length = n then sem [w] S1 else .no) Q := p1
    split at p2
    · rename_i hl
      exact sp_use hl r1 (.cons hv .nil) p2
    · exact p2.elim
  · exact p1.elim
/-! ### new instances -/
def tMakeS (C : Addr) (sp : Sp) (E : St → XK) (t : TA) : TE := fun σ H Q => t σ H fun vs H1 => ∀ x dx, H1 x = none → H1 dx = none → dx ≠ x →
  sp (.ref x :: vs) (upd (upd H1 dx (.own x)) x (.ins C dx [])) (fun v H2 => v = .non ∧ Q (.ref x) H2) (E σ)
theorem run_makeS {CX : CXT} {C : Addr} {fd : FuncData} {ps : List Str} {sp : Sp} {E : St → XK} {pins : List (Addr × Obj)} {σ : St} {H : Hp} {s : Shared} {Q : VK} {us : List Value} {vs : List V} (M : Mk X.K C f) (F : FnOk X.prog X.w X.K X.mg X.base CX k f fd ps sp) (hr : Room (k + 1) X.A) (hb : Binds X.K fd ps [])
    (hx : PassesAt CX X σ (E σ)) (I : Inv X pins σ H s) (r : Vals vs us)
    (h : ∀ x dx, H x = none → H dx = none → dx ≠ x → sp (.ref x :: vs) (upd (upd H dx (.own x)) x (.ins C dx [])) (fun v H2 => v = .non ∧ Q (.ref x) H2) (E σ)) :
    wpAny (model X.prog X.w) X.A (call (.ref C) us) (EP X pins σ Q) X.xe s := by
  have hq := h (s.heap.objs.size + 1) s.heap.objs.size (I.hok.fresh (Nat.le_succ _)) (I.hok.fresh (Nat.le_refl _)) (Nat.ne_of_lt (Nat.lt_succ_self _))
  have I2 := Inv.made (C := C) I
  have r2 : Vals (V.ref (s.heap.objs.size + 1) :: vs) (Value.ref (s.heap.objs.size + 1) :: us) := .cons rfl r
  have hl : (Value.ref (s.heap.objs.size + 1) :: us).length = ps.length := by rw [← r2.length]; exact F.len _ _ _ _ hq
  have hbd := hb _ (Value.ref (s.heap.objs.size + 1) :: us) I2.kIn (by rw [List.append_nil]; exact hl)
  rw [List.append_nil] at hbd
  refine wpAny_call (make_map (f := f) I.kIn M.makes M.init (beq_iff_eq.mp M.fn) (codeAny_mono (F.run _ X.stack _ _ ⟨Value.ref (s.heap.objs.size + 1) :: us, []⟩ (Value.ref (s.heap.objs.size + 1) :: us) _ _ (E σ) (hr.make C us [])
    (I2.env0.make C us []) hbd r2 hq) fun r s' hq' => ?_))
  cases r with
  | error e => exact hx pins _ _ e s' I2 hq'
  | ok fl =>
    cases fl with
    | ret u =>
      obtain ⟨v, H', I3, rv, ev, q3⟩ := I2.after hq'
      subst ev
      exact ⟨rv, ⟨V.ref (s.heap.objs.size + 1), H', I3, rfl, q3⟩⟩
    | next => exact False.elim hq'
    | brk => exact False.elim hq'
    | cont => exact False.elim hq'
theorem pe_makeS {CX : CXT} {C : Addr} {fd : FuncData} {ps : List Str} {sp : Sp} {E : St → XK} {t : TA} (M : Mk X.K C f) (F : FnOk X.prog X.w X.K X.mg X.base CX k f fd ps sp) (hr : Room (k + 1) X.A) (hg : Gl X x) (hm : X.mg x = some (.ref C)) (hb : Binds X.K fd ps []) (hx : ∀ σ, PassesAt CX X σ (E σ))
    (ha : PA X (e :: es) t) (hdb : (x == ("__debug__" : Str)) = false := by decide) (he : starEach (e :: es) X.env = (false, eval e X.env) :: starEach es X.env := by rfl) (hpl : (backTo pos (starEach es X.env)).any (·.1) = false := by rfl) :
    PE X (.Call (.Name x p) (e :: es) [] pos) (tMakeS C sp E t) :=
  ⟨fun pins s σ H Q I h => wpAny_Call_Name_kw (ld_glob I hg hm (PySem.W.callWith_K (h₀ := X.base) I.ok.mod.kin M.kp (thn (ha.run pos pins s σ H _ I h) fun us s1 ⟨vs, H1, I1, r, q⟩ => ⟨I1.kIn, run_makeS M F hr hb (hx σ) I1 r q⟩) he hpl) hdb)⟩
/-- what is known of a class that is made -/
structure MkOk (K : PySem.W.Frag) (C : Nat) (Ca f : Addr) : Prop where
  ex : ∃ fs, (⟨K, none⟩ : Gc).cls C = some (Ca, fs) ∧ Mk K Ca f
def gMake (C n : Nat) (sem : Sem') : Sem' := fun ws S => (gCall n sem (.ref S.length :: ws) (S ++ [.ins C []])).bind fun w S2 => match w with
  | .d .non => .ok (.ref S.length) S2
  | _ => .no
theorem de_make {C : Nat} {Ca : Addr} (M : MkOk X.K C Ca f) (F : FnG X.prog X.w X.K X.mg X.base f n k sem) (hr : Room (k + 1) X.A) (hg : Gl X x) (hm : X.mg x = some (.ref Ca)) (ha : DA X none (e :: es) fs) (hdb : (x == ("__debug__" : Str)) = false := by decide)
    (he : starEach (e :: es) X.env = (false, eval e X.env) :: starEach es X.env := by rfl) (hpl : (backTo pos (starEach es X.env)).any (·.1) = false := by rfl) : DE X none (.Call (.Name x p) (e :: es) [] pos) (evN (gMake C n sem) fs) := by
  obtain ⟨fd, ps, hn, ok, b, kp⟩ := F.ex
  obtain ⟨fl, hC, mk⟩ := M.ex
  refine ⟨fun W tk => pe_imp (pe_makeS (E := WE W) mk ok hr hg hm b (fun σ => L2N.passAt tk σ) (ha.run W tk) hdb he hpl) fun σ H Q ⟨F, ι, S, ρ, rl, en, q⟩ => TAo.step rl en q fun F1 ι1 S1 H1 ws vs x1 r1 en1 hv p1 => ?_⟩
  intro x dx hx hdx hne
  have hx' : (upd H1 dx (.own x)) x = none := by rw [upd_ne hne.symm]; exact hx
  have r2 : Real ⟨X.K, none⟩ F1 ι1 S1 (upd H1 dx (.own x)) := r1.other (r1.fnone hdx) (r1.notin hdx)
  have xx : Ext F1 ι1 H1 F1 ι1 (upd H1 dx (.own x)) := ⟨fun _ _ e => e, ⟨[], by simp⟩, fun b o e n => ⟨n, by rw [upd_ne (ne_of_none e hdx)]; exact e⟩, fun _ _ _ _ e => e⟩
  have ro : RepO ⟨X.K, none⟩ F1 (ι1 ++ [x]) (.ins C []) (.ins Ca dx []) := ⟨Ca, fl, dx, [], rfl, hC, rfl, Nat.zero_le _, .nil⟩
  have r3 := r2.newS hx' ro
  have xy := Ext.newS (o := .ins Ca dx []) r2 hx'
  have p2 : PostE ⟨X.K, none⟩ W F1 (ι1 ++ [x]) (upd (upd H1 dx (.own x)) x (.ins Ca dx [])) σ (gMake C n sem ws S1) Q := Post.ext (xx.trans xy) p1
  unfold gMake gCall at p2
  split at p2
  · rename_i hl
    have hrep : RepWs ⟨X.K, none⟩ F1 (ι1 ++ [x]) (.ref S1.length :: ws) (.ref x :: vs) := .cons ⟨x, by rw [← r1.len]; simp, rfl⟩ (p2imp (fun _ _ z => z.mono (fun _ _ q => q) ⟨[x], rfl⟩) hv)
    refine sp_use (W := W) hl r3 hrep (p2.bind.mono fun F' ι' H' w S' x' r' p3 => fun v hv' => ?_)
    split at p3
    · refine ⟨w_non.mp hv', p3.now (.refl _ _ _) r' _ ⟨x, ext_ix x'.pre (by rw [← r1.len]; simp), rfl⟩⟩
    · exact p3.elim
  · exact p2.elim
end
end DL

/-! built-in names; the end of a law -/
namespace DL
open PySem PySem.Spec PyProof.Rows L2
theorem bt_len : bootBuiltins "len" = some (.builtin "len") := by decide +kernel
theorem bt_abs : bootBuiltins "abs" = some (.builtin "abs") := by decide +kernel
theorem bt_max : bootBuiltins "max" = some (.builtin "max") := by decide +kernel
theorem bt_min : bootBuiltins "min" = some (.builtin "min") := by decide +kernel
theorem bt_all : bootBuiltins "all" = some (.builtin "all") := by decide +kernel
theorem bt_sum : bootBuiltins "sum" = some (.builtin "sum") := by decide +kernel
theorem bt_sorted : bootBuiltins "sorted" = some (.builtin "sorted") := by decide +kernel
theorem bt_isinstance : bootBuiltins "isinstance" = some (.builtin "isinstance") := by decide +kernel
theorem bt_int : bootBuiltins "int" = some (.type "int") := by decide +kernel
theorem bt_bool : bootBuiltins "bool" = some (.type "bool") := by decide +kernel
theorem bt_str : bootBuiltins "str" = some (.type "str") := by decide +kernel
theorem bt_list : bootBuiltins "list" = some (.type "list") := by decide +kernel
theorem bt_tuple : bootBuiltins "tuple" = some (.type "tuple") := by decide +kernel
theorem bt_ValueError : bootBuiltins "ValueError" = some (.type "ValueError") := by decide +kernel
theorem fl0_nd : (["home", "rates", "names", "entries", "ends", "backs", "deeds"] : List Str).Nodup := by decide +kernel
theorem fl1_nd : (["home", "rows"] : List Str).Nodup := by decide +kernel
/-- the law's own promise -/
theorem law_sp {K : PySem.W.Frag} {sem : Sem'} (hs : ∀ ns : List Int, ns.length ≤ 63 → ∃ S, sem [.scr ns] [] = .ok (.d (.bl true)) S) (H : Hp) (a : Addr) (ns : List Int) (hl : ns.length ≤ 63) (hS : SqL K H a (ns.map V.int)) :
    spOf K 1 sem [.ref a] H (fun v _ => v = .bl true) fun _ _ _ => False := by
  obtain ⟨S, e⟩ := hs ns hl
  refine ⟨rfl, H, [], [], [.scr ns], ⟨rfl, fun _ _ h => h, List.nodup_nil, fun _ h => (nomatch h), fun n a o e _ _ => by simp at e⟩, .cons ⟨a, rfl, hS⟩ .nil, ?_⟩
  rw [e]
  exact fun F' ι' H' x r v hv => w_bl.mp hv
theorem noCX {P : Program} {w : World} {H : Hp} {s : Shared} {e : Value} {s' : Shared} (h : L2N.CX P w [] H s (fun _ _ _ => False) e s') : False := by
  obtain ⟨_, _, _, _, _, _, _, _, _, _, _, _, z⟩ := h
  exact z
/-- the end, over a head by facts -/
theorem walk_E {l : PySem.W.OpenLaw} {n k : Nat} {q : Program} {loose : List Str} {XP : (Str → Option Value) → Heap → Prop} {YP : World → Heap → Prop} {d : DefRec} {CX : World → CXT} {x : Str}
    (hn : l.most = some n) (hn2 : n ≤ sizeLine) (hdf : d.params.defaults = []) (hr : Room k callerA)
    (F : ∀ (w : World) (mg : Str → Option Value) (fa : Addr) (h : Heap), YP w h → h.Ns mainGlobals mg → mg d.name = some (.ref fa) →
      ∃ (K : PySem.W.Frag) (fd : FuncData) (sp : Sp), K.In h ∧ (∀ (s : Shared) (u : Value), BindsTo s fd ⟨[u], []⟩ [(x, u)]) ∧
        (∀ (H : Hp) (a : Addr) (ns : List Int), ns.length ≤ n → SqL K H a (ns.map V.int) → sp [.ref a] H (fun v _ => v = .bl true) fun _ _ _ => False) ∧
        ∀ base : Heap, K.In base → base.Ns mainGlobals mg → FnOk l.prog w K mg base (CX w) k fa fd [x] sp)
    (hCX : ∀ (w : World) (H : Hp) (s : Shared) (e : Value) (s' : Shared), CX w [] H s (fun _ _ _ => False) e s' → False) :
    PySem.W.WalkO q loose XP YP l.row.toRowW d [] (fun f vs => PySem.call f vs) := by
  refine Att.attach_call hn hdf fun w s0 s1 mg mb fa o pm cd doc a vs ns G Y ho hd hcd hmg hobj hints hlen hg => ?_
  obtain ⟨K, fd, sp, KX, hb, hsp, hF⟩ := F w mg fa _ Y G.T.g hmg
  exact law_call KX G.T.g G.T.b G.T.builtins G.T.nolimit hg hobj hints (Nat.le_trans hlen hn2) hr hF hb (fun H _ hS => hsp H a ns hlen hS) fun H e s' => hCX w H s1 e s'
end DL

/-! reckoning with meanings: equations for simp -/
namespace DL
open PySem PySem.Spec PyProof.Rows L2
section
variable {α β : Type} {S S1 : Store} {ρ ρ1 : Env}
@[simp] theorem bind_ok (a : α) (S : Store) (k : α → Store → Res β) : (Res.ok a S).bind k = k a S := rfl
@[simp] theorem bind_rz (c : Nat) (S : Store) (k : α → Store → Res β) : (Res.rz c S : Res α).bind k = .rz c S := rfl
@[simp] theorem bind_no (k : α → Store → Res β) : (Res.no : Res α).bind k = .no := rfl
@[simp] theorem toS_ok (a : α) (S : Store) (ρ : Env) (k : α → Store → SR) : (Res.ok a S).toS ρ k = k a S := rfl
@[simp] theorem toS_rz (c : Nat) (S : Store) (ρ : Env) (k : α → Store → SR) : (Res.rz c S : Res α).toS ρ k = .rz c ρ S := rfl
@[simp] theorem toS_no (ρ : Env) (k : α → Store → SR) : (Res.no : Res α).toS ρ k = .no := rfl
def SR.seq (r : SR) (h : Sv) : SR := match r with
  | .nx ρ' S' => h ρ' S'
  | r => r
@[simp] theorem seq_nx (h : Sv) : (SR.nx ρ S).seq h = h ρ S := rfl
@[simp] theorem seq_rt (w : Wv) (h : Sv) : (SR.rt w S).seq h = .rt w S := rfl
@[simp] theorem seq_rz (c : Nat) (h : Sv) : (SR.rz c ρ S).seq h = .rz c ρ S := rfl
@[simp] theorem seq_no (h : Sv) : SR.no.seq h = .no := rfl
@[simp] theorem seq_bk (h : Sv) : (SR.bk ρ S).seq h = .bk ρ S := rfl
@[simp] theorem seq_ct (h : Sv) : (SR.ct ρ S).seq h = .ct ρ S := rfl
@[simp] theorem sSeq_s (g h : Sv) : sSeq g h ρ S = (g ρ S).seq h := by
  unfold sSeq SR.seq
  cases g ρ S <;> rfl
@[simp] theorem sNil_s : sNil ρ S = .nx ρ S := rfl
@[simp] theorem sExpr_s (f : Ev) : sExpr f ρ S = (f ρ S).toS ρ fun _ S' => .nx ρ S' := rfl
@[simp] theorem sRet_s (f : Ev) : sRet f ρ S = (f ρ S).toS ρ fun w S' => if w.calm = true then .rt w S' else .no := rfl
@[simp] theorem sSet_s (i : Nat) (f : Ev) : sSet i f ρ S = (f ρ S).toS ρ fun w S' => .nx (ρ.set i (some w)) S' := rfl
@[simp] theorem sIf_s (t : Env → Store → Res Bool) (g h : Sv) : sIf t g h ρ S = (t ρ S).toS ρ fun b S' => if b = true then g ρ S' else h ρ S' := rfl
@[simp] theorem calm_d (x : D) : (Wv.d x).calm = true := rfl
@[simp] theorem calm_ref (x : Nat) : (Wv.ref x).calm = true := rfl
@[simp] theorem calm_scr (x : List Int) : (Wv.scr x).calm = true := rfl
/-- how a body ends -/
def SR.out : SR → Res Wv
  | .nx _ S' => .ok (.d .non) S'
  | .rt w S' => .ok w S'
  | .rz c _ S' => .rz c S'
  | _ => .no
@[simp] theorem out_nx : (SR.nx ρ S).out = .ok (.d .non) S := rfl
@[simp] theorem out_rt (w : Wv) : (SR.rt w S).out = .ok w S := rfl
@[simp] theorem out_rz (c : Nat) : (SR.rz c ρ S).out = .rz c S := rfl
@[simp] theorem out_no : SR.no.out = .no := rfl
theorem fnS_s (n m : Nat) (g : Sv) (ws : List Wv) : fnS n m g ws S = if ws.length = n then (g (ws.map some ++ List.replicate (m - n) none) S).out else .no := by
  unfold fnS SR.out
  split
  · cases g (ws.map some ++ List.replicate (m - n) none) S <;> rfl
  · rfl
@[simp] theorem gCall_s (n : Nat) (sem : Sem') (ws : List Wv) : gCall n sem ws S = if ws.length = n then sem ws S else .no := rfl
@[simp] theorem evVar_s (i : Nat) : evVar i ρ S = match ρ[i]? with
  | some (some w) => .ok w S
  | _ => .no := rfl
@[simp] theorem evC_s (x : D) : evC x ρ S = .ok (.d x) S := rfl
@[simp] theorem evBin_s (g : Wv → Wv → Store → Res Wv) (fa fb : Ev) : evBin g fa fb ρ S = (fa ρ S).bind fun x S1 => (fb ρ S1).bind fun y S2 => g x y S2 := rfl
@[simp] theorem evUn_s (g : Wv → Store → Res Wv) (fa : Ev) : evUn g fa ρ S = (fa ρ S).bind fun x S1 => g x S1 := rfl
@[simp] theorem evNil_s : evNil ρ S = .ok [] S := rfl
@[simp] theorem evCons_s (fa : Ev) (fr : Env → Store → Res (List Wv)) : evCons fa fr ρ S = (fa ρ S).bind fun x S1 => (fr ρ S1).bind fun xs S2 => .ok (x :: xs) S2 := rfl
@[simp] theorem evN_s (g : List Wv → Store → Res Wv) (fs : Env → Store → Res (List Wv)) : evN g fs ρ S = (fs ρ S).bind g := rfl
def asB : Wv → Store → Res Bool := fun w S1 => match w with
  | .d (.bl b) => .ok b S1
  | _ => .no
@[simp] theorem asB_bl (b : Bool) : asB (.d (.bl b)) S = .ok b S := rfl
@[simp] theorem evT_s (f : Ev) : evT f ρ S = (f ρ S).bind asB := rfl
@[simp] theorem evAnd_s (f g : Env → Store → Res Bool) : evAnd f g ρ S = (f ρ S).bind fun b S1 => if b = true then g ρ S1 else .ok false S1 := rfl
@[simp] theorem evOr_s (f g : Env → Store → Res Bool) : evOr f g ρ S = (f ρ S).bind fun b S1 => if b = true then .ok true S1 else g ρ S1 := rfl
@[simp] theorem evNot_s (f : Env → Store → Res Bool) : evNot f ρ S = (f ρ S).bind fun b S1 => .ok (!b) S1 := rfl
theorem evAndV_s (f g : Ev) : evAndV f g ρ S = (f ρ S).bind fun w S1 => (asB w S1).bind fun b S1 => if b = true then g ρ S1 else .ok (.d (.bl false)) S1 := by
  unfold evAndV
  cases f ρ S with
  | ok w S1 =>
    cases w with
    | d x =>
      cases x with
      | bl b => cases b <;> rfl
      | _ => rfl
    | _ => rfl
  | rz c S1 => rfl
  | no => rfl
theorem evOrV_s (f g : Ev) : evOrV f g ρ S = (f ρ S).bind fun w S1 => (asB w S1).bind fun b S1 => if b = true then .ok (.d (.bl true)) S1 else g ρ S1 := by
  unfold evOrV
  cases f ρ S with
  | ok w S1 =>
    cases w with
    | d x =>
      cases x with
      | bl b => cases b <;> rfl
      | _ => rfl
    | _ => rfl
  | rz c S1 => rfl
  | no => rfl
theorem evNotV_s (f : Ev) : evNotV f ρ S = (f ρ S).bind fun w S1 => (asB w S1).bind fun b S1 => .ok (.d (.bl (!b))) S1 := by
  unfold evNotV
  cases f ρ S with
  | ok w S1 =>
    cases w with
    | d x =>
      cases x with
      | bl b => cases b <;> rfl
      | _ => rfl
    | _ => rfl
  | rz c S1 => rfl
  | no => rfl
@[simp] theorem evIf_s (t : Env → Store → Res Bool) (f g : Ev) : evIf t f g ρ S = (t ρ S).bind fun c S1 => if c = true then f ρ S1 else g ρ S1 := rfl
theorem evChain_s (g g' : Wv → Wv → Store → Res Wv) (fa fb fc : Ev) : evChain g g' fa fb fc ρ S = (fa ρ S).bind fun x S1 => (fb ρ S1).bind fun y S2 => (g x y S2).bind fun z S3 => (asB z S3).bind fun b S3 => if b = true then (fc ρ S3).bind fun w S4 => g' y w S4 else .ok (.d (.bl false)) S3 := by
  unfold evChain
  cases fa ρ S with
  | ok x S1 =>
    simp only [bind_ok]
    cases fb ρ S1 with
    | ok y S2 =>
      simp only [bind_ok]
      cases g x y S2 with
      | ok w S3 =>
        cases w with
        | d x =>
          cases x with
          | bl b => cases b <;> rfl
          | _ => rfl
        | _ => rfl
      | rz c S1 => rfl
      | no => rfl
    | rz c S1 => rfl
    | no => rfl
  | rz c S1 => rfl
  | no => rfl
/-! values -/
@[simp] theorem gAdd_int (i j : Int) : gAdd (.d (.int i)) (.d (.int j)) S = .ok (.d (.int (i + j))) S := rfl
@[simp] theorem gAdd_str (x y : Str) : gAdd (.d (.str x)) (.d (.str y)) S = if x.length + y.length ≤ 16777216 then .ok (.d (.str (x ++ y))) S else .no := rfl
@[simp] theorem gAdd_lst (x y : List D) : gAdd (.d (.lst x)) (.d (.lst y)) S = if x.length + y.length ≤ 16777216 then .ok (.d (.lst (x ++ y))) S else .no := rfl
@[simp] theorem gAdd_tup (x y : List D) : gAdd (.d (.tup x)) (.d (.tup y)) S = if x ≠ [] ∧ y ≠ [] ∧ x.length + y.length ≤ 16777216 then .ok (.d (.tup (x ++ y))) S else .no := rfl
@[simp] theorem gSub_int (i j : Int) : gSub (.d (.int i)) (.d (.int j)) S = .ok (.d (.int (i - j))) S := rfl
@[simp] theorem gMul_int (i j : Int) : gMul (.d (.int i)) (.d (.int j)) S = if MulOk i j then .ok (.d (.int (i * j))) S else .no := rfl
@[simp] theorem gFloor_int (i j : Int) : gFloor (.d (.int i)) (.d (.int j)) S = if 0 < j ∧ Sm j then .ok (.d (.int (i / j))) S else .no := rfl
@[simp] theorem gMod_int (i j : Int) : gMod (.d (.int i)) (.d (.int j)) S = if 0 < j then .ok (.d (.int (i % j))) S else .no := rfl
@[simp] theorem gPow_int (i j : Int) : gPow (.d (.int i)) (.d (.int j)) S = if 0 ≤ j ∧ j ≤ 1000 ∧ i.natAbs < 2 ^ 64 then .ok (.d (.int (i ^ j.toNat))) S else .no := rfl
@[simp] theorem gNeg_int (i : Int) : gNeg (.d (.int i)) S = .ok (.d (.int (-i))) S := rfl
@[simp] theorem gLt_int (i j : Int) : gLt (.d (.int i)) (.d (.int j)) S = .ok (.d (.bl (decide (i < j)))) S := rfl
@[simp] theorem gGt_int (i j : Int) : gGt (.d (.int i)) (.d (.int j)) S = .ok (.d (.bl (decide (j < i)))) S := rfl
@[simp] theorem gGe_int (i j : Int) : gGe (.d (.int i)) (.d (.int j)) S = .ok (.d (.bl (decide (j ≤ i)))) S := rfl
@[simp] theorem gLe_int (i j : Int) : gLe (.d (.int i)) (.d (.int j)) S = .ok (.d (.bl (decide (i ≤ j)))) S := rfl
@[simp] theorem gLe_str (i j : Str) : gLe (.d (.str i)) (.d (.str j)) S = .ok (.d (.bl (!decide (j.cps.toList < i.cps.toList)))) S := rfl
/-- == of plain data of little depth -/
@[simp] theorem gEq_dd (neg : Bool) (x y : D) : gEq neg (.d x) (.d y) S = if min x.dep y.dep ≤ 64 then .ok (.d (.bl (if neg = true then !eqD x y else eqD x y))) S else .no := rfl
@[simp] theorem dep_int (i : Int) : (D.int i).dep = 0 := by rw [D.dep]
@[simp] theorem dep_bl (i : Bool) : (D.bl i).dep = 0 := by rw [D.dep]
@[simp] theorem dep_str (i : Str) : (D.str i).dep = 0 := by rw [D.dep]
@[simp] theorem dep_non : D.non.dep = 0 := by rw [D.dep]
@[simp] theorem dep_tup (ds : List D) : (D.tup ds).dep = depAll ds + 1 := by rw [D.dep]
@[simp] theorem dep_lst (ds : List D) : (D.lst ds).dep = depAll ds + 1 := by rw [D.dep]
@[simp] theorem depAll_nil : depAll [] = 0 := by rw [depAll]
@[simp] theorem depAll_cons (x : D) (xs : List D) : depAll (x :: xs) = max x.dep (depAll xs) := by rw [depAll]
@[simp] theorem eqD_int (i j : Int) : eqD (.int i) (.int j) = decide (i = j) := by
  rw [eqD]
  by_cases h : i = j
  · simp [h]
  · rw [beq_eq_false_iff_ne.mpr h, decide_eq_false h]
@[simp] theorem eqD_str (i j : Str) : eqD (.str i) (.str j) = decide (i = j) := by
  rw [eqD]
  by_cases h : i = j
  · simp [h]
  · rw [beq_eq_false_iff_ne.mpr h, decide_eq_false h]
@[simp] theorem eqD_bl (i j : Bool) : eqD (.bl i) (.bl j) = decide (i = j) := by cases i <;> cases j <;> rfl
@[simp] theorem eqD_non : eqD .non .non = true := by rw [eqD]
@[simp] theorem eqD_tup (x y : List D) : eqD (.tup x) (.tup y) = eqDs x y := by rw [eqD]
@[simp] theorem eqD_lst (x y : List D) : eqD (.lst x) (.lst y) = eqDs x y := by rw [eqD]
@[simp] theorem eqDs_nil : eqDs [] [] = true := by rw [eqDs]
@[simp] theorem eqDs_cons (x y : D) (xs ys : List D) : eqDs (x :: xs) (y :: ys) = (eqD x y && eqDs xs ys) := by rw [eqDs]
@[simp] theorem gIs_non (neg : Bool) (w : Wv) : gIs neg w (.d .non) S = .ok (.d (.bl (if neg = true then !isNon w else isNon w))) S := rfl
@[simp] theorem isNon_non : isNon (.d .non) = true := rfl
@[simp] theorem isNon_tup (ds : List D) : isNon (.d (.tup ds)) = false := rfl
@[simp] theorem isNon_lst (ds : List D) : isNon (.d (.lst ds)) = false := rfl
@[simp] theorem isNon_int (ds : Int) : isNon (.d (.int ds)) = false := rfl
@[simp] theorem isNon_str (ds : Str) : isNon (.d (.str ds)) = false := rfl
@[simp] theorem isNon_ref (n : Nat) : isNon (.ref n) = false := rfl
@[simp] theorem gIx_int (w : Wv) (i : Int) : gIx w (.d (.int i)) S = gIxI w i S := rfl
theorem gIxI_lst (ds : List D) (i : Int) : gIxI (.d (.lst ds)) i S = match atI ds i with
  | some x => .ok (.d x) S
  | none => .no := by
  unfold gIxI
  simp only [seqW]
  unfold atI
  rw [List.length_map]
  cases ixN ds.length i with
  | none => rfl
  | some j =>
    simp only [Option.bind_some, List.getElem?_map]
    cases ds[j]? <;> rfl
theorem gIxI_tup (ds : List D) (i : Int) : gIxI (.d (.tup ds)) i S = match atI ds i with
  | some x => .ok (.d x) S
  | none => .no := by
  unfold gIxI
  simp only [seqW]
  unfold atI
  rw [List.length_map]
  cases ixN ds.length i with
  | none => rfl
  | some j =>
    simp only [Option.bind_some, List.getElem?_map]
    cases ds[j]? <;> rfl
theorem gIxI_scr (ns : List Int) (i : Int) : gIxI (.scr ns) i S = match atI ns i with
  | some x => .ok (.d (.int x)) S
  | none => .no := by
  unfold gIxI
  simp only [seqW]
  unfold atI
  rw [List.length_map]
  cases ixN ns.length i with
  | none => rfl
  | some j =>
    simp only [Option.bind_some, List.getElem?_map]
    cases ns[j]? <;> rfl
theorem atI_of {α : Type} {xs : List α} {i : Int} {j : Nat} {x : α} (hj : i = (j : Int)) (h : xs[j]? = some x) : atI xs i = some x := by
  subst hj
  exact atI_nat h
/-- items of written tuples and lists -/
@[simp] theorem at0 {α : Type} (a : α) (xs : List α) : atI (a :: xs) 0 = some a := atI_of (j := 0) rfl rfl
@[simp] theorem at1 {α : Type} (a b : α) (xs : List α) : atI (a :: b :: xs) 1 = some b := atI_of (j := 1) rfl rfl
@[simp] theorem at2 {α : Type} (a b c : α) (xs : List α) : atI (a :: b :: c :: xs) 2 = some c := atI_of (j := 2) rfl rfl
@[simp] theorem at3 {α : Type} (a b c d : α) (xs : List α) : atI (a :: b :: c :: d :: xs) 3 = some d := atI_of (j := 3) rfl rfl
@[simp] theorem at4 {α : Type} (a b c d e : α) (xs : List α) : atI (a :: b :: c :: d :: e :: xs) 4 = some e := atI_of (j := 4) rfl rfl
@[simp] theorem gLen_str (z : Str) : gLen [.d (.str z)] S = if z.length ≤ 16777216 then .ok (.d (.int z.length)) S else .no := rfl
@[simp] theorem gLen_lst (z : List D) : gLen [.d (.lst z)] S = .ok (.d (.int z.length)) S := by simp [gLen, seqW]
@[simp] theorem gLen_tup (z : List D) : gLen [.d (.tup z)] S = .ok (.d (.int z.length)) S := by simp [gLen, seqW]
@[simp] theorem gLen_scr (z : List Int) : gLen [.scr z] S = .ok (.d (.int z.length)) S := by simp [gLen, seqW]
@[simp] theorem gAbs_int (i : Int) : gAbs [.d (.int i)] S = .ok (.d (.int (if i < 0 then -i else i))) S := rfl
@[simp] theorem gMax2_int (i j : Int) : gMax2 [.d (.int i), .d (.int j)] S = .ok (.d (.int (if j > i then j else i))) S := rfl
@[simp] theorem gMin2_int (i j : Int) : gMin2 [.d (.int i), .d (.int j)] S = .ok (.d (.int (if j < i then j else i))) S := rfl
@[simp] theorem gInt_int (i : Int) : gInt [.d (.int i)] S = .ok (.d (.int i)) S := rfl
@[simp] theorem gInt_bl (b : Bool) : gInt [.d (.bl b)] S = .ok (.d (.int (if b then 1 else 0))) S := rfl
@[simp] theorem gStr_int (i : Int) : gStr [.d (.int i)] S = if Sm i then .ok (.d (.str (toString i))) S else .no := rfl
@[simp] theorem gStr_str (i : Str) : gStr [.d (.str i)] S = .ok (.d (.str i)) S := rfl
@[simp] theorem gList_lst (z : List D) : gList [.d (.lst z)] S = .ok (.d (.lst z)) S := by simp [gList, seqW, allD_map]
@[simp] theorem gList_tup (z : List D) : gList [.d (.tup z)] S = .ok (.d (.lst z)) S := by simp [gList, seqW, allD_map]
@[simp] theorem gTuple_lst (z : List D) : gTuple [.d (.lst z)] S = .ok (.d (.tup z)) S := by simp [gTuple, seqW, allD_map]
@[simp] theorem gTuple_tup (z : List D) : gTuple [.d (.tup z)] S = .ok (.d (.tup z)) S := by simp [gTuple, seqW]
@[simp] theorem allD_nil : allD [] = some [] := rfl
@[simp] theorem allD_cons (x : D) (r : List Wv) : allD (.d x :: r) = (allD r).map (x :: ·) := rfl
@[simp] theorem gTup_s (ws : List Wv) : gTup ws S = if ws.length ≤ 1000 then match allD ws with
  | some ds => .ok (.d (.tup ds)) S
  | none => if ws.all Wv.calm = true then .ok (.ref S.length) (S ++ [.tup ws]) else .no
  else .no := rfl
@[simp] theorem gLst_s (ws : List Wv) : gLst ws S = if ws.length ≤ 1000 then match allD ws with
  | some ds => .ok (.d (.lst ds)) S
  | none => .no
  else .no := rfl
@[simp] theorem gIsi_int (T : Ty) (i : Int) : gIsi T (.d (.int i)) S = .ok (.d (.bl (match T with | .int => true | _ => false))) S := by cases T <;> rfl
@[simp] theorem gIsi_bl (T : Ty) (i : Bool) : gIsi T (.d (.bl i)) S = .ok (.d (.bl (match T with | .int => true | .bool => true | _ => false))) S := by cases T <;> rfl
@[simp] theorem gIsi_str (T : Ty) (i : Str) : gIsi T (.d (.str i)) S = .ok (.d (.bl (match T with | .str => true | _ => false))) S := by cases T <;> rfl
@[simp] theorem gIsi_tup (T : Ty) (i : List D) : gIsi T (.d (.tup i)) S = .ok (.d (.bl (match T with | .tuple => true | _ => false))) S := by cases T <;> rfl
@[simp] theorem gIsi_lst (T : Ty) (i : List D) : gIsi T (.d (.lst i)) S = .ok (.d (.bl (match T with | .list => true | _ => false))) S := by cases T <;> rfl
@[simp] theorem gIsi_non (T : Ty) : gIsi T (.d .non) S = .ok (.d (.bl false)) S := by cases T <;> rfl
end
end DL

/-! dicts: get, put, values; lists: append, extend, clear, put; attributes put; calls that leave nothing behind -/
namespace DL
open PySem PySem.Spec PyProof.Rows L2
section
variable {X : Cx} {xo : Option (Addr × Nat)} {pos cpos apos : Pos} {o e f : Expr} {fo fa fb : Ev}

/-! ## d.get -/
def isDictW (S : Store) : Wv → Bool
  | .ref n => match S[n]? with
    | some (.dK _) => true
    | some (.dT _) => true
    | _ => false
  | _ => false
theorem isDictW_rep {G : Gc} {F : Hp} {ι : List Addr} {S : Store} {H : Hp} {w : Wv} {v : V} (r : Real G F ι S H) (h : RepW G F ι w v) (c : isDictW S w = true) : ∃ a, v = .ref a ∧ IsD H a := by
  unfold isDictW at c
  split at c
  · obtain ⟨a, e1, rfl⟩ := h
    split at c
    · rename_i kvs e2
      obtain ⟨_, _, e3, l, rfl, _⟩ := r.at_ _ a _ e1 e2 (fun z => nomatch z)
      exact ⟨a, rfl, .inl ⟨l, .inl e3⟩⟩
    · rename_i kvs e2
      obtain ⟨_, _, e3, l, rfl, _⟩ := r.at_ _ a _ e1 e2 (fun z => nomatch z)
      exact ⟨a, rfl, .inr ⟨l, .inl e3⟩⟩
    · cases c
  · cases c
def evGet2 (fo fa fb : Ev) : Ev := fun ρ S => (fo ρ S).bind fun d S1 => if isDictW S1 d = true then (fa ρ S1).bind fun k S2 => (fb ρ S2).bind fun x S3 => match dictW S3 d k with
  | some (some v) => .ok v S3
  | some none => .ok x S3
  | none => .no
  else .no
def evGet1 (fo fa : Ev) : Ev := fun ρ S => (fo ρ S).bind fun d S1 => if isDictW S1 d = true then (fa ρ S1).bind fun k S2 => match dictW S2 d k with
  | some (some v) => .ok v S2
  | some none => .ok (.d .non) S2
  | none => .no
  else .no
theorem de_get2 (hu : X.A.units + 64 < cLine) (ho : DE X xo o fo) (ha : DE X xo e fa) (hb : DE X xo f fb) (m : M2 X o "get" apos e f cpos) : DE X xo (.Call (.Attribute o "get" apos) [e, f] [] cpos) (evGet2 fo fa fb) :=
  ⟨fun W tk => pe_imp (pe_dget2 (by omega) (ho.run W tk) (ha.run W tk) (hb.run W tk) m) fun σ H Q ⟨F, ι, S, ρ, rl, en, p⟩ => TEo.step rl en p fun F1 ι1 S1 H1 d vd x1 r1 en1 hd p1 => by
    split at p1
    · rename_i hc
      obtain ⟨a, rfl, is⟩ := isDictW_rep r1 hd hc
      refine ⟨a, rfl, is, TEo.step r1 en1 p1 fun F2 ι2 S2 H2 k vk x2 r2 en2 hk p2 => TEo.step r2 en2 p2 fun F3 ι3 S3 H3 z vz x3 r3 en3 hz p3 => ?_⟩
      have hd3 := (hd.ext x2).ext x3
      have hk3 := hk.ext x3
      split at p3
      · rename_i v e1
        obtain ⟨a', ea, h⟩ := dictW_rep r3 hd3 hk3 e1
        cases ea
        rcases h with ⟨h, _⟩ | ⟨u, y, e2, h, r⟩
        · cases h
        · cases e2
          exact ⟨_, h, ret_w p3 r3 r⟩
      · rename_i e1
        obtain ⟨a', ea, h⟩ := dictW_rep r3 hd3 hk3 e1
        cases ea
        rcases h with ⟨_, h⟩ | ⟨u, y, e2, h, r⟩
        · exact ⟨_, h, ret_w p3 r3 hz⟩
        · cases e2
      · exact p3.elim
    · exact p1.elim⟩
theorem de_get1 (hu : X.A.units + 64 < cLine) (ho : DE X xo o fo) (ha : DE X xo e fa) (m : M1 X o "get" apos e cpos) : DE X xo (.Call (.Attribute o "get" apos) [e] [] cpos) (evGet1 fo fa) :=
  ⟨fun W tk => pe_imp (pe_dget1 (by omega) (ho.run W tk) (ha.run W tk) m) fun σ H Q ⟨F, ι, S, ρ, rl, en, p⟩ => TEo.step rl en p fun F1 ι1 S1 H1 d vd x1 r1 en1 hd p1 => by
    split at p1
    · rename_i hc
      obtain ⟨a, rfl, is⟩ := isDictW_rep r1 hd hc
      refine ⟨a, rfl, is, TEo.step r1 en1 p1 fun F2 ι2 S2 H2 k vk x2 r2 en2 hk p2 => ?_⟩
      have hd3 := hd.ext x2
      split at p2
      · rename_i v e1
        obtain ⟨a', ea, h⟩ := dictW_rep r2 hd3 hk e1
        cases ea
        rcases h with ⟨h, _⟩ | ⟨u, y, e2, h, r⟩
        · cases h
        · cases e2
          exact ⟨_, h, ret_w p2 r2 r⟩
      · rename_i e1
        obtain ⟨a', ea, h⟩ := dictW_rep r2 hd3 hk e1
        cases ea
        rcases h with ⟨_, h⟩ | ⟨u, y, e2, h, r⟩
        · exact ⟨_, h, p2.now (.refl _ _ _) r2 _ (w_non.mpr rfl)⟩
        · cases e2
      · exact p2.elim
    · exact p1.elim⟩

/-! ## d[k] = v -/
def dPut (S : Store) (n : Nat) (k v : Wv) : Option Store := if v.calm = true then match S[n]? with
  | some (.dK kvs) => if kvs.length < 16777216 then (asKey k).map fun k => S.set n (.dK (putKW kvs k v)) else none
  | some (.dT kvs) => if kvs.length < 16777216 then match k with
    | .d (.tup ds) => (keysOf ds).map fun ks => S.set n (.dT (putKW kvs ks v))
    | _ => none
    else none
  | _ => none
  else none
def sDPutS (fo fa fv : Ev) : Sv := fun ρ S => (fv ρ S).toS ρ fun v S1 => (fo ρ S1).toS ρ fun d S2 => (fa ρ S2).toS ρ fun k S3 => match d with
  | .ref n => match dPut S3 n k v with
    | some S4 => .nx ρ S4
    | none => .no
  | _ => .no
theorem dPut_rep {G : Gc} {F : Hp} {ι : List Addr} {S S' : Store} {H : Hp} {n : Nat} {k v : Wv} {vd vk vv : V} (r : Real G F ι S H) (hd : RepW G F ι (.ref n) vd) (hk : RepW G F ι k vk) (hv : RepW G F ι v vv) (e : dPut S n k v = some S') :
    ∃ a H', vd = .ref a ∧ DPut H a vk vv H' ∧ Real G F ι S' H' ∧ Ext F ι H F ι H' := by
  obtain ⟨a, e1, rfl⟩ := hd
  unfold dPut at e
  split at e
  · rename_i hc
    have hv' := calm_of hv hc
    split at e
    · rename_i kvs e2
      split at e
      · rename_i hl
        cases q : asKey k with
        | none => rw [q] at e; cases e
        | some kk =>
          rw [q] at e; cases e
          obtain ⟨_, _, e3, l, rfl, kv⟩ := r.at_ n a _ e1 e2 (fun z => nomatch z)
          obtain rfl := asKey_rep hk q
          exact ⟨a, _, rfl, DPut.k e3 (by rw [← kvr_len kv, sizeLine_eq]; exact hl), r.put e1 e2 (fun z => nomatch z) ⟨_, rfl, kvr_put kv kk hv'⟩, Ext.put e1⟩
      · cases e
    · rename_i kvs e2
      split at e
      · rename_i hl
        split at e
        · rename_i ds
          cases q : keysOf ds with
          | none => rw [q] at e; cases e
          | some ks =>
            rw [q] at e; cases e
            obtain ⟨_, _, e3, l, rfl, kv⟩ := r.at_ n a _ e1 e2 (fun z => nomatch z)
            obtain ⟨b, xs, rfl, h5, h6⟩ := w_tup.mp hk
            have ex := keysOf_rep h6 q
            subst ex
            exact ⟨a, _, rfl, DPut.t e3 (r.frz _ _ h5) (by rw [← kvr_len kv, sizeLine_eq]; exact hl), r.put e1 e2 (fun z => nomatch z) ⟨_, rfl, kvr_put kv ks hv'⟩, Ext.put e1⟩
        · cases e
      · cases e
    · cases e
  · cases e
theorem ds_dput {i value : Expr} {pos' : Pos} {fi fv : Ev} (hu : X.A.units + 64 < cLine) (ho : DE X xo o fo) (hi : DE X xo i fi) (hv : DE X xo value fv) (hs : swapsWith value (some (.Subscript o i pos')) pos.line X.env = pure false) :
    DS X xo (.Assign [.Subscript o i pos'] value pos) (sDPutS fo fi fv) :=
  ⟨fun W tk => ps_imp (ps_dput (by omega) (ho.run W tk) (hi.run W tk) (hv.run W tk) hs) fun Dn σ H ⟨F, ι, S, ρ, r, en, p⟩ => TEo.stepS r en p fun F1 ι1 S1 H1 v vv x1 r1 en1 hv1 p1 => TEo.stepS r1 en1 p1 fun F2 ι2 S2 H2 d vd x2 r2 en2 hd p2 => TEo.stepS r2 en2 p2 fun F3 ι3 S3 H3 k vk x3 r3 en3 hk p3 => by
    split at p3
    · split at p3
      · rename_i n S4 e
        obtain ⟨a, H4, rfl, h1, h2, h3⟩ := dPut_rep r3 (hd.ext x3) hk ((hv1.ext x2).ext x3) e
        exact ⟨a, H4, rfl, h1, (p3.ext h3).nxt h2 (en3.ext h3)⟩
      · exact p3.elim
    · exact p3.elim⟩

/-! ## list methods -/
def lstOf (S : Store) : Wv → Option (Nat × List Wv)
  | .ref n => match S[n]? with
    | some (.lst ws) => some (n, ws)
    | _ => none
  | _ => none
theorem lstOf_rep {G : Gc} {F : Hp} {ι : List Addr} {S : Store} {H : Hp} {w : Wv} {v : V} {n : Nat} {ws : List Wv} (r : Real G F ι S H) (h : RepW G F ι w v) (e : lstOf S w = some (n, ws)) :
    ∃ a xs, v = .ref a ∧ H a = some (.lst xs) ∧ RepWs G.calm F ι ws xs ∧ ι[n]? = some a ∧ S[n]? = some (.lst ws) := by
  unfold lstOf at e
  split at e
  · split at e
    · rename_i e2
      cases e
      obtain ⟨a, e1, rfl⟩ := h
      obtain ⟨_, _, e3, l, rfl, q⟩ := r.at_ _ a _ e1 e2 (fun z => nomatch z)
      exact ⟨a, l, rfl, e3, q, e1, e2⟩
    · cases e
  · cases e
def gAppend (w u : Wv) (S : Store) : Res Wv := if u.calm = true then match lstOf S w with
  | some (n, ws) => if ws.length < 16777216 then .ok (.d .non) (S.set n (.lst (ws ++ [u]))) else .no
  | none => .no
  else .no
def lstAny (S : Store) : Wv → Option (List Wv)
  | .d (.lst ds) => some (ds.map .d)
  | .ref n => match S[n]? with
    | some (.lst ws) => some ws
    | _ => none
  | _ => none
def gExtend (w u : Wv) (S : Store) : Res Wv := match lstOf S w, lstAny S u with
  | some (n, ws), some us => if ws.length + us.length ≤ 16777216 then .ok (.d .non) (S.set n (.lst (ws ++ us))) else .no
  | _, _ => .no
def gClear (w : Wv) (S : Store) : Res Wv := match lstOf S w with
  | some (n, ws) => .ok (.d .non) (S.set n (.lst []))
  | none => .no
/-- o.m(e) of a list: o is a list when it is asked for its method -/
def evLm (g : Wv → Wv → Store → Res Wv) (fo fa : Ev) : Ev := fun ρ S => (fo ρ S).bind fun w S1 => if (lstOf S1 w).isSome = true then (fa ρ S1).bind fun u S2 => g w u S2 else .no
theorem lstOf_ty {G : Gc} {F : Hp} {ι : List Addr} {S : Store} {H : Hp} {w : Wv} {v : V} (r : Real G F ι S H) (h : RepW G F ι w v) (c : (lstOf S w).isSome = true) : tyV G.K "list" v H := by
  cases q : lstOf S w with
  | none => rw [q] at c; cases c
  | some p =>
    obtain ⟨a, xs, rfl, e, _⟩ := lstOf_rep (n := p.1) (ws := p.2) r h q
    unfold tyV
    exact .inl ⟨rfl, xs, .inl (.inl e)⟩

theorem lstAny_rep {G : Gc} {F : Hp} {ι : List Addr} {S : Store} {H : Hp} {w : Wv} {v : V} {ws : List Wv} (r : Real G F ι S H) (h : RepW G F ι w v) (e : lstAny S w = some ws) : ∃ a xs, v = .ref a ∧ H a = some (.lst xs) ∧ RepWs G.calm F ι ws xs := by
  unfold lstAny at e
  split at e
  · cases e
    obtain ⟨a, xs, rfl, q, p⟩ := w_lst.mp h
    exact ⟨a, xs, rfl, r.frz _ _ q, repWs_of p⟩
  · split at e
    · rename_i e2
      cases e
      obtain ⟨a, xs, rfl, _, q, p⟩ := r.ref_lst h e2
      exact ⟨a, xs, rfl, q, p⟩
    · cases e
  · cases e
structure LmG (X : Cx) (xo : Option (Addr × Nat)) (name : Str) (g : Wv → Wv → Store → Res Wv) : Prop where
  ex : ∃ id r, Slot "list" name id ∧ typeOf (.builtin id) = (pure (.type "method_descriptor") : Sem Value) ∧ MtR X id r ∧
    ∀ (W : WX) (F : Hp) (ι : List Addr) (S : Store) (H : Hp) (σ : St) (x y : V) (w u : Wv) (Q : VK), Real (gc X xo) F ι S H → RepW (gc X xo) F ι w x → RepW (gc X xo) F ι u y → PostE (gc X xo) W F ι H σ (g w u S) Q → r x [y] H Q
theorem lm_append : LmG X xo "append" gAppend := ⟨"list.append", rAppend, PySem.F.slot_list_append, PySem.F.type_list_append, mt_append, by
  intro W F ι S H σ x y w u Q r hx hy p
  unfold gAppend at p
  split at p
  · rename_i hc
    split at p
    · rename_i n ws e
      split at p
      · rename_i hl
        obtain ⟨a, xs, rfl, e1, e2, e3, e4⟩ := lstOf_rep r hx e
        exact ⟨a, xs, y, rfl, rfl, e1, by rw [← e2.length, sizeLine_eq]; exact hl, ret_put p r e3 e4 (fun z => nomatch z) ⟨_, rfl, p2app e2 (.cons (calm_of hy hc) .nil)⟩ (w_non.mpr rfl)⟩
      · exact p.elim
    · exact p.elim
  · exact p.elim⟩
theorem lm_extend : LmG X xo "extend" gExtend := ⟨"list.extend", rExtend, PySem.F.slot_list_extend, PySem.F.type_list_extend, mt_extend, by
  intro W F ι S H σ x y w u Q r hx hy p
  unfold gExtend at p
  split at p
  · rename_i n ws us e f
    split at p
    · rename_i hl
      obtain ⟨a, xs, rfl, e1, e2, e3, e4⟩ := lstOf_rep r hx e
      obtain ⟨b, zs, rfl, f1, f2⟩ := lstAny_rep r hy f
      exact ⟨a, b, xs, zs, rfl, rfl, e1, f1, by rw [← e2.length, ← f2.length, sizeLine_eq]; exact hl, ret_put p r e3 e4 (fun z => nomatch z) ⟨_, rfl, p2app e2 f2⟩ (w_non.mpr rfl)⟩
    · exact p.elim
  · exact p.elim⟩
theorem de_lm {name : Str} {g : Wv → Wv → Store → Res Wv} (k : LmG X xo name g) (ho : DE X xo o fo) (ha : DE X xo e fa)
    (hbase : attributeBase o name X.env (eval o X.env) = eval o X.env := by rfl)
    (hfew : ((backTo cpos (starEach [e] X.env)).all (fun x => !x.1) && (backToKw cpos (keywordEach [] X.env)).all (fun x => x.1.isSome)
      && decide ([e].length + ([] : List Keyword).length + (if ([] : List Keyword).isEmpty then 0 else 1) < 30)) = true := by rfl)
    (hline : (apos.endLine == cpos.line) = true := by rfl) (hs : starEach [e] X.env = (false, eval e X.env) :: starEach [] X.env := by rfl) (hplain : (backTo cpos (starEach [] X.env)).any (·.1) = false := by rfl) :
    DE X xo (.Call (.Attribute o name apos) [e] [] cpos) (evLm g fo fa) := by
  obtain ⟨id, r, sl, ty, mt, ok⟩ := k.ex
  exact ⟨fun W tk => pe_imp (pe_bm PySem.F.plainAttrs_list sl ty mt (ho.run W tk) (pa_cons (ha.run W tk) pa_nil hs) hbase hfew hline hs hplain) fun σ H Q ⟨F, ι, S, ρ, rl, en, p⟩ => TEo.step rl en p fun F1 ι1 S1 H1 w v x1 r1 en1 hv p1 => by
    split at p1
    · rename_i hc
      refine ⟨lstOf_ty r1 hv hc, TEo.step r1 en1 p1 fun F2 ι2 S2 H2 u y x2 r2 en2 hy p2 => ?_⟩
      exact ok W F2 ι2 S2 H2 σ v y w u Q r2 (hv.ext x2) hy p2
    · exact p1.elim⟩
theorem de_clear (ho : DE X xo o fo) (hbase : attributeBase o "clear" X.env (eval o X.env) = eval o X.env := by rfl) (hline : (apos.endLine == cpos.line) = true := by rfl) : DE X xo (.Call (.Attribute o "clear" apos) [] [] cpos) (evUn gClear fo) :=
  ⟨fun W tk => pe_imp (pe_bm0 PySem.F.plainAttrs_list PySem.F.slot_list_clear PySem.F.type_list_clear mt_clear (ho.run W tk) hbase hline) fun σ H Q ⟨F, ι, S, ρ, rl, en, p⟩ => TEo.step rl en p fun F1 ι1 S1 H1 w v x1 r1 en1 hv p1 => by
    unfold gClear at p1
    split at p1
    · rename_i n ws e
      obtain ⟨a, xs, rfl, e1, e2, e3, e4⟩ := lstOf_rep r1 hv e
      exact ⟨.inl ⟨rfl, xs, .inl (.inl e1)⟩, a, xs, rfl, rfl, e1, ret_put p1 r1 e3 e4 (fun z => nomatch z) ⟨_, rfl, .nil⟩ (w_non.mpr rfl)⟩
    · exact p1.elim⟩
/-- o[i] = v of a list of the store -/
def sLPut (fo fa fv : Ev) : Sv := fun ρ S => (fv ρ S).toS ρ fun v S1 => (fo ρ S1).toS ρ fun d S2 => (fa ρ S2).toS ρ fun k S3 => match k with
  | .d (.int i) => if v.calm = true then match lstOf S3 d with
    | some (n, ws) => match ixN ws.length i with
      | some j => .nx ρ (S3.set n (.lst (ws.set j v)))
      | none => .no
    | none => .no
    else .no
  | _ => .no
theorem ds_lput {i value : Expr} {pos' : Pos} {fi fv : Ev} (ho : DE X xo o fo) (hi : DE X xo i fi) (hv : DE X xo value fv) (hs : swapsWithSole [.Subscript o i pos'] value pos.line X.env = pure false := by rfl) (hw : swappedStores [.Subscript o i pos'] value X.env = pure none := by rfl)
    (h1 : (assignEach [.Subscript o i pos'] X.env).map (·.2) = [assign (.Subscript o i pos') X.env] := by rfl)
    (ha : ∀ v, assign (.Subscript o i pos') X.env v = (do
      let ov ← holding [v] (eval o X.env)
      let iv ← holding [v, ov] (eval i X.env)
      standAt pos'
      holding [v, ov, iv] (setItem ov iv v)
      release [v, ov, iv] []) := by intro _; rfl) :
    DS X xo (.Assign [.Subscript o i pos'] value pos) (sLPut fo fi fv) :=
  ⟨fun W tk => ps_imp (ps_asg (hv.run W tk) (pg_sub (ho.run W tk) (hi.run W tk) set_list ha) hs hw h1) fun Dn σ H ⟨F, ι, S, ρ, r, en, p⟩ => TEo.stepS r en p fun F1 ι1 S1 H1 v vv x1 r1 en1 hv1 p1 => TEo.stepS r1 en1 p1 fun F2 ι2 S2 H2 d vd x2 r2 en2 hd p2 => TEo.stepS r2 en2 p2 fun F3 ι3 S3 H3 k vk x3 r3 en3 hk p3 => by
    split at p3
    · rename_i z
      split at p3
      · rename_i hc
        split at p3
        · rename_i n ws e
          split at p3
          · rename_i j ej
            obtain ⟨a, xs, rfl, e1, e2, e3, e4⟩ := lstOf_rep r3 (hd.ext x3) e
            exact ⟨a, xs, z, j, rfl, w_int.mp hk, e1, by rw [← e2.length]; exact ej, (p3.ext (Ext.put e3)).nxt (r3.put e3 e4 (fun z => nomatch z) ⟨_, rfl, p2set (calm_of ((hv1.ext x2).ext x3) hc) j e2⟩) en3⟩
          · exact p3.elim
        · exact p3.elim
      · exact p3.elim
    · exact p3.elim⟩

/-! ## o.f = v -/
def putWs (i : Nat) (v : Wv) (ws : List Wv) : List Wv := if i < ws.length then ws.set i v else ws ++ [v]
def fldPut (S : Store) (C i : Nat) (w v : Wv) : Option Store := match w with
  | .ref n => match S[n]? with
    | some (.ins C' ws) => if C' = C ∧ i ≤ ws.length ∧ v.calm = true then some (S.set n (.ins C (putWs i v ws))) else none
    | _ => none
  | _ => none
def sFld (C i : Nat) (fo fv : Ev) : Sv := fun ρ S => (fv ρ S).toS ρ fun v S1 => (fo ρ S1).toS ρ fun w S2 => match fldPut S2 C i w v with
  | some S3 => .nx ρ S3
  | none => .no
theorem putF_at {f : Str} {y : V} : ∀ {l : List (Str × V)} {i : Nat}, (l.map (·.1)).Nodup → (l.map (·.1))[i]? = some f → putF f y l = l.set i (f, y)
  | [], i, _, h => by simp at h
  | (k, x) :: l, 0, _, h => by
    have : k = f := by simpa using h
    subst this
    rw [putF, if_pos rfl]; rfl
  | (k, x) :: l, i + 1, nd, h => by
    simp only [List.map_cons, List.nodup_cons] at nd
    have h' : (l.map (·.1))[i]? = some f := by simpa using h
    have ne : k ≠ f := fun e => nd.1 (e ▸ List.mem_of_getElem? h')
    rw [putF, if_neg ne, putF_at nd.2 h']; rfl
theorem putF_new {f : Str} {y : V} : ∀ {l : List (Str × V)}, f ∉ l.map (·.1) → putF f y l = l ++ [(f, y)]
  | [], _ => rfl
  | (k, x) :: l, h => by
    simp only [List.map_cons, List.mem_cons, not_or] at h
    rw [putF, if_neg (Ne.symm h.1), putF_new h.2]; rfl
theorem fldPut_rep {G : Gc} {F : Hp} {ι : List Addr} {S S' : Store} {H : Hp} {w v : Wv} {vw vv : V} {C i : Nat} {f : Str} (k : FldOk G.K C i f) (r : Real G F ι S H) (hw : RepW G F ι w vw) (hv : RepW G F ι v vv) (e : fldPut S C i w v = some S') :
    ∃ a Ca dx fs, vw = .ref a ∧ H a = some (.ins Ca dx fs) ∧ Cls G.K Ca ∧ NoAttr G.K Ca f ∧ fs.length < 1000 ∧ Real G F ι S' (upd H a (.ins Ca dx (putF f vv fs))) ∧ Ext F ι H F ι (upd H a (.ins Ca dx (putF f vv fs))) := by
  obtain ⟨Ca, fs, e1, nd, e2, c1, c2⟩ := k.ex
  unfold fldPut at e
  split at e
  · rename_i n
    split at e
    · rename_i C' ws e3
      split at e
      · rename_i hh
        obtain ⟨rfl, hi, hc⟩ := hh
        cases e
        obtain ⟨a, e5, rfl⟩ := hw
        obtain ⟨_, _, e6, Ca', fs', dx, l, rfl, e7, e8, e9, e10⟩ := r.at_ n a _ e5 e3 (fun z => nomatch z)
        have e7' : (⟨G.K, none⟩ : Gc).cls C' = some (Ca', fs') := e7
        rw [e1] at e7'
        cases e7'
        have hl : l.length = ws.length := by have := e10.length; simpa using this.symm
        have hfl : fs.length < 1000 := by
          have : clsTab[C']?.map (fun p => (He.ga G.K p.1, p.2)) = some (Ca, fs) := e1
          match C', this with
          | 0, h => cases h; decide
          | 1, h => cases h; decide
          | n + 2, h => simp [clsTab] at h
        refine ⟨a, Ca, dx, l, rfl, e6, c1, c2, by omega, r.put e5 e3 (fun z => nomatch z) ?_, Ext.put e5⟩
        have hv' := calm_of hv hc
        have hnd : (l.map (·.1)).Nodup := by rw [e8]; exact take_nodup nd _
        by_cases hlt : i < ws.length
        · have h1 : (l.map (·.1))[i]? = some f := by rw [e8, List.getElem?_take_of_lt hlt]; exact e2
          rw [putF_at hnd h1]
          unfold putWs
          rw [if_pos hlt]
          refine ⟨Ca, fs, dx, _, rfl, e1, ?_, by rw [List.length_set]; exact e9, ?_⟩
          · rw [List.map_set, List.length_set, ← e8]
            apply List.ext_getElem?
            intro m
            by_cases hm : i = m
            · subst hm
              rw [List.getElem?_set_self (by rw [List.length_map, hl]; exact hlt), h1]
            · rw [List.getElem?_set_ne hm]
          · rw [List.map_set]
            exact p2set hv' i e10
        · have ei : i = ws.length := by omega
          subst ei
          have hn : f ∉ l.map (·.1) := fun hm => by
            rw [e8] at hm
            obtain ⟨m, hm1, hm2⟩ := List.getElem_of_mem hm
            rw [List.getElem_take] at hm2
            have hm3 : m < ws.length := by rw [List.length_take] at hm1; omega
            obtain ⟨q1, q2⟩ := List.getElem?_eq_some_iff.mp e2
            have := (List.getElem_inj (xs := fs) (h₀ := by omega) (h₁ := q1) nd).mp (hm2.trans q2.symm)
            omega
          rw [putF_new hn]
          unfold putWs
          rw [if_neg hlt]
          obtain ⟨q1, q2⟩ := List.getElem?_eq_some_iff.mp e2
          refine ⟨Ca, fs, dx, _, rfl, e1, ?_, by rw [List.length_append]; exact q1, ?_⟩
          · rw [List.map_append, e8, List.length_append, List.length_singleton, List.take_add_one, e2]
            rfl
          · rw [List.map_append]
            exact p2app e10 (.cons hv' .nil)
      · cases e
    · cases e
  · cases e
theorem ds_fld {C i : Nat} {g : Str} {value : Expr} {pos' : Pos} {fv : Ev} (k : FldOk X.K C i g) (ho : DE X xo o fo) (hv : DE X xo value fv) (hs : swapsWith value (some (.Attribute o g pos')) pos.line X.env = pure false) :
    DS X xo (.Assign [.Attribute o g pos'] value pos) (sFld C i fo fv) :=
  ⟨fun W tk => ps_imp (ps_fld (ho.run W tk) (hv.run W tk) hs) fun Dn σ H ⟨F, ι, S, ρ, r, en, p⟩ => TEo.stepS r en p fun F1 ι1 S1 H1 v vv x1 r1 en1 hv1 p1 => TEo.stepS r1 en1 p1 fun F2 ι2 S2 H2 d vd x2 r2 en2 hd p2 => by
    split at p2
    · rename_i S3 e
      obtain ⟨a, Ca, dx, fs, h1, h2, h3, h4, h5, h6, h7⟩ := fldPut_rep k r2 hd (hv1.ext x2) e
      exact ⟨a, Ca, dx, fs, h1, h2, h3, h4, h5, (p2.ext h7).nxt h6 (en2.ext h7)⟩
    · exact p2.elim⟩
end
end DL

/-! [f(x) for x in d.values()]; calls that leave nothing behind -/
namespace DL
open PySem PySem.Spec PyProof.Rows L2
section
variable {X : Cx} {xo : Option (Addr × Nat)} {pos cpos apos : Pos} {o e f : Expr} {fo fa fb : Ev}
/-- an iterator's turns, by what stays true of the items -/
def WalksC (G : Gc) (C : Hp → List Addr → Prop) (ws : List Wv) (chk : Store → Prop) (J : It) : Prop :=
  ∀ (i : Nat) (F : Hp) (ι : List Addr) (S : Store) (H : Hp), i ≤ ws.length → Real G F ι S H → C F ι → chk S →
    (∀ u, ws[i]? = some u → J.go i H ∧ ∀ x H', J.yld i H x H' → H' = H ∧ RepW G.calm F ι u x) ∧ (i = ws.length → J.stop i H)
theorem lc_body {k : List Wv → Store → Res Wv} {i : Nat} {vs : List Nat} {t : Env → Store → Res Bool} {f : Ev} {W : WX} {σ : St} {Q : VK} {C : Hp → List Addr → Prop} {ws : List Wv} {chk : Store → Prop} {J : It} {F1 H1 : Hp} {ι1 : List Addr} {S1 : Store} {ρ : Env}
    (hk : Kp (gc X xo) k) (hi : i ∈ vs) (hC : ∀ F ι H F' ι' H', Ext F ι H F' ι' H' → C F ι → C F' ι') (hw : WalksC (gc X xo) C ws chk J) (r1 : Real (gc X xo) F1 ι1 S1 H1) (en1' : REnv (gc X xo) F1 ι1 σ ρ) (hv : C F1 ι1)
    (p1 : PostE (gc X xo) W F1 ι1 H1 σ ((if ws.length ≤ 16777216 then lcL chk i t f ws (wipeE ρ vs) S1 [] else .no).bind k) Q) :
    ∀ D, H1 D = none → ∃ Wi : Nat → Nat → Hp → Prop, (∃ m, Wi 0 m (upd H1 D (.lst []))) ∧ ∀ n m H, Wi n m H →
      (J.stop n H ∧ Q (.ref D) H) ∨ (J.go n H ∧ ∃ Nx : Hp → Prop, (∀ H', Nx H' → ∃ m', m' < m ∧ Wi (n + 1) m' H') ∧ ∀ x H', J.yld n H x H' → gName i x (wipe σ vs) H' fun σ2 H2 => wipe σ2 vs = wipe σ vs ∧ TTo (gc X xo) (fun _ _ _ _ => False) t σ2 H2 fun b H3 =>
        if b = true then TEo (gc X xo) (fun _ _ _ _ => False) f σ2 H3 fun y H4 => ∃ acc, H4 D = some (.lst acc) ∧ acc.length < sizeLine ∧ Nx (upd H4 D (.lst (acc ++ [y]))) else Nx H3) := by
  intro D hD
  split at p1
  rotate_left
  · exact p1.elim
  rename_i hz
  have en1 : REnv (gc X xo) F1 ι1 (wipe σ vs) (wipeE ρ vs) := en1'.wipe vs
  have hFD : F1 D = none := r1.fnone hD
  have hiD : D ∉ ι1 := r1.notin hD
  let Iv : Nat → Hp → Prop := fun n H => ∃ F ι S acc xs, Ext F1 ι1 H1 F ι H ∧ Real (gc X xo) F ι S H ∧ H D = some (.lst xs) ∧ F D = none ∧ D ∉ ι ∧ RepWs (gc X xo).calm F ι acc xs ∧ acc.length ≤ n ∧ C F ι ∧
    PostE (gc X xo) W F1 ι1 H1 σ ((lcL chk i t f (ws.drop n) (wipeE ρ vs) S acc).bind k) Q
  have x0 : Ext F1 ι1 H1 F1 ι1 (upd H1 D (.lst [])) := ⟨fun _ _ e => e, ⟨[], by simp⟩, fun b o e n => ⟨n, by rw [upd_ne (ne_of_none e hD)]; exact e⟩, fun _ _ _ _ e => e⟩
  refine ⟨fun n m H => m = ws.length - n ∧ n ≤ ws.length ∧ Iv n H, ⟨ws.length, by simp, Nat.zero_le _, F1, ι1, S1, [], [], x0, r1.other hFD hiD, upd_same, hFD, hiD, .nil, Nat.le_refl _, hv, p1⟩, ?_⟩
  rintro n m H2 ⟨rfl, hn, F2, ι2, S2, acc, xs, x2, r2, hD2, hF2, hi2, ha2, hl2, hv2, p2⟩
  by_cases hlt : n < ws.length
  · right
    rw [List.drop_eq_getElem_cons hlt, lcL] at p2
    split at p2
    · rename_i hch
      obtain ⟨hg, _⟩ := hw n F2 ι2 S2 H2 hn r2 hv2 hch
      obtain ⟨hgo, hy⟩ := hg _ (List.getElem?_eq_getElem hlt)
      refine ⟨hgo, Iv (n + 1), fun H' hh => ⟨ws.length - (n + 1), by omega, rfl, hlt, hh⟩, fun y H' hyy => ?_⟩
      obtain ⟨rfl, ry⟩ := hy y H' hyy
      refine ⟨wipe_set hi, ?_⟩
      have en2 : REnv (gc X xo) F2 ι2 ((wipe σ vs).set i (some y)) ((wipeE ρ vs).set i (some ws[n])) := (en1.mono x2.fz x2.pre).set i (uncalm ry)
      refine ⟨F2, ι2, S2, _, r2, en2, ?_⟩
      cases e : t ((wipeE ρ vs).set i (some ws[n])) S2 with
      | no => rw [e] at p2; exact p2.elim
      | rz c S3 => rw [e] at p2; exact p2.elim
      | ok b S3 =>
        rw [e] at p2
        intro F3 ι3 H3 x3 r3
        obtain ⟨hi3, hD3⟩ := x3.fr D _ hD2 hi2
        have hF3 := x3.fn D _ hD2 hi2 hF2
        cases b with
        | false =>
          rw [if_neg Bool.false_ne_true]
          exact ⟨F3, ι3, S3, acc, xs, x2.trans x3, r3, hD3, hF3, hi3, p2imp (fun _ _ z => z.ext x3) ha2, by omega, hC _ _ _ _ _ _ x3 hv2, p2⟩
        | true =>
          rw [if_pos rfl]
          simp only at p2
          refine ⟨F3, ι3, S3, _, r3, en2.ext x3, ?_⟩
          cases e2 : f ((wipeE ρ vs).set i (some ws[n])) S3 with
          | no => rw [e2] at p2; exact p2.elim
          | rz c S4 => rw [e2] at p2; exact p2.elim
          | ok z S4 =>
            rw [e2] at p2
            intro F4 ι4 H4 x4 r4 zv hzv
            obtain ⟨hi4, hD4⟩ := x4.fr D _ hD3 hi3
            have hF4 := x4.fn D _ hD3 hi3 hF3
            simp only at p2
            split at p2
            · rename_i hcz
              have ha4 : RepWs (gc X xo).calm F4 ι4 acc xs := p2imp (fun _ _ z => (z.ext x3).ext x4) ha2
              have xx := (x2.trans x3).trans x4
              refine ⟨xs, hD4, ?_, F4, ι4, S4, acc ++ [z], xs ++ [zv], ⟨xx.fz, xx.pre, fun b o q n => ?_, xx.fn⟩, r4.other hF4 hi4, upd_same, hF4, hi4, p2app ha4 (.cons (calm_of hzv hcz) .nil), by simp; omega, hC _ _ _ _ _ _ x4 (hC _ _ _ _ _ _ x3 hv2), p2⟩
              · rw [← ha4.length, sizeLine_eq]
                omega
              · obtain ⟨n1, q1⟩ := xx.fr b o q n
                exact ⟨n1, by rw [upd_ne (ne_of_none q hD)]; exact q1⟩
            · exact p2.elim
    · exact p2.elim
  · left
    have en' : n = ws.length := by omega
    subst en'
    rw [List.drop_length, lcL] at p2
    split at p2
    · rename_i hch
      exact ⟨(hw _ F2 ι2 S2 H2 hn r2 hv2 hch).2 rfl, hk W F1 F2 ι1 ι2 S2 H1 H2 σ acc xs D Q x2 hD r2 hD2 hF2 hi2 ha2 p2⟩
    · exact p2.elim

/-! ## a locked dict -/
section
variable {G : Gc} {F : Hp} {ι : List Addr} {S : Store} {H : Hp} {a : Addr} {od : Obj} {l : List (Key × V)}
theorem Real.lockD {n : Nat} {kvs : List (Key × Wv)} (r : Real G F ι S H) (e1 : ι[n]? = some a) (e2 : S[n]? = some (.dK kvs)) : Real G (upd F a (.frz od (.dK l))) ι (S.set n .dead) (upd H a (.frz od (.dK l))) := by
  have h1 := r.put (o := .frz od (.dK l)) (q' := .dead) e1 e2 (fun z => nomatch z) trivial
  obtain ⟨hF, _⟩ := r.at_ n a _ e1 e2 (fun z => nomatch z)
  refine ⟨h1.len, fun b u e => ?_, h1.nd, h1.trk, fun m b u f1 f2 f3 => ?_⟩
  · by_cases hb : b = a
    · subst hb; rw [upd_same] at e ⊢; exact e
    · rw [upd_ne hb] at e ⊢; exact r.frz _ _ e
  · obtain ⟨x, h, y, z⟩ := h1.at_ m b u f1 f2 f3
    have hm : m ≠ n := fun em => by
      subst em
      rw [List.getElem?_set_self (List.getElem?_eq_some_iff.mp e2).1] at f2
      cases f2
      exact f3 rfl
    have nb : b ≠ a := fun eb => by
      subst eb
      obtain ⟨l1, g1⟩ := List.getElem?_eq_some_iff.mp f1
      obtain ⟨l2, g2⟩ := List.getElem?_eq_some_iff.mp e1
      exact hm ((List.getElem_inj r.nd).mp (g1.trans g2.symm))
    exact ⟨by rw [upd_ne nb]; exact x, h, y, z.mono (fz_new hF) ⟨[], by simp⟩⟩
def drop (F : Hp) (a : Addr) : Hp := fun b => if b = a then none else F b
theorem drop_ne {F : Hp} {a b : Addr} (h : b ≠ a) : drop F a b = F b := if_neg h
theorem drop_sub (e : F a = some (.frz od (.dK l))) : FSub F (drop F a) :=
  ⟨fun b xs h => by rw [drop_ne (fun z => by subst z; rw [e] at h; cases h)]; exact h, fun b xs h => by rw [drop_ne (fun z => by subst z; rw [e] at h; cases h)]; exact h⟩
theorem drop_sqL {K : PySem.W.Frag} (e : F a = some (.frz od (.dK l))) {b : Addr} {xs : List V} (h : SqL K F b xs) : SqL K (drop F a) b xs := by
  rcases h with (h | ⟨o, h⟩) | h
  · exact .inl (.inl (by rw [drop_ne (fun z => by subst z; rw [e] at h; cases h)]; exact h))
  · exact .inl (.inr ⟨o, by rw [drop_ne (fun z => by subst z; rw [e] at h; cases h)]; exact h⟩)
  · exact .inr h
theorem drop_rep (e : F a = some (.frz od (.dK l))) : ∀ {w : Wv} {v : V}, RepW G F ι w v → RepW G (drop F a) ι w v
  | .d x, v, h => Rep.mono (drop_sub e) h
  | .ref n, v, h => h
  | .scr ns, v, ⟨b, q, h⟩ => ⟨b, q, drop_sqL e h⟩
  | .exc c, v, h => h
theorem drop_repO (e : F a = some (.frz od (.dK l))) : ∀ {w : O} {v : HO}, RepO G F ι w v → RepO G (drop F a) ι w v
  | .lst ws, v, ⟨xs, q, r⟩ => ⟨xs, q, p2imp (fun _ _ h => drop_rep e h) r⟩
  | .tup ws, v, ⟨xs, q, r⟩ => ⟨xs, q, p2imp (fun _ _ h => drop_rep e h) r⟩
  | .dK ws, v, ⟨xs, q, r⟩ => ⟨xs, q, p2imp (fun _ _ h => ⟨h.1, drop_rep e h.2⟩) r⟩
  | .dT ws, v, ⟨xs, q, r⟩ => ⟨xs, q, p2imp (fun _ _ h => ⟨h.1, drop_rep e h.2⟩) r⟩
  | .ins C ws, v, ⟨c, fs, dx, xs, q, m, k, z, r⟩ => ⟨c, fs, dx, xs, q, m, k, z, p2imp (fun _ _ h => drop_rep e h) r⟩
  | .dead, v, _ => trivial
/-- unlocked again -/
theorem unlockD {n : Nat} {kvs : List (Key × Wv)} {F' H' : Hp} {ι' : List Addr} {S' : Store} (r : Real G F ι S H) (e1 : ι[n]? = some a) (e2 : S[n]? = some (.dK kvs)) (kv : KVR G.calm F ι kvs l)
    (x : Ext (upd F a (.frz od (.dK l))) ι (upd H a (.frz od (.dK l))) F' ι' H') (r' : Real G F' ι' S' H') :
    H' a = some (.frz od (.dK l)) ∧ F' a = some (.frz od (.dK l)) ∧ Real G (drop F' a) ι' (S'.set n (.dK kvs)) (upd H' a (.dK l)) ∧ Ext F ι H (drop F' a) ι' (upd H' a (.dK l)) := by
  obtain ⟨hF, _⟩ := r.at_ n a _ e1 e2 (fun z => nomatch z)
  have hF' : F' a = some (.frz od (.dK l)) := x.fz _ _ upd_same
  have hH' := r'.frz _ _ hF'
  have e1' := ext_ix x.pre e1
  have fz : ∀ b u, F b = some u → drop F' a b = some u := fun b u e => by
    have nb := ne_of_none e hF
    rw [drop_ne nb]
    exact x.fz _ _ (by rw [upd_ne nb]; exact e)
  refine ⟨hH', hF', ⟨by simp [r'.len], fun b u e => ?_, r'.nd, fun b hb => ?_, fun m b u f1 f2 f3 => ?_⟩, ⟨fz, x.pre, fun b u e hn => ?_, fun b u e hn hf => ?_⟩⟩
  · by_cases hb : b = a
    · subst hb; simp [drop] at e
    · rw [drop_ne hb] at e; rw [upd_ne hb]; exact r'.frz _ _ e
  · by_cases hp : b = a
    · exact ⟨_, by rw [hp, upd_same]⟩
    · obtain ⟨u, e⟩ := r'.trk b hb
      exact ⟨u, by rw [upd_ne hp]; exact e⟩
  · by_cases hm : m = n
    · subst hm
      rw [e1'] at f1
      cases f1
      have hl : m < S'.length := by rw [← r'.len]; exact (List.getElem?_eq_some_iff.mp e1').1
      rw [List.getElem?_set_self hl] at f2
      cases f2
      refine ⟨by simp [drop], _, upd_same, l, rfl, p2imp (fun p q hh => ⟨hh.1, hh.2.mono fz x.pre⟩) kv⟩
    · rw [List.getElem?_set_ne (Ne.symm hm)] at f2
      obtain ⟨y, h, z, t⟩ := r'.at_ m b u f1 f2 f3
      have nb : b ≠ a := fun eb => by rw [eb, hF'] at y; cases y
      exact ⟨by rw [drop_ne nb]; exact y, h, by rw [upd_ne nb]; exact z, drop_repO hF' t⟩
  · have nb : b ≠ a := fun z => hn (z ▸ List.mem_of_getElem? e1)
    obtain ⟨q1, q2⟩ := x.fr b u (by rw [upd_ne nb]; exact e) hn
    exact ⟨q1, by rw [upd_ne nb]; exact q2⟩
  · have nb : b ≠ a := fun z => hn (z ▸ List.mem_of_getElem? e1)
    rw [drop_ne nb]
    exact x.fn b u (by rw [upd_ne nb]; exact e) hn (by rw [upd_ne nb]; exact hf)
end
/-- back to the dict -/
def unlockR (n : Nat) (kvs : List (Key × Wv)) : Res Wv → Res Wv
  | .ok w S => .ok w (S.set n (.dK kvs))
  | _ => .no
/-- [f(x) for x in d.values()], d a name -/
noncomputable def evLcV (k : List Wv → Store → Res Wv) (j i : Nat) (vs : List Nat) (t : Env → Store → Res Bool) (f : Ev) : Ev := fun ρ S => match ρ[j]? with
  | some (some (.ref n)) => match S[n]? with
    | some (.dK kvs) => unlockR n kvs ((if (kvs.map (·.2)).length ≤ 16777216 then lcL (fun _ => True) i t f (kvs.map (·.2)) (wipeE ρ vs) (S.set n .dead) [] else .no).bind k)
    | _ => .no
  | _ => .no
theorem kvr_snd {G : Gc} {F : Hp} {ι : List Addr} {kvs : List (Key × Wv)} {l : List (Key × V)} (h : KVR G F ι kvs l) {i : Nat} {u : Wv} (e : (kvs.map (·.2))[i]? = some u) : ∃ k x, l[i]? = some (k, x) ∧ RepW G F ι u x := by
  rw [List.getElem?_map] at e
  cases q : kvs[i]? with
  | none => rw [q] at e; cases e
  | some p =>
    rw [q] at e
    cases e
    obtain ⟨y, h1, h2⟩ := p2get h q
    exact ⟨y.1, y.2, h1, h2.2⟩
theorem de_lcV {i j : Nat} {x y : Str} {px py : Pos} {elt : Expr} {ifs : List Expr} {scope : Scope} {own : List (Str × Nat)} {t : Env → Store → Res Bool} {f : Ev} {k : List Wv → Store → Res Wv}
    (hk : Kp (gc X xo) k) (hc : X.calm = true) (hN : X.N.Nodup) (hv : PE X (.Name y py) (tVar j)) (ok : BlkOk X.N X.env.scope scope own) (hiv : i ∈ own.map (·.2))
    (hg : ∀ (s : Shared) (H : Hp) (C : Addr) (cl : List (Str × Addr)) (fp : List Addr), PG (X.blk s H scope (compEnvC scope cl C X.env) fp) (.Name x px) (gName i))
    (ht : ∀ (s : Shared) (H : Hp) (C : Addr) (cl : List (Str × Addr)) (fp : List Addr), DTs (X.blk s H scope (compEnvC scope cl C X.env) fp) xo ifs t)
    (he : ∀ (s : Shared) (H : Hp) (C : Addr) (cl : List (Str × Addr)) (fp : List Addr), DE (X.blk s H scope (compEnvC scope cl C X.env) fp) xo elt f)
    (hbase : attributeBase (.Name y py) "values" X.env (eval (.Name y py) X.env) = eval (.Name y py) X.env := by rfl) (hline : (apos.endLine == cpos.line) = true := by rfl)
    (hs : ∀ x, foldedSetIterable (.Call (.Attribute (.Name y py) "values" apos) [] [] cpos) X.env x = pure x := by intro _; rfl) :
    DE X xo (.ListComp elt [⟨.Name x px, .Call (.Attribute (.Name y py) "values" apos) [] [] cpos, ifs, 0⟩] scope pos) (evLcV k j i (own.map (·.2)) t f) := ⟨fun W tk => by
  refine pe_imp (pe_lock (pe_lc (tt := TTo (gc X xo) (fun _ _ _ _ => False) t) (te := TEo (gc X xo) (fun _ _ _ _ => False) f) hc hN (pi_values (tg := .Name x px) hv hbase hline) ok hg (fun s H C cl fp => (ht s H C cl fp).run _ takesF) (fun s H C cl fp => (he s H C cl fp).run _ takesF) hs)) fun σ H Q ⟨F, ι, S, ρ, r, en, p⟩ => ?_
  unfold evLcV at p
  split at p
  · rename_i n e0
    split at p
    · rename_i kvs e2
      obtain ⟨v, ev, a, e1, rfl⟩ := en.at_ j _ e0
      obtain ⟨hF, _, eH, l, rfl, kv⟩ := r.at_ n a _ e1 e2 (fun z => nomatch z)
      refine ⟨a, .dK l, eH, trivial, fun od => ?_⟩
      refine ⟨.ref a, ev, a, od, l, rfl, upd_same, ?_⟩
      have r1 := r.lockD (od := od) (l := l) e1 e2
      have en1 : REnv (gc X xo) (upd F a (.frz od (.dK l))) ι σ ρ := en.mono (fz_new hF) ⟨[], by simp⟩
      have kv1 : KVR (gc X xo).calm (upd F a (.frz od (.dK l))) ι kvs l := p2imp (fun p q hh => ⟨hh.1, hh.2.mono (fz_new hF) ⟨[], by simp⟩⟩) kv
      intro D hD
      refine lc_body (W := W) (t := t) (f := f) (J := Itd a od l) (Q := fun v H' => H' a = some (.frz od (.dK l)) ∧ Q v (upd H' a (.dK l))) (C := fun F ι => F a = some (.frz od (.dK l)) ∧ KVR (gc X xo).calm F ι kvs l) hk hiv (fun F ι H F' ι' H' xx hh => ⟨xx.fz _ _ hh.1, p2imp (fun p q z => ⟨z.1, z.2.mono xx.fz xx.pre⟩) hh.2⟩) (ws := kvs.map (·.2)) (chk := fun _ => True) ?_ r1 en1 ⟨upd_same, kv1⟩ ?_ D hD
      · intro m F2 ι2 S2 H2 hm r2 hh _
        have hd := r2.frz _ _ hh.1
        refine ⟨fun u hu => ?_, fun em => ⟨hd, by rw [em, List.length_map, kvr_len hh.2]; exact Nat.le_refl _⟩⟩
        obtain ⟨kk, z, h1, h2⟩ := kvr_snd hh.2 hu
        refine ⟨⟨hd, (List.getElem?_eq_some_iff.mp h1).1⟩, fun y H' hy => ?_⟩
        obtain ⟨rfl, k', h3⟩ := hy
        rw [h1] at h3
        cases h3
        exact ⟨rfl, h2⟩
      · generalize ((if (kvs.map (·.2)).length ≤ 16777216 then lcL (fun _ => True) i t f (kvs.map (·.2)) (wipeE ρ (own.map (·.2))) (S.set n .dead) [] else .no).bind k) = res at p
        cases res with
        | no => exact p.elim
        | rz c S' => exact p.elim
        | ok w S' =>
          intro F' ι' H' x' r' v' hv'
          obtain ⟨u1, u2, u3, u4⟩ := unlockD r e1 e2 kv x' r'
          exact ⟨u1, p _ _ _ u4 u3 v' (drop_rep u2 hv')⟩
    · exact p.elim
  · exact p.elim⟩

/-! ## calls that leave nothing behind -/
def Wv.under (n : Nat) : Wv → Bool
  | .ref m => decide (m < n)
  | .exc _ => false
  | _ => true
open Classical in
noncomputable def trim (S : Store) : Res Wv → Res Wv
  | .ok w S' => if S'.take S.length = S ∧ w.under S.length = true then .ok w S else .no
  | .rz c S' => if S'.take S.length = S then .rz c S else .no
  | .no => .no
theorem p2both {α β γ : Type} {R R' : α → β → Prop} {R0 : α → γ → Prop} (h : ∀ w y z, R w y → R0 w z → R' w y) : ∀ {xs : List α} {ys : List β} {zs : List γ}, Paired R xs ys → Paired R0 xs zs → Paired R' xs ys
  | _, _, _, .nil, _ => .nil
  | _, _, _, .cons r t, .cons r0 t0 => .cons (h _ _ _ r r0) (p2both h t t0)
theorem rep_shrink {G : Gc} {F F' : Hp} {ι t : List Addr} : ∀ {w : Wv} {v v0 : V}, RepW G F' (ι ++ t) w v → RepW G F ι w v0 → RepW G F' ι w v
  | .d x, v, v0, h, _ => h
  | .ref n, v, v0, ⟨a, e, q⟩, ⟨a0, e0, _⟩ => ⟨a, by rw [List.getElem?_append_left (List.getElem?_eq_some_iff.mp e0).1] at e; exact e, q⟩
  | .scr ns, v, v0, h, _ => h
  | .exc c, v, v0, h, _ => h
theorem repO_shrink {G : Gc} {F F' : Hp} {ι t : List Addr} : ∀ {w : O} {v v0 : HO}, RepO G F' (ι ++ t) w v → RepO G F ι w v0 → RepO G F' ι w v
  | .lst ws, v, v0, ⟨xs, q, r⟩, ⟨ys, _, r0⟩ => ⟨xs, q, p2both (R := RepW G.calm F' (ι ++ t)) (R' := RepW G.calm F' ι) (R0 := RepW G.calm F ι) (fun _ _ _ a b => rep_shrink a b) r r0⟩
  | .tup ws, v, v0, ⟨xs, q, r⟩, ⟨ys, _, r0⟩ => ⟨xs, q, p2both (R := RepW G.calm F' (ι ++ t)) (R' := RepW G.calm F' ι) (R0 := RepW G.calm F ι) (fun _ _ _ a b => rep_shrink a b) r r0⟩
  | .dK ws, v, v0, ⟨xs, q, r⟩, ⟨ys, _, r0⟩ => ⟨xs, q, p2both (R := fun (p : (Key) × Wv) (q : (Key) × V) => p.1 = q.1 ∧ RepW G.calm F' (ι ++ t) p.2 q.2) (R' := fun (p : (Key) × Wv) (q : (Key) × V) => p.1 = q.1 ∧ RepW G.calm F' ι p.2 q.2) (R0 := fun (p : (Key) × Wv) (q : (Key) × V) => p.1 = q.1 ∧ RepW G.calm F ι p.2 q.2) (fun _ _ _ a b => ⟨a.1, rep_shrink a.2 b.2⟩) r r0⟩
  | .dT ws, v, v0, ⟨xs, q, r⟩, ⟨ys, _, r0⟩ => ⟨xs, q, p2both (R := fun (p : (List Key) × Wv) (q : (List Key) × V) => p.1 = q.1 ∧ RepW G.calm F' (ι ++ t) p.2 q.2) (R' := fun (p : (List Key) × Wv) (q : (List Key) × V) => p.1 = q.1 ∧ RepW G.calm F' ι p.2 q.2) (R0 := fun (p : (List Key) × Wv) (q : (List Key) × V) => p.1 = q.1 ∧ RepW G.calm F ι p.2 q.2) (fun _ _ _ a b => ⟨a.1, rep_shrink a.2 b.2⟩) r r0⟩
  | .ins C ws, v, v0, ⟨c, fs, dx, xs, q, m, k, z, r⟩, ⟨_, _, _, _, _, _, _, _, r0⟩ => ⟨c, fs, dx, xs, q, m, k, z, p2both (R := RepW G.calm F' (ι ++ t)) (R' := RepW G.calm F' ι) (R0 := RepW G.calm F ι) (fun _ _ _ a b => rep_shrink a b) r r0⟩
  | .dead, v, v0, _, _ => trivial
theorem Real.trim {G : Gc} {F F' : Hp} {ι ι' : List Addr} {S S' : Store} {H H' : Hp} (r : Real G F ι S H) (x : Ext F ι H F' ι' H') (r' : Real G F' ι' S' H') (e : S'.take S.length = S) : Real G F' ι S H' ∧ Ext F ι H F' ι H' := by
  obtain ⟨t, rfl⟩ := x.pre
  have nd := r'.nd
  refine ⟨⟨r.len, r'.frz, r.nd, fun a ha => r'.trk a (List.mem_append_left _ ha), fun n a o e1 e2 e3 => ?_⟩, ⟨x.fz, ⟨[], by simp⟩, fun b o e n => ⟨n, (x.fr b o e n).2⟩, x.fn⟩⟩
  have hn : n < S.length := (List.getElem?_eq_some_iff.mp e2).1
  have e2' : S'[n]? = some o := by rw [← e, List.getElem?_take_of_lt hn] at e2; exact e2
  obtain ⟨y, h, z, q⟩ := r'.at_ n a o (by rw [List.getElem?_append_left (by rw [r.len]; exact hn)]; exact e1) e2' e3
  obtain ⟨_, h0, _, q0⟩ := r.at_ n a o e1 e2 e3
  exact ⟨y, h, z, repO_shrink q q0⟩
theorem under_rep {G : Gc} {F : Hp} {ι ι' : List Addr} {w : Wv} {v : V} (p : ∃ t, ι' = ι ++ t) (h : RepW G F ι' w v) (u : w.under ι.length = true) : RepW G F ι w v := by
  obtain ⟨t, rfl⟩ := p
  cases w with
  | d x => exact h
  | ref n =>
    obtain ⟨a, e, q⟩ := h
    exact ⟨a, by rw [List.getElem?_append_left (of_decide_eq_true u)] at e; exact e, q⟩
  | scr ns => exact h
  | exc c => exact h
theorem trim_post {G : Gc} {W : WX} {F : Hp} {ι : List Addr} {H : Hp} {σ : St} {S : Store} {res : Res Wv} {Q : VK} (r : Real G F ι S H) (p : PostE G W F ι H σ (trim S res) Q) : PostE G W F ι H σ res Q := by
  unfold trim at p
  split at p
  · split at p
    · rename_i hh
      intro F' ι' H' x r' v hv
      obtain ⟨r2, x2⟩ := r.trim x r' hh.1
      exact p F' ι H' x2 r2 v (under_rep x.pre hv (by rw [r.len]; exact hh.2))
    · exact p.elim
  · split at p
    · rename_i hh
      intro F' ι' H' Ca x r' hc
      obtain ⟨r2, x2⟩ := r.trim x r' hh
      exact p F' ι H' Ca x2 r2 hc
    · exact p.elim
  · exact p.elim
/-- a def's meaning, less what it leaves behind -/
noncomputable def fnP (n m : Nat) (g : Sv) : Sem' := fun ws S => trim S (fnS n m g ws S)
theorem fn_okP {P : Program} {w : World} {K : PySem.W.Frag} {mg : Str → Option Value} {base : Heap} {x qual : Str} {params : Arguments} {body : List Stmt} {scope : Scope} {f : Addr} {fd : FuncData} {N ps : List Str} {k n : Nat} {g : Sv} (F : FunD K x qual params body scope [] [] f fd) (S : FnScope N ps scope) (hn : ps.length = n)
    (hb : ∀ (cdv : Value) (A : Around) (outer : List PySem.Env) (s : Shared) (H : Hp) (E : XK), Room k (A.deeper (envOfC qual scope s.heap.objs.size f cdv)) → DSs (cxOf (L2N.CX P w) P w K mg base N qual scope f cdv A outer s H E) none body g) :
    FnOk P w K mg base (L2N.CX P w) (k + 1) f fd ps (spOf K n (fnP n N.length g)) := by
  refine (fn_ok F S hn hb).imp fun vs H Q E h => ?_
  obtain ⟨hl, F, ι, St, ws, r, hw, p⟩ := h
  exact ⟨hl, F, ι, St, ws, r, hw, trim_post r p⟩
end
end DL

/-! reckoning with loops, texts, lists of the store -/
namespace DL
open PySem PySem.Spec PyProof.Rows L2
abbrev I (i : Int) : Wv := .d (.int i)
abbrev T (x : Str) : Wv := .d (.str x)
abbrev Bo (b : Bool) : Wv := .d (.bl b)
section
variable {α β : Type} {S S1 : Store} {ρ ρ1 : Env}
@[simp] theorem sFor_s (i : Nat) (f : Env → Store → Res Itms) (g : Sv) : sFor i f g ρ S = (f ρ S).toS ρ fun q S1 => sForL q.2.2 i g q.2.1 ρ S1 := rfl
/-- a loop that runs to its end: what holds of the env and the store, by a state -/
theorem for_fold (chk : Store → Prop) (i : Nat) (g : Sv) (inj : α → Wv) (R : β → Env → Store → Prop) (step : β → α → β) (hc : ∀ b ρ S, R b ρ S → chk S) : ∀ (as : List α) (b : β) (ρ : Env) (S : Store),
    (∀ a ∈ as, ∀ b ρ S, R b ρ S → ∃ ρ' S', (g (ρ.set i (some (inj a))) S = .nx ρ' S' ∨ g (ρ.set i (some (inj a))) S = .ct ρ' S') ∧ R (step b a) ρ' S') → R b ρ S →
    ∃ ρ' S', sForL chk i g (as.map inj) ρ S = .nx ρ' S' ∧ R (as.foldl step b) ρ' S'
  | [], b, ρ, S, _, h => ⟨ρ, S, by rw [List.map_nil, sForL, if_pos (hc _ _ _ h)], h⟩
  | a :: as, b, ρ, S, hs, h => by
    obtain ⟨ρ1, S1, e, h1⟩ := hs a List.mem_cons_self b ρ S h
    obtain ⟨ρ2, S2, e2, h2⟩ := for_fold chk i g inj R step hc as (step b a) ρ1 S1 (fun a ha => hs a (List.mem_cons_of_mem _ ha)) h1
    refine ⟨ρ2, S2, ?_, h2⟩
    rw [List.map_cons, sForL, if_pos (hc _ _ _ h)]
    rcases e with e | e
    · rw [e]; exact e2
    · rw [e]; exact e2
/-- .. with what the items before have in common -/
theorem for_pre (chk : Store → Prop) (i : Nat) (g : Sv) (inj : α → Wv) (R : List α → Env → Store → Prop) (hc : ∀ b ρ S, R b ρ S → chk S) (all : List α) : ∀ (as pre : List α) (ρ : Env) (S : Store), all = pre ++ as →
    (∀ pre a post ρ S, all = pre ++ a :: post → R pre ρ S → ∃ ρ' S', (g (ρ.set i (some (inj a))) S = .nx ρ' S' ∨ g (ρ.set i (some (inj a))) S = .ct ρ' S') ∧ R (pre ++ [a]) ρ' S') → R pre ρ S →
    ∃ ρ' S', sForL chk i g (as.map inj) ρ S = .nx ρ' S' ∧ R all ρ' S'
  | [], pre, ρ, S, ea, _, h => ⟨ρ, S, by rw [List.map_nil, sForL, if_pos (hc _ _ _ h)], by rw [ea, List.append_nil]; exact h⟩
  | a :: as, pre, ρ, S, ea, hs, h => by
    obtain ⟨ρ1, S1, e, h1⟩ := hs pre a as ρ S ea h
    obtain ⟨ρ2, S2, e2, h2⟩ := for_pre chk i g inj R hc all as (pre ++ [a]) ρ1 S1 (by rw [ea]; simp) hs h1
    refine ⟨ρ2, S2, ?_, h2⟩
    rw [List.map_cons, sForL, if_pos (hc _ _ _ h)]
    rcases e with e | e
    · rw [e]; exact e2
    · rw [e]; exact e2
/-- a comprehension -/
theorem lc_eq (chk : Store → Prop) (i : Nat) (t : Env → Store → Res Bool) (f : Ev) (inj : α → Wv) (p : α → Bool) (out : α → Wv) (hc : chk S) (ho : ∀ a, (out a).calm = true) : ∀ (as : List α) (acc : List Wv),
    (∀ a ∈ as, t (ρ.set i (some (inj a))) S = .ok (p a) S ∧ (p a = true → f (ρ.set i (some (inj a))) S = .ok (out a) S)) →
    lcL chk i t f (as.map inj) ρ S acc = .ok (acc ++ (as.filter p).map out) S
  | [], acc, _ => by rw [List.map_nil, lcL, if_pos hc]; simp
  | a :: as, acc, h => by
    obtain ⟨h1, h2⟩ := h a List.mem_cons_self
    have ih := fun acc => lc_eq chk i t f inj p out hc ho as acc fun a ha => h a (List.mem_cons_of_mem _ ha)
    rw [List.map_cons, lcL, if_pos hc, h1]
    cases e : p a with
    | true =>
      simp only [h2 e, ho, if_true]
      rw [ih]
      simp [List.filter_cons, e]
    | false =>
      simp only
      rw [ih]
      simp [List.filter_cons, e]
theorem lc_map (chk : Store → Prop) (i : Nat) (f : Ev) (inj : α → Wv) (out : α → Wv) (hc : chk S) (ho : ∀ a, (out a).calm = true) (as : List α) (h : ∀ a ∈ as, f (ρ.set i (some (inj a))) S = .ok (out a) S) :
    lcL chk i evYes f (as.map inj) ρ S [] = .ok (as.map out) S := by
  have := lc_eq (S := S) (ρ := ρ) chk i evYes f inj (fun _ => true) out hc ho as [] fun a ha => ⟨rfl, fun _ => h a ha⟩
  rw [this, List.filter_eq_self.mpr (fun _ _ => rfl), List.nil_append]
theorem evLc_s (k : List Wv → Store → Res Wv) (fi : Env → Store → Res Itms) (i : Nat) (vs : List Nat) (t : Env → Store → Res Bool) (f : Ev) : evLc k fi i vs t f ρ S = (fi ρ S).bind fun q S1 => (if q.2.1.length ≤ 16777216 then lcL q.2.2 i t f q.2.1 (wipeE ρ vs) S1 [] else .no).bind k := by
  unfold evLc evLc0
  rw [Res.bind_assoc]
@[simp] theorem wipeE_nil : wipeE ρ [] = ρ := rfl
@[simp] theorem wipeE_cons (v : Nat) (vs : List Nat) : wipeE ρ (v :: vs) = (wipeE ρ vs).set v none := rfl
@[simp] theorem evYes_s : evYes ρ S = .ok true S := rfl
@[simp] theorem evNoPart_s : evNoPart ρ S = .ok none S := rfl
def asPart : Wv → Store → Res (Option Int) := fun w S1 => match w with
  | .d (.int i) => .ok (some i) S1
  | _ => .no
@[simp] theorem asPart_int (i : Int) : asPart (I i) S = .ok (some i) S := rfl
@[simp] theorem evPart_s (f : Ev) : evPart f ρ S = (f ρ S).bind asPart := rfl
@[simp] theorem evSl_s (f : Ev) (fl fh : Env → Store → Res (Option Int)) : evSl f fl fh ρ S = (f ρ S).bind fun w S1 => (fl ρ S1).bind fun lo S2 => (fh ρ S2).bind fun hi S3 => gSl w lo hi S3 := rfl
theorem cut_map (f : α → β) (xs : List α) (lo hi : Option Int) : cut (xs.map f) lo hi = (cut xs lo hi).map f := by
  unfold cut
  rw [List.length_map, List.map_take, List.map_drop]
@[simp] theorem gSl_lst (ds : List D) (lo hi : Option Int) : gSl (.d (.lst ds)) lo hi S = .ok (.d (.lst (cut ds lo hi))) S := by simp [gSl, seqW, allD_map]
@[simp] theorem gSl_scr (ns : List Int) (lo hi : Option Int) : gSl (.scr ns) lo hi S = .ok (.d (.lst ((cut ns lo hi).map .int))) S := by
  have : allD (ns.map fun i => Wv.d (.int i)) = some (ns.map .int) := by
    rw [← allD_map (ns.map D.int), List.map_map]; rfl
  simp [gSl, seqW, this, cut_map]
theorem gSl_ref {n : Nat} {ds : List D} (h : S[n]? = some (.lst (ds.map .d))) (lo hi : Option Int) : gSl (.ref n) lo hi S = .ok (.d (.lst (cut ds lo hi))) S := by simp [gSl, seqW, h, allD_map]
/-- what is walked -/
def itW : Wv → Store → Res Itms := fun w S1 => match w with
  | .d (.str z) => .ok (w, (z.cps.toList.map fun c => .d (.str ⟨#[c]⟩)), fun _ => True) S1
  | w => match seqW S1 w with
    | some (k, ws) => .ok (w, ws, fun S => seqW S w = some (k, ws)) S1
    | none => .no
@[simp] theorem evItems_s (f : Ev) : evItems f ρ S = (f ρ S).bind itW := rfl
@[simp] theorem seqW_lst (ds : List D) : seqW S (.d (.lst ds)) = some (true, ds.map .d) := rfl
@[simp] theorem seqW_tup (ds : List D) : seqW S (.d (.tup ds)) = some (false, ds.map .d) := rfl
@[simp] theorem seqW_scr (ns : List Int) : seqW S (.scr ns) = some (true, ns.map fun i => .d (.int i)) := rfl
theorem seqW_ref {n : Nat} {ws : List Wv} (h : S[n]? = some (.lst ws)) : seqW S (.ref n) = some (true, ws) := by simp [seqW, h]
@[simp] theorem itW_str (z : Str) : itW (.d (.str z)) S = .ok (.d (.str z), (z.cps.toList.map fun c => .d (.str ⟨#[c]⟩)), fun _ => True) S := rfl
@[simp] theorem itW_lst (ds : List D) : itW (.d (.lst ds)) S = .ok (.d (.lst ds), ds.map .d, fun S => seqW S (.d (.lst ds)) = some (true, ds.map .d)) S := rfl
@[simp] theorem itW_tup (ds : List D) : itW (.d (.tup ds)) S = .ok (.d (.tup ds), ds.map .d, fun S => seqW S (.d (.tup ds)) = some (false, ds.map .d)) S := rfl
theorem itW_of {w : Wv} {k : Bool} {ws : List Wv} (h : seqW S w = some (k, ws)) : itW w S = .ok (w, ws, fun S => seqW S w = some (k, ws)) S := by
  cases w with
  | d x =>
    cases x with
    | str z => cases h
    | lst ds => cases h; rfl
    | tup ds => cases h; rfl
    | _ => cases h
  | ref n => simp only [itW, h]
  | scr ns => cases h; rfl
  | exc c => cases h
@[simp] theorem evRange_s (g : List Wv → Store → Res Itms) (fs : Env → Store → Res (List Wv)) : evRange g fs ρ S = (fs ρ S).bind g := rfl
@[simp] theorem gRange1_s (j : Int) : gRange1 [I j] S = if j.natAbs < 4611686018427387904 then .ok (.d .non, rangeW 0 j.toNat 1, fun _ => True) S else .no := rfl
@[simp] theorem gRange2_s (i j : Int) : gRange2 [I i, I j] S = if i.natAbs < 4611686018427387904 ∧ j.natAbs < 4611686018427387904 then .ok (.d .non, rangeW i (j - i).toNat 1, fun _ => True) S else .no := rfl
theorem rangeW_map (lo : Int) (n : Nat) (c : Int) : rangeW lo n c = (List.range n).map fun (k : Nat) => I (lo + (k : Int) * c) := rfl
/-! lists of the store -/
theorem lstOf_ref {n : Nat} {ws : List Wv} (h : S[n]? = some (.lst ws)) : lstOf S (.ref n) = some (n, ws) := by simp [lstOf, h]
@[simp] theorem evLm_s (g : Wv → Wv → Store → Res Wv) (fo fa : Ev) : evLm g fo fa ρ S = (fo ρ S).bind fun w S1 => if (lstOf S1 w).isSome = true then (fa ρ S1).bind fun u S2 => g w u S2 else .no := rfl
theorem gAppend_ref {n : Nat} {ws : List Wv} {u : Wv} (h : S[n]? = some (.lst ws)) (hu : u.calm = true) (hl : ws.length < 16777216) : gAppend (.ref n) u S = .ok (.d .non) (S.set n (.lst (ws ++ [u]))) := by
  simp [gAppend, hu, lstOf_ref h, hl]
theorem gList_ref {n : Nat} {ds : List D} (h : S[n]? = some (.lst (ds.map .d))) : gList [.ref n] S = .ok (.d (.lst ds)) S := by simp [gList, seqW_ref h, allD_map]
theorem gListS_ref {n : Nat} {ws : List Wv} (h : S[n]? = some (.lst ws)) : gListS [.ref n] S = .ok (.ref S.length) (S ++ [.lst ws]) := by simp [gListS, seqW_ref h]
theorem gTuple_ref {n : Nat} {ds : List D} (h : S[n]? = some (.lst (ds.map .d))) : gTuple [.ref n] S = .ok (.d (.tup ds)) S := by simp [gTuple, seqW_ref h, allD_map]
theorem gLen_ref {n : Nat} {ws : List Wv} (h : S[n]? = some (.lst ws)) : gLen [.ref n] S = .ok (I ws.length) S := by simp [gLen, seqW_ref h]
theorem asD_ref {n : Nat} {ds : List D} (h : S[n]? = some (.lst (ds.map .d))) : asD S (.ref n) = some (.lst ds) := by simp [asD, h, allD_map]
@[simp] theorem asD_d (x : D) : asD S (.d x) = some x := rfl
theorem gEq_of {neg : Bool} {w u : Wv} {x y : D} (h : asD S w = some x) (h' : asD S u = some y) (hd : min x.dep y.dep ≤ 64) : gEq neg w u S = .ok (.d (.bl (if neg = true then !eqD x y else eqD x y))) S := by
  unfold gEq
  rw [h, h']
  simp only
  rw [if_pos hd]
theorem depAll_map {n : Nat} (f : α → D) : ∀ (as : List α), (∀ a ∈ as, (f a).dep ≤ n) → depAll (as.map f) ≤ n
  | [], _ => by simp
  | a :: as, h => by
    rw [List.map_cons, depAll_cons]
    have h1 := h a List.mem_cons_self
    have h2 := depAll_map f as fun b hb => h b (List.mem_cons_of_mem _ hb)
    omega
@[simp] theorem evDictK_s : evDictK ρ S = .ok (.ref S.length) (S ++ [.dK []]) := rfl
@[simp] theorem evDictT_s : evDictT ρ S = .ok (.ref S.length) (S ++ [.dT []]) := rfl
@[simp] theorem evGet2_s (fo fa fb : Ev) : evGet2 fo fa fb ρ S = (fo ρ S).bind fun d S1 => if isDictW S1 d = true then (fa ρ S1).bind fun k S2 => (fb ρ S2).bind fun x S3 => match dictW S3 d k with
  | some (some v) => .ok v S3
  | some none => .ok x S3
  | none => .no
  else .no := rfl
@[simp] theorem sDPutS_s (fo fa fv : Ev) : sDPutS fo fa fv ρ S = (fv ρ S).toS ρ fun v S1 => (fo ρ S1).toS ρ fun d S2 => (fa ρ S2).toS ρ fun k S3 => match d with
  | .ref n => match dPut S3 n k v with
    | some S4 => .nx ρ S4
    | none => .no
  | _ => .no := rfl
theorem isDict_K {n : Nat} {kvs : List (Key × Wv)} (h : S[n]? = some (.dK kvs)) : isDictW S (.ref n) = true := by simp [isDictW, h]
theorem dictW_K {n : Nat} {kvs : List (Key × Wv)} {w : Wv} {k : Key} (h : S[n]? = some (.dK kvs)) (hk : asKey w = some k) : dictW S (.ref n) w = some (atK kvs k) := by simp [dictW, dGet, h, hk]
theorem dPut_K {n : Nat} {kvs : List (Key × Wv)} {w v : Wv} {k : Key} (h : S[n]? = some (.dK kvs)) (hk : asKey w = some k) (hv : v.calm = true) (hl : kvs.length < 16777216) : dPut S n w v = some (S.set n (.dK (putKW kvs k v))) := by
  simp [dPut, h, hk, hv, hl]
@[simp] theorem asKey_str (x : Str) : asKey (.d (.str x)) = some (.inr x) := rfl
@[simp] theorem asKey_int (x : Int) : asKey (.d (.int x)) = some (.inl x) := rfl
/-! signs of a text -/
def sgn (z : Str) (i : Int) : Str := ⟨#[z.cps.toList.getD i.toNat 0]⟩
@[simp] theorem sgn_len (z : Str) (i : Int) : (sgn z i).length = 1 := rfl
@[simp] theorem str_len_add (x y : Str) : (x ++ y).length = x.length + y.length := by
  show (x.cps ++ y.cps).size = _
  rw [Array.size_append]; rfl
theorem ix_str {z : Str} {i : Int} (h0 : 0 ≤ i) (h1 : i < z.length) (hz : z.length ≤ 16777216) : gIxI (.d (.str z)) i S = .ok (.d (.str (sgn z i))) S := by
  have hl : i.toNat < z.cps.toList.length := by
    have : z.cps.toList.length = z.length := by simp; rfl
    omega
  have e : atI z.cps.toList i = some (z.cps.toList.getD i.toNat 0) := atI_of (j := i.toNat) (by omega) (by rw [List.getD_eq_getElem?_getD, List.getElem?_eq_getElem hl]; rfl)
  unfold gIxI
  simp only [seqW, gIxS]
  rw [if_pos hz, e]
  rfl
theorem allB_map (as : List α) (f : α → Bool) : allB (as.map fun a => .bl (f a)) = some (as.map f) := by
  induction as with
  | nil => rfl
  | cons b bs ih => simp [allB, ih]
theorem gAll_map (as : List α) (f : α → Bool) : gAll [.d (.lst (as.map fun a => .bl (f a)))] S = .ok (.d (.bl (as.all f))) S := by
  simp [gAll, allB_map, Function.comp_def]
theorem gFrz_map (as : List α) (f : α → D) : gFrz (as.map fun a => .d (f a)) S = .ok (.d (.lst (as.map f))) S := by
  have : allD (as.map fun a => Wv.d (f a)) = some (as.map f) := by rw [← allD_map (as.map f), List.map_map]; rfl
  simp [gFrz, this]
def cell (ns : List Int) (k : Int) : Int := ns.getD k.toNat 0
end
end DL

namespace DL
open PySem PySem.Spec PyProof.Rows L2
noncomputable section
/-- _law_cell(_law_script, _law_k): 0 _law_script 1 _law_k -/
def sem_law_cell : Sem' := fnS 2 2
    (sSeq (sIf (evT (evBin gLt (evVar 1) (evN gLen (evCons (evVar 0) evNil)))) (sRet (evBin gIx (evVar 0) (evVar 1))) sNil)
    (sRet (evC (.int 0))))
/-- _law_currency(_law_cell_here, _law_more): 0 _law_cell_here 1 _law_more 2 _law_signs 3 _law_found -/
def sem_law_currency : Sem' := fnS 2 4
    (sSeq (sSet 2 (evC (.str "ABCDEFGHIJKLMNOPQRSTUVWXYZ")))
    (sSeq (sSet 3 (evBin gIx (evVar 2) (evBin gMod (evVar 0) (evC (.int 20)))))
    (sSeq (sSet 3 (evBin gAdd (evVar 3) (evBin gIx (evVar 2) (evBin gMod (evBin gAdd (evVar 1) (evBin gMul (evC (.int 7)) (evVar 0))) (evC (.int 26))))))
    (sRet (evBin gAdd (evVar 3) (evBin gIx (evVar 2) (evBin gMod (evBin gFloor (evVar 1) (evC (.int 26))) (evC (.int 26)))))))))
/-- _law_line(_law_cell_here, _law_more): 0 _law_cell_here 1 _law_more 2 _law_amount -/
def sem_law_line : Sem' := fnS 2 3
    (sSeq (sSet 2 (evBin gSub (evBin gMod (evBin gMul (evVar 0) (evC (.int 48271))) (evBin gAdd (evBin gMul (evC (.int 2)) (evBin gPow (evC (.int 10)) (evC (.int 30)))) (evC (.int 1)))) (evBin gPow (evC (.int 10)) (evC (.int 30)))))
    (sSeq (sIf (evT (evBin (gEq false) (evBin gMod (evBin gFloor (evVar 0) (evC (.int 2))) (evC (.int 2))) (evC (.int 1)))) (sSet 2 (evBin gSub (evBin gMod (evBin gFloor (evVar 0) (evC (.int 7))) (evC (.int 9))) (evC (.int 4)))) sNil)
    (sRet (evN gTup (evCons (evBin gIx (evC (.str "abcdefghijklmnopqrstuvwxyz")) (evBin gMod (evBin gFloor (evVar 0) (evC (.int 5))) (evC (.int 26)))) (evCons (evN (gCall 2 sem_law_currency) (evCons (evBin gMod (evVar 0) (evC (.int 20))) (evCons (evVar 1) evNil))) (evCons (evVar 2) evNil)))))))
/-- _law_sum(_law_lines, _law_currency_here): 0 _law_lines 1 _law_currency_here 2 _law_found 3 _law_line_here -/
def sem_law_sum : Sem' := fnS 2 4
    (sSeq (sSet 2 (evC (.int 0)))
    (sSeq (sFor 3 (evItems (evVar 0)) (sIf (evT (evBin (gEq false) (evBin gIx (evVar 3) (evC (.int 1))) (evVar 1))) (sSet 2 (evBin gAdd (evVar 2) (evBin gIx (evVar 3) (evC (.int 2))))) sNil))
    (sRet (evVar 2))))
/-- balanced(lines): 0 lines 1 sums 2 line 3 value -/
def sem_balanced : Sem' := fnP 1 4
    (sSeq (sSet 1 evDictK)
    (sSeq (sFor 2 (evItems (evVar 0)) (sDPutS (evVar 1) (evBin gIx (evVar 2) (evC (.int 1))) (evBin gAdd (evGet2 (evVar 1) (evBin gIx (evVar 2) (evC (.int 1))) (evC (.int 0))) (evBin gIx (evVar 2) (evC (.int 2))))))
    (sRet (evN gAll (evCons (evLcV gFrz 1 3 [3] evYes (evBin (gEq false) (evVar 3) (evC (.int 0)))) evNil)))))
/-- law(_law_script): 0 _law_script 1 _law_way 2 _law_more 3 _law_less 4 _law_lines 5 _law_k 6 _law_rest 7 _law_due 8 _law_handed 9 _law_found 10 _law_again 11 _law_cell_here -/
def sem_law : Sem' := fnS 1 12
    (sSeq (sSet 1 (evBin gMod (evN (gCall 2 sem_law_cell) (evCons (evVar 0) (evCons (evC (.int 0)) evNil))) (evC (.int 4))))
    (sSeq (sSet 2 (evBin gMod (evBin gFloor (evN (gCall 2 sem_law_cell) (evCons (evVar 0) (evCons (evC (.int 0)) evNil))) (evC (.int 8))) (evC (.int 676))))
    (sSeq (sSet 3 (evBin gMod (evBin gFloor (evN (gCall 2 sem_law_cell) (evCons (evVar 0) (evCons (evC (.int 0)) evNil))) (evC (.int 4))) (evC (.int 2))))
    (sSeq (sSet 4 (evLc gKeep (evItems (evSl (evVar 0) (evPart (evC (.int 1))) (evPart (evC (.int 56))))) 11 [11] evYes (evN (gCall 2 sem_law_line) (evCons (evVar 11) (evCons (evVar 2) evNil)))))
    (sSeq (sIf (evT (evBin gGt (evVar 1) (evC (.int 0)))) (sFor 5 (evRange gRange1 (evCons (evC (.int 20)) evNil)) (sSeq (sSet 6 (evBin gSub (evC (.int 0)) (evN (gCall 2 sem_law_sum) (evCons (evVar 4) (evCons (evN (gCall 2 sem_law_currency) (evCons (evVar 5) (evCons (evVar 2) evNil))) evNil)))))
    (sSeq (sIf (evAnd (evT (evBin (gEq false) (evVar 1) (evC (.int 3)))) (evT (evBin (gEq false) (evVar 5) (evC (.int 19))))) (sSet 6 (evBin gAdd (evVar 6) (evC (.int 1)))) sNil)
    (sSeq (sIf (evAnd (evT (evBin (gEq false) (evVar 1) (evC (.int 3)))) (evT (evBin (gEq false) (evVar 5) (evC (.int 0))))) (sSet 6 (evBin gSub (evVar 6) (evVar 3))) sNil)
    (sExpr (evLm gAppend (evVar 4) (evN gTup (evCons (evC (.str "z")) (evCons (evN (gCall 2 sem_law_currency) (evCons (evVar 5) (evCons (evVar 2) evNil))) (evCons (evVar 6) evNil)))))))))) sNil)
    (sSeq (sSet 7 (evC (.bl true)))
    (sSeq (sFor 5 (evRange gRange1 (evCons (evC (.int 20)) evNil)) (sIf (evT (evBin (gEq true) (evN (gCall 2 sem_law_sum) (evCons (evVar 4) (evCons (evN (gCall 2 sem_law_currency) (evCons (evVar 5) (evCons (evVar 2) evNil))) evNil))) (evC (.int 0)))) (sSet 7 (evC (.bl false))) sNil))
    (sSeq (sSet 8 (evN gListS (evCons (evVar 4) evNil)))
    (sSeq (sSet 9 (evN (gCall 1 sem_balanced) (evCons (evVar 8) evNil)))
    (sSeq (sSet 10 (evN (gCall 1 sem_balanced) (evCons (evN gTuple (evCons (evVar 4) evNil)) evNil)))
    (sSeq (sIf (evOr (evNot (evT (evUn (gIsi .bool) (evVar 9)))) (evNot (evT (evUn (gIsi .bool) (evVar 10))))) (sRet (evC (.bl false))) sNil)
    (sSeq (sIf (evOr (evT (evBin (gEq true) (evVar 8) (evVar 4))) (evOr (evT (evBin (gEq true) (evVar 9) (evVar 7))) (evT (evBin (gEq true) (evVar 10) (evVar 7))))) (sRet (evC (.bl false))) sNil)
    (sSeq (sSet 6 (evN (gCall 2 sem_law_sum) (evCons (evVar 4) (evCons (evN (gCall 2 sem_law_currency) (evCons (evC (.int 3)) (evCons (evVar 2) evNil))) evNil))))
    (sSeq (sExpr (evLm gAppend (evVar 8) (evN gTup (evCons (evC (.str "y")) (evCons (evN (gCall 2 sem_law_currency) (evCons (evC (.int 3)) (evCons (evVar 2) evNil))) (evCons (evBin gSub (evC (.int 7)) (evVar 6)) evNil))))))
    (sSeq (sExpr (evLm gAppend (evVar 4) (evN gTup (evCons (evC (.str "y")) (evCons (evN (gCall 2 sem_law_currency) (evCons (evC (.int 3)) (evCons (evVar 2) evNil))) (evCons (evBin gSub (evC (.int 0)) (evVar 6)) evNil))))))
    (sSeq (sSet 7 (evC (.bl true)))
    (sSeq (sFor 5 (evRange gRange1 (evCons (evC (.int 20)) evNil)) (sIf (evT (evBin (gEq true) (evN (gCall 2 sem_law_sum) (evCons (evVar 4) (evCons (evN (gCall 2 sem_law_currency) (evCons (evVar 5) (evCons (evVar 2) evNil))) evNil))) (evC (.int 0)))) (sSet 7 (evC (.bl false))) sNil))
    (sRet (evAndV (evNotV (evN (gCall 1 sem_balanced) (evCons (evVar 8) evNil))) (evBin (gEq false) (evN (gCall 1 sem_balanced) (evCons (evVar 4) evNil)) (evVar 7)))))))))))))))))))))
end
end DL

namespace DL
open PySem PySem.Spec PyProof.Rows L2
def top (i : Nat) : Stmt := PySem.Challenge.pw_doubleledger_k02_balanced.main.body.getD i (.Pass ⟨0, 0, 0, 0⟩)
abbrev s_law_cell : Stmt := top 3
def dd_law_cell : He.DefD := ⟨("_law_cell", none), "_law_cell", "_law_cell", defArgs s_law_cell, defBody s_law_cell, defScope s_law_cell, [], []⟩
abbrev s_law_currency : Stmt := top 5
def dd_law_currency : He.DefD := ⟨("_law_currency", none), "_law_currency", "_law_currency", defArgs s_law_currency, defBody s_law_currency, defScope s_law_currency, [], []⟩
abbrev s_law_line : Stmt := top 6
def dd_law_line : He.DefD := ⟨("_law_line", none), "_law_line", "_law_line", defArgs s_law_line, defBody s_law_line, defScope s_law_line, [], []⟩
abbrev s_law_sum : Stmt := top 7
def dd_law_sum : He.DefD := ⟨("_law_sum", none), "_law_sum", "_law_sum", defArgs s_law_sum, defBody s_law_sum, defScope s_law_sum, [], []⟩
abbrev s_balanced : Stmt := top 1
def dd_balanced : He.DefD := ⟨("balanced", none), "balanced", "balanced", defArgs s_balanced, defBody s_balanced, defScope s_balanced, [], []⟩
abbrev s_law : Stmt := top 8
def dd_law : He.DefD := ⟨("law", none), "law", "law", defArgs s_law, defBody s_law, defScope s_law, [], []⟩
def fnl : List He.DefD := [dd_law_cell, dd_law_currency, dd_law_line, dd_law_sum, dd_balanced, dd_law]
def fal : List He.Fa := [.free "len",
  .glo "_law_currency",
  .free "all",
  .glo "_law_cell",
  .glo "_law_line",
  .free "range",
  .glo "_law_sum",
  .free "list",
  .glo "balanced",
  .free "tuple",
  .free "isinstance",
  .free "bool",
  .glo "law"]
section
variable {P : Program} {w : World} {K : PySem.W.Frag} {h : Heap} {mg : Str → Option Value} {base : Heap}
theorem sc_law_cell : FnScope ["_law_script", "_law_k"] ["_law_script", "_law_k"] (defScope s_law_cell) := ⟨rfl, rfl, rfl, by decide +kernel, rfl, by decide +kernel, by decide +kernel⟩
theorem ok_law_cell (X : K.In h) (G : h.Ns mainGlobals mg) (c : He.SaysD fal fnl K) : FnG P w K mg base (He.fAd K ("_law_cell", none)) 2 1 sem_law_cell := by
  obtain ⟨fd, F⟩ := c.def_ 0 (d := dd_law_cell) rfl
  exact fng_of (ps := ["_law_script", "_law_k"]) F rfl (fn_ok (k := 0) F sc_law_cell rfl fun cdv A outer s H E hr =>
    (dss_cons (ds_if (dt_cmp cm_lt (de_var (pv 1)) (de_callB cg_len rfl (He.free_ok X G (c.fact 0 rfl)) bt_len (da_cons (de_var (pv 0)) da_nil)) (nomark _)) (dss_one (ds_ret (de_ix hr.units (de_var (pv 0)) (de_var (pv 1))))) dss_nil)
    (dss_one (ds_ret de_int))))
    (F.bindsN fun _ _ _ _ _ _ us hl => match us, hl with | [_, _], _ => rfl)
theorem sc_law_currency : FnScope ["_law_cell_here", "_law_more", "_law_signs", "_law_found"] ["_law_cell_here", "_law_more"] (defScope s_law_currency) := ⟨rfl, rfl, rfl, by decide +kernel, rfl, by decide +kernel, by decide +kernel⟩
theorem ok_law_currency (X : K.In h) (G : h.Ns mainGlobals mg) (c : He.SaysD fal fnl K) : FnG P w K mg base (He.fAd K ("_law_currency", none)) 2 1 sem_law_currency := by
  obtain ⟨fd, F⟩ := c.def_ 1 (d := dd_law_currency) rfl
  exact fng_of (ps := ["_law_cell_here", "_law_more"]) F rfl (fn_ok (k := 0) F sc_law_currency rfl fun cdv A outer s H E hr =>
    (dss_cons (ds_set (i := 2) sc_law_currency.nd rfl (by first | exact Or.inl rfl | exact Or.inr rfl) de_str)
    (dss_cons (ds_set (i := 3) sc_law_currency.nd rfl (by first | exact Or.inl rfl | exact Or.inr rfl) (de_ix hr.units (de_var (pv 2)) (de_mod (de_var (pv 0)) de_int)))
    (dss_cons (ds_set (i := 3) sc_law_currency.nd rfl (by first | exact Or.inl rfl | exact Or.inr rfl) (de_add (de_var (pv 3)) (de_ix hr.units (de_var (pv 2)) (de_mod (de_add (de_var (pv 1)) (de_mul de_int (de_var (pv 0)))) de_int))))
    (dss_one (ds_ret (de_add (de_var (pv 3)) (de_ix hr.units (de_var (pv 2)) (de_mod (de_floor (de_var (pv 1)) de_int) de_int)))))))))
    (F.bindsN fun _ _ _ _ _ _ us hl => match us, hl with | [_, _], _ => rfl)
theorem sc_law_line : FnScope ["_law_cell_here", "_law_more", "_law_amount"] ["_law_cell_here", "_law_more"] (defScope s_law_line) := ⟨rfl, rfl, rfl, by decide +kernel, rfl, by decide +kernel, by decide +kernel⟩
theorem ok_law_line (X : K.In h) (G : h.Ns mainGlobals mg) (c : He.SaysD fal fnl K) : FnG P w K mg base (He.fAd K ("_law_line", none)) 2 2 sem_law_line := by
  obtain ⟨fd, F⟩ := c.def_ 2 (d := dd_law_line) rfl
  exact fng_of (ps := ["_law_cell_here", "_law_more"]) F rfl (fn_ok (k := 1) F sc_law_line rfl fun cdv A outer s H E hr =>
    (dss_cons (ds_set (i := 2) sc_law_line.nd rfl (by first | exact Or.inl rfl | exact Or.inr rfl) (de_sub (de_mod (de_mul (de_var (pv 0)) de_int) (de_add (de_mul de_int (de_pow de_int de_int)) de_int)) (de_pow de_int de_int)))
    (dss_cons (ds_if (dt_cmp (cm_eq hr.units) (de_mod (de_floor (de_var (pv 0)) de_int) de_int) de_int (nomark _)) (dss_one (ds_set (i := 2) sc_law_line.nd rfl (by first | exact Or.inl rfl | exact Or.inr rfl) (de_sub (de_mod (de_floor (de_var (pv 0)) de_int) de_int) de_int))) dss_nil)
    (dss_one (ds_ret (de_tup (da_cons (de_ix hr.units de_str (de_mod (de_floor (de_var (pv 0)) de_int) de_int)) (da_cons (de_call (ok_law_currency X G c) (hr.mono (by decide)) rfl (He.glo_ok X G (c.fact 1 rfl)) (da_cons (de_mod (de_var (pv 0)) de_int) (da_cons (de_var (pv 1)) da_nil))) (da_cons (de_var (pv 2)) da_nil)))))))))
    (F.bindsN fun _ _ _ _ _ _ us hl => match us, hl with | [_, _], _ => rfl)
theorem sc_law_sum : FnScope ["_law_lines", "_law_currency_here", "_law_found", "_law_line_here"] ["_law_lines", "_law_currency_here"] (defScope s_law_sum) := ⟨rfl, rfl, rfl, by decide +kernel, rfl, by decide +kernel, by decide +kernel⟩
theorem ok_law_sum (X : K.In h) (G : h.Ns mainGlobals mg) (c : He.SaysD fal fnl K) : FnG P w K mg base (He.fAd K ("_law_sum", none)) 2 1 sem_law_sum := by
  obtain ⟨fd, F⟩ := c.def_ 3 (d := dd_law_sum) rfl
  exact fng_of (ps := ["_law_lines", "_law_currency_here"]) F rfl (fn_ok (k := 0) F sc_law_sum rfl fun cdv A outer s H E hr =>
    (dss_cons (ds_set (i := 2) sc_law_sum.nd rfl (by first | exact Or.inl rfl | exact Or.inr rfl) de_int)
    (dss_cons (ds_for (i := 3) (passes_of rfl) rfl sc_law_sum.nd rfl (by first | exact Or.inl rfl | exact Or.inr rfl) (di_any (de_var (pv 0))) (dss_one (ds_if (dt_cmp (cm_eq hr.units) (de_ix hr.units (de_var (pv 3)) de_int) (de_var (pv 1)) (nomark _)) (dss_one (ds_set (i := 2) sc_law_sum.nd rfl (by first | exact Or.inl rfl | exact Or.inr rfl) (de_add (de_var (pv 2)) (de_ix hr.units (de_var (pv 3)) de_int)))) dss_nil)))
    (dss_one (ds_ret (de_var (pv 2)))))))
    (F.bindsN fun _ _ _ _ _ _ us hl => match us, hl with | [_, _], _ => rfl)
theorem sc_balanced : FnScope ["lines", "sums", "line", "value"] ["lines"] (defScope s_balanced) := ⟨rfl, rfl, rfl, by decide +kernel, rfl, by decide +kernel, by decide +kernel⟩
theorem ok_balanced (X : K.In h) (G : h.Ns mainGlobals mg) (c : He.SaysD fal fnl K) : FnG P w K mg base (He.fAd K ("balanced", none)) 1 1 sem_balanced := by
  obtain ⟨fd, F⟩ := c.def_ 4 (d := dd_balanced) rfl
  exact fng_of (ps := ["lines"]) F rfl (fn_okP (k := 0) F sc_balanced rfl fun cdv A outer s H E hr =>
    (dss_cons (ds_set (i := 1) sc_balanced.nd rfl (by first | exact Or.inl rfl | exact Or.inr rfl) de_dictK)
    (dss_cons (ds_for (i := 2) (passes_of rfl) rfl sc_balanced.nd rfl (by first | exact Or.inl rfl | exact Or.inr rfl) (di_any (de_var (pv 0))) (dss_one (ds_dput hr.units (de_var (pv 1)) (de_ix hr.units (de_var (pv 2)) de_int) (de_add (de_get2 hr.units (de_var (pv 1)) (de_ix hr.units (de_var (pv 2)) de_int) de_int ⟨rfl, rfl, rfl, rfl⟩) (de_ix hr.units (de_var (pv 2)) de_int)) rfl)))
    (dss_one (ds_ret (de_callB (cg_all rfl) rfl (He.free_ok X G (c.fact 2 rfl)) bt_all (da_cons (de_lcV (own := [("value", 3)]) kp_frz rfl sc_balanced.nd (pv 1) (blkOk_by (N := ["lines", "sums", "line", "value"]) (sc := defScope s_balanced) (by decide +kernel)) (by decide) (fun _ _ _ _ _ => pg_name (i := 3) sc_balanced.nd rfl (by first | exact Or.inl rfl | exact Or.inr rfl)) (fun _ _ _ _ _ => dts_nil) (fun _ _ _ _ _ => (de_cmp (cm_eq hr.units) (de_var (pv 3)) de_int (nomark _)))) da_nil)))))))
    (F.bindsN fun _ _ _ _ _ _ us hl => match us, hl with | [_], _ => rfl)
theorem sc_law : FnScope ["_law_script", "_law_way", "_law_more", "_law_less", "_law_lines", "_law_k", "_law_rest", "_law_due", "_law_handed", "_law_found", "_law_again", "_law_cell_here"] ["_law_script"] (defScope s_law) := ⟨rfl, rfl, rfl, by decide +kernel, rfl, by decide +kernel, by decide +kernel⟩
theorem ok_law (X : K.In h) (G : h.Ns mainGlobals mg) (c : He.SaysD fal fnl K) : ∃ fd, (∀ (s : Shared) (v : Value), BindsTo s fd ⟨[v], []⟩ [("_law_script", v)]) ∧ ∀ base : Heap, FnOk P w K mg base (L2N.CX P w) 3 (He.fAd K ("law", none)) fd ["_law_script"] (spOf K 1 sem_law) := by
  obtain ⟨fd, F⟩ := c.def_ 5 (d := dd_law) rfl
  have b := FunD.bindsA (ps := ["_law_script"]) F fun _ _ _ _ _ _ us hl => match us, hl with | [_], _ => rfl
  exact ⟨fd, fun s v => b s [v] rfl, fun base => fn_ok (k := 2) F sc_law rfl fun cdv A outer s H E hr =>
    (dss_cons (ds_set (i := 1) sc_law.nd rfl (by first | exact Or.inl rfl | exact Or.inr rfl) (de_mod (de_call (ok_law_cell X G c) (hr.mono (by decide)) rfl (He.glo_ok X G (c.fact 3 rfl)) (da_cons (de_var (pv 0)) (da_cons de_int da_nil))) de_int))
    (dss_cons (ds_set (i := 2) sc_law.nd rfl (by first | exact Or.inl rfl | exact Or.inr rfl) (de_mod (de_floor (de_call (ok_law_cell X G c) (hr.mono (by decide)) rfl (He.glo_ok X G (c.fact 3 rfl)) (da_cons (de_var (pv 0)) (da_cons de_int da_nil))) de_int) de_int))
    (dss_cons (ds_set (i := 3) sc_law.nd rfl (by first | exact Or.inl rfl | exact Or.inr rfl) (de_mod (de_floor (de_call (ok_law_cell X G c) (hr.mono (by decide)) rfl (He.glo_ok X G (c.fact 3 rfl)) (da_cons (de_var (pv 0)) (da_cons de_int da_nil))) de_int) de_int))
    (dss_cons (ds_setLc (j := 4) (own := [("_law_cell_here", 11)]) kp_keep rfl sc_law.nd rfl rfl (sw_true rfl rfl rfl (by decide +kernel)) (di_any (de_sl (de_var (pv 0)) (do_some de_int) (do_some de_int))) (blkOk_by (N := ["_law_script", "_law_way", "_law_more", "_law_less", "_law_lines", "_law_k", "_law_rest", "_law_due", "_law_handed", "_law_found", "_law_again", "_law_cell_here"]) (sc := defScope s_law) (by decide +kernel)) (by decide) (fun _ _ _ _ _ => pg_name (i := 11) sc_law.nd rfl (by first | exact Or.inl rfl | exact Or.inr rfl)) (fun _ _ _ _ _ => dts_nil) (fun _ _ _ _ _ => (de_call (ok_law_line X G c) (hr.mono (by decide)) rfl (He.glo_ok X G (c.fact 4 rfl)) (da_cons (de_var (pv 11)) (da_cons (de_var (pv 2)) da_nil)))))
    (dss_cons (ds_if (dt_cmp cm_gt (de_var (pv 1)) de_int (nomark _)) (dss_one (ds_for (i := 5) (passes_of rfl) rfl sc_law.nd rfl (by first | exact Or.inl rfl | exact Or.inr rfl) (di_range1 rfl (He.free_ok X G (c.fact 5 rfl)) (da_cons de_int da_nil)) (dss_cons (ds_set (i := 6) sc_law.nd rfl (by first | exact Or.inl rfl | exact Or.inr rfl) (de_sub de_int (de_call (ok_law_sum X G c) (hr.mono (by decide)) rfl (He.glo_ok X G (c.fact 6 rfl)) (da_cons (de_var (pv 4)) (da_cons (de_call (ok_law_currency X G c) (hr.mono (by decide)) rfl (He.glo_ok X G (c.fact 1 rfl)) (da_cons (de_var (pv 5)) (da_cons (de_var (pv 2)) da_nil))) da_nil)))))
    (dss_cons (ds_if (dw_t (dw_and (dt_cmp (cm_eq hr.units) (de_var (pv 1)) de_int (nomark _)) (dw_and1 (dt_cmp (cm_eq hr.units) (de_var (pv 5)) de_int (nomark _))))) (dss_one (ds_set (i := 6) sc_law.nd rfl (by first | exact Or.inl rfl | exact Or.inr rfl) (de_add (de_var (pv 6)) de_int))) dss_nil)
    (dss_cons (ds_if (dw_t (dw_and (dt_cmp (cm_eq hr.units) (de_var (pv 1)) de_int (nomark _)) (dw_and1 (dt_cmp (cm_eq hr.units) (de_var (pv 5)) de_int (nomark _))))) (dss_one (ds_set (i := 6) sc_law.nd rfl (by first | exact Or.inl rfl | exact Or.inr rfl) (de_sub (de_var (pv 6)) (de_var (pv 3))))) dss_nil)
    (dss_one (ds_expr (de_lm lm_append (de_var (pv 4)) (de_tup (da_cons de_str (da_cons (de_call (ok_law_currency X G c) (hr.mono (by decide)) rfl (He.glo_ok X G (c.fact 1 rfl)) (da_cons (de_var (pv 5)) (da_cons (de_var (pv 2)) da_nil))) (da_cons (de_var (pv 6)) da_nil)))))))))))) dss_nil)
    (dss_cons (ds_set (i := 7) sc_law.nd rfl (by first | exact Or.inl rfl | exact Or.inr rfl) de_bl)
    (dss_cons (ds_for (i := 5) (passes_of rfl) rfl sc_law.nd rfl (by first | exact Or.inl rfl | exact Or.inr rfl) (di_range1 rfl (He.free_ok X G (c.fact 5 rfl)) (da_cons de_int da_nil)) (dss_one (ds_if (dt_cmp (cm_ne hr.units) (de_call (ok_law_sum X G c) (hr.mono (by decide)) rfl (He.glo_ok X G (c.fact 6 rfl)) (da_cons (de_var (pv 4)) (da_cons (de_call (ok_law_currency X G c) (hr.mono (by decide)) rfl (He.glo_ok X G (c.fact 1 rfl)) (da_cons (de_var (pv 5)) (da_cons (de_var (pv 2)) da_nil))) da_nil))) de_int (nomark _)) (dss_one (ds_set (i := 7) sc_law.nd rfl (by first | exact Or.inl rfl | exact Or.inr rfl) de_bl)) dss_nil)))
    (dss_cons (ds_set (i := 8) sc_law.nd rfl (by first | exact Or.inl rfl | exact Or.inr rfl) (de_callTy cg_listS rfl (He.free_ok X G (c.fact 7 rfl)) bt_list (da_cons (de_var (pv 4)) da_nil)))
    (dss_cons (ds_set (i := 9) sc_law.nd rfl (by first | exact Or.inl rfl | exact Or.inr rfl) (de_call (ok_balanced X G c) (hr.mono (by decide)) rfl (He.glo_ok X G (c.fact 8 rfl)) (da_cons (de_var (pv 8)) da_nil)))
    (dss_cons (ds_set (i := 10) sc_law.nd rfl (by first | exact Or.inl rfl | exact Or.inr rfl) (de_call (ok_balanced X G c) (hr.mono (by decide)) rfl (He.glo_ok X G (c.fact 8 rfl)) (da_cons (de_callTy cg_tuple rfl (He.free_ok X G (c.fact 9 rfl)) bt_tuple (da_cons (de_var (pv 4)) da_nil)) da_nil)))
    (dss_cons (ds_if (dw_t (dw_or (dt_not (dt_val (de_isi .bool rfl (He.free_ok X G (c.fact 10 rfl)) bt_isinstance (de_var (pv 9)) rfl (He.free_ok X G (c.fact 11 rfl)) bt_bool))) (dw_or1 (dt_not (dt_val (de_isi .bool rfl (He.free_ok X G (c.fact 10 rfl)) bt_isinstance (de_var (pv 10)) rfl (He.free_ok X G (c.fact 11 rfl)) bt_bool)))))) (dss_one (ds_ret de_bl)) dss_nil)
    (dss_cons (ds_if (dw_t (dw_or (dt_cmp (cm_ne hr.units) (de_var (pv 8)) (de_var (pv 4)) (nomark _)) (dw_or (dt_cmp (cm_ne hr.units) (de_var (pv 9)) (de_var (pv 7)) (nomark _)) (dw_or1 (dt_cmp (cm_ne hr.units) (de_var (pv 10)) (de_var (pv 7)) (nomark _)))))) (dss_one (ds_ret de_bl)) dss_nil)
    (dss_cons (ds_set (i := 6) sc_law.nd rfl (by first | exact Or.inl rfl | exact Or.inr rfl) (de_call (ok_law_sum X G c) (hr.mono (by decide)) rfl (He.glo_ok X G (c.fact 6 rfl)) (da_cons (de_var (pv 4)) (da_cons (de_call (ok_law_currency X G c) (hr.mono (by decide)) rfl (He.glo_ok X G (c.fact 1 rfl)) (da_cons de_int (da_cons (de_var (pv 2)) da_nil))) da_nil))))
    (dss_cons (ds_expr (de_lm lm_append (de_var (pv 8)) (de_tup (da_cons de_str (da_cons (de_call (ok_law_currency X G c) (hr.mono (by decide)) rfl (He.glo_ok X G (c.fact 1 rfl)) (da_cons de_int (da_cons (de_var (pv 2)) da_nil))) (da_cons (de_sub de_int (de_var (pv 6))) da_nil))))))
    (dss_cons (ds_expr (de_lm lm_append (de_var (pv 4)) (de_tup (da_cons de_str (da_cons (de_call (ok_law_currency X G c) (hr.mono (by decide)) rfl (He.glo_ok X G (c.fact 1 rfl)) (da_cons de_int (da_cons (de_var (pv 2)) da_nil))) (da_cons (de_sub de_int (de_var (pv 6))) da_nil))))))
    (dss_cons (ds_set (i := 7) sc_law.nd rfl (by first | exact Or.inl rfl | exact Or.inr rfl) de_bl)
    (dss_cons (ds_for (i := 5) (passes_of rfl) rfl sc_law.nd rfl (by first | exact Or.inl rfl | exact Or.inr rfl) (di_range1 rfl (He.free_ok X G (c.fact 5 rfl)) (da_cons de_int da_nil)) (dss_one (ds_if (dt_cmp (cm_ne hr.units) (de_call (ok_law_sum X G c) (hr.mono (by decide)) rfl (He.glo_ok X G (c.fact 6 rfl)) (da_cons (de_var (pv 4)) (da_cons (de_call (ok_law_currency X G c) (hr.mono (by decide)) rfl (He.glo_ok X G (c.fact 1 rfl)) (da_cons (de_var (pv 5)) (da_cons (de_var (pv 2)) da_nil))) da_nil))) de_int (nomark _)) (dss_one (ds_set (i := 7) sc_law.nd rfl (by first | exact Or.inl rfl | exact Or.inr rfl) de_bl)) dss_nil)))
    (dss_one (ds_ret (de_and (de_not (de_call (ok_balanced X G c) (hr.mono (by decide)) rfl (He.glo_ok X G (c.fact 8 rfl)) (da_cons (de_var (pv 8)) da_nil))) (de_one (de_cmp (cm_eq hr.units) (de_call (ok_balanced X G c) (hr.mono (by decide)) rfl (He.glo_ok X G (c.fact 8 rfl)) (da_cons (de_var (pv 4)) da_nil)) (de_var (pv 7)) (nomark _)))))))))))))))))))))))⟩
end
end DL

namespace DL
open PySem PySem.Spec PyProof.Rows L2
theorem sm_le {i : Int} (h : i.natAbs ≤ 10 ^ 200) : Sm i := Nat.lt_of_le_of_lt h (by decide)
theorem mulR {i j : Int} (h : j.natAbs ≤ 10 ^ 19) : MulOk i j := .inl (.inr (Nat.lt_of_le_of_lt h (by decide)))
theorem mulL {i j : Int} (h : i.natAbs ≤ 10 ^ 19) : MulOk i j := .inl (.inl (Nat.lt_of_le_of_lt h (by decide)))
theorem p_cell (S : Store) (ns : List Int) (k : Int) (hk : 0 ≤ k) : sem_law_cell [.scr ns, I k] S = .ok (I (cell ns k)) S := by
  unfold sem_law_cell
  by_cases h : k < ns.length
  · have e : atI ns k = some (cell ns k) := by
      refine atI_of (j := k.toNat) (by omega) ?_
      unfold cell
      rw [List.getD_eq_getElem?_getD, List.getElem?_eq_getElem (by omega)]
      rfl
    simp [fnS_s, h, gIxI_scr, e]
  · have e : cell ns k = 0 := by
      unfold cell
      rw [List.getD_eq_getElem?_getD, List.getElem?_eq_none (by omega)]
      rfl
    simp [fnS_s, h, e]
def AZ : Str := "ABCDEFGHIJKLMNOPQRSTUVWXYZ"
def az : Str := "abcdefghijklmnopqrstuvwxyz"
theorem ixAZ {S : Store} {i : Int} (h0 : 0 ≤ i) (h1 : i < 26) : gIxI (.d (.str "ABCDEFGHIJKLMNOPQRSTUVWXYZ")) i S = .ok (.d (.str (sgn AZ i))) S :=
  ix_str (z := AZ) h0 (by rw [show AZ.length = 26 by decide +kernel]; exact h1) (by rw [show AZ.length = 26 by decide +kernel]; decide)
theorem ixaz {S : Store} {i : Int} (h0 : 0 ≤ i) (h1 : i < 26) : gIxI (.d (.str "abcdefghijklmnopqrstuvwxyz")) i S = .ok (.d (.str (sgn az i))) S :=
  ix_str (z := az) h0 (by rw [show az.length = 26 by decide +kernel]; exact h1) (by rw [show az.length = 26 by decide +kernel]; decide)
def curS (k more : Int) : Str := sgn AZ (k % 20) ++ sgn AZ ((more + 7 * k) % 26) ++ sgn AZ (more / 26 % 26)
theorem p_currency (S : Store) (k more : Int) : sem_law_currency [I k, I more] S = .ok (T (curS k more)) S := by
  have m1 : MulOk 7 k := mulL (by decide)
  have s1 : Sm 26 := by decide
  unfold sem_law_currency
  simp [fnS_s, m1, s1, ixAZ, show 0 ≤ k % 20 by omega, show k % 20 < 26 by omega, show 0 ≤ (more + 7 * k) % 26 by omega, show (more + 7 * k) % 26 < 26 by omega, show 0 ≤ more / 26 % 26 by omega, show more / 26 % 26 < 26 by omega, curS]
/-- a line -/
structure Ln where
  a : Str
  c : Str
  x : Int
def Ln.d (l : Ln) : D := .tup [.str l.a, .str l.c, .int l.x]
def Ln.w (l : Ln) : Wv := .d l.d
def lineV (c more : Int) : Ln := ⟨sgn az (c / 5 % 26), curS (c % 20) more, if c / 2 % 2 = 1 then c / 7 % 9 - 4 else c * 48271 % (2 * 10 ^ 30 + 1) - 10 ^ 30⟩
theorem p_line (S : Store) (c more : Int) : sem_law_line [I c, I more] S = .ok (lineV c more).w S := by
  have m1 : MulOk c 48271 := mulR (by decide)
  have m2 : MulOk 2 1000000000000000000000000000000 := mulL (by decide)
  have s1 : Sm 5 := by decide
  have s2 : Sm 2 := by decide
  have s3 : Sm 7 := by decide
  unfold sem_law_line
  by_cases h : c / 2 % 2 = 1
  · simp [fnS_s, m1, m2, s1, s2, s3, h, ixaz, show 0 ≤ c / 5 % 26 by omega, show c / 5 % 26 < 26 by omega, p_currency, Ln.w, Ln.d, lineV]
  · simp [fnS_s, m1, m2, s1, s2, s3, h, ixaz, show 0 ≤ c / 5 % 26 by omega, show c / 5 % 26 < 26 by omega, p_currency, Ln.w, Ln.d, lineV]
/-- the sum of the amounts of a currency -/
def sumOf (c : Str) : List Ln → Int
  | [] => 0
  | l :: r => (if l.c = c then l.x else 0) + sumOf c r
theorem sumOf_app (c : Str) : ∀ a b : List Ln, sumOf c (a ++ b) = sumOf c a + sumOf c b
  | [], b => by simp [sumOf]
  | l :: a, b => by simp [sumOf, sumOf_app c a b]; omega
theorem p_sum (S : Store) (w : Wv) (k : Bool) (ls : List Ln) (c : Str) (h : seqW S w = some (k, ls.map Ln.w)) : sem_law_sum [w, T c] S = .ok (I (sumOf c ls)) S := by
  obtain ⟨ρ', S', e, hr⟩ := for_pre (fun S => seqW S w = some (k, ls.map Ln.w)) 3 (sIf (evT (evBin (gEq false) (evBin gIx (evVar 3) (evC (.int 1))) (evVar 1))) (sSet 2 (evBin gAdd (evVar 2) (evBin gIx (evVar 3) (evC (.int 2))))) sNil) Ln.w
    (fun pre ρ S' => S' = S ∧ ∃ r, ρ = [some w, some (T c), some (I (sumOf c pre)), r]) (fun _ _ _ hh => hh.1 ▸ h) ls ls [] [some w, some (T c), some (I 0), none] S rfl (by
      rintro pre a post ρ S' ea ⟨rfl, r, rfl⟩
      refine ⟨_, _, .inl ?_, rfl, some a.w, rfl⟩
      by_cases hc : a.c = c
      · simp [Ln.w, Ln.d, gIxI_tup, hc, sumOf_app, sumOf]
      · simp [Ln.w, Ln.d, gIxI_tup, hc, sumOf_app, sumOf]) ⟨rfl, none, rfl⟩
  obtain ⟨rfl, r, rfl⟩ := hr
  unfold sem_law_sum
  simp [fnS_s, itW_of h]
  rw [show (Wv.d (.int 0)) = I 0 from rfl, e]
  simp
end DL

namespace DL
open PySem PySem.Spec PyProof.Rows L2
theorem sumOf_none {c : Str} : ∀ {ls : List Ln}, (∀ l ∈ ls, l.c ≠ c) → sumOf c ls = 0
  | [], _ => rfl
  | l :: r, h => by rw [sumOf, if_neg (h l List.mem_cons_self), sumOf_none fun x hx => h x (List.mem_cons_of_mem _ hx)]; rfl
def Sums (kvs : List (Key × Wv)) (pre : List Ln) : Prop := (∀ p ∈ kvs, ∃ c, p = (.inr c, I (sumOf c pre))) ∧ ∀ l ∈ pre, ∃ p ∈ kvs, p.1 = .inr l.c
theorem atK_some {κ : Type} [DecidableEq κ] {kvs : List (κ × Wv)} {k : κ} {w : Wv} (h : atK kvs k = some w) : (k, w) ∈ kvs := by
  unfold atK at h
  cases q : kvs.find? fun kv => decide (kv.1 = k) with
  | none => rw [q] at h; cases h
  | some p =>
    rw [q] at h
    cases h
    have h1 := List.find?_some q
    have h2 := List.mem_of_find?_eq_some q
    have : p.1 = k := of_decide_eq_true h1
    rw [← this]
    exact h2
theorem atK_none {κ : Type} [DecidableEq κ] {kvs : List (κ × Wv)} {k : κ} (h : atK kvs k = none) : ∀ p ∈ kvs, p.1 ≠ k := by
  unfold atK at h
  cases q : kvs.find? fun kv => decide (kv.1 = k) with
  | some p => rw [q] at h; cases h
  | none =>
    intro p hp e
    have := List.find?_eq_none.mp q p hp
    simp [e] at this
theorem putKW_mem {κ : Type} [DecidableEq κ] {kvs : List (κ × Wv)} {k : κ} {w : Wv} {p : κ × Wv} (h : p ∈ putKW kvs k w) : p = (k, w) ∨ (p ∈ kvs ∧ p.1 ≠ k) := by
  unfold putKW at h
  split at h
  · obtain ⟨q, hq, e⟩ := List.mem_map.mp h
    by_cases hk : q.1 = k
    · rw [if_pos hk] at e; left; rw [← e, hk]
    · rw [if_neg hk] at e; right; exact ⟨e ▸ hq, e ▸ hk⟩
  · rename_i hn
    rcases List.mem_append.mp h with h | h
    · right
      refine ⟨h, fun e => hn ?_⟩
      exact List.any_eq_true.mpr ⟨p, h, decide_eq_true e⟩
    · left; simpa using h
theorem putKW_key {κ : Type} [DecidableEq κ] {kvs : List (κ × Wv)} {k j : κ} {w : Wv} (h : j = k ∨ ∃ p ∈ kvs, p.1 = j) : ∃ p ∈ putKW kvs k w, p.1 = j := by
  unfold putKW
  split
  · rename_i ha
    have go : ∀ q ∈ kvs, q.1 = j → ∃ p ∈ kvs.map (fun kv => if kv.1 = k then (kv.1, w) else kv), p.1 = j := fun q hq e => by
      refine ⟨_, List.mem_map.mpr ⟨q, hq, rfl⟩, ?_⟩
      split <;> exact e
    rcases h with rfl | ⟨p, hp, e⟩
    · obtain ⟨q, hq, e⟩ := List.any_eq_true.mp ha
      exact go q hq (of_decide_eq_true e)
    · exact go p hp e
  · rcases h with rfl | ⟨p, hp, e⟩
    · exact ⟨(j, w), List.mem_append_right _ (by simp), rfl⟩
    · exact ⟨p, List.mem_append_left _ hp, e⟩
theorem putKW_len {κ : Type} [DecidableEq κ] {kvs : List (κ × Wv)} {k : κ} {w : Wv} : (putKW kvs k w).length ≤ kvs.length + 1 := by
  unfold putKW
  split
  · simp
  · simp
theorem Sums.get {kvs : List (Key × Wv)} {pre : List Ln} (h : Sums kvs pre) (c : Str) : (atK kvs (.inr c) = none ∧ sumOf c pre = 0) ∨ atK kvs (.inr c) = some (I (sumOf c pre)) := by
  cases q : atK kvs (.inr c) with
  | none =>
    left
    refine ⟨rfl, sumOf_none fun l hl e => ?_⟩
    obtain ⟨p, hp, e2⟩ := h.2 l hl
    exact atK_none q p hp (by rw [e2, e])
  | some w =>
    right
    obtain ⟨c', e⟩ := h.1 _ (atK_some q)
    cases e
    rfl
theorem Sums.put {kvs : List (Key × Wv)} {pre : List Ln} (h : Sums kvs pre) (a : Ln) : Sums (putKW kvs (.inr a.c) (I (sumOf a.c pre + a.x))) (pre ++ [a]) := by
  refine ⟨fun p hp => ?_, fun l hl => ?_⟩
  · rcases putKW_mem hp with rfl | ⟨hp, hk⟩
    · exact ⟨a.c, by simp [sumOf_app, sumOf]⟩
    · obtain ⟨c, rfl⟩ := h.1 p hp
      have : ¬ a.c = c := fun e => hk (by rw [e])
      exact ⟨c, by simp [sumOf_app, sumOf, this]⟩
  · rcases List.mem_append.mp hl with hl | hl
    · exact putKW_key (.inr (h.2 l hl))
    · have : l = a := by simpa using hl
      exact putKW_key (.inl (by rw [this]))
def bal (ls : List Ln) : Bool := ls.all fun l => decide (sumOf l.c ls = 0)
theorem bal_iff {ls : List Ln} : bal ls = true ↔ ∀ c, sumOf c ls = 0 := by
  unfold bal
  rw [List.all_eq_true]
  refine ⟨fun h c => ?_, fun h l _ => decide_eq_true (h _)⟩
  by_cases hc : ∃ l ∈ ls, l.c = c
  · obtain ⟨l, hl, rfl⟩ := hc
    exact of_decide_eq_true (h l hl)
  · exact sumOf_none fun l hl e => hc ⟨l, hl, e⟩
theorem Sums.vals {kvs : List (Key × Wv)} {ls : List Ln} (h : Sums kvs ls) : ∃ vs : List Int, kvs.map (·.2) = vs.map I ∧ vs.all (fun v => decide (v = 0)) = bal ls := by
  have go : ∀ kvs : List (Key × Wv), (∀ p ∈ kvs, ∃ c, p = (.inr c, I (sumOf c ls))) → ∃ cs : List Str, kvs = cs.map fun c => (.inr c, I (sumOf c ls)) := by
    intro kvs
    induction kvs with
    | nil => exact fun _ => ⟨[], rfl⟩
    | cons p kvs ih =>
      intro hh
      obtain ⟨c, rfl⟩ := hh p List.mem_cons_self
      obtain ⟨cs, e⟩ := ih fun q hq => hh q (List.mem_cons_of_mem _ hq)
      exact ⟨c :: cs, by rw [e]; rfl⟩
  obtain ⟨cs, rfl⟩ := go kvs h.1
  refine ⟨cs.map fun c => sumOf c ls, by simp, ?_⟩
  rw [Bool.eq_iff_iff, bal_iff]
  simp only [List.all_map, List.all_eq_true, Function.comp_apply, decide_eq_true_eq]
  refine ⟨fun hh c => ?_, fun hh c _ => hh c⟩
  by_cases hc : ∃ l ∈ ls, l.c = c
  · obtain ⟨l, hl, rfl⟩ := hc
    obtain ⟨p, hp, e⟩ := h.2 l hl
    obtain ⟨c', hc', rfl⟩ := List.mem_map.mp hp
    have : c' = l.c := by simpa using e
    exact this ▸ hh c' hc'
  · exact sumOf_none fun l hl e => hc ⟨l, hl, e⟩
theorem p_balanced (S : Store) (w : Wv) (k : Bool) (ls : List Ln) (hl : ls.length ≤ 1000) (h : ∀ o, seqW (S ++ [o]) w = some (k, ls.map Ln.w)) : sem_balanced [w] S = .ok (Bo (bal ls)) S := by
  obtain ⟨ρ', S', e, hr⟩ := for_pre (fun S' => seqW S' w = some (k, ls.map Ln.w)) 2 (sDPutS (evVar 1) (evBin gIx (evVar 2) (evC (.int 1))) (evBin gAdd (evGet2 (evVar 1) (evBin gIx (evVar 2) (evC (.int 1))) (evC (.int 0))) (evBin gIx (evVar 2) (evC (.int 2))))) Ln.w
    (fun pre ρ S' => ∃ kvs r, S' = S ++ [.dK kvs] ∧ ρ = [some w, some (.ref S.length), r, none] ∧ Sums kvs pre ∧ kvs.length ≤ pre.length) (fun _ _ _ hh => by obtain ⟨kvs, r, rfl, _⟩ := hh; exact h _) ls ls [] [some w, some (.ref S.length), none, none] (S ++ [.dK []]) rfl (by
      rintro pre a post ρ S' ea ⟨kvs, r, rfl, rfl, hs, hz⟩
      refine ⟨_, _, .inl ?_, putKW kvs (.inr a.c) (I (sumOf a.c pre + a.x)), some a.w, rfl, rfl, hs.put a, ?_⟩
      · have e1 : (S ++ [O.dK kvs])[S.length]? = some (.dK kvs) := by simp
        have hp : pre.length + (a :: post).length = ls.length := by rw [ea, List.length_append]
        have hlk : kvs.length < 16777216 := by simp at hp; omega
        have hput : ∀ i, dPut (S ++ [O.dK kvs]) S.length (.d (.str a.c)) (.d (.int i)) = some ((S ++ [O.dK kvs]).set S.length (.dK (putKW kvs (.inr a.c) (.d (.int i))))) := fun i => dPut_K e1 (asKey_str a.c) rfl hlk
        rcases hs.get a.c with ⟨g, hg⟩ | g
        · simp [Ln.w, Ln.d, gIxI_tup, isDict_K e1, dictW_K e1 (asKey_str a.c), g, hg, hput]
        · simp [Ln.w, Ln.d, gIxI_tup, isDict_K e1, dictW_K e1 (asKey_str a.c), g, hput]
      · have := putKW_len (kvs := kvs) (k := .inr a.c) (w := I (sumOf a.c pre + a.x))
        rw [List.length_append]
        simp only [List.length_singleton]
        omega) ⟨[], none, rfl, rfl, ⟨by simp, by simp⟩, by simp⟩
  obtain ⟨kvs, r, rfl, rfl, hs, hz⟩ := hr
  obtain ⟨vs, hv, hb⟩ := hs.vals
  have e1 : (S ++ [O.dK kvs])[S.length]? = some (.dK kvs) := by simp
  have hlc := lc_map (S := (S ++ [O.dK kvs]).set S.length .dead) (ρ := [some w, some (.ref S.length), r, none]) (fun _ => True) 3 (evBin (gEq false) (evVar 3) (evC (.int 0))) I (fun v => Bo (decide (v = 0))) trivial (fun _ => rfl) vs (by
    intro a _
    simp)
  have hvl : vs.length ≤ 16777216 := by have := congrArg List.length hv; simp at this; omega
  have he : evLcV gFrz 1 3 [3] evYes (evBin (gEq false) (evVar 3) (evC (.int 0))) [some w, some (.ref S.length), r, none] (S ++ [O.dK kvs]) = .ok (.d (.lst (vs.map fun v => .bl (decide (v = 0))))) (S ++ [O.dK kvs]) := by
    unfold evLcV
    simp only [List.getElem?_cons_succ, List.getElem?_cons_zero, e1]
    rw [hv]
    simp only [wipeE_cons, wipeE_nil, List.set_cons_succ, List.set_cons_zero, List.length_map]
    rw [if_pos hvl, hlc, bind_ok, gFrz_map]
    simp [unlockR]
  unfold sem_balanced
  simp [fnP, fnS_s, itW_of (h _), e, he, gAll_map, hb, trim, Wv.under]
end DL

namespace DL
open PySem PySem.Spec PyProof.Rows L2
def OkL (more : Int) (ls : List Ln) : Prop := ∀ l ∈ ls, ∃ k : Nat, k < 20 ∧ l.c = curS k more
theorem OkL.app {more : Int} {ls ls' : List Ln} (h : OkL more ls) (h' : OkL more ls') : OkL more (ls ++ ls') := fun l hl => (List.mem_append.mp hl).elim (h l) (h' l)
theorem OkL.one {more : Int} {a : Str} {k : Nat} {x : Int} (hk : k < 20) : OkL more [⟨a, curS k more, x⟩] := fun l hl => ⟨k, hk, by rw [List.mem_singleton.mp hl]⟩
theorem okl_line (c more : Int) : OkL more [lineV c more] := fun l hl => ⟨(c % 20).toNat, by omega, by
  rw [List.mem_singleton.mp hl]
  show curS (c % 20) more = _
  rw [show (((c % 20).toNat : Nat) : Int) = c % 20 by omega]⟩
def due (ls : List Ln) (more : Int) (n : Nat) : Bool := (List.range n).all fun k => decide (sumOf (curS k more) ls = 0)
theorem due_bal {more : Int} {ls : List Ln} (h : OkL more ls) : due ls more 20 = bal ls := by
  rw [Bool.eq_iff_iff, bal_iff]
  unfold due
  rw [List.all_eq_true]
  refine ⟨fun hh c => ?_, fun hh k _ => decide_eq_true (hh _)⟩
  by_cases hc : ∃ l ∈ ls, l.c = c
  · obtain ⟨l, hl, rfl⟩ := hc
    obtain ⟨k, hk, e⟩ := h l hl
    rw [e]
    exact of_decide_eq_true (hh k (List.mem_range.mpr hk))
  · exact sumOf_none fun l hl e => hc ⟨l, hl, e⟩
theorem range_split {n : Nat} {pre post : List Nat} {a : Nat} (h : List.range n = pre ++ a :: post) : pre = List.range a ∧ a < n := by
  have hl : n = pre.length + (post.length + 1) := by have := congrArg List.length h; simpa using this
  have ha : a = pre.length := by
    have h1 : (List.range n)[pre.length]? = some a := by rw [h]; simp
    rw [List.getElem?_range (by omega)] at h1
    exact (Option.some.inj h1).symm
  refine ⟨?_, by omega⟩
  have : (List.range n).take a = pre := by rw [h, ha]; simp
  rw [← this, List.take_range, Nat.min_eq_left (by omega)]
noncomputable abbrev bD : Sv := sIf (evT (evBin (gEq true) (evN (gCall 2 sem_law_sum) (evCons (evVar 4) (evCons (evN (gCall 2 sem_law_currency) (evCons (evVar 5) (evCons (evVar 2) evNil))) evNil))) (evC (.int 0)))) (sSet 7 (evC (.bl false))) sNil
theorem p_due (S : Store) (ls : List Ln) (more : Int) (h : S[0]? = some (.lst (ls.map Ln.w))) (x0 x1 x3 x5 x6 x8 x9 x10 x11 : Option Wv) :
    sForL (fun _ => True) 5 bD (rangeW 0 20 1) [x0, x1, some (I more), x3, some (.ref 0), x5, x6, some (Bo true), x8, x9, x10, x11] S = .nx [x0, x1, some (I more), x3, some (.ref 0), some (I 19), x6, some (Bo (due ls more 20)), x8, x9, x10, x11] S := by
  have hs : ∀ c, sem_law_sum [.ref 0, T c] S = .ok (I (sumOf c ls)) S := fun c => p_sum S _ true ls c (seqW_ref h)
  obtain ⟨ρ', S', e, hr⟩ := for_pre (fun _ => True) 5 bD (fun k : Nat => I (0 + (k : Int) * 1))
    (fun pre ρ S' => S' = S ∧ ρ = [x0, x1, some (I more), x3, some (.ref 0), (if pre = [] then x5 else some (I (pre.length - 1))), x6, some (Bo (due ls more pre.length)), x8, x9, x10, x11]) (fun _ _ _ _ => trivial) (List.range 20) (List.range 20) [] [x0, x1, some (I more), x3, some (.ref 0), x5, x6, some (Bo true), x8, x9, x10, x11] S rfl (by
      rintro pre a post ρ S' ea ⟨rfl, rfl⟩
      obtain ⟨rfl, ha⟩ := range_split ea
      refine ⟨_, _, .inl ?_, rfl, rfl⟩
      have hd : due ls more (a + 1) = (due ls more a && decide (sumOf (curS a more) ls = 0)) := by simp [due, List.range_succ, List.all_append]
      by_cases hc : sumOf (curS a more) ls = 0
      · simp [p_currency, hs, hc, hd]
      · simp [p_currency, hs, hc, hd]) ⟨rfl, by simp [due]⟩
  obtain ⟨rfl, rfl⟩ := hr
  exact e
noncomputable abbrev bA : Sv := (sSeq (sSet 6 (evBin gSub (evC (.int 0)) (evN (gCall 2 sem_law_sum) (evCons (evVar 4) (evCons (evN (gCall 2 sem_law_currency) (evCons (evVar 5) (evCons (evVar 2) evNil))) evNil)))))
    (sSeq (sIf (evAnd (evT (evBin (gEq false) (evVar 1) (evC (.int 3)))) (evT (evBin (gEq false) (evVar 5) (evC (.int 19))))) (sSet 6 (evBin gAdd (evVar 6) (evC (.int 1)))) sNil)
    (sSeq (sIf (evAnd (evT (evBin (gEq false) (evVar 1) (evC (.int 3)))) (evT (evBin (gEq false) (evVar 5) (evC (.int 0))))) (sSet 6 (evBin gSub (evVar 6) (evVar 3))) sNil)
    (sExpr (evLm gAppend (evVar 4) (evN gTup (evCons (evC (.str "z")) (evCons (evN (gCall 2 sem_law_currency) (evCons (evVar 5) (evCons (evVar 2) evNil))) (evCons (evVar 6) evNil)))))))))
theorem p_add (ls : List Ln) (way more less : Int) (x0 : Option Wv) (hl : ls.length ≤ 100) (ho : OkL more ls) : ∃ ls' x5 x6, ls'.length ≤ 120 ∧ OkL more ls' ∧
    sForL (fun _ => True) 5 bA (rangeW 0 20 1) [x0, some (I way), some (I more), some (I less), some (.ref 0), none, none, none, none, none, none, none] [.lst (ls.map Ln.w)] = .nx [x0, some (I way), some (I more), some (I less), some (.ref 0), x5, x6, none, none, none, none, none] [.lst (ls'.map Ln.w)] := by
  obtain ⟨ρ', S', e, hr⟩ := for_pre (fun _ => True) 5 bA (fun k : Nat => I (0 + (k : Int) * 1))
    (fun pre ρ S' => ∃ ls' x5 x6, ls'.length = ls.length + pre.length ∧ OkL more ls' ∧ S' = [.lst (ls'.map Ln.w)] ∧ ρ = [x0, some (I way), some (I more), some (I less), some (.ref 0), x5, x6, none, none, none, none, none]) (fun _ _ _ _ => trivial) (List.range 20) (List.range 20) [] [x0, some (I way), some (I more), some (I less), some (.ref 0), none, none, none, none, none, none, none] [.lst (ls.map Ln.w)] rfl (by
      rintro pre a post ρ S' ea ⟨ls', x5, x6, hl', ho', rfl, rfl⟩
      obtain ⟨rfl, ha⟩ := range_split ea
      have hs : ∀ c, sem_law_sum [.ref 0, T c] [.lst (ls'.map Ln.w)] = .ok (I (sumOf c ls')) [.lst (ls'.map Ln.w)] := fun c => p_sum _ _ true ls' c (seqW_ref rfl)
      have hlo : lstOf [O.lst (ls'.map Ln.w)] (.ref 0) = some (0, ls'.map Ln.w) := rfl
      have hap : ∀ x : D, gAppend (.ref 0) (.d x) [.lst (ls'.map Ln.w)] = .ok (.d .non) [.lst (ls'.map Ln.w ++ [.d x])] := fun x => gAppend_ref rfl rfl (by simp at hl' ⊢; omega)
      let r : Int := if way = 3 then (if (a : Int) = 19 then -sumOf (curS a more) ls' + 1 else if (a : Int) = 0 then -sumOf (curS a more) ls' - less else -sumOf (curS a more) ls') else -sumOf (curS a more) ls'
      have go : bA ([x0, some (I way), some (I more), some (I less), some (.ref 0), x5, x6, none, none, none, none, none].set 5 (some (I (0 + (a : Int) * 1)))) [.lst (ls'.map Ln.w)] = .nx [x0, some (I way), some (I more), some (I less), some (.ref 0), some (I a), some (I r), none, none, none, none, none] [.lst (ls'.map Ln.w ++ [.d (.tup [.str "z", .str (curS a more), .int r])])] := by
        by_cases h1 : way = 3 <;> by_cases h2 : (a : Int) = 19 <;> by_cases h3 : a = 0
        all_goals first
          | omega
          | simp [p_currency, hs, h1, h2, h3, hlo, hap, r]
      exact ⟨_, _, .inl go, ls' ++ [Ln.mk "z" (curS a more) r], _, _, by simp [hl']; omega, ho'.app (.one ha), by simp [Ln.w, Ln.d], rfl⟩) ⟨ls, none, none, by simp, ho, rfl, rfl⟩
  obtain ⟨ls', x5, x6, h1, h2, rfl, rfl⟩ := hr
  exact ⟨ls', x5, x6, by simp at h1; omega, h2, e⟩
end DL

namespace DL
open PySem PySem.Spec PyProof.Rows L2
def lines0 (ns : List Int) (more : Int) : List Ln := (cut ns (some 1) (some 56)).map fun c => lineV c more
theorem cut_len {α : Type} (xs : List α) (lo hi : Option Int) : (cut xs lo hi).length ≤ xs.length := by
  unfold cut
  rw [List.length_take, List.length_drop]
  omega
theorem okl_lines (ns : List Int) (more : Int) : OkL more (lines0 ns more) := fun l hl => by
  obtain ⟨c, _, rfl⟩ := List.mem_map.mp hl
  exact okl_line c more _ (by simp)
theorem p_lines (ns : List Int) (hn : ns.length ≤ 63) (more : Int) (ρ : Env) (hρ : ∀ w, (ρ.set 11 w)[2]? = some (some (I more))) (h11 : ∀ w, (ρ.set 11 w)[11]? = some w) (h0 : ρ[0]? = some (some (.scr ns))) (h1 : ρ.set 11 none = ρ) :
    evLc gKeep (evItems (evSl (evVar 0) (evPart (evC (.int 1))) (evPart (evC (.int 56))))) 11 [11] evYes (evN (gCall 2 sem_law_line) (evCons (evVar 11) (evCons (evVar 2) evNil))) ρ [] = .ok (.ref 0) [.lst ((lines0 ns more).map Ln.w)] := by
  have e := lc_map (S := ([] : Store)) (ρ := ρ) (fun S => True) 11 (evN (gCall 2 sem_law_line) (evCons (evVar 11) (evCons (evVar 2) evNil))) (fun c => I c) (fun c => (lineV c more).w) trivial (fun _ => rfl) (cut ns (some 1) (some 56)) (by
    intro c _
    simp [h11, hρ, p_line])
  have hl := cut_len ns (some 1) (some 56)
  rw [evLc_s]
  simp [h0, h1]
  rw [if_pos (by omega)]
  have e' : (List.map (Wv.d ∘ D.int) (cut ns (some 1) (some 56))) = (cut ns (some 1) (some 56)).map fun c => I c := rfl
  rw [e', e]
  simp [gKeep, lines0]
theorem dep_lines (ls : List Ln) : (D.lst (ls.map Ln.d)).dep ≤ 64 := by
  have := depAll_map (n := 60) Ln.d ls (fun l _ => by simp [Ln.d])
  rw [dep_lst]
  omega
theorem map_w (ls : List Ln) : ls.map Ln.w = (ls.map Ln.d).map .d := by rw [List.map_map]; rfl
def yl (more r : Int) : Ln := ⟨"y", curS 3 more, r⟩
theorem pure_law : ∀ ns : List Int, ns.length ≤ 63 → ∃ S, sem_law [.scr ns] [] = .ok (.d (.bl true)) S := by
  intro ns hn
  have s8 : Sm 8 := by decide
  have s4 : Sm 4 := by decide
  have l0 : (lines0 ns (cell ns 0 / 8 % 676)).length ≤ 63 := by
    have := cut_len ns (some 1) (some 56)
    simp [lines0]; omega
  -- what stands behind the lines
  have key : ∃ ls x5 x6, ls.length ≤ 120 ∧ OkL (cell ns 0 / 8 % 676) ls ∧
      (sIf (evT (evBin gGt (evVar 1) (evC (.int 0)))) (sFor 5 (evRange gRange1 (evCons (evC (.int 20)) evNil)) bA) sNil) [some (.scr ns), some (I (cell ns 0 % 4)), some (I (cell ns 0 / 8 % 676)), some (I (cell ns 0 / 4 % 2)), some (.ref 0), none, none, none, none, none, none, none] [.lst ((lines0 ns (cell ns 0 / 8 % 676)).map Ln.w)]
        = .nx [some (.scr ns), some (I (cell ns 0 % 4)), some (I (cell ns 0 / 8 % 676)), some (I (cell ns 0 / 4 % 2)), some (.ref 0), x5, x6, none, none, none, none, none] [.lst (ls.map Ln.w)] := by
    by_cases hw : 0 < cell ns 0 % 4
    · obtain ⟨ls, x5, x6, h1, h2, e⟩ := p_add (lines0 ns (cell ns 0 / 8 % 676)) (cell ns 0 % 4) (cell ns 0 / 8 % 676) (cell ns 0 / 4 % 2) (some (.scr ns)) (by omega) (okl_lines _ _)
      refine ⟨ls, x5, x6, h1, h2, ?_⟩
      simp [hw]
      exact e
    · refine ⟨lines0 ns (cell ns 0 / 8 % 676), none, none, by omega, okl_lines _ _, ?_⟩
      simp [hw]
  obtain ⟨ls, x5, x6, hl, hok, ek⟩ := key
  generalize hm : cell ns 0 / 8 % 676 = more at *
  have hd1 : due ls more 20 = bal ls := due_bal hok
  have o1 : OkL more (ls ++ [yl more (7 - sumOf (curS 3 more) ls)]) := hok.app (.one (k := 3) (by decide))
  have o2 : OkL more (ls ++ [yl more (-sumOf (curS 3 more) ls)]) := hok.app (.one (k := 3) (by decide))
  have n1 : bal (ls ++ [yl more (7 - sumOf (curS 3 more) ls)]) = false := by
    rw [Bool.eq_false_iff]
    intro h
    have := bal_iff.mp h (curS 3 more)
    rw [sumOf_app] at this
    simp [sumOf, yl] at this
    omega
  have pl := p_lines ns hn more [some (.scr ns), some (I (cell ns 0 % 4)), some (I more), some (I (cell ns 0 / 4 % 2)), none, none, none, none, none, none, none, none] (fun _ => rfl) (fun _ => rfl) rfl rfl
  have b0 : sem_balanced [.ref 1] [.lst (ls.map Ln.w), .lst (ls.map Ln.w)] = .ok (Bo (bal ls)) [.lst (ls.map Ln.w), .lst (ls.map Ln.w)] := p_balanced _ _ true ls (by omega) fun o => rfl
  have b1 : sem_balanced [.d (.tup (ls.map Ln.d))] [.lst (ls.map Ln.w), .lst (ls.map Ln.w)] = .ok (Bo (bal ls)) [.lst (ls.map Ln.w), .lst (ls.map Ln.w)] := p_balanced _ _ false ls (by omega) fun o => by simp [map_w]
  have q1 : gListS [.ref 0] [.lst (ls.map Ln.w)] = .ok (.ref 1) [.lst (ls.map Ln.w), .lst (ls.map Ln.w)] := gListS_ref rfl
  have q2 : gTuple [.ref 0] [.lst (ls.map Ln.w), .lst (ls.map Ln.w)] = .ok (.d (.tup (ls.map Ln.d))) [.lst (ls.map Ln.w), .lst (ls.map Ln.w)] := gTuple_ref (by simp [map_w])
  have q3 : gEq true (.ref 1) (.ref 0) [.lst (ls.map Ln.w), .lst (ls.map Ln.w)] = .ok (Bo false) [.lst (ls.map Ln.w), .lst (ls.map Ln.w)] := by
    rw [gEq_of (asD_ref (ds := ls.map Ln.d) (by simp [map_w])) (asD_ref (ds := ls.map Ln.d) (by simp [map_w])) (by have := dep_lines ls; omega), eqD_refl]
    rfl
  have sm : sem_law_sum [.ref 0, T (curS 3 more)] [.lst (ls.map Ln.w), .lst (ls.map Ln.w)] = .ok (I (sumOf (curS 3 more) ls)) [.lst (ls.map Ln.w), .lst (ls.map Ln.w)] := p_sum _ _ true ls _ (seqW_ref rfl)
  have lo1 : ∀ o : O, lstOf [o, O.lst (ls.map Ln.w)] (.ref 1) = some (1, ls.map Ln.w) := fun _ => rfl
  have lo0 : ∀ o : O, lstOf [O.lst (ls.map Ln.w), o] (.ref 0) = some (0, ls.map Ln.w) := fun _ => rfl
  have ap1 : ∀ x : D, gAppend (.ref 1) (.d x) [.lst (ls.map Ln.w), .lst (ls.map Ln.w)] = .ok (.d .non) [.lst (ls.map Ln.w), .lst (ls.map Ln.w ++ [.d x])] := fun x => gAppend_ref rfl rfl (by simp; omega)
  have ap0 : ∀ (x : D) (o : O), gAppend (.ref 0) (.d x) [.lst (ls.map Ln.w), o] = .ok (.d .non) [.lst (ls.map Ln.w ++ [.d x]), o] := fun x o => gAppend_ref rfl rfl (by simp; omega)
  have fin : ∀ r : Int, ls.map Ln.w ++ [Wv.d (.tup [.str "y", .str (curS 3 more), .int r])] = (ls ++ [yl more r]).map Ln.w := fun r => by simp [Ln.w, Ln.d, yl]
  have b2 : ∀ o, sem_balanced [.ref 1] [o, .lst ((ls ++ [yl more (7 - sumOf (curS 3 more) ls)]).map Ln.w)] = .ok (Bo false) [o, .lst ((ls ++ [yl more (7 - sumOf (curS 3 more) ls)]).map Ln.w)] := fun o => by
    rw [p_balanced _ _ true _ (by simp; omega) fun o => rfl, n1]
  have b3 : ∀ o, sem_balanced [.ref 0] [.lst ((ls ++ [yl more (-sumOf (curS 3 more) ls)]).map Ln.w), o] = .ok (Bo (due (ls ++ [yl more (-sumOf (curS 3 more) ls)]) more 20)) [.lst ((ls ++ [yl more (-sumOf (curS 3 more) ls)]).map Ln.w), o] := fun o => by
    rw [p_balanced _ _ true _ (by simp; omega) fun o => rfl, due_bal o2]
  have d0 := fun x1 x3 x5 x6 x8 x9 x10 x11 => p_due [.lst (ls.map Ln.w)] ls more rfl (some (.scr ns)) x1 x3 x5 x6 x8 x9 x10 x11
  have d1 := fun x1 x3 x5 x6 x8 x9 x10 x11 o => p_due [.lst ((ls ++ [yl more (-sumOf (curS 3 more) ls)]).map Ln.w), o] (ls ++ [yl more (-sumOf (curS 3 more) ls)]) more rfl (some (.scr ns)) x1 x3 x5 x6 x8 x9 x10 x11
  have f1 := fin (-sumOf (curS 3 more) ls)
  have f2 := fin (7 - sumOf (curS 3 more) ls)
  generalize ls ++ [yl more (-sumOf (curS 3 more) ls)] = l1 at *
  generalize ls ++ [yl more (7 - sumOf (curS 3 more) ls)] = l2 at *
  refine ⟨[.lst (l1.map Ln.w), .lst (l2.map Ln.w)], ?_⟩
  unfold sem_law
  simp at ek
  simp [fnS_s, p_cell, s4, s8, hm, pl, ek, d0, d1, q1, q2, q3, b0, b1, b2, b3, sm, lo0, lo1, ap0, ap1, p_currency, hd1, evAndV_s, evNotV_s, f1, f2]
end DL

namespace DL
open PySem PySem.Spec PyProof.Rows L2
def nl0 : List Str := ["balanced", "_law_cell", "_law_whole", "_law_currency", "_law_line", "_law_sum"]
def nls : List Str := nl0
abbrev Rw : PySem.W.OpenRow := PySem.W.OpenLaw.row PySem.Challenge.rw_doubleledger_k02_balanced
abbrev hk : PySem.W.Hook := He.hookD 5 fal fnl
def ob (s : PySem.W.SharedT) : He.AlD := He.obsDG 5 fal fnl (HandSHeadRun.getT s)
theorem ob_eq (s : PySem.W.SharedT) : ob s = hk.obs s.abs := He.obsDG_eq (HandSHeadRun.getT_eq s)
theorem run (w : World) : HandSHeadRun.RunEq Rw (PySem.W.view Rw.prog [8]) hk ob 4000 nls w := by
  intro os
  kernel_rfl
end DL
open PySem PySem.W PySem.Calls PyProof.Rows
set_option maxHeartbeats 0 in
theorem PySem.Challenge.cw_doubleledger_k02_balanced_holds : PySem.Challenge.rw_doubleledger_k02_balanced.Holds := by
  w_on; o_law
  refine HandSHeadRun.head_any (r := DL.Rw) (q := view DL.Rw.prog [8]) (H := DL.hk) (ob := DL.ob) (M := 4000) (loose := DL.nls) (d := HandSHeadRun.topDef DL.Rw.prog 8) (kwd := []) DL.ob_eq
    (by kernel_rfl) (fun s => by kernel_rfl) DL.run (by kernel_rfl) (by kernel_rfl) (by kernel_rfl) (by rfl) (by first | assumption | decide +kernel) (by decide +kernel) ⟨rfl, rfl, rfl, rfl, rfl, by decide +kernel⟩ ?hw ?hc
  case hw => w_witness2
  case hc =>
    refine DL.walk_E (l := PySem.Challenge.rw_doubleledger_k02_balanced) (n := 63) (k := 3) (x := "_law_script") (CX := fun w => L2N.CX (PySem.Challenge.rw_doubleledger_k02_balanced).prog w) rfl (by decide) (by kernel_rfl) ⟨rfl, by decide, by decide⟩ ?F (fun w H s e s' z => DL.noCX z)
    intro w mg fa h Y G hmg0
    obtain ⟨K, KX, c⟩ := Y
    have hmg : mg ("law" : PySem.Str) = some (.ref fa) := by
      have e : (HandSHeadRun.topDef DL.Rw.prog 8).name = ("law" : PySem.Str) := by kernel_rfl
      rw [← e]
      exact hmg0
    have ea := hmg.symm.trans (He.glo_ok KX G (c.fact 12 rfl))
    cases ea
    obtain ⟨fd, hb, hF⟩ := DL.ok_law (P := (PySem.Challenge.rw_doubleledger_k02_balanced).prog) (w := w) KX G c
    exact ⟨K, fd, DL.spOf K 1 DL.sem_law, KX, hb, fun H a ns hl hS => DL.law_sp DL.pure_law H a ns hl hS, fun base _ _ => hF base⟩
