import PyProof.Rows.All
import Wide.All
import OpenK.AllK
import Wide.FinOn
import HandS.Lambda
import KE.KNestM
import HandS.ForMost
import HandS.Exc
import HandS.CallSlots
import HandS.WordsExc
import HandS.Wide
import HandS.IsInst
import HandS.Flow
import HandS.TupAny
import HandS.Deep
import PyProof.ReprRoads
import HandS.Walk
import HandS.Ends
import HandS.Property
import HandS.WideBits
import HandS.Star
import HandS.FStr
import HandS.Style
import KE.GoesEnum
import HandS.Iter
import KE.GoesMore
import HandS.Text
import HandS.RaiseMore
import HandS.TupMul
import HandS.Words
import HandS.Conv
import HandS.SetFor
import HandS.SortInts
import KE.KRevSl
import HandS.ExcOwn
import PyProof.EqAt
import PyProof.EqKinds
import PyProof.TupleCall
import KE.OsGo
import KE.KExcInit
import HandS.TupLe
import HandS.Defaults
import HandS.ClsMeth
import KE.KCallOwn
import HandS.NoneIn
import HandS.MakeKw
import HandS.TryMany
import HandS.EndTab
import PyProof.ReprLen
import PyProof.P3Eq
import PyProof.Rows.StrJoinMade
import KE.IntTextText
import PySem.Challenge.RW_shelfwithin_k16_whole_texts_of_keepers_j
set_option Elab.async false
set_option linter.all false
namespace L3
/-- the defs in which lambdas are made -/
def lamNames : List PySem.Str := []
end L3
set_option linter.all false
set_option maxRecDepth 100000
set_option maxHeartbeats 4000000
/-! L3, part A: values as trees (D), the state of a frame as data (SS), the lifted judgements. -/
namespace L3
open PySem L2
/-- a Python value as a tree; fn: an object of the written part by its address; cel: a list of the frame's own, by its slot -/
inductive D where
  | non | bl (b : Bool) | int (i : Int) | str (x : Str) | tup (xs : List D) | lst (xs : List D) | lsf (xs : List D) | edc
  | ins (C : Addr) (ns : List Str) (fs : List D) | fn (a : Addr) | ty (n : String) | cel (i : Nat)
  /-- a caught exception of the class C at a, its own dict at dx -/
  | exc (C a dx : Addr) (ns : List Str) (fs : List D)
  /-- a lambda's function object at f, over what is known of the heap -/
  | clo (f : Addr) (G : Hp)
mutual
inductive Rep (K : PySem.W.Frag) (F : Hp) : V → D → Prop
  | non : Rep K F .non .non
  | bl (b : Bool) : Rep K F (.bl b) (.bl b)
  | int (i : Int) : Rep K F (.int i) (.int i)
  | str (x : Str) : Rep K F (.str x) (.str x)
  | tup {a : Addr} {vs : List V} {ds : List D} : SqT K F a vs → RepL K F vs ds → Rep K F (.ref a) (.tup ds)
  | lst {a : Addr} {vs : List V} {ds : List D} : F a = some (.lst vs) → RepL K F vs ds → Rep K F (.ref a) (.lst ds)
  | lsf {a : Addr} {vs : List V} {ds : List D} : SqL K F a vs → RepL K F vs ds → Rep K F (.ref a) (.lsf ds)
  | edc {a : Addr} : F a = some (.dK []) → Rep K F (.ref a) .edc
  | ins {a C dx : Addr} {ns : List Str} {vs : List V} {ds : List D} : F a = some (.ins C dx (ns.zip vs)) → ns.length = vs.length → RepL K F vs ds → Rep K F (.ref a) (.ins C ns ds)
  | fn (a : Addr) : Rep K F (.ref a) (.fn a)
  | ty (n : String) : Rep K F (.ty n) (.ty n)
  | exc {a C dx : Addr} {ns : List Str} {vs : List V} {ds : List D} : F dx = some (.xd (ns.zip vs)) → ns.length = vs.length → RepL K F vs ds → Rep K F (.ref a) (.exc C a dx ns ds)
  | clo {f : Addr} {G : Hp} : Same G F → Rep K F (.ref f) (.clo f G)
inductive RepL (K : PySem.W.Frag) (F : Hp) : List V → List D → Prop
  | nil : RepL K F [] []
  | cons {v : V} {vs : List V} {d : D} {ds : List D} : Rep K F v d → RepL K F vs ds → RepL K F (v :: vs) (d :: ds)
end
theorem sameRd {H H' : Hp} {a : Addr} {u : HO} (e : Same H H') (h : Rd H a u) : Rd H' a u := by
  rcases h with h | ⟨o, h⟩
  · exact .inl (e _ _ h)
  · exact .inr ⟨o, e _ _ h⟩
theorem sameT {K : PySem.W.Frag} {H H' : Hp} {a : Addr} {xs : List V} (e : Same H H') (h : SqT K H a xs) : SqT K H' a xs := by
  rcases h with h | h
  · exact .inl (sameRd e h)
  · exact .inr h
theorem sameNew {H : Hp} {p : Addr} {o : HO} (h : H p = none) : Same H (upd H p o) := fun a u e => by
  rw [upd_ne (ne_of_none e h)]
  exact e
section
variable {K : PySem.W.Frag} {F F' : Hp}
mutual
theorem Rep.mono (e : Same F F') : ∀ {v : V} {d : D}, Rep K F v d → Rep K F' v d
  | _, _, .non => .non
  | _, _, .bl b => .bl b
  | _, _, .int i => .int i
  | _, _, .str x => .str x
  | _, _, .tup h r => .tup (sameT e h) (RepL.mono e r)
  | _, _, .lst h r => .lst (e _ _ h) (RepL.mono e r)
  | _, _, .lsf h r => .lsf (Same.seq e h) (RepL.mono e r)
  | _, _, .edc h => .edc (e _ _ h)
  | _, _, .ins h l r => .ins (e _ _ h) l (RepL.mono e r)
  | _, _, .fn a => .fn a
  | _, _, .ty n => .ty n
  | _, _, .exc h l r => .exc (e _ _ h) l (RepL.mono e r)
  | _, _, .clo h => .clo (h.trans e)
theorem RepL.mono (e : Same F F') : ∀ {v : List V} {d : List D}, RepL K F v d → RepL K F' v d
  | _, _, .nil => .nil
  | _, _, .cons h r => .cons (Rep.mono e h) (RepL.mono e r)
end
theorem RepL.length : ∀ {v : List V} {d : List D}, RepL K F v d → v.length = d.length
  | _, _, .nil => rfl
  | _, _, .cons _ r => by rw [List.length_cons, List.length_cons, RepL.length r]
theorem RepL.get : ∀ {vs : List V} {ds : List D} {i : Nat} {d : D}, RepL K F vs ds → ds[i]? = some d → ∃ v, vs[i]? = some v ∧ Rep K F v d
  | _, _, _, _, .nil, e => by simp at e
  | _, _, 0, _, .cons h _, e => by simp at e; subst e; exact ⟨_, rfl, h⟩
  | _, _, i + 1, d, .cons _ r, e => by
    obtain ⟨v, h1, h2⟩ := RepL.get (i := i) (d := d) r (by simpa using e)
    exact ⟨v, by simpa using h1, h2⟩
theorem RepL.get' : ∀ {vs : List V} {ds : List D} {i : Nat} {v : V}, RepL K F vs ds → vs[i]? = some v → ∃ d, ds[i]? = some d ∧ Rep K F v d
  | _, _, _, _, .nil, e => by simp at e
  | _, _, 0, _, .cons h _, e => by simp at e; subst e; exact ⟨_, rfl, h⟩
  | _, _, i + 1, v, .cons _ r, e => by
    obtain ⟨d, h1, h2⟩ := RepL.get' (i := i) (v := v) r (by simpa using e)
    exact ⟨d, by simpa using h1, h2⟩
theorem RepL.append : ∀ {vs ws : List V} {ds es : List D}, RepL K F vs ds → RepL K F ws es → RepL K F (vs ++ ws) (ds ++ es)
  | _, _, _, _, .nil, s => s
  | _, _, _, _, .cons h r, s => .cons h (RepL.append r s)
theorem RepL.take : ∀ {vs : List V} {ds : List D} (n : Nat), RepL K F vs ds → RepL K F (vs.take n) (ds.take n)
  | _, _, 0, _ => .nil
  | _, _, _ + 1, .nil => .nil
  | _, _, n + 1, .cons h r => .cons h (RepL.take n r)
theorem RepL.drop : ∀ {vs : List V} {ds : List D} (n : Nat), RepL K F vs ds → RepL K F (vs.drop n) (ds.drop n)
  | _, _, 0, r => r
  | _, _, _ + 1, .nil => .nil
  | _, _, n + 1, .cons _ r => RepL.drop n r
theorem RepL.set {v : V} {d : D} (h : Rep K F v d) : ∀ {vs : List V} {ds : List D} (i : Nat), RepL K F vs ds → RepL K F (vs.set i v) (ds.set i d)
  | _, _, _, .nil => .nil
  | _, _, 0, .cons _ r => .cons h r
  | _, _, i + 1, .cons q r => .cons q (RepL.set h i r)
theorem RepL.one {v : V} {d : D} (h : Rep K F v d) : RepL K F [v] [d] := .cons h .nil
theorem RepL.rep : ∀ {vs : List V} {ds : List D} (n : Nat), RepL K F vs ds → RepL K F (List.replicate n vs).flatten (List.replicate n ds).flatten
  | _, _, 0, _ => .nil
  | vs, ds, n + 1, h => by
    rw [List.replicate_succ, List.replicate_succ, List.flatten_cons, List.flatten_cons]
    exact RepL.append h (RepL.rep n h)
end

/-! ### the frame's state -/
/-- what a cell (an object that is changed) holds -/
inductive Cell where
  | lst (xs : List D)
  | ins (C : Addr) (ns : List Str) (ds : List D)
/-- a slot: a value that stays, or a cell (o: the frame's own; else the caller's) -/
inductive Sl where
  | v (d : D)
  | c (o : Bool) (k : Cell)
abbrev SS := List (Option Sl)
/-- the cell at a, over the addresses fp -/
def CellAt (K : PySem.W.Frag) (F H : Hp) (a : Addr) (fp : List Addr) : Cell → Prop
  | .lst xs => fp = [a] ∧ ∃ vs, H a = some (.lst vs) ∧ RepL K F vs xs
  | .ins C ns ds => fp = [a] ∧ ∃ dx vs, H a = some (.ins C dx (ns.zip vs)) ∧ ns.length = vs.length ∧ RepL K F vs ds
theorem CellAt.fp1 {K : PySem.W.Frag} {F H : Hp} {a : Addr} {fp : List Addr} {k : Cell} (h : CellAt K F H a fp k) : fp = [a] := by
  cases k with
  | lst xs => exact h.1
  | ins C ns ds => exact h.1
theorem CellAt.mem {K : PySem.W.Frag} {F H : Hp} {a : Addr} {fp : List Addr} {k : Cell} (h : CellAt K F H a fp k) : a ∈ fp := by
  rw [h.fp1]; exact List.mem_singleton.mpr rfl
theorem CellAt.nt {K : PySem.W.Frag} {F H : Hp} {a : Addr} {fp : List Addr} {k : Cell} (h : CellAt K F H a fp k) : ∃ u, H a = some u ∧ ((∀ ps, u ≠ .tbl ps) ∧ ∀ p, u ≠ .ext p) := by
  cases k with
  | lst xs =>
    obtain ⟨e, vs, q, _⟩ := h
    exact ⟨_, q, fun _ z => (nomatch z), fun _ z => (nomatch z)⟩
  | ins C ns ds =>
    obtain ⟨e, dx, vs, q, _⟩ := h
    exact ⟨_, q, fun _ z => (nomatch z), fun _ z => (nomatch z)⟩
theorem CellAt.ntb {K : PySem.W.Frag} {F H : Hp} {a b : Addr} {fp : List Addr} {k : Cell} {u : HO} (h : CellAt K F H a fp k) (hb : b ∈ fp) (q : H b = some u) : ∀ ps, u ≠ .tbl ps := by
  rw [h.fp1] at hb
  rw [List.mem_singleton.mp hb] at q
  obtain ⟨w, hw, nw⟩ := h.nt
  rw [hw] at q
  cases q
  exact nw.1
theorem CellAt.live {K : PySem.W.Frag} {F H : Hp} {a : Addr} {fp : List Addr} {k : Cell} (h : CellAt K F H a fp k) : ∀ b ∈ fp, H b ≠ none := by
  intro b hb z
  rw [h.fp1] at hb
  rw [List.mem_singleton.mp hb] at z
  cases k with
  | lst xs =>
    obtain ⟨e, vs, q, _⟩ := h
    rw [q] at z
    cases z
  | ins C ns ds =>
    obtain ⟨e, dx, vs, q, _⟩ := h
    rw [q] at z
    cases z
theorem CellAt.mono {K : PySem.W.Frag} {F F' H H' : Hp} {a : Addr} {fp : List Addr} {k : Cell} (h : CellAt K F H a fp k) (e : Same F F') (eh : ∀ b ∈ fp, ∀ o, H b = some o → H' b = some o) : CellAt K F' H' a fp k := by
  cases k with
  | lst xs =>
    obtain ⟨e1, vs, q, r⟩ := h
    exact ⟨e1, vs, eh a (by rw [e1]; exact List.mem_singleton.mpr rfl) _ q, r.mono e⟩
  | ins C ns ds =>
    obtain ⟨e1, dx, vs, q, l, r⟩ := h
    exact ⟨e1, dx, vs, eh a (by rw [e1]; exact List.mem_singleton.mpr rfl) _ q, l, r.mono e⟩

/-! ### tables of code objects -/
def noTX (o : HO) : Prop := (∀ ps, o ≠ .tbl ps) ∧ ∀ p, o ≠ .ext p
/-- the tables that the law's lambdas are made by -/
def tabsOf (K : PySem.W.Frag) : List (Addr × Str) := lamNames.filterMap fun x => (PySem.W.tabIn K x).map fun q => (q.2, x ++ ".<locals>." ++ "<lambda>")
structure TB0 (K : PySem.W.Frag) (F H : Hp) : Prop where
  t : LamX.Tabs (tabsOf K) H
  f : ∀ b ps, F b ≠ some (.tbl ps)
  c : ∀ b q, H b = some (LamX.CodeO b q) → F b = some (LamX.CodeO b q)
structure TBk (K : PySem.W.Frag) (G F H : Hp) : Prop where
  t : LamX.Tabs (tabsOf K) H
  f : ∀ b ps, F b ≠ some (.tbl ps)
  g : ∀ b ps, G b ≠ some (.tbl ps)
  c : ∀ b q, H b = some (LamX.CodeO b q) → F b = some (LamX.CodeO b q)
theorem tabs_keep {T : List (Addr × Str)} {H H' : Hp} (h : LamX.Tabs T H) (k : ∀ b o, H b = some o → ¬ noTX o → H' b = some o) : LamX.Tabs T H' := fun p hp => by
  obtain ⟨ps, h1, h2, h3⟩ := h p hp
  refine ⟨ps, k _ _ h1 (fun z => z.1 ps rfl), h2, fun pos cv hc => ?_⟩
  obtain ⟨c, e1, e2⟩ := h3 pos cv hc
  exact ⟨c, e1, k _ _ e2 (fun z => z.2 _ rfl)⟩
section
variable {K : PySem.W.Frag} {G F H : Hp} {p : Addr} {o u : HO}
theorem noTbl_upd {G : Hp} (h : ∀ b ps, G b ≠ some (.tbl ps)) (no : ∀ ps, o ≠ .tbl ps) : ∀ b ps, upd G p o b ≠ some (.tbl ps) := fun b ps z => by
  by_cases e : b = p
  · rw [e, upd_same] at z; exact no ps (Option.some.inj z)
  · rw [upd_ne e] at z; exact h b ps z
theorem code_new (h : ∀ b q, H b = some (LamX.CodeO b q) → F b = some (LamX.CodeO b q)) : ∀ b q, upd H p o b = some (LamX.CodeO b q) → upd F p o b = some (LamX.CodeO b q) := fun b q e => by
  by_cases hb : b = p
  · rw [hb, upd_same] at e ⊢; exact e
  · rw [upd_ne hb] at e ⊢; exact h b q e
theorem code_upd (h : ∀ b q, H b = some (LamX.CodeO b q) → F b = some (LamX.CodeO b q)) (no : ∀ φ, o ≠ .ext φ) : ∀ b q, upd H p o b = some (LamX.CodeO b q) → F b = some (LamX.CodeO b q) := fun b q e => by
  by_cases hb : b = p
  · rw [hb, upd_same] at e; exact absurd (Option.some.inj e) (no _)
  · rw [upd_ne hb] at e; exact h b q e
theorem tabs_new {T : List (Addr × Str)} (h : LamX.Tabs T H) (hp : H p = none) : LamX.Tabs T (upd H p o) := tabs_keep h fun b o' e _ => by rw [upd_ne (ne_of_none e hp)]; exact e
theorem tabs_upd {T : List (Addr × Str)} (h : LamX.Tabs T H) (hp : H p = some u) (nu : noTX u) : LamX.Tabs T (upd H p o) := tabs_keep h fun b o' e n => by
  rw [upd_ne]
  · exact e
  · intro z; rw [z, hp] at e; exact n (by rw [← Option.some.inj e]; exact nu)
end
/-- what is around a frame: G, all that must stay; B, what is tracked but not known here; L: the caller's cells, by slot and address -/
structure Gd where
  G : Hp
  B : Addr → Prop
  L : List (Nat × Addr)
structure RSf (K : PySem.W.Frag) (g : Gd) (F H : Hp) (σ : St) (S : SS) (fp : Nat → List Addr) : Prop where
  fh : Same F H
  gf : Same g.G H
  nb : ∀ b, g.B b → F b = none ∧ H b ≠ none
  val : ∀ (i : Nat) (d : D), S[i]? = some (some (.v d)) → ∃ v, σ[i]? = some (some v) ∧ Rep K F v d
  cel : ∀ (i : Nat) (o : Bool) (k : Cell), S[i]? = some (some (.c o k)) → ∃ a, σ[i]? = some (some (.ref a)) ∧ CellAt K F H a (fp i) k ∧ ∀ b ∈ fp i, F b = none ∧ g.G b = none ∧ (o = true → ¬ g.B b)
  ap : ∀ (i j : Nat) (o : Bool) (k : Cell) (o' : Bool) (k' : Cell), i ≠ j → S[i]? = some (some (.c o k)) → S[j]? = some (some (.c o' k')) → ∀ b, b ∈ fp i → b ∉ fp j
  len : S.length = σ.length
  lent : ∀ p ∈ g.L, σ[p.1]? = some (some (.ref p.2)) ∧ ∃ k, S[p.1]? = some (some (.c false k))
  nl : ∀ (i : Nat) (k : Cell), S[i]? = some (some (.c false k)) → ∃ a, (i, a) ∈ g.L
  tb : TBk K g.G F H
def RS (K : PySem.W.Frag) (g : Gd) (F H : Hp) (σ : St) (S : SS) : Prop := ∃ fp, RSf K g F H σ S fp

/-- a value of an expression: a tree, or a cell's slot -/
def RepW (K : PySem.W.Frag) (F : Hp) (σ : St) (S : SS) (v : V) (d : D) : Prop := Rep K F v d ∨ ∃ (i : Nat) (o : Bool) (k : Cell), d = .cel i ∧ σ[i]? = some (some v) ∧ S[i]? = some (some (.c o k))
/-- a value as it is to be read now -/
@[simp] def Cell.d : Cell → D
  | .lst xs => .lst xs
  | .ins C ns ds => .ins C ns ds
def look (S : SS) : D → D
  | .cel i => match S[i]? with
    | some (some (.c _ k)) => k.d
    | _ => .cel i
  | d => d
/-- a value as it is read now: a frozen tree, or a list or an object that may change -/
inductive RepR (K : PySem.W.Frag) (F H : Hp) : V → D → Prop
  | fz {v : V} {d : D} : Rep K F v d → RepR K F H v d
  | cl {a : Addr} {vs : List V} {xs : List D} : H a = some (.lst vs) → RepL K F vs xs → RepR K F H (.ref a) (.lst xs)
  | ci {a C dx : Addr} {ns : List Str} {vs : List V} {ds : List D} : H a = some (.ins C dx (ns.zip vs)) → ns.length = vs.length → RepL K F vs ds → RepR K F H (.ref a) (.ins C ns ds)
theorem look_rep {K : PySem.W.Frag} {F : Hp} {v : V} {d : D} (S : SS) (h : Rep K F v d) : look S d = d := by
  cases h <;> rfl
theorem look_cel {S : SS} {i : Nat} {o : Bool} {k : Cell} (h : S[i]? = some (some (Sl.c o k))) : look S (.cel i) = k.d := by
  show (match S[i]? with
    | some (some (.c _ k)) => k.d
    | _ => .cel i) = k.d
  rw [h]
theorem RepW.look {K : PySem.W.Frag} {g : Gd} {F H : Hp} {σ : St} {S : SS} {v : V} {d : D} (r : RS K g F H σ S) (h : RepW K F σ S v d) : RepR K F H v (look S d) := by
  obtain ⟨fp, r⟩ := r
  rcases h with h | ⟨i, o, k, e, hv, hs⟩
  · rw [look_rep S h]
    exact .fz h
  · subst e
    obtain ⟨a, ha, hc, _⟩ := r.cel i o k hs
    rw [hv] at ha
    cases ha
    rw [look_cel hs]
    cases k with
    | lst xs =>
      obtain ⟨_, vs, q, rl⟩ := hc
      exact .cl q rl
    | ins C ns ds =>
      obtain ⟨_, dx, vs, q, l, rl⟩ := hc
      exact .ci q l rl
theorem RepW.mono {K : PySem.W.Frag} {F F' : Hp} {σ : St} {S S' : SS} {v : V} {d : D} (h : RepW K F σ S v d) (e : Same F F') (hs : ∀ (i : Nat) (o : Bool) (k : Cell), S[i]? = some (some (Sl.c o k)) → ∃ k', S'[i]? = some (some (Sl.c o k'))) : RepW K F' σ S' v d := by
  rcases h with h | ⟨i, o, k, e1, hv, hk⟩
  · exact .inl (h.mono e)
  · obtain ⟨k', hk'⟩ := hs i o k hk
    exact .inr ⟨i, o, k', e1, hv, hk'⟩

/-! ### the lifted readings -/
/-- an exception: its class, its fields (by name) -/
abbrev XR := Value → List (Str × D) → SS → Prop
abbrev LT := SS → (D → SS → Prop) → XR → Prop
abbrev LTs := SS → (List D → SS → Prop) → XR → Prop
abbrev LTT := SS → (Bool → SS → Prop) → XR → Prop
/-- how an exception's own dict lies -/
def XRep (K : PySem.W.Frag) (F : Hp) : Option Addr → List (Str × D) → Prop
  | none, fs => fs = []
  | some a, fs => ∃ vs : List V, F a = some (.xd ((fs.map (·.1)).zip vs)) ∧ RepL K F vs (fs.map (·.2))
/-- cells stay cells -/
def CS (S S' : SS) : Prop := S'.length = S.length ∧ ∀ i : Nat, (∀ d : D, S[i]? = some (some (Sl.v d)) → S'[i]? = some (some (Sl.v d))) ∧ (∀ (o : Bool) (k : Cell), S[i]? = some (some (Sl.c o k)) → ∃ k', S'[i]? = some (some (Sl.c o k'))) ∧ (S[i]? = some none → S'[i]? = some none)
theorem CS.refl (S : SS) : CS S S := ⟨rfl, fun _ => ⟨fun _ h => h, fun _ k h => ⟨k, h⟩, fun h => h⟩⟩
theorem CS.trans {S S1 S2 : SS} (a : CS S S1) (b : CS S1 S2) : CS S S2 := ⟨b.1.trans a.1, fun i => ⟨fun d h => (b.2 i).1 d ((a.2 i).1 d h), fun o k h => by
  obtain ⟨k1, h1⟩ := (a.2 i).2.1 o k h
  exact (b.2 i).2.1 o k1 h1, fun h => (b.2 i).2.2 ((a.2 i).2.2 h)⟩⟩
def CQ (K : PySem.W.Frag) (g : Gd) (σ : St) (F : Hp) (S : SS) (Q : D → SS → Prop) (Q' : VK) : Prop :=
  ∀ d S' v H' F', Q d S' → CS S S' → Same F F' → RS K g F' H' σ S' → RepW K F' σ S' v d → Q' v H'
def CQs (K : PySem.W.Frag) (g : Gd) (σ : St) (F : Hp) (S : SS) (Q : List D → SS → Prop) (Q' : List V → Hp → Prop) : Prop :=
  ∀ ds S' vs H' F', Q ds S' → CS S S' → Same F F' → RS K g F' H' σ S' → Paired (RepW K F' σ S') vs ds → Q' vs H'
def CQT (K : PySem.W.Frag) (g : Gd) (σ : St) (F : Hp) (S : SS) (Q : Bool → SS → Prop) (Q' : Bool → Hp → Prop) : Prop :=
  ∀ b S' H' F', Q b S' → CS S S' → Same F F' → RS K g F' H' σ S' → Q' b H'
def CX3 (K : PySem.W.Frag) (g : Gd) (σ : St) (F : Hp) (S : SS) (R : XR) (E : WX) : Prop :=
  ∀ c fs S' dx H' F', R c fs S' → CS S S' → Same F F' → RS K g F' H' σ S' → XRep K F' dx fs → E c dx σ H'
def Lf (K : PySem.W.Frag) (E : WX) (t : TE) (T : LT) : Prop :=
  ∀ (g : Gd) (σ : St) (H F : Hp) (S : SS) (Q : D → SS → Prop) (R : XR) (Q' : VK), RS K g F H σ S → T S Q R → CQ K g σ F S Q Q' → CX3 K g σ F S R E → t σ H Q'
def LfA (K : PySem.W.Frag) (E : WX) (t : TA) (T : LTs) : Prop :=
  ∀ (g : Gd) (σ : St) (H F : Hp) (S : SS) (Q : List D → SS → Prop) (R : XR) (Q' : List V → Hp → Prop), RS K g F H σ S → T S Q R → CQs K g σ F S Q Q' → CX3 K g σ F S R E → t σ H Q'
def LfT (K : PySem.W.Frag) (E : WX) (t : TT) (T : LTT) : Prop :=
  ∀ (g : Gd) (σ : St) (H F : Hp) (S : SS) (Q : Bool → SS → Prop) (R : XR) (Q' : Bool → Hp → Prop), RS K g F H σ S → T S Q R → CQT K g σ F S Q Q' → CX3 K g σ F S R E → t σ H Q'
theorem CX3.step {K : PySem.W.Frag} {g : Gd} {σ : St} {F F' : Hp} {S S' : SS} {R : XR} {E : WX} (h : CX3 K g σ F S R E) (c : CS S S') (e : Same F F') : CX3 K g σ F' S' R E :=
  fun cl fs S2 dx H2 F2 q c2 e2 r x => h cl fs S2 dx H2 F2 q (c.trans c2) (e.trans e2) r x
theorem CQ.step {K : PySem.W.Frag} {g : Gd} {σ : St} {F F' : Hp} {S S' : SS} {Q : D → SS → Prop} {Q' : VK} (h : CQ K g σ F S Q Q') (c : CS S S') (e : Same F F') : CQ K g σ F' S' Q Q' :=
  fun d S2 v H2 F2 q c2 e2 r x => h d S2 v H2 F2 q (c.trans c2) (e.trans e2) r x
theorem RepW.step {K : PySem.W.Frag} {F F' : Hp} {σ : St} {S S' : SS} {v : V} {d : D} (h : RepW K F σ S v d) (c : CS S S') (e : Same F F') : RepW K F' σ S' v d :=
  h.mono e fun i o k hk => (c.2 i).2.1 o k hk

structure LE (X : Cx) (E : WX) (e : Expr) (t : TE) (T : LT) : Prop where
  pe : PE X e t
  lf : Lf X.K E t T
structure LTt (X : Cx) (E : WX) (e : Expr) (t : TT) (T : LTT) : Prop where
  pt : PT X e t
  lf : LfT X.K E t T
structure LA (X : Cx) (E : WX) (es : List Expr) (t : TA) (T : LTs) : Prop where
  pa : PA X es t
  lf : LfA X.K E t T

/-! ### a new object, by RS -/
section
variable {K : PySem.W.Frag} {g : Gd} {F H : Hp} {σ : St} {S : SS} {p : Addr} {o : HO}
theorem RS.new (r : RS K g F H σ S) (hp : H p = none) (no : ∀ ps, o ≠ .tbl ps := by exact fun _ h => (nomatch h)) : RS K g (upd F p o) (upd H p o) σ S := by
  obtain ⟨fp, r⟩ := r
  have fn : ∀ b, H b ≠ none → b ≠ p := fun b h z => h (by rw [z]; exact hp)
  have fF : F p = none := Same.free r.fh hp
  refine ⟨fp, fun b u e => ?_, fun b u e => ?_, fun b hb => ?_, fun i d h => ?_, fun i ow k h => ?_, r.ap, r.len, r.lent, r.nl, ⟨tabs_new r.tb.t hp, noTbl_upd r.tb.f no, r.tb.g, code_new r.tb.c⟩⟩
  · by_cases hb : b = p
    · rw [hb, upd_same] at e ⊢; exact e
    · rw [upd_ne hb] at e ⊢; exact r.fh _ _ e
  · have e' := r.gf b u e
    rw [upd_ne (fn b (by rw [e']; simp))]; exact e'
  · obtain ⟨h1, h2⟩ := r.nb b hb
    have := fn b h2
    rw [upd_ne this, upd_ne this]; exact ⟨h1, h2⟩
  · obtain ⟨v, hv, hr⟩ := r.val i d h
    exact ⟨v, hv, hr.mono (sameNew fF)⟩
  · obtain ⟨a, ha, hc, hf⟩ := r.cel i ow k h
    refine ⟨a, ha, hc.mono (sameNew fF) fun b hb u q => ?_, fun b hb => ?_⟩
    · rw [upd_ne (fn b (by rw [q]; simp))]; exact q
    · rw [upd_ne (fn b (hc.live b hb))]; exact hf b hb
theorem RS.free (r : RS K g F H σ S) (hp : H p = none) : F p = none := by
  obtain ⟨fp, r⟩ := r
  exact Same.free r.fh hp
structure Ent (K : PySem.W.Frag) (F H : Hp) : Prop where
  sm : Same F H
  tb : TB0 K F H
theorem RSf.ent {fp : Nat → List Addr} (r : RSf K g F H σ S fp) : Ent K F H := ⟨r.fh, r.tb.t, r.tb.f, r.tb.c⟩
theorem RS.ent (r : RS K g F H σ S) : Ent K F H := by
  obtain ⟨fp, r⟩ := r
  exact r.ent
theorem RS.fh' (r : RS K g F H σ S) : Same F H := by
  obtain ⟨fp, r⟩ := r
  exact r.fh
end
end L3
set_option linter.all false
set_option maxRecDepth 100000
set_option maxHeartbeats 4000000
/-! L3, part B: lifted rules of expressions. -/
namespace L3
open PySem L2
section
variable {K : PySem.W.Frag} {g : Gd} {E : WX} {F H : Hp} {σ : St} {S : SS}

/-! ### reading a value's form -/
theorem RepR.intI {v : V} {i : Int} (h : RepR K F H v (.int i)) : v = .int i := by
  cases h with | fz h => cases h; rfl
theorem RepR.blI {v : V} {b : Bool} (h : RepR K F H v (.bl b)) : v = .bl b := by
  cases h with | fz h => cases h; rfl
theorem RepR.strI {v : V} {x : Str} (h : RepR K F H v (.str x)) : v = .str x := by
  cases h with | fz h => cases h; rfl
theorem RepR.nonI {v : V} (h : RepR K F H v .non) : v = .non := by
  cases h with | fz h => cases h; rfl
theorem RepR.tupI {v : V} {ds : List D} (h : RepR K F H v (.tup ds)) (e : Same F H) : ∃ a vs, v = .ref a ∧ SqT K H a vs ∧ RepL K F vs ds := by
  cases h with
  | fz h =>
    cases h with | tup h r => exact ⟨_, _, rfl, sameT e h, r⟩
theorem RepR.lsfI {v : V} {ds : List D} (h : RepR K F H v (.lsf ds)) (e : Same F H) : ∃ a vs, v = .ref a ∧ SqL K H a vs ∧ RepL K F vs ds := by
  cases h with
  | fz h =>
    cases h with | lsf h r => exact ⟨_, _, rfl, Same.seq e h, r⟩
theorem RepR.tupF {v : V} {ds : List D} (h : RepR K F H v (.tup ds)) : Rep K F v (.tup ds) := by
  cases h with | fz h => exact h
theorem RepR.lstI {v : V} {ds : List D} (h : RepR K F H v (.lst ds)) (e : Same F H) : ∃ a vs, v = .ref a ∧ H a = some (.lst vs) ∧ RepL K F vs ds := by
  cases h with
  | fz h =>
    cases h with | lst h r => exact ⟨_, _, rfl, e _ _ h, r⟩
  | cl h r => exact ⟨_, _, rfl, h, r⟩

/-! ### what an operation hands on -/
/-- the end of an operation: nothing but new objects -/
def OQ (K : PySem.W.Frag) (g : Gd) (F : Hp) (σ : St) (S : SS) (P : D → Prop) (Q' : VK) : Prop :=
  ∀ d v H' F', P d → Same F F' → RS K g F' H' σ S → Rep K F' v d → Q' v H'
theorem OQ.val {P : D → Prop} {Q' : VK} (q : OQ K g F σ S P Q') (r : RS K g F H σ S) {d : D} {v : V} (p : P d) (h : Rep K F v d) : Q' v H :=
  q d v H F p (Same.refl F) r h
theorem OQ.tup {P : D → Prop} {Q' : VK} (q : OQ K g F σ S P Q') (r : RS K g F H σ S) {ds : List D} {vs : List V} (p : P (.tup ds)) (h : RepL K F vs ds) : ∀ a, H a = none → Q' (.ref a) (upd H a (.tup vs)) := fun a ha =>
  q _ _ _ _ p (sameNew (r.free ha)) (r.new ha) (.tup (SqT.of upd_same) (h.mono (sameNew (r.free ha))))
theorem OQ.lst {P : D → Prop} {Q' : VK} (q : OQ K g F σ S P Q') (r : RS K g F H σ S) {ds : List D} {vs : List V} (p : P (.lst ds)) (h : RepL K F vs ds) : ∀ a, H a = none → Q' (.ref a) (upd H a (.lst vs)) := fun a ha =>
  q _ _ _ _ p (sameNew (r.free ha)) (r.new ha) (.lst upd_same (h.mono (sameNew (r.free ha))))

/-! ### names, constants -/
@[simp] def lVar (i : Nat) : LT := fun S Q _ => match S[i]? with
  | some (some (.v d)) => Q d S
  | some (some (.c _ _)) => Q (.cel i) S
  | _ => False
theorem lf_var {i : Nat} : Lf K E (tVar i) (lVar i) := by
  intro g σ H F S Q R Q' rs h hq hx
  obtain ⟨fp, r⟩ := id rs
  unfold lVar at h
  split at h
  · rename_i d e
    obtain ⟨v, hv, rep⟩ := r.val i d e
    exact ⟨v, hv, hq d S v H F h (CS.refl S) (Same.refl F) rs (.inl rep)⟩
  · rename_i o k e
    obtain ⟨a, ha, hc, _⟩ := r.cel i o k e
    exact ⟨.ref a, ha, hq (.cel i) S _ H F h (CS.refl S) (Same.refl F) rs (.inr ⟨i, o, k, rfl, ha, e⟩)⟩
  · exact h.elim
@[simp] def lC (d : D) : LT := fun S Q _ => Q d S
theorem lf_c {d : D} {v : V} (hr : ∀ F, Rep K F v d) : Lf K E (tC v) (lC d) := by
  intro g σ H F S Q R Q' rs h hq hx
  exact hq d S v H F h (CS.refl S) (Same.refl F) rs (.inl (hr F))

/-! ### two values -/
/-- a D-level operation: of two values -/
abbrev D2 := D → D → (D → Prop) → Prop
def OpL (K : PySem.W.Frag) (r : R2) (f : D2) : Prop := ∀ (g : Gd) (F H : Hp) (σ : St) (S : SS) (v1 v2 : V) (d1 d2 : D) (P : D → Prop) (Q' : VK),
  RS K g F H σ S → RepR K F H v1 d1 → RepR K F H v2 d2 → f d1 d2 P → OQ K g F σ S P Q' → r v1 v2 H Q'
@[simp] def lBin (f : D2) (Ta Tb : LT) : LT := fun S Q R => Ta S (fun x S1 => Tb S1 (fun y S2 => f (look S2 x) (look S2 y) fun z => Q z S2) R) R
theorem lf_bin {r : R2} {f : D2} {ta tb : TE} {Ta Tb : LT} (hl : OpL K r f) (ha : Lf K E ta Ta) (hb : Lf K E tb Tb) : Lf K E (tOp r ta tb) (lBin f Ta Tb) := by
  intro g σ H F S Q R Q' rs h hq hx
  refine ha g σ H F S _ R _ rs h (fun x S1 v1 H1 F1 h1 c1 e1 r1 w1 => ?_) hx
  refine hb g σ H1 F1 S1 _ R _ r1 h1 (fun y S2 v2 H2 F2 h2 c2 e2 r2 w2 => ?_) (hx.step c1 e1)
  exact hl g F2 H2 σ S2 v1 v2 _ _ _ _ r2 ((w1.step c2 e2).look r2) (w2.look r2) h2 fun d v H' F' p e r q => hq d S2 v H' F' p (c1.trans c2) (e1.trans (e2.trans e)) r (.inl q)
/-- one value -/
abbrev D1 := D → (D → Prop) → Prop
def UnL (K : PySem.W.Frag) (r : V → Hp → VK → Prop) (f : D1) : Prop := ∀ (g : Gd) (F H : Hp) (σ : St) (S : SS) (v : V) (d : D) (P : D → Prop) (Q' : VK),
  RS K g F H σ S → RepR K F H v d → f d P → OQ K g F σ S P Q' → r v H Q'
@[simp] def lUn (f : D1) (Ta : LT) : LT := fun S Q R => Ta S (fun x S1 => f (look S1 x) fun z => Q z S1) R
theorem lf_un {r : V → Hp → VK → Prop} {f : D1} {ta : TE} {Ta : LT} (hl : UnL K r f) (ha : Lf K E ta Ta) : Lf K E (tUn r ta) (lUn f Ta) := by
  intro g σ H F S Q R Q' rs h hq hx
  refine ha g σ H F S _ R _ rs h (fun x S1 v1 H1 F1 h1 c1 e1 r1 w1 => ?_) hx
  exact hl g F1 H1 σ S1 v1 _ _ _ r1 (w1.look r1) h1 fun d v H' F' p e r q => hq d S1 v H' F' p c1 (e1.trans e) r (.inl q)
/-- many values -/
abbrev DN := List D → (D → Prop) → Prop
def CallL (K : PySem.W.Frag) (r : List V → Hp → VK → Prop) (f : DN) : Prop := ∀ (g : Gd) (F H : Hp) (σ : St) (S : SS) (vs : List V) (ds : List D) (P : D → Prop) (Q' : VK),
  RS K g F H σ S → Paired (RepR K F H) vs ds → f ds P → OQ K g F σ S P Q' → r vs H Q'
@[simp] def lCB (f : DN) (Ta : LTs) : LT := fun S Q R => Ta S (fun xs S1 => f (xs.map (look S1)) fun z => Q z S1) R
theorem paired_look {r : RS K g F H σ S} : ∀ {vs : List V} {ds : List D}, Paired (RepW K F σ S) vs ds → Paired (RepR K F H) vs (ds.map (look S))
  | _, _, .nil => .nil
  | _, _, .cons h t => .cons (h.look r) (paired_look (r := r) t)
theorem lf_cb {r : List V → Hp → VK → Prop} {f : DN} {ta : TA} {Ta : LTs} (hl : CallL K r f) (ha : LfA K E ta Ta) : Lf K E (tCB r ta) (lCB f Ta) := by
  intro g σ H F S Q R Q' rs h hq hx
  refine ha g σ H F S _ R _ rs h (fun xs S1 vs H1 F1 h1 c1 e1 r1 w1 => ?_) hx
  exact hl g F1 H1 σ S1 vs _ _ _ r1 (paired_look (r := r1) w1) h1 fun d v H' F' p e r q => hq d S1 v H' F' p c1 (e1.trans e) r (.inl q)
@[simp] def lNil : LTs := fun S Q _ => Q [] S
@[simp] def lCons (Ta : LT) (Tr : LTs) : LTs := fun S Q R => Ta S (fun x S1 => Tr S1 (fun xs S2 => Q (x :: xs) S2) R) R
theorem lfa_nil : LfA K E tNil lNil := by
  intro g σ H F S Q R Q' rs h hq hx
  exact hq [] S [] H F h (CS.refl S) (Same.refl F) rs .nil
theorem lfa_cons {ta : TE} {t : TA} {Ta : LT} {T : LTs} (ha : Lf K E ta Ta) (hr : LfA K E t T) : LfA K E (tCons ta t) (lCons Ta T) := by
  intro g σ H F S Q R Q' rs h hq hx
  refine ha g σ H F S _ R _ rs h (fun x S1 v1 H1 F1 h1 c1 e1 r1 w1 => ?_) hx
  refine hr g σ H1 F1 S1 _ R _ r1 h1 (fun xs S2 vs H2 F2 h2 c2 e2 r2 w2 => ?_) (hx.step c1 e1)
  exact hq _ S2 _ H2 F2 h2 (c1.trans c2) (e1.trans e2) r2 (.cons (w1.step c2 e2) w2)
/-- values into a tree: a cell can't be put into another object -/
def frozenD : List D → Bool
  | [] => true
  | .cel _ :: _ => false
  | _ :: r => frozenD r
theorem repL_of : ∀ {vs : List V} {ds : List D}, Paired (RepW K F σ S) vs ds → frozenD ds = true → RepL K F vs ds
  | _, _, .nil, _ => .nil
  | _, _, .cons (b := d) h t, e => by
    rcases h with h | ⟨i, o, k, q, _⟩
    · refine .cons h (repL_of t ?_)
      cases d <;> first | exact e | (cases h)
    · subst q; cases e
@[simp] def lTup (Ta : LTs) : LT := fun S Q R => Ta S (fun xs S1 => frozenD xs = true ∧ xs.length ≤ sizeLine ∧ Q (.tup xs) S1) R
@[simp] def lLst (Ta : LTs) : LT := fun S Q R => Ta S (fun xs S1 => frozenD xs = true ∧ xs.length ≤ sizeLine ∧ Q (.lst xs) S1) R
theorem lf_tup {ta : TA} {Ta : LTs} (ha : LfA K E ta Ta) : Lf K E (tTup ta) (lTup Ta) := by
  intro g σ H F S Q R Q' rs h hq hx
  refine ha g σ H F S _ R _ rs h (fun xs S1 vs H1 F1 h1 c1 e1 r1 w1 => ?_) hx
  obtain ⟨hf, hz, h1⟩ := h1
  have rl := repL_of w1 hf
  refine ⟨by rw [rl.length]; exact hz, fun p hp => ?_⟩
  exact hq _ S1 _ _ (upd F1 p (.tup vs)) h1 c1 (e1.trans (sameNew (r1.free hp))) (r1.new hp) (.inl (.tup (SqT.of upd_same) (rl.mono (sameNew (r1.free hp)))))
theorem lf_lst {ta : TA} {Ta : LTs} (ha : LfA K E ta Ta) : Lf K E (tLst ta) (lLst Ta) := by
  intro g σ H F S Q R Q' rs h hq hx
  refine ha g σ H F S _ R _ rs h (fun xs S1 vs H1 F1 h1 c1 e1 r1 w1 => ?_) hx
  obtain ⟨hf, hz, h1⟩ := h1
  have rl := repL_of w1 hf
  refine ⟨by rw [rl.length]; exact hz, fun p hp => ?_⟩
  exact hq _ S1 _ _ (upd F1 p (.lst vs)) h1 c1 (e1.trans (sameNew (r1.free hp))) (r1.new hp) (.inl (.lst upd_same (rl.mono (sameNew (r1.free hp)))))

/-! ### truth, tests -/
@[simp] def truD : D → (Bool → Prop) → Prop
  | .non, P => P false
  | .bl b, P => P b
  | .int i, P => P (i != 0)
  | .str y, P => y.length ≤ sizeLine ∧ P ((y.length : Int) != 0)
  | .tup xs, P => P (!xs.isEmpty)
  | .lst xs, P => P (!xs.isEmpty)
  | .lsf xs, P => P (!xs.isEmpty)
  | .edc, P => P false
  | _, _ => False
theorem RepL.empty {vs : List V} {ds : List D} (h : RepL K F vs ds) : vs.isEmpty = ds.isEmpty := by
  cases h <;> rfl
theorem tru_of {v : V} {d : D} {P : Bool → Prop} (e : Same F H) (h : RepR K F H v d) (p : truD d P) : ∃ k, TruV K v H k ∧ P k := by
  cases h with
  | fz h =>
    cases h with
    | non => exact ⟨_, rfl, p⟩
    | bl b => exact ⟨_, rfl, p⟩
    | int i => exact ⟨_, rfl, p⟩
    | str x => exact ⟨_, ⟨p.1, rfl⟩, p.2⟩
    | tup h r => exact ⟨_, .inr (.inl ⟨_, sameT e h, rfl⟩), by rw [r.empty]; exact p⟩
    | lst h r => exact ⟨_, .inl ⟨_, SqL.of (e _ _ h), rfl⟩, by rw [r.empty]; exact p⟩
    | lsf h r => exact ⟨_, .inl ⟨_, Same.seq e h, rfl⟩, by rw [r.empty]; exact p⟩
    | edc h => exact ⟨false, .inr (.inr ⟨_, e _ _ h, rfl⟩), p⟩
    | ins _ _ _ => exact p.elim
    | fn _ => exact p.elim
    | ty _ => exact p.elim
    | exc _ _ _ => exact p.elim
    | clo _ => exact p.elim
  | cl h r => exact ⟨_, .inl ⟨_, SqL.of h, rfl⟩, by rw [r.empty]; exact p⟩
  | ci _ _ _ => exact p.elim
@[simp] def lTru (Ta : LT) : LTT := fun S Q R => Ta S (fun x S1 => truD (look S1 x) fun k => Q k S1) R
theorem lft_tru {ta : TE} {Ta : LT} (ha : Lf K E ta Ta) : LfT K E (fun σ H Q => ta σ H fun x H' => ∃ k, TruV K x H' k ∧ Q k H') (lTru Ta) := by
  intro g σ H F S Q R Q' rs h hq hx
  refine ha g σ H F S _ R _ rs h (fun x S1 v1 H1 F1 h1 c1 e1 r1 w1 => ?_) hx
  obtain ⟨k, hk, p⟩ := tru_of r1.fh' (w1.look r1) h1
  exact ⟨k, hk, hq k S1 H1 F1 p c1 e1 r1⟩
/-- an expression that gives a truth -/
@[simp] def lTst (Ta : LT) : LTT := fun S Q R => Ta S (fun x S1 => match look S1 x with
  | .bl k => Q k S1
  | _ => False) R
theorem lft_tst {ta : TE} {Ta : LT} (ha : Lf K E ta Ta) : LfT K E (tTest ta) (lTst Ta) := by
  intro g σ H F S Q R Q' rs h hq hx
  refine ha g σ H F S _ R _ rs h (fun x S1 v1 H1 F1 h1 c1 e1 r1 w1 => ?_) hx
  have w := w1.look r1
  split at h1
  · rename_i k e
    rw [e] at w
    exact ⟨k, w.blI, hq k S1 H1 F1 h1 c1 e1 r1⟩
  · exact h1.elim
@[simp] def lAnd (Ta Tb : LTT) : LTT := fun S Q R => Ta S (fun k S1 => if k = true then Tb S1 Q R else Q false S1) R
@[simp] def lOr (Ta Tb : LTT) : LTT := fun S Q R => Ta S (fun k S1 => if k = true then Q true S1 else Tb S1 Q R) R
@[simp] def lNot (Ta : LTT) : LTT := fun S Q R => Ta S (fun k S1 => Q (!k) S1) R
theorem CQT.step {F' : Hp} {S' : SS} {Q : Bool → SS → Prop} {Q' : Bool → Hp → Prop} (h : CQT K g σ F S Q Q') (c : CS S S') (e : Same F F') : CQT K g σ F' S' Q Q' :=
  fun d S2 H2 F2 q c2 e2 r => h d S2 H2 F2 q (c.trans c2) (e.trans e2) r
theorem lft_and {ta tb : TT} {Ta Tb : LTT} (ha : LfT K E ta Ta) (hb : LfT K E tb Tb) : LfT K E (tAnd ta tb) (lAnd Ta Tb) := by
  intro g σ H F S Q R Q' rs h hq hx
  refine ha g σ H F S _ R _ rs h (fun k S1 H1 F1 h1 c1 e1 r1 => ?_) hx
  cases k with
  | true => exact hb g σ H1 F1 S1 Q R Q' r1 h1 (hq.step c1 e1) (hx.step c1 e1)
  | false => exact hq false S1 H1 F1 h1 c1 e1 r1
theorem lft_or {ta tb : TT} {Ta Tb : LTT} (ha : LfT K E ta Ta) (hb : LfT K E tb Tb) : LfT K E (tOr ta tb) (lOr Ta Tb) := by
  intro g σ H F S Q R Q' rs h hq hx
  refine ha g σ H F S _ R _ rs h (fun k S1 H1 F1 h1 c1 e1 r1 => ?_) hx
  cases k with
  | false => exact hb g σ H1 F1 S1 Q R Q' r1 h1 (hq.step c1 e1) (hx.step c1 e1)
  | true => exact hq true S1 H1 F1 h1 c1 e1 r1
theorem lft_not {ta : TT} {Ta : LTT} (ha : LfT K E ta Ta) : LfT K E (tNot ta) (lNot Ta) := by
  intro g σ H F S Q R Q' rs h hq hx
  exact ha g σ H F S _ R _ rs h (fun k S1 H1 F1 h1 c1 e1 r1 => hq (!k) S1 H1 F1 h1 c1 e1 r1) hx
/-- and, or, not as values -/
@[simp] def lOrV (Ta Tb : LT) : LT := fun S Q R => Ta S (fun x S1 => truD (look S1 x) fun k => if k = true then Q x S1 else Tb S1 Q R) R
@[simp] def lAndV (Ta Tb : LT) : LT := fun S Q R => Ta S (fun x S1 => truD (look S1 x) fun k => if k = true then Tb S1 Q R else Q x S1) R
@[simp] def lNotV (Ta : LT) : LT := fun S Q R => Ta S (fun x S1 => truD (look S1 x) fun k => Q (.bl (!k)) S1) R
theorem lf_orV {ta tb : TE} {Ta Tb : LT} (ha : Lf K E ta Ta) (hb : Lf K E tb Tb) : Lf K E (tOrT K ta tb) (lOrV Ta Tb) := by
  intro g σ H F S Q R Q' rs h hq hx
  refine ha g σ H F S _ R _ rs h (fun x S1 v1 H1 F1 h1 c1 e1 r1 w1 => ?_) hx
  obtain ⟨k, hk, p⟩ := tru_of r1.fh' (w1.look r1) h1
  refine ⟨k, hk, ?_⟩
  cases k with
  | true => exact hq x S1 v1 H1 F1 p c1 e1 r1 w1
  | false => exact hb g σ H1 F1 S1 Q R Q' r1 p (hq.step c1 e1) (hx.step c1 e1)
theorem lf_andV {ta tb : TE} {Ta Tb : LT} (ha : Lf K E ta Ta) (hb : Lf K E tb Tb) : Lf K E (tAndT K ta tb) (lAndV Ta Tb) := by
  intro g σ H F S Q R Q' rs h hq hx
  refine ha g σ H F S _ R _ rs h (fun x S1 v1 H1 F1 h1 c1 e1 r1 w1 => ?_) hx
  obtain ⟨k, hk, p⟩ := tru_of r1.fh' (w1.look r1) h1
  refine ⟨k, hk, ?_⟩
  cases k with
  | false => exact hq x S1 v1 H1 F1 p c1 e1 r1 w1
  | true => exact hb g σ H1 F1 S1 Q R Q' r1 p (hq.step c1 e1) (hx.step c1 e1)
theorem lf_notV {ta : TE} {Ta : LT} (ha : Lf K E ta Ta) : Lf K E (tNotT K ta) (lNotV Ta) := by
  intro g σ H F S Q R Q' rs h hq hx
  refine ha g σ H F S _ R _ rs h (fun x S1 v1 H1 F1 h1 c1 e1 r1 w1 => ?_) hx
  obtain ⟨k, hk, p⟩ := tru_of r1.fh' (w1.look r1) h1
  exact ⟨k, hk, hq _ S1 _ H1 F1 p c1 e1 r1 (.inl (.bl _))⟩
@[simp] def lIf (Tc : LTT) (Ta Tb : LT) : LT := fun S Q R => Tc S (fun k S1 => if k = true then Ta S1 Q R else Tb S1 Q R) R
theorem lf_if {tc : TT} {ta tb : TE} {Tc : LTT} {Ta Tb : LT} (hc : LfT K E tc Tc) (ha : Lf K E ta Ta) (hb : Lf K E tb Tb) : Lf K E (tIf tc ta tb) (lIf Tc Ta Tb) := by
  intro g σ H F S Q R Q' rs h hq hx
  refine hc g σ H F S _ R _ rs h (fun k S1 H1 F1 h1 c1 e1 r1 => ?_) hx
  cases k with
  | true => exact ha g σ H1 F1 S1 Q R Q' r1 h1 (hq.step c1 e1) (hx.step c1 e1)
  | false => exact hb g σ H1 F1 S1 Q R Q' r1 h1 (hq.step c1 e1) (hx.step c1 e1)

/-! ### the operators -/
@[simp] def addD : D2 := fun x y P => match x, y with
  | .int i, .int j => P (.int (i + j))
  | .str a, .str b => a.length + b.length ≤ sizeLine ∧ P (.str (a ++ b))
  | .tup a, .tup b => a.length + b.length ≤ sizeLine ∧ P (.tup (a ++ b))
  | .lst a, .lst b => a.length + b.length ≤ sizeLine ∧ P (.lst (a ++ b))
  | _, _ => False
def rAddA (K : PySem.W.Frag) : R2 := fun x y H Q => (rI0 (fun i j => .int (i + j)) x y H Q ∨ (∃ i j, x = .str i ∧ y = .str j ∧ i.length + j.length ≤ sizeLine ∧ Q (.str (i ++ j)) H)) ∨ (rCatA K x y H Q ∨ rCat x y H Q)
theorem op_addA {X : Cx} : OpR X (binaryOp .Add) (rAddA X.K) := (op_add.or op_add_str).or (op_catA.or op_cat)
theorem opl_add : OpL K (rAddA K) addD := by
  intro g F H σ S v1 v2 d1 d2 P Q' r h1 h2 f q
  unfold addD at f
  split at f
  · rw [h1.intI, h2.intI]
    exact .inl (.inl ⟨_, _, rfl, rfl, q.val r f (.int _)⟩)
  · rw [h1.strI, h2.strI]
    exact .inl (.inr ⟨_, _, rfl, rfl, f.1, q.val r f.2 (.str _)⟩)
  · obtain ⟨a, vs, rfl, ha, ra⟩ := h1.tupI r.fh'
    obtain ⟨b, ws, rfl, hb, rb⟩ := h2.tupI r.fh'
    refine .inr (.inl ⟨a, b, vs, ws, rfl, rfl, ha, hb, by rw [ra.length, rb.length]; exact f.1, ?_⟩)
    have e1 := h1.tupF
    have e2 := h2.tupF
    refine ⟨fun z => ?_, fun _ z => ?_, fun _ _ => q.tup r f.2 (ra.append rb)⟩
    · subst z; cases ra; exact q.val r f.2 e2
    · subst z; cases rb; rw [List.append_nil] at f; exact q.val r f.2 e1
  · obtain ⟨a, vs, rfl, ha, ra⟩ := h1.lstI r.fh'
    obtain ⟨b, ws, rfl, hb, rb⟩ := h2.lstI r.fh'
    exact .inr (.inr ⟨a, b, vs, ws, rfl, rfl, ha, hb, by rw [ra.length, rb.length]; exact f.1, q.lst r f.2 (ra.append rb)⟩)
  · exact f.elim
@[simp] def lookI : D → D → (Int → Int → Prop) → Prop
  | .int i, .int j, P => P i j
  | _, _, _ => False
theorem lookI_of {v1 v2 : V} {d1 d2 : D} {P : Int → Int → Prop} (h1 : RepR K F H v1 d1) (h2 : RepR K F H v2 d2) (h : lookI d1 d2 P) : ∃ i j, d1 = .int i ∧ d2 = .int j ∧ v1 = .int i ∧ v2 = .int j ∧ P i j := by
  unfold lookI at h
  split at h
  · exact ⟨_, _, rfl, rfl, h1.intI, h2.intI, h⟩
  · exact h.elim
/-- ints, under a condition -/
@[simp] def intD (C : Int → Int → Prop) (f : Int → Int → D) : D2 := fun x y P => lookI x y fun i j => C i j ∧ P (f i j)
@[simp] def intD0 (f : Int → Int → D) : D2 := fun x y P => lookI x y fun i j => P (f i j)
theorem opl_int {C : Int → Int → Prop} {f : Int → Int → Int} : OpL K (rI C fun i j => .int (f i j)) (intD C fun i j => .int (f i j)) := by
  intro g F H σ S v1 v2 d1 d2 P Q' r h1 h2 h q
  obtain ⟨i, j, _, _, rfl, rfl, hc, p⟩ := lookI_of h1 h2 h
  exact ⟨i, j, rfl, rfl, hc, q.val r p (.int _)⟩
theorem opl_int0 {f : Int → Int → Int} : OpL K (rI0 fun i j => .int (f i j)) (intD0 fun i j => .int (f i j)) := by
  intro g F H σ S v1 v2 d1 d2 P Q' r h1 h2 h q
  obtain ⟨i, j, _, _, rfl, rfl, p⟩ := lookI_of h1 h2 h
  exact ⟨i, j, rfl, rfl, q.val r p (.int _)⟩
theorem opl_bool0 {f : Int → Int → Bool} : OpL K (rI0 fun i j => .bl (f i j)) (intD0 fun i j => .bl (f i j)) := by
  intro g F H σ S v1 v2 d1 d2 P Q' r h1 h2 h q
  obtain ⟨i, j, _, _, rfl, rfl, p⟩ := lookI_of h1 h2 h
  exact ⟨i, j, rfl, rfl, q.val r p (.bl _)⟩
@[simp] def subD : D2 := intD0 fun i j => .int (i - j)
@[simp] def modD : D2 := intD (fun _ j => 0 < j) fun i j => .int (i % j)
@[simp] def divD : D2 := intD CDivW fun i j => .int (i / j)
@[simp] def powD : D2 := intD CPow fun i j => .int (i ^ j.toNat)
@[simp] def ltD : D2 := intD0 fun i j => .bl (decide (i < j))
@[simp] def leD : D2 := intD0 fun i j => .bl (decide (i ≤ j))
@[simp] def gtD : D2 := intD0 fun i j => .bl (decide (j < i))
@[simp] def geD : D2 := intD0 fun i j => .bl (decide (j ≤ i))
end
end L3
set_option linter.all false
set_option maxRecDepth 100000
set_option maxHeartbeats 4000000
/-! L3, part C: subscripts, slices, built-ins, == and in, isinstance, repr. -/
namespace L3
open PySem L2
section
variable {K : PySem.W.Frag} {g : Gd} {E : WX} {F H : Hp} {σ : St} {S : SS}

/-! ### products -/
def rMulA : R2 := fun x y H Q => rI IntMulOk (fun i j => .int (i * j)) x y H Q ∨ rRep x y H Q
theorem op_mulA {X : Cx} : OpR X (binaryOp .Mult) rMulA := by
  refine OpR.or (fun pins s σ H x y v u Q I rx ry h => ?_) op_rep
  obtain ⟨i, j, rfl, rfl, hc, q⟩ := h
  obtain ⟨t, rfl⟩ := rx
  obtain ⟨t', rfl⟩ := ry
  exact PyProof.Rows.mul_int ⟨.int _, H, I.tok _, ⟨_, rfl⟩, q⟩ hc
/-- int * int, list * int -/
@[simp] def mulD : D2 := fun x y P => match x, y with
  | .int i, .int j => IntMulOk i j ∧ P (.int (i * j))
  | .lst a, .int k => (-(2 ^ 63) ≤ k ∧ k < 2 ^ 63 ∧ a.length * k.toNat ≤ sizeLine) ∧ P (.lst (List.replicate k.toNat a).flatten)
  | _, _ => False
theorem opl_mul : OpL K rMulA mulD := by
  intro g F H σ S v1 v2 d1 d2 P Q' r h1 h2 f q
  unfold mulD at f
  split at f
  · rw [h1.intI, h2.intI]
    exact .inl ⟨_, _, rfl, rfl, f.1, q.val r f.2 (.int _)⟩
  · obtain ⟨a, vs, rfl, ha, ra⟩ := h1.lstI r.fh'
    rw [h2.intI]
    exact .inr ⟨a, _, vs, rfl, rfl, ha, f.1.1, f.1.2.1, by rw [ra.length]; exact f.1.2.2, q.lst r f.2 (ra.rep _)⟩
  · exact f.elim

/-! ### subscripts -/
theorem RepL.atI {vs : List V} {ds : List D} {i : Int} {d : D} (h : RepL K F vs ds) (e : L2.atI ds i = some d) : ∃ v, L2.atI vs i = some v ∧ Rep K F v d := by
  unfold L2.atI at e ⊢
  rw [h.length]
  cases hj : ixN ds.length i with
  | none => rw [hj] at e; cases e
  | some j =>
    rw [hj] at e
    obtain ⟨v, h1, h2⟩ := h.get (i := j) (d := d) e
    exact ⟨v, h1, h2⟩
@[simp] def ixD : D2 := fun x y P => match y with
  | .int i => match x with
    | .tup xs => ∃ d, atI xs i = some d ∧ P d
    | .lst xs => ∃ d, atI xs i = some d ∧ P d
    | .lsf xs => ∃ d, atI xs i = some d ∧ P d
    | .str z => z.length ≤ sizeLine ∧ ∃ c, atI z.cps.toList i = some c ∧ P (.str ⟨#[c]⟩)
    | _ => False
  | _ => False
theorem opl_ix : OpL K (rIx K) ixD := by
  intro g F H σ S v1 v2 d1 d2 P Q' r h1 h2 f q
  unfold ixD at f
  split at f
  · rw [h2.intI]
    split at f
    · obtain ⟨a, vs, rfl, ha, ra⟩ := h1.tupI r.fh'
      obtain ⟨d, e, p⟩ := f
      obtain ⟨v, hv, rd⟩ := ra.atI e
      exact .inr (.inl ⟨a, vs, _, v, rfl, rfl, ha, hv, q.val r p rd⟩)
    · obtain ⟨a, vs, rfl, ha, ra⟩ := h1.lstI r.fh'
      obtain ⟨d, e, p⟩ := f
      obtain ⟨v, hv, rd⟩ := ra.atI e
      exact .inl ⟨a, vs, _, v, rfl, rfl, SqL.of ha, hv, q.val r p rd⟩
    · obtain ⟨a, vs, rfl, ha, ra⟩ := h1.lsfI r.fh'
      obtain ⟨d, e, p⟩ := f
      obtain ⟨v, hv, rd⟩ := ra.atI e
      exact .inl ⟨a, vs, _, v, rfl, rfl, ha, hv, q.val r p rd⟩
    · rw [h1.strI]
      obtain ⟨hz, c, e, p⟩ := f
      exact .inr (.inr ⟨_, _, c, rfl, rfl, hz, e, q.val r p (.str _)⟩)
    · exact f.elim
  · exact f.elim

/-! ### slices -/
abbrev LTO := SS → (Option Int → SS → Prop) → XR → Prop
def LfO (K : PySem.W.Frag) (E : WX) (t : TO) (T : LTO) : Prop :=
  ∀ (g : Gd) (σ : St) (H F : Hp) (S : SS) (Q : Option Int → SS → Prop) (R : XR) (Q' : Option Int → Hp → Prop), RS K g F H σ S → T S Q R →
    (∀ o S' H' F', Q o S' → CS S S' → Same F F' → RS K g F' H' σ S' → Q' o H') → CX3 K g σ F S R E → t σ H Q'
@[simp] def lNoPart : LTO := fun S Q _ => Q none S
@[simp] def lPart (T : LT) : LTO := fun S Q R => T S (fun x S1 => match look S1 x with
  | .int i => Q (some i) S1
  | _ => False) R
theorem lfo_none : LfO K E tNoPart lNoPart := by
  intro g σ H F S Q R Q' rs h hq hx
  exact hq none S H F h (CS.refl S) (Same.refl F) rs
theorem lfo_some {t : TE} {T : LT} (ha : Lf K E t T) : LfO K E (tPart t) (lPart T) := by
  intro g σ H F S Q R Q' rs h hq hx
  refine ha g σ H F S _ R _ rs h (fun x S1 v1 H1 F1 h1 c1 e1 r1 w1 => ?_) hx
  have w := w1.look r1
  split at h1
  · rename_i i e
    rw [e] at w
    exact ⟨i, w.intI, hq _ S1 H1 F1 h1 c1 e1 r1⟩
  · exact h1.elim
def cutD {α : Type} (xs : List α) (lo hi : Option Int) : List α := (xs.drop (HT.sIx xs.length 0 lo)).take (HT.sIx xs.length xs.length hi - HT.sIx xs.length 0 lo)
theorem RepL.cut {vs : List V} {ds : List D} (h : RepL K F vs ds) (lo hi : Option Int) : RepL K F (cutV vs lo hi) (cutD ds lo hi) := by
  unfold cutV cutD
  rw [h.length]
  exact (h.drop _).take _
@[simp] def slD (x : D) (lo hi : Option Int) (P : D → Prop) : Prop := match x with
  | .tup xs => P (.tup (cutD xs lo hi))
  | .lst xs => P (.lst (cutD xs lo hi))
  | .lsf xs => P (.lst (cutD xs lo hi))
  | .str z => z.length ≤ sizeLine ∧ P (.str (cutS z lo hi))
  | _ => False
def rSlD (K : PySem.W.Frag) : V → Option Int → Option Int → Hp → VK → Prop := fun x lo hi H Q => rSlA K x lo hi H Q ∨ (rSlL K x lo hi H Q ∨ rSlS x lo hi H Q)
theorem sl_D {X : Cx} : SlR X (rSlD X.K) := SlR.or sl_tupA (SlR.or sl_list sl_str)
@[simp] def lSl (Te : LT) (Tl Th : LTO) : LT := fun S Q R => Te S (fun x S1 => Tl S1 (fun lo S2 => Th S2 (fun hi S3 => slD (look S3 x) lo hi fun z => Q z S3) R) R) R
theorem cut_whole {α : Type} {xs : List α} {lo hi : Option Int} (h : HT.sIx xs.length 0 lo = 0 ∧ HT.sIx xs.length xs.length hi = xs.length) : cutD xs lo hi = xs := by
  unfold cutD
  rw [h.1, h.2]
  simp
theorem lf_sl {te : TE} {tl th : TO} {Te : LT} {Tl Th : LTO} (he : Lf K E te Te) (hl : LfO K E tl Tl) (hh : LfO K E th Th) : Lf K E (tSl (rSlD K) te tl th) (lSl Te Tl Th) := by
  intro g σ H F S Q R Q' rs h hq hx
  refine he g σ H F S _ R _ rs h (fun x S1 v1 H1 F1 h1 c1 e1 r1 w1 => ?_) hx
  refine hl g σ H1 F1 S1 _ R _ r1 h1 (fun lo S2 H2 F2 h2 c2 e2 r2 => ?_) (hx.step c1 e1)
  refine hh g σ H2 F2 S2 _ R _ r2 h2 (fun hi S3 H3 F3 h3 c3 e3 r3 => ?_) ((hx.step c1 e1).step c2 e2)
  have w := ((w1.step c2 e2).step c3 e3).look r3
  have oq : OQ K g F3 σ S3 (fun z => Q z S3) Q' := fun d v H' F' p e r q => hq d S3 v H' F' p ((c1.trans c2).trans c3) (((e1.trans e2).trans e3).trans e) r (.inl q)
  unfold slD at h3
  split at h3
  · rename_i xs ex
    rw [ex] at w
    obtain ⟨a, vs, rfl, ha, ra⟩ := w.tupI r3.fh'
    refine .inl ⟨a, vs, rfl, ha, fun hw => ?_, fun _ => oq.tup r3 h3 (ra.cut lo hi)⟩
    rw [ra.length] at hw
    rw [cut_whole hw] at h3
    exact oq.val r3 h3 w.tupF
  · rename_i xs ex
    rw [ex] at w
    obtain ⟨a, vs, rfl, ha, ra⟩ := w.lstI r3.fh'
    exact .inr (.inl ⟨a, vs, rfl, SqL.of ha, oq.lst r3 h3 (ra.cut lo hi)⟩)
  · rename_i xs ex
    rw [ex] at w
    obtain ⟨a, vs, rfl, ha, ra⟩ := w.lsfI r3.fh'
    exact .inr (.inl ⟨a, vs, rfl, ha, oq.lst r3 h3 (ra.cut lo hi)⟩)
  · rename_i z ex
    rw [ex] at w
    rw [w.strI]
    exact .inr (.inr ⟨_, rfl, h3.1, oq.val r3 h3.2 (.str _)⟩)
  · exact h3.elim

/-! ### built-ins of one or two values -/
theorem one_of {vs : List V} {d : D} (h : Paired (RepR K F H) vs [d]) : ∃ v, vs = [v] ∧ RepR K F H v d := by
  cases h with | cons h t => cases t; exact ⟨_, rfl, h⟩
theorem two_of {vs : List V} {d e : D} (h : Paired (RepR K F H) vs [d, e]) : ∃ v w, vs = [v, w] ∧ RepR K F H v d ∧ RepR K F H w e := by
  cases h with | cons h t => cases t with | cons h' t' => cases t'; exact ⟨_, _, rfl, h, h'⟩
@[simp] def on1 (f : D → (D → Prop) → Prop) : DN := fun ds P => match ds with
  | [d] => f d P
  | _ => False
@[simp] def on2 (f : D2) : DN := fun ds P => match ds with
  | [d, e] => f d e P
  | _ => False
theorem call1 {r : List V → Hp → VK → Prop} {f : D1} (h : ∀ (g : Gd) (F H : Hp) (σ : St) (S : SS) (v : V) (d : D) (P : D → Prop) (Q' : VK), RS K g F H σ S → RepR K F H v d → f d P → OQ K g F σ S P Q' → r [v] H Q') : CallL K r (on1 f) := by
  intro g F H σ S vs ds P Q' rs hp p q
  unfold on1 at p
  split at p
  · obtain ⟨v, rfl, hv⟩ := one_of hp
    exact h g F H σ S v _ P Q' rs hv p q
  · exact p.elim
theorem call2 {r : List V → Hp → VK → Prop} {f : D2} (h : ∀ (g : Gd) (F H : Hp) (σ : St) (S : SS) (v w : V) (d e : D) (P : D → Prop) (Q' : VK), RS K g F H σ S → RepR K F H v d → RepR K F H w e → f d e P → OQ K g F σ S P Q' → r [v, w] H Q') : CallL K r (on2 f) := by
  intro g F H σ S vs ds P Q' rs hp p q
  unfold on2 at p
  split at p
  · obtain ⟨v, w, rfl, hv, hw⟩ := two_of hp
    exact h g F H σ S v w _ _ P Q' rs hv hw p q
  · exact p.elim
@[simp] def lenD : D1 := fun x P => match x with
  | .tup xs => P (.int xs.length)
  | .lst xs => P (.int xs.length)
  | .lsf xs => P (.int xs.length)
  | .str z => z.length ≤ sizeLine ∧ P (.int z.length)
  | _ => False
def rLenA (K : PySem.W.Frag) : List V → Hp → VK → Prop := fun xs H Q => (∃ p ys, xs = [.ref p] ∧ (SqL K H p ys ∨ SqT K H p ys) ∧ Q (.int ys.length) H) ∨ (∃ z, xs = [.str z] ∧ z.length ≤ sizeLine ∧ Q (.int z.length) H)
theorem call_lenA {X : Cx} : CallR X (.builtin "len") (rLenA X.K) := call_len_seq.or call_len_str
theorem cl_len : CallL K (rLenA K) (on1 lenD) := call1 fun g F H σ S v d P Q' r h f q => by
  unfold lenD at f
  split at f
  · obtain ⟨a, vs, rfl, ha, ra⟩ := h.tupI r.fh'
    exact .inl ⟨a, vs, rfl, .inr ha, by rw [ra.length]; exact q.val r f (.int _)⟩
  · obtain ⟨a, vs, rfl, ha, ra⟩ := h.lstI r.fh'
    exact .inl ⟨a, vs, rfl, .inl (SqL.of ha), by rw [ra.length]; exact q.val r f (.int _)⟩
  · obtain ⟨a, vs, rfl, ha, ra⟩ := h.lsfI r.fh'
    exact .inl ⟨a, vs, rfl, .inl ha, by rw [ra.length]; exact q.val r f (.int _)⟩
  · rw [h.strI]
    exact .inr ⟨_, rfl, f.1, q.val r f.2 (.int _)⟩
  · exact f.elim
@[simp] def absD : D1 := fun x P => match x with
  | .int i => P (.int (if i < 0 then -i else i))
  | _ => False
theorem cl_abs : CallL K (fun xs H Q => ∃ i, xs = [.int i] ∧ Q (.int (if i < 0 then -i else i)) H) (on1 absD) := call1 fun g F H σ S v d P Q' r h f q => by
  unfold absD at f
  split at f
  · rw [h.intI]; exact ⟨_, rfl, q.val r f (.int _)⟩
  · exact f.elim
@[simp] def intD1 : D1 := fun x P => match x with
  | .int i => P (.int i)
  | .bl k => P (.int (if k then 1 else 0))
  | .str a => a.length ≤ 640 ∧ ∃ n, PySem.intText? a = some n ∧ P (.int n)
  | _ => False
def rIntA : List V → Hp → VK → Prop := fun xs H Q => ((∃ i, xs = [.int i] ∧ Q (.int i) H) ∨ ∃ k, xs = [.bl k] ∧ Q (.int (if k then 1 else 0)) H) ∨ ∃ a n, xs = [.str a] ∧ PySem.intText? a = some n ∧ a.length ≤ 640 ∧ Q (.int n) H
theorem call_intA {X : Cx} : CallR X (.type "int") rIntA := call_int1.or call_int_str
theorem cl_int : CallL K rIntA (on1 intD1) := call1 fun g F H σ S v d P Q' r h f q => by
  unfold intD1 at f
  split at f
  · rw [h.intI]; exact .inl (.inl ⟨_, rfl, q.val r f (.int _)⟩)
  · rw [h.blI]; exact .inl (.inr ⟨_, rfl, q.val r f (.int _)⟩)
  · rw [h.strI]
    obtain ⟨hz, n, e, p⟩ := f
    exact .inr ⟨_, n, rfl, e, hz, q.val r p (.int _)⟩
  · exact f.elim
def strD : D1 := fun x P => match x with
  | .int i => i.natAbs.log2 < 1920 ∧ P (.str (toString i))
  | _ => False
theorem cl_str : CallL K (fun xs H Q => ∃ i, xs = [.int i] ∧ i.natAbs.log2 < 1920 ∧ Q (.str (toString i)) H) (on1 strD) := call1 fun g F H σ S v d P Q' r h f q => by
  unfold strD at f
  split at f
  · rw [h.intI]; exact ⟨_, rfl, f.1, q.val r f.2 (.str _)⟩
  · exact f.elim
@[simp] def maxD : D2 := intD0 fun i j => .int (if j > i then j else i)
@[simp] def minD : D2 := intD0 fun i j => .int (if j < i then j else i)
theorem cl_max : CallL K (fun xs H Q => ∃ i j, xs = [.int i, .int j] ∧ Q (.int (if j > i then j else i)) H) (on2 maxD) := call2 fun g F H σ S v w d e P Q' r h1 h2 f q => by
  obtain ⟨i, j, _, _, rfl, rfl, p⟩ := lookI_of h1 h2 f
  exact ⟨i, j, rfl, q.val r p (.int _)⟩
theorem cl_min : CallL K (fun xs H Q => ∃ i j, xs = [.int i, .int j] ∧ Q (.int (if j < i then j else i)) H) (on2 minD) := call2 fun g F H σ S v w d e P Q' r h1 h2 f q => by
  obtain ⟨i, j, _, _, rfl, rfl, p⟩ := lookI_of h1 h2 f
  exact ⟨i, j, rfl, q.val r p (.int _)⟩
@[simp] def tupleD : D1 := fun x P => match x with
  | .tup xs => P (.tup xs)
  | .lst xs => P (.tup xs)
  | _ => False
theorem cl_tuple : CallL K (fun xs H Q => ∃ p ys, xs = [.ref p] ∧ ((SqL K H p ys ∧ ∀ l, H l = none → Q (.ref l) (upd H l (.tup ys))) ∨ (SqT K H p ys ∧ Q (.ref p) H))) (on1 tupleD) := call1 fun g F H σ S v d P Q' r h f q => by
  unfold tupleD at f
  split at f
  · have hF := h.tupF
    obtain ⟨a, vs, rfl, ha, ra⟩ := h.tupI r.fh'
    exact ⟨a, vs, rfl, .inr ⟨ha, q.val r f hF⟩⟩
  · obtain ⟨a, vs, rfl, ha, ra⟩ := h.lstI r.fh'
    exact ⟨a, vs, rfl, .inl ⟨SqL.of ha, q.tup r f ra⟩⟩
  · exact f.elim
@[simp] def listD : D1 := fun x P => match x with
  | .tup xs => P (.lst xs)
  | .lst xs => P (.lst xs)
  | _ => False
theorem cl_list : CallL K (fun xs H Q => ∃ p ys, xs = [.ref p] ∧ (SqL K H p ys ∨ SqT K H p ys) ∧ ∀ l, H l = none → Q (.ref l) (upd H l (.lst ys))) (on1 listD) := call1 fun g F H σ S v d P Q' r h f q => by
  unfold listD at f
  split at f
  · obtain ⟨a, vs, rfl, ha, ra⟩ := h.tupI r.fh'
    exact ⟨a, vs, rfl, .inr ha, q.lst r f ra⟩
  · obtain ⟨a, vs, rfl, ha, ra⟩ := h.lstI r.fh'
    exact ⟨a, vs, rfl, .inl (SqL.of ha), q.lst r f ra⟩
  · exact f.elim
/-- all(xs), any(xs) of a list of truths -/
def blsOf : List D → Option (List Bool)
  | [] => some []
  | .bl b :: r => (blsOf r).map (b :: ·)
  | _ => none
theorem blsOf_rep : ∀ {ds : List D} {bs : List Bool} {vs : List V}, blsOf ds = some bs → RepL K F vs ds → vs = bs.map V.bl
  | [], bs, vs, e, h => by
    cases h
    cases e
    rfl
  | .bl b :: r, bs, vs, e, h => by
    cases h with
    | cons h t =>
      cases h
      cases q : blsOf r with
      | none => rw [blsOf, q] at e; cases e
      | some cs =>
        rw [blsOf, q] at e
        cases e
        rw [blsOf_rep q t]; rfl
  | .non :: _, _, _, e, _ => by cases e
  | .int _ :: _, _, _, e, _ => by cases e
  | .str _ :: _, _, _, e, _ => by cases e
  | .tup _ :: _, _, _, e, _ => by cases e
  | .lst _ :: _, _, _, e, _ => by cases e
  | .edc :: _, _, _, e, _ => by cases e
  | .lsf _ :: _, _, _, e, _ => by cases e
  | .ins _ _ _ :: _, _, _, e, _ => by cases e
  | .fn _ :: _, _, _, e, _ => by cases e
  | .ty _ :: _, _, _, e, _ => by cases e
  | .exc _ _ _ _ _ :: _, _, _, e, _ => by cases e
  | .cel _ :: _, _, _, e, _ => by cases e
  | .clo _ _ :: _, _, _, e, _ => by cases e
def allD : D1 := fun x P => match x with
  | .lst xs => ∃ bs, blsOf xs = some bs ∧ P (.bl (bs.all id))
  | _ => False
def anyD : D1 := fun x P => match x with
  | .lst xs => ∃ bs, blsOf xs = some bs ∧ P (.bl (bs.any id))
  | _ => False
theorem cl_all : CallL K (rAll K) (on1 allD) := call1 fun g F H σ S v d P Q' r h f q => by
  unfold allD at f
  split at f
  · obtain ⟨a, vs, rfl, ha, ra⟩ := h.lstI r.fh'
    obtain ⟨bs, e, p⟩ := f
    have := blsOf_rep e ra
    subst this
    exact ⟨a, bs, rfl, SqL.of ha, q.val r p (.bl _)⟩
  · exact f.elim
theorem cl_any : CallL K (rAny K) (on1 anyD) := call1 fun g F H σ S v d P Q' r h f q => by
  unfold anyD at f
  split at f
  · obtain ⟨a, vs, rfl, ha, ra⟩ := h.lstI r.fh'
    obtain ⟨bs, e, p⟩ := f
    have := blsOf_rep e ra
    subst this
    exact ⟨a, bs, rfl, SqL.of ha, q.val r p (.bl _)⟩
  · exact f.elim

/-! ### data: == and != -/
mutual
def pyd : D → PyData
  | .non => .none
  | .bl b => .bool b
  | .int i => .int i
  | .str x => .str x
  | .tup xs => .tuple (pyds xs)
  | .lst xs => .list (pyds xs)
  | _ => .none
def pyds : List D → List PyData
  | [] => []
  | x :: xs => pyd x :: pyds xs
end
/-! data of no more than so many levels -/
mutual
def okD : Nat → D → Bool
  | _, .non => true
  | _, .bl _ => true
  | _, .int _ => true
  | _, .str x => PySem.PyData.canLay0 (.str x)
  | n + 1, .tup xs => okDs n xs
  | n + 1, .lst xs => okDs n xs
  | _, _ => false
def okDs : Nat → List D → Bool
  | _, [] => true
  | n, x :: xs => okD n x && okDs n xs
end
mutual
theorem dp_of (e : Same F H) : ∀ (n : Nat) (d : D) (v : V), okD n d = true → Rep K F v d → Dp K H v (pyd d)
  | _, .non, _, _, h => by cases h; rw [pyd]; exact .non
  | _, .bl b, _, _, h => by cases h; rw [pyd]; exact .bl b
  | _, .int i, _, _, h => by cases h; rw [pyd]; exact .int i
  | _, .str x, _, _, h => by cases h; rw [pyd]; exact .str x
  | n + 1, .tup xs, _, o, h => by
    cases h with
    | tup h r => rw [pyd]; exact .tup (sameT e h) (dps_of e n xs _ (by rw [okD] at o; exact o) r)
  | n + 1, .lst xs, _, o, h => by
    cases h with
    | lst h r => rw [pyd]; exact .lst (SqL.of (e _ _ h)) (dps_of e n xs _ (by rw [okD] at o; exact o) r)
  | 0, .tup xs, _, o, _ => by rw [okD] at o <;> first | cases o | (intros; nofun)
  | 0, .lst xs, _, o, _ => by rw [okD] at o <;> first | cases o | (intros; nofun)
  | _, .lsf _, _, o, _ => by rw [okD] at o <;> first | cases o | (intros; nofun)
  | _, .edc, _, o, _ => by rw [okD] at o <;> first | cases o | (intros; nofun)
  | _, .ins _ _ _, _, o, _ => by rw [okD] at o <;> first | cases o | (intros; nofun)
  | _, .fn _, _, o, _ => by rw [okD] at o <;> first | cases o | (intros; nofun)
  | _, .ty _, _, o, _ => by rw [okD] at o <;> first | cases o | (intros; nofun)
  | _, .exc _ _ _ _ _, _, o, _ => by rw [okD] at o <;> first | cases o | (intros; nofun)
  | _, .cel _, _, o, _ => by rw [okD] at o <;> first | cases o | (intros; nofun)
  | _, .clo _ _, _, o, _ => by rw [okD] at o <;> first | cases o | (intros; nofun)
theorem dps_of (e : Same F H) : ∀ (n : Nat) (ds : List D) (vs : List V), okDs n ds = true → RepL K F vs ds → DpAll K H vs (pyds ds)
  | _, [], _, _, h => by cases h; rw [pyds]; exact .nil
  | n, d :: ds, _, o, h => by
    cases h with
    | cons h r =>
      rw [okDs, Bool.and_eq_true] at o
      rw [pyds]
      exact .cons (dp_of e n d _ o.1 h) (dps_of e n ds _ o.2 r)
end
mutual
theorem lay_of : ∀ (n : Nat) (d : D), okD n d = true → (pyd d).canLay0 = true ∧ (pyd d).depth ≤ n + 1
  | _, .non, _ => by rw [pyd]; exact ⟨by simp [PyData.canLay0], by simp [PyData.depth]⟩
  | _, .bl b, _ => by rw [pyd]; exact ⟨by simp [PyData.canLay0], by simp [PyData.depth]⟩
  | _, .int i, _ => by rw [pyd]; exact ⟨by simp [PyData.canLay0], by simp [PyData.depth]⟩
  | _, .str x, o => by rw [pyd]; rw [okD] at o; exact ⟨o, by simp [PyData.depth]⟩
  | n + 1, .tup xs, o => by
    rw [okD] at o
    obtain ⟨h1, h2⟩ := lays_of n xs o
    rw [pyd]
    exact ⟨by simpa [PyData.canLay0] using h1, by simp only [PyData.depth]; omega⟩
  | n + 1, .lst xs, o => by
    rw [okD] at o
    obtain ⟨h1, h2⟩ := lays_of n xs o
    rw [pyd]
    exact ⟨by simpa [PyData.canLay0] using h1, by simp only [PyData.depth]; omega⟩
  | 0, .tup xs, o => by rw [okD] at o <;> first | cases o | (intros; nofun)
  | 0, .lst xs, o => by rw [okD] at o <;> first | cases o | (intros; nofun)
  | _, .lsf _, o => by rw [okD] at o <;> first | cases o | (intros; nofun)
  | _, .edc, o => by rw [okD] at o <;> first | cases o | (intros; nofun)
  | _, .ins _ _ _, o => by rw [okD] at o <;> first | cases o | (intros; nofun)
  | _, .fn _, o => by rw [okD] at o <;> first | cases o | (intros; nofun)
  | _, .ty _, o => by rw [okD] at o <;> first | cases o | (intros; nofun)
  | _, .exc _ _ _ _ _, o => by rw [okD] at o <;> first | cases o | (intros; nofun)
  | _, .cel _, o => by rw [okD] at o <;> first | cases o | (intros; nofun)
  | _, .clo _ _, o => by rw [okD] at o <;> first | cases o | (intros; nofun)
theorem lays_of : ∀ (n : Nat) (ds : List D), okDs n ds = true → PyData.canLayAll0 (pyds ds) = true ∧ PyData.depthAll (pyds ds) ≤ n + 1
  | _, [], _ => by rw [pyds]; exact ⟨by simp [PyData.canLayAll0], by simp [PyData.depthAll]⟩
  | n, d :: ds, o => by
    rw [okDs, Bool.and_eq_true] at o
    obtain ⟨h1, h2⟩ := lay_of n d o.1
    obtain ⟨h3, h4⟩ := lays_of n ds o.2
    rw [pyds]
    exact ⟨by simp [PyData.canLayAll0, h1, h3], by simp only [PyData.depthAll]; omega⟩
end
theorem shaped_of {d : D} (h : okD 60 d = true) : SeqAt.shaped (pyd d) = true := by
  obtain ⟨h1, h2⟩ := lay_of 60 d h
  unfold SeqAt.shaped
  rw [h1, decide_eq_true (show (pyd d).depth ≤ 64 by omega)]
  rfl
theorem dpR {d : D} {v : V} (e : Same F H) (h : RepR K F H v d) (o : okD 60 d = true) : Dp K H v (pyd d) := by
  cases h with
  | fz h => exact dp_of e 60 d v o h
  | cl h r =>
    rw [pyd]
    exact .lst (SqL.of h) (dps_of e 59 _ _ (by rw [okD] at o; exact o) r)
  | ci _ _ _ => rw [okD] at o <;> first | cases o | (intros; nofun)
def eqd (x y : D) : Bool := PyData.eqv (pyd x) (pyd y)
def eqD0 : D2 := fun x y P => okD 60 x = true ∧ okD 60 y = true ∧ P (.bl (eqd x y))
def neD0 : D2 := fun x y P => okD 60 x = true ∧ okD 60 y = true ∧ P (.bl (!eqd x y))
theorem opl_eq0 : OpL K (rEqD K) eqD0 := by
  intro g F H σ S v1 v2 d1 d2 P Q' r h1 h2 f q
  exact ⟨_, _, dpR r.fh' h1 f.1, dpR r.fh' h2 f.2.1, shaped_of f.1, shaped_of f.2.1, q.val r f.2.2 (.bl _)⟩
theorem opl_ne0 : OpL K (rNeD K) neD0 := by
  intro g F H σ S v1 v2 d1 d2 P Q' r h1 h2 f q
  exact ⟨_, _, dpR r.fh' h1 f.1, dpR r.fh' h2 f.2.1, shaped_of f.1, shaped_of f.2.1, q.val r f.2.2 (.bl _)⟩
/-! texts beside data -/
def eqD : D2 := fun x y P => match x, y with
  | .str a, .str b => P (.bl (decide (a = b)))
  | x, y => eqD0 x y P
def neD : D2 := fun x y P => match x, y with
  | .str a, .str b => P (.bl (!decide (a = b)))
  | x, y => neD0 x y P
def rEqA (K : PySem.W.Frag) : R2 := fun x y H Q => rEqD K x y H Q ∨ rEq x y H Q
def rNeA (K : PySem.W.Frag) : R2 := fun x y H Q => rNeD K x y H Q ∨ rNe x y H Q
theorem op_eqA {X : Cx} (hu : X.A.units + 64 < cLine) : OpR X (compareOp .Eq) (rEqA X.K) := (op_eqD hu).or op_eq
theorem op_neA {X : Cx} (hu : X.A.units + 64 < cLine) : OpR X (compareOp .NotEq) (rNeA X.K) := (op_neD hu).or op_ne
theorem opl_eq : OpL K (rEqA K) eqD := by
  intro g F H σ S v1 v2 d1 d2 P Q' r h1 h2 f q
  unfold eqD at f
  split at f
  · rw [h1.strI, h2.strI]
    refine .inr ⟨rfl, ?_⟩
    rename_i a b
    rw [show decide (V.str a = V.str b) = decide (a = b) by simp]
    exact q.val r f (.bl _)
  · exact .inl (opl_eq0 g F H σ S v1 v2 _ _ P Q' r h1 h2 f q)
theorem opl_ne : OpL K (rNeA K) neD := by
  intro g F H σ S v1 v2 d1 d2 P Q' r h1 h2 f q
  unfold neD at f
  split at f
  · rw [h1.strI, h2.strI]
    refine .inr ⟨rfl, ?_⟩
    rename_i a b
    rw [show decide (V.str a = V.str b) = decide (a = b) by simp]
    exact q.val r f (.bl _)
  · exact .inl (opl_ne0 g F H σ S v1 v2 _ _ P Q' r h1 h2 f q)
/-- is None -/
def isND (neg : Bool) : D2 := fun x y P => y = .non ∧ P (.bl (match x with
  | .non => !neg
  | _ => neg))
theorem isn_dec {v : V} {d : D} (h : RepR K F H v d) : decide (v = V.non) = (match d with
  | .non => true
  | _ => false) := by
  cases h with
  | fz h => cases h <;> simp
  | cl h r => simp
  | ci _ _ _ => simp
theorem opl_isN : OpL K (fun x y H Q => y = .non ∧ Q (.bl (decide (x = .non))) H) (isND false) := by
  intro g F H σ S v1 v2 d1 d2 P Q' r h1 h2 f q
  obtain ⟨e, p⟩ := f
  subst e
  refine ⟨h2.nonI, ?_⟩
  rw [isn_dec h1]
  exact q.val r p (by cases d1 <;> exact .bl _)
theorem opl_notN : OpL K (fun x y H Q => y = .non ∧ Q (.bl (!decide (x = .non))) H) (isND true) := by
  intro g F H σ S v1 v2 d1 d2 P Q' r h1 h2 f q
  obtain ⟨e, p⟩ := f
  subst e
  refine ⟨h2.nonI, ?_⟩
  rw [isn_dec h1]
  exact q.val r p (by cases d1 <;> exact .bl _)
end
end L3
set_option linter.all false
set_option maxRecDepth 100000
set_option maxHeartbeats 4000000
/-! L3, part D: lifted statements, loops, comprehensions. -/
namespace L3
open PySem L2
/-- what is wanted behind a statement -/
structure En where
  nx : SS → Prop
  rt : D → SS → Prop
  xr : XR
  bk : SS → Prop := fun _ => False
  ct : SS → Prop := fun _ => False
abbrev LTS := En → SS → Prop
structure CE3 (K : PySem.W.Frag) (g : Gd) (E : WX) (F : Hp) (D3 : En) (D2 : Ends) : Prop where
  nx : ∀ S' σ' H' F', D3.nx S' → Same F F' → RS K g F' H' σ' S' → D2.nx σ' H'
  rt : ∀ d S' v σ' H' F', D3.rt d S' → Same F F' → RS K g F' H' σ' S' → RepW K F' σ' S' v d → D2.rt v H'
  bk : ∀ S' σ' H' F', D3.bk S' → Same F F' → RS K g F' H' σ' S' → D2.bk σ' H'
  ct : ∀ S' σ' H' F', D3.ct S' → Same F F' → RS K g F' H' σ' S' → D2.ct σ' H'
  xr : ∀ c fs S' dx σ' H' F', D3.xr c fs S' → Same F F' → RS K g F' H' σ' S' → XRep K F' dx fs → E c dx σ' H'
def LfS (K : PySem.W.Frag) (E : WX) (t : TS) (T : LTS) : Prop :=
  ∀ (g : Gd) (σ : St) (H F : Hp) (S : SS) (D3 : En) (D2 : Ends), RS K g F H σ S → T D3 S → CE3 K g E F D3 D2 → t D2 σ H
section
variable {K : PySem.W.Frag} {g : Gd} {E : WX} {F H : Hp} {σ : St} {S : SS}
theorem CE3.step {F' : Hp} {D3 : En} {D2 : Ends} (c : CE3 K g E F D3 D2) (e : Same F F') : CE3 K g E F' D3 D2 :=
  ⟨fun S' σ' H' F2 h q r => c.nx S' σ' H' F2 h (e.trans q) r, fun d S' v σ' H' F2 h q r w => c.rt d S' v σ' H' F2 h (e.trans q) r w, fun S' σ' H' F2 h q r => c.bk S' σ' H' F2 h (e.trans q) r, fun S' σ' H' F2 h q r => c.ct S' σ' H' F2 h (e.trans q) r,
    fun cl fs S' dx σ' H' F2 h q r x => c.xr cl fs S' dx σ' H' F2 h (e.trans q) r x⟩
theorem CE3.cx {D3 : En} {D2 : Ends} (c : CE3 K g E F D3 D2) : CX3 K g σ F S D3.xr E := fun cl fs S' dx H' F' h _ q r x => c.xr cl fs S' dx σ H' F' h q r x

/-! ### blocks and small statements -/
@[simp] def lNext : LTS := fun D S => D.nx S
def lSeq (T U : LTS) : LTS := fun D S => T { D with nx := U D } S
theorem lfs_next : LfS K E tNext lNext := fun g σ H F S D3 D2 rs h c => c.nx S σ H F h (Same.refl F) rs
theorem lfs_seq {t u : TS} {T U : LTS} (ht : LfS K E t T) (hu : LfS K E u U) : LfS K E (tSeq t u) (lSeq T U) := fun g σ H F S D3 D2 rs h c =>
  ht g σ H F S { D3 with nx := U D3 } { D2 with nx := u D2 } rs h ⟨fun S' σ' H' F' h' e r => hu g σ' H' F' S' D3 D2 r h' (c.step e), c.rt, c.bk, c.ct, c.xr⟩
def lBreak : LTS := fun D S => D.bk S
def lCont : LTS := fun D S => D.ct S
theorem lfs_break : LfS K E tBreak lBreak := fun g σ H F S D3 D2 rs h c => c.bk S σ H F h (Same.refl F) rs
theorem lfs_cont : LfS K E tCont lCont := fun g σ H F S D3 D2 rs h c => c.ct S σ H F h (Same.refl F) rs
@[simp] def lDrop (T : LT) : LTS := fun D S => T S (fun _ S' => D.nx S') D.xr
theorem lfs_drop {t : TE} {T : LT} (h : Lf K E t T) : LfS K E (tDrop t) (lDrop T) := fun g σ H F S D3 D2 rs q c =>
  h g σ H F S _ _ _ rs q (fun d S' v H' F' n _ e r _ => c.nx S' σ H' F' n e r) c.cx
@[simp] def lRet (T : LT) : LTS := fun D S => T S D.rt D.xr
theorem lfs_ret {t : TE} {T : LT} (h : Lf K E t T) : LfS K E (tRet t) (lRet T) := fun g σ H F S D3 D2 rs q c =>
  h g σ H F S _ _ _ rs q (fun d S' v H' F' n _ e r w => c.rt d S' v σ H' F' n e r w) c.cx
@[simp] def lRetN : LTS := fun D S => D.rt .non S
theorem lfs_retN : LfS K E tRetN lRetN := fun g σ H F S D3 D2 rs h c => c.rt .non S .non σ H F h (Same.refl F) rs (.inl .non)
@[simp] def lIfS (Tc : LTT) (T U : LTS) : LTS := fun D S => Tc S (fun k S1 => if k = true then T D S1 else U D S1) D.xr
theorem lfs_if {tc : TT} {t u : TS} {Tc : LTT} {T U : LTS} (hc : LfT K E tc Tc) (ht : LfS K E t T) (hu : LfS K E u U) : LfS K E (tIfS tc t u) (lIfS Tc T U) := fun g σ H F S D3 D2 rs q c => by
  refine hc g σ H F S _ _ _ rs q (fun k S1 H1 F1 h1 c1 e1 r1 => ?_) c.cx
  cases k with
  | true => exact ht g σ H1 F1 S1 D3 D2 r1 h1 (c.step e1)
  | false => exact hu g σ H1 F1 S1 D3 D2 r1 h1 (c.step e1)
@[simp] def lNever : LTS := fun _ _ => False
theorem lfs_never : LfS K E tNever lNever := fun _ _ _ _ _ _ _ _ h _ => h.elim

/-! ### stores -/
/-- a slot that may be stored to: not the caller's cell -/
@[simp] def freeSl (S : SS) (i : Nat) : Bool := match S[i]? with
  | some (some (.c false _)) => false
  | some _ => true
  | none => false
theorem freeSl_ne {i : Nat} (h : freeSl S i = true) (k : Cell) : S[i]? ≠ some (some (.c false k)) := fun e => by
  unfold freeSl at h
  rw [e] at h
  cases h
theorem freeSl_lt {i : Nat} (h : freeSl S i = true) : i < S.length := by
  unfold freeSl at h
  cases e : S[i]? with
  | none => rw [e] at h; cases h
  | some x => exact (List.getElem?_eq_some_iff.mp e).1
theorem get_set_ne {α : Type} {l : List α} {i j : Nat} {x : α} (h : j ≠ i) : (l.set i x)[j]? = l[j]? := List.getElem?_set_ne (Ne.symm h)
theorem RS.setV {i : Nat} {v : V} {d : D} (r : RS K g F H σ S) (hf : freeSl S i = true) (h : Rep K F v d) : RS K g F H (σ.set i (some v)) (S.set i (some (.v d))) := by
  obtain ⟨fp, r⟩ := r
  have hl := freeSl_lt hf
  have hl2 : i < σ.length := by rw [← r.len]; exact hl
  refine ⟨fp, r.fh, r.gf, r.nb, fun j d' e => ?_, fun j o k e => ?_, fun j l o k o' k' n e1 e2 => ?_, by rw [List.length_set, List.length_set]; exact r.len, fun p hp => ?_, fun j k e => ?_, r.tb⟩
  · by_cases hj : j = i
    · subst hj
      rw [List.getElem?_set_self hl] at e
      cases e
      exact ⟨v, by rw [List.getElem?_set_self hl2], h⟩
    · rw [get_set_ne hj] at e ⊢
      exact r.val j d' e
  · have hj : j ≠ i := fun z => by
      rw [z, List.getElem?_set_self hl] at e
      cases e
    rw [get_set_ne hj] at e ⊢
    exact r.cel j o k e
  · have hj : ∀ {m : Nat} {o : Bool} {k : Cell}, (S.set i (some (.v d)))[m]? = some (some (.c o k)) → m ≠ i := fun {m o k} e z => by
      rw [z, List.getElem?_set_self hl] at e
      cases e
    have h1 := hj e1
    have h2 := hj e2
    rw [get_set_ne h1] at e1
    rw [get_set_ne h2] at e2
    exact r.ap j l o k o' k' n e1 e2
  · obtain ⟨h1, k, h2⟩ := r.lent p hp
    have hj : p.1 ≠ i := fun z => freeSl_ne hf k (by rw [← z]; exact h2)
    rw [get_set_ne hj, get_set_ne hj]
    exact ⟨h1, k, h2⟩
  · have hj : j ≠ i := fun z => by
      rw [z, List.getElem?_set_self hl] at e
      cases e
    rw [get_set_ne hj] at e
    exact r.nl j k e
/-- a lifted target -/
abbrev LG := D → SS → (SS → Prop) → XR → Prop
def LfG (K : PySem.W.Frag) (E : WX) (t : TG) (T : LG) : Prop :=
  ∀ (g : Gd) (v : V) (d : D) (σ : St) (H F : Hp) (S : SS) (Q : SS → Prop) (R : XR) (Q' : St → Hp → Prop), RS K g F H σ S → RepW K F σ S v d → T d S Q R →
    (∀ S' σ' H' F', Q S' → Same F F' → RS K g F' H' σ' S' → Q' σ' H') → (∀ c fs S' dx σ' H' F', R c fs S' → Same F F' → RS K g F' H' σ' S' → XRep K F' dx fs → E c dx σ' H') → t v σ H Q'
def isCel : D → Bool
  | .cel _ => true
  | _ => false
theorem RepW.rep {v : V} {d : D} (h : RepW K F σ S v d) (e : isCel d = false) : Rep K F v d := by
  rcases h with h | ⟨i, o, k, q, _⟩
  · exact h
  · subst q; cases e
@[simp] def gNameL (i : Nat) : LG := fun d S Q _ => isCel d = false ∧ freeSl S i = true ∧ Q (S.set i (some (.v d)))
theorem lfg_name {i : Nat} : LfG K E (gName i) (gNameL i) := fun g v d σ H F S Q R Q' rs w h hq hx =>
  hq _ _ H F h.2.2 (Same.refl F) (rs.setV h.2.1 (w.rep h.1))
@[simp] def lAsg (T : LT) (G : LG) : LTS := fun D S => T S (fun d S1 => G d S1 D.nx D.xr) D.xr
theorem lfs_asg {t : TE} {gt : TG} {T : LT} {G : LG} (h : Lf K E t T) (hg : LfG K E gt G) : LfS K E (tAsg t gt) (lAsg T G) := fun g σ H F S D3 D2 rs q c =>
  h g σ H F S _ _ _ rs q (fun d S' v H' F' n _ e r w => hg g v d σ H' F' S' _ _ _ r w n (fun S2 σ2 H2 F2 n2 e2 r2 => c.nx S2 σ2 H2 F2 n2 (e.trans e2) r2) fun cl fs S2 dx σ2 H2 F2 n2 e2 r2 x => c.xr cl fs S2 dx σ2 H2 F2 n2 (e.trans e2) r2 x) c.cx
/-- targets one after another -/
abbrev LGs := List D → SS → (SS → Prop) → XR → Prop
def LfGs (K : PySem.W.Frag) (E : WX) (t : TGs) (T : LGs) : Prop :=
  ∀ (g : Gd) (vs : List V) (ds : List D) (σ : St) (H F : Hp) (S : SS) (Q : SS → Prop) (R : XR) (Q' : St → Hp → Prop), RS K g F H σ S → RepL K F vs ds → T ds S Q R →
    (∀ S' σ' H' F', Q S' → Same F F' → RS K g F' H' σ' S' → Q' σ' H') → (∀ c fs S' dx σ' H' F', R c fs S' → Same F F' → RS K g F' H' σ' S' → XRep K F' dx fs → E c dx σ' H') → t vs σ H Q'
@[simp] def gNilL : LGs := fun ds S Q _ => ds = [] ∧ Q S
@[simp] def gConsL (G : LG) (Gs : LGs) : LGs := fun ds S Q R => match ds with
  | d :: r => G d S (fun S1 => Gs r S1 Q R) R
  | [] => False
theorem lfgs_nil : LfGs K E gNil gNilL := fun g vs ds σ H F S Q R Q' rs w h hq hx => by
  obtain ⟨e, h⟩ := h
  subst e
  cases w
  exact ⟨rfl, hq S σ H F h (Same.refl F) rs⟩
theorem lfgs_cons {t : TG} {u : TGs} {G : LG} {Gs : LGs} (h1 : LfG K E t G) (h2 : LfGs K E u Gs) : LfGs K E (gCons t u) (gConsL G Gs) := fun g vs ds σ H F S Q R Q' rs w h hq hx => by
  cases w with
  | nil => exact h.elim
  | @cons v vr d dr w wr =>
    refine ⟨v, vr, rfl, h1 g v d σ H F S _ R _ rs (.inl w) h (fun S1 σ1 H1 F1 n1 e1 r1 => ?_) hx⟩
    exact h2 g vr dr σ1 H1 F1 S1 Q R Q' r1 (wr.mono e1) n1 (fun S2 σ2 H2 F2 n2 e2 r2 => hq S2 σ2 H2 F2 n2 (e1.trans e2) r2) fun c fs S2 dx σ2 H2 F2 n2 e2 r2 x => hx c fs S2 dx σ2 H2 F2 n2 (e1.trans e2) r2 x
/-- (a, b, ..) = a tuple -/
@[simp] def gTupL (n : Nat) (Gs : LGs) : LG := fun d S Q R => match look S d with
  | .tup ds => ds.length = n ∧ Gs ds S Q R
  | _ => False
theorem lfg_tup {n : Nat} {t : TGs} {Gs : LGs} (h1 : LfGs K E t Gs) : LfG K E (gTup K n t) (gTupL n Gs) := fun g v d σ H F S Q R Q' rs w h hq hx => by
  unfold gTupL at h
  have w' := w.look rs
  split at h
  · rename_i ds e
    rw [e] at w'
    obtain ⟨a, vs, rfl, ha, ra⟩ := w'.tupI rs.fh'
    exact ⟨a, vs, rfl, ha, by rw [ra.length]; exact h.1, h1 g vs ds σ H F S Q R Q' rs ra h.2 hq hx⟩
  · exact h.elim

/-! ### cells: a list of the frame's own, or the caller's -/
theorem RS.setK {i : Nat} {o : Bool} {k0 kN : Cell} {a : Addr} {u0 : HO} (r : RS K g F H σ S) (hi : S[i]? = some (some (.c o k0))) (ha : σ[i]? = some (some (.ref a))) (h : CellAt K F (upd H a u0) a [a] kN) :
    RS K g F (upd H a u0) σ (S.set i (some (.c o kN))) := by
  obtain ⟨fp, r⟩ := r
  obtain ⟨a', ha', hc0, hb⟩ := r.cel i o k0 hi
  rw [ha] at ha'
  cases ha'
  have ef := hc0.fp1
  have hF : F a = none := (hb a (by rw [ef]; exact List.mem_singleton.mpr rfl)).1
  have hG : g.G a = none := (hb a (by rw [ef]; exact List.mem_singleton.mpr rfl)).2.1
  have hl : i < S.length := (List.getElem?_eq_some_iff.mp hi).1
  refine ⟨fp, fun b u e => ?_, fun b u e => ?_, fun b hb' => ?_, fun j d e => ?_, fun j o' k e => ?_, fun j l o1 k1 o2 k2 n e1 e2 => ?_, by rw [List.length_set]; exact r.len, fun p hp => ?_, fun j k e => ?_, ?tb⟩
  case tb =>
    obtain ⟨u, hu, nu⟩ := hc0.nt
    obtain ⟨u1, hu1, nu1⟩ := h.nt
    rw [upd_same] at hu1
    refine ⟨tabs_upd r.tb.t hu nu, r.tb.f, r.tb.g, code_upd r.tb.c fun φ z => ?_⟩
    exact nu1.2 φ (by rw [← Option.some.inj hu1]; exact z)
  · rw [upd_ne (ne_of_none e hF)]; exact r.fh b u e
  · rw [upd_ne (ne_of_none e hG)]; exact r.gf b u e
  · obtain ⟨h1, h2⟩ := r.nb b hb'
    refine ⟨h1, ?_⟩
    by_cases z : b = a
    · rw [z, upd_same]; simp
    · rw [upd_ne z]; exact h2
  · by_cases hj : j = i
    · subst hj
      rw [List.getElem?_set_self hl] at e
      cases e
    · rw [get_set_ne hj] at e
      exact r.val j d e
  · by_cases hj : j = i
    · subst hj
      rw [List.getElem?_set_self hl] at e
      cases e
      exact ⟨a, ha, by rw [ef]; exact h, hb⟩
    · rw [get_set_ne hj] at e
      obtain ⟨a2, h1, h2, h3⟩ := r.cel j o' k e
      refine ⟨a2, h1, h2.mono (Same.refl F) fun b hb2 u q => ?_, h3⟩
      rw [upd_ne]
      · exact q
      · intro z
        refine r.ap j i o' k o k0 hj e hi b hb2 ?_
        rw [ef, z]
        exact List.mem_singleton.mpr rfl
  · have back : ∀ {m : Nat} {o' : Bool} {k : Cell}, (S.set i (some (.c o kN)))[m]? = some (some (.c o' k)) → ∃ o2 k2, S[m]? = some (some (.c o2 k2)) := fun {m o' k} e => by
      by_cases hm : m = i
      · rw [hm]; exact ⟨_, _, hi⟩
      · rw [get_set_ne hm] at e; exact ⟨_, _, e⟩
    obtain ⟨_, _, b1⟩ := back e1
    obtain ⟨_, _, b2⟩ := back e2
    exact r.ap j l _ _ _ _ n b1 b2
  · obtain ⟨h1, k, h2⟩ := r.lent p hp
    refine ⟨h1, ?_⟩
    by_cases hj : p.1 = i
    · rw [hj] at h2 ⊢
      rw [hi] at h2
      cases h2
      exact ⟨_, by rw [List.getElem?_set_self hl]⟩
    · rw [get_set_ne hj]; exact ⟨k, h2⟩
  · by_cases hj : j = i
    · subst hj
      rw [List.getElem?_set_self hl] at e
      cases e
      exact r.nl j _ hi
    · rw [get_set_ne hj] at e
      exact r.nl j k e
theorem RS.setC {i : Nat} {o : Bool} {xs ys : List D} {a : Addr} {ws : List V} (r : RS K g F H σ S) (hi : S[i]? = some (some (.c o (.lst xs)))) (ha : σ[i]? = some (some (.ref a))) (h : RepL K F ws ys) :
    RS K g F (upd H a (.lst ws)) σ (S.set i (some (.c o (.lst ys)))) := r.setK hi ha ⟨rfl, ws, upd_same, h⟩
/-- pending: a new object at p that is no part of F yet -/
def gadd (g : Gd) (p : Addr) (o : HO) : Gd := { g with G := upd g.G p o, B := fun b => g.B b ∨ b = p }
theorem RS.pend {p : Addr} {o : HO} (r : RS K g F H σ S) (hp : H p = none) (no : noTX o := by exact ⟨fun _ h => (nomatch h), fun _ h => (nomatch h)⟩) : RS K (gadd g p o) F (upd H p o) σ S ∧ g.G p = none ∧ ¬ g.B p := by
  obtain ⟨fp, r⟩ := r
  have hG : g.G p = none := Same.free r.gf hp
  have hB : ¬ g.B p := fun z => (r.nb p z).2 hp
  have fn : ∀ b, H b ≠ none → b ≠ p := fun b h z => h (by rw [z]; exact hp)
  have fF : F p = none := Same.free r.fh hp
  refine ⟨⟨fp, fun b u e => ?_, fun b u e => ?_, fun b hb => ?_, r.val, fun i ow k h => ?_, r.ap, r.len, r.lent, r.nl, ⟨tabs_new r.tb.t hp, r.tb.f, noTbl_upd r.tb.g no.1, code_upd r.tb.c no.2⟩⟩, hG, hB⟩
  · rw [upd_ne (ne_of_none e fF)]; exact r.fh b u e
  · by_cases hb : b = p
    · rw [hb] at e ⊢
      rw [upd_same]
      have e' : upd g.G p o p = some u := e
      rw [upd_same] at e'
      exact e'
    · have e' : upd g.G p o b = some u := e
      rw [upd_ne hb] at e' ⊢
      exact r.gf b u e'
  · rcases hb with hb | hb
    · obtain ⟨h1, h2⟩ := r.nb b hb
      rw [upd_ne (fn b h2)]
      exact ⟨h1, h2⟩
    · rw [hb]
      exact ⟨fF, by rw [upd_same]; simp⟩
  · obtain ⟨a, ha, hc, hf⟩ := r.cel i ow k h
    refine ⟨a, ha, hc.mono (Same.refl F) fun b hb u q => ?_, fun b hb => ?_⟩
    · rw [upd_ne (fn b (by rw [q]; simp))]; exact q
    · obtain ⟨h1, h2, h3⟩ := hf b hb
      have hne := fn b (hc.live b hb)
      refine ⟨h1, ?_, fun ho z => ?_⟩
      · show upd g.G p o b = none
        rw [upd_ne hne]; exact h2
      · rcases z with z | z
        · exact h3 ho z
        · exact hne z
/-- the pending object is known now: frozen -/
theorem RS.froze {p : Addr} {o : HO} (r : RS K (gadd g p o) F H σ S) (hG : g.G p = none) (hB : ¬ g.B p) {o' : HO} (ho : H p = some o') : RS K g (upd F p o') H σ S ∧ Same F (upd F p o') := by
  obtain ⟨fp, r⟩ := r
  have fF : F p = none := (r.nb p (.inr rfl)).1
  have ex : ∀ i ow k, S[i]? = some (some (.c ow k)) → ∀ b ∈ fp i, b ≠ p := fun i ow k h b hb z => by
    obtain ⟨a, ha, hc, hf⟩ := r.cel i ow k h
    obtain ⟨_, h2, _⟩ := hf b hb
    have h2' : upd g.G p o b = none := h2
    rw [z, upd_same] at h2'
    cases h2'
  refine ⟨⟨fp, fun b u e => ?_, fun b u e => ?_, fun b hb => ?_, fun i d h => ?_, fun i ow k h => ?_, r.ap, r.len, r.lent, r.nl, ?tb⟩, sameNew fF⟩
  case tb =>
    have hpo : H p = some o := r.gf p o upd_same
    refine ⟨r.tb.t, fun b ps z => ?_, fun b ps z => ?_, fun b q z => ?_⟩
    rotate_left
    rotate_left
    · by_cases e : b = p
      · rw [e, upd_same]
        rw [e, ho] at z
        rw [Option.some.inj z]
      · rw [upd_ne e]; exact r.tb.c b q z
    · by_cases e : b = p
      · rw [e, upd_same] at z
        refine r.tb.g p ps ?_
        rw [show o' = .tbl ps from Option.some.inj z] at ho
        rw [hpo] at ho
        show upd g.G p o p = _
        rw [upd_same]; exact ho
      · rw [upd_ne e] at z; exact r.tb.f b ps z
    · have e : b ≠ p := ne_of_none z hG
      refine r.tb.g b ps ?_
      show upd g.G p o b = _
      rw [upd_ne e]; exact z
  · by_cases hb : b = p
    · rw [hb, upd_same] at e
      rw [hb, ho]; exact e
    · rw [upd_ne hb] at e
      exact r.fh b u e
  · refine r.gf b u ?_
    show upd g.G p o b = some u
    rw [upd_ne (ne_of_none e hG)]; exact e
  · obtain ⟨h1, h2⟩ := r.nb b (.inl hb)
    rw [upd_ne (fun z => hB (by rw [← z]; exact hb))]
    exact ⟨h1, h2⟩
  · obtain ⟨v, hv, hr⟩ := r.val i d h
    exact ⟨v, hv, hr.mono (sameNew fF)⟩
  · obtain ⟨a, ha, hc, hf⟩ := r.cel i ow k h
    refine ⟨a, ha, hc.mono (sameNew fF) fun _ _ _ q => q, fun b hb => ?_⟩
    obtain ⟨h1, h2, h3⟩ := hf b hb
    have hne := ex i ow k h b hb
    refine ⟨by rw [upd_ne hne]; exact h1, ?_, fun ho' z => h3 ho' (.inl z)⟩
    have h2' : upd g.G p o b = none := h2
    rw [upd_ne hne] at h2'
    exact h2'
/-- the pending list is changed -/
theorem RS.pendUpd {p : Addr} {o o' : HO} (r : RS K (gadd g p o) F H σ S) (no : noTX o := by exact ⟨fun _ h => (nomatch h), fun _ h => (nomatch h)⟩) (no' : noTX o' := by exact ⟨fun _ h => (nomatch h), fun _ h => (nomatch h)⟩) : RS K (gadd g p o') F (upd H p o') σ S := by
  obtain ⟨fp, r⟩ := r
  have fF : F p = none := (r.nb p (.inr rfl)).1
  have ex : ∀ i ow k, S[i]? = some (some (.c ow k)) → ∀ b ∈ fp i, b ≠ p := fun i ow k h b hb z => by
    obtain ⟨a, ha, hc, hf⟩ := r.cel i ow k h
    obtain ⟨_, h2, _⟩ := hf b hb
    have h2' : upd g.G p o b = none := h2
    rw [z, upd_same] at h2'
    cases h2'
  refine ⟨fp, fun b u e => ?_, fun b u e => ?_, fun b hb => ?_, r.val, fun i ow k h => ?_, r.ap, r.len, r.lent, r.nl, ?tb⟩
  case tb =>
    have hpo : H p = some o := r.gf p o upd_same
    refine ⟨tabs_upd r.tb.t hpo no, r.tb.f, fun b ps z => ?_, code_upd r.tb.c no'.2⟩
    have z' : upd g.G p o' b = some (.tbl ps) := z
    by_cases e : b = p
    · rw [e, upd_same] at z'; exact no'.1 ps (Option.some.inj z')
    · rw [upd_ne e] at z'
      refine r.tb.g b ps ?_
      show upd g.G p o b = _
      rw [upd_ne e]; exact z'
  · rw [upd_ne (ne_of_none e fF)]; exact r.fh b u e
  · by_cases hb : b = p
    · rw [hb] at e ⊢
      rw [upd_same]
      have e' : upd g.G p o' p = some u := e
      rw [upd_same] at e'
      exact e'
    · have e' : upd g.G p o' b = some u := e
      rw [upd_ne hb] at e' ⊢
      refine r.gf b u ?_
      show upd g.G p o b = some u
      rw [upd_ne hb]; exact e'
  · obtain ⟨h1, h2⟩ := r.nb b hb
    refine ⟨h1, ?_⟩
    by_cases z : b = p
    · rw [z, upd_same]; simp
    · rw [upd_ne z]; exact h2
  · obtain ⟨a, ha, hc, hf⟩ := r.cel i ow k h
    refine ⟨a, ha, hc.mono (Same.refl F) fun b hb u q => ?_, fun b hb => ?_⟩
    · rw [upd_ne (ex i ow k h b hb)]; exact q
    · obtain ⟨h1, h2, h3⟩ := hf b hb
      have hne := ex i ow k h b hb
      refine ⟨h1, ?_, h3⟩
      have h2' : upd g.G p o b = none := h2
      rw [upd_ne hne] at h2'
      show upd g.G p o' b = none
      rw [upd_ne hne]; exact h2'
/-- the pending list becomes a cell of the frame's own -/
theorem RS.toK {p : Addr} {o : HO} {i : Nat} {kN : Cell} (r : RS K (gadd g p o) F H σ S) (hG : g.G p = none) (hB : ¬ g.B p) (h : CellAt K F H p [p] kN) (hf : freeSl S i = true) :
    RS K g F H (σ.set i (some (.ref p))) (S.set i (some (.c true kN))) := by
  obtain ⟨fp, r⟩ := r
  have fF : F p = none := (r.nb p (.inr rfl)).1
  have hl := freeSl_lt hf
  have hl2 : i < σ.length := by rw [← r.len]; exact hl
  have ex : ∀ j ow k, S[j]? = some (some (.c ow k)) → ∀ b ∈ fp j, b ≠ p := fun j ow k h b hb z => by
    obtain ⟨a, ha, hc, hf⟩ := r.cel j ow k h
    obtain ⟨_, h2, _⟩ := hf b hb
    have h2' : upd g.G p o b = none := h2
    rw [z, upd_same] at h2'
    cases h2'
  have gG : ∀ b, b ≠ p → (gadd g p o).G b = none → g.G b = none := fun b hb q => by
    have q' : upd g.G p o b = none := q
    rw [upd_ne hb] at q'
    exact q'
  refine ⟨fun j => if j = i then [p] else fp j, r.fh, fun b u e => ?_, fun b hb => r.nb b (.inl hb), fun j d e => ?_, fun j ow k e => ?_, fun j l o1 k1 o2 k2 n e1 e2 => ?_, by rw [List.length_set, List.length_set]; exact r.len, fun q hq => ?_, fun j k e => ?_, ⟨r.tb.t, r.tb.f, fun b ps z => r.tb.g b ps (by show upd g.G p o b = _; rw [upd_ne (ne_of_none z hG)]; exact z), r.tb.c⟩⟩
  · refine r.gf b u ?_
    show upd g.G p o b = some u
    rw [upd_ne (ne_of_none e hG)]; exact e
  · by_cases hj : j = i
    · subst hj
      rw [List.getElem?_set_self hl] at e
      cases e
    · rw [get_set_ne hj] at e ⊢
      exact r.val j d e
  · by_cases hj : j = i
    · subst hj
      rw [List.getElem?_set_self hl] at e
      cases e
      refine ⟨p, by rw [List.getElem?_set_self hl2], ?_⟩
      rw [if_pos rfl]
      refine ⟨h, fun b hb => ?_⟩
      rw [List.mem_singleton.mp hb]
      exact ⟨fF, hG, fun _ => hB⟩
    · rw [get_set_ne hj] at e ⊢
      rw [if_neg hj]
      obtain ⟨a, ha, hc, hf⟩ := r.cel j ow k e
      refine ⟨a, ha, hc, fun b hb => ?_⟩
      obtain ⟨h1, h2, h3⟩ := hf b hb
      exact ⟨h1, gG b (ex j ow k e b hb) h2, fun z q => h3 z (.inl q)⟩
  · have at_ : ∀ {m : Nat} {o' : Bool} {k' : Cell}, m ≠ i → (S.set i (some (.c true kN)))[m]? = some (some (.c o' k')) → S[m]? = some (some (.c o' k')) := fun {m o' k'} hm e => by
      rw [get_set_ne hm] at e; exact e
    intro b
    by_cases hj : j = i
    · have hl' : l ≠ i := fun z => n (hj.trans z.symm)
      rw [if_pos hj, if_neg hl']
      intro hb
      rw [List.mem_singleton.mp hb]
      exact fun z => ex l _ _ (at_ hl' e2) p z rfl
    · rw [if_neg hj]
      by_cases hl' : l = i
      · rw [if_pos hl']
        intro hb z
        rw [List.mem_singleton.mp z] at hb
        exact ex j _ _ (at_ hj e1) p hb rfl
      · rw [if_neg hl']
        exact r.ap j l _ _ _ _ n (at_ hj e1) (at_ hl' e2) b
  · obtain ⟨h1, k, h2⟩ := r.lent q hq
    have hj : q.1 ≠ i := fun z => freeSl_ne hf k (by rw [← z]; exact h2)
    rw [get_set_ne hj, get_set_ne hj]
    exact ⟨h1, k, h2⟩
  · have hj : j ≠ i := fun z => by
      rw [z, List.getElem?_set_self hl] at e
      cases e
    rw [get_set_ne hj] at e
    exact r.nl j k e
theorem RS.toCell {p : Addr} {o : HO} {i : Nat} {vs : List V} {xs : List D} (r : RS K (gadd g p o) F H σ S) (hG : g.G p = none) (hB : ¬ g.B p) (hv : H p = some (.lst vs)) (h : RepL K F vs xs) (hf : freeSl S i = true) :
    RS K g F H (σ.set i (some (.ref p))) (S.set i (some (.c true (.lst xs)))) := r.toK hG hB ⟨rfl, vs, hv, h⟩ hf
/-- a cell of the frame's own is known from now on: its slot is given up -/
theorem RS.freezeSlot {i : Nat} {k : Cell} (r : RS K g F H σ S) (hk : S[i]? = some (some (.c true k))) :
    ∃ a ob, σ[i]? = some (some (.ref a)) ∧ F a = none ∧ RS K g (upd F a ob) H (σ.set i none) (S.set i none) ∧ Rep K (upd F a ob) (.ref a) k.d := by
  obtain ⟨fp, r⟩ := r
  obtain ⟨a, ha, hc, hf⟩ := r.cel i true k hk
  have ef := hc.fp1
  obtain ⟨f1, f2, f3⟩ := hf a hc.mem
  have hB := f3 rfl
  have hob : ∃ ob, H a = some ob ∧ Rep K (upd F a ob) (.ref a) k.d := by
    cases k with
    | lst xs =>
      obtain ⟨_, ws, hw, rl⟩ := hc
      exact ⟨_, hw, .lst upd_same (rl.mono (sameNew f1))⟩
    | ins C ns ds =>
      obtain ⟨_, dx, ws, hw, l, rl⟩ := hc
      exact ⟨_, hw, .ins upd_same l (rl.mono (sameNew f1))⟩
  obtain ⟨ob, hw, rep⟩ := hob
  have hli := (List.getElem?_eq_some_iff.mp hk).1
  have hls : i < σ.length := by rw [← r.len]; exact hli
  have back : ∀ {j : Nat} {x : Sl}, (S.set i none)[j]? = some (some x) → j ≠ i ∧ S[j]? = some (some x) := fun {j x} q => by
    by_cases hj : j = i
    · subst hj; rw [List.getElem?_set_self hli] at q; cases q
    · rw [get_set_ne hj] at q; exact ⟨hj, q⟩
  refine ⟨a, ob, ha, f1, ⟨fp, fun b u q => ?_, r.gf, fun b hb => ?_, fun j d q => ?_, fun j o k q => ?_, fun j l o k o' k' n e1 e2 => r.ap j l o k o' k' n (back e1).2 (back e2).2, by rw [List.length_set, List.length_set]; exact r.len, fun p hp => ?_, fun j k q => r.nl j k (back q).2, ?tb⟩, rep⟩
  case tb =>
    obtain ⟨u, hu, nu⟩ := hc.nt
    rw [hw] at hu
    rw [← Option.some.inj hu] at nu
    refine ⟨r.tb.t, noTbl_upd r.tb.f nu.1, r.tb.g, fun b q z => ?_⟩
    by_cases e : b = a
    · rw [e, hw] at z; exact absurd (Option.some.inj z) (nu.2 _)
    · rw [upd_ne e]; exact r.tb.c b q z
  · by_cases hb : b = a
    · rw [hb, upd_same] at q; rw [hb, hw]; exact q
    · rw [upd_ne hb] at q; exact r.fh b u q
  · obtain ⟨h1, h2⟩ := r.nb b hb
    rw [upd_ne (fun z => hB (by rw [← z]; exact hb))]
    exact ⟨h1, h2⟩
  · obtain ⟨hj, q⟩ := back q
    obtain ⟨v, h1, h2⟩ := r.val j d q
    exact ⟨v, by rw [get_set_ne hj]; exact h1, h2.mono (sameNew f1)⟩
  · obtain ⟨hj, q⟩ := back q
    obtain ⟨a2, h1, h2, h3⟩ := r.cel j o k q
    refine ⟨a2, by rw [get_set_ne hj]; exact h1, h2.mono (sameNew f1) fun _ _ _ z => z, fun b hb => ?_⟩
    have hne : b ≠ a := fun z => r.ap j i o k true _ hj q hk b hb (by rw [z]; exact hc.mem)
    rw [upd_ne hne]
    exact h3 b hb
  · obtain ⟨h1, k, h2⟩ := r.lent p hp
    have hj : p.1 ≠ i := fun z => by rw [z, hk] at h2; cases h2
    rw [get_set_ne hj, get_set_ne hj]
    exact ⟨h1, k, h2⟩
end
end L3
set_option linter.all false
set_option maxRecDepth 100000
set_option maxHeartbeats 4000000
/-! L3, part E: loops, comprehensions, the cells' statements. -/
namespace L3
open PySem L2
section
variable {K : PySem.W.Frag} {g : Gd} {E : WX} {F H : Hp} {σ : St} {S : SS}

/-! ### while -/
def lWhile (Tc : LTT) (Tb : LTS) : LTS := fun D S => ∃ W : Nat → SS → Prop, (∃ m, W m S) ∧ ∀ m S, W m S →
  Tc S (fun k S1 => if k = true then Tb { D with nx := fun S' => ∃ m', m' < m ∧ W m' S', ct := fun S' => ∃ m', m' < m ∧ W m' S', bk := D.nx } S1 else D.nx S1) D.xr
theorem lfs_while {tc : TT} {tb : TS} {Tc : LTT} {Tb : LTS} (hc : LfT K E tc Tc) (hb : LfS K E tb Tb) : LfS K E (tWhile tc tb) (lWhile Tc Tb) := fun g σ H F S D3 D2 rs h c => by
  obtain ⟨W, ⟨m0, w0⟩, turn⟩ := h
  refine ⟨fun m σ' H' => ∃ F' S', Same F F' ∧ RS K g F' H' σ' S' ∧ W m S', ⟨m0, F, S, Same.refl F, rs, w0⟩, ?_⟩
  rintro m σ1 H1 ⟨F1, S1, e1, r1, w1⟩
  have c1 := c.step e1
  refine hc g σ1 H1 F1 S1 _ _ _ r1 (turn m S1 w1) (fun k S2 H2 F2 h2 _ e2 r2 => ?_) c1.cx
  cases k with
  | true =>
    refine ⟨fun σ' H' => ∃ m', m' < m ∧ ∃ F' S', Same F F' ∧ RS K g F' H' σ' S' ∧ W m' S', fun σ' H' h => h, ?_⟩
    refine hb g σ1 H2 F2 S2 _ _ r2 h2 ⟨?_, (c1.step e2).rt, ?_, ?_, (c1.step e2).xr⟩
    · rintro S' σ' H' F' ⟨m', hm, w'⟩ e r
      exact ⟨m', hm, F', S', e1.trans (e2.trans e), r, w'⟩
    · exact fun S' σ' H' F' q e r => (c1.step e2).nx S' σ' H' F' q e r
    · rintro S' σ' H' F' ⟨m', hm, w'⟩ e r
      exact ⟨m', hm, F', S', e1.trans (e2.trans e), r, w'⟩
  | false => exact c1.nx S2 σ1 H2 F2 h2 e2 r2

/-! ### for -/
/-- the iterator gives the trees ds, one after another -/
def ItD (K : PySem.W.Frag) (F0 : Hp) (J : It) (ds : List D) : Prop := ∀ (g : Gd) (F H : Hp) (σ : St) (S : SS), Same F0 F → RS K g F H σ S →
  J.stop ds.length H ∧ (∀ i, i < ds.length → J.go i H) ∧ ∀ (i : Nat) (d : D) (x : V) (H' : Hp), ds[i]? = some d → J.yld i H x H' → ∃ F', Same F F' ∧ RS K g F' H' σ S ∧ Rep K F' x d
abbrev LTI := SS → (List D → SS → Prop) → XR → Prop
def LfI (K : PySem.W.Frag) (E : WX) (wi : TI) (T : LTI) : Prop :=
  ∀ (g : Gd) (σ : St) (H F : Hp) (S : SS) (Q : List D → SS → Prop) (R : XR) (Q' : It → Hp → Prop), RS K g F H σ S → T S Q R →
    (∀ ds S' J H' F', Q ds S' → CS S S' → Same F F' → RS K g F' H' σ S' → ItD K F' J ds → Q' J H') → CX3 K g σ F S R E → wi σ H Q'
def forWP : List D → (D → SS → En → Prop) → En → SS → Prop
  | [], _, D, S => D.nx S
  | d :: ds, b, D, S => b d S { D with nx := forWP ds b D, ct := forWP ds b D, bk := D.nx }
def lFor (Ti : LTI) (G : LG) (Tb : LTS) : LTS := fun D S => Ti S (fun ds S1 => forWP ds (fun d S D' => G d S (Tb D') D'.xr) D S1) D.xr
theorem lfs_for {wi : TI} {gt : TG} {tb : TS} {Ti : LTI} {G : LG} {Tb : LTS} (hi : LfI K E wi Ti) (hg : LfG K E gt G) (hb : LfS K E tb Tb) : LfS K E (tFor wi gt tb) (lFor Ti G Tb) := fun g σ H F S D3 D2 rs h c => by
  refine hi g σ H F S _ _ _ rs h (fun ds S1 J H1 F1 h1 _ e1 r1 it => ?_) c.cx
  have c1 := c.step e1
  refine ⟨fun i m σ' H' => m = ds.length - i ∧ i ≤ ds.length ∧ ∃ F' S', Same F1 F' ∧ RS K g F' H' σ' S' ∧ forWP (ds.drop i) (fun d S D' => G d S (Tb D') D'.xr) D3 S',
    ⟨ds.length, by simp, Nat.zero_le _, F1, S1, Same.refl F1, r1, h1⟩, ?_⟩
  rintro i m σ2 H2 ⟨rfl, hle, F2, S2, e2, r2, h2⟩
  obtain ⟨stop, go, yld⟩ := it g F2 H2 σ2 S2 e2 r2
  have c2 := c1.step e2
  by_cases hlt : i < ds.length
  · refine .inr ⟨go i hlt, fun σ' H' => ∃ F' S', Same F1 F' ∧ RS K g F' H' σ' S' ∧ forWP (ds.drop (i + 1)) (fun d S D' => G d S (Tb D') D'.xr) D3 S', ?_, fun x H3 y => ?_⟩
    · rintro σ' H' ⟨F', S', e, r, q⟩
      exact ⟨ds.length - (i + 1), by omega, rfl, hlt, F', S', e, r, q⟩
    · obtain ⟨F3, e3, r3, rep⟩ := yld i ds[i] x H3 (by simp [hlt]) y
      rw [List.drop_eq_getElem_cons hlt] at h2
      refine hg g x _ σ2 H3 F3 S2 _ _ _ r3 (.inl rep) h2 (fun S4 σ4 H4 F4 q4 e4 r4 => ?_) fun cl fs S4 dx σ4 H4 F4 q e r x => c2.xr cl fs S4 dx σ4 H4 F4 q (e3.trans e) r x
      have back : ∀ S' σ' H' F', forWP (ds.drop (i + 1)) (fun d S D' => G d S (Tb D') D'.xr) D3 S' → Same F4 F' → RS K g F' H' σ' S' → ∃ F' S', Same F1 F' ∧ RS K g F' H' σ' S' ∧ forWP (ds.drop (i + 1)) (fun d S D' => G d S (Tb D') D'.xr) D3 S' :=
        fun S' σ' H' F' q e r => ⟨F', S', e2.trans (e3.trans (e4.trans e)), r, q⟩
      have c4 := (c2.step e3).step e4
      exact hb g σ4 H4 F4 S4 _ _ r4 q4 ⟨back, c4.rt, c4.nx, back, c4.xr⟩
  · have e : i = ds.length := by omega
    subst e
    rw [List.drop_length] at h2
    exact .inl ⟨stop, c2.nx S2 σ2 H2 F2 h2 (Same.refl F2) r2⟩
theorem itl_D {a : Addr} {vs : List V} {ds : List D} (h : F a = some (.lst vs)) (r : RepL K F vs ds) : ItD K F (Itl K a) ds := fun g F2 H2 σ S e rs => by
  have hl := r.length
  have hH : SqL K H2 a vs := SqL.of (rs.fh' _ _ (e _ _ h))
  refine ⟨⟨vs, hH, by omega⟩, fun i hi => ?_, fun i d x H' hd hy => ?_⟩
  · have hi' : i < vs.length := by omega
    exact ⟨vs, vs[i], hH, by simp [hi']⟩
  · obtain ⟨rfl, hy⟩ := hy
    obtain ⟨v, hv, rep⟩ := (r.mono e).get hd
    have := hy vs hH
    rw [hv] at this
    cases this
    exact ⟨F2, Same.refl F2, rs, rep⟩
/-- the script: a list that is known -/
theorem itlf_D {a : Addr} {vs : List V} {ds : List D} (h : SqL K F a vs) (r : RepL K F vs ds) : ItD K F (Itl K a) ds := fun g F2 H2 σ S e rs => by
  have hl := r.length
  have hH : SqL K H2 a vs := Same.seq (e.trans rs.fh') h
  refine ⟨⟨vs, hH, by omega⟩, fun i hi => ?_, fun i d x H' hd hy => ?_⟩
  · have hi' : i < vs.length := by omega
    exact ⟨vs, vs[i], hH, by simp [hi']⟩
  · obtain ⟨rfl, hy⟩ := hy
    obtain ⟨v, hv, rep⟩ := (r.mono e).get hd
    have := hy vs hH
    rw [hv] at this
    cases this
    exact ⟨F2, Same.refl F2, rs, rep⟩
theorem itt_D {a : Addr} {vs : List V} {ds : List D} (h : SqT K F a vs) (r : RepL K F vs ds) : ItD K F (Itt K a) ds := fun g F2 H2 σ S e rs => by
  have hl := r.length
  have hH : SqT K H2 a vs := sameT (e.trans rs.fh') h
  refine ⟨⟨vs, hH, by omega⟩, fun i hi => ?_, fun i d x H' hd hy => ?_⟩
  · have hi' : i < vs.length := by omega
    exact ⟨vs, vs[i], hH, by simp [hi']⟩
  · obtain ⟨rfl, hy⟩ := hy
    obtain ⟨v, hv, rep⟩ := (r.mono e).get hd
    have := hy vs hH
    rw [hv] at this
    cases this
    exact ⟨F2, Same.refl F2, rs, rep⟩
/-- a frozen list -/
def lItL (T : LT) : LTI := fun S Q R => T S (fun d S1 => match d with
  | .lst xs => Q xs S1
  | .lsf xs => Q xs S1
  | _ => False) R
def lItT (T : LT) : LTI := fun S Q R => T S (fun d S1 => match d with
  | .tup xs => Q xs S1
  | _ => False) R
theorem lfi_list {t : TE} {T : LT} (h : Lf K E t T) : LfI K E (iList K t) (lItL T) := fun g σ H F S Q R Q' rs q hq hx => by
  refine h g σ H F S _ R _ rs q (fun d S1 v1 H1 F1 h1 c1 e1 r1 w1 => ?_) hx
  split at h1
  · rename_i xs
    have rep := w1.rep rfl
    cases rep with
    | @lst a vs _ hF rl =>
      exact ⟨a, rfl, ⟨vs, SqL.of (r1.fh' _ _ hF)⟩, hq xs S1 _ H1 F1 h1 c1 e1 r1 (itl_D hF rl)⟩
  · rename_i xs
    have rep := w1.rep rfl
    cases rep with
    | @lsf a vs _ hF rl =>
      exact ⟨a, rfl, ⟨vs, Same.seq r1.fh' hF⟩, hq xs S1 _ H1 F1 h1 c1 e1 r1 (itlf_D hF rl)⟩
  · exact h1.elim
theorem lfi_tup {t : TE} {T : LT} (h : Lf K E t T) : LfI K E (iTup K t) (lItT T) := fun g σ H F S Q R Q' rs q hq hx => by
  refine h g σ H F S _ R _ rs q (fun d S1 v1 H1 F1 h1 c1 e1 r1 w1 => ?_) hx
  split at h1
  · rename_i xs
    have rep := w1.rep rfl
    cases rep with
    | @tup a vs _ hF rl =>
      exact ⟨a, rfl, ⟨vs, sameT r1.fh' hF⟩, hq xs S1 _ H1 F1 h1 c1 e1 r1 (itt_D hF rl)⟩
  · exact h1.elim
/-- range -/
def rangeD (lo : Int) (n : Nat) : List D := (List.range n).map fun i => D.int (lo + (i : Nat))
theorem itr_D {lo : Int} {n : Nat} : ItD K F (Itr lo n) (rangeD lo n) := fun g F2 H2 σ S e rs => by
  unfold rangeD
  refine ⟨?_, fun i hi => ?_, fun i d x H' hd hy => ?_⟩
  · show n ≤ _
    simp
  · show i < n
    simpa using hi
  · obtain ⟨rfl, rfl⟩ := hy
    rw [List.getElem?_map] at hd
    cases q : (List.range n)[i]? with
    | none => rw [q] at hd; cases hd
    | some j =>
      rw [q] at hd
      cases hd
      have : j = i := by
        have := List.getElem?_eq_some_iff.mp q
        obtain ⟨h, e⟩ := this
        simpa using e.symm
      subst this
      exact ⟨F2, Same.refl F2, rs, .int _⟩
@[simp] def lRng1 (Ts : LTs) : LTI := fun S Q R => Ts S (fun ds S1 => match ds with
  | [d] => match look S1 d with
    | .int j => (-(2 ^ 62) ≤ j ∧ j < 2 ^ 62) ∧ Q (rangeD 0 j.toNat) S1
    | _ => False
  | _ => False) R
@[simp] def lRng2 (Ts : LTs) : LTI := fun S Q R => Ts S (fun ds S1 => match ds with
  | [d, e] => lookI (look S1 d) (look S1 e) fun i j => (-(2 ^ 62) ≤ i ∧ i < 2 ^ 62 ∧ -(2 ^ 62) ≤ j ∧ j < 2 ^ 62) ∧ Q (rangeD i (j - i).toNat) S1
  | _ => False) R
theorem lfi_rng1 {t : TA} {T : LTs} (h : LfA K E t T) : LfI K E (iRng1 t) (lRng1 T) := fun g σ H F S Q R Q' rs q hq hx => by
  refine h g σ H F S _ R _ rs q (fun ds S1 vs H1 F1 h1 c1 e1 r1 w1 => ?_) hx
  split at h1
  · cases w1 with
    | cons w wt =>
      cases wt
      have w' := w.look r1
      split at h1
      · rename_i j e
        rw [e] at w'
        rw [w'.intI]
        exact ⟨j, rfl, h1.1.1, h1.1.2, hq _ S1 _ H1 F1 h1.2 c1 e1 r1 itr_D⟩
      · exact h1.elim
  · exact h1.elim
theorem lfi_rng2 {t : TA} {T : LTs} (h : LfA K E t T) : LfI K E (iRng2 t) (lRng2 T) := fun g σ H F S Q R Q' rs q hq hx => by
  refine h g σ H F S _ R _ rs q (fun ds S1 vs H1 F1 h1 c1 e1 r1 w1 => ?_) hx
  split at h1
  · cases w1 with
    | cons w wt =>
      cases wt with
      | cons w2 wt =>
        cases wt
        obtain ⟨i, j, _, _, rfl, rfl, hb, p⟩ := lookI_of (w.look r1) (w2.look r1) h1
        exact ⟨i, j, rfl, hb, hq _ S1 _ H1 F1 p c1 e1 r1 itr_D⟩
  · exact h1.elim
/-- enumerate(a frozen list) -/
def enumFrom : Nat → List D → List D
  | _, [] => []
  | n, d :: r => .tup [.int (n : Nat), d] :: enumFrom (n + 1) r
theorem enum_len : ∀ (n : Nat) (ds : List D), (enumFrom n ds).length = ds.length
  | _, [] => rfl
  | n, d :: r => by show (enumFrom (n + 1) r).length + 1 = r.length + 1; rw [enum_len]
theorem enum_get : ∀ (n : Nat) (ds : List D) (i : Nat) (d : D), (enumFrom n ds)[i]? = some d → ∃ e, ds[i]? = some e ∧ d = .tup [.int ((n + i : Nat) : Int), e]
  | _, [], i, d, h => by simp [enumFrom] at h
  | n, e :: r, 0, d, h => by
    simp [enumFrom] at h
    exact ⟨e, rfl, h.symm⟩
  | n, e :: r, i + 1, d, h => by
    have h' : (enumFrom (n + 1) r)[i]? = some d := by simpa [enumFrom] using h
    obtain ⟨e', h1, h2⟩ := enum_get (n + 1) r i d h'
    refine ⟨e', by simpa using h1, ?_⟩
    rw [h2]
    have : n + 1 + i = n + (i + 1) := by omega
    rw [this]
theorem ite_D {a : Addr} {vs : List V} {ds : List D} (h : F a = some (.lst vs)) (r : RepL K F vs ds) : ItD K F (Ite K a) (enumFrom 0 ds) := fun g F2 H2 σ S e rs => by
  have hl := r.length
  have hH : SqL K H2 a vs := SqL.of (rs.fh' _ _ (e _ _ h))
  rw [enum_len]
  refine ⟨⟨vs, hH, by omega⟩, fun i hi => ?_, fun i d x H' hd hy => ?_⟩
  · have hi' : i < vs.length := by omega
    exact ⟨vs, vs[i], hH, by simp [hi']⟩
  · obtain ⟨T, y, rfl, hT, rfl, hy⟩ := hy
    obtain ⟨d', hd', rfl⟩ := enum_get _ _ _ _ hd
    obtain ⟨v, hv, rep⟩ := (r.mono e).get hd'
    have := hy vs hH
    rw [hv] at this
    cases this
    refine ⟨_, sameNew (rs.free hT), rs.new hT, .tup (SqT.of upd_same) ?_⟩
    refine .cons ?_ (.cons (rep.mono (sameNew (rs.free hT))) .nil)
    rw [Nat.zero_add]
    exact .int _
def lEnum (Ts : LTs) : LTI := fun S Q R => Ts S (fun ds S1 => match ds with
  | [.lst xs] => Q (enumFrom 0 xs) S1
  | _ => False) R
theorem lfi_enum {t : TA} {T : LTs} (h : LfA K E t T) : LfI K E (iEnum K t) (lEnum T) := fun g σ H F S Q R Q' rs q hq hx => by
  refine h g σ H F S _ R _ rs q (fun ds S1 vs H1 F1 h1 c1 e1 r1 w1 => ?_) hx
  split at h1
  · rename_i xs
    cases w1 with
    | cons w wt =>
      cases wt
      have rep := w.rep rfl
      cases rep with
      | @lst a vs _ hF rl =>
        exact ⟨a, vs, rfl, SqL.of (r1.fh' _ _ hF), hq _ S1 _ H1 F1 h1 c1 e1 r1 (ite_D hF rl)⟩
  · exact h1.elim

/-! ### comprehensions -/
def wipeL (S : SS) : List Nat → SS
  | [] => S
  | v :: vs => (wipeL S vs).set v none
theorem wipeL_length (S : SS) : ∀ vs : List Nat, (wipeL S vs).length = S.length
  | [] => rfl
  | v :: vs => by
    show ((wipeL S vs).set v none).length = _
    rw [List.length_set, wipeL_length S vs]
/-- the block's own slots hold nothing of the frame's -/
def bare (S : SS) (vs : List Nat) : Bool := vs.all fun i => match S[i]? with
  | some (some (.c _ _)) => false
  | _ => true
def compWP : List D → (D → SS → (Option D → SS → Prop) → Prop) → List D → SS → (D → SS → Prop) → Prop
  | [], _, acc, S, Q => Q (.lst acc) S
  | d :: ds, b, acc, S, Q => b d S fun o S' => match o with
    | some y => isCel y = false ∧ acc.length < sizeLine ∧ compWP ds b (acc ++ [y]) S' Q
    | none => compWP ds b acc S' Q
def RF : XR := fun _ _ _ => False
/-- the block's slots as they were ahead of it -/
def backL (S1 S : SS) : List Nat → SS
  | [] => S
  | v :: vs => (backL S1 S vs).set v (match S1[v]? with
    | some x => x
    | none => none)
def lLc (Ti : LTI) (G : LG) (Tt : LTT) (Te : LT) (vs : List Nat) : LT := fun S Q R => Ti S (fun ds S1 => bare S1 vs = true ∧
  compWP ds (fun d S k => G d S (fun S2 => Tt S2 (fun b S3 => if b = true then Te S3 (fun y S4 => k (some y) (wipeL S4 vs)) RF else k none (wipeL S3 vs)) RF) RF) [] (wipeL S1 vs) (fun d S2 => Q d (backL S1 S2 vs))) R
@[simp] def lYes : LTT := fun S Q _ => Q true S
theorem lft_yes : LfT K E tYes lYes := fun g σ H F S Q R Q' rs h hq hx => hq true S H F h (CS.refl S) (Same.refl F) rs

theorem wipeL_at : ∀ (vs : List Nat) (i : Nat), (i ∈ vs → (wipeL S vs)[i]? = none ∨ (wipeL S vs)[i]? = some none) ∧ (i ∉ vs → (wipeL S vs)[i]? = S[i]?)
  | [], i => ⟨fun h => absurd h (by simp), fun _ => rfl⟩
  | v :: vs, i => by
    obtain ⟨h1, h2⟩ := wipeL_at vs i
    refine ⟨fun h => ?_, fun h => ?_⟩
    · show ((wipeL S vs).set v none)[i]? = none ∨ ((wipeL S vs).set v none)[i]? = some none
      by_cases hv : i = v
      · subst hv
        by_cases hl : i < (wipeL S vs).length
        · right; rw [List.getElem?_set_self hl]
        · left; rw [List.getElem?_eq_none_iff, List.length_set]; omega
      · rw [get_set_ne hv]
        exact h1 ((List.mem_cons.mp h).resolve_left hv)
    · show ((wipeL S vs).set v none)[i]? = S[i]?
      have hv : i ≠ v := fun z => h (by rw [z]; exact List.mem_cons_self)
      rw [get_set_ne hv]
      exact h2 fun z => h (List.mem_cons_of_mem _ z)
theorem wipe_at : ∀ (vs : List Nat) (i : Nat), i ∉ vs → (wipe σ vs)[i]? = σ[i]?
  | [], i, _ => rfl
  | v :: vs, i, h => by
    show ((wipe σ vs).set v none)[i]? = σ[i]?
    have hv : i ≠ v := fun z => h (by rw [z]; exact List.mem_cons_self)
    rw [get_set_ne hv]
    exact wipe_at vs i fun z => h (List.mem_cons_of_mem _ z)
theorem wipe_set {x : Option V} : ∀ (vs : List Nat) (i : Nat), i ∈ vs → wipe (σ.set i x) vs = wipe σ vs
  | [], i, h => absurd h (by simp)
  | v :: vs, i, h => by
    show (wipe (σ.set i x) vs).set v none = (wipe σ vs).set v none
    by_cases hm : i ∈ vs
    · rw [wipe_set vs i hm]
    · have hv : i = v := (List.mem_cons.mp h).resolve_right hm
      subst hv
      have out : ∀ (ws : List Nat) (τ : St), i ∉ ws → wipe (τ.set i x) ws = (wipe τ ws).set i x := by
        intro ws
        induction ws with
        | nil => intro τ _; rfl
        | cons w ws ih =>
          intro τ hw
          show (wipe (τ.set i x) ws).set w none = ((wipe τ ws).set w none).set i x
          rw [ih τ fun z => hw (List.mem_cons_of_mem _ z)]
          exact List.set_comm _ _ (fun z => hw (by rw [z]; exact List.mem_cons_self))
      rw [out vs σ hm, List.set_set]
theorem wipe_wipe : ∀ (vs ws : List Nat), (∀ v ∈ ws, v ∈ vs) → wipe (wipe σ ws) vs = wipe σ vs
  | vs, [], _ => rfl
  | vs, w :: ws, h => by
    show wipe ((wipe σ ws).set w none) vs = wipe σ vs
    rw [wipe_set vs w (h w List.mem_cons_self)]
    exact wipe_wipe vs ws fun v hv => h v (List.mem_cons_of_mem _ hv)
theorem wipeL_out {x : Option Sl} : ∀ (ws : List Nat) (τ : SS) (i : Nat), i ∉ ws → wipeL (τ.set i x) ws = (wipeL τ ws).set i x
  | [], τ, i, _ => rfl
  | w :: ws, τ, i, hw => by
    show (wipeL (τ.set i x) ws).set w none = ((wipeL τ ws).set w none).set i x
    rw [wipeL_out ws τ i fun z => hw (List.mem_cons_of_mem _ z)]
    exact List.set_comm _ _ (fun z => hw (by rw [z]; exact List.mem_cons_self))
theorem wipeL_set {x : Option Sl} : ∀ (vs : List Nat) (i : Nat), i ∈ vs → wipeL (S.set i x) vs = wipeL S vs
  | [], i, h => absurd h (by simp)
  | v :: vs, i, h => by
    show (wipeL (S.set i x) vs).set v none = (wipeL S vs).set v none
    by_cases hm : i ∈ vs
    · rw [wipeL_set vs i hm]
    · have hv : i = v := (List.mem_cons.mp h).resolve_right hm
      subst hv
      rw [wipeL_out vs S i hm, List.set_set]
theorem wipeL_wipeL : ∀ (vs ws : List Nat), (∀ v ∈ ws, v ∈ vs) → wipeL (wipeL S ws) vs = wipeL S vs
  | vs, [], _ => rfl
  | vs, w :: ws, h => by
    show wipeL ((wipeL S ws).set w none) vs = wipeL S vs
    rw [wipeL_set vs w (h w List.mem_cons_self)]
    exact wipeL_wipeL vs ws fun v hv => h v (List.mem_cons_of_mem _ hv)
theorem bare_ne {vs : List Nat} (h : bare S vs = true) {i : Nat} {o : Bool} {k : Cell} (e : S[i]? = some (some (.c o k))) : i ∉ vs := fun z => by
  have := List.all_eq_true.mp h i z
  rw [e] at this
  cases this
theorem RS.wiped {vs : List Nat} (r : RS K g F H σ S) (h : bare S vs = true) : RS K g F H (wipe σ vs) (wipeL S vs) := by
  obtain ⟨fp, r⟩ := r
  have out : ∀ {i : Nat} {x : Sl}, (wipeL S vs)[i]? = some (some x) → i ∉ vs ∧ S[i]? = some (some x) := fun {i x} e => by
    by_cases hi : i ∈ vs
    · rcases (wipeL_at (S := S) vs i).1 hi with z | z <;> rw [z] at e <;> cases e
    · exact ⟨hi, by rw [← (wipeL_at (S := S) vs i).2 hi]; exact e⟩
  refine ⟨fp, r.fh, r.gf, r.nb, fun i d e => ?_, fun i o k e => ?_, fun i j o k o' k' n e1 e2 => r.ap i j o k o' k' n (out e1).2 (out e2).2, by rw [wipeL_length, wipe_length]; exact r.len, fun p hp => ?_, fun i k e => r.nl i k (out e).2, r.tb⟩
  · obtain ⟨h1, h2⟩ := out e
    rw [wipe_at vs i h1]
    exact r.val i d h2
  · obtain ⟨h1, h2⟩ := out e
    rw [wipe_at vs i h1]
    exact r.cel i o k h2
  · obtain ⟨h1, k, h2⟩ := r.lent p hp
    have hn := bare_ne h h2
    rw [wipe_at vs _ hn, (wipeL_at (S := S) vs _).2 hn]
    exact ⟨h1, k, h2⟩
theorem backL_at {S1 : SS} : ∀ (vs : List Nat) (i : Nat), (backL S1 S vs).length = S.length ∧ (i ∉ vs → (backL S1 S vs)[i]? = S[i]?) ∧ (i ∈ vs → i < S.length → (backL S1 S vs)[i]? = some (match S1[i]? with
    | some x => x
    | none => none))
  | [], i => ⟨rfl, fun _ => rfl, fun h => absurd h (by simp)⟩
  | v :: vs, i => by
    obtain ⟨h0, h1, h2⟩ := backL_at (S1 := S1) vs i
    refine ⟨by show ((backL S1 S vs).set v _).length = _; rw [List.length_set]; exact h0, fun h => ?_, fun h hl => ?_⟩
    · show ((backL S1 S vs).set v _)[i]? = S[i]?
      have hv : i ≠ v := fun z => h (by rw [z]; exact List.mem_cons_self)
      rw [get_set_ne hv]
      exact h1 fun z => h (List.mem_cons_of_mem _ z)
    · show ((backL S1 S vs).set v _)[i]? = _
      by_cases hv : i = v
      · subst hv
        rw [List.getElem?_set_self (by rw [h0]; exact hl)]
      · rw [get_set_ne hv]
        exact h2 ((List.mem_cons.mp h).resolve_left hv) hl
/-- behind the block: the frame's slots as before, its cells as they are now -/
theorem RS.back {vs : List Nat} {S1 : SS} {F1 H1 : Hp} (r1 : RS K g F1 H1 σ S1) (h : bare S1 vs = true) (e : Same F1 F) (r : RS K g F H (wipe σ vs) S) (c : CS (wipeL S1 vs) S) : RS K g F H σ (backL S1 S vs) ∧ CS S1 (backL S1 S vs) := by
  have lenS : S.length = S1.length := by rw [c.1, wipeL_length]
  obtain ⟨fp1, r1⟩ := r1
  obtain ⟨fp, r⟩ := r
  have at_out : ∀ {i : Nat}, i ∉ vs → (backL S1 S vs)[i]? = S[i]? := fun {i} hi => (backL_at vs i).2.1 hi
  have at_in : ∀ {i : Nat}, i ∈ vs → (backL S1 S vs)[i]? = S1[i]? := fun {i} hi => by
    by_cases hl : i < S.length
    · rw [(backL_at vs i).2.2 hi hl]
      cases q : S1[i]? with
      | some x => rfl
      | none => rw [List.getElem?_eq_none_iff] at q; omega
    · rw [List.getElem?_eq_none_iff.mpr (by rw [(backL_at (S1 := S1) vs i).1]; omega), List.getElem?_eq_none_iff.mpr (by omega)]
  have cout : ∀ {i : Nat} {o : Bool} {k : Cell}, (backL S1 S vs)[i]? = some (some (.c o k)) → i ∉ vs ∧ S[i]? = some (some (.c o k)) := fun {i o k} q => by
    by_cases hi : i ∈ vs
    · rw [at_in hi] at q
      exact absurd hi (bare_ne h q)
    · exact ⟨hi, by rw [← at_out hi]; exact q⟩
  refine ⟨⟨fp, r.fh, r.gf, r.nb, fun i d q => ?_, fun i o k q => ?_, fun i j o k o' k' n e1 e2 => r.ap i j o k o' k' n (cout e1).2 (cout e2).2, by rw [(backL_at (S1 := S1) vs 0).1, lenS]; exact r1.len, fun p hp => ?_, fun i k q => r.nl i k (cout q).2, r.tb⟩, by rw [(backL_at (S1 := S1) vs 0).1, lenS], fun i => ⟨fun d q => ?_, fun o k q => ?_, fun q => ?_⟩⟩
  · by_cases hi : i ∈ vs
    · rw [at_in hi] at q
      obtain ⟨v, hv, rep⟩ := r1.val i d q
      exact ⟨v, hv, rep.mono e⟩
    · rw [at_out hi] at q
      obtain ⟨v, hv, rep⟩ := r.val i d q
      rw [wipe_at vs i hi] at hv
      exact ⟨v, hv, rep⟩
  · obtain ⟨hi, q⟩ := cout q
    obtain ⟨a, ha, hc⟩ := r.cel i o k q
    rw [wipe_at vs i hi] at ha
    exact ⟨a, ha, hc⟩
  · obtain ⟨h1, k, h2⟩ := r1.lent p hp
    have hn := bare_ne h h2
    refine ⟨h1, ?_⟩
    obtain ⟨k', hk'⟩ := (c.2 p.1).2.1 false k (by rw [(wipeL_at (S := S1) vs _).2 hn]; exact h2)
    exact ⟨k', by rw [at_out hn]; exact hk'⟩
  · by_cases hi : i ∈ vs
    · rw [at_in hi]; exact q
    · rw [at_out hi]
      exact (c.2 i).1 d (by rw [(wipeL_at (S := S1) vs _).2 hi]; exact q)
  · have hi := bare_ne h q
    obtain ⟨k', hk'⟩ := (c.2 i).2.1 o k (by rw [(wipeL_at (S := S1) vs _).2 hi]; exact q)
    exact ⟨k', by rw [at_out hi]; exact hk'⟩
  · by_cases hi : i ∈ vs
    · rw [at_in hi]; exact q
    · rw [at_out hi]
      exact (c.2 i).2.2 (by rw [(wipeL_at (S := S1) vs _).2 hi]; exact q)
/-- a target that stores to the block's own slots alone -/
def TgOwn (t : TG) (vs : List Nat) : Prop := ∀ v σ H Q Q', (∀ σ' H', Q σ' H' → wipe σ' vs = wipe σ vs → Q' σ' H') → t v σ H Q → t v σ H Q'
def TgsOwn (t : TGs) (vs : List Nat) : Prop := ∀ xs σ H Q Q', (∀ σ' H', Q σ' H' → wipe σ' vs = wipe σ vs → Q' σ' H') → t xs σ H Q → t xs σ H Q'
theorem own_name {i : Nat} {vs : List Nat} (h : i ∈ vs) : TgOwn (gName i) vs := fun v σ H Q Q' m q => m _ _ q (wipe_set vs i h)
theorem own_nil {vs : List Nat} : TgsOwn gNil vs := fun xs σ H Q Q' m q => ⟨q.1, m _ _ q.2 rfl⟩
theorem own_cons {t : TG} {u : TGs} {vs : List Nat} (h : TgOwn t vs) (hu : TgsOwn u vs) : TgsOwn (gCons t u) vs := fun xs σ H Q Q' m q => by
  obtain ⟨v, r, e, q⟩ := q
  refine ⟨v, r, e, h _ _ _ _ _ (fun σ1 H1 q w => ?_) q⟩
  exact hu _ _ _ _ _ (fun σ2 H2 q w2 => m _ _ q (w2.trans w)) q
theorem own_tup {n : Nat} {u : TGs} {vs : List Nat} (hu : TgsOwn u vs) : TgOwn (gTup K n u) vs := fun v σ H Q Q' m q => by
  obtain ⟨a, xs, e, h1, h2, q⟩ := q
  exact ⟨a, xs, e, h1, h2, hu _ _ _ _ _ m q⟩
/-- the same of a lifted target -/
def LgOwn (G : LG) (vs : List Nat) : Prop := ∀ d S Q Q' R, (∀ S', Q S' → wipeL S' vs = wipeL S vs → (bare S vs = true → bare S' vs = true) → Q' S') → G d S Q R → G d S Q' R
def LgsOwn (G : LGs) (vs : List Nat) : Prop := ∀ ds S Q Q' R, (∀ S', Q S' → wipeL S' vs = wipeL S vs → (bare S vs = true → bare S' vs = true) → Q' S') → G ds S Q R → G ds S Q' R
theorem bare_set {vs : List Nat} {i : Nat} {d : D} (h : bare S vs = true) : bare (S.set i (some (.v d))) vs = true := by
  unfold bare at h ⊢
  rw [List.all_eq_true] at h ⊢
  intro j hj
  by_cases e : j = i
  · subst e
    by_cases hl : j < S.length
    · rw [List.getElem?_set_self hl]
    · rw [List.getElem?_eq_none_iff.mpr (by rw [List.length_set]; omega)]
  · rw [get_set_ne e]
    exact h j hj
theorem bare_wipe {vs : List Nat} : bare (wipeL S vs) vs = true := by
  unfold bare
  rw [List.all_eq_true]
  intro j hj
  rcases (wipeL_at (S := S) vs j).1 hj with z | z <;> rw [z]
theorem lown_name {i : Nat} {vs : List Nat} (h : i ∈ vs) : LgOwn (gNameL i) vs := fun d S Q Q' R m q => ⟨q.1, q.2.1, m _ q.2.2 (wipeL_set vs i h) bare_set⟩
theorem lown_nil {vs : List Nat} : LgsOwn gNilL vs := fun ds S Q Q' R m q => ⟨q.1, m _ q.2 rfl fun h => h⟩
theorem lown_cons {G : LG} {Gs : LGs} {vs : List Nat} (h : LgOwn G vs) (hs : LgsOwn Gs vs) : LgsOwn (gConsL G Gs) vs := fun ds S Q Q' R m q => by
  cases ds with
  | nil => exact q.elim
  | cons d r => exact h _ _ _ _ _ (fun S' q w b => hs _ _ _ _ _ (fun S2 q w2 b2 => m _ q (w2.trans w) fun z => b2 (b z)) q) q
theorem lown_tup {n : Nat} {Gs : LGs} {vs : List Nat} (hs : LgsOwn Gs vs) : LgOwn (gTupL n Gs) vs := fun d S Q Q' R m q => by
  unfold gTupL at q ⊢
  split at q
  · exact ⟨q.1, hs _ _ _ _ _ m q.2⟩
  · exact q.elim
theorem CS.wiped {S' : SS} {vs : List Nat} (c : CS S S') : CS (wipeL S vs) (wipeL S' vs) := by
  refine ⟨by rw [wipeL_length, wipeL_length]; exact c.1, fun i => ?_⟩
  by_cases hi : i ∈ vs
  · refine ⟨fun d q => ?_, fun o k q => ?_, fun q => ?_⟩
    · rcases (wipeL_at (S := S) vs i).1 hi with z | z <;> rw [z] at q <;> cases q
    · rcases (wipeL_at (S := S) vs i).1 hi with z | z <;> rw [z] at q <;> cases q
    · rcases (wipeL_at (S := S') vs i).1 hi with z | z
      · rw [List.getElem?_eq_none_iff, wipeL_length, c.1, ← wipeL_length S vs] at z
        have := (List.getElem?_eq_some_iff.mp q).1
        omega
      · exact z
  · rw [(wipeL_at (S := S) vs i).2 hi, (wipeL_at (S := S') vs i).2 hi]
    exact c.2 i
theorem bare_cs {S' : SS} {vs : List Nat} (h : bare S vs = true) (c : CS S S') : bare S' vs = true := by
  unfold bare at h ⊢
  rw [List.all_eq_true] at h ⊢
  intro j hj
  have hj' := h j hj
  cases e : S[j]? with
  | none =>
    rw [List.getElem?_eq_none_iff.mpr (by rw [c.1]; exact List.getElem?_eq_none_iff.mp e)]
  | some x =>
    cases x with
    | none => rw [(c.2 j).2.2 e]
    | some x =>
      cases x with
      | v d => rw [(c.2 j).1 d e]
      | c o k => rw [e] at hj'; cases hj'
def E0w : WX := fun _ _ _ _ => False
theorem lf_lc {wi : TI} {gt : TG} {tt : TT} {te : TE} {Ti : LTI} {G : LG} {Tt : LTT} {Te : LT} {vs : List Nat} (hi : LfI K E wi Ti) (hg : LfG K E0w gt G) (ho : TgOwn gt vs) (hlo : LgOwn G vs) (ht : LfT K E0w tt Tt) (he : Lf K E0w te Te) :
    Lf K E (tLc wi gt tt te vs) (lLc Ti G Tt Te vs) := fun g σ H F S Q R Q' rs h hq hx => by
  refine hi g σ H F S _ R _ rs h (fun ds S1 J H1 F1 h1 c1 e1 r1 it p hp => ?_) hx
  obtain ⟨hb, h1⟩ := h1
  obtain ⟨rp, hG, hB⟩ := r1.pend (o := .lst []) hp
  have rw1 : RS K (gadd g p (.lst [])) F1 (upd H1 p (.lst [])) (wipe σ vs) (wipeL S1 vs) := rp.wiped hb
  refine ⟨fun i m H' => m = ds.length - i ∧ i ≤ ds.length ∧ ∃ F' S' acc ws, Same F1 F' ∧ RS K (gadd g p (.lst ws)) F' H' (wipe σ vs) S' ∧ RepL K F' ws acc ∧ (CS (wipeL S1 vs) S' ∧ ∃ Z, S' = wipeL Z vs) ∧ compWP (ds.drop i) (fun d S k => G d S (fun S2 => Tt S2 (fun b S3 => if b = true then Te S3 (fun y S4 => k (some y) (wipeL S4 vs)) RF else k none (wipeL S3 vs)) RF) RF) acc S' (fun d S2 => Q d (backL S1 S2 vs)),
    ⟨ds.length, by simp, Nat.zero_le _, F1, wipeL S1 vs, [], [], Same.refl F1, rw1, .nil, ⟨CS.refl _, S1, rfl⟩, h1⟩, ?_⟩
  rintro i m H2 ⟨rfl, hle, F2, S2, acc, ws, e2, r2, hr, ⟨c2, Z, hZ⟩, h2⟩
  obtain ⟨stop, go, yld⟩ := it (gadd g p (.lst ws)) F2 H2 _ S2 e2 r2
  have hp2 : ∀ {F' H' : Hp} {τ : St} {S' : SS}, RS K (gadd g p (.lst ws)) F' H' τ S' → H' p = some (.lst ws) := fun {F' H' τ S'} r => by
    obtain ⟨fp, r⟩ := r
    exact r.gf p _ (by show upd g.G p (.lst ws) p = _; rw [upd_same])
  by_cases hlt : i < ds.length
  · refine .inr ⟨go i hlt, fun H' => ∃ F' S' acc ws, Same F1 F' ∧ RS K (gadd g p (.lst ws)) F' H' (wipe σ vs) S' ∧ RepL K F' ws acc ∧ (CS (wipeL S1 vs) S' ∧ ∃ Z, S' = wipeL Z vs) ∧ compWP (ds.drop (i + 1)) (fun d S k => G d S (fun S2 => Tt S2 (fun b S3 => if b = true then Te S3 (fun y S4 => k (some y) (wipeL S4 vs)) RF else k none (wipeL S3 vs)) RF) RF) acc S' (fun d S2 => Q d (backL S1 S2 vs)), ?_, fun x H3 y => ?_⟩
    · rintro H' ⟨F', S', acc', ws', q⟩
      exact ⟨ds.length - (i + 1), by omega, rfl, hlt, F', S', acc', ws', q⟩
    · obtain ⟨F3, e3, r3, rep⟩ := yld i ds[i] x H3 (by simp [hlt]) y
      rw [List.drop_eq_getElem_cons hlt] at h2
      have wS2 : wipeL S2 vs = S2 := by rw [hZ]; exact wipeL_wipeL vs vs fun _ h => h
      have bS2 : bare S2 vs = true := by rw [hZ]; exact bare_wipe
      have nox : ∀ {F' : Hp} {τ : St} {S' : SS}, CX3 K (gadd g p (.lst ws)) τ F' S' RF E0w := fun _ _ _ _ _ _ z => z.elim
      generalize hB3 : (fun (d : D) (S : SS) (k : Option D → SS → Prop) => G d S (fun S2 => Tt S2 (fun b S3 => if b = true then Te S3 (fun y S4 => k (some y) (wipeL S4 vs)) RF else k none (wipeL S3 vs)) RF) RF) = B3 at h2 ⊢
      have h3 : G ds[i] S2 (fun S4 => Tt S4 (fun b S5 => if b = true then Te S5 (fun y S6 => isCel y = false ∧ acc.length < sizeLine ∧ compWP (ds.drop (i + 1)) B3 (acc ++ [y]) (wipeL S6 vs) (fun d S2 => Q d (backL S1 S2 vs))) RF else compWP (ds.drop (i + 1)) B3 acc (wipeL S5 vs) (fun d S2 => Q d (backL S1 S2 vs))) RF) RF := by
        rw [← hB3] at h2 ⊢
        exact h2
      refine ho x (wipe σ vs) H3 (fun τ H4 => ∃ F4 S4, Same F3 F4 ∧ RS K (gadd g p (.lst ws)) F4 H4 τ S4 ∧ (Tt S4 (fun b S5 => if b = true then Te S5 (fun y S6 => isCel y = false ∧ acc.length < sizeLine ∧ compWP (ds.drop (i + 1)) B3 (acc ++ [y]) (wipeL S6 vs) (fun d S2 => Q d (backL S1 S2 vs))) RF else compWP (ds.drop (i + 1)) B3 acc (wipeL S5 vs) (fun d S2 => Q d (backL S1 S2 vs))) RF) ∧ wipeL S4 vs = wipeL S2 vs ∧ (bare S2 vs = true → bare S4 vs = true)) _ ?_
        (hg (gadd g p (.lst ws)) x ds[i] (wipe σ vs) H3 F3 S2 _ RF _ r3 (.inl rep) (hlo _ _ _ _ _ (fun S4 q w b => ⟨q, w, b⟩) h3) (fun S4 τ H4 F4 q e r => ⟨F4, S4, e, r, q⟩) fun _ _ _ _ _ _ _ z => z.elim)
      rintro τ H4 ⟨F4, S4, e4, r4, q4, w4, b4⟩ wτ
      have wτ' : wipe τ vs = wipe σ vs := wτ.trans (wipe_wipe vs vs fun _ h => h)
      refine ⟨wτ', ht (gadd g p (.lst ws)) τ H4 F4 S4 _ RF _ r4 q4 (fun b S5 H5 F5 q5 c5 e5 r5 => ?_) nox⟩
      have eF : Same F1 F5 := e2.trans (e3.trans (e4.trans e5))
      cases b with
      | true =>
        refine he (gadd g p (.lst ws)) τ H5 F5 S5 _ RF _ r5 q5 (fun d S6 y H6 F6 q6 c6 e6 r6 w6 => ?_) nox
        obtain ⟨hcel, hlen, q6⟩ := q6
        have c46 := c5.trans c6
        have b6 := bare_cs (b4 bS2) c46
        have r7 : RS K (gadd g p (.lst ws)) F6 H6 (wipe σ vs) (wipeL S6 vs) := by rw [← wτ']; exact r6.wiped b6
        have cc : CS (wipeL S1 vs) (wipeL S6 vs) := c2.trans (by rw [← wS2, ← w4]; exact c46.wiped)
        refine ⟨ws, hp2 r6, by rw [hr.length]; exact hlen, F6, wipeL S6 vs, acc ++ [d], ws ++ [y], eF.trans e6, r7.pendUpd, ?_, ⟨cc, S6, rfl⟩, q6⟩
        exact ((hr.mono ((e3.trans (e4.trans e5)).trans e6))).append (.one (w6.rep hcel))
      | false =>
        have b5 := bare_cs (b4 bS2) c5
        have r7 : RS K (gadd g p (.lst ws)) F5 H5 (wipe σ vs) (wipeL S5 vs) := by rw [← wτ']; exact r5.wiped b5
        have cc : CS (wipeL S1 vs) (wipeL S5 vs) := c2.trans (by rw [← wS2, ← w4]; exact c5.wiped)
        exact ⟨F5, wipeL S5 vs, acc, ws, eF, r7, hr.mono (e3.trans (e4.trans e5)), ⟨cc, S5, rfl⟩, q5⟩
  · have ei : i = ds.length := by omega
    subst ei
    rw [List.drop_length] at h2
    obtain ⟨r4, e4⟩ := r2.froze hG hB (hp2 r2)
    refine .inl ⟨stop, ?_⟩
    obtain ⟨r5, c5⟩ := RS.back r1 hb (e2.trans e4) r4 c2
    exact hq _ _ _ _ _ h2 (c1.trans c5) (e1.trans (e2.trans e4)) r5 (.inl (.lst upd_same (hr.mono e4)))
end
end L3
set_option linter.all false
set_option maxRecDepth 100000
set_option maxHeartbeats 4000000
/-! L3, part F: defs and their calls. -/
namespace L3
open PySem L2
/-! ### a def that may show data (repr wants to know that no other repr is under way) -/
structure FnG (P : Program) (w : World) (K : PySem.W.Frag) (mg : Str → Option Value) (base : Heap) (CX : CXT) (k : Nat) (f : Addr) (fd : FuncData) (ps : List Str) (sp : Sp) : Prop where
  len : ∀ vs H Q E, sp vs H Q E → vs.length = ps.length
  run : ∀ (A : Around) (outer : List Env) (s : Shared) (H : Hp) (args : Args) (us : List Value) (vs : List V) (Q : VK) (E : XK), A.guards = some [] → Room k A → Env0 P w K mg base A outer s H → BindsTo s fd args (ps.zip us) → Vals vs us → sp vs H Q E →
    codeAny (model P w) A (.call (.ref f) args) (CR CX outer P w H s Q E) s
theorem FnG.of {P : Program} {w : World} {K : PySem.W.Frag} {mg : Str → Option Value} {base : Heap} {CX : CXT} {k : Nat} {f : Addr} {fd : FuncData} {ps : List Str} {sp : Sp} (F : FnOk P w K mg base CX k f fd ps sp) : FnG P w K mg base CX k f fd ps sp :=
  ⟨F.len, fun A outer s H args us vs Q E _ => F.run A outer s H args us vs Q E⟩
/-- a def as it may be called here -/
structure Runs (X : Cx) (CX : CXT) (f : Addr) (fd : FuncData) (ps : List Str) (sp : Sp) : Prop where
  len : ∀ vs H Q E, sp vs H Q E → vs.length = ps.length
  run : ∀ (s : Shared) (H : Hp) (args : Args) (us : List Value) (vs : List V) (Q : VK) (E : XK), Env0 X.prog X.w X.K X.mg X.base X.A X.stack s H → BindsTo s fd args (ps.zip us) → Vals vs us → sp vs H Q E →
    codeAny (model X.prog X.w) X.A (.call (.ref f) args) (CR CX X.stack X.prog X.w H s Q E) s
section
variable {X : Cx} {CX : CXT} {k : Nat} {f C : Addr} {fd : FuncData} {ps ks : List Str} {sp : Sp} {dvs : List V} {ds : List Value} {E : St → XK} {x m : Str} {p pos apos : Pos} {e o : Expr} {es : List Expr} {ta : TE} {t tk : TA}
theorem Runs.ok (F : FnOk X.prog X.w X.K X.mg X.base CX k f fd ps sp) (hr : Room k X.A) : Runs X CX f fd ps sp := ⟨F.len, fun s H args us vs Q E e0 => F.run X.A X.stack s H args us vs Q E hr e0⟩
theorem Runs.gd (F : FnG X.prog X.w X.K X.mg X.base CX k f fd ps sp) (hg : X.A.guards = some []) (hr : Room k X.A) : Runs X CX f fd ps sp := ⟨F.len, fun s H args us vs Q E e0 => F.run X.A X.stack s H args us vs Q E hg hr e0⟩
theorem Runs.at {pins : List (Addr × Obj)} {σ : St} {H : Hp} {s : Shared} {Q : VK} {us : List Value} {vs : List V} {kw : List (Str × Value)} {us2 : List Value} (F : Runs X CX f fd ps sp) (hx : PassesAt CX X σ (E σ))
    (J : Inv X pins σ H s) (hb : us2.length = ps.length → BindsTo s fd ⟨us, kw⟩ (ps.zip us2)) (rv : Vals vs us2) (h : sp vs H Q (E σ)) : wpAny (model X.prog X.w) X.A (call (.ref f) us kw) (EP X pins σ Q) X.xe s := by
  have hl : us2.length = ps.length := rv.length ▸ F.len _ _ _ _ h
  refine wpAny_call (codeAny_mono (F.run s H ⟨us, kw⟩ us2 vs Q (E σ) J.env0 (hb hl) rv h) fun res s' hq => ?_)
  match res, hq with
  | .error er, hq => exact hx pins H s er s' J hq
  | .ok (.ret u), hq => exact J.after hq
  | .ok .next, hq => exact hq.elim
  | .ok .brk, hq => exact hq.elim
  | .ok .cont, hq => exact hq.elim
/-- f(e, ..), the defaults behind -/
theorem pe_callR (F : Runs X CX f fd ps sp) (hgl : Gl X x) (hm : X.mg x = some (.ref f)) (hk : PySem.W.keepIn X.K (.ref f) = true) (hb : Binds X.K fd ps ds) (hd : Vals dvs ds) (hx : ∀ σ, PassesAt CX X σ (E σ)) (ha : PA X (e :: es) t)
    (hdb : (x == ("__debug__" : Str)) = false := by decide) (he : starEach (e :: es) X.env = (false, eval e X.env) :: starEach es X.env := by rfl) (hpl : (backTo pos (starEach es X.env)).any (·.1) = false := by rfl) :
    PE X (.Call (.Name x p) (e :: es) [] pos) (tCallSD sp dvs E t) := ⟨fun pins s σ H Q J h => by
  refine wpAny_Call_Name_kw (ld_glob J hgl hm ?_ hdb)
  refine PySem.W.callWith_K (h₀ := X.base) J.ok.mod.kin hk (thn (ha.run pos pins s σ H _ J h) fun us s1 ⟨vs, H1, J1, r, q⟩ => ⟨J1.kIn, ?_⟩) he hpl
  exact F.at (us2 := us ++ ds) (hx σ) J1 (fun hl => hb s1 us J1.kIn hl) (r.append hd) q⟩
theorem pe_callR0 (F : Runs X CX f fd ps sp) (hgl : Gl X x) (hm : X.mg x = some (.ref f)) (hk : PySem.W.keepIn X.K (.ref f) = true) (hb : Binds X.K fd ps ds) (hd : Vals dvs ds) (hx : ∀ σ, PassesAt CX X σ (E σ))
    (hdb : (x == ("__debug__" : Str)) = false := by decide) : PE X (.Call (.Name x p) [] [] pos) (tCallSD sp dvs E tNil) := ⟨fun pins s σ H Q J h => by
  refine wpAny_Call_Name_kw (ld_glob J hgl hm ?_ hdb)
  exact PySem.W.callWith_K0 J.kIn hk (F.at (us := []) (us2 := ds) (hx σ) J (fun hl => hb s [] J.kIn hl) hd h)⟩
/-- f(e, .., k = v, ..) -/
def tCallKD (sp : Sp) (gV : List V → List V → List V) (E : St → XK) (t tk : TA) : TE := fun σ H Q => t σ H fun vs H1 => tk σ H1 fun zs H2 => sp (gV vs zs) H2 Q (E σ)
end

/-! ### arguments -/
inductive ArgsR (K : PySem.W.Frag) (F H : Hp) : List V → List Sl → List (List Addr) → Prop
  | nil : ArgsR K F H [] [] []
  | v {v : V} {d : D} {vs : List V} {as : List Sl} {fps : List (List Addr)} : Rep K F v d → ArgsR K F H vs as fps → ArgsR K F H (v :: vs) (.v d :: as) ([] :: fps)
  | c {a : Addr} {fp : List Addr} {k : Cell} {vs : List V} {as : List Sl} {fps : List (List Addr)} : CellAt K F H a fp k → (∀ b ∈ fp, F b = none) → (∀ b ∈ fp, ∀ q ∈ fps, b ∉ q) → ArgsR K F H vs as fps → ArgsR K F H (.ref a :: vs) (.c false k :: as) (fp :: fps)
/-- what a call leaves of the heap -/
structure Post (K : PySem.W.Frag) (F H : Hp) (fps : List (List Addr)) (F' H' : Hp) (fps' : List (List Addr)) : Prop where
  ff : Same F F'
  fh : Same F' H'
  keep : ∀ b o, H b = some o → (∀ ps, o ≠ .tbl ps) → (∀ q ∈ fps, b ∉ q) → H' b = some o
  out : ∀ b, H b ≠ none → F b = none → F' b = none
  live : ∀ b, H b ≠ none → H' b ≠ none
  new : ∀ (m : Nat) (q' : List Addr), fps'[m]? = some q' → ∀ b ∈ q', (∃ q, fps[m]? = some q ∧ b ∈ q) ∨ H b = none
  tb : TB0 K F' H'
/-- a def by data: its arguments, the end (value, the arguments behind), what is raised -/
abbrev LFn := List Sl → (D → List Sl → Prop) → (Value → List (Str × D) → List Sl → Prop) → Prop
def spL (K : PySem.W.Frag) (n : Nat) (f : LFn) : Sp := fun vs H Q E => vs.length = n ∧ ∃ F as fps Q0 R0, Ent K F H ∧ ArgsR K F H vs as fps ∧ f as Q0 R0 ∧
  (∀ d as', Q0 d as' → ∀ v H' F' fps', Post K F H fps F' H' fps' → ArgsR K F' H' vs as' fps' → Rep K F' v d → Q v H') ∧
  (∀ c fs as', R0 c fs as' → ∀ dx H' F' fps', Post K F H fps F' H' fps' → ArgsR K F' H' vs as' fps' → XRep K F' dx fs → E c dx H')

/-! ### a def's body -/
@[simp] def outs : List Sl → SS → List Sl
  | .v d :: as, _ :: S => .v d :: outs as S
  | .c o k :: as, s :: S => (match s with
    | some (.c _ k') => .c o k'
    | _ => .c o k) :: outs as S
  | as, _ => as
def retOk (S : SS) : D → Prop
  | .cel i => ∃ k, S[i]? = some (some (.c true k))
  | _ => True
/-- n parameters, m names in all -/
def fnW (n m : Nat) (body : LTS) : LFn := fun as Q R => as.length = n ∧ body { nx := fun S => Q .non (outs as S), rt := fun d S => retOk S d ∧ Q (look S d) (outs as S), xr := fun c fs S => R c fs (outs as S) } (as.map some ++ List.replicate (m - n) none)
section
variable {K : PySem.W.Frag} {F H : Hp}
theorem ArgsR.length : ∀ {vs : List V} {as : List Sl} {fps : List (List Addr)}, ArgsR K F H vs as fps → vs.length = as.length ∧ fps.length = as.length
  | _, _, _, .nil => ⟨rfl, rfl⟩
  | _, _, _, .v _ r => by have := r.length; simp [this.1, this.2]
  | _, _, _, .c _ _ _ r => by have := r.length; simp [this.1, this.2]
theorem ArgsR.valAt : ∀ {vs : List V} {as : List Sl} {fps : List (List Addr)}, ArgsR K F H vs as fps → ∀ (i : Nat) (d : D), as[i]? = some (.v d) → ∃ v, vs[i]? = some v ∧ Rep K F v d
  | _, _, _, .nil, i, d, e => by simp at e
  | _, _, _, .v h r, 0, d, e => by simp at e; subst e; exact ⟨_, rfl, h⟩
  | _, _, _, .v h r, i + 1, d, e => by
    obtain ⟨v, h1, h2⟩ := r.valAt i d (by simpa using e)
    exact ⟨v, by simpa using h1, h2⟩
  | _, _, _, .c _ _ _ r, 0, d, e => by simp at e
  | _, _, _, .c _ _ _ r, i + 1, d, e => by
    obtain ⟨v, h1, h2⟩ := r.valAt i d (by simpa using e)
    exact ⟨v, by simpa using h1, h2⟩
theorem ArgsR.celAt : ∀ {vs : List V} {as : List Sl} {fps : List (List Addr)}, ArgsR K F H vs as fps → ∀ (i : Nat) (o : Bool) (k : Cell), as[i]? = some (.c o k) → o = false ∧ ∃ a fp, vs[i]? = some (.ref a) ∧ fps[i]? = some fp ∧ CellAt K F H a fp k ∧ ∀ b ∈ fp, F b = none
  | _, _, _, .nil, i, o, k, e => by simp at e
  | _, _, _, .v h r, 0, o, k, e => by simp at e
  | _, _, _, .v h r, i + 1, o, k, e => by
    obtain ⟨h0, a, fp, h1, h2, h3⟩ := r.celAt i o k (by simpa using e)
    exact ⟨h0, a, fp, by simpa using h1, by simpa using h2, h3⟩
  | _, _, _, .c h1 h2 _ r, 0, o, k, e => by
    simp at e
    obtain ⟨e1, e2⟩ := e
    subst e1 e2
    exact ⟨rfl, _, _, rfl, rfl, h1, h2⟩
  | _, _, _, .c _ _ _ r, i + 1, o, k, e => by
    obtain ⟨h0, a, fp, h1, h2, h3⟩ := r.celAt i o k (by simpa using e)
    exact ⟨h0, a, fp, by simpa using h1, by simpa using h2, h3⟩
theorem ArgsR.apart : ∀ {vs : List V} {as : List Sl} {fps : List (List Addr)}, ArgsR K F H vs as fps → ∀ (i j : Nat) (p q : List Addr), i ≠ j → fps[i]? = some p → fps[j]? = some q → ∀ b ∈ p, b ∉ q
  | _, _, _, .nil, i, j, p, q, n, e1, e2 => by simp at e1
  | _, _, _, .v h r, 0, j, p, q, n, e1, e2 => by
    simp at e1; subst e1; intro b hb; cases hb
  | _, _, _, .v h r, i + 1, 0, p, q, n, e1, e2 => by
    simp at e2; subst e2; intro b _ hb; cases hb
  | _, _, _, .v h r, i + 1, j + 1, p, q, n, e1, e2 => r.apart i j p q (fun z => n (by rw [z])) (by simpa using e1) (by simpa using e2)
  | _, _, _, .c _ _ ap r, 0, 0, p, q, n, e1, e2 => absurd rfl n
  | _, _, _, .c _ _ ap r, 0, j + 1, p, q, n, e1, e2 => by
    simp at e1; subst e1
    exact fun b hb => ap b hb q (List.mem_of_getElem? (by simpa using e2))
  | _, _, _, .c _ _ ap r, i + 1, 0, p, q, n, e1, e2 => by
    simp at e2; subst e2
    exact fun b hb z => ap b z p (List.mem_of_getElem? (by simpa using e1)) hb
  | _, _, _, .c _ _ _ r, i + 1, j + 1, p, q, n, e1, e2 => r.apart i j p q (fun z => n (by rw [z])) (by simpa using e1) (by simpa using e2)
/-- the arguments from their places -/
theorem args_mk : ∀ {vs : List V} {as : List Sl} {fps : List (List Addr)}, vs.length = as.length → fps.length = as.length →
    (∀ (i : Nat) (d : D), as[i]? = some (.v d) → fps[i]? = some [] ∧ ∃ v, vs[i]? = some v ∧ Rep K F v d) →
    (∀ (i : Nat) (o : Bool) (k : Cell), as[i]? = some (.c o k) → o = false ∧ ∃ a fp, vs[i]? = some (.ref a) ∧ fps[i]? = some fp ∧ CellAt K F H a fp k ∧ ∀ b ∈ fp, F b = none) →
    (∀ (i j : Nat) (p q : List Addr), i ≠ j → fps[i]? = some p → fps[j]? = some q → ∀ b ∈ p, b ∉ q) → ArgsR K F H vs as fps
  | [], [], [], _, _, _, _, _ => .nil
  | v :: vs, .v d :: as, fp :: fps, h1, h2, hv, hc, ha => by
    obtain ⟨e, v', e', rep⟩ := hv 0 d rfl
    simp at e e'
    subst e e'
    exact .v rep (args_mk (by simpa using h1) (by simpa using h2) (fun i d q => by simpa using hv (i + 1) d (by simpa using q)) (fun i o k q => by simpa using hc (i + 1) o k (by simpa using q)) fun i j p q n e1 e2 => ha (i + 1) (j + 1) p q (fun z => n (by omega)) (by simpa using e1) (by simpa using e2))
  | v :: vs, .c o k :: as, fp :: fps, h1, h2, hv, hc, ha => by
    obtain ⟨e0, a, fp', e, e', cel, fr⟩ := hc 0 o k rfl
    simp at e e'
    subst e0 e e'
    refine .c cel fr (fun b hb q hq => ?_) (args_mk (by simpa using h1) (by simpa using h2) (fun i d q => by simpa using hv (i + 1) d (by simpa using q)) (fun i o k q => by simpa using hc (i + 1) o k (by simpa using q)) fun i j p q n e1 e2 => ha (i + 1) (j + 1) p q (fun z => n (by omega)) (by simpa using e1) (by simpa using e2))
    obtain ⟨j, hj⟩ := List.getElem?_of_mem hq
    exact ha 0 (j + 1) fp q (by omega) rfl (by simpa using hj) b hb
  | [], _ :: _, _, h1, _, _, _, _ => by simp at h1
  | _ :: _, [], _, h1, _, _, _, _ => by simp at h1
  | _, _ :: _, [], _, h2, _, _, _ => by simp at h2
  | _, [], _ :: _, _, h2, _, _, _ => by simp at h2
theorem outs_at : ∀ {as : List Sl} {S : SS} (i : Nat), (outs as S).length = as.length ∧ (∀ d, as[i]? = some (.v d) → (outs as S)[i]? = some (.v d)) ∧ ∀ o k, as[i]? = some (.c o k) → (outs as S)[i]? = some (match S[i]? with
    | some (some (.c _ k')) => .c o k'
    | _ => .c o k)
  | [], S, i => ⟨by unfold outs; simp, fun d e => by simp at e, fun o k e => by simp at e⟩
  | .v d :: as, [], i => ⟨by unfold outs; simp, fun d' e => by unfold outs; exact e, fun o k e => by unfold outs; simpa using e⟩
  | .c o k :: as, [], i => ⟨by unfold outs; simp, fun d' e => by unfold outs; exact e, fun o k e => by unfold outs; simpa using e⟩
  | .v d :: as, s :: S, i => by
    have ih := fun j => outs_at (as := as) (S := S) j
    refine ⟨by unfold outs; simp [(ih 0).1], fun d' e => ?_, fun o k e => ?_⟩
    · cases i with
      | zero => unfold outs; simpa using e
      | succ j => unfold outs; simpa using (ih j).2.1 d' (by simpa using e)
    · cases i with
      | zero => simp at e
      | succ j => unfold outs; simpa using (ih j).2.2 o k (by simpa using e)
  | .c o k :: as, s :: S, i => by
    have ih := fun j => outs_at (as := as) (S := S) j
    refine ⟨by unfold outs; simp [(ih 0).1], fun d' e => ?_, fun o' k' e => ?_⟩
    · cases i with
      | zero => simp at e
      | succ j => unfold outs; simpa using (ih j).2.1 d' (by simpa using e)
    · cases i with
      | zero =>
        simp at e
        obtain ⟨e1, e2⟩ := e
        subst e1 e2
        unfold outs
        cases s with
        | none => rfl
        | some s => cases s <;> rfl
      | succ j => unfold outs; simpa using (ih j).2.2 o' k' (by simpa using e)
/-- the entry's surroundings -/
def noTbl : Option HO → Option HO
  | some (.tbl _) => none
  | x => x
theorem noTbl_some {x : Option HO} {o : HO} (h : noTbl x = some o) : x = some o := by
  cases x with
  | none => cases h
  | some u => cases u <;> first | exact h | cases h
theorem noTbl_of {o : HO} (h : ∀ ps, o ≠ .tbl ps) : noTbl (some o) = some o := by
  cases o <;> first | rfl | exact absurd rfl (h _)
theorem noTbl_ne {x : Option HO} {ps : Array Value} : noTbl x ≠ some (.tbl ps) := fun z => by
  have q := noTbl_some z
  subst q
  cases z
/-- what is around a def's body -/
def gdOf (F H : Hp) (fps : List (List Addr)) (vs : List V) (as : List Sl) : Gd where
  G := fun b => if fps.any (fun q => q.contains b) = true then none else noTbl (H b)
  B := fun b => H b ≠ none ∧ F b = none
  L := (List.range as.length).filterMap fun (i : Nat) => match as[i]?, vs[i]? with
    | some (Sl.c _ _), some (V.ref a) => some (i, a)
    | _, _ => none
theorem any_mem {fps : List (List Addr)} {b : Addr} : (fps.any (fun q => q.contains b) = true) ↔ ∃ q ∈ fps, b ∈ q := by
  simp [List.any_eq_true]
theorem rs_start {vs : List V} {as : List Sl} {fps : List (List Addr)} {N : List Str} (e : Ent K F H) (h : ArgsR K F H vs as fps) (hn : vs.length ≤ N.length) :
    RS K (gdOf F H fps vs as) F H (L2.start N vs) (as.map some ++ List.replicate (N.length - as.length) none) := by
  have hl := h.length
  have at_ : ∀ {i : Nat} {x : Sl}, (as.map some ++ List.replicate (N.length - as.length) none)[i]? = some (some x) → as[i]? = some x := fun {i x} q => by
    by_cases hi : i < as.length
    · rw [List.getElem?_append_left (by simpa using hi), List.getElem?_map] at q
      cases z : as[i]? with
      | none => rw [z] at q; cases q
      | some y => rw [z] at q; cases q; rfl
    · rw [List.getElem?_append_right (by simpa using hi), List.getElem?_replicate] at q
      split at q <;> cases q
  have st_ : ∀ {i : Nat} {v : V}, vs[i]? = some v → (L2.start N vs)[i]? = some (some v) := fun {i v} q => by
    have hi := (List.getElem?_eq_some_iff.mp q).1
    unfold L2.start
    rw [List.getElem?_append_left (by simpa using hi), List.getElem?_map, q]; rfl
  refine ⟨fun i => fps.getD i [], e.sm, fun b o q => ?_, fun b hb => ⟨hb.2, hb.1⟩, fun i d q => ?_, fun i o k q => ?_, fun i j o k o' k' n e1 e2 b hb => ?_, ?_, fun p hp => ?_, fun i k q => ?_, ?tb⟩
  case tb =>
    refine ⟨e.tb.t, e.tb.f, fun b ps z => ?_, e.tb.c⟩
    have z' : (if fps.any (fun q => q.contains b) = true then none else noTbl (H b)) = some (.tbl ps) := z
    split at z'
    · cases z'
    · exact noTbl_ne z'
  · have q' : (if fps.any (fun q => q.contains b) = true then none else noTbl (H b)) = some o := q
    split at q'
    · cases q'
    · exact noTbl_some q'
  · obtain ⟨v, h1, h2⟩ := h.valAt i d (at_ q)
    exact ⟨v, st_ h1, h2⟩
  · obtain ⟨e0, a, fp, h1, h2, h3, h4⟩ := h.celAt i o k (at_ q)
    refine ⟨a, st_ h1, ?_⟩
    have ef : fps.getD i [] = fp := by rw [List.getD_eq_getElem?_getD, h2]; rfl
    show CellAt K F H a (fps.getD i []) k ∧ ∀ b ∈ fps.getD i [], _
    rw [ef]
    refine ⟨h3, fun b hb => ⟨h4 b hb, ?_, fun z => by rw [e0] at z; cases z⟩⟩
    show (if fps.any (fun q => q.contains b) = true then none else noTbl (H b)) = none
    rw [if_pos (any_mem.mpr ⟨fp, List.mem_of_getElem? h2, hb⟩)]
  · obtain ⟨_, a, fp, h1, h2, _⟩ := h.celAt i o k (at_ e1)
    obtain ⟨_, a', fp', h1', h2', _⟩ := h.celAt j o' k' (at_ e2)
    have hb' : b ∈ fps.getD i [] := hb
    rw [List.getD_eq_getElem?_getD, h2] at hb'
    show b ∉ fps.getD j []
    rw [List.getD_eq_getElem?_getD, h2']
    exact h.apart i j fp fp' n h2 h2' b hb'
  · unfold L2.start
    simp only [List.length_append, List.length_map, List.length_replicate]
    omega
  · obtain ⟨i, hi, q⟩ := List.mem_filterMap.mp hp
    have hi' : i < as.length := List.mem_range.mp hi
    split at q
    · rename_i o k a e1 e2
      cases q
      obtain ⟨e0, _⟩ := h.celAt i o k e1
      subst e0
      refine ⟨st_ e2, k, ?_⟩
      rw [List.getElem?_append_left (by simpa using hi'), List.getElem?_map, e1]; rfl
    · cases q
  · have e1 := at_ q
    obtain ⟨_, a, fp, h1, _⟩ := h.celAt i false k e1
    refine ⟨a, List.mem_filterMap.mpr ⟨i, List.mem_range.mpr (List.getElem?_eq_some_iff.mp e1).1, ?_⟩⟩
    rw [e1, h1]
/-- at the end -/
theorem rs_end {vs : List V} {as : List Sl} {fps : List (List Addr)} {F' H' : Hp} {σ' : St} {S' : SS} (h : ArgsR K F H vs as fps) (e : Same F F') (r : RS K (gdOf F H fps vs as) F' H' σ' S') :
    ∃ fps', Post K F H fps F' H' fps' ∧ ArgsR K F' H' vs (outs as S') fps' := by
  obtain ⟨fp, r⟩ := r
  have hl := h.length
  have lent : ∀ {i : Nat} {o : Bool} {k : Cell}, as[i]? = some (.c o k) → ∃ a k', vs[i]? = some (.ref a) ∧ σ'[i]? = some (some (.ref a)) ∧ S'[i]? = some (some (.c false k')) := fun {i o k} q => by
    obtain ⟨_, a, fp', h1, _⟩ := h.celAt i o k q
    obtain ⟨h2, k', h3⟩ := r.lent (i, a) (List.mem_filterMap.mpr ⟨i, List.mem_range.mpr (List.getElem?_eq_some_iff.mp q).1, by rw [q, h1]⟩)
    exact ⟨a, k', h1, h2, h3⟩
  let fps' : List (List Addr) := (List.range as.length).map fun (i : Nat) => match as[i]? with
    | some (Sl.c _ _) => fp i
    | _ => []
  have at' : ∀ {i : Nat}, i < as.length → fps'[i]? = some (match as[i]? with
    | some (Sl.c _ _) => fp i
    | _ => []) := fun {i} hi => by
    show ((List.range as.length).map _)[i]? = _
    rw [List.getElem?_map, List.getElem?_range hi]; rfl
  refine ⟨fps', ⟨e, r.fh, fun b o q nt hq => ?_, fun b h1 h2 => (r.nb b ⟨h1, h2⟩).1, fun b q => ?_, fun m q' hq b hb => ?_, ⟨r.tb.t, r.tb.f, r.tb.c⟩⟩, args_mk (by rw [(outs_at 0).1]; exact hl.1) (by show ((List.range as.length).map _).length = _; rw [List.length_map, List.length_range, (outs_at 0).1]) (fun i d q => ?_) (fun i o k q => ?_) fun i j p q n e1 e2 b hb => ?_⟩
  · refine r.gf b o ?_
    show (if fps.any (fun q => q.contains b) = true then none else noTbl (H b)) = some o
    rw [if_neg fun z => ?_]
    · rw [q]; exact noTbl_of nt
    · obtain ⟨p, hp, hb⟩ := any_mem.mp z
      exact hq p hp hb
  · by_cases z : F b = none
    · exact (r.nb b ⟨q, z⟩).2
    · cases w : F b with
      | none => exact absurd w z
      | some o => rw [r.fh b o (e b o w)]; simp
  · have hi' : m < as.length := by
      have := (List.getElem?_eq_some_iff.mp hq).1
      have z : fps'.length = as.length := by show ((List.range as.length).map _).length = _; simp
      omega
    rw [at' hi'] at hq
    cases hq
    split at hb
    · rename_i o k ea
      obtain ⟨a, k', h1, h2, h3⟩ := lent ea
      obtain ⟨_, a0, fp0, h4, h5, h6, _⟩ := h.celAt m o k ea
      rw [h1] at h4
      cases h4
      obtain ⟨a2, h7, h8, _⟩ := r.cel m false _ h3
      rw [h2] at h7
      cases h7
      refine .inl ⟨fp0, h5, ?_⟩
      rw [h6.fp1]
      rw [h8.fp1] at hb
      exact hb
    · cases hb
  · have hi : i < as.length := by
      have := (List.getElem?_eq_some_iff.mp q).1
      rw [(outs_at 0).1] at this
      exact this
    cases ea : as[i]? with
    | none => rw [List.getElem?_eq_none_iff] at ea; omega
    | some x =>
      cases x with
      | v d' =>
        have := (outs_at (S := S') i).2.1 d' ea
        rw [q] at this
        cases this
        refine ⟨by rw [at' hi, ea], ?_⟩
        obtain ⟨v, h1, h2⟩ := h.valAt i d ea
        exact ⟨v, h1, h2.mono e⟩
      | c o k =>
        have := (outs_at (S := S') i).2.2 o k ea
        rw [q] at this
        obtain ⟨_, _, _, _, h3⟩ := lent ea
        rw [h3] at this
        cases this
  · have hi : i < as.length := by
      have := (List.getElem?_eq_some_iff.mp q).1
      rw [(outs_at 0).1] at this
      exact this
    cases ea : as[i]? with
    | none => rw [List.getElem?_eq_none_iff] at ea; omega
    | some x =>
      cases x with
      | v d' =>
        have := (outs_at (S := S') i).2.1 d' ea
        rw [q] at this
        cases this
      | c o' k0 =>
        have e0 := (h.celAt i o' k0 ea).1
        subst e0
        have := (outs_at (S := S') i).2.2 false k0 ea
        obtain ⟨a, k', h1, h2, h3⟩ := lent ea
        rw [q, h3] at this
        cases this
        obtain ⟨a2, h4, h5, hf⟩ := r.cel i false _ h3
        rw [h2] at h4
        cases h4
        refine ⟨rfl, a, fp i, h1, by rw [at' hi, ea], h5, fun b hb => (hf b hb).1⟩
  · have hi : i < as.length := by
      have := (List.getElem?_eq_some_iff.mp e1).1
      have z : fps'.length = as.length := by show ((List.range as.length).map _).length = _; simp
      omega
    have hj : j < as.length := by
      have := (List.getElem?_eq_some_iff.mp e2).1
      have z : fps'.length = as.length := by show ((List.range as.length).map _).length = _; simp
      omega
    rw [at' hi] at e1
    rw [at' hj] at e2
    cases e1
    cases e2
    split at hb
    · rename_i o k ea
      split
      · rename_i o' k' ea'
        obtain ⟨_, k1, _, _, h3⟩ := lent ea
        obtain ⟨_, k2, _, _, h3'⟩ := lent ea'
        exact r.ap i j false k1 false k2 n h3 h3' b hb
      · intro z; cases z
    · cases hb
/-- the body keeps the promise: from the lifted statement to the hand layer's -/
theorem body_of {E : WX} {EK : XK} {t : TS} {T : LTS} {N : List Str} {n : Nat} {vs : List V} {Q : VK} (ht : LfS K E t T) (hE : ∀ c dx σ H, EK c dx H → E c dx σ H) (hN : n ≤ N.length)
    (h : spL K n (fnW n N.length T) vs H Q EK) : t { nx := fun _ H' => Q .non H', rt := Q } (L2.start N vs) H := by
  obtain ⟨hl, F, as, fps, Q0, R0, e, ar, ⟨hlen, h⟩, hq0, hr0⟩ := h
  have hal := ar.length
  have rs := rs_start (N := N) e ar (by omega)
  rw [hlen] at rs
  refine ht _ _ H F _ _ _ rs h ⟨fun S' σ' H' F' q e' r => ?_, fun d S' v σ' H' F' q e' r w => ?_, fun _ _ _ _ q => q.elim, fun _ _ _ _ q => q.elim, fun c fs S' dx σ' H' F' q e' r x => ?_⟩
  · obtain ⟨fps', p, a'⟩ := rs_end ar e' r
    exact hq0 _ _ q .non H' F' fps' p a' .non
  · obtain ⟨ok, q⟩ := q
    rcases w with w | ⟨i, o, k, rfl, hv, hk⟩
    · rw [look_rep S' w] at q
      obtain ⟨fps', p, a'⟩ := rs_end ar e' r
      exact hq0 _ _ q v H' F' fps' p a' w
    · -- a list of the frame's own is handed out: it is frozen now
      obtain ⟨k', hk'⟩ := ok
      rw [hk] at hk'
      cases hk'
      rw [look_cel hk] at q
      obtain ⟨a, ob, ha, f1, r2, rep⟩ := RS.freezeSlot r hk
      rw [hv] at ha
      cases ha
      have e2 : Same F (upd F' a ob) := e'.trans (sameNew f1)
      obtain ⟨fps', p, a'⟩ := rs_end ar e2 r2
      have eo : outs as (S'.set i none) = outs as S' := by
        refine List.ext_getElem? fun j => ?_
        have l1 := (outs_at (as := as) (S := S'.set i none) j)
        have l2 := (outs_at (as := as) (S := S') j)
        cases ea : as[j]? with
        | none =>
          have hj : as.length ≤ j := List.getElem?_eq_none_iff.mp ea
          rw [List.getElem?_eq_none_iff.mpr (by rw [l1.1]; exact hj), List.getElem?_eq_none_iff.mpr (by rw [l2.1]; exact hj)]
        | some x =>
          cases x with
          | v d => rw [l1.2.1 d ea, l2.2.1 d ea]
          | c o k =>
            rw [l1.2.2 o k ea, l2.2.2 o k ea]
            have hj : j ≠ i := fun z => by
              obtain ⟨e0, a3, fp3, h1, h2, _⟩ := ar.celAt j o k ea
              obtain ⟨_, r⟩ := r
              obtain ⟨_, k3, h4⟩ := r.lent (j, a3) (List.mem_filterMap.mpr ⟨j, List.mem_range.mpr (List.getElem?_eq_some_iff.mp ea).1, by rw [ea, h1]⟩)
              rw [z, hk] at h4
              cases h4
            rw [get_set_ne hj]
      rw [eo] at a'
      exact hq0 _ _ q (.ref a) H' _ fps' p a' rep
  · obtain ⟨fps', p, a'⟩ := rs_end ar e' r
    exact hE c dx σ' H' (hr0 _ _ _ q dx H' F' fps' p a' x)
end
end L3
set_option linter.all false
set_option maxRecDepth 100000
set_option maxHeartbeats 4000000
/-! L3, part G: calls by data. -/
namespace L3
open PySem L2
def celIx : List D → List Nat
  | [] => []
  | .cel i :: ds => i :: celIx ds
  | _ :: ds => celIx ds
@[simp] def nodupB : List Nat → Bool
  | [] => true
  | i :: r => !r.contains i && nodupB r
def toArg (S : SS) : D → Sl
  | .cel i => match S[i]? with
    | some (some (.c _ k)) => .c false k
    | _ => .v (.cel i)
  | d => .v d
@[simp] def shp : List Sl → List Sl → Bool
  | [], [] => true
  | .v _ :: a, .v _ :: b => shp a b
  | .c _ _ :: a, .c _ _ :: b => shp a b
  | _, _ => false
@[simp] def putC (S : SS) (j : Nat) (k : Cell) : SS := match S[j]? with
  | some (some (.c o _)) => S.set j (some (.c o k))
  | _ => S
@[simp] def backA (S : SS) : List D → List Sl → SS
  | .cel i :: ds, .c _ k :: as => putC (backA S ds as) i k
  | _ :: ds, _ :: as => backA S ds as
  | _, _ => S
/-- f(e, ..) by data; dd: the defaults that fill up -/
@[simp] def lCall (f : LFn) (dd : List D) (Ts : LTs) : LT := fun S Q R => Ts S (fun ds S1 => nodupB (celIx ds) = true ∧
  f (ds.map (toArg S1) ++ dd.map Sl.v) (fun d as => shp (ds.map (toArg S1) ++ dd.map Sl.v) as = true ∧ Q d (backA S1 ds as)) (fun c fs as => shp (ds.map (toArg S1) ++ dd.map Sl.v) as = true ∧ R c fs (backA S1 ds as))) R
section
variable {K : PySem.W.Frag} {g : Gd} {E : WX} {F H : Hp} {σ : St} {S : SS}
theorem nodupB_cons {i : Nat} {r : List Nat} (h : nodupB (i :: r) = true) : i ∉ r ∧ nodupB r = true := by
  unfold nodupB at h
  rw [Bool.and_eq_true] at h
  exact ⟨by simpa using h.1, h.2⟩
theorem celIx_mem : ∀ {ds : List D} {m i : Nat}, ds[m]? = some (.cel i) → i ∈ celIx ds
  | [], m, i, h => by simp at h
  | d :: ds, 0, i, h => by
    simp at h; subst h
    exact List.mem_cons_self
  | d :: ds, m + 1, i, h => by
    have := celIx_mem (ds := ds) (m := m) (i := i) (by simpa using h)
    cases d <;> first | exact this | exact List.mem_cons_of_mem _ this
theorem celIx_at : ∀ {ds : List D} {i : Nat}, i ∈ celIx ds → ∃ m : Nat, ds[m]? = some (D.cel i)
  | [], i, h => by simp [celIx] at h
  | d :: ds, i, h => by
    have go : i ∈ celIx ds → ∃ m : Nat, (d :: ds)[m]? = some (D.cel i) := fun h => by
      obtain ⟨m, e⟩ := celIx_at h
      exact ⟨m + 1, by simpa using e⟩
    cases d <;> first
      | exact go h
      | (rcases List.mem_cons.mp h with e | h
         · subst e; exact ⟨0, rfl⟩
         · exact go h)
theorem putC_at {j i : Nat} {k : Cell} : (putC S j k).length = S.length ∧ (i ≠ j → (putC S j k)[i]? = S[i]?) ∧ (putC S j k)[j]? = (match S[j]? with
    | some (some (.c o _)) => some (some (.c o k))
    | x => x) := by
  unfold putC
  split
  · rename_i o k' e
    have hl := (List.getElem?_eq_some_iff.mp e).1
    exact ⟨List.length_set, fun h => get_set_ne h, by rw [List.getElem?_set_self hl]⟩
  · rename_i h
    exact ⟨rfl, fun _ => rfl, rfl⟩
/-- where a slot's new cell stands -/
theorem backA_at : ∀ {ds : List D} {as : List Sl}, nodupB (celIx ds) = true → (∀ (m : Nat) (i : Nat), ds[m]? = some (.cel i) → ∃ o k, as[m]? = some (.c o k)) → ∀ j : Nat,
    (backA S ds as).length = S.length ∧ (j ∉ celIx ds → (backA S ds as)[j]? = S[j]?) ∧ ∀ (m : Nat) (o : Bool) (k : Cell), ds[m]? = some (.cel j) → as[m]? = some (.c o k) → (backA S ds as)[j]? = (match S[j]? with
    | some (some (.c o _)) => some (some (.c o k))
    | x => x)
  | [], as, _, _, j => by
    refine ⟨by unfold backA; rfl, fun _ => by unfold backA; rfl, fun m o k e _ => by simp at e⟩
  | d :: ds, [], _, hs, j => by
    have e0 : backA S (d :: ds) [] = S := by cases d <;> rfl
    rw [e0]
    exact ⟨rfl, fun _ => rfl, fun m o k e e2 => by simp at e2⟩
  | .cel i :: ds, .v x :: as, _, hs, j => by
    obtain ⟨o, k, e⟩ := hs 0 i rfl
    simp at e
  | .cel i :: ds, .c o' k' :: as, hn, hs, j => by
    obtain ⟨hni, hn'⟩ := nodupB_cons hn
    have ih := fun j => backA_at (ds := ds) (as := as) hn' (fun m i e => by simpa using hs (m + 1) i (by simpa using e)) j
    have pc := fun j => putC_at (S := backA S ds as) (j := i) (i := j) (k := k')
    refine ⟨by show (putC (backA S ds as) i k').length = _; rw [(pc 0).1, (ih 0).1], fun hj => ?_, fun m o k e1 e2 => ?_⟩
    · have h1 : j ≠ i := fun z => hj (by rw [z]; exact List.mem_cons_self)
      have h2 : j ∉ celIx ds := fun z => hj (List.mem_cons_of_mem _ z)
      show (putC (backA S ds as) i k')[j]? = _
      rw [(pc j).2.1 h1, (ih j).2.1 h2]
    · show (putC (backA S ds as) i k')[j]? = _
      cases m with
      | zero =>
        simp at e1 e2
        subst e1
        obtain ⟨_, e3⟩ := e2
        subst e3
        rw [(pc i).2.2, (ih i).2.1 hni]
      | succ m =>
        have hj : j ≠ i := fun z => hni (by rw [← z]; exact celIx_mem (m := m) (by simpa using e1))
        rw [(pc j).2.1 hj]
        exact (ih j).2.2 m o k (by simpa using e1) (by simpa using e2)
  | .non :: ds, _ :: as, hn, hs, j => back_skip (fun j => backA_at (ds := ds) (as := as) hn (fun m i e => by simpa using hs (m + 1) i (by simpa using e)) j) (fun i => by simp) rfl rfl j
  | .bl _ :: ds, _ :: as, hn, hs, j => back_skip (fun j => backA_at (ds := ds) (as := as) hn (fun m i e => by simpa using hs (m + 1) i (by simpa using e)) j) (fun i => by simp) rfl rfl j
  | .int _ :: ds, _ :: as, hn, hs, j => back_skip (fun j => backA_at (ds := ds) (as := as) hn (fun m i e => by simpa using hs (m + 1) i (by simpa using e)) j) (fun i => by simp) rfl rfl j
  | .str _ :: ds, _ :: as, hn, hs, j => back_skip (fun j => backA_at (ds := ds) (as := as) hn (fun m i e => by simpa using hs (m + 1) i (by simpa using e)) j) (fun i => by simp) rfl rfl j
  | .tup _ :: ds, _ :: as, hn, hs, j => back_skip (fun j => backA_at (ds := ds) (as := as) hn (fun m i e => by simpa using hs (m + 1) i (by simpa using e)) j) (fun i => by simp) rfl rfl j
  | .lst _ :: ds, _ :: as, hn, hs, j => back_skip (fun j => backA_at (ds := ds) (as := as) hn (fun m i e => by simpa using hs (m + 1) i (by simpa using e)) j) (fun i => by simp) rfl rfl j
  | .lsf _ :: ds, _ :: as, hn, hs, j => back_skip (fun j => backA_at (ds := ds) (as := as) hn (fun m i e => by simpa using hs (m + 1) i (by simpa using e)) j) (fun i => by simp) rfl rfl j
  | .edc :: ds, _ :: as, hn, hs, j => back_skip (fun j => backA_at (ds := ds) (as := as) hn (fun m i e => by simpa using hs (m + 1) i (by simpa using e)) j) (fun i => by simp) rfl rfl j
  | .ins _ _ _ :: ds, _ :: as, hn, hs, j => back_skip (fun j => backA_at (ds := ds) (as := as) hn (fun m i e => by simpa using hs (m + 1) i (by simpa using e)) j) (fun i => by simp) rfl rfl j
  | .fn _ :: ds, _ :: as, hn, hs, j => back_skip (fun j => backA_at (ds := ds) (as := as) hn (fun m i e => by simpa using hs (m + 1) i (by simpa using e)) j) (fun i => by simp) rfl rfl j
  | .ty _ :: ds, _ :: as, hn, hs, j => back_skip (fun j => backA_at (ds := ds) (as := as) hn (fun m i e => by simpa using hs (m + 1) i (by simpa using e)) j) (fun i => by simp) rfl rfl j
  | .exc _ _ _ _ _ :: ds, _ :: as, hn, hs, j => back_skip (fun j => backA_at (ds := ds) (as := as) hn (fun m i e => by simpa using hs (m + 1) i (by simpa using e)) j) (fun i => by simp) rfl rfl j
  | .clo _ _ :: ds, _ :: as, hn, hs, j => back_skip (fun j => backA_at (ds := ds) (as := as) hn (fun m i e => by simpa using hs (m + 1) i (by simpa using e)) j) (fun i => by simp) rfl rfl j
where
  back_skip {S : SS} {d : D} {ds : List D} {a : Sl} {as : List Sl} (ih : ∀ j : Nat, (backA S ds as).length = S.length ∧ (j ∉ celIx ds → (backA S ds as)[j]? = S[j]?) ∧ ∀ (m : Nat) (o : Bool) (k : Cell), ds[m]? = some (.cel j) → as[m]? = some (.c o k) → (backA S ds as)[j]? = (match S[j]? with
      | some (some (.c o _)) => some (some (.c o k))
      | x => x)) (hd : ∀ i, d ≠ .cel i) (hb : backA S (d :: ds) (a :: as) = backA S ds as) (hc : celIx (d :: ds) = celIx ds) (j : Nat) :
      (backA S (d :: ds) (a :: as)).length = S.length ∧ (j ∉ celIx (d :: ds) → (backA S (d :: ds) (a :: as))[j]? = S[j]?) ∧ ∀ (m : Nat) (o : Bool) (k : Cell), (d :: ds)[m]? = some (.cel j) → (a :: as)[m]? = some (.c o k) → (backA S (d :: ds) (a :: as))[j]? = (match S[j]? with
      | some (some (.c o _)) => some (some (.c o k))
      | x => x) := by
    rw [hb, hc]
    refine ⟨(ih j).1, (ih j).2.1, fun m o k e1 e2 => ?_⟩
    cases m with
    | zero => simp at e1; exact absurd e1 (hd j)
    | succ m => exact (ih j).2.2 m o k (by simpa using e1) (by simpa using e2)
theorem shp_at : ∀ {as bs : List Sl} (m : Nat), shp as bs = true → as.length = bs.length ∧ ∀ (o : Bool) (k : Cell), as[m]? = some (Sl.c o k) → ∃ o' k', bs[m]? = some (Sl.c o' k')
  | [], [], m, _ => ⟨rfl, fun o k e => by simp at e⟩
  | .v _ :: as, .v _ :: bs, m, h => by
    have ih := fun m => shp_at (as := as) (bs := bs) m (by simpa [shp] using h)
    refine ⟨by simp [(ih 0).1], fun o k e => ?_⟩
    cases m with
    | zero => simp at e
    | succ m => simpa using (ih m).2 o k (by simpa using e)
  | .c _ _ :: as, .c o' k' :: bs, m, h => by
    have ih := fun m => shp_at (as := as) (bs := bs) m (by simpa [shp] using h)
    refine ⟨by simp [(ih 0).1], fun o k e => ?_⟩
    cases m with
    | zero => exact ⟨o', k', rfl⟩
    | succ m => simpa using (ih m).2 o k (by simpa using e)
  | [], _ :: _, _, h => by simp [shp] at h
  | _ :: _, [], _, h => by simp [shp] at h
  | .v _ :: _, .c _ _ :: _, _, h => by simp [shp] at h
  | .c _ _ :: _, .v _ :: _, _, h => by simp [shp] at h
theorem paired_at {α β : Type} {G : α → β → Prop} : ∀ {xs : List α} {ys : List β}, Paired G xs ys → ∀ (m : Nat) (y : β), ys[m]? = some y → ∃ x, xs[m]? = some x ∧ G x y
  | _, _, .nil, m, y, e => by simp at e
  | _, _, .cons h r, 0, y, e => by simp at e; subst e; exact ⟨_, rfl, h⟩
  | _, _, .cons h r, m + 1, y, e => by
    obtain ⟨x, h1, h2⟩ := paired_at r m y (by simpa using e)
    exact ⟨x, by simpa using h1, h2⟩
theorem cel_inj : ∀ {ds : List D}, nodupB (celIx ds) = true → ∀ (m l i : Nat), ds[m]? = some (.cel i) → ds[l]? = some (.cel i) → m = l
  | [], _, m, l, i, e, _ => by simp at e
  | d :: ds, hn, 0, 0, i, _, _ => rfl
  | d :: ds, hn, 0, l + 1, i, e1, e2 => by
    simp at e1; subst e1
    exact absurd (celIx_mem (m := l) (by simpa using e2)) (nodupB_cons hn).1
  | d :: ds, hn, m + 1, 0, i, e1, e2 => by
    simp at e2; subst e2
    exact absurd (celIx_mem (m := m) (by simpa using e1)) (nodupB_cons hn).1
  | d :: ds, hn, m + 1, l + 1, i, e1, e2 => by
    have hn' : nodupB (celIx ds) = true := by
      cases d <;> first | exact hn | exact (nodupB_cons hn).2
    rw [cel_inj hn' m l i (by simpa using e1) (by simpa using e2)]
/-- the footprints that are lent -/
def fpOf (fp : Nat → List Addr) : D → List Addr
  | .cel i => fp i
  | _ => []
def lentFps (fp : Nat → List Addr) (ds : List D) (n : Nat) : List (List Addr) := ds.map (fpOf fp) ++ List.replicate n []
theorem args_of {fp : Nat → List Addr} {vs dvs : List V} {ds dd : List D} (r : RSf K g F H σ S fp) (w : Paired (RepW K F σ S) vs ds) (hn : nodupB (celIx ds) = true) (hd : RepL K F dvs dd) :
    ArgsR K F H (vs ++ dvs) (ds.map (toArg S) ++ dd.map Sl.v) (lentFps fp ds dd.length) := by
  have hl : vs.length = ds.length := Paired.length w
  have hl2 := hd.length
  have lo : ∀ {m : Nat}, m < ds.length → (lentFps fp ds dd.length)[m]? = ds[m]?.map (fpOf fp) := fun {m} h => by
    unfold lentFps
    rw [List.getElem?_append_left (by simpa using h), List.getElem?_map]
  have hi : ∀ {m : Nat} {q : List Addr}, ¬ m < ds.length → (lentFps fp ds dd.length)[m]? = some q → q = [] := fun {m q} h e => by
    unfold lentFps at e
    rw [List.getElem?_append_right (by simpa using h), List.getElem?_replicate] at e
    split at e
    · cases e; rfl
    · cases e
  refine args_mk (by simp [hl, hl2]) (by unfold lentFps; simp) (fun m d e => ?_) (fun m o k e => ?_) fun m l p q n e1 e2 b hb => ?_
  · by_cases hm : m < ds.length
    · rw [List.getElem?_append_left (by simpa using hm), List.getElem?_map] at e
      cases ed : ds[m]? with
      | none => rw [ed] at e; cases e
      | some d0 =>
        rw [ed] at e
        obtain ⟨v, hv, wv⟩ := paired_at w m d0 ed
        have e' : toArg S d0 = .v d := Option.some.inj e
        rcases wv with rep | ⟨i, o, k, rfl, _, hk⟩
        · have nc : toArg S d0 = .v d0 ∧ fpOf fp d0 = [] := by cases rep <;> exact ⟨rfl, rfl⟩
          rw [nc.1] at e'
          cases e'
          refine ⟨by rw [lo hm, ed]; exact congrArg some nc.2, v, by rw [List.getElem?_append_left (by omega)]; exact hv, rep⟩
        · have : toArg S (.cel i) = .c false k := by
            show (match S[i]? with
              | some (some (.c _ k)) => Sl.c false k
              | _ => .v (.cel i)) = _
            rw [hk]
          rw [this] at e'
          cases e'
    · have hm' : ds.length ≤ m := Nat.le_of_not_lt hm
      rw [List.getElem?_append_right (by simpa using hm'), List.getElem?_map, List.length_map] at e
      cases ed : dd[m - ds.length]? with
      | none => rw [ed] at e; cases e
      | some d0 =>
        rw [ed] at e
        cases e
        obtain ⟨v, hv, rep⟩ := hd.get ed
        have hlt := (List.getElem?_eq_some_iff.mp ed).1
        refine ⟨?_, v, by rw [List.getElem?_append_right (by omega), hl]; exact hv, rep⟩
        unfold lentFps
        rw [List.getElem?_append_right (by simpa using hm'), List.getElem?_replicate, List.length_map, if_pos hlt]
  · by_cases hm : m < ds.length
    · rw [List.getElem?_append_left (by simpa using hm), List.getElem?_map] at e
      cases ed : ds[m]? with
      | none => rw [ed] at e; cases e
      | some d0 =>
        rw [ed] at e
        obtain ⟨v, hv, wv⟩ := paired_at w m d0 ed
        have e' : toArg S d0 = .c o k := Option.some.inj e
        rcases wv with rep | ⟨i, o1, k1, rfl, hvs, hk⟩
        · have nc : toArg S d0 = .v d0 := by cases rep <;> rfl
          rw [nc] at e'
          cases e'
        · have : toArg S (.cel i) = .c false k1 := by
            show (match S[i]? with
              | some (some (.c _ k)) => Sl.c false k
              | _ => .v (.cel i)) = _
            rw [hk]
          rw [this] at e'
          cases e'
          obtain ⟨a, ha, hc, hf⟩ := r.cel i o1 _ hk
          rw [hvs] at ha
          cases ha
          exact ⟨rfl, a, fp i, by rw [List.getElem?_append_left (by omega)]; exact hv, by rw [lo hm, ed]; rfl, hc, fun b hb => (hf b hb).1⟩
    · have hm' : ds.length ≤ m := Nat.le_of_not_lt hm
      rw [List.getElem?_append_right (by simpa using hm'), List.getElem?_map] at e
      cases ed : dd[m - (List.map (toArg S) ds).length]? with
      | none => rw [ed] at e; cases e
      | some d0 => rw [ed] at e; cases e
  · have cel_of : ∀ {m : Nat} {p : List Addr}, (lentFps fp ds dd.length)[m]? = some p → b ∈ p → ∃ i o k, ds[m]? = some (.cel i) ∧ p = fp i ∧ S[i]? = some (some (.c o k)) := fun {m p} e hb => by
      by_cases hm : m < ds.length
      · rw [lo hm] at e
        cases ed : ds[m]? with
        | none => rw [ed] at e; cases e
        | some d0 =>
          rw [ed] at e
          have e' : fpOf fp d0 = p := Option.some.inj e
          obtain ⟨v, hv, wv⟩ := paired_at w m d0 ed
          rcases wv with rep | ⟨i, o1, k1, rfl, hvs, hk⟩
          · exfalso
            have : fpOf fp d0 = [] := by cases rep <;> rfl
            rw [this] at e'
            rw [← e'] at hb
            cases hb
          · exact ⟨i, o1, k1, rfl, e'.symm, hk⟩
      · rw [hi hm e] at hb; cases hb
    intro hq
    obtain ⟨i, o, k, h1, h2, h3⟩ := cel_of e1 hb
    obtain ⟨j, o', k', h4, h5, h6⟩ := cel_of e2 hq
    rw [h2] at hb
    rw [h5] at hq
    refine r.ap i j o k o' k' (fun z => ?_) h3 h6 b hb hq
    subst z
    exact n (cel_inj hn m l i h1 h4)
/-- behind a call -/
theorem call_back {vs dvs : List V} {ds dd : List D} {fp : Nat → List Addr} {as' : List Sl} {F' H' : Hp} {fps' : List (List Addr)} (r : RSf K g F H σ S fp) (w : Paired (RepW K F σ S) vs ds) (hn : nodupB (celIx ds) = true) (p : Post K F H (lentFps fp ds dd.length) F' H' fps')
    (hd : RepL K F dvs dd) (a' : ArgsR K F' H' (vs ++ dvs) as' fps') (hs : shp (ds.map (toArg S) ++ dd.map Sl.v) as' = true) : RS K g F' H' σ (backA S ds as') ∧ CS S (backA S ds as') := by
  have hl : vs.length = ds.length := Paired.length w
  have celm : ∀ (m i : Nat), ds[m]? = some (.cel i) → ∃ o k, as'[m]? = some (.c o k) := fun m i e => by
    obtain ⟨v, hv, wv⟩ := paired_at w m _ e
    rcases wv with rep | ⟨i', o, k, q, _, hk⟩
    · cases rep
    · cases q
      have hm := (List.getElem?_eq_some_iff.mp e).1
      refine (shp_at m hs).2 false k ?_
      rw [List.getElem?_append_left (by simpa using hm), List.getElem?_map, e]
      show some (match S[i]? with
        | some (some (.c _ k)) => Sl.c false k
        | _ => .v (.cel i)) = _
      rw [hk]
  have bk := fun j => backA_at (S := S) hn celm j
  -- a lent slot behind the call
  have lent : ∀ {j : Nat}, j ∈ celIx ds → ∃ (m : Nat) (o : Bool) (k : Cell) (a : Addr) (o' : Bool) (k' : Cell) (q : List Addr), ds[m]? = some (D.cel j) ∧ S[j]? = some (some (Sl.c o k)) ∧ σ[j]? = some (some (V.ref a)) ∧ as'[m]? = some (Sl.c o' k') ∧ fps'[m]? = some q ∧ CellAt K F' H' a q k' ∧ (∀ b ∈ q, F' b = none) ∧ (backA S ds as')[j]? = some (some (.c o k')) ∧ (lentFps fp ds dd.length)[m]? = some (fp j) := fun {j} hj => by
    obtain ⟨m, em⟩ := celIx_at hj
    obtain ⟨v, hv, wv⟩ := paired_at w m _ em
    rcases wv with rep | ⟨i', o, k, q, hvs, hk⟩
    · cases rep
    · cases q
      obtain ⟨o', k', e2⟩ := celm m j em
      obtain ⟨a, ha, _⟩ := r.cel j o k hk
      rw [hvs] at ha
      cases ha
      obtain ⟨_, a2, fq, h1, h2, h3, h4⟩ := a'.celAt m o' k' e2
      have hm := (List.getElem?_eq_some_iff.mp em).1
      rw [List.getElem?_append_left (by omega), hv] at h1
      cases h1
      refine ⟨m, o, k, a, o', k', fq, em, hk, hvs, e2, h2, h3, h4, ?_, ?_⟩
      · rw [(bk j).2.2 m o' k' em e2, hk]
      · unfold lentFps
        rw [List.getElem?_append_left (by simpa using hm), List.getElem?_map, em]; rfl
  have notin : ∀ {b : Addr}, (∀ i o k, S[i]? = some (some (.c o k)) → i ∈ celIx ds → b ∉ fp i) → ∀ q ∈ lentFps fp ds dd.length, b ∉ q := fun {b} h q hq => by
    unfold lentFps at hq
    rcases List.mem_append.mp hq with hq | hq
    · obtain ⟨d, hdm, rfl⟩ := List.mem_map.mp hq
      obtain ⟨m, em⟩ := List.getElem?_of_mem hdm
      have at_cel : ∀ i, d = .cel i → b ∉ fpOf fp d := fun i e => by
        subst e
        have hi := celIx_mem em
        obtain ⟨_, o, k, _, _, _, _, _, hk, _⟩ := lent hi
        exact h i o k hk hi
      cases d <;> first
        | exact at_cel _ rfl
        | exact List.not_mem_nil
    · rw [List.eq_of_mem_replicate hq]; intro z; cases z
  have gkeep : ∀ b o, g.G b = some o → H' b = some o := fun b o q => by
    refine p.keep b o (r.gf b o q) (fun ps z => r.tb.g b ps (by rw [q, z])) (notin fun i o1 k1 h1 _ hb => ?_)
    obtain ⟨_, _, _, hf⟩ := r.cel i o1 k1 h1
    rw [(hf b hb).2.1] at q
    cases q
  have back : ∀ {j : Nat} {x : Sl}, (backA S ds as')[j]? = some (some x) → (j ∉ celIx ds ∧ S[j]? = some (some x)) ∨ j ∈ celIx ds := fun {j x} e => by
    by_cases hj : j ∈ celIx ds
    · exact .inr hj
    · rw [(bk j).2.1 hj] at e; exact .inl ⟨hj, e⟩
  have pick : ∀ j : Nat, ∃ q : List Addr, (j ∉ celIx ds → q = fp j) ∧ (j ∈ celIx ds → ∃ (m : Nat) (o : Bool) (k : Cell) (a : Addr) (o' : Bool) (k' : Cell), ds[m]? = some (D.cel j) ∧ S[j]? = some (some (Sl.c o k)) ∧ σ[j]? = some (some (V.ref a)) ∧ as'[m]? = some (Sl.c o' k') ∧ fps'[m]? = some q ∧ CellAt K F' H' a q k' ∧ (∀ b ∈ q, F' b = none) ∧ (backA S ds as')[j]? = some (some (.c o k')) ∧ (lentFps fp ds dd.length)[m]? = some (fp j)) := fun j => by
    by_cases hj : j ∈ celIx ds
    · obtain ⟨m, o, k, a, o', k', q, h1, h2, h3, h4, h5, h6⟩ := lent hj
      exact ⟨q, fun z => absurd hj z, fun _ => ⟨m, o, k, a, o', k', h1, h2, h3, h4, h5, h6⟩⟩
    · exact ⟨fp j, fun _ => rfl, fun z => absurd z hj⟩
  obtain ⟨fp2, hf2⟩ := Classical.axiomOfChoice pick
  -- a cell that is not lent keeps its footprint, which no lent one meets
  have far : ∀ {j l : Nat} {o : Bool} {k : Cell} {b : Addr}, j ∈ celIx ds → l ∉ celIx ds → S[l]? = some (some (.c o k)) → b ∈ fp2 j → b ∉ fp l := fun {j l o k b} hj hl hk hb z => by
    obtain ⟨m, o1, k1, a, o', k', h1, h2, h3, h4, h5, h6, h7, h8, h9⟩ := (hf2 j).2 hj
    rcases p.new m _ h5 b hb with ⟨q, hq, hbq⟩ | hn
    · rw [h9] at hq
      cases hq
      exact r.ap j l o1 k1 o k (fun e => hl (by rw [← e]; exact hj)) h2 hk b hbq z
    · obtain ⟨_, _, hc, _⟩ := r.cel l o k hk
      exact hc.live b z hn
  refine ⟨⟨fp2, p.fh, gkeep, fun b hb => ?_, fun j d e => ?_, fun j o k e => ?_, fun j l o k o' k' n e1 e2 b hb => ?_, by rw [(bk 0).1]; exact r.len, fun q hq => ?_, fun j k e => ?_, ⟨p.tb.t, p.tb.f, r.tb.g, p.tb.c⟩⟩, (bk 0).1, fun j => ⟨fun d e => ?_, fun o k e => ?_, fun e => ?_⟩⟩
  · obtain ⟨h1, h2⟩ := r.nb b hb
    exact ⟨p.out b h2 h1, p.live b h2⟩
  · rcases back e with ⟨_, e⟩ | hj
    · obtain ⟨v, h1, h2⟩ := r.val j d e
      exact ⟨v, h1, h2.mono p.ff⟩
    · obtain ⟨m, o, k, a, o', k', q, h1, h2, h3, h4, h5, h6, h7, h8, h9⟩ := lent hj
      rw [h8] at e
      cases e
  · rcases back e with ⟨hj, e⟩ | hj
    · obtain ⟨a, h1, h2, h3⟩ := r.cel j o k e
      have ef := (hf2 j).1 hj
      refine ⟨a, h1, ?_⟩
      rw [ef]
      refine ⟨h2.mono p.ff fun b hb u q => p.keep b u q (h2.ntb hb q) (notin fun i o1 k1 hi hm z => ?_), fun b hb => ?_⟩
      · exact r.ap j i o k o1 k1 (fun e' => hj (by rw [e']; exact hm)) e hi b hb z
      · obtain ⟨f1, f2, f3⟩ := h3 b hb
        exact ⟨p.out b (h2.live b hb) f1, f2, f3⟩
    · obtain ⟨m, o1, k1, a, o', k', h1, h2, h3, h4, h5, h6, h7, h8, h9⟩ := (hf2 j).2 hj
      rw [h8] at e
      cases e
      refine ⟨a, h3, h6, fun b hb => ?_⟩
      obtain ⟨_, _, _, hf⟩ := r.cel j o k1 h2
      rcases p.new m _ h5 b hb with ⟨q, hq, hbq⟩ | hn
      · rw [h9] at hq
        cases hq
        exact ⟨h7 b hb, (hf b hbq).2.1, (hf b hbq).2.2⟩
      · exact ⟨h7 b hb, Same.free r.gf hn, fun _ z => (r.nb b z).2 hn⟩
  · rcases back e1 with ⟨hj, e1⟩ | hj
    · have ef := (hf2 j).1 hj
      rw [ef] at hb
      rcases back e2 with ⟨hl2, e2⟩ | hl2
      · rw [(hf2 l).1 hl2]
        exact r.ap j l o k o' k' n e1 e2 b hb
      · exact fun z => far hl2 hj e1 z hb
    · rcases back e2 with ⟨hl2, e2⟩ | hl2
      · rw [(hf2 l).1 hl2]
        exact far hj hl2 e2 hb
      · obtain ⟨m, _, _, _, _, _, h1, _, _, _, h5, _⟩ := (hf2 j).2 hj
        obtain ⟨m', _, _, _, _, _, h1', _, _, _, h5', _⟩ := (hf2 l).2 hl2
        refine a'.apart m m' _ _ (fun z => ?_) h5 h5' b hb
        subst z
        rw [h1] at h1'
        cases h1'
        exact n rfl
  · obtain ⟨h1, k, h2⟩ := r.lent q hq
    refine ⟨h1, ?_⟩
    by_cases hj : q.1 ∈ celIx ds
    · obtain ⟨m, o1, k1, a, o', k', q', g1, g2, g3, g4, g5, g6, g7, g8, g9⟩ := lent hj
      rw [h2] at g2
      cases g2
      exact ⟨k', g8⟩
    · exact ⟨k, by rw [(bk q.1).2.1 hj]; exact h2⟩
  · rcases back e with ⟨_, e⟩ | hj
    · exact r.nl j k e
    · obtain ⟨m, o1, k1, a, o', k', q', g1, g2, g3, g4, g5, g6, g7, g8, g9⟩ := lent hj
      rw [g8] at e
      cases e
      exact r.nl j k1 g2
  · by_cases hj : j ∈ celIx ds
    · obtain ⟨m, o1, k1, a, o', k', q', g1, g2, _⟩ := lent hj
      rw [g2] at e
      cases e
    · rw [(bk j).2.1 hj]; exact e
  · by_cases hj : j ∈ celIx ds
    · obtain ⟨m, o1, k1, a, o', k', q', g1, g2, g3, g4, g5, g6, g7, g8, g9⟩ := lent hj
      rw [g2] at e
      cases e
      exact ⟨k', g8⟩
    · exact ⟨k, by rw [(bk j).2.1 hj]; exact e⟩
  · by_cases hj : j ∈ celIx ds
    · obtain ⟨m, o1, k1, a, o', k', q', g1, g2, _⟩ := lent hj
      rw [g2] at e
      cases e
    · rw [(bk j).2.1 hj]; exact e
theorem lf_call {n : Nat} {f : LFn} {dvs : List V} {dd : List D} {ta : TA} {Ta : LTs} (hd : ∀ F, RepL K F dvs dd) (ha : LfA K E ta Ta) (hn : ∀ as Q R, f as Q R → as.length = n) : Lf K E (tCallSD (spL K n f) dvs (WE E) ta) (lCall f dd Ta) := by
  intro g σ H F S Q R Q' rs h hq hx
  refine ha g σ H F S _ R _ rs h (fun ds S1 vs H1 F1 h1 c1 e1 r1 w1 => ?_) hx
  obtain ⟨hnd, h1⟩ := h1
  obtain ⟨fp, r1⟩ := r1
  have hdd := hd F1
  have ar := args_of (dvs := dvs) (dd := dd) r1 w1 hnd hdd
  refine ⟨by rw [ar.length.1]; exact hn _ _ _ h1, F1, _, _, _, _, r1.ent, ar, h1, fun d as q v H' F' fps' p a' rep => ?_, fun c fs as q dx H' F' fps' p a' x => ?_⟩
  · obtain ⟨r2, c2⟩ := call_back r1 w1 hnd p hdd a' q.1
    exact hq d _ v H' F' q.2 (c1.trans c2) (e1.trans p.ff) r2 (.inl rep)
  · obtain ⟨r2, c2⟩ := call_back r1 w1 hnd p hdd a' q.1
    exact hx c fs _ dx H' F' q.2 (c1.trans c2) (e1.trans p.ff) r2 x
end
end L3
set_option linter.all false
set_option maxRecDepth 100000
set_option maxHeartbeats 4000000
/-! L3, part H: the rule for a def's body, the end of a law, the packed rules. -/
namespace L3
open PySem PySem.Spec PyProof.Rows L2
/-! ### a def that may show data, by its body -/
theorem fnG_of {CX : CXT} {P : Program} {w : World} {K : PySem.W.Frag} {mg : Str → Option Value} {base : Heap} {k : Nat} {f : Addr} {name qual : Str} {params : Arguments} {body : List Stmt} {scope : Scope} {dV kV doc pm cdv ct oc : Value} {an od : Option Addr}
    {osl : Array (Option Value)} {N ps : List Str} {sp : Sp} (lk : K.lookup f = some ⟨oc, od, .func (PySem.W.fnOf name qual params body scope dV kV doc pm an cdv ct), osl⟩) (hcd : PySem.W.codeIn K cdv qual = true) (S : FnScope N ps scope)
    (len : ∀ vs H Q E, sp vs H Q E → vs.length = ps.length)
    (hbody : ∀ (A : Around) (outer : List Env) (s : Shared) (H : Hp) (vs : List V) (Q : VK) (E : XK), A.guards = some [] → Room k (A.deeper (envOfC qual scope s.heap.objs.size f cdv)) → sp vs H Q E →
      ∃ t, PSs (cxOf CX P w K mg base N qual scope f cdv A outer s H E) body t ∧ t { nx := fun _ H' => Q .non H', rt := Q } (L2.start N vs) H) :
    FnG P w K mg base CX (k + 1) f (PySem.W.fnOf name qual params body scope dV kV doc pm an cdv ct) ps sp where
  len := len
  run := fun A outer s H args us vs Q E hgd room e0 bt rv hsp => by
    have inK : K.In s.heap := e0.mod.kin.keeps fun b o q => (e0.bs b o q).1
    have noLim : s.heap.NoLimit := e0.mod.nolimit.keeps fun b o q => (e0.bs b o q).1
    have kinds : ∀ y ∈ ps.zip us, scope.names.lookup y.1 = some .local ∨ (scope.names.lookup y.1 = some .cell ∧ ((cellsFrom (s.heap.objs.size + 1) scope.names []).lookup y.1).isSome = true) := fun y hy =>
      (S.par y.1 (List.of_mem_zip (a := y.1) (b := y.2) hy).1).imp id fun q => ⟨q, PySem.W.cellsFrom_some _ _ _ (.inl q)⟩
    refine codeAny_call_function room.depth (inK _ _ lk) rfl S.co S.gen rfl (PySem.W.codeRec_of inK hcd) (bt _ _ _ _ (wpAny_newFunctionEnv_cells S.kind kinds fun env he s1 x => ?_))
    cases he
    obtain ⟨t, ht, hq⟩ := hbody A outer s H vs Q E hgd (room.deeper _) hsp
    have J : Inv (cxOf CX P w K mg base N qual scope f cdv A outer s H E) [] (L2.start N vs) H s1 := inv_start S room.hd e0 (len _ _ _ _ hsp) rv x
    refine ⟨noLim.keeps x.toInCall.keep, codeAny_func (wpAny_mono (ht.run [] s1 (L2.start N vs) H _ J hq) (fun fl s' hs => ?_) fun e s' hs => hs)⟩
    match fl, hs with
    | .ret u, ⟨v, σ', H', J', r', q⟩ => exact ⟨v, H', J'.os, J'.bare, J'.base, J'.hok, r', q⟩
    | .next, ⟨σ', H', J', q⟩ => exact ⟨.non, H', J'.os, J'.bare, J'.base, J'.hok, rfl, q⟩
    | .brk, ⟨_, _, _, q⟩ => exact False.elim q
    | .cont, ⟨_, _, _, q⟩ => exact False.elim q

/-! ### a law's end -/
theorem lawG {P : Program} {w : World} {K : PySem.W.Frag} {mg mb : Str → Option Value} {CX : CXT} {k : Nat} {fa a : Addr} {fd : FuncData} {x : Str} {sp : Sp} {s₁ : Shared} {vs : List Value} {ns : List Int}
    (inK : K.In s₁.heap) (hns : s₁.heap.Ns mainGlobals mg) (hb : s₁.heap.Ns builtinsNs mb) (hbb : ∀ x : Str, x ≠ "__name__" → mb x = bootBuiltins x) (hlim : s₁.heap.NoLimit) (hgn : s₁.gens = #[])
    (ha : s₁.heap.get? a = some { cls := .type "list", data := .seq vs.toArray }) (hi : IntsAre vs ns) (hl : ns.length ≤ sizeLine) (hr : Room k callerA)
    (F : ∀ base : Heap, K.In base → base.Ns mainGlobals mg → FnG P w K mg base CX k fa fd [x] sp) (hbind : ∀ (s : Shared) (u : Value), BindsTo s fd ⟨[u], []⟩ [(x, u)])
    (hsp : ∀ H : Hp, Only H → SqL K H a (ns.map V.int) → sp [.ref a] H (fun v _ => v = .bl true) fun _ _ _ => False)
    (hCX : ∀ H e s', CX [] H s₁ (fun _ _ _ => False) e s' → False) :
    codeAny (model P w) callerA (.call (.ref fa) ⟨[.ref a], []⟩) (fun r s' => r = .ok (.ret (.bool true)) ∧ OldK s₁.heap s'.heap ∧ s'.os = s₁.os ∧ AllBare s'.gens) s₁ := by
  have rvs := vals_ints hi
  have nvs := hi.length
  have main : ∀ H : Hp, Only H → SqL K H a (ns.map V.int) → HOk P w H s₁.heap → (∀ b, H b ≠ none → b = a) → (H a ≠ none → K.lookup a = none) →
      codeAny (model P w) callerA (.call (.ref fa) ⟨[.ref a], []⟩) (fun r s' => r = .ok (.ret (.bool true)) ∧ OldK s₁.heap s'.heap ∧ s'.os = s₁.os ∧ AllBare s'.gens) s₁ := by
    intro H only hS hok hA hK
    -- what is no list (a namespace, an object of the written part) is not tracked
    have untracked : ∀ {b : Addr}, b ≠ a → H b = none := fun {b} hne => by
      cases q : H b with
      | none => rfl
      | some u => exact absurd (hA b (by rw [q]; simp)) hne
    have dictNo : ∀ {b : Addr} {o : Obj} {es : Array DictEntry} {ep : Nat}, s₁.heap.get? b = some o → o.data = .dict es ep → H b = none := fun {b o es ep} e d => untracked fun z => by
      subst z
      rw [ha] at e
      cases e
      exact nomatch (show Data.seq vs.toArray _ = Data.dict es ep from d)
    have hid : ∀ {b : Addr} {m : Str → Option Value}, s₁.heap.Ns b m → (hidT s₁.heap H).Ns b m := fun {b m} ⟨o, es, ep, e, d, r⟩ => ⟨o, es, ep, hidT_get e (dictNo e d), d, r⟩
    have kBase : K.In (hidT s₁.heap H) := fun b o e => hidT_get (inK b o e) (by
      by_cases z : b = a
      · cases q : H b with
        | none => rfl
        | some u =>
          have hk := hK (by rw [← z, q]; simp)
          rw [← z, e] at hk
          cases hk
      · exact untracked z)
    have md : Mod K mg (hidT s₁.heap H) := ⟨kBase, hid hns, ⟨mb, hid hb, hbb⟩, let ⟨mc, h1, h2⟩ := hlim; ⟨mc, hid h1, h2⟩⟩
    have start0 : Env0 P w K mg (hidT s₁.heap H) callerA [] s₁ H := ⟨rfl, md, fun b o e => of_hidT e, Nat.le_of_eq (hidT_size _ _), trivial, (fun b hb => nomatch hb), hok, .of_eq hgn⟩
    refine codeAny_mono ((F _ kBase (hid hns)).run callerA [] s₁ H ⟨[.ref a], []⟩ [.ref a] [.ref a] _ _ rfl hr start0 (hbind s₁ (.ref a)) (.cons rfl .nil) (hsp H only hS)) fun r s' h => ?_
    match r, h with
    | .error e, h => exact (hCX H e s' h).elim
    | .ok .next, h => exact False.elim h
    | .ok .brk, h => exact False.elim h
    | .ok .cont, h => exact False.elim h
    | .ok (.ret u), h =>
      obtain ⟨v, H', os, bare, un, hok', r', q⟩ := h
      cases (show v = .bl true from q)
      cases (show u = Value.bool true from r')
      refine ⟨rfl, OldK.of_keep fun b o e => ?_, os, bare⟩
      cases q : H b with
      | none => exact un.keep b o e q (fun z => nomatch z) (by simp)
      | some u =>
        rcases only b with z | ⟨ob, xs, z⟩
        · rw [q] at z; cases z
        · obtain ⟨e1, _⟩ := hok b _ z
          obtain ⟨e2, _⟩ := hok' b _ (un.frzs b ob _ z)
          rw [e] at e1; cases e1
          exact e2
  cases hk : K.lookup a with
  | some o =>
    have e := inK a o hk
    rw [ha] at e
    cases e
    exact main (fun _ => none) (fun _ => .inl rfl) (.inr ⟨_, vs.toArray, _, hk, rfl, rfl, rfl, by rw [List.size_toArray, nvs]; exact hl, by simpa using rvs⟩) (fun b u z => nomatch z) (fun b z => absurd rfl z) fun z => absurd rfl z
  | none =>
    refine main (fun b => if b = a then some (.frz { cls := .type "list", data := .seq vs.toArray } (.lst (ns.map V.int))) else none) (fun b => ?_) (.inl (.inr ⟨_, if_pos rfl⟩)) (fun b u z => ?_) (fun b z => ?_) fun _ => hk
    · by_cases hb : b = a
      · exact .inr ⟨_, _, if_pos hb⟩
      · exact .inl (if_neg hb)
    · by_cases hb : b = a
      · subst hb
        cases (if_pos rfl).symm.trans z
        exact ⟨ha, by rw [List.length_map]; exact hl, vs, _, rvs, ha⟩
      · exact nomatch (if_neg hb).symm.trans z
    · by_cases hb : b = a
      · exact hb
      · exact absurd (if_neg hb) z
/-- the goal that the head leaves -/
theorem walkG {l : PySem.W.OpenLaw} {n k : Nat} {q : Program} {loose : List Str} {XP : (Str → Option Value) → Heap → Prop} {YP : World → Heap → Prop} {d : DefRec} {K : Params → PySem.W.Frag} {CX : World → CXT} {sp : World → Sp} {x : Str}
    (hn : l.most = some n) (hn2 : n ≤ sizeLine) (hdf : d.params.defaults = []) (hr : Room k callerA)
    (hY : ∀ (w : World) (h : Heap), YP w h → (K w.params).In h)
    (F : ∀ (w : World) (mg : Str → Option Value) (fa : Addr) (h : Heap), (K w.params).In h → h.Ns mainGlobals mg → mg d.name = some (.ref fa) →
      ∃ fd : FuncData, (∀ (s : Shared) (u : Value), BindsTo s fd ⟨[u], []⟩ [(x, u)]) ∧
        ∀ base : Heap, (K w.params).In base → base.Ns mainGlobals mg → FnG l.prog w (K w.params) mg base (CX w) k fa fd [x] (sp w))
    (hsp : ∀ (w : World) (H : Hp) (a : Addr) (ns : List Int), ns.length ≤ n → Only H → SqL (K w.params) H a (ns.map V.int) → sp w [.ref a] H (fun v _ => v = .bl true) fun _ _ _ => False)
    (hCX : ∀ (w : World) (H : Hp) (s : Shared) (e : Value) (s' : Shared), CX w [] H s (fun _ _ _ => False) e s' → False) :
    PySem.W.WalkO q loose XP YP l.row.toRowW d [] (fun f vs => PySem.call f vs) := by
  refine Att.attach_call hn hdf fun w s₀ s₁ mg mb fa o pm cd doc a vs ns G Y ho hd hcd hmg hobj hints hlen hgn => ?_
  have inK := hY w _ Y
  obtain ⟨fd, hbd, hF⟩ := F w mg fa _ inK G.T.g hmg
  exact lawG inK G.T.g G.T.b G.T.builtins G.T.nolimit hgn hobj hints (Nat.le_trans hlen hn2) hr hF hbd (fun H hO hS => hsp w H a ns hlen hO hS) fun H e s' => hCX w H s₁ e s'
/-- nothing is let out -/
theorem cx_none {P : Program} {w : World} {l : List Env} {H : Hp} {s : Shared} {e : Value} {s' : Shared} (h : L2.CX P w l H s (fun _ _ _ => False) e s') : False := by
  obtain ⟨_, _, _, _, _, _, _, _, _, _, _, _, z⟩ := h
  exact z.elim
end L3
set_option linter.all false
set_option maxRecDepth 100000
set_option maxHeartbeats 4000000
/-! L3, part I: more rules: cells' statements, chains, isinstance, repr, objects. -/
namespace L3
open PySem L2
section
variable {K : PySem.W.Frag} {g : Gd} {E : WX} {F H : Hp} {σ : St} {S : SS}
/-! ### chains -/
@[simp] def lChain (f f' : D2) (Ta Tb Tc : LT) : LT := fun S Q R => Ta S (fun x S1 => Tb S1 (fun y S2 => f (look S2 x) (look S2 y) fun z => match z with
  | .bl k => if k = true then Tc S2 (fun w S3 => f' (look S3 y) (look S3 w) fun d => Q d S3) R else Q (.bl false) S2
  | _ => False) R) R
theorem lf_chain {r r' : R2} {f f' : D2} {ta tb tc : TE} {Ta Tb Tc : LT} (hl : OpL K r f) (hl' : OpL K r' f') (ha : Lf K E ta Ta) (hb : Lf K E tb Tb) (hc : Lf K E tc Tc) : Lf K E (tChain r r' ta tb tc) (lChain f f' Ta Tb Tc) := by
  intro g σ H F S Q R Q' rs h hq hx
  refine ha g σ H F S _ R _ rs h (fun x S1 v1 H1 F1 h1 c1 e1 r1 w1 => ?_) hx
  refine hb g σ H1 F1 S1 _ R _ r1 h1 (fun y S2 v2 H2 F2 h2 c2 e2 r2 w2 => ?_) (hx.step c1 e1)
  refine hl g F2 H2 σ S2 v1 v2 _ _ _ _ r2 ((w1.step c2 e2).look r2) (w2.look r2) h2 fun d v H3 F3 p e3 r3 rep => ?_
  split at p
  · rename_i k
    cases rep
    refine ⟨k, rfl, ?_⟩
    have c12 := c1.trans c2
    have e123 := e1.trans (e2.trans e3)
    cases k with
    | true =>
      refine hc g σ H3 F3 S2 _ R _ r3 p (fun w S4 v4 H4 F4 h4 c4 e4 r4 w4 => ?_) (hx.step c12 e123)
      exact hl' g F4 H4 σ S4 v2 v4 _ _ _ _ r4 ((w2.step c4 (e3.trans e4)).look r4) (w4.look r4) h4 fun d v H' F' p e r q => hq d S4 v H' F' p (c12.trans c4) (e123.trans (e4.trans e)) r (.inl q)
    | false => exact hq _ S2 _ H3 F3 p c12 e123 r3 (.inl (.bl _))
  · exact p.elim

/-! ### cells: statements -/
/-- x = [e, ..] (a list that will be changed) -/
def lNewC (i : Nat) (Ts : LTs) : LTS := fun D S => Ts S (fun ds S1 => frozenD ds = true ∧ ds.length ≤ sizeLine ∧ freeSl S1 i = true ∧ D.nx (S1.set i (some (.c true (.lst ds))))) D.xr
theorem lfs_newC {i : Nat} {t : TA} {T : LTs} (h : LfA K E t T) : LfS K E (tAsg (tLst t) (gName i)) (lNewC i T) := fun g σ H F S D3 D2 rs q c => by
  refine h g σ H F S _ _ _ rs q (fun ds S1 vs H1 F1 h1 c1 e1 r1 w1 => ?_) c.cx
  obtain ⟨hf, hz, hs, hn⟩ := h1
  have rl := repL_of w1 hf
  refine ⟨by rw [rl.length]; exact hz, fun p hp => ?_⟩
  obtain ⟨rp, hG, hB⟩ := r1.pend (o := .lst vs) hp
  exact c.nx _ _ _ F1 hn e1 (rp.toCell hG hB upd_same rl hs)
/-- x = list(e) -/
def lNewL (i : Nat) (T : LT) : LTS := fun D S => T S (fun d S1 => match look S1 d with
  | .tup xs => freeSl S1 i = true ∧ D.nx (S1.set i (some (.c true (.lst xs))))
  | .lst xs => freeSl S1 i = true ∧ D.nx (S1.set i (some (.c true (.lst xs))))
  | _ => False) D.xr
def rListA (K : PySem.W.Frag) : List V → Hp → VK → Prop := fun xs H Q => ∃ p ys, xs = [.ref p] ∧ (SqL K H p ys ∨ SqT K H p ys) ∧ ∀ l, H l = none → Q (.ref l) (upd H l (.lst ys))
theorem lfs_newL {i : Nat} {t : TE} {T : LT} (h : Lf K E t T) : LfS K E (tAsg (tCB (rListA K) (tCons t tNil)) (gName i)) (lNewL i T) := fun g σ H F S D3 D2 rs q c => by
  refine h g σ H F S _ _ _ rs q (fun d S1 v H1 F1 h1 c1 e1 r1 w1 => ?_) c.cx
  have w := w1.look r1
  have go : ∀ {xs : List D} {ws : List V}, RepL K F1 ws xs → freeSl S1 i = true ∧ D3.nx (S1.set i (some (.c true (.lst xs)))) → ∀ l, H1 l = none → D2.nx (σ.set i (some (.ref l))) (upd H1 l (.lst ws)) := fun {xs ws} rl hh l hl => by
    obtain ⟨rp, hG, hB⟩ := r1.pend (o := .lst ws) hl
    exact c.nx _ _ _ F1 hh.2 e1 (rp.toCell hG hB upd_same rl hh.1)
  split at h1
  · rename_i xs e
    rw [e] at w
    obtain ⟨a, ws, rfl, ha, ra⟩ := w.tupI r1.fh'
    exact ⟨a, ws, rfl, .inr ha, go ra h1⟩
  · rename_i xs e
    rw [e] at w
    obtain ⟨a, ws, rfl, ha, ra⟩ := w.lstI r1.fh'
    exact ⟨a, ws, rfl, .inl (SqL.of ha), go ra h1⟩
  · exact h1.elim
/-- the list in slot i -/
@[simp] def celL (S : SS) (i : Nat) (P : Bool → List D → Prop) : Prop := match S[i]? with
  | some (some (.c o (.lst xs))) => P o xs
  | _ => False
theorem celL_of {i : Nat} {P : Bool → List D → Prop} (h : celL S i P) : ∃ o xs, S[i]? = some (some (.c o (.lst xs))) ∧ P o xs := by
  unfold celL at h
  split at h
  · exact ⟨_, _, ‹_›, h⟩
  · exact h.elim
theorem RS.celA {i : Nat} {o : Bool} {xs : List D} (r : RS K g F H σ S) (h : S[i]? = some (some (.c o (.lst xs)))) : ∃ a vs, σ[i]? = some (some (.ref a)) ∧ H a = some (.lst vs) ∧ RepL K F vs xs ∧ F a = none := by
  obtain ⟨fp, r⟩ := r
  obtain ⟨a, ha, hc, hf⟩ := r.cel i o _ h
  have hF := (hf a hc.mem).1
  obtain ⟨_, vs, hv, rl⟩ := hc
  exact ⟨a, vs, ha, hv, rl, hF⟩
/-- x.append(e) -/
@[simp] def lAppend (i : Nat) (T : LT) : LTS := fun D S => celL S i fun _ _ => T S (fun d S1 => isCel d = false ∧ celL S1 i fun o xs => xs.length < sizeLine ∧ D.nx (S1.set i (some (.c o (.lst (xs ++ [d])))))) D.xr
theorem lfs_append {i : Nat} {t : TE} {T : LT} (h : Lf K E t T) : LfS K E (tDrop (tBM K "list" rAppend (tVar i) (tCons t tNil))) (lAppend i T) := fun g σ H F S D3 D2 rs q c => by
  obtain ⟨o0, xs0, hi0, q⟩ := celL_of q
  obtain ⟨a0, vs0, ha0, hv0, rl0, _⟩ := rs.celA hi0
  refine ⟨.ref a0, ha0, .inl ⟨rfl, vs0, SqL.of hv0⟩, ?_⟩
  refine h g σ H F S _ _ _ rs q (fun d S1 v H1 F1 h1 c1 e1 r1 w1 => ?_) c.cx
  obtain ⟨hd, h1⟩ := h1
  obtain ⟨o, xs, hi, hz, hn⟩ := celL_of h1
  obtain ⟨a, vs, ha, hv, rl, _⟩ := r1.celA hi
  rw [ha0] at ha
  cases ha
  refine ⟨a0, vs, v, rfl, rfl, hv, by rw [rl.length]; exact hz, ?_⟩
  exact c.nx _ _ _ F1 hn e1 (r1.setC hi ha0 (rl.append (.one (w1.rep hd))))
/-- x[e] = .. -/
@[simp] def gSubL (i : Nat) (T : LT) : LG := fun d S Q R => isCel d = false ∧ celL S i fun _ _ => T S (fun j S1 => match look S1 j with
  | .int k => celL S1 i fun o xs => ∃ m, ixN xs.length k = some m ∧ Q (S1.set i (some (.c o (.lst (xs.set m d)))))
  | _ => False) R
theorem lfg_sub {i : Nat} {t : TE} {T : LT} (h : Lf K E t T) : LfG K E (gSub (tVar i) t rSetL) (gSubL i T) := fun g v d σ H F S Q R Q' rs w q hq hx => by
  obtain ⟨hd, q⟩ := q
  obtain ⟨o0, xs0, hi0, q⟩ := celL_of q
  obtain ⟨a0, vs0, ha0, hv0, rl0, _⟩ := rs.celA hi0
  refine ⟨.ref a0, ha0, ?_⟩
  refine h g σ H F S _ R _ rs q (fun j S1 vj H1 F1 h1 c1 e1 r1 w1 => ?_) fun cl fs S' dx H' F' q c e r x => hx cl fs S' dx σ H' F' q e r x
  have wj := w1.look r1
  split at h1
  · rename_i k ek
    rw [ek] at wj
    obtain ⟨o, xs, hi, m, hm, hn⟩ := celL_of h1
    obtain ⟨a, vs, ha, hv, rl, _⟩ := r1.celA hi
    rw [ha0] at ha
    cases ha
    refine ⟨a0, vs, k, m, rfl, wj.intI, hv, by rw [rl.length]; exact hm, ?_⟩
    exact hq _ _ _ F1 hn e1 (r1.setC hi ha0 (rl.set ((w.rep hd).mono e1) m))
  · exact h1.elim
/-- a slice object -/
def slo (p : Addr) (i j : Int) : HO := .ext fun h => ∃ t u, h.IsSliceOf p (.int i t) (.int j u) .none
def tSlO (tl th : TO) : TE := fun σ H Q => tl σ H fun x H1 => th σ H1 fun y H2 => ∃ i j, x = some i ∧ y = some j ∧ ∀ p, H2 p = none → Q (.ref p) (upd H2 p (slo p i j))
theorem pe_slO {X : Cx} {lo hi : Option Expr} {tl th : TO} {p2 : Pos} (hl : PO X lo tl) (hh : PO X hi th) : PE X (.Slice lo hi none p2) (tSlO tl th) := by
  refine ⟨fun pins s σ H Q J h => wpAny_Slice (thn (hl.run pins s σ H _ J h) fun vl s1 ⟨l, H1, J1, pl, q1⟩ => thn (hh.run pins s1 σ H1 _ J1 q1) fun vu s2 ⟨u, H2, J2, pu, i, j, el, eu, q2⟩ => ?_)⟩
  rw [PySem.evalPart_none]
  refine wpAny_pure ?_
  have hn : H2 s2.heap.objs.size = none := J2.hok.fresh (Nat.le_refl _)
  refine ⟨.ref s2.heap.objs.size, upd H2 s2.heap.objs.size (slo s2.heap.objs.size i j), J2.laid (t' := s2.toks) (fun b o e => Heap.get?_push_of_some _ e) (Nat.le_refl _) ?_, rfl, q2 _ hn⟩
  subst el eu
  cases pl with
  | int _ t =>
    cases pu with
    | int _ t2 =>
      refine ⟨⟨t, t2, Heap.IsSliceOf.new ..⟩, ⟨_, Heap.get?_push_size _ rfl⟩, fun h1 h2 z k => ?_⟩
      obtain ⟨t, u, o, ho, hr⟩ := z
      exact ⟨t, u, o, k o ho, hr⟩
end
section
variable {prog : Program} {w : World} {A : Around} {E : Value → Shared → Prop} {s : Shared}
theorem bounds_cut {a c m n : Nat} (hac : a ≤ m) (hm : m = min c n) : sliceBounds (some (a : Int)) (some (c : Int)) none n = ((a : Int), (m : Int), 1) := by
  simp only [sliceBounds, Option.getD_none]
  rw [if_neg (show ¬ ((a : Int) < 0) by omega), if_neg (show ¬ ((c : Int) < 0) by omega)]
  simp only [show (1 : Int) > 0 by decide, if_true]
  congr 1
  · omega
  · congr 1; omega
set_option maxRecDepth 100000 in
/-- x[a:c] = ys of another list, c behind the end or not (HandS.List setItem_slice with the end cut) -/
theorem splice_cut {l b sl : Addr} {items new : Array Value} {n n2 : Nat} {vl vu : Value} {a c m : Nat} {Q : Unit → Shared → Prop}
    (e : s.heap.get? l = some { cls := .type "list", data := .seq items n }) (e2 : s.heap.get? b = some { cls := .type "list", data := .seq new n2 }) (hne : l ≠ b)
    (hs : s.heap.IsSliceOf sl vl vu .none) (pl : IsPart vl (some (a : Int))) (pu : IsPart vu (some (c : Int))) (hac : a ≤ m) (hm : m = min c items.size)
    (hsz : items.size + new.size ≤ sizeLine) (h : Q () { s with heap := s.heap.update l (Obj.mapSeq fun xs => xs.extract 0 a ++ new ++ xs.extract m xs.size) }) :
    wpAny (model prog w) A (setItem (.ref l) (.ref sl) (.ref b)) Q E s := by
  have hl : s.heap.IsList l items := PySem.IsL.isList e
  have hb : s.heap.IsList b new := PySem.IsL.isList e2
  obtain ⟨os, hos, hcs, hds⟩ := id hs
  have hTs : s.TypeIs (.ref sl) "slice" := ⟨os, hos, hcs⟩
  have hstep : ¬ ((rawPart none == rawInt 0) = true) := Bool.false_ne_true
  have hsame : Builtin.List.listSameRef (.ref l) (.ref b) = false := by
    unfold Builtin.List.listSameRef
    exact beq_eq_false_iff_ne.mpr hne
  have hmax : (max (a : Int) (m : Int)).toNat = m := by omega
  have hz' : ((fun xs : Array Value => xs.extract 0 a ++ new ++ xs.extract m xs.size) items).size ≤ sizeLine + 1 := by
    simp only [Array.size_append, Array.size_extract]
    omega
  unfold setItem
  try with_reducible refine wpAny_holding ?_
  first | refine wpAny_bind (wpAny_pure ?_) | skip
  refine wpAny_bind (wpAny_sequenceKey hl.typeIs (by decide) ?_)
  refine wpAny_bind (wpAny_callSpecial?_slot (name := Str.ofString "__setitem__") hl.typeIs slot_list_setitem
    (wpAny_call_entry slot_list_setitem hl.typeIs entry_list_setitem ?_ (args_list_setitem _ _ _)))
  show wpAny _ _ (Builtin.List.listSubscript? (.ref sl) >>= _) _ _ s
  refine wpAny_bind ?_
  unfold Builtin.List.listSubscript?
  refine wpAny_bind (wpAny_specialOf hTs slice_no_index ?_)
  simp only [Option.isNone_none, if_true]
  refine wpAny_pure ?_
  show wpAny _ _ (typeOf (.ref sl) >>= _) _ _ s
  refine wpAny_bind (wpAny_typeOf hTs ?_)
  first
    | rw [if_neg (by decide)]
    | refine PySem.W.KFB.if_not (by decide) ?_
  rw [listSliceParts_eq]
  refine wpAny_bind (wpAny_bind (wpAny_field hos hds (x := .none) rfl (wpAny_bind (wpAny_listPart .none ?_))))
  rw [if_neg hstep]
  refine wpAny_bind (wpAny_field hos hds (x := vl) rfl (wpAny_bind (wpAny_listPart pl ?_)))
  refine wpAny_bind (wpAny_field hos hds (x := vu) rfl (wpAny_bind (wpAny_listPart pu (wpAny_pure ?_))))
  first
    | simp only [hsame, Bool.false_eq_true, if_false]
    | refine PySem.W.KFB.if_not hsame ?_
    | (dsimp only
       rw [if_neg (by rw [hsame]; exact Bool.false_ne_true)])
  refine wpAny_bind (m := Builtin.List.listAllItems (.ref b) "must assign iterable to extended slice") ?_
  unfold Builtin.List.listAllItems
  refine wpAny_bind (wpAny_typeOf hb.typeIs ?_)
  first
    | refine PySem.W.KFB.if_so (by decide) ?_
    | rw [if_pos (by decide)]
    | simp only [beq_self_eq_true, Bool.true_or, if_true]
  unfold Builtin.List.listItems
  refine wpAny_bind (wpAny_seqItems e2 rfl (wpAny_pure ?_))
  refine wpAny_bind (wpAny_bind (wpAny_seqItems e rfl (wpAny_pure ?_)))
  refine wpAny_bind (wpAny_of_eq ((sliceIndices_raw (some (a : Int)) (some (c : Int)) none items.size (by simp)).trans (congrArg (pure : Int × Int × Int → Sem (Int × Int × Int)) (bounds_cut hac hm))) ?_)
  show wpAny _ _ (if ((1 : Int) == 1) = true then _ else _) _ _ s
  rw [if_pos (by decide)]
  refine wpAny_bind (wpAny_rule ?_)
  first
    | simp only [notLongL hsz, Bool.false_eq_true, if_false]
    | refine PySem.W.KFB.if_not (notLongL hsz) ?_
  first | refine wpAny_bind (wpAny_pure ?_) | skip
  show wpAny _ _ (updateSeq l (fun xs => xs.extract 0 ((a : Int)).toNat ++ new ++ xs.extract (max (a : Int) (m : Int)).toNat xs.size) >>= _) _ _ s
  rw [hmax, Int.toNat_natCast]
  refine wpAny_bind (wpAny_updateSeq (hz := Nat.le_trans (Nat.le_add_right _ _) hsz) (_hz' := hz') e rfl ?_)
  refine wpAny_bind (wpAny_letGo ?_)
  first
    | exact wpAny_bind (wpAny_pure (wpAny_pure ⟨.none, rfl, wpAny_pure h⟩))
    | exact wpAny_pure ⟨.none, rfl, wpAny_pure h⟩
theorem put_cut {X : Cx} {pins : List (Addr × Obj)} {s : Shared} {σ : St} {H : Hp} {l b sl : Addr} {xs ys : List V} {a c : Int} {vl vu : Value} {Q : Unit → Shared → Prop} (J : Inv X pins σ H s)
    (hH : H l = some (.lst xs)) (hB : H b = some (.lst ys)) (hne : l ≠ b) (hs : s.heap.IsSliceOf sl vl vu .none) (ra : RelV (.int a) vl) (rc : RelV (.int c) vu) (h0 : 0 ≤ a) (hac : a ≤ c) (han : a ≤ xs.length)
    (hz : xs.length + ys.length ≤ sizeLine) (h : ∀ s', Inv X pins σ (upd H l (.lst (xs.take a.toNat ++ ys ++ xs.drop c.toNat))) s' → Q () s') : wpAny (model X.prog X.w) X.A (setItem (.ref l) (.ref sl) (.ref b)) Q X.xe s := by
  obtain ⟨ta, rfl⟩ := ra
  obtain ⟨tc, rfl⟩ := rc
  obtain ⟨z, its, n, r, hl, e⟩ := J.lstM hH
  obtain ⟨z2, its2, n2, r2, hl2, e2⟩ := J.lstM hB
  obtain ⟨a', rfl⟩ := Int.eq_ofNat_of_zero_le h0
  obtain ⟨c', rfl⟩ := Int.eq_ofNat_of_zero_le (Int.le_trans h0 hac)
  simp only [Int.toNat_natCast] at h
  have hcut : its.drop (min c' its.length) = its.drop c' := by
    by_cases q : c' ≤ its.length
    · rw [Nat.min_eq_left q]
    · rw [Nat.min_eq_right (by omega), List.drop_length, List.drop_eq_nil_of_le (by omega)]
  refine splice_cut (a := a') (c := c') (m := min c' its.length) e e2 hne hs (.int _ _) (.int _ _) (by omega) (by rw [List.size_toArray]) (by rw [List.size_toArray, List.size_toArray]; omega) (h _ ?_)
  refine J.lset (its' := its.take a' ++ its2 ++ its.drop c') (t' := s.toks) hH e ?_ (Vals.append (Vals.append (r.take _) r2) (r.drop _)) ?_
  · rw [← hcut]
    exact splice_eq its its2 a' (min c' its.length)
  · rw [List.length_append, List.length_append, List.length_take, List.length_drop]
    omega
end
section
variable {K : PySem.W.Frag} {g : Gd} {E : WX} {F H : Hp} {σ : St} {S : SS}
/-- x[a:b] = ys -/
def rSetSl : V → V → V → Hp → (Hp → Prop) → Prop := fun o i v H Q => ∃ l p b a c xs ys, o = .ref l ∧ i = .ref p ∧ v = .ref b ∧ H p = some (slo p a c) ∧ H l = some (.lst xs) ∧ H b = some (.lst ys) ∧ l ≠ b ∧ 0 ≤ a ∧ a ≤ c ∧ a ≤ xs.length ∧ xs.length + ys.length ≤ sizeLine ∧ Q (upd H l (.lst (xs.take a.toNat ++ ys ++ xs.drop c.toNat)))
theorem pset_sl {X : Cx} : PSet X rSetSl := by
  intro pins s σ H o i v ov iv u Q J ro ri rv h
  obtain ⟨l, p, b, a, c, xs, ys, rfl, rfl, rfl, hp, hl, hb, hne, h0, hac, hc, hz, q⟩ := h
  cases ro
  cases ri
  cases rv
  have hs : ObjOk X.prog X.w H s.heap p (slo p a c) := J.hok p _ hp
  obtain ⟨⟨ta, tc, hsl⟩, _⟩ := hs
  exact put_cut J hl hb hne hsl ⟨ta, rfl⟩ ⟨tc, rfl⟩ h0 hac hc hz fun s' J' => ⟨_, J', q⟩
/-- .. lifted: slot x, from a to b -/
def gSetSlL (i : Nat) (Tl Th : LTO) : LG := fun d S Q R => match d with
  | .lst ys => celL S i fun _ _ => Tl S (fun lo S1 => Th S1 (fun hi S2 => match lo, hi with
    | some a, some c => celL S2 i fun o xs => 0 ≤ a ∧ a ≤ c ∧ a ≤ xs.length ∧ xs.length + ys.length ≤ sizeLine ∧ Q (S2.set i (some (.c o (.lst (xs.take a.toNat ++ ys ++ xs.drop c.toNat)))))
    | _, _ => False) R) R
  | _ => False
theorem lfg_setSl {i : Nat} {tl th : TO} {Tl Th : LTO} (hl : LfO K E tl Tl) (hh : LfO K E th Th) : LfG K E (gSub (tVar i) (tSlO tl th) rSetSl) (gSetSlL i Tl Th) := fun g v d σ H F S Q R Q' rs w q hq hx => by
  unfold gSetSlL at q
  split at q
  · rename_i ys
    obtain ⟨o0, xs0, hi0, q⟩ := celL_of q
    obtain ⟨a0, vs0, ha0, hv0, rl0, hF0⟩ := rs.celA hi0
    have hx' : CX3 K g σ F S R E := fun cl fs S' dx H' F' q c e r x => hx cl fs S' dx σ H' F' q e r x
    have rep := w.rep rfl
    cases rep with
    | @lst b ws _ hb rb =>
      refine ⟨.ref a0, ha0, ?_⟩
      refine hl g σ H F S _ R _ rs q (fun lo S1 H1 F1 h1 c1 e1 r1 => ?_) hx'
      refine hh g σ H1 F1 S1 _ R _ r1 h1 (fun hi S2 H2 F2 h2 c2 e2 r2 => ?_) (hx'.step c1 e1)
      split at h2
      · rename_i a c
        obtain ⟨o, xs, hi, h0, hac, hc, hz, hn⟩ := celL_of h2
        obtain ⟨a1, vs, ha, hv, rl, hF2⟩ := r2.celA hi
        rw [ha0] at ha
        cases ha
        have eF : Same F F2 := e1.trans e2
        have hb2 : F2 b = some (.lst ws) := eF _ _ hb
        have hne : a0 ≠ b := fun z => by rw [z, hb2] at hF2; cases hF2
        refine ⟨a, c, rfl, rfl, fun p hp => ?_⟩
        have hpa : a0 ≠ p := ne_of_none hv hp
        have hpb : b ≠ p := ne_of_none (r2.fh' _ _ hb2) hp
        have r3 := r2.new (o := slo p a c) hp
        have e3 : Same F2 (upd F2 p (slo p a c)) := sameNew (r2.free hp)
        refine ⟨a0, p, b, a, c, vs, ws, rfl, rfl, rfl, upd_same, by rw [upd_ne hpa]; exact hv, by rw [upd_ne hpb]; exact r2.fh' _ _ hb2, hne, h0, hac, by rw [rl.length]; exact hc, by rw [rl.length, rb.length]; exact hz, ?_⟩
        exact hq _ _ _ _ hn (eF.trans e3) (r3.setC hi ha0 ((((rl.take _).append (rb.mono eF)).append (rl.drop _)).mono e3))
      · exact h2.elim
  · exact q.elim
/-! ### x, y = e, f with lists that will be changed among them -/
/-- what an item of the row is: a value, or a new list -/
abbrev LSl := SS → (List Sl → SS → Prop) → XR → Prop
/-- the items lie: values frozen, new lists pending -/
inductive PSl (K : PySem.W.Frag) (F H : Hp) : Gd → List V → List Sl → Gd → Prop
  | nil {g : Gd} : PSl K F H g [] [] g
  | v {g g' : Gd} {v : V} {d : D} {vs : List V} {ss : List Sl} : Rep K F v d → PSl K F H g vs ss g' → PSl K F H g (v :: vs) (.v d :: ss) g'
  | c {g g' : Gd} {p : Addr} {ws : List V} {xs : List D} {vs : List V} {ss : List Sl} : g.G p = none → ¬ g.B p → H p = some (.lst ws) → RepL K F ws xs → PSl K F H (gadd g p (.lst ws)) vs ss g' → PSl K F H g (.ref p :: vs) (.c true (.lst xs) :: ss) g'
theorem PSl.mono {F' H' : Hp} (e : Same F F') : ∀ {g g' : Gd} {vs : List V} {ss : List Sl}, PSl K F H g vs ss g' → (∀ p o, g'.G p = some o → H p = some o → H' p = some o) → PSl K F' H' g vs ss g'
  | _, _, _, _, .nil, _ => .nil
  | _, _, _, _, .v h r, k => .v (h.mono e) (r.mono e k)
  | g, g', _, _, .c (p := p) (ws := ws) h1 h2 h3 h4 r, k => by
    have hG : g'.G p = some (.lst ws) := by
      have keep : ∀ {g1 g2 : Gd} {vs : List V} {ss : List Sl} {o : HO}, PSl K F H g1 vs ss g2 → g1.G p = some o → g2.G p = some o := by
        intro g1 g2 vs ss o q
        induction q with
        | nil => exact id
        | v _ _ ih => exact ih
        | @c g1 g2 p2 _ _ _ _ h1 _ _ _ _ ih =>
          intro z
          refine ih ?_
          show upd g1.G p2 _ p = some o
          rw [upd_ne (ne_of_none z h1)]
          exact z
      exact keep r (show upd g.G p _ p = _ by rw [upd_same])
    exact .c h1 h2 (k p _ hG h3) (h4.mono e) (r.mono e k)
def LfSl (K : PySem.W.Frag) (E : WX) (t : TA) (T : LSl) : Prop :=
  ∀ (g : Gd) (σ : St) (H F : Hp) (S : SS) (Q : List Sl → SS → Prop) (R : XR) (Q' : List V → Hp → Prop), RS K g F H σ S → T S Q R →
    (∀ ss S' vs H' F' g', Q ss S' → CS S S' → Same F F' → RS K g' F' H' σ S' → PSl K F' H' g vs ss g' → Q' vs H') → CX3 K g σ F S R E → t σ H Q'
@[simp] def lSlNil : LSl := fun S Q _ => Q [] S
@[simp] def lSlV (T : LT) (Ts : LSl) : LSl := fun S Q R => T S (fun d S1 => isCel d = false ∧ Ts S1 (fun ss S2 => Q (.v d :: ss) S2) R) R
@[simp] def lSlC (T : LTs) (Ts : LSl) : LSl := fun S Q R => T S (fun ds S1 => frozenD ds = true ∧ ds.length ≤ sizeLine ∧ Ts S1 (fun ss S2 => Q (.c true (.lst ds) :: ss) S2) RF) R
theorem lfsl_nil : LfSl K E tNil lSlNil := fun g σ H F S Q R Q' rs h hq hx => hq [] S [] H F g h (CS.refl S) (Same.refl F) rs .nil
theorem lfsl_v {t : TE} {u : TA} {T : LT} {Ts : LSl} (h : Lf K E t T) (hu : LfSl K E u Ts) : LfSl K E (tCons t u) (lSlV T Ts) := fun g σ H F S Q R Q' rs q hq hx => by
  refine h g σ H F S _ R _ rs q (fun d S1 v H1 F1 h1 c1 e1 r1 w1 => ?_) hx
  refine hu g σ H1 F1 S1 _ R _ r1 h1.2 (fun ss S2 vs H2 F2 g' h2 c2 e2 r2 p => ?_) (hx.step c1 e1)
  exact hq _ S2 _ H2 F2 g' h2 (c1.trans c2) (e1.trans e2) r2 (.v ((w1.rep h1.1).mono e2) p)
theorem PSl.grow {F0 H0 : Hp} : ∀ {g g' : Gd} {vs : List V} {ss : List Sl}, PSl K F0 H0 g vs ss g' → ∀ b o, g.G b = some o → g'.G b = some o
  | _, _, _, _, .nil, b, o, e => e
  | _, _, _, _, .v _ r, b, o, e => r.grow b o e
  | g, _, _, _, .c (p := p) h1 _ _ _ r, b, o, e => r.grow b o (by
    show upd g.G p _ b = some o
    rw [upd_ne (ne_of_none e h1)]
    exact e)
theorem lfsl_c {t u : TA} {T : LTs} {Ts : LSl} (h : LfA K E t T) (hu : LfSl K E u Ts) : LfSl K E (tCons (tLst t) u) (lSlC T Ts) := fun g σ H F S Q R Q' rs q hq hx => by
  refine h g σ H F S _ R _ rs q (fun ds S1 vs H1 F1 h1 c1 e1 r1 w1 => ?_) hx
  obtain ⟨hf, hz, h1⟩ := h1
  have rl := repL_of w1 hf
  refine ⟨by rw [rl.length]; exact hz, fun p hp => ?_⟩
  obtain ⟨rp, hG, hB⟩ := r1.pend (o := .lst vs) hp
  refine hu (gadd g p (.lst vs)) σ _ F1 S1 _ RF _ rp h1 (fun ss S2 ws H2 F2 g' h2 c2 e2 r2 ps => ?_) fun _ _ _ _ _ _ z => z.elim
  refine hq _ S2 _ H2 F2 g' h2 (c1.trans c2) (e1.trans e2) r2 (.c hG hB ?_ (rl.mono e2) ps)
  obtain ⟨fp, r2⟩ := r2
  exact r2.gf p _ (ps.grow p _ (by show upd g.G p _ p = _; rw [upd_same]))
end
end L3
set_option linter.all false
set_option maxRecDepth 100000
set_option maxHeartbeats 4000000
/-! L3, part J: enumerate over a tuple. -/
namespace L3
open PySem PySem.Spec PyProof.Rows L2
set_option maxHeartbeats 8000000 in
theorem meets_enum1 {v : Value} {o : Obj} {B : Heap → Prop} (b : Begins v o B) :
    Meets (Builtin.«enumerate.__new__» ⟨[.type "enumerate", v], []⟩) (fun _ R s => B s.heap ∧
      R (.ok (.ret (.ref (s.heap.push o).objs.size))) { s with heap := (s.heap.push o).push { cls := .type "enumerate", data := .fields #[.none, .bool false, .ref s.heap.objs.size, rawInt 0, .none, .none] } }) :=
  .of_wp fun prog w A R s h => by
    obtain ⟨hp, gn, dr, tk, os⟩ := s
    obtain ⟨hb, h⟩ := h
    have hsub := sub_enumerate
    have it1 : ∀ {A' : Around} {E : Value → Shared → Prop} {Q : Value → Shared → Prop}, Q (.ref hp.objs.size) ⟨hp.push o, gn, dr, tk, os⟩ → wpAny (model prog w) A' (pyIter v) Q E ⟨hp, gn, dr, tk, os⟩ :=
      fun q => b.iter prog w _ _ ⟨hp, gn, dr, tk, os⟩ _ hb q
    wp_walk using it1
    refine wpAny_stack_any fun st => wpAny_pure ?_
    split
    · rename_i c _ _ _ _ _
      cases (c == Value.type "enumerate")
      · wp_walk using it1
        exact ⟨_, rfl, h⟩
      · wp_walk using it1
        exact ⟨_, rfl, h⟩
    · wp_walk using it1
      exact ⟨_, rfl, h⟩
theorem enum1 {prog : Program} {w : World} {A : Around} {E : Value → Shared → Prop} {s : Shared} {v : Value} {o : Obj} {B : Heap → Prop} {Q : Value → Shared → Prop} (b : Begins v o B) (h1 : B s.heap)
    (h : ∀ h', IsEnum h' (s.heap.objs.size + 1) s.heap.objs.size 0 .none → h'.get? s.heap.objs.size = some o → h'.objs.size = s.heap.objs.size + 2 →
      (∀ b o, s.heap.get? b = some o → h'.get? b = some o) → Q (.ref (s.heap.objs.size + 1)) { s with heap := h' }) :
    wpAny (model prog w) A (call (.type "enumerate") [v]) Q E s := by
  have sz : (s.heap.push o).objs.size = s.heap.objs.size + 1 := Heap.size_push ..
  refine callType_new F.called_enumerate (by decide) (F.typeCall_enumerate_1 _) (F.newCall_enumerate_1 _) (fun obj => F.args_object_init_2 obj _) F.entry_enumerate_new (meets_enum1 b) ⟨h1, ?_⟩
  show _ ∧ _
  rw [sz]
  have at1 := Heap.get?_push_size (s.heap.push o) (o := { cls := .type "enumerate", data := .fields #[.none, .bool false, .ref s.heap.objs.size, rawInt 0, .none, .none] }) rfl
  rw [sz] at at1
  exact ⟨⟨_, at1, rfl⟩, h _ at1 (Heap.get?_push_of_some _ (Heap.get?_push_size _ b.free)) (by rw [Heap.size_push, sz]) fun c u x => Heap.get?_push_of_some _ (Heap.get?_push_of_some _ x)⟩
/-- the tuple at a, each item in a new pair with its place -/
def IteT (K : PySem.W.Frag) (a : Addr) : It :=
  ⟨fun i H => ∃ (xs : List V) (x : V), SqT K H a xs ∧ xs[i]? = some x, fun i H v H' => ∃ T x, v = .ref T ∧ H T = none ∧ H' = upd H T (.tup [.int (i : Nat), x]) ∧ ∀ xs, SqT K H a xs → xs[i]? = some x, fun i H => ∃ xs : List V, SqT K H a xs ∧ xs.length ≤ i⟩
theorem turn_enumT {P : Program} {w : World} {K : PySem.W.Frag} {elts : List Expr} {kk : Nat} {tpos : Pos} (a e it : Addr) :
    Turn P w K (.Tuple elts kk tpos) (IteT K a) [e, it] e (fun i h => (∃ old, IsEnum h e it ((i : Nat) : Int) old) ∧ h.IsTupleIter it a i ∧ e ≠ it) where
  mem := by simp
  obj := fun i h st b hb => by
    obtain ⟨⟨old, he⟩, ⟨o, ho, hc, hd⟩, _⟩ := st
    rcases (show b = e ∨ b = it by simpa using hb) with rfl | rfl
    · exact ⟨_, he, fun v q => nomatch q⟩
    · exact ⟨o, ho, fun v q => by rw [hd] at q; cases q⟩
  keep := fun i h h' st k => let ⟨⟨old, he⟩, hi, hne⟩ := st; ⟨⟨old, k e (by simp) _ he⟩, hi.at fun o q => k it (by simp) o q, hne⟩
  item := by
    intro X hP hw hK hc i pins s σ H E J hf st hg
    subst hP hw hK
    obtain ⟨⟨old, he⟩, hit, hne⟩ := st
    obtain ⟨xs, x, hq, hx⟩ := hg
    obtain ⟨its, rv, pt, hz⟩ := J.tuple hq
    obtain ⟨u, hu, ru⟩ := rv.get hx
    have hit2 := hit
    obtain ⟨oi, hoi, hci, hdi⟩ := hit
    have hai : a ≠ it := fun z => by
      obtain ⟨o, ho, hco, _⟩ := pt
      rw [z, hoi] at ho
      cases ho
      rw [hci] at hco
      simp at hco
    have hae : e ≠ a := fun z => by
      obtain ⟨o, ho, hco, _⟩ := pt
      rw [← z] at ho
      have he2 : s.heap.get? e = some _ := he
      rw [he2] at ho
      cases ho
      simp at hco
    have hel : e < s.heap.objs.size := Heap.lt_size he
    have hil : it < s.heap.objs.size := Heap.lt_size hoi
    have lt : i < its.toArray.size := by
      have := (List.getElem?_eq_some_iff.mp hu).1
      simpa using this
    refine wpAny_pyNext_enum_itemC (Draws.tuple (A := X.A.in1) (J.ok.hd hc) it a hai its.toArray) he ⟨hit2, pt⟩ lt hne (by simp [hne, hae]) fun y h' tk hy ho hst hT hsz hk => ?_
    have hy' : y = u := by
      have h2 : its[i]? = some y := by simpa using hy
      rw [hu] at h2
      exact (Option.some.inj h2).symm
    subst hy'
    refine ⟨_, rfl, wpAny_letOwnedTupleGo_enum (s := { s with heap := h', toks := tk + 1 }) ho fun h'' he' sb => ?_⟩
    have hT2 : h''.get? s.heap.objs.size = some { cls := .type "tuple", data := .seq #[.int i tk, y] } := (sb.2 _ (Nat.ne_of_gt hel)).trans hT
    have new : ObjOk X.prog X.w (upd H s.heap.objs.size (.tup [.int (i : Nat), x])) h'' s.heap.objs.size (.tup [.int (i : Nat), x]) :=
      ⟨by show 2 ≤ sizeLine; decide, [.int i tk, y], .cons ⟨_, rfl⟩ (.cons ru .nil), ⟨_, hT2, rfl, _, rfl⟩⟩
    have J1 : Inv X pins σ (upd H s.heap.objs.size (.tup [.int (i : Nat), x])) { s with heap := h'', toks := tk + 1 } :=
      J.turnedNew (ch := [e, it]) (fun b ob hb q => (sb.2 b (fun z => hb (by simp [z]))).trans (hk b ob (fun z => hb (by simp [z])) (fun z => hb (by simp [z])) q)) hf (Nat.le_refl _) new
    refine ⟨.ref s.heap.objs.size, _, J1, rfl, ⟨_, x, rfl, J.hok.fresh (Nat.le_refl _), rfl, fun ys hy => by rw [J.tuple_inj hy hq]; exact hx⟩, ⟨⟨y, ?_⟩, hst.1.at fun o q => (sb.2 it (Ne.symm hne)).trans q, hne⟩, fun b hb => ?_⟩
    · rw [show ((i + 1 : Nat) : Int) = (i : Int) + 1 by omega]; exact he'
    · have hb' : b < s.heap.objs.size := by
        rcases (show b = e ∨ b = it by simpa using hb) with rfl | rfl
        · exact hel
        · exact hil
      rw [upd_ne (Nat.ne_of_lt hb')]
      exact (hf b hb).1
  done := by
    intro X hP hw hK hc i pins s σ H E J hf st hg
    subst hP hw hK
    obtain ⟨⟨old, he⟩, hit, hne⟩ := st
    obtain ⟨xs, hq, hx⟩ := hg
    obtain ⟨its, rv, pt, hz⟩ := J.tuple hq
    have hit2 := hit
    obtain ⟨oi, hoi, hci, hdi⟩ := hit
    have hai : a ≠ it := fun z => by
      obtain ⟨o, ho, hco, _⟩ := pt
      rw [z, hoi] at ho
      cases ho
      rw [hci] at hco
      simp at hco
    obtain ⟨f0, f1, f2, f3, f4, f5⟩ := hf it (by simp)
    have hl := rv.length
    have hhd := J.ok.hd hc
    have hx2 : its.toArray[i]? = none := by simp; omega
    have hT : s.TypeIs (.ref e) "enumerate" := ⟨_, he, rfl⟩
    unfold pyNext
    refine wpAny_bind (wpAny_attempt (wpAny_callSpecial?_slot (name := Str.ofString "__next__") hT F.slot_enumerate_next
      (wpAny_call_entry F.slot_enumerate_next hT F.entry_enumerate_next ?_ (F.args_enumerate_next_1 _))))
    show wpAny _ _ (field (.ref e) 2 >>= _) _ _ _
    refine wpAny_bind (wpAny_field he rfl (x := .ref it) rfl ?_)
    refine wpAny_bind (wpAny_nextOf_tuple_end hhd hit2 pt hx2 fun h' x eb hx' => ?_)
    obtain ⟨o, ho, hc'⟩ := hx'
    refine wpAny_bind (wpAny_isInstance (T := "StopIteration") (b := true) ⟨o, ho, hc'⟩ isSubtype_stop ?_)
    exact wpAny_pure ⟨rfl, J.turned (t' := s.toks) (fun b o hb q => eb b o hb q) f0 f1 f3 f4 f5⟩
  self := fun A i s Q E st h => let ⟨⟨_, he⟩, _⟩ := st; wpAny_pyIter_enum he h
def iEnumU (K : PySem.W.Frag) (ta : TA) : TI := fun σ H R => ta σ H fun vs H1 => ∃ a, vs = [.ref a] ∧ ((∃ xs, SqL K H1 a xs ∧ R (Ite K a) H1) ∨ ∃ xs, SqT K H1 a xs ∧ R (IteT K a) H1)
theorem pi_enumU {X : Cx} {e : Expr} {ta : TA} {p pos tpos : Pos} {elts : List Expr} {kk : Nat} (hg : Gl X "enumerate") (hm : X.mg "enumerate" = none) (ha : PA X [e] ta) (hs : starEach [e] X.env = [(false, eval e X.env)] := by rfl) :
    PI X (.Tuple elts kk tpos) (.Call (.Name "enumerate" p) [e] [] pos) (iEnumU X.K ta) := by
  refine ⟨fun pins s σ H R I h => ?_⟩
  refine Call_ (ld_blt I hg hm boot_enumerate (PyProof.Rows.callWith_type1 (thn (ha.run pos pins s σ H _ I h) fun us s1 ⟨vs, H1, I1, r1, q1⟩ => ?_) hs rfl))
  obtain ⟨a, ex, q1⟩ := q1
  subst ex
  cases r1 with
  | cons r rr =>
    cases rr
    cases r
    rcases q1 with ⟨xs, hq, q⟩ | ⟨xs, hq, q⟩
    · obtain ⟨its, rv, p', hz⟩ := I1.list hq
      refine call_enumerate_list p'.isList fun h' he hit hsz hk => wpAny_pyIter_enum he ?_
      have I2 : Inv X pins σ H1 { s1 with heap := h' } := I1.kept (t' := s1.toks) hk
      refine ⟨s1.heap.objs.size + 1, [s1.heap.objs.size + 1, s1.heap.objs.size], _, _, H1, rfl, I2, turn_enum a (s1.heap.objs.size + 1) s1.heap.objs.size, ⟨⟨.none, he⟩, hit, Nat.succ_ne_self _⟩, fun b hb => ?_, q⟩
      have e' : b = s1.heap.objs.size + 1 ∨ b = s1.heap.objs.size := by simpa using hb
      have hle : s1.heap.objs.size ≤ b := by
        rcases e' with z | z
        · rw [z]; exact Nat.le_add_right _ _
        · rw [z]; exact Nat.le_refl _
      exact I1.fpOk hle (I1.hok.fresh hle)
    · obtain ⟨its, rv, p', hz⟩ := I1.tuple hq
      refine enum1 (begins_tuple a its.toArray) p' fun h' he hit hsz hk => wpAny_pyIter_enum he ?_
      have I2 : Inv X pins σ H1 { s1 with heap := h' } := I1.kept (t' := s1.toks) hk
      refine ⟨s1.heap.objs.size + 1, [s1.heap.objs.size + 1, s1.heap.objs.size], _, _, H1, rfl, I2, turn_enumT a (s1.heap.objs.size + 1) s1.heap.objs.size, ⟨⟨.none, he⟩, ⟨_, hit, rfl, rfl⟩, Nat.succ_ne_self _⟩, fun b hb => ?_, q⟩
      have e' : b = s1.heap.objs.size + 1 ∨ b = s1.heap.objs.size := by simpa using hb
      have hle : s1.heap.objs.size ≤ b := by
        rcases e' with z | z
        · rw [z]; exact Nat.le_add_right _ _
        · rw [z]; exact Nat.le_refl _
      exact I1.fpOk hle (I1.hok.fresh hle)
variable {K : PySem.W.Frag} {E : WX} {F : Hp}
theorem iteT_D {a : Addr} {vs : List V} {ds : List D} (h : SqT K F a vs) (r : RepL K F vs ds) : ItD K F (IteT K a) (enumFrom 0 ds) := fun g F2 H2 σ S e rs => by
  have hl := r.length
  have hH : SqT K H2 a vs := sameT (e.trans rs.fh') h
  rw [enum_len]
  refine ⟨⟨vs, hH, by omega⟩, fun i hi => ?_, fun i d x H' hd hy => ?_⟩
  · have hi' : i < vs.length := by omega
    exact ⟨vs, vs[i], hH, by simp [hi']⟩
  · obtain ⟨T, y, rfl, hT, rfl, hy⟩ := hy
    obtain ⟨d', hd', rfl⟩ := enum_get _ _ _ _ hd
    obtain ⟨v, hv, rep⟩ := (r.mono e).get hd'
    have := hy vs hH
    rw [hv] at this
    cases this
    refine ⟨_, sameNew (rs.free hT), rs.new hT, .tup (SqT.of upd_same) ?_⟩
    refine .cons ?_ (.cons (rep.mono (sameNew (rs.free hT))) .nil)
    rw [Nat.zero_add]
    exact .int _
theorem itef_D {a : Addr} {vs : List V} {ds : List D} (h : SqL K F a vs) (r : RepL K F vs ds) : ItD K F (Ite K a) (enumFrom 0 ds) := fun g F2 H2 σ S e rs => by
  have hl := r.length
  have hH : SqL K H2 a vs := Same.seq (e.trans rs.fh') h
  rw [enum_len]
  refine ⟨⟨vs, hH, by omega⟩, fun i hi => ?_, fun i d x H' hd hy => ?_⟩
  · have hi' : i < vs.length := by omega
    exact ⟨vs, vs[i], hH, by simp [hi']⟩
  · obtain ⟨T, y, rfl, hT, rfl, hy⟩ := hy
    obtain ⟨d', hd', rfl⟩ := enum_get _ _ _ _ hd
    obtain ⟨v, hv, rep⟩ := (r.mono e).get hd'
    have := hy vs hH
    rw [hv] at this
    cases this
    refine ⟨_, sameNew (rs.free hT), rs.new hT, .tup (SqT.of upd_same) ?_⟩
    refine .cons ?_ (.cons (rep.mono (sameNew (rs.free hT))) .nil)
    rw [Nat.zero_add]
    exact .int _
/-- what stands behind one another in a value -/
@[simp] def itemsD : D → Option (List D)
  | .lst xs => some xs
  | .lsf xs => some xs
  | .tup xs => some xs
  | .str x => some (x.cps.toList.map fun c => .str ⟨#[c]⟩)
  | _ => none
@[simp] def lEnumU (Ts : LTs) : LTI := fun S Q R => Ts S (fun ds S1 => match ds with
  | [.lst xs] => Q (enumFrom 0 xs) S1
  | [.lsf xs] => Q (enumFrom 0 xs) S1
  | [.tup xs] => Q (enumFrom 0 xs) S1
  | _ => False) R
theorem lfi_enumU {t : TA} {T : LTs} (h : LfA K E t T) : LfI K E (iEnumU K t) (lEnumU T) := fun g σ H F S Q R Q' rs q hq hx => by
  refine h g σ H F S _ R _ rs q (fun ds S1 vs H1 F1 h1 c1 e1 r1 w1 => ?_) hx
  split at h1
  · rename_i xs
    cases w1 with
    | cons w wt =>
      cases wt
      cases w.rep rfl with
      | @lst a vs _ hF rl => exact ⟨a, rfl, .inl ⟨vs, SqL.of (r1.fh' _ _ hF), hq _ S1 _ H1 F1 h1 c1 e1 r1 (ite_D hF rl)⟩⟩
  · rename_i xs
    cases w1 with
    | cons w wt =>
      cases wt
      cases w.rep rfl with
      | @lsf a vs _ hF rl => exact ⟨a, rfl, .inl ⟨vs, Same.seq r1.fh' hF, hq _ S1 _ H1 F1 h1 c1 e1 r1 (itef_D hF rl)⟩⟩
  · rename_i xs
    cases w1 with
    | cons w wt =>
      cases wt
      cases w.rep rfl with
      | @tup a vs _ hF rl => exact ⟨a, rfl, .inr ⟨vs, sameT r1.fh' hF, hq _ S1 _ H1 F1 h1 c1 e1 r1 (iteT_D hF rl)⟩⟩
  · exact h1.elim
/-- a list, a tuple, a text walked -/
def iSeqU (K : PySem.W.Frag) (tl : TE) : TI := fun σ H R => tl σ H fun x H1 => (∃ a xs, x = .ref a ∧ SqL K H1 a xs ∧ R (Itl K a) H1) ∨ (∃ a xs, x = .ref a ∧ SqT K H1 a xs ∧ R (Itt K a) H1) ∨ ∃ y, x = .str y ∧ R (Its y) H1
theorem pi_seqU {X : Cx} {tg l : Expr} {tl : TE} (hl : PE X l tl) : PI X tg l (iSeqU X.K tl) := by
  refine ⟨fun pins s σ H R I h => ?_⟩
  refine thn (hl.run pins s σ H _ I h) fun v s1 ⟨x, H1, I1, r1, q1⟩ => ?_
  rcases q1 with ⟨a, xs, ex, hq, q⟩ | ⟨a, xs, ex, hq, q⟩ | ⟨y, ex, q⟩
  · subst ex
    cases r1
    obtain ⟨its, rv, p, hz⟩ := I1.list hq
    refine wpAny_pyIter_list p.isList ?_
    exact pi_one (tk := s1.toks) I1 _ (turn_list a _) ⟨_, Heap.get?_push_size _ rfl, rfl, rfl⟩ q
  · subst ex
    cases r1
    obtain ⟨its, rv, p, hz⟩ := I1.tuple hq
    refine wpAny_pyIter_tuple (show s1.heap.IsTuple a its.toArray from p) ?_
    exact pi_one (tk := s1.toks) I1 _ (turn_tuple a _) ⟨_, Heap.get?_push_size _ rfl, rfl, rfl⟩ q
  · subst ex
    obtain ⟨t, rfl⟩ := r1
    cases ha : y.cps.all (· < 128)
    · exact wpAny_pyIter_wide ha (pi_one (tk := s1.toks) I1 _ (turn_str _ y t "str_iterator" (.inr rfl)) ⟨_, Heap.get?_push_size _ rfl, rfl, rfl⟩ q)
    · exact wpAny_pyIter_ascii ha (pi_one (tk := s1.toks) I1 _ (turn_str _ y t "str_ascii_iterator" (.inl rfl)) ⟨_, Heap.get?_push_size _ rfl, rfl, rfl⟩ q)
theorem its_D {y : Str} : ItD K F (Its y) (y.cps.toList.map fun c => D.str ⟨#[c]⟩) := fun g F2 H2 σ S e rs => by
  refine ⟨?_, fun i hi => ?_, fun i d x H' hd hy => ?_⟩
  · show y.cps.size ≤ _
    simp
  · show i < y.cps.size
    simpa using hi
  · obtain ⟨rfl, c, hc, rfl⟩ := hy
    have hd' : d = D.str ⟨#[c]⟩ := by
      rw [List.getElem?_map] at hd
      have h2 : y.cps.toList[i]? = some c := by simpa using hc
      rw [h2] at hd
      simpa using hd.symm
    subst hd'
    exact ⟨F2, Same.refl F2, rs, .str _⟩
@[simp] def lItU (T : LT) : LTI := fun S Q R => T S (fun d S1 => match itemsD d with
  | some xs => Q xs S1
  | none => False) R
theorem lfi_seqU {t : TE} {T : LT} (h : Lf K E t T) : LfI K E (iSeqU K t) (lItU T) := fun g σ H F S Q R Q' rs q hq hx => by
  refine h g σ H F S _ R _ rs q (fun d S1 v1 H1 F1 h1 c1 e1 r1 w1 => ?_) hx
  cases d with
  | lst xs =>
    have rep := w1.rep rfl
    cases rep with
    | @lst a vs _ hF rl => exact .inl ⟨a, vs, rfl, SqL.of (r1.fh' _ _ hF), hq xs S1 _ H1 F1 h1 c1 e1 r1 (itl_D hF rl)⟩
  | lsf xs =>
    have rep := w1.rep rfl
    cases rep with
    | @lsf a vs _ hF rl => exact .inl ⟨a, vs, rfl, Same.seq r1.fh' hF, hq xs S1 _ H1 F1 h1 c1 e1 r1 (itlf_D hF rl)⟩
  | tup xs =>
    have rep := w1.rep rfl
    cases rep with
    | @tup a vs _ hF rl => exact .inr (.inl ⟨a, vs, rfl, sameT r1.fh' hF, hq xs S1 _ H1 F1 h1 c1 e1 r1 (itt_D hF rl)⟩)
  | str x =>
    have rep := w1.rep rfl
    cases rep
    exact .inr (.inr ⟨x, rfl, hq _ S1 _ H1 F1 h1 c1 e1 r1 its_D⟩)
  | _ => exact h1.elim
end L3
set_option linter.all false
set_option maxRecDepth 100000
set_option maxHeartbeats 4000000
/-! L3, part K: repr, isinstance, divmod, in, index. -/
namespace L3
open PySem PySem.Spec PyProof.Rows L2
section
variable {X : Cx}
/-! ### repr -/
def rReprD (K : PySem.W.Frag) : List V → Hp → VK → Prop := fun xs H Q => ∃ x d, xs = [x] ∧ Dp K H x d ∧ SeqAt.shaped d = true ∧ d.showable = true ∧ d.shown.length ≤ sizeLine ∧ Q (.str d.shown) H
theorem call_reprD (hg : X.A.guards = some []) (hu : X.A.units + 66 < cLine) : CallR X (.builtin "repr") (rReprD X.K) := by
  intro pins s σ H xs us Q I r h
  obtain ⟨x, d, rfl, hd, hl, hs, hn, q⟩ := h
  have hz := SeqAt.depth_of_shaped hl
  cases r with
  | cons r rt =>
    cases rt
    obtain ⟨as, rd⟩ := Dp.reads I d x _ hd r
    cases hd with
    | non =>
      cases r
      simp only [PyData.shown] at q
      exact PySem.P.repr_of_none ⟨.str _, H, I.tok _, ⟨_, rfl⟩, q⟩
    | bl b =>
      cases r
      simp only [PyData.shown] at q
      exact PySem.P.repr_of_bool ⟨.str _, H, I.tok _, ⟨_, rfl⟩, q⟩
    | int i =>
      obtain ⟨t, rfl⟩ := r
      simp only [PyData.shown] at q
      exact PySem.P.repr_of_int (by simpa [PyData.showable] using hs) ⟨.str _, H, I.tok _, ⟨_, rfl⟩, q⟩
    | str z =>
      obtain ⟨t, rfl⟩ := r
      simp only [PyData.shown] at q hn
      exact PySem.P.repr_of_str ⟨.str _, H, I.tok _, ⟨_, rfl⟩, q⟩ hn
    | lst h1 h2 =>
      cases r
      exact PySem.repr_of_reads' rd hs (PyData.noDict_hsm (PyData.hasDict_of_canLay _ (SeqAt.canLay_of_shaped hl))) hg (by omega) (fun _ _ e => e) (fun h' u tk hk => ⟨.str _, H, I.kept hk, ⟨u, rfl⟩, q⟩) hn
    | tup h1 h2 =>
      cases r
      exact PySem.repr_of_reads' rd hs (PyData.noDict_hsm (PyData.hasDict_of_canLay _ (SeqAt.canLay_of_shaped hl))) hg (by omega) (fun _ _ e => e) (fun h' u tk hk => ⟨.str _, H, I.kept hk, ⟨u, rfl⟩, q⟩) hn
end
variable {K : PySem.W.Frag} {g : Gd} {E : WX} {F H : Hp} {σ : L2.St} {S : SS}
def shownD (d : D) : Str := (pyd d).shown
def showsD (d : D) : Prop := okD 60 d = true ∧ (pyd d).showable = true ∧ (pyd d).shown.length ≤ sizeLine
def reprD : D1 := fun x P => showsD x ∧ P (.str (shownD x))
theorem cl_repr : CallL K (rReprD K) (on1 reprD) := call1 fun g F H σ S v d P Q' r h f q => by
  obtain ⟨⟨h1, h2, h3⟩, p⟩ := f
  exact ⟨v, pyd d, rfl, dpR r.fh' h h1, shaped_of h1, h2, h3, q.val r p (.str _)⟩

/-! ### isinstance -/
/-- what isinstance asks of an own class -/
structure InsTy (K : PySem.W.Frag) (C : Addr) : Prop where
  cl : Cls K C
  ha : PySem.W.findIn K (.ref C) "__class__" = some (some (.builtin "object.__class__"))
  hn : PySem.W.specialIn K (.builtin "object.__class__") "__get__" = some (some (.builtin "getset_descriptor.__get__"))
  htk : PySem.W.takesIn K (.builtin "object.__class__") = some true
  hm : PySem.W.mroIn K C (.type "object") = some true
inductive TyD (K : PySem.W.Frag) : D → Value → Prop where
  | non : TyD K .non (.type "NoneType")
  | bl (b : Bool) : TyD K (.bl b) (.type "bool")
  | int (i : Int) : TyD K (.int i) (.type "int")
  | str (x : Str) : TyD K (.str x) (.type "str")
  | tup (xs : List D) : TyD K (.tup xs) (.type "tuple")
  | lst (xs : List D) : TyD K (.lst xs) (.type "list")
  | lsf (xs : List D) : TyD K (.lsf xs) (.type "list")
  | edc : TyD K .edc (.type "dict")
  | ins (C : Addr) (ns : List Str) (fs : List D) (h : InsTy K C) : TyD K (.ins C ns fs) (.ref C)
inductive ClsD : D → Value → Prop where
  | ty (n : String) : ClsD (.ty n) (.type n)
  | own (C : Addr) : ClsD (.fn C) (.ref C)
theorem tyx_of {v : V} {d : D} {t : Value} (e : Same F H) (h : RepR K F H v d) (w : TyD K d t) : TyX K H v t := by
  cases w with
  | non => cases h with | fz h => cases h; exact .base .non
  | bl b => cases h with | fz h => cases h; exact .base (.bl b)
  | int i => cases h with | fz h => cases h; exact .base (.int i)
  | str x => cases h with | fz h => cases h; exact .base (.str x)
  | tup xs =>
    obtain ⟨a, vs, rfl, ha, _⟩ := h.tupI e
    rcases ha with ha | ⟨o, its, n, hk, hc, hs, hz, r⟩
    · rcases ha with ha | ⟨o, ha⟩
      · exact .base (.tup ha)
      · exact .fTuple ha
    · exact .kTuple hk hc
  | lst xs =>
    obtain ⟨a, vs, rfl, ha, _⟩ := h.lstI e
    exact .base (.lst ha)
  | lsf xs =>
    obtain ⟨a, vs, rfl, ha, _⟩ := h.lsfI e
    rcases ha with ha | ⟨o, its, n, hk, hc, hs, hz, r⟩
    · rcases ha with ha | ⟨o, ha⟩
      · exact .base (.lst ha)
      · exact .base (.frz ha)
    · exact .kList hk hc
  | edc =>
    cases h with
    | fz h => cases h with | edc ha => exact .base (.dK (e _ _ ha))
  | ins C ns fs w =>
    cases h with
    | fz h => cases h with | ins ha hl hr => exact .base (.ins (e _ _ ha) w.cl w.ha w.hn w.htk w.hm)
    | ci ha => exact .base (.ins ha w.cl w.ha w.hn w.htk w.hm)
def isiD (K : PySem.W.Frag) : D2 := fun x c P => ∃ t u b, TyD K x t ∧ ClsD c u ∧ PySem.W.kitOne K t u = some b ∧ P (.bl b)
theorem cl_isi : CallL K (rIsi K) (on2 (isiD K)) := call2 fun g F H σ S v w d e P Q' r h1 h2 f q => by
  obtain ⟨t, u, b, ht, hu, hk, p⟩ := f
  have hc : ClsV w u := by
    cases hu with
    | ty n => cases h2 with | fz h => cases h; exact .ty n
    | own C => cases h2 with | fz h => cases h; exact .own C
  exact ⟨v, w, t, u, b, rfl, hc, tyx_of r.fh' h1 ht, hk, q.val r p (.bl _)⟩
theorem isi_of {x c : D} {t u : Value} {b : Bool} {P : D → Prop} (ht : TyD K x t) (hu : ClsD c u) (hk : PySem.W.kitOne K t u = some b) : isiD K x c P = P (.bl b) := by
  apply propext
  constructor
  · rintro ⟨t', u', b', ht', hu', hk', p⟩
    have e1 : t' = t := by cases ht <;> cases ht' <;> rfl
    have e2 : u' = u := by cases hu <;> cases hu' <;> rfl
    rw [e1, e2, hk] at hk'
    cases hk'
    exact p
  · exact fun p => ⟨t, u, b, ht, hu, hk, p⟩

/-! ### divmod -/
@[simp] def divmodD : D2 := fun x y P => lookI x y fun i j => CDivP i j ∧ P (.tup [.int (i / j), .int (i % j)])
theorem cl_divmod : CallL K (fun xs H Q => ∃ i j, xs = [.int i, .int j] ∧ CDivP i j ∧ ∀ p, H p = none → Q (.ref p) (upd H p (.tup [.int (i / j), .int (i % j)]))) (on2 divmodD) := call2 fun g F H σ S v w d e P Q' r h1 h2 f q => by
  obtain ⟨i, j, _, _, rfl, rfl, hc, p⟩ := lookI_of h1 h2 f
  exact ⟨i, j, rfl, hc, q.tup r p (.cons (.int _) (.cons (.int _) .nil))⟩

/-! ### in -/
def rInA (K : PySem.W.Frag) : R2 := fun x y H Q => (∃ d ds, Dp K H x d ∧ (Dp K H y (.list ds) ∨ Dp K H y (.tuple ds)) ∧ SeqAt.shaped d = true ∧ SeqAt.shaped (.list ds) = true ∧ Q (.bl (ds.any fun z => PyData.eqv z d)) H) ∨
  (∃ i j, x = .str i ∧ y = .str j ∧ Q (.bl (!(Builtin.Str.occurrences j i 0 j.length 1).isEmpty)) H)
def rNotInA (K : PySem.W.Frag) : R2 := fun x y H Q => ∃ d ds, Dp K H x d ∧ (Dp K H y (.list ds) ∨ Dp K H y (.tuple ds)) ∧ SeqAt.shaped d = true ∧ SeqAt.shaped (.list ds) = true ∧ Q (.bl (!ds.any fun z => PyData.eqv z d)) H
theorem op_inA {X : Cx} (hu : X.A.units + 65 < cLine) : OpR X (compareOp .In) (rInA X.K) := by
  refine OpR.or ?_ op_in_str
  intro pins s σ H x y v u Q I rx ry h
  obtain ⟨d, ds, hd, he, sd, se, q⟩ := h
  obtain ⟨as, r1⟩ := Dp.reads I d x v hd rx
  rcases he with he | he
  · obtain ⟨bs, r2⟩ := Dp.reads I (.list ds) y u he ry
    exact SeqAt.in_list_reads r2 r1 (SeqAt.canLay_of_shaped se) (SeqAt.canLay_of_shaped sd) (room_in_shaped sd hu) ⟨.bl _, H, I, rfl, q⟩
  · obtain ⟨bs, r2⟩ := Dp.reads I (.tuple ds) y u he ry
    exact SeqAt.in_tuple_reads r2 r1 (SeqAt.canLay_of_shaped se) (SeqAt.canLay_of_shaped sd) (room_in_shaped sd hu) ⟨.bl _, H, I, rfl, q⟩
theorem op_notInA {X : Cx} (hu : X.A.units + 65 < cLine) : OpR X (compareOp .NotIn) (rNotInA X.K) := by
  intro pins s σ H x y v u Q I rx ry h
  obtain ⟨d, ds, hd, he, sd, se, q⟩ := h
  obtain ⟨as, r1⟩ := Dp.reads I d x v hd rx
  rcases he with he | he
  · obtain ⟨bs, r2⟩ := Dp.reads I (.list ds) y u he ry
    exact SeqAt.notIn_list_reads r2 r1 (SeqAt.canLay_of_shaped se) (SeqAt.canLay_of_shaped sd) (room_in_shaped sd hu) ⟨.bl _, H, I, rfl, q⟩
  · obtain ⟨bs, r2⟩ := Dp.reads I (.tuple ds) y u he ry
    exact SeqAt.notIn_tuple_reads r2 r1 (SeqAt.canLay_of_shaped se) (SeqAt.canLay_of_shaped sd) (room_in_shaped sd hu) ⟨.bl _, H, I, rfl, q⟩
def inB (x : D) (ds : List D) : Bool := ds.any fun z => eqd z x
def inD : D2 := fun x y P => match y with
  | .lst ds => okD 60 x = true ∧ okD 60 (.lst ds) = true ∧ P (.bl (inB x ds))
  | .tup ds => okD 60 x = true ∧ okD 60 (.tup ds) = true ∧ P (.bl (inB x ds))
  | .str z => (match x with
    | .str i => P (.bl (!(Builtin.Str.occurrences z i 0 z.length 1).isEmpty))
    | _ => False)
  | _ => False
def notInD : D2 := fun x y P => match y with
  | .lst ds => okD 60 x = true ∧ okD 60 (.lst ds) = true ∧ P (.bl (!inB x ds))
  | .tup ds => okD 60 x = true ∧ okD 60 (.tup ds) = true ∧ P (.bl (!inB x ds))
  | _ => False
theorem any_pyds (x : D) : ∀ ds : List D, ((pyds ds).any fun z => PyData.eqv z (pyd x)) = inB x ds
  | [] => by rw [pyds]; rfl
  | d :: ds => by rw [pyds]; show (PyData.eqv (pyd d) (pyd x) || _) = (eqd d x || inB x ds); rw [any_pyds x ds]; rfl
theorem okD_lst {n : Nat} {ds : List D} : okD (n + 1) (.lst ds) = okDs n ds := by rw [okD]
theorem okD_tup {n : Nat} {ds : List D} : okD (n + 1) (.tup ds) = okDs n ds := by rw [okD]
theorem shaped_lst {ds : List D} (h : okD 60 (.tup ds) = true) : SeqAt.shaped (.list (pyds ds)) = true := by
  have h' : okD 60 (.lst ds) = true := by rw [okD_lst, ← okD_tup]; exact h
  have := shaped_of h'
  rw [pyd] at this
  exact this
theorem opl_in : OpL K (rInA K) inD := by
  intro g F H σ S v1 v2 d1 d2 P Q' r h1 h2 f q
  unfold inD at f
  split at f
  · rename_i ds
    have h3 := dpR r.fh' h2 f.2.1
    rw [pyd] at h3
    have h4 := shaped_of f.2.1
    rw [pyd] at h4
    exact .inl ⟨_, _, dpR r.fh' h1 f.1, .inl h3, shaped_of f.1, h4, by rw [any_pyds]; exact q.val r f.2.2 (.bl _)⟩
  · rename_i ds
    have h3 := dpR r.fh' h2 f.2.1
    rw [pyd] at h3
    exact .inl ⟨_, _, dpR r.fh' h1 f.1, .inr h3, shaped_of f.1, shaped_lst f.2.1, by rw [any_pyds]; exact q.val r f.2.2 (.bl _)⟩
  · rename_i z
    split at f
    · exact .inr ⟨_, _, h1.strI, h2.strI, q.val r f (.bl _)⟩
    · exact f.elim
  · exact f.elim
theorem opl_notIn : OpL K (rNotInA K) notInD := by
  intro g F H σ S v1 v2 d1 d2 P Q' r h1 h2 f q
  unfold notInD at f
  split at f
  · rename_i ds
    have h3 := dpR r.fh' h2 f.2.1
    rw [pyd] at h3
    have h4 := shaped_of f.2.1
    rw [pyd] at h4
    exact ⟨_, _, dpR r.fh' h1 f.1, .inl h3, shaped_of f.1, h4, by rw [any_pyds]; exact q.val r f.2.2 (.bl _)⟩
  · rename_i ds
    have h3 := dpR r.fh' h2 f.2.1
    rw [pyd] at h3
    exact ⟨_, _, dpR r.fh' h1 f.1, .inr h3, shaped_of f.1, shaped_lst f.2.1, by rw [any_pyds]; exact q.val r f.2.2 (.bl _)⟩
  · exact f.elim

/-! ### l.index(x) -/
def idxD (x : D) : List D → Option Nat
  | [] => none
  | d :: ds => if eqd d x = true then some 0 else (idxD x ds).map (· + 1)
theorem idx_spec (x : D) : ∀ (ds : List D) (j : Nat), idxD x ds = some j → ∃ z, (pyds ds)[j]? = some z ∧ PyData.eqv z (pyd x) = true ∧ ∀ (m : Nat) (z' : PyData), m < j → (pyds ds)[m]? = some z' → PyData.eqv z' (pyd x) = false
  | [], j, h => by cases h
  | d :: ds, j, h => by
    unfold idxD at h
    split at h
    · rename_i e
      cases h
      exact ⟨pyd d, by rw [pyds]; rfl, e, fun m z' hm => absurd hm (Nat.not_lt_zero _)⟩
    · rename_i e
      cases hi : idxD x ds with
      | none => rw [hi] at h; cases h
      | some i =>
        rw [hi] at h
        cases h
        obtain ⟨z, h1, h2, h3⟩ := idx_spec x ds i hi
        refine ⟨z, by rw [pyds]; exact h1, h2, fun m z' hm hz => ?_⟩
        cases m with
        | zero =>
          rw [pyds] at hz
          cases hz
          exact Bool.eq_false_iff.mpr e
        | succ m =>
          rw [pyds] at hz
          exact h3 m z' (Nat.lt_of_succ_lt_succ hm) hz
def lIndex (To : LT) (Ta : LT) : LT := fun S Q R => To S (fun l S1 => (match look S1 l with
  | .lst _ => True
  | _ => False) ∧ Ta S1 (fun x S2 => match look S2 l with
  | .lst ds => okD 60 (.lst ds) = true ∧ okD 60 (look S2 x) = true ∧ ∃ j, idxD (look S2 x) ds = some j ∧ Q (.int (j : Nat)) S2
  | _ => False) R) R
theorem lf_index {to ta : TE} {To Ta : LT} (ho : Lf K E to To) (ha : Lf K E ta Ta) : Lf K E (tBM K "list" (rIndexD K) to (tCons ta tNil)) (lIndex To Ta) := by
  intro g σ H F S Q R Q' rs h hq hx
  refine ho g σ H F S _ R _ rs h (fun l S1 v1 H1 F1 h1 c1 e1 r1 w1 => ?_) hx
  obtain ⟨hl, h1⟩ := h1
  have wl := w1.look r1
  split at hl
  · rename_i ds0 e0
    rw [e0] at wl
    obtain ⟨a, vs0, rfl, hv0, _⟩ := wl.lstI r1.fh'
    refine ⟨.inl ⟨rfl, vs0, SqL.of hv0⟩, ?_⟩
    refine ha g σ H1 F1 S1 _ R _ r1 h1 (fun x S2 v2 H2 F2 h2 c2 e2 r2 w2 => ?_) (hx.step c1 e1)
    have wl2 := (w1.step c2 e2).look r2
    have wx := w2.look r2
    split at h2
    · rename_i ds e3
      rw [e3] at wl2
      obtain ⟨ho1, ho2, j, hj, p⟩ := h2
      have hD := dpR r2.fh' wl2 ho1
      rw [pyd] at hD
      have hS := shaped_of ho1
      rw [pyd] at hS
      obtain ⟨z, z1, z2, z3⟩ := idx_spec _ _ _ hj
      refine ⟨a, v2, _, _, j, z, rfl, rfl, hD, dpR r2.fh' wx ho2, hS, shaped_of ho2, z1, z2, z3, ?_⟩
      exact hq _ S2 _ H2 F2 p (c1.trans c2) (e1.trans e2) r2 (.inl (.int _))
    · exact h2.elim
  · exact hl.elim
end L3
set_option linter.all false
set_option maxRecDepth 100000
set_option maxHeartbeats 4000000
/-! L3, part L: objects: made, their fields, properties, methods; lists repeated. -/
namespace L3
open PySem PySem.Spec PyProof.Rows L2
/-! ### the calls, for defs that may show data -/
def tMakeS (C : Addr) (sp : Sp) (dvs : List V) (E : L2.St → XK) (t : TA) : TE := fun σ H Q => t σ H fun vs H1 => ∀ x dx, H1 x = none → H1 dx = none → dx ≠ x →
  sp (.ref x :: (vs ++ dvs)) (upd (upd H1 dx (.own x)) x (.ins C dx [])) (fun v H2 => v = .non ∧ Q (.ref x) H2) (E σ)
def tMethS (C : Addr) (m : Str) (sp : Sp) (dvs : List V) (E : L2.St → XK) (ta : TE) (t : TA) : TE := fun σ H Q => ta σ H fun x H1 => ∃ a dx fs, x = .ref a ∧ H1 a = some (.ins C dx fs) ∧ fs.lookup m = none ∧
  t σ H1 fun vs H2 => sp (x :: (vs ++ dvs)) H2 Q (E σ)
section
variable {X : Cx} {CX : CXT} {k : Nat} {f C : Addr} {fd : FuncData} {ps : List Str} {sp : Sp} {dvs : List V} {ds : List Value} {E : L2.St → XK} {E0 : XK} {x m : Str} {p pos apos : Pos} {e o : Expr} {es : List Expr} {ta : TE} {t : TA}
theorem run_makeG {pins : List (Addr × Obj)} {σ : L2.St} {H : Hp} {s : Shared} {Q : VK} {us : List Value} {vs : List V} (M : Mk X.K C f) (F : FnG X.prog X.w X.K X.mg X.base CX k f fd ps sp) (hg : X.A.guards = some []) (hr : Room (k + 1) X.A) (hb : Binds X.K fd ps ds) (hd : Vals dvs ds)
    (hx : PassesAt CX X σ (E σ)) (I : Inv X pins σ H s) (r : Vals vs us)
    (h : ∀ x dx, H x = none → H dx = none → dx ≠ x → sp (.ref x :: (vs ++ dvs)) (upd (upd H dx (.own x)) x (.ins C dx [])) (fun v H2 => v = .non ∧ Q (.ref x) H2) (E σ)) :
    wpAny (model X.prog X.w) X.A (call (.ref C) us) (EP X pins σ Q) X.xe s := by
  have hq := h (s.heap.objs.size + 1) s.heap.objs.size (I.hok.fresh (Nat.le_succ _)) (I.hok.fresh (Nat.le_refl _)) (Nat.ne_of_lt (Nat.lt_succ_self _))
  have I2 := Inv.made (C := C) I
  have r2 : Vals (V.ref (s.heap.objs.size + 1) :: (vs ++ dvs)) (Value.ref (s.heap.objs.size + 1) :: (us ++ ds)) := .cons rfl (r.append hd)
  have hl : (Value.ref (s.heap.objs.size + 1) :: us ++ ds).length = ps.length := by
    have e := r2.length
    rw [F.len _ _ _ _ hq] at e
    exact e.symm
  refine wpAny_call (make_map (f := f) I.kIn M.makes M.init (beq_iff_eq.mp M.fn) (codeAny_mono (F.run _ X.stack _ _ ⟨Value.ref (s.heap.objs.size + 1) :: us, []⟩ (Value.ref (s.heap.objs.size + 1) :: (us ++ ds)) _ _ (E σ) hg (hr.make C us [])
    (I2.env0.make C us []) (hb _ (Value.ref (s.heap.objs.size + 1) :: us) I2.kIn hl) r2 hq) fun r s' hq' => ?_))
  cases r with
  | error e => exact hx pins _ _ e s' I2 hq'
  | ok fl =>
    cases fl with
    | ret u =>
      obtain ⟨v, H', I3, rv, ev, q3⟩ := I2.after hq'
      subst ev
      exact ⟨rv, ⟨V.ref (s.heap.objs.size + 1), H', I3, rfl, q3⟩⟩
    | next => exact False.elim hq'
    | brk => exact False.elim hq'
    | cont => exact False.elim hq'
theorem pe_makeG (M : Mk X.K C f) (F : FnG X.prog X.w X.K X.mg X.base CX k f fd ps sp) (hgd : X.A.guards = some []) (hr : Room (k + 1) X.A) (hg : Gl X x) (hm : X.mg x = some (.ref C)) (hb : Binds X.K fd ps ds) (hd : Vals dvs ds) (hx : ∀ σ, PassesAt CX X σ (E σ))
    (ha : PA X (e :: es) t) (hdb : (x == ("__debug__" : Str)) = false := by decide) (he : starEach (e :: es) X.env = (false, eval e X.env) :: starEach es X.env := by rfl) (hpl : (backTo pos (starEach es X.env)).any (·.1) = false := by rfl) :
    PE X (.Call (.Name x p) (e :: es) [] pos) (tMakeS C sp dvs E t) := by
  refine ⟨fun pins s σ H Q I h => ?_⟩
  refine wpAny_Call_Name_kw (ld_glob I hg hm ?_ hdb)
  refine PySem.W.callWith_K (h₀ := X.base) I.ok.mod.kin M.kp (thn (ha.run pos pins s σ H _ I h) fun us s1 ⟨vs, H1, I1, r, q⟩ => ⟨I1.kIn, ?_⟩) he hpl
  exact run_makeG M F hgd hr hb hd (hx σ) I1 r q
/-- o.m(e, ..) -/
theorem pe_methG {pl : Sem Bool} (he : PE X o ta) (c : Cls X.K C) (hm : Meth X.K C m f) (F : Runs X CX f fd ps sp) (hb : Binds X.K fd ps ds) (hd : Vals dvs ds) (hx : ∀ σ, PassesAt CX X σ (E σ)) (ha : PA X (e :: es) t)
    (hst : starEach (e :: es) X.env = (false, eval e X.env) :: starEach es X.env := by rfl) (hpl : (backTo pos (starEach es X.env)).any (·.1) = false := by rfl)
    (ht : eval (.Call (.Attribute o m apos) (e :: es) [] pos) X.env = (do
      let ov ← eval o X.env
      standAt apos.atName
      let (f, first) ← holding [ov] (getMethod ov m pl)
      callWith pos f first (backTo pos (starEach (e :: es) X.env)) (backToKw pos (keywordEach [] X.env))) := by rfl) :
    PE X (.Call (.Attribute o m apos) (e :: es) [] pos) (tMethS C m sp dvs E ta t) := by
  refine ⟨fun pins s σ H Q I h => ?_⟩
  refine PySem.W.methodCall_KW (pl := pl) (thn (he.run pins s σ H _ I h) fun u s1 ⟨x, H1, I1, rx, a, dx, fs, ex, ea, l, q⟩ => ?_) ht
  subst ex
  obtain rfl : u = Value.ref a := rx
  refine getmeth_ok I1 ea c hm l ?_
  refine PySem.W.callWith_K (first := [.ref a]) (h₀ := X.base) I.ok.mod.kin hm.kp (thn (ha.run pos pins s1 σ H1 _ I1 q) fun us s2 ⟨vs, H2, I2, r, q2⟩ => ⟨I2.kIn, ?_⟩) hst hpl
  exact F.at (us := .ref a :: us) (us2 := .ref a :: (us ++ ds)) (vs := .ref a :: (vs ++ dvs)) (hx σ) I2 (fun hl => hb s2 (.ref a :: us) I2.kIn hl) (.cons rfl (r.append hd)) q2
/-- o.m() -/
theorem pe_methG0 {pl : Sem Bool} (he : PE X o ta) (c : Cls X.K C) (hm : Meth X.K C m f) (F : Runs X CX f fd ps sp) (hb : Binds X.K fd ps ds) (hd : Vals dvs ds) (hx : ∀ σ, PassesAt CX X σ (E σ))
    (ht : eval (.Call (.Attribute o m apos) [] [] pos) X.env = (do
      let ov ← eval o X.env
      standAt apos.atName
      let (f, first) ← holding [ov] (getMethod ov m pl)
      callWith pos f first (backTo pos (starEach [] X.env)) (backToKw pos (keywordEach [] X.env))) := by rfl) :
    PE X (.Call (.Attribute o m apos) [] [] pos) (tMethS C m sp dvs E ta tNil) := by
  refine ⟨fun pins s σ H Q I h => ?_⟩
  refine PySem.W.methodCall_KW (pl := pl) (thn (he.run pins s σ H _ I h) fun u s1 ⟨x, H1, I1, rx, a, dx, fs, ex, ea, l, q⟩ => ?_) ht
  subst ex
  obtain rfl : u = Value.ref a := rx
  refine getmeth_ok I1 ea c hm l ?_
  exact PySem.W.callWith_K0 (first := [.ref a]) I1.kIn hm.kp (F.at (us := [.ref a]) (us2 := .ref a :: ds) (vs := .ref a :: dvs) (hx σ) I1 (fun hl => hb s1 [.ref a] I1.kIn hl) (.cons rfl hd) q)
/-- a property -/
theorem pe_propG {g : Addr} {pp : Addr} (he : PE X e ta) (c : Cls X.K C) (hp : PropOf X.K C m pp g) (F : FnG X.prog X.w X.K X.mg X.base CX k g fd ps sp) (hgd : X.A.guards = some []) (hr : Room (k + 1) X.A) (hb : Binds X.K fd ps ds) (hd : Vals dvs ds) (hx : Passes CX X.nox E0)
    (hab : attributeBase e m X.env (eval e X.env) = eval e X.env) : PE X (.Attribute e m pos) (tProp C sp dvs E0 ta) := by
  refine ⟨fun pins s σ H Q I h => ?_⟩
  refine attr_of hab (thn (he.run pins s σ H _ I h) fun u s1 ⟨x, H1, I1, rx, a, dx, fs, ex, ea, q⟩ => ?_)
  subst ex
  obtain rfl : u = Value.ref a := rx
  obtain ⟨mA, O, _, _, _, _⟩ := ins_get I1.hok ea
  obtain ⟨od, J, _⟩ := O.look
  obtain ⟨rest, hrec⟩ := hp.rec_
  have I3 := I1.tok (s1.toks + 1)
  have hl : ([Value.ref a] ++ ds).length = ps.length := by
    rw [← F.len _ _ _ _ q]
    show ds.length + 1 = dvs.length + 1
    rw [hd.length]
  have hc : (PySem.W.clsIn X.K C).isSome = true := by
    obtain ⟨cd, hc, _⟩ := PySem.W.any_some c.hd
    rw [hc]
    rfl
  refine PySem.W.get_bind I1.kIn J (PySem.W.plainGet_of (c.get m)).1 (PySem.W.findObj_data hc hp.at_ hp.get hp.tak) (PySem.W.plainGet_of (c.get m)).2 (wpAny_call (PySem.W.prop_get (s := { s1 with toks := s1.toks + 1 }) I1.kIn hrec ?_))
  refine codeAny_mono (F.run X.A.in1 X.stack { s1 with toks := s1.toks + 1 } H1 ⟨[.ref a], []⟩ (.ref a :: ds) (.ref a :: dvs) Q E0 hgd hr.in1 I3.env0.in1 (hb _ [.ref a] I3.kIn hl) (.cons rfl hd) q) fun r s' hq => ?_
  cases r with
  | error er => exact False.elim (hx pins σ H1 { s1 with toks := s1.toks + 1 } er s' (I3.wish _) hq)
  | ok fl =>
    cases fl with
    | ret u =>
      obtain ⟨v, H', I4, rv, q3⟩ := I3.after hq
      show wpAny _ _ (handedOut u) _ _ _
      rw [PySem.W.handedOut_of (handed_of rv)]
      exact wpAny_pure ⟨v, H', I4, rv, q3⟩
    | next => exact False.elim hq
    | brk => exact False.elim hq
    | cont => exact False.elim hq
end
/-! ### readings -/
variable {K : PySem.W.Frag} {g : Gd} {E : WX} {F H : Hp} {σ : L2.St} {S : SS}
/-- behind the call that may change the new object at x -/
theorem RS.lent1 {x : Addr} {o o' : HO} {n : Nat} {F' H' : Hp} {fps' : List (List Addr)} (r : RS K (gadd g x o) F H σ S) (p : Post K F H ([x] :: List.replicate n []) F' H' fps') (hx : H' x = some o') (hF : F' x = none) (no' : ∀ ps, o' ≠ .tbl ps) : RS K (gadd g x o') F' H' σ S := by
  obtain ⟨fp, r⟩ := r
  have nm : ∀ b, b ≠ x → ∀ q ∈ ([x] :: List.replicate n [] : List (List Addr)), b ∉ q := fun b hb q hq => by
    rcases List.mem_cons.mp hq with z | z
    · rw [z]; simpa using hb
    · rw [List.eq_of_mem_replicate z]; intro h; cases h
  have ex : ∀ i ow k, S[i]? = some (some (.c ow k)) → ∀ b ∈ fp i, b ≠ x := fun i ow k h b hb z => by
    obtain ⟨a, ha, hc, hf⟩ := r.cel i ow k h
    obtain ⟨_, h2, _⟩ := hf b hb
    have h2' : upd g.G x o b = none := h2
    rw [z, upd_same] at h2'
    cases h2'
  refine ⟨fp, p.fh, fun b u q => ?_, fun b hb => ?_, fun i d e => ?_, fun i ow k h => ?_, r.ap, r.len, r.lent, r.nl, ?tb⟩
  case tb =>
    refine ⟨p.tb.t, p.tb.f, fun b ps z => ?_, p.tb.c⟩
    have z' : upd g.G x o' b = some (.tbl ps) := z
    by_cases e : b = x
    · rw [e, upd_same] at z'; exact no' ps (Option.some.inj z')
    · rw [upd_ne e] at z'
      refine r.tb.g b ps ?_
      show upd g.G x o b = _
      rw [upd_ne e]; exact z'
  · have q' : upd g.G x o' b = some u := q
    by_cases hb : b = x
    · rw [hb, upd_same] at q'
      rw [hb, hx]; exact q'
    · rw [upd_ne hb] at q'
      have q2 : (gadd g x o).G b = some u := by
        show upd g.G x o b = some u
        rw [upd_ne hb]; exact q'
      exact p.keep b u (r.gf b u q2) (fun ps z => r.tb.g b ps (by rw [q2, z])) (nm b hb)
  · obtain ⟨h1, h2⟩ := r.nb b hb
    exact ⟨p.out b h2 h1, p.live b h2⟩
  · obtain ⟨v, h1, h2⟩ := r.val i d e
    exact ⟨v, h1, h2.mono p.ff⟩
  · obtain ⟨a, ha, hc, hf⟩ := r.cel i ow k h
    refine ⟨a, ha, hc.mono p.ff fun b hb u q => p.keep b u q (hc.ntb hb q) (nm b (ex i ow k h b hb)), fun b hb => ?_⟩
    obtain ⟨h1, h2, h3⟩ := hf b hb
    have hb' := ex i ow k h b hb
    refine ⟨p.out b (hc.live b hb) h1, ?_, h3⟩
    show upd g.G x o' b = none
    have h2' : upd g.G x o b = none := h2
    rw [upd_ne hb'] at h2' ⊢; exact h2'
theorem RS.lentX {x : Addr} {o : HO} {n : Nat} {F' H' : Hp} {fps' : List (List Addr)} (r : RS K (gadd g x o) F H σ S) (hG : g.G x = none) (p : Post K F H ([x] :: List.replicate n []) F' H' fps') : RS K g F' H' σ S := by
  obtain ⟨fp, r⟩ := r
  have nm : ∀ b, b ≠ x → ∀ q ∈ ([x] :: List.replicate n [] : List (List Addr)), b ∉ q := fun b hb q hq => by
    rcases List.mem_cons.mp hq with z | z
    · rw [z]; simpa using hb
    · rw [List.eq_of_mem_replicate z]; intro h; cases h
  have ex : ∀ i ow k, S[i]? = some (some (.c ow k)) → ∀ b ∈ fp i, b ≠ x := fun i ow k h b hb z => by
    obtain ⟨a, ha, hc, hf⟩ := r.cel i ow k h
    obtain ⟨_, h2, _⟩ := hf b hb
    have h2' : upd g.G x o b = none := h2
    rw [z, upd_same] at h2'
    cases h2'
  have gG : ∀ {b : Addr} {u : HO}, g.G b = some u → b ≠ x ∧ (gadd g x o).G b = some u := fun {b u} q => by
    have hb : b ≠ x := ne_of_none q hG
    refine ⟨hb, ?_⟩
    show upd g.G x o b = some u
    rw [upd_ne hb]; exact q
  refine ⟨fp, p.fh, fun b u q => ?_, fun b hb => ?_, fun i d e => ?_, fun i ow k h => ?_, r.ap, r.len, r.lent, r.nl, ⟨p.tb.t, p.tb.f, fun b ps z => r.tb.g b ps (gG z).2, p.tb.c⟩⟩
  · obtain ⟨hb, q2⟩ := gG q
    exact p.keep b u (r.gf b u q2) (fun ps z => r.tb.g b ps (by rw [q2, z])) (nm b hb)
  · obtain ⟨h1, h2⟩ := r.nb b (.inl hb)
    exact ⟨p.out b h2 h1, p.live b h2⟩
  · obtain ⟨v, h1, h2⟩ := r.val i d e
    exact ⟨v, h1, h2.mono p.ff⟩
  · obtain ⟨a, ha, hc, hf⟩ := r.cel i ow k h
    refine ⟨a, ha, hc.mono p.ff fun b hb u q => p.keep b u q (hc.ntb hb q) (nm b (ex i ow k h b hb)), fun b hb => ?_⟩
    obtain ⟨h1, h2, h3⟩ := hf b hb
    have hb' := ex i ow k h b hb
    refine ⟨p.out b (hc.live b hb) h1, ?_, fun z w => h3 z (.inl w)⟩
    have h2' : upd g.G x o b = none := h2
    rw [upd_ne hb'] at h2'; exact h2'
theorem xrep_mono {F F' : Hp} {dx : Option Addr} {fs : List (Str × D)} (e : Same F F') (h : XRep K F dx fs) : XRep K F' dx fs := by
  cases dx with
  | none => exact h
  | some a =>
    obtain ⟨vs, h1, h2⟩ := h
    exact ⟨vs, e _ _ h1, h2.mono e⟩
/-- C(..): the object behind its __init__ -/
@[simp] def lMake (C : Addr) (f : LFn) (dd : List D) (Ta : LTs) : LT := fun S Q R => Ta S (fun ds S1 => frozenD ds = true ∧
  f (.c false (.ins C [] []) :: (ds.map Sl.v ++ dd.map Sl.v)) (fun d as' => d = .non ∧ match as' with
    | .c _ (.ins C' ns fs) :: _ => Q (.ins C' ns fs) S1
    | _ => False) (fun c fs _ => R c fs S1)) R
theorem args_v : ∀ {vs : List V} {ds : List D}, RepL K F vs ds → ArgsR K F H vs (ds.map Sl.v) (List.replicate ds.length [])
  | _, _, .nil => .nil
  | _, _, .cons h r => .v h (args_v r)
theorem lf_make {C : Addr} {n : Nat} {f : LFn} {dvs : List V} {dd : List D} {ta : TA} {Ta : LTs} (hd : ∀ F, RepL K F dvs dd) (ha : LfA K E ta Ta) (hn : ∀ as Q R, f as Q R → as.length = n) : Lf K E (tMakeS C (spL K n f) dvs (WE E) ta) (lMake C f dd Ta) := by
  intro g σ H F S Q R Q' rs h hq hx
  refine ha g σ H F S _ R _ rs h (fun ds S1 vs H1 F1 h1 c1 e1 r1 w1 => ?_) hx
  obtain ⟨hfz, h1⟩ := h1
  intro x dx hx0 hdx hne
  have rv := repL_of w1 hfz
  have r2 := RS.new (o := .own x) r1 hdx
  have fdx : F1 dx = none := r1.free hdx
  have hx1 : upd H1 dx (.own x) x = none := by rw [upd_ne (Ne.symm hne)]; exact hx0
  obtain ⟨r3, hG, hB⟩ := RS.pend (o := .ins C dx []) r2 hx1
  have e2 : Same F1 (upd F1 dx (.own x)) := sameNew fdx
  have fx : upd F1 dx (.own x) x = none := r2.free hx1
  have ar0 : ArgsR K (upd F1 dx (.own x)) (upd (upd H1 dx (.own x)) x (.ins C dx [])) (vs ++ dvs) (ds.map Sl.v ++ dd.map Sl.v) (List.replicate (ds ++ dd).length []) := by
    rw [← List.map_append]
    exact args_v ((rv.mono e2).append (hd _))
  have ar : ArgsR K (upd F1 dx (.own x)) (upd (upd H1 dx (.own x)) x (.ins C dx [])) (.ref x :: (vs ++ dvs)) (.c false (.ins C [] []) :: (ds.map Sl.v ++ dd.map Sl.v)) ([x] :: List.replicate (ds ++ dd).length []) := by
    refine .c ⟨rfl, dx, [], upd_same, rfl, .nil⟩ (fun b hb => ?_) (fun b hb q hq => ?_) ar0
    · rw [List.mem_singleton.mp hb]; exact fx
    · rw [List.eq_of_mem_replicate hq]; intro z; cases z
  refine ⟨by rw [ar.length.1]; exact hn _ _ _ h1, _, _, _, _, _, r3.ent, ar, h1, fun d as q v H' F' fps' p a' rep => ?_, fun c fs as q dx' H' F' fps' p a' xr => ?_⟩
  · obtain ⟨rfl, q⟩ := q
    cases rep
    refine ⟨rfl, ?_⟩
    split at q
    · rename_i C' ns fs rest
      cases a' with
      | c hc hf hp ht =>
        have hc' := hc
        obtain ⟨efp, dx', vs', hi, hl, rl⟩ := hc
        have fx' := hf x (by rw [efp]; exact List.mem_singleton.mpr rfl)
        have r4 := RS.lent1 r3 p hi fx' (fun _ z => (nomatch z))
        obtain ⟨r5, e5⟩ := RS.froze r4 hG hB hi
        exact hq _ S1 _ H' _ q c1 (e1.trans (e2.trans (p.ff.trans e5))) r5 (.inl (.ins upd_same hl (rl.mono e5)))
    · exact q.elim
  · exact hx c fs S1 dx' H' _ q c1 (e1.trans (e2.trans p.ff)) (RS.lentX r3 hG p) xr
/-! ### fields -/
structure FldOk (K : PySem.W.Frag) (C : Addr) (f : Str) : Prop where
  cl : Cls K C
  na : NoAttr K C f
@[simp] def fldD {α : Type} (f : Str) : List Str → List α → Option α
  | n :: ns, d :: ds => if f = n then some d else fldD f ns ds
  | _, _ => none
theorem fld_rep {f : Str} : ∀ {ns : List Str} {vs : List V} {ds : List D} {d : D}, RepL K F vs ds → fldD f ns ds = some d → ∃ v, (ns.zip vs).lookup f = some v ∧ Rep K F v d
  | [], _, _, _, _, h => by cases h
  | n :: ns, _, _, _, .nil, h => by cases h
  | n :: ns, _, _, d, .cons (v := v) hr r, h => by
    unfold fldD at h
    split at h
    · rename_i e
      cases h
      subst e
      exact ⟨v, by simp [List.lookup], hr⟩
    · rename_i e
      obtain ⟨v', h1, h2⟩ := fld_rep r h
      refine ⟨v', ?_, h2⟩
      have hb : (f == n) = false := beq_eq_false_iff_ne.mpr e
      simp only [List.zip_cons_cons, List.lookup, hb]
      exact h1
/-- e.f -/
@[simp] def lFld (K : PySem.W.Frag) (f : Str) (T : LT) : LT := fun S Q R => T S (fun d S1 => match look S1 d with
  | .ins C ns ds => FldOk K C f ∧ ∃ e, fldD f ns ds = some e ∧ Q e S1
  | _ => False) R
theorem lf_fld {f : Str} {t : TE} {T : LT} (h : Lf K E t T) : Lf K E (tFld K t f) (lFld K f T) := by
  intro g σ H F S Q R Q' rs q hq hx
  refine h g σ H F S _ R _ rs q (fun d S1 v1 H1 F1 h1 c1 e1 r1 w1 => ?_) hx
  have w := w1.look r1
  split at h1
  · rename_i C ns ds ex
    rw [ex] at w
    obtain ⟨ok, e, he, p⟩ := h1
    cases w with
    | fz w =>
      cases w with
      | @ins a _ dx _ vs _ ha hl rl =>
        obtain ⟨v, hv, rep⟩ := fld_rep rl he
        exact ⟨a, C, dx, _, v, rfl, r1.fh' _ _ ha, ok.cl, ok.na, hv, hq e S1 v H1 F1 p c1 e1 r1 (.inl rep)⟩
    | @ci a _ dx _ vs _ ha hl rl =>
      obtain ⟨v, hv, rep⟩ := fld_rep rl he
      exact ⟨a, C, dx, _, v, rfl, ha, ok.cl, ok.na, hv, hq e S1 v H1 F1 p c1 e1 r1 (.inl rep)⟩
  · exact h1.elim
/-! e.f = value (e a cell's name) -/
@[simp] def putN (f : Str) : List Str → List Str
  | [] => [f]
  | n :: ns => if n = f then n :: ns else n :: putN f ns
@[simp] def putA {α : Type} (f : Str) (y : α) : List Str → List α → List α
  | n :: ns, d :: ds => if n = f then y :: ds else d :: putA f y ns ds
  | _, _ => [y]
theorem putF_zip {f : Str} {y : V} : ∀ {ns : List Str} {vs : List V}, ns.length = vs.length → putF f y (ns.zip vs) = (putN f ns).zip (putA f y ns vs) ∧ (putN f ns).length = (putA f y ns vs).length
  | [], [], _ => ⟨rfl, rfl⟩
  | n :: ns, v :: vs, h => by
    obtain ⟨h1, h2⟩ := putF_zip (f := f) (y := y) (ns := ns) (vs := vs) (by simpa using h)
    by_cases e : n = f
    · refine ⟨?_, ?_⟩
      · simp only [List.zip_cons_cons, putF, putN, putA, if_pos e]
      · simp only [putN, putA, if_pos e]; simpa using h
    · refine ⟨?_, ?_⟩
      · simp only [List.zip_cons_cons, putF, putN, putA, if_neg e, h1]
      · simp only [putN, putA, if_neg e, List.length_cons, h2]
  | [], _ :: _, h => by simp at h
  | _ :: _, [], h => by simp at h
theorem putA_rep {f : Str} {y : V} {d : D} (h : Rep K F y d) : ∀ {ns : List Str} {vs : List V} {ds : List D}, ns.length = vs.length → RepL K F vs ds → RepL K F (putA f y ns vs) (putA f d ns ds)
  | [], _, _, _, .nil => .cons h .nil
  | n :: ns, _, _, e, .nil => by simp at e
  | [], _, _, e, .cons _ _ => by simp at e
  | n :: ns, _, _, e, .cons hr r => by
    unfold putA
    split
    · exact .cons h r
    · exact .cons hr (putA_rep h (by simpa using e) r)
@[simp] def insL (S : SS) (i : Nat) (P : Bool → Addr → List Str → List D → Prop) : Prop := match S[i]? with
  | some (some (.c o (.ins C ns ds))) => P o C ns ds
  | _ => False
theorem insL_of {i : Nat} {P : Bool → Addr → List Str → List D → Prop} (h : insL S i P) : ∃ o C ns ds, S[i]? = some (some (.c o (.ins C ns ds))) ∧ P o C ns ds := by
  unfold insL at h
  split at h
  · exact ⟨_, _, _, _, ‹_›, h⟩
  · exact h.elim
@[simp] def lFldS (K : PySem.W.Frag) (i : Nat) (f : Str) (T : LT) : LTS := fun D S => T S (fun d S1 => isCel d = false ∧ insL S1 i fun o C ns ds => FldOk K C f ∧ ns.length < 1000 ∧
  D.nx (S1.set i (some (.c o (.ins C (putN f ns) (putA f d ns ds)))))) D.xr
theorem lfs_fld {i : Nat} {f : Str} {t : TE} {T : LT} (h : Lf K E t T) : LfS K E (sFld K (tVar i) t f) (lFldS K i f T) := fun g σ H F S D3 D2 rs q c => by
  refine h g σ H F S _ _ _ rs q (fun d S1 y H1 F1 h1 c1 e1 r1 w1 => ?_) c.cx
  obtain ⟨hd, h1⟩ := h1
  obtain ⟨o, C, ns, ds, hi, ok, hz, hn⟩ := insL_of h1
  have r1' := r1
  obtain ⟨fp, r2⟩ := r1
  obtain ⟨a, ha, hc, hf⟩ := r2.cel i o _ hi
  obtain ⟨efp, dx, vs, hv, hl, rl⟩ := hc
  refine ⟨.ref a, ha, a, C, dx, _, rfl, hv, ok.cl, ok.na, ?_, ?_⟩
  · rw [List.length_zip]
    omega
  · obtain ⟨z1, z2⟩ := putF_zip (f := f) (y := y) hl
    rw [z1]
    refine c.nx _ _ _ F1 hn e1 (r1'.setK (kN := .ins C (putN f ns) (putA f d ns ds)) hi ha ⟨rfl, dx, _, upd_same, z2, ?_⟩)
    exact putA_rep (w1.rep hd) hl rl
/-! ### properties, methods -/
/-- a def's promise from its data, at a call -/
@[simp] def callWP (f : LFn) (dd : List D) (ds : List D) (S : SS) (Q : D → SS → Prop) (R : XR) : Prop := nodupB (celIx ds) = true ∧
  f (ds.map (toArg S) ++ dd.map Sl.v) (fun d as => shp (ds.map (toArg S) ++ dd.map Sl.v) as = true ∧ Q d (backA S ds as)) (fun c fs as => shp (ds.map (toArg S) ++ dd.map Sl.v) as = true ∧ R c fs (backA S ds as))
theorem sp_ofR {n : Nat} {f : LFn} {dvs : List V} {dd ds : List D} {vs : List V} {Q : D → SS → Prop} {R : XR} {Q' : VK} {E' : XK} (hd : ∀ F, RepL K F dvs dd) (hn : ∀ as Q R, f as Q R → as.length = n) (r1 : RS K g F H σ S) (w1 : Paired (RepW K F σ S) vs ds)
    (h : callWP f dd ds S Q R) (hq : ∀ d S' v H' F', Q d S' → CS S S' → Same F F' → RS K g F' H' σ S' → Rep K F' v d → Q' v H') (hx : ∀ c fs S' dx H' F', R c fs S' → CS S S' → Same F F' → RS K g F' H' σ S' → XRep K F' dx fs → E' c dx H') : spL K n f (vs ++ dvs) H Q' E' := by
  obtain ⟨hnd, h1⟩ := h
  obtain ⟨fp, r1⟩ := r1
  have hdd := hd F
  have ar := args_of (dvs := dvs) (dd := dd) r1 w1 hnd hdd
  refine ⟨by rw [ar.length.1]; exact hn _ _ _ h1, F, _, _, _, _, r1.ent, ar, h1, fun d as q v H' F' fps' p a' rep => ?_, fun c fs as q dx H' F' fps' p a' x => ?_⟩
  · obtain ⟨r2, c2⟩ := call_back r1 w1 hnd p hdd a' q.1
    exact hq d _ v H' F' q.2 c2 p.ff r2 rep
  · obtain ⟨r2, c2⟩ := call_back r1 w1 hnd p hdd a' q.1
    exact hx c fs _ dx H' F' q.2 c2 p.ff r2 x
theorem sp_of {n : Nat} {f : LFn} {dvs : List V} {dd ds : List D} {vs : List V} {Q : D → SS → Prop} {R : XR} {Q' : VK} {E' : XK} (hd : ∀ F, RepL K F dvs dd) (hn : ∀ as Q R, f as Q R → as.length = n) (r1 : RS K g F H σ S) (w1 : Paired (RepW K F σ S) vs ds)
    (h : callWP f dd ds S Q R) (hq : CQ K g σ F S Q Q') (hx : ∀ c fs S' dx H' F', R c fs S' → CS S S' → Same F F' → RS K g F' H' σ S' → XRep K F' dx fs → E' c dx H') : spL K n f (vs ++ dvs) H Q' E' := sp_ofR hd hn r1 w1 h (fun d S' v H' F' q c e r w => hq d S' v H' F' q c e r (.inl w)) hx
/-- e is an instance of C -/
@[simp] def isIns (C : Addr) : D → Prop
  | .ins C' _ _ => C' = C
  | _ => False
theorem ins_at {C : Addr} {v : V} {d : D} (e : Same F H) (h : RepR K F H v d) (q : isIns C d) : ∃ a dx ns vs ds, v = .ref a ∧ d = .ins C ns ds ∧ H a = some (.ins C dx (ns.zip vs)) ∧ ns.length = vs.length := by
  cases d <;> first | exact q.elim | skip
  rename_i C' ns ds
  cases (show C' = C from q)
  cases h with
  | fz h =>
    cases h with
    | @ins a _ dx _ vs _ ha hl _ => exact ⟨a, dx, ns, vs, ds, rfl, rfl, e _ _ ha, hl⟩
  | @ci a _ dx _ vs _ ha hl _ => exact ⟨a, dx, ns, vs, ds, rfl, rfl, ha, hl⟩
@[simp] def lProp (C : Addr) (f : LFn) (dd : List D) (T : LT) : LT := fun S Q R => T S (fun d S1 => isIns C (look S1 d) ∧ callWP f dd [d] S1 Q fun _ _ _ => False) R
theorem lf_prop {C : Addr} {n : Nat} {f : LFn} {dvs : List V} {dd : List D} {t : TE} {T : LT} (hd : ∀ F, RepL K F dvs dd) (ha : Lf K E t T) (hn : ∀ as Q R, f as Q R → as.length = n) : Lf K E (tProp C (spL K n f) dvs (fun _ _ _ => False) t) (lProp C f dd T) := by
  intro g σ H F S Q R Q' rs q hq hx
  refine ha g σ H F S _ R _ rs q (fun d S1 v1 H1 F1 h1 c1 e1 r1 w1 => ?_) hx
  obtain ⟨hi, h1⟩ := h1
  obtain ⟨a, dx, ns, vs, ds, rfl, _, hH, _⟩ := ins_at r1.fh' (w1.look r1) hi
  exact ⟨a, dx, _, rfl, hH, sp_of (vs := [.ref a]) hd hn r1 (.cons w1 .nil) h1 (hq.step c1 e1) fun c fs S' dx H' F' q _ _ _ _ => q.elim⟩
theorem lookup_none {m : Str} : ∀ {ns : List Str} {vs : List V}, ns.contains m = false → (ns.zip vs).lookup m = none
  | [], _, _ => rfl
  | n :: ns, [], _ => rfl
  | n :: ns, v :: vs, h => by
    simp only [List.contains_cons, Bool.or_eq_false_iff] at h
    simp only [List.zip_cons_cons, List.lookup, h.1]
    exact lookup_none h.2
def noField (m : Str) : D → Bool
  | .ins _ ns _ => !ns.contains m
  | _ => false
def lMeth (C : Addr) (m : Str) (f : LFn) (dd : List D) (To : LT) (Ta : LTs) : LT := fun S Q R => To S (fun o S1 => isIns C (look S1 o) ∧ noField m (look S1 o) = true ∧ Ta S1 (fun ds S2 => callWP f dd (o :: ds) S2 Q R) R) R
theorem lf_meth {C : Addr} {m : Str} {n : Nat} {f : LFn} {dvs : List V} {dd : List D} {to : TE} {ta : TA} {To : LT} {Ta : LTs} (hd : ∀ F, RepL K F dvs dd) (ho : Lf K E to To) (ha : LfA K E ta Ta) (hn : ∀ as Q R, f as Q R → as.length = n) :
    Lf K E (tMethS C m (spL K n f) dvs (WE E) to ta) (lMeth C m f dd To Ta) := by
  intro g σ H F S Q R Q' rs q hq hx
  refine ho g σ H F S _ R _ rs q (fun d S1 v1 H1 F1 h1 c1 e1 r1 w1 => ?_) hx
  obtain ⟨hi, hm, h1⟩ := h1
  obtain ⟨a, dx, ns, vs, ds, rfl, ed, hH, _⟩ := ins_at r1.fh' (w1.look r1) hi
  refine ⟨a, dx, _, rfl, hH, ?_, ?_⟩
  · rw [ed] at hm
    exact lookup_none (by simpa [noField] using hm)
  · refine ha g σ H1 F1 S1 _ R _ r1 h1 (fun es S2 ws H2 F2 h2 c2 e2 r2 w2 => ?_) (hx.step c1 e1)
    have cc := c1.trans c2
    have ee := e1.trans e2
    exact sp_of (vs := .ref a :: ws) hd hn r2 (.cons (w1.step c2 e2) w2) h2 (hq.step cc ee) fun c fs S' dx H' F' q c3 e3 r x => hx c fs S' dx H' F' q (cc.trans c3) (ee.trans e3) r x
end L3
set_option linter.all false
set_option maxRecDepth 100000
set_option maxHeartbeats 4000000
/-! L3, part M: new lists: handed out, handed on, stored; two or three names at once. -/
namespace L3
open PySem PySem.Spec PyProof.Rows L2
section
variable {K : PySem.W.Frag} {g : Gd} {E : WX} {F H : Hp} {σ : L2.St} {S : SS}
/-! ### expressions that make a new list -/
abbrev LTN := SS → (Cell → SS → Prop) → XR → Prop
def CQN (K : PySem.W.Frag) (g : Gd) (σ : L2.St) (F : Hp) (S : SS) (Q : Cell → SS → Prop) (Q' : VK) : Prop :=
  ∀ k S' p o H' F', Q k S' → CS S S' → Same F F' → RS K (gadd g p o) F' H' σ S' → g.G p = none → ¬ g.B p → CellAt K F' H' p [p] k → Q' (.ref p) H'
def LfN (K : PySem.W.Frag) (E : WX) (t : TE) (T : LTN) : Prop :=
  ∀ (g : Gd) (σ : L2.St) (H F : Hp) (S : SS) (Q : Cell → SS → Prop) (R : XR) (Q' : VK), RS K g F H σ S → T S Q R → CQN K g σ F S Q Q' → CX3 K g σ F S R E → t σ H Q'
@[simp] def nLst (Ts : LTs) : LTN := fun S Q R => Ts S (fun ds S1 => frozenD ds = true ∧ ds.length ≤ sizeLine ∧ Q (.lst ds) S1) R
theorem lfn_lst {t : TA} {T : LTs} (h : LfA K E t T) : LfN K E (tLst t) (nLst T) := fun g σ H F S Q R Q' rs q hq hx => by
  refine h g σ H F S _ R _ rs q (fun ds S1 vs H1 F1 h1 c1 e1 r1 w1 => ?_) hx
  obtain ⟨hf, hz, hn⟩ := h1
  have rl := repL_of w1 hf
  refine ⟨by rw [rl.length]; exact hz, fun p hp => ?_⟩
  obtain ⟨rp, hG, hB⟩ := r1.pend (o := .lst vs) hp
  exact hq _ S1 p _ _ F1 hn c1 e1 rp hG hB ⟨rfl, vs, upd_same, rl⟩
@[simp] def nList (T : LT) : LTN := fun S Q R => T S (fun d S1 => match look S1 d with
  | .tup xs => Q (.lst xs) S1
  | .lst xs => Q (.lst xs) S1
  | .lsf xs => Q (.lst xs) S1
  | _ => False) R
theorem lfn_list {t : TE} {T : LT} (h : Lf K E t T) : LfN K E (tCB (rListA K) (tCons t tNil)) (nList T) := fun g σ H F S Q R Q' rs q hq hx => by
  refine h g σ H F S _ R _ rs q (fun d S1 v H1 F1 h1 c1 e1 r1 w1 => ?_) hx
  have w := w1.look r1
  have go : ∀ {xs : List D} {ws : List V}, RepL K F1 ws xs → Q (.lst xs) S1 → ∀ l, H1 l = none → Q' (.ref l) (upd H1 l (.lst ws)) := fun {xs ws} rl hh l hl => by
    obtain ⟨rp, hG, hB⟩ := r1.pend (o := .lst ws) hl
    exact hq _ S1 l _ _ F1 hh c1 e1 rp hG hB ⟨rfl, ws, upd_same, rl⟩
  split at h1
  · rename_i xs e
    rw [e] at w
    obtain ⟨a, ws, rfl, ha, ra⟩ := w.tupI r1.fh'
    exact ⟨a, ws, rfl, .inr ha, go ra h1⟩
  · rename_i xs e
    rw [e] at w
    obtain ⟨a, ws, rfl, ha, ra⟩ := w.lstI r1.fh'
    exact ⟨a, ws, rfl, .inl (SqL.of ha), go ra h1⟩
  · rename_i xs e
    rw [e] at w
    obtain ⟨a, ws, rfl, ha, ra⟩ := w.lsfI r1.fh'
    exact ⟨a, ws, rfl, .inl ha, go ra h1⟩
  · exact h1.elim
/-! ### the new list in a slot of its own -/
theorem snoc_get {α : Type} {l : List (Option α)} {i : Nat} {x : α} (h : (l ++ [none])[i]? = some (some x)) : l[i]? = some (some x) := by
  by_cases hi : i < l.length
  · rw [List.getElem?_append_left hi] at h; exact h
  · rw [List.getElem?_append_right (Nat.le_of_not_lt hi)] at h
    cases hj : i - l.length with
    | zero => rw [hj] at h; simp at h
    | succ n => rw [hj] at h; simp at h
theorem snoc_get' {α : Type} {l : List α} {i : Nat} {x y : α} (h : l[i]? = some x) : (l ++ [y])[i]? = some x := by
  rw [List.getElem?_append_left (List.getElem?_eq_some_iff.mp h).1]; exact h
theorem RS.ext (r : RS K g F H σ S) : RS K g F H (σ ++ [none]) (S ++ [none]) := by
  obtain ⟨fp, r⟩ := r
  refine ⟨fp, r.fh, r.gf, r.nb, fun i d h => ?_, fun i o k h => ?_, fun i j o k o' k' n h1 h2 => r.ap i j o k o' k' n (snoc_get h1) (snoc_get h2), by simp [r.len], fun p hp => ?_, fun i k h => r.nl i k (snoc_get h), r.tb⟩
  · obtain ⟨v, h1, h2⟩ := r.val i d (snoc_get h)
    exact ⟨v, snoc_get' h1, h2⟩
  · obtain ⟨a, h1, h2⟩ := r.cel i o k (snoc_get h)
    exact ⟨a, snoc_get' h1, h2⟩
  · obtain ⟨h1, k, h2⟩ := r.lent p hp
    exact ⟨snoc_get' h1, k, snoc_get' h2⟩
theorem RS.snoc {p : Addr} {o : HO} {k : Cell} (r : RS K (gadd g p o) F H σ S) (hG : g.G p = none) (hB : ¬ g.B p) (h : CellAt K F H p [p] k) : RS K g F H (σ ++ [some (.ref p)]) (S ++ [some (.c true k)]) := by
  have hl : S.length = σ.length := by obtain ⟨_, r⟩ := r; exact r.len
  have r2 := RS.toK (i := S.length) (kN := k) r.ext hG hB h (by unfold freeSl; simp)
  rw [hl] at r2
  rw [List.set_append_right _ _ (Nat.le_refl _)] at r2
  rw [← hl, List.set_append_right _ _ (Nat.le_refl _)] at r2
  simpa using r2
theorem RS.unsnoc {v : Option V} {k : Cell} (r : RS K g F H (σ ++ [v]) (S ++ [some (.c true k)])) (hl : S.length = σ.length) : RS K g F H σ S := by
  obtain ⟨fp, r⟩ := r
  refine ⟨fp, r.fh, r.gf, r.nb, fun i d h => ?_, fun i o k h => ?_, fun i j o k o' k' n h1 h2 => r.ap i j o k o' k' n (snoc_get' h1) (snoc_get' h2), hl, fun p hp => ?_, fun i k h => r.nl i k (snoc_get' h), r.tb⟩
  · obtain ⟨w, h1, h2⟩ := r.val i d (snoc_get' h)
    refine ⟨w, ?_, h2⟩
    have hi : i < S.length := (List.getElem?_eq_some_iff.mp h).1
    rw [List.getElem?_append_left (by omega)] at h1; exact h1
  · obtain ⟨a, h1, h2⟩ := r.cel i o k (snoc_get' h)
    refine ⟨a, ?_, h2⟩
    have hi : i < S.length := (List.getElem?_eq_some_iff.mp h).1
    rw [List.getElem?_append_left (by omega)] at h1; exact h1
  · obtain ⟨h1, k', h2⟩ := r.lent p hp
    have hi : p.1 < S.length := by
      by_cases z : p.1 < S.length
      · exact z
      · rw [List.getElem?_append_right (Nat.le_of_not_lt z)] at h2
        cases hj : p.1 - S.length with
        | zero => rw [hj] at h2; simp at h2
        | succ n => rw [hj] at h2; simp at h2
    rw [List.getElem?_append_left (by omega)] at h1
    rw [List.getElem?_append_left hi] at h2
    exact ⟨h1, k', h2⟩
/-! ### statements -/
@[simp] def lAsgN (i : Nat) (T : LTN) : LTS := fun D S => T S (fun k S1 => freeSl S1 i = true ∧ D.nx (S1.set i (some (.c true k)))) D.xr
theorem lfs_asgN {i : Nat} {t : TE} {T : LTN} (h : LfN K E t T) : LfS K E (tAsg t (gName i)) (lAsgN i T) := fun g σ H F S D3 D2 rs q c => by
  refine h g σ H F S _ _ _ rs q (fun k S1 p o H1 F1 h1 c1 e1 r1 hG hB w1 => ?_) c.cx
  exact c.nx _ _ _ F1 h1.2 e1 (RS.toK r1 hG hB w1 h1.1)
@[simp] def lRetC (T : LTN) : LTS := fun D S => T S (fun k S1 => D.rt (.cel S1.length) (S1 ++ [some (.c true k)])) D.xr
theorem lfs_retC {t : TE} {T : LTN} (h : LfN K E t T) : LfS K E (tRet t) (lRetC T) := fun g σ H F S D3 D2 rs q c => by
  refine h g σ H F S _ _ _ rs q (fun k S1 p o H1 F1 h1 c1 e1 r1 hG hB w1 => ?_) c.cx
  have hl : S1.length = σ.length := by obtain ⟨_, r⟩ := r1; exact r.len
  refine c.rt _ _ _ _ _ F1 h1 e1 (RS.snoc r1 hG hB w1) (.inr ⟨S1.length, true, k, rfl, ?_, ?_⟩)
  · rw [hl]; simp
  · simp
/-! ### a def that hands out a new list -/
def spC (K : PySem.W.Frag) (n : Nat) (f : LFn) : Sp := fun vs H Q E => vs.length = n ∧ ∃ F as fps Q0 R0, Ent K F H ∧ ArgsR K F H vs as fps ∧ f as Q0 R0 ∧
  (∀ k as', Q0 (Cell.d k) as' → ∀ p H' F' fps', Post K F H fps F' H' fps' → ArgsR K F' H' vs as' fps' → CellAt K F' H' p [p] k → F' p = none → H p = none → (∀ q ∈ fps', p ∉ q) → Q (.ref p) H') ∧
  (∀ c fs as', R0 c fs as' → ∀ dx H' F' fps', Post K F H fps F' H' fps' → ArgsR K F' H' vs as' fps' → XRep K F' dx fs → E c dx H')
@[simp] def retN (S : SS) : D → Prop
  | .cel i => ∃ k, S[i]? = some (some (.c true k))
  | _ => False
def fnC (n m : Nat) (body : LTS) : LFn := fun as Q R => as.length = n ∧ body { nx := fun _ => False, rt := fun d S => retN S d ∧ Q (look S d) (outs as S), xr := fun c fs S => R c fs (outs as S) } (as.map some ++ List.replicate (m - n) none)
theorem cell_d_inj {k k' : Cell} (h : Cell.d k = Cell.d k') : k = k' := by
  cases k <;> cases k' <;> first | (cases h; rfl) | cases h
theorem body_ofC {E : WX} {EK : XK} {t : TS} {T : LTS} {N : List Str} {n : Nat} {vs : List V} {Q : VK} (ht : LfS K E t T) (hE : ∀ c dx σ H, EK c dx H → E c dx σ H) (hN : n ≤ N.length)
    (h : spC K n (fnC n N.length T) vs H Q EK) : t { nx := fun _ H' => Q .non H', rt := Q } (L2.start N vs) H := by
  obtain ⟨hl, F, as, fps, Q0, R0, e, ar, ⟨hlen, h⟩, hq0, hr0⟩ := h
  have hal := ar.length
  have rs := rs_start (N := N) e ar (by omega)
  rw [hlen] at rs
  refine ht _ _ H F _ _ _ rs h ⟨fun S' σ' H' F' q e' r => q.elim, fun d S' v σ' H' F' q e' r w => ?_, fun _ _ _ _ q => q.elim, fun _ _ _ _ q => q.elim, fun c fs S' dx σ' H' F' q e' r x => ?_⟩
  · obtain ⟨ok, q⟩ := q
    rcases w with w | ⟨i, o, k, rfl, hv, hk⟩
    · cases w <;> exact ok.elim
    · obtain ⟨k', hk'⟩ := ok
      rw [hk] at hk'
      cases hk'
      rw [look_cel hk] at q
      obtain ⟨fps', p, a'⟩ := rs_end ar e' r
      obtain ⟨fp, r⟩ := r
      obtain ⟨a, ha, hc, hf⟩ := r.cel i true _ hk
      rw [hv] at ha
      cases ha
      have ef := hc.fp1
      obtain ⟨f1, f2, f3⟩ := hf a hc.mem
      have hF : F a = none := by
        cases z : F a with
        | none => rfl
        | some u => rw [e' a u z] at f1; cases f1
      have hH : H a = none := by
        cases z : H a with
        | none => rfl
        | some u => exact absurd ⟨by rw [z]; simp, hF⟩ (f3 rfl)
      rw [ef] at hc
      refine hq0 _ _ q a H' F' fps' p a' hc f1 hH fun w hw hm => ?_
      obtain ⟨m, em⟩ := List.getElem?_of_mem hw
      have hlt := (List.getElem?_eq_some_iff.mp em).1
      rw [a'.length.2, (outs_at 0).1] at hlt
      rcases p.new m w em a hm with ⟨w0, hw0, hmem⟩ | hn
      · have hal0 := ar.length
        cases ea : as[m]? with
        | none => rw [List.getElem?_eq_none_iff] at ea; omega
        | some x =>
          cases x with
          | v d0 =>
            -- a value has no footprint
            cases eb : fps[m]? with
            | none => rw [eb] at hw0; cases hw0
            | some _ =>
              have := argsV_fp ar m d0 ea
              rw [hw0] at this
              cases this
              cases hmem
          | c o0 k0 =>
            obtain ⟨_, a2, fp2, g1, g2, g3, g4⟩ := ar.celAt m o0 k0 ea
            rw [hw0] at g2
            cases g2
            exact absurd hH (g3.live a hmem)
      · -- a footprint that is new: none is, for lent cells keep theirs
        cases ea : as[m]? with
        | none => rw [List.getElem?_eq_none_iff] at ea; omega
        | some x =>
          cases x with
          | v d0 =>
            have := (outs_at (S := S') m).2.1 d0 ea
            have h0 := argsV_fp a' m d0 this
            rw [em] at h0
            cases h0
            cases hm
          | c o0 k0 =>
            obtain ⟨e0, a2, fp2, g1, g2, g3, g4⟩ := ar.celAt m o0 k0 ea
            obtain ⟨h2, k2, h3⟩ := r.lent (m, a2) (List.mem_filterMap.mpr ⟨m, List.mem_range.mpr (List.getElem?_eq_some_iff.mp ea).1, by rw [ea, g1]⟩)
            have h4 := (outs_at (S := S') m).2.2 o0 k0 ea
            simp only at h3
            rw [h3] at h4
            obtain ⟨_, a3, fp3, j1, j2, j3, j4⟩ := a'.celAt m _ _ h4
            rw [em] at j2
            cases j2
            rw [g1] at j1
            cases j1
            rw [j3.fp1] at hm
            have ea2 : a = a2 := List.mem_singleton.mp hm
            rw [ea2] at hH
            exact g3.live a2 g3.mem hH
  · obtain ⟨fps', p, a'⟩ := rs_end ar e' r
    exact hE c dx σ' H' (hr0 _ _ _ q dx H' F' fps' p a' x)
where
  argsV_fp {K : PySem.W.Frag} {F H : Hp} : ∀ {vs : List V} {as : List Sl} {fps : List (List Addr)}, ArgsR K F H vs as fps → ∀ (m : Nat) (d : D), as[m]? = some (.v d) → fps[m]? = some []
  | _, _, _, .nil, m, d, e => by simp at e
  | _, _, _, .v _ r, 0, d, e => rfl
  | _, _, _, .v _ r, m + 1, d, e => by simpa using argsV_fp r m d (by simpa using e)
  | _, _, _, .c _ _ _ r, 0, d, e => by simp at e
  | _, _, _, .c _ _ _ r, m + 1, d, e => by simpa using argsV_fp r m d (by simpa using e)
/-- f(e, ..) by data, a new list handed out -/
@[simp] def nCall (f : LFn) (dd : List D) (Ts : LTs) : LTN := fun S Q R => Ts S (fun ds S1 => nodupB (celIx ds) = true ∧
  f (ds.map (toArg S1) ++ dd.map Sl.v) (fun d as => shp (ds.map (toArg S1) ++ dd.map Sl.v) as = true ∧ ∃ k : Cell, d = k.d ∧ Q k (backA S1 ds as)) (fun c fs as => shp (ds.map (toArg S1) ++ dd.map Sl.v) as = true ∧ R c fs (backA S1 ds as))) R
theorem RS.toPend {p : Addr} {o : HO} (r : RS K g F H σ S) (hH : H p = some o) (hF : F p = none) (hn : ∀ (i : Nat) (ow : Bool) (k : Cell) (fp : List Addr) (a : Addr), S[i]? = some (some (.c ow k)) → σ[i]? = some (some (.ref a)) → a ≠ p) (no : ∀ ps, o ≠ .tbl ps) : RS K (gadd g p o) F H σ S := by
  obtain ⟨fp, r⟩ := r
  refine ⟨fp, r.fh, fun b u q => ?_, fun b hb => ?_, r.val, fun i ow k h => ?_, r.ap, r.len, r.lent, r.nl, ⟨r.tb.t, r.tb.f, noTbl_upd r.tb.g no, r.tb.c⟩⟩
  · have q' : upd g.G p o b = some u := q
    by_cases hb : b = p
    · rw [hb, upd_same] at q'
      rw [hb, hH]; exact q'
    · rw [upd_ne hb] at q'
      exact r.gf b u q'
  · rcases hb with hb | hb
    · exact r.nb b hb
    · rw [hb, hH]; exact ⟨hF, by simp⟩
  · obtain ⟨a, ha, hc, hf⟩ := r.cel i ow k h
    refine ⟨a, ha, hc, fun b hb => ?_⟩
    have hne : b ≠ p := by
      rw [hc.fp1] at hb
      rw [List.mem_singleton.mp hb]
      exact hn i ow k [] a h ha
    obtain ⟨h1, h2, h3⟩ := hf b hb
    refine ⟨h1, ?_, fun z w => ?_⟩
    · show upd g.G p o b = none
      rw [upd_ne hne]; exact h2
    · rcases w with w | w
      · exact h3 z w
      · exact hne w
theorem lfn_call {n : Nat} {f : LFn} {dvs : List V} {dd : List D} {ta : TA} {Ta : LTs} (hd : ∀ F, RepL K F dvs dd) (ha : LfA K E ta Ta) (hn : ∀ as Q R, f as Q R → as.length = n) : LfN K E (tCallSD (spC K n f) dvs (WE E) ta) (nCall f dd Ta) := by
  intro g σ H F S Q R Q' rs h hq hx
  refine ha g σ H F S _ R _ rs h (fun ds S1 vs H1 F1 h1 c1 e1 r1 w1 => ?_) hx
  obtain ⟨hnd, h1⟩ := h1
  obtain ⟨fp, r1⟩ := r1
  have hdd := hd F1
  have ar := args_of (dvs := dvs) (dd := dd) r1 w1 hnd hdd
  refine ⟨by rw [ar.length.1]; exact hn _ _ _ h1, F1, _, _, _, _, r1.ent, ar, h1, fun k as q pa H' F' fps' p a' hc hF hH hnp => ?_, fun c fs as q dx H' F' fps' p a' x => ?_⟩
  · obtain ⟨hs, k', ek, q⟩ := q
    have ekk := cell_d_inj ek
    subst ekk
    obtain ⟨r2, c2⟩ := call_back r1 w1 hnd p hdd a' hs
    obtain ⟨u, hu, nu⟩ := hc.nt
    refine hq k _ pa u H' F' q (c1.trans c2) (e1.trans p.ff) (RS.toPend r2 hu hF (fun i ow k2 _ a hi hai => ?_) nu.1) (Same.free r1.gf hH) (fun z => (r1.nb pa z).2 hH) hc
    intro z
    subst z
    -- a cell's object stood before the call
    have hS1 : ∃ k0, S1[i]? = some (some (.c ow k0)) := by
      have cc := c2.2 i
      cases hs1 : S1[i]? with
      | none =>
        have h5 : S1.length ≤ i := List.getElem?_eq_none_iff.mp hs1
        have h6 := (List.getElem?_eq_some_iff.mp hi).1
        rw [c2.1] at h6
        omega
      | some x =>
        cases x with
        | none =>
          have := cc.2.2 hs1
          rw [hi] at this
          cases this
        | some x =>
          cases x with
          | v d =>
            have := cc.1 d hs1
            rw [hi] at this
            cases this
          | c o k0 =>
            obtain ⟨k3, h7⟩ := cc.2.1 o k0 hs1
            rw [hi] at h7
            cases h7
            exact ⟨k0, rfl⟩
    obtain ⟨k0, hk0⟩ := hS1
    obtain ⟨a2, h8, h9, _⟩ := r1.cel i ow k0 hk0
    rw [hai] at h8
    cases h8
    exact h9.live a h9.mem hH
  · obtain ⟨r2, c2⟩ := call_back r1 w1 hnd p hdd a' q.1
    exact hx c fs _ dx H' F' q.2 (c1.trans c2) (e1.trans p.ff) r2 x
/-! ### f(new, ..) -/
@[simp] def lCallX (f : LFn) (dd : List D) (N : LTN) (Ta : LTs) : LT := fun S Q R => N S (fun k S1 => Ta S1 (fun ds S2 => callWP f dd (.cel S2.length :: ds) (S2 ++ [some (.c true k)]) (fun d S3 => Q d (S3.take S2.length)) (fun c fs S3 => R c fs (S3.take S2.length))) RF) R
theorem take_snoc {α : Type} {l : List α} {n : Nat} (h : l.length = n + 1) : ∃ x, l = l.take n ++ [x] := by
  have hn : n < l.length := by omega
  refine ⟨l[n], ?_⟩
  have h1 := List.take_append_drop n l
  rw [List.drop_eq_getElem_cons hn] at h1
  rw [List.drop_eq_nil_of_le (by omega)] at h1
  exact h1.symm
theorem RS.unX {v : V} {S3 : SS} {k : Cell} (r : RS K g F H (σ ++ [some v]) S3) (c : CS (S ++ [some (.c true k)]) S3) (hl : S.length = σ.length) : RS K g F H σ (S3.take S.length) ∧ CS S (S3.take S.length) := by
  have hl3 : S3.length = S.length + 1 := by rw [c.1]; simp
  obtain ⟨x, hx⟩ := take_snoc hl3
  obtain ⟨k', hk'⟩ := (c.2 S.length).2.1 true k (by simp)
  have hxx : x = some (.c true k') := by
    rw [hx] at hk'
    rw [List.getElem?_append_right (by simp; omega)] at hk'
    have : S.length - (S3.take S.length).length = 0 := by simp; omega
    rw [this] at hk'
    simpa using hk'
  rw [hxx] at hx
  have hlt : (S3.take S.length).length = S.length := by simp; omega
  refine ⟨RS.unsnoc (v := some v) (k := k') (by rw [← hx]; exact r) (by rw [hlt]; exact hl), hlt, fun i => ?_⟩
  have ht : ∀ {y : Option Sl}, i < S.length → S3[i]? = some y → (S3.take S.length)[i]? = some y := fun {y} hi hy => by
    rw [List.getElem?_take, if_pos hi]; exact hy
  refine ⟨fun d h => ?_, fun o k2 h => ?_, fun h => ?_⟩
  · exact ht (List.getElem?_eq_some_iff.mp h).1 ((c.2 i).1 d (snoc_get' h))
  · obtain ⟨k3, h3⟩ := (c.2 i).2.1 o k2 (snoc_get' h)
    exact ⟨k3, ht (List.getElem?_eq_some_iff.mp h).1 h3⟩
  · exact ht (List.getElem?_eq_some_iff.mp h).1 ((c.2 i).2.2 (snoc_get' h))
theorem lf_callX {n : Nat} {f : LFn} {dvs : List V} {dd : List D} {tn : TE} {ta : TA} {N : LTN} {Ta : LTs} (hd : ∀ F, RepL K F dvs dd) (hN : LfN K E tn N) (ha : LfA K E ta Ta) (hn : ∀ as Q R, f as Q R → as.length = n) :
    Lf K E (tCallSD (spL K n f) dvs (WE E) (tCons tn ta)) (lCallX f dd N Ta) := by
  intro g σ H F S Q R Q' rs h hq hx
  refine hN g σ H F S _ R _ rs h (fun k S1 p o H1 F1 h1 c1 e1 r1 hG hB w1 => ?_) hx
  refine ha (gadd g p o) σ H1 F1 S1 _ RF _ r1 h1 (fun ds S2 vs H2 F2 h2 c2 e2 r2 w2 => ?_) fun _ _ _ _ _ _ z => z.elim
  have hp1 : H1 p = some o := by
    obtain ⟨_, r⟩ := r1
    exact r.gf p o (by show upd g.G p o p = _; rw [upd_same])
  have hp2 : H2 p = some o := by
    obtain ⟨_, r⟩ := r2
    exact r.gf p o (by show upd g.G p o p = _; rw [upd_same])
  have w1' : CellAt K F2 H2 p [p] k := w1.mono e2 fun b hb u q => by
    rw [List.mem_singleton.mp hb] at q ⊢
    rw [hp1] at q
    rw [hp2]; exact q
  have hl2 : S2.length = σ.length := by obtain ⟨_, r⟩ := r2; exact r.len
  have r3 := RS.snoc r2 hG hB w1'
  have wx : Paired (RepW K F2 (σ ++ [some (.ref p)]) (S2 ++ [some (.c true k)])) (.ref p :: vs) (.cel S2.length :: ds) := by
    refine .cons (.inr ⟨S2.length, true, k, rfl, by rw [hl2]; simp, by simp⟩) ?_
    exact pairedW w2
  refine sp_ofR (vs := .ref p :: vs) hd hn r3 wx h2 (fun d S3 v H3 F3 q c3 e3 r4 w3 => ?_) fun c fs S3 dx H3 F3 q c3 e3 r4 x => ?_
  · obtain ⟨r5, c5⟩ := RS.unX r4 c3 hl2
    refine hq d _ v H3 F3 q (c1.trans (c2.trans c5)) (e1.trans (e2.trans e3)) r5 (.inl w3)
  · obtain ⟨r5, c5⟩ := RS.unX r4 c3 hl2
    exact hx c fs _ dx H3 F3 q (c1.trans (c2.trans c5)) (e1.trans (e2.trans e3)) r5 x
where
  pairedW {K : PySem.W.Frag} {F : Hp} {σ : L2.St} {S : SS} {x : Option V} {y : Option Sl} : ∀ {vs : List V} {ds : List D}, Paired (RepW K F σ S) vs ds → Paired (RepW K F (σ ++ [x]) (S ++ [y])) vs ds
    | _, _, .nil => .nil
    | _, _, .cons h t => by
      refine .cons ?_ (pairedW t)
      rcases h with h | ⟨i, o, k, e, h1, h2⟩
      · exact .inl h
      · exact .inr ⟨i, o, k, e, snoc_get' h1, snoc_get' h2⟩
/-! ### two or three names at once -/
@[simp] def setSl (S : SS) : List Nat → List Sl → SS
  | i :: is, s :: ss => (setSl S is ss).set i (some s)
  | _, _ => S
def setSt (σ : L2.St) : List Nat → List V → L2.St
  | i :: is, v :: vs => (setSt σ is vs).set i (some v)
  | _, _ => σ
@[simp] def parOk (S : SS) : List Nat → Bool
  | [] => true
  | i :: is => freeSl S i && !is.contains i && parOk S is
theorem setSl_ne {i : Nat} : ∀ {is : List Nat} {ss : List Sl}, i ∉ is → (setSl S is ss)[i]? = S[i]?
  | [], _, _ => by unfold setSl; rfl
  | j :: is, [], _ => by unfold setSl; rfl
  | j :: is, s :: ss, h => by
    unfold setSl
    rw [get_set_ne (fun z => h (by simp [z]))]
    exact setSl_ne fun z => h (List.mem_cons_of_mem _ z)
theorem store_all {g' : Gd} {vs : List V} {ss : List Sl} (p : PSl K F H g vs ss g') : ∀ (is : List Nat), is.length = ss.length → parOk S is = true → RS K g' F H σ S → RS K g F H (setSt σ is vs) (setSl S is ss) := by
  induction p with
  | nil => intro is hl _ r; cases is <;> exact r
  | v h p ih =>
    intro is hl ho r
    cases is with
    | nil => simp at hl
    | cons i is =>
      unfold parOk at ho
      simp only [Bool.and_eq_true, Bool.not_eq_true'] at ho
      have hni : i ∉ is := by simpa using ho.1.2
      have r2 := ih is (by simpa using hl) ho.2 r
      exact r2.setV (by unfold freeSl at ho ⊢; rw [setSl_ne hni]; exact ho.1.1) h
  | c h1 h2 h3 h4 p ih =>
    intro is hl ho r
    cases is with
    | nil => simp at hl
    | cons i is =>
      unfold parOk at ho
      simp only [Bool.and_eq_true, Bool.not_eq_true'] at ho
      have hni : i ∉ is := by simpa using ho.1.2
      have r2 := ih is (by simpa using hl) ho.2 r
      exact RS.toCell r2 h1 h2 h3 h4 (by unfold freeSl at ho ⊢; rw [setSl_ne hni]; exact ho.1.1)
theorem PSl.len {g g' : Gd} {vs : List V} {ss : List Sl} (p : PSl K F H g vs ss g') : vs.length = ss.length := by
  induction p with
  | nil => rfl
  | v _ _ ih => simp [ih]
  | c _ _ _ _ _ ih => simp [ih]
theorem len2 {α : Type} {l : List α} (h : l.length = 2) : ∃ a b, l = [a, b] := by
  match l, h with
  | [a, b], _ => exact ⟨a, b, rfl⟩
theorem len3 {α : Type} {l : List α} (h : l.length = 3) : ∃ a b c, l = [a, b, c] := by
  match l, h with
  | [a, b, c], _ => exact ⟨a, b, c, rfl⟩
@[simp] def lPar (is : List Nat) (T : LSl) : LTS := fun D S => T S (fun ss S1 => ss.length = is.length ∧ parOk S1 is = true ∧ D.nx (setSl S1 is ss)) D.xr
theorem lfs_par {i j : Nat} {t : TA} {T : LSl} (h : LfSl K E t T) (hij : i ≠ j) : LfS K E (tPar i j t) (lPar [i, j] T) := fun g σ H F S D3 D2 rs q c => by
  refine h g σ H F S _ _ _ rs q (fun ss S1 vs H1 F1 g' h1 c1 e1 r1 p => ?_) c.cx
  obtain ⟨hl, ho, hn⟩ := h1
  have hv := p.len
  have r2 := store_all p [i, j] hl.symm ho r1
  obtain ⟨v, w, rfl⟩ := len2 (hv.trans hl)
  obtain ⟨s, t, rfl⟩ := len2 hl
  · refine ⟨v, w, rfl, c.nx _ _ _ F1 hn e1 ?_⟩
    have : setSt σ [i, j] [v, w] = (σ.set i (some v)).set j (some w) := by
      show (σ.set j (some w)).set i (some v) = _
      rw [List.set_comm _ _ hij]
    rw [← this]
    exact r2
theorem lfs_par3 {i j l : Nat} {t : TA} {T : LSl} (h : LfSl K E t T) (hij : i ≠ j) (hil : i ≠ l) (hjl : j ≠ l) : LfS K E (tPar3 i j l t) (lPar [i, j, l] T) := fun g σ H F S D3 D2 rs q c => by
  refine h g σ H F S _ _ _ rs q (fun ss S1 vs H1 F1 g' h1 c1 e1 r1 p => ?_) c.cx
  obtain ⟨hl, ho, hn⟩ := h1
  have hv := p.len
  have r2 := store_all p [i, j, l] hl.symm ho r1
  obtain ⟨v, w, u, rfl⟩ := len3 (hv.trans hl)
  obtain ⟨s, t, x, rfl⟩ := len3 hl
  · refine ⟨v, w, u, rfl, c.nx _ _ _ F1 hn e1 ?_⟩
    have : setSt σ [i, j, l] [v, w, u] = ((σ.set i (some v)).set j (some w)).set l (some u) := by
      show ((σ.set l (some u)).set j (some w)).set i (some v) = _
      rw [List.set_comm _ _ hjl, List.set_comm _ _ hil, List.set_comm _ _ hij]
    rw [← this]
    exact r2
end
end L3
set_option linter.all false
set_option maxRecDepth 100000
set_option maxHeartbeats 4000000
/-! L3, part N: the packed rules: the text's reading and the lifted one together. -/
namespace L3
open PySem PySem.Spec PyProof.Rows L2
def Ex (X : Cx) (E : WX) (e : Expr) (T : LT) : Prop := ∃ t, PE X e t ∧ Lf X.K E t T
def Ax (X : Cx) (E : WX) (es : List Expr) (T : LTs) : Prop := ∃ t, PA X es t ∧ LfA X.K E t T
def Tx (X : Cx) (E : WX) (e : Expr) (T : LTT) : Prop := ∃ t, PT X e t ∧ LfT X.K E t T
def Wx (X : Cx) (E : WX) (e : Expr) (T : LTT) : Prop := ∃ t, PW X e t ∧ LfT X.K E t T
def Ix (X : Cx) (E : WX) (tg e : Expr) (T : LTI) : Prop := ∃ t, PI X tg e t ∧ LfI X.K E t T
def Gx (X : Cx) (E : WX) (e : Expr) (G : LG) : Prop := ∃ t, PG X e t ∧ LfG X.K E t G
def Gsx (X : Cx) (E : WX) (es : List Expr) (G : LGs) : Prop := ∃ t, PGs X es t ∧ LfGs X.K E t G
def Sx (X : Cx) (E : WX) (st : Stmt) (T : LTS) : Prop := ∃ t, PS X st t ∧ LfS X.K E t T
def Bx (X : Cx) (E : WX) (sts : List Stmt) (T : LTS) : Prop := ∃ t, PSs X sts t ∧ LfS X.K E t T
def Nx (X : Cx) (E : WX) (e : Expr) (N : LTN) : Prop := ∃ t, PE X e t ∧ LfN X.K E t N
def Slx (X : Cx) (E : WX) (es : List Expr) (T : LSl) : Prop := ∃ t, PA X es t ∧ LfSl X.K E t T
def Ox (X : Cx) (E : WX) (e : Option Expr) (T : LTO) : Prop := ∃ t, PO X e t ∧ LfO X.K E t T
/-- what a body's rules may use -/
structure CK (X : Cx) (E : WX) (k : Nat) : Prop where
  calm : X.calm = true
  nd : X.N.Nodup
  gd : X.A.guards = some []
  rm : Room k X.A
  own : PassesOwn (model X.prog X.w) X.A X.env X.xe
  tk : Takes X E
theorem CK.un {X : Cx} {E : WX} {k : Nat} (c : CK X E k) : X.A.units + 66 < cLine := by have := c.rm.un; omega
theorem CK.un65 {X : Cx} {E : WX} {k : Nat} (c : CK X E k) : X.A.units + 65 < cLine := by have := c.rm.un; omega
theorem CK.un64 {X : Cx} {E : WX} {k : Nat} (c : CK X E k) : X.A.units + 64 < cLine := by have := c.rm.un; omega
theorem CK.blk {X : Cx} {E : WX} {k : Nat} (c : CK X E k) (s : Shared) (H : Hp) (scope : Scope) (cenv : Env) (fp : List Addr) : CK (X.blk s H scope cenv fp) E0w k :=
  ⟨c.calm, c.nd, c.gd, c.rm, PassesOwn.never, takes0⟩
section
variable {X : Cx} {E : WX} {k : Nat} {pos : Pos} {a b c e o : Expr} {es : List Expr} {Ta Tb Tc To : LT} {Ts : LTs} {CA CB : LTT}
/-! ### names, constants -/
theorem x_var (i : Nat) {x : Str} (hN : X.N[i]? = some x := by rfl) (hv : Vis X.env.scope x := by first | exact Or.inl rfl | exact Or.inr (Or.inl rfl) | exact Or.inr (Or.inr rfl)) (hd : (x == ("__debug__" : Str)) = false := by decide)
    (hcd : (x == ("__classdict__" : Str)) = false := by decide) : Ex X E (.Name x pos) (lVar i) := ⟨_, pv i hN hv hd hcd, lf_var⟩
theorem x_int {i j} : Ex X E (.Constant (.int i) j pos) (lC (.int i)) := ⟨_, pe_int, lf_c fun _ => .int i⟩
theorem x_bl {b j} : Ex X E (.Constant (.bool b) j pos) (lC (.bl b)) := ⟨_, pe_bl, lf_c fun _ => .bl b⟩
theorem x_non {j} : Ex X E (.Constant .none j pos) (lC .non) := ⟨_, pe_non, lf_c fun _ => .non⟩
theorem x_str {x j} : Ex X E (.Constant (.str x) j pos) (lC (.str x)) := ⟨_, pe_str, lf_c fun _ => .str x⟩
theorem x_glob {x : Str} {v : V} {u : Value} {d : D} (hm : X.mg x = some u) (r : RelV v u) (hr : ∀ F, Rep X.K F v d) (hg : Gl X x := by rfl) (hd : (x == ("__debug__" : Str)) = false := by decide) : Ex X E (.Name x pos) (lC d) := ⟨_, pe_glob hg hm r hd, lf_c hr⟩
theorem x_gint {x : Str} {i : Int} {t : Tok} (hm : X.mg x = some (.int i t)) (hg : Gl X x := by rfl) (hd : (x == ("__debug__" : Str)) = false := by decide) : Ex X E (.Name x pos) (lC (.int i)) := x_glob (v := .int i) hm ⟨t, rfl⟩ (fun _ => .int i) hg hd
theorem x_gstr {x z : Str} {t : Tok} (hm : X.mg x = some (.str z t)) (hg : Gl X x := by rfl) (hd : (x == ("__debug__" : Str)) = false := by decide) : Ex X E (.Name x pos) (lC (.str z)) := x_glob (v := .str z) hm ⟨t, rfl⟩ (fun _ => .str z) hg hd
theorem x_gref {x : Str} {C : Addr} (hm : X.mg x = some (.ref C)) (hg : Gl X x := by rfl) (hd : (x == ("__debug__" : Str)) = false := by decide) : Ex X E (.Name x pos) (lC (.fn C)) := x_glob (v := .ref C) hm rfl (fun _ => .fn C) hg hd
theorem x_ty {x : Str} {n : String} (hm : X.mg x = none) (hv : bootBuiltins x = some (.type n)) (hg : Gl X x := by rfl) (hn : x ≠ "__name__" := by decide) (hd : (x == ("__debug__" : Str)) = false := by decide) : Ex X E (.Name x pos) (lC (.ty n)) :=
  ⟨_, pe_bltn (v := .ty n) hg hm hv rfl hn hd, lf_c fun _ => .ty n⟩
/-! ### operators -/
theorem x_bin {op : Operator} {r : R2} {f : D2} (ho : OpR X (binaryOp op) r) (hl : OpL X.K r f) (ha : Ex X E a Ta) (hb : Ex X E b Tb) : Ex X E (.BinOp a op b pos) (lBin f Ta Tb) := by
  obtain ⟨_, p1, l1⟩ := ha
  obtain ⟨_, p2, l2⟩ := hb
  exact ⟨_, pe_op ho p1 p2, lf_bin hl l1 l2⟩
theorem x_add (ha : Ex X E a Ta) (hb : Ex X E b Tb) : Ex X E (.BinOp a .Add b pos) (lBin addD Ta Tb) := x_bin op_addA opl_add ha hb
theorem x_sub (ha : Ex X E a Ta) (hb : Ex X E b Tb) : Ex X E (.BinOp a .Sub b pos) (lBin subD Ta Tb) := x_bin op_sub opl_int0 ha hb
theorem x_mul (ha : Ex X E a Ta) (hb : Ex X E b Tb) : Ex X E (.BinOp a .Mult b pos) (lBin mulD Ta Tb) := x_bin op_mulA opl_mul ha hb
theorem x_mod (ha : Ex X E a Ta) (hb : Ex X E b Tb) : Ex X E (.BinOp a .Mod b pos) (lBin modD Ta Tb) := x_bin op_mod opl_int ha hb
theorem x_div (ha : Ex X E a Ta) (hb : Ex X E b Tb) : Ex X E (.BinOp a .FloorDiv b pos) (lBin divD Ta Tb) := x_bin op_fdivW opl_int ha hb
theorem x_pow (ha : Ex X E a Ta) (hb : Ex X E b Tb) : Ex X E (.BinOp a .Pow b pos) (lBin powD Ta Tb) := x_bin op_pow opl_int ha hb
def negD : D1 := fun x P => match x with
  | .int i => P (.int (-i))
  | _ => False
theorem unl_neg {K : PySem.W.Frag} : UnL K (rU fun i => .int (-i)) negD := by
  intro g F H σ S v d P Q' r h f q
  unfold negD at f
  split at f
  · exact ⟨_, h.intI, q.val r f (.int _)⟩
  · exact f.elim
theorem x_neg (ha : Ex X E a Ta) : Ex X E (.UnaryOp .USub a pos) (lUn negD Ta) := by
  obtain ⟨_, p1, l1⟩ := ha
  exact ⟨_, pe_un un_neg p1, lf_un unl_neg l1⟩
theorem x_cmp {op : CmpOp} {r : R2} {f : D2} (ho : OpR X (compareOp op) r) (hl : OpL X.K r f) (ha : Ex X E a Ta) (hb : Ex X E b Tb) (hm : behindInMarks op b = false) : Ex X E (.Compare a [op] [b] pos) (lBin f Ta Tb) := by
  obtain ⟨_, p1, l1⟩ := ha
  obtain ⟨_, p2, l2⟩ := hb
  exact ⟨_, pe_cmpR ho p1 p2 hm, lf_bin hl l1 l2⟩
theorem t_cmp {op : CmpOp} {r : R2} {f : D2} (ho : OpR X (compareOp op) r) (hl : OpL X.K r f) (ha : Ex X E a Ta) (hb : Ex X E b Tb) (hm : behindInMarks op b = false) : Tx X E (.Compare a [op] [b] pos) (lTst (lBin f Ta Tb)) := by
  obtain ⟨_, p1, l1⟩ := ha
  obtain ⟨_, p2, l2⟩ := hb
  exact ⟨_, pt_cmpR ho p1 p2 hm, lft_tst (lf_bin hl l1 l2)⟩
theorem x_chain {op op' : CmpOp} {r r' : R2} {f f' : D2} (ho : OpR X (compareOp op) r) (hl : OpL X.K r f) (ho' : OpR X (compareOp op') r') (hl' : OpL X.K r' f') (ha : Ex X E a Ta) (hb : Ex X E b Tb) (hc : Ex X E c Tc) (hm : lastMarks [op, op'] [b, c] = false := by with_unfolding_all rfl) :
    Ex X E (.Compare a [op, op'] [b, c] pos) (lChain f f' Ta Tb Tc) := by
  obtain ⟨_, p1, l1⟩ := ha
  obtain ⟨_, p2, l2⟩ := hb
  obtain ⟨_, p3, l3⟩ := hc
  exact ⟨_, pe_chain ho ho' p1 p2 p3 hm, lf_chain hl hl' l1 l2 l3⟩
theorem t_chain {op op' : CmpOp} {r r' : R2} {f f' : D2} (ho : OpR X (compareOp op) r) (hl : OpL X.K r f) (ho' : OpR X (compareOp op') r') (hl' : OpL X.K r' f') (ha : Ex X E a Ta) (hb : Ex X E b Tb) (hc : Ex X E c Tc) (hm : lastMarks [op, op'] [b, c] = false := by with_unfolding_all rfl) :
    Tx X E (.Compare a [op, op'] [b, c] pos) (lTst (lChain f f' Ta Tb Tc)) := by
  obtain ⟨_, p1, l1⟩ := ha
  obtain ⟨_, p2, l2⟩ := hb
  obtain ⟨_, p3, l3⟩ := hc
  exact ⟨_, pt_chain ho ho' p1 p2 p3 hm, lft_tst (lf_chain hl hl' l1 l2 l3)⟩
/-! and, or, not -/
theorem x_one {op} (ha : Ex X E a Ta) : Ex X E (.BoolOp op [a] pos) Ta := by
  obtain ⟨_, p1, l1⟩ := ha
  exact ⟨_, pe_one p1, l1⟩
theorem x_and {rest : List Expr} (ha : Ex X E a Ta) (hb : Ex X E (.BoolOp .And (b :: rest) pos) Tb) : Ex X E (.BoolOp .And (a :: b :: rest) pos) (lAndV Ta Tb) := by
  obtain ⟨_, p1, l1⟩ := ha
  obtain ⟨_, p2, l2⟩ := hb
  exact ⟨_, pe_andT p1 p2, lf_andV l1 l2⟩
theorem x_or {rest : List Expr} (ha : Ex X E a Ta) (hb : Ex X E (.BoolOp .Or (b :: rest) pos) Tb) : Ex X E (.BoolOp .Or (a :: b :: rest) pos) (lOrV Ta Tb) := by
  obtain ⟨_, p1, l1⟩ := ha
  obtain ⟨_, p2, l2⟩ := hb
  exact ⟨_, pe_orT p1 p2, lf_orV l1 l2⟩
theorem x_not (ha : Ex X E a Ta) : Ex X E (.UnaryOp .Not a pos) (lNotV Ta) := by
  obtain ⟨_, p1, l1⟩ := ha
  exact ⟨_, pe_notT p1, lf_notV l1⟩
theorem t_tru (ha : Ex X E a Ta) (he : ∀ whole, isTrue a X.env whole = (do let v ← whole; standAt a.pos; holding [v] (truthy v)) := by intro _; rfl) : Tx X E a (lTru Ta) := by
  obtain ⟨_, p1, l1⟩ := ha
  exact ⟨_, pt_truth p1 he, lft_tru l1⟩
theorem t_not (ha : Tx X E a CA) : Tx X E (.UnaryOp .Not a pos) (lNot CA) := by
  obtain ⟨_, p1, l1⟩ := ha
  exact ⟨_, pt_not p1, lft_not l1⟩
theorem w_and1 (ha : Tx X E a CA) : Wx X E (.BoolOp .And [a] pos) CA := by
  obtain ⟨_, p1, l1⟩ := ha
  exact ⟨_, pw_and1 p1, l1⟩
theorem w_or1 (ha : Tx X E a CA) : Wx X E (.BoolOp .Or [a] pos) CA := by
  obtain ⟨_, p1, l1⟩ := ha
  exact ⟨_, pw_or1 p1, l1⟩
theorem w_and {rest : List Expr} (ha : Tx X E a CA) (hb : Wx X E (.BoolOp .And (b :: rest) pos) CB) : Wx X E (.BoolOp .And (a :: b :: rest) pos) (lAnd CA CB) := by
  obtain ⟨_, p1, l1⟩ := ha
  obtain ⟨_, p2, l2⟩ := hb
  exact ⟨_, pw_and p1 p2, lft_and l1 l2⟩
theorem w_or {rest : List Expr} (ha : Tx X E a CA) (hb : Wx X E (.BoolOp .Or (b :: rest) pos) CB) : Wx X E (.BoolOp .Or (a :: b :: rest) pos) (lOr CA CB) := by
  obtain ⟨_, p1, l1⟩ := ha
  obtain ⟨_, p2, l2⟩ := hb
  exact ⟨_, pw_or p1 p2, lft_or l1 l2⟩
theorem t_w (ha : Wx X E a CA) : Tx X E a CA := by
  obtain ⟨_, p1, l1⟩ := ha
  exact ⟨_, p1.pt, l1⟩
theorem x_if (hc : Tx X E c CA) (ha : Ex X E a Ta) (hb : Ex X E b Tb) : Ex X E (.IfExp c a b pos) (lIf CA Ta Tb) := by
  obtain ⟨_, p1, l1⟩ := ha
  obtain ⟨_, p2, l2⟩ := hb
  obtain ⟨_, p3, l3⟩ := hc
  exact ⟨_, pe_ifExp p3 p1 p2, lf_if l3 l1 l2⟩
/-! ### displays, subscripts -/
theorem a_nil : Ax X E [] lNil := ⟨_, pa_nil, lfa_nil⟩
theorem a_cons (ha : Ex X E e Ta) (hr : Ax X E es Ts) (hs : starEach (e :: es) X.env = (false, eval e X.env) :: starEach es X.env := by rfl) : Ax X E (e :: es) (lCons Ta Ts) := by
  obtain ⟨_, p1, l1⟩ := ha
  obtain ⟨_, p2, l2⟩ := hr
  exact ⟨_, pa_cons p1 p2 hs, lfa_cons l1 l2⟩
theorem x_tup {x1} (h : Ax X E es Ts) : Ex X E (.Tuple es x1 pos) (lTup Ts) := by
  obtain ⟨_, p1, l1⟩ := h
  exact ⟨_, pe_tup p1, lf_tup l1⟩
theorem x_lst (h : Ax X E es Ts) : Ex X E (.List es pos) (lLst Ts) := by
  obtain ⟨_, p1, l1⟩ := h
  exact ⟨_, pe_lst p1, lf_lst l1⟩
theorem x_ix (ha : Ex X E a Ta) (hb : Ex X E b Tb) (hs : PlainIx b := by intro _ _; rfl) : Ex X E (.Subscript a b pos) (lBin ixD Ta Tb) := by
  obtain ⟨_, p1, l1⟩ := ha
  obtain ⟨_, p2, l2⟩ := hb
  exact ⟨_, pe_ix ix_seq p1 p2 hs, lf_bin opl_ix l1 l2⟩
theorem o_non : Ox X E none lNoPart := ⟨_, po_none, lfo_none⟩
theorem o_some (ha : Ex X E a Ta) : Ox X E (some a) (lPart Ta) := by
  obtain ⟨_, p1, l1⟩ := ha
  exact ⟨_, po_some p1, lfo_some l1⟩
theorem x_sl {lo hi : Option Expr} {p2 : Pos} {Tl Th : LTO} (ha : Ex X E a Ta) (hl : Ox X E lo Tl) (hh : Ox X E hi Th) : Ex X E (.Subscript a (.Slice lo hi none p2) pos) (lSl Ta Tl Th) := by
  obtain ⟨_, p1, l1⟩ := ha
  obtain ⟨_, p2, l2⟩ := hl
  obtain ⟨_, p3, l3⟩ := hh
  exact ⟨_, pe_slice sl_D p1 p2 p3, lf_sl l1 l2 l3⟩
/-! ### calls of built-ins -/
theorem x_cb {x : Str} {p : Pos} {id : String} {r : List V → Hp → VK → Prop} {f : DN} (hc : CallR X (.builtin id) r) (hl : CallL X.K r f) (hm : X.mg x = none) (hv : bootBuiltins x = some (.builtin id)) (ha : Ax X E (e :: es) Ts) (hg : Gl X x := by rfl) (hn : x ≠ "__name__" := by decide)
    (hdb : (x == ("__debug__" : Str)) = false := by decide) (he : starEach (e :: es) X.env = (false, eval e X.env) :: starEach es X.env := by rfl) (hpl : (backTo pos (starEach es X.env)).any (·.1) = false := by rfl) : Ex X E (.Call (.Name x p) (e :: es) [] pos) (lCB f Ts) := by
  obtain ⟨_, p1, l1⟩ := ha
  exact ⟨_, pe_callB hc hg hm hv p1 hn hdb he hpl, lf_cb hl l1⟩
theorem x_ct {x : Str} {p : Pos} {T : String} {r : List V → Hp → VK → Prop} {f : DN} (hc : CallR X (.type T) r) (hl : CallL X.K r f) (hm : X.mg x = none) (hv : bootBuiltins x = some (.type T)) (ha : Ax X E (e :: es) Ts) (hg : Gl X x := by rfl) (hn : x ≠ "__name__" := by decide)
    (hdb : (x == ("__debug__" : Str)) = false := by decide) (he : starEach (e :: es) X.env = (false, eval e X.env) :: starEach es X.env := by rfl) (hpl : (backTo pos (starEach es X.env)).any (·.1) = false := by rfl) : Ex X E (.Call (.Name x p) (e :: es) [] pos) (lCB f Ts) := by
  obtain ⟨_, p1, l1⟩ := ha
  exact ⟨_, pe_callTy hc hg hm hv p1 hn hdb he hpl, lf_cb hl l1⟩
theorem x_index {apos : Pos} (ho : Ex X E o To) (ha : Ex X E e Ta) (c : CK X E k) (hbase : attributeBase o "index" X.env (eval o X.env) = eval o X.env := by rfl)
    (hfew : ((backTo pos (starEach (e :: []) X.env)).all (fun x => !x.1) && (backToKw pos (keywordEach [] X.env)).all (fun x => x.1.isSome)
      && decide ((e :: []).length + ([] : List Keyword).length + (if ([] : List Keyword).isEmpty then 0 else 1) < 30)) = true := by rfl)
    (hline : (apos.endLine == pos.line) = true := by rfl) (hs : starEach (e :: []) X.env = (false, eval e X.env) :: starEach [] X.env := by rfl) : Ex X E (.Call (.Attribute o "index" apos) [e] [] pos) (lIndex To Ta) := by
  obtain ⟨_, p1, l1⟩ := ho
  obtain ⟨_, p2, l2⟩ := ha
  exact ⟨_, pe_bm PySem.F.plainAttrs_list PySem.F.slot_list_index PySem.F.type_list_index (mt_indexD c.un65) p1 (pa_cons p2 pa_nil hs) hbase hfew hline hs rfl, lf_index l1 l2⟩
/-! ### loops' iterators -/
theorem i_seq {tg : Expr} (ha : Ex X E a Ta) : Ix X E tg a (lItU Ta) := by
  obtain ⟨_, p1, l1⟩ := ha
  exact ⟨_, pi_seqU p1, lfi_seqU l1⟩
theorem i_rng1 {tg : Expr} {p : Pos} (ha : Ax X E [a] Ts) (hm : X.mg "range" = none) (hg : Gl X "range" := by rfl) (hs : starEach [a] X.env = [(false, eval a X.env)] := by rfl) : Ix X E tg (.Call (.Name "range" p) [a] [] pos) (lRng1 Ts) := by
  obtain ⟨_, p1, l1⟩ := ha
  exact ⟨_, pi_range1 hg hm p1 hs, lfi_rng1 l1⟩
theorem i_rng2 {tg : Expr} {p : Pos} (ha : Ax X E [a, b] Ts) (hm : X.mg "range" = none) (hg : Gl X "range" := by rfl) (hs : starEach [a, b] X.env = [(false, eval a X.env), (false, eval b X.env)] := by rfl) (hs2 : starEach [b] X.env = [(false, eval b X.env)] := by rfl) :
    Ix X E tg (.Call (.Name "range" p) [a, b] [] pos) (lRng2 Ts) := by
  obtain ⟨_, p1, l1⟩ := ha
  exact ⟨_, pi_range2 hg hm p1 hs hs2, lfi_rng2 l1⟩
theorem i_enum {p tpos : Pos} {elts : List Expr} {kk : Nat} (ha : Ax X E [e] Ts) (hm : X.mg "enumerate" = none) (hg : Gl X "enumerate" := by rfl) (hs : starEach [e] X.env = [(false, eval e X.env)] := by rfl) :
    Ix X E (.Tuple elts kk tpos) (.Call (.Name "enumerate" p) [e] [] pos) (lEnumU Ts) := by
  obtain ⟨_, p1, l1⟩ := ha
  exact ⟨_, pi_enumU hg hm p1 hs, lfi_enumU l1⟩
/-! ### targets -/
theorem g_name (i : Nat) {x : Str} (c : CK X E k) (hi : X.N[i]? = some x := by rfl) (hx : Loc X.env.scope x := by first | exact Or.inl rfl | exact Or.inr rfl) (hf : X.fn x = true ∨ X.env.scope.names.lookup x = some .local := by first | exact .inl rfl | exact .inr rfl) : Gx X E (.Name x pos) (gNameL i) :=
  ⟨_, pg_name c.nd hi hx hf, lfg_name⟩
theorem gs_nil : Gsx X E [] gNilL := ⟨_, pgs_nil, lfgs_nil⟩
theorem gs_cons {G : LG} {Gs : LGs} (h1 : Gx X E e G) (h2 : Gsx X E es Gs) (hs : (assignEach (e :: es) X.env).map (·.2) = assign e X.env :: (assignEach es X.env).map (·.2) := by rfl) : Gsx X E (e :: es) (gConsL G Gs) := by
  obtain ⟨_, p1, l1⟩ := h1
  obtain ⟨_, p2, l2⟩ := h2
  exact ⟨_, pgs_cons p1 p2 hs, lfgs_cons l1 l2⟩
theorem g_tup {kk : Nat} {Gs : LGs} (n : Nat) (c : CK X E k) (h : Gsx X E es Gs) (hn : (assignEach es X.env).length = n := by rfl) (hst : (assignEach es X.env).findIdx? (·.1) = none := by rfl) : Gx X E (.Tuple es kk pos) (gTupL n Gs) := by
  obtain ⟨_, p1, l1⟩ := h
  exact ⟨_, pg_tup c.calm p1 hn hst, lfg_tup l1⟩
theorem g_sub (i : Nat) {x : Str} {p : Pos} (ha : Ex X E a Ta) (hN : X.N[i]? = some x := by rfl) (hv : Vis X.env.scope x := by first | exact Or.inl rfl | exact Or.inr (Or.inl rfl) | exact Or.inr (Or.inr rfl)) (hd : (x == ("__debug__" : Str)) = false := by decide)
    (hcd : (x == ("__classdict__" : Str)) = false := by decide) (has : ∀ v, assign (.Subscript (.Name x p) a pos) X.env v = (do
      let ov ← holding [v] (eval (.Name x p) X.env)
      let iv ← holding [v, ov] (eval a X.env)
      standAt pos
      holding [v, ov, iv] (setItem ov iv v)
      release [v, ov, iv] []) := by intro _; rfl) : Gx X E (.Subscript (.Name x p) a pos) (gSubL i Ta) := by
  obtain ⟨_, p1, l1⟩ := ha
  exact ⟨_, pg_sub (pv i hN hv hd hcd) p1 set_list has, lfg_sub l1⟩
theorem g_setSl (i : Nat) {x : Str} {p p2 : Pos} {lo hi : Option Expr} {Tl Th : LTO} (hl : Ox X E lo Tl) (hh : Ox X E hi Th) (hN : X.N[i]? = some x := by rfl) (hv : Vis X.env.scope x := by first | exact Or.inl rfl | exact Or.inr (Or.inl rfl) | exact Or.inr (Or.inr rfl)) (hd : (x == ("__debug__" : Str)) = false := by decide)
    (hcd : (x == ("__classdict__" : Str)) = false := by decide) (has : ∀ v, assign (.Subscript (.Name x p) (.Slice lo hi none p2) pos) X.env v = (do
      let ov ← holding [v] (eval (.Name x p) X.env)
      let iv ← holding [v, ov] (eval (.Slice lo hi none p2) X.env)
      standAt pos
      holding [v, ov, iv] (setItem ov iv v)
      release [v, ov, iv] []) := by intro _; rfl) : Gx X E (.Subscript (.Name x p) (.Slice lo hi none p2) pos) (gSetSlL i Tl Th) := by
  obtain ⟨_, p1, l1⟩ := hl
  obtain ⟨_, p2, l2⟩ := hh
  exact ⟨_, pg_sub (pv i hN hv hd hcd) (pe_slO p1 p2) pset_sl has, lfg_setSl l1 l2⟩
/-! ### statements -/
variable {T U : LTS} {st : Stmt} {rest : List Stmt}
theorem b_nil : Bx X E [] lNext := ⟨_, pss_nil, lfs_next⟩
theorem b_cons (h1 : Sx X E st T) (h2 : Bx X E rest U) : Bx X E (st :: rest) (lSeq T U) := by
  obtain ⟨_, p1, l1⟩ := h1
  obtain ⟨_, p2, l2⟩ := h2
  exact ⟨_, pss_cons p1 p2, lfs_seq l1 l2⟩
theorem b_one (h1 : Sx X E st T) : Bx X E [st] T := by
  obtain ⟨_, p1, l1⟩ := h1
  exact ⟨_, pss_one p1, l1⟩
theorem s_pass : Sx X E (.Pass pos) lNext := ⟨_, ps_pass, lfs_next⟩
theorem s_break : Sx X E (.Break pos) lBreak := ⟨_, ps_break, lfs_break⟩
theorem s_cont : Sx X E (.Continue pos) lCont := ⟨_, ps_continue, lfs_cont⟩
theorem s_never : Sx X E st lNever := ⟨_, ps_never, lfs_never⟩
theorem b_never : Bx X E rest lNever := ⟨_, pss_never, lfs_never⟩
theorem s_expr (h : Ex X E e Ta) (hs : swapsWith e none pos.line X.env = pure false := by rfl) : Sx X E (.Expr e pos) (lDrop Ta) := by
  obtain ⟨_, p1, l1⟩ := h
  exact ⟨_, ps_expr p1 hs, lfs_drop l1⟩
theorem s_ret (h : Ex X E e Ta) : Sx X E (.Return (some e) pos) (lRet Ta) := by
  obtain ⟨_, p1, l1⟩ := h
  exact ⟨_, ps_ret p1, lfs_ret l1⟩
theorem s_retC {N : LTN} (h : Nx X E e N) : Sx X E (.Return (some e) pos) (lRetC N) := by
  obtain ⟨_, p1, l1⟩ := h
  exact ⟨_, ps_ret p1, lfs_retC l1⟩
theorem s_retN : Sx X E (.Return none pos) lRetN := ⟨_, ps_retN, lfs_retN⟩
theorem s_if {p q : List Stmt} (hc : Tx X E c CA) (ha : Bx X E p T) (hb : Bx X E q U) : Sx X E (.If c p q pos) (lIfS CA T U) := by
  obtain ⟨_, p1, l1⟩ := hc
  obtain ⟨_, p2, l2⟩ := ha
  obtain ⟨_, p3, l3⟩ := hb
  exact ⟨_, ps_if p1 p2 p3, lfs_if l1 l2 l3⟩
theorem s_asg {tg : Expr} {G : LG} (he : Ex X E e Ta) (hg : Gx X E tg G) (hs : swapsWithSole [tg] e pos.line X.env = pure false := by rfl) (hw : swappedStores [tg] e X.env = pure none := by rfl) (h1 : (assignEach [tg] X.env).map (·.2) = [assign tg X.env] := by rfl) :
    Sx X E (.Assign [tg] e pos) (lAsg Ta G) := by
  obtain ⟨_, p1, l1⟩ := he
  obtain ⟨_, p2, l2⟩ := hg
  exact ⟨_, ps_asg p1 p2 hs hw h1, lfs_asg l1 l2⟩
theorem s_set (i : Nat) {x : Str} {pos' : Pos} (c : CK X E k) (he : Ex X E e Ta) (hi : X.N[i]? = some x := by rfl) (hx : Loc X.env.scope x := by first | exact Or.inl rfl | exact Or.inr rfl) (hs : swapsWith e (some (.Name x pos')) pos.line X.env = pure false := by rfl)
    (hf : X.fn x = true ∨ X.env.scope.names.lookup x = some .local := by first | exact .inl rfl | exact .inr rfl) : Sx X E (.Assign [.Name x pos'] e pos) (lAsg Ta (gNameL i)) := by
  obtain ⟨_, p1, l1⟩ := he
  exact ⟨_, ps_set c.nd hi hx p1 hs hf, lfs_asg l1 lfg_name⟩
theorem s_setN (i : Nat) {x : Str} {pos' : Pos} {N : LTN} (c : CK X E k) (he : Nx X E e N) (hi : X.N[i]? = some x := by rfl) (hx : Loc X.env.scope x := by first | exact Or.inl rfl | exact Or.inr rfl) (hs : swapsWith e (some (.Name x pos')) pos.line X.env = pure false := by rfl)
    (hf : X.fn x = true ∨ X.env.scope.names.lookup x = some .local := by first | exact .inl rfl | exact .inr rfl) : Sx X E (.Assign [.Name x pos'] e pos) (lAsgN i N) := by
  obtain ⟨_, p1, l1⟩ := he
  exact ⟨_, ps_set c.nd hi hx p1 hs hf, lfs_asgN l1⟩
theorem s_for {iter tg : Expr} {Ti : LTI} {G : LG} (ck : CK X E k) (hi : Ix X E tg iter Ti) (hg : Gx X E tg G) (hb : Bx X E rest T) (hs : ∀ x, foldedSetIterable iter X.env x = pure x := by intro _; rfl) : Sx X E (.For tg iter rest [] pos) (lFor Ti G T) := by
  obtain ⟨_, p1, l1⟩ := hi
  obtain ⟨_, p2, l2⟩ := hg
  obtain ⟨_, p3, l3⟩ := hb
  exact ⟨_, ps_for ck.own ck.calm p1 p2 p3 hs, lfs_for l1 l2 l3⟩
theorem s_while (ck : CK X E k) (hc : Tx X E c CA) (hb : Bx X E rest T) : Sx X E (.While c rest [] pos) (lWhile CA T) := by
  obtain ⟨_, p1, l1⟩ := hc
  obtain ⟨_, p3, l3⟩ := hb
  exact ⟨_, ps_while ck.own p1 p3, lfs_while l1 l3⟩
theorem s_par (i j : Nat) {x y : Str} {px py pt : Pos} {kt k2 pt2} {Tl : LSl} (ck : CK X E k) (ha : Slx X E [a, b] Tl) (hi : X.N[i]? = some x := by rfl) (hj : X.N[j]? = some y := by rfl) (hij : i ≠ j := by decide)
    (hx : X.env.scope.names.lookup x = some .local := by rfl) (hy : X.env.scope.names.lookup y = some .local := by rfl) (hw : swappedStores [.Tuple [.Name x px, .Name y py] kt pt] (.Tuple [a, b] k2 pt2) X.env = pure (some [x, y]) := by rfl)
    (hs : swapsWithSole [.Tuple [.Name x px, .Name y py] kt pt] (.Tuple [a, b] k2 pt2) pos.line X.env = pure false := by rfl) : Sx X E (.Assign [.Tuple [.Name x px, .Name y py] kt pt] (.Tuple [a, b] k2 pt2) pos) (lPar [i, j] Tl) := by
  obtain ⟨_, p1, l1⟩ := ha
  exact ⟨_, ps_par ck.calm ck.nd hi hj hij hx hy p1 hw hs, lfs_par l1 hij⟩
theorem s_par3 (i j l : Nat) {x y z : Str} {px py pz pt : Pos} {kt k2 pt2} {Tl : LSl} (ck : CK X E k) (ha : Slx X E [a, b, c] Tl) (hi : X.N[i]? = some x := by rfl) (hj : X.N[j]? = some y := by rfl) (hl : X.N[l]? = some z := by rfl) (hij : i ≠ j := by decide) (hil : i ≠ l := by decide) (hjl : j ≠ l := by decide)
    (hx : X.env.scope.names.lookup x = some .local := by rfl) (hy : X.env.scope.names.lookup y = some .local := by rfl) (hz : X.env.scope.names.lookup z = some .local := by rfl) (hw : swappedStores [.Tuple [.Name x px, .Name y py, .Name z pz] kt pt] (.Tuple [a, b, c] k2 pt2) X.env = pure (some [x, y, z]) := by rfl)
    (hs : swapsWithSole [.Tuple [.Name x px, .Name y py, .Name z pz] kt pt] (.Tuple [a, b, c] k2 pt2) pos.line X.env = pure false := by rfl) : Sx X E (.Assign [.Tuple [.Name x px, .Name y py, .Name z pz] kt pt] (.Tuple [a, b, c] k2 pt2) pos) (lPar [i, j, l] Tl) := by
  obtain ⟨_, p1, l1⟩ := ha
  exact ⟨_, ps_par3 ck.calm ck.nd hi hj hl hij hil hjl hx hy hz p1 hw hs, lfs_par3 l1 hij hil hjl⟩
theorem sl_nil : Slx X E [] lSlNil := ⟨_, pa_nil, lfsl_nil⟩
theorem sl_v {Tl : LSl} (ha : Ex X E e Ta) (hr : Slx X E es Tl) (hs : starEach (e :: es) X.env = (false, eval e X.env) :: starEach es X.env := by rfl) : Slx X E (e :: es) (lSlV Ta Tl) := by
  obtain ⟨_, p1, l1⟩ := ha
  obtain ⟨_, p2, l2⟩ := hr
  exact ⟨_, pa_cons p1 p2 hs, lfsl_v l1 l2⟩
theorem sl_c {Tl : LSl} {qs : List Expr} {p : Pos} (ha : Ax X E qs Ts) (hr : Slx X E es Tl) (hs : starEach (.List qs p :: es) X.env = (false, eval (.List qs p) X.env) :: starEach es X.env := by rfl) : Slx X E (.List qs p :: es) (lSlC Ts Tl) := by
  obtain ⟨_, p1, l1⟩ := ha
  obtain ⟨_, p2, l2⟩ := hr
  exact ⟨_, pa_cons (pe_lst p1) p2 hs, lfsl_c l1 l2⟩
theorem n_lst (ha : Ax X E es Ts) : Nx X E (.List es pos) (nLst Ts) := by
  obtain ⟨_, p1, l1⟩ := ha
  exact ⟨_, pe_lst p1, lfn_lst l1⟩
end
end L3
set_option linter.all false
set_option maxRecDepth 100000
set_option maxHeartbeats 4000000
/-! L3, part O: defs by their texts, calls of known defs, objects of known classes. -/
namespace L3
open PySem PySem.Spec PyProof.Rows L2
section
variable {P : Program} {w : World} {K : PySem.W.Frag} {mg : Str → Option Value} {base : Heap}
/-! ### a def by its text -/
theorem defG {x qual : Str} {st : Stmt} {f : Addr} {fd : FuncData} {N ps : List Str} {k : Nat} {sp : Sp} (F : Fun K x qual st f fd) (S : FnScope N ps (defScope st)) (len : ∀ vs H Q E, sp vs H Q E → vs.length = ps.length)
    (hbody : ∀ (cdv : Value) (A : Around) (outer : List Env) (s : Shared) (H : Hp) (vs : List V) (Q : VK) (E : XK), A.guards = some [] → Room k (A.deeper (envOfC qual (defScope st) s.heap.objs.size f cdv)) → sp vs H Q E →
      ∃ t, PSs (cxOf (L2.CX P w) P w K mg base N qual (defScope st) f cdv A outer s H E) (defBody st) t ∧ t { nx := fun _ H' => Q .non H', rt := Q } (L2.start N vs) H) : FnG P w K mg base (L2.CX P w) (k + 1) f fd ps sp := by
  obtain ⟨oc, od, kV, doc, pm, an, cdv, ct, osl, rfl, lk, hcd⟩ := F.ex
  exact fnG_of lk hcd S len fun A outer s H vs Q E hg hr hsp => hbody cdv A outer s H vs Q E hg hr hsp
theorem defL {x qual : Str} {st : Stmt} {f : Addr} {fd : FuncData} {N ps : List Str} {k n : Nat} {T : LTS} (F : Fun K x qual st f fd) (S : FnScope N ps (defScope st)) (hp : ps.length = n) (hn : n ≤ N.length)
    (hbody : ∀ (cdv : Value) (A : Around) (outer : List Env) (s : Shared) (H : Hp) (E : XK), A.guards = some [] → Room k (A.deeper (envOfC qual (defScope st) s.heap.objs.size f cdv)) →
      ∃ t, PSs (cxOf (L2.CX P w) P w K mg base N qual (defScope st) f cdv A outer s H E) (defBody st) t ∧ LfS K (fun c d _ H => E c d H) t T) : FnG P w K mg base (L2.CX P w) (k + 1) f fd ps (spL K n (fnW n N.length T)) :=
  defG F S (fun vs H Q E h => h.1.trans hp.symm) fun cdv A outer s H vs Q E hg hr h => by
    obtain ⟨t, p, l⟩ := hbody cdv A outer s H E hg hr
    exact ⟨t, p, body_of l (fun _ _ _ _ q => q) hn h⟩
theorem defC {x qual : Str} {st : Stmt} {f : Addr} {fd : FuncData} {N ps : List Str} {k n : Nat} {T : LTS} (F : Fun K x qual st f fd) (S : FnScope N ps (defScope st)) (hp : ps.length = n) (hn : n ≤ N.length)
    (hbody : ∀ (cdv : Value) (A : Around) (outer : List Env) (s : Shared) (H : Hp) (E : XK), A.guards = some [] → Room k (A.deeper (envOfC qual (defScope st) s.heap.objs.size f cdv)) →
      ∃ t, PSs (cxOf (L2.CX P w) P w K mg base N qual (defScope st) f cdv A outer s H E) (defBody st) t ∧ LfS K (fun c d _ H => E c d H) t T) : FnG P w K mg base (L2.CX P w) (k + 1) f fd ps (spC K n (fnC n N.length T)) :=
  defG F S (fun vs H Q E h => h.1.trans hp.symm) fun cdv A outer s H vs Q E hg hr h => by
    obtain ⟨t, p, l⟩ := hbody cdv A outer s H E hg hr
    exact ⟨t, p, body_ofC l (fun _ _ _ _ q => q) hn h⟩
/-! ### known defs -/
/-- the module's name x is a def that keeps sp (ps: its parameters) -/
structure DefAt (P : Program) (w : World) (K : PySem.W.Frag) (mg : Str → Option Value) (base : Heap) (k : Nat) (x : Str) (ps : List Str) (sp : Sp) : Prop where
  ex : ∃ f fd, mg x = some (.ref f) ∧ PySem.W.keepIn K (.ref f) = true ∧ FnG P w K mg base (L2.CX P w) k f fd ps sp ∧ Binds K fd ps []
theorem fnW_len {n m : Nat} {T : LTS} : ∀ as Q R, fnW n m T as Q R → as.length = n := fun _ _ _ h => h.1
theorem fnC_len {n m : Nat} {T : LTS} : ∀ as Q R, fnC n m T as Q R → as.length = n := fun _ _ _ h => h.1
end
section
variable {X : Cx} {W : WX} {k j : Nat} {x : Str} {ps : List Str} {sp : Sp} {p pos : Pos} {e : Expr} {es : List Expr} {t : TA}
theorem pe_d (D : DefAt X.prog X.w X.K X.mg X.base j x ps sp) (hg : X.A.guards = some []) (hr : Room k X.A) (tk : Takes X W) (ha : PA X (e :: es) t) (hj : j ≤ k := by decide) (hgl : Gl X x := by rfl)
    (hdb : (x == ("__debug__" : Str)) = false := by decide) (he : starEach (e :: es) X.env = (false, eval e X.env) :: starEach es X.env := by rfl) (hpl : (backTo pos (starEach es X.env)).any (·.1) = false := by rfl) :
    PE X (.Call (.Name x p) (e :: es) [] pos) (tCallSD sp [] (WE W) t) := by
  obtain ⟨f, fd, hm, hk, F, hb⟩ := D.ex
  exact pe_callR (Runs.gd F hg (hr.mono hj)) hgl hm hk hb .nil (fun σ => passAt tk σ) ha hdb he hpl
theorem pe_d0 (D : DefAt X.prog X.w X.K X.mg X.base j x ps sp) (hg : X.A.guards = some []) (hr : Room k X.A) (tk : Takes X W) (hj : j ≤ k := by decide) (hgl : Gl X x := by rfl)
    (hdb : (x == ("__debug__" : Str)) = false := by decide) : PE X (.Call (.Name x p) [] [] pos) (tCallSD sp [] (WE W) tNil) := by
  obtain ⟨f, fd, hm, hk, F, hb⟩ := D.ex
  exact pe_callR0 (Runs.gd F hg (hr.mono hj)) hgl hm hk hb .nil (fun σ => passAt tk σ) hdb
/-! keywords alone -/
def tCallKn (sp : Sp) (m : Nat) (gV : List V → List V) (E : L2.St → XK) (tk : TA) : TE := fun σ H Q => tk σ H fun zs H1 => zs.length = m ∧ sp (gV zs) H1 Q (E σ)
/-- .. and how they bind -/
structure DefKw (P : Program) (w : World) (K : PySem.W.Frag) (mg : Str → Option Value) (base : Heap) (k : Nat) (x : Str) (ps : List Str) (sp : Sp) (ks : List Str) (g : {α : Type} → List α → List α) : Prop where
  ex : ∃ f fd, mg x = some (.ref f) ∧ PySem.W.keepIn K (.ref f) = true ∧ FnG P w K mg base (L2.CX P w) k f fd ps sp ∧ (∀ (s : Shared) (ws : List Value), K.In s.heap → ws.length = ks.length → BindsTo s fd ⟨[], ks.zip ws⟩ (ps.zip (g ws)))
theorem pe_dk {ks : List Str} {g : {α : Type} → List α → List α} {kws : List Keyword} {tk' : TA} (D : DefKw X.prog X.w X.K X.mg X.base j x ps sp ks g) (hgr : ∀ {vs : List V} {us : List Value}, Vals vs us → Vals (g vs) (g us)) (hg : X.A.guards = some []) (hr : Room k X.A) (tk : Takes X W) (hkw : PK X kws tk') (hj : j ≤ k := by decide)
    (hgl : Gl X x := by rfl) (hall : (backToKw pos (keywordEach kws X.env)).all (·.1.isSome) = true := by rfl) (hks : (backToKw pos (keywordEach kws X.env)).filterMap (·.1) = ks := by rfl) (hdb : (x == ("__debug__" : Str)) = false := by decide)
    (hpl : ((backTo pos (starEach [] X.env)).any (·.1) || (backToKw pos (keywordEach kws X.env)).any (·.1.isNone)) = false := by rfl) :
    PE X (.Call (.Name x p) [] kws pos) (tCallKn sp ks.length g (WE W) tk') := by
  obtain ⟨f, fd, hm, hk, F, hb⟩ := D.ex
  refine ⟨fun pins s σ H Q I h => ?_⟩
  refine wpAny_Call_Name_kw (ld_glob I hgl hm ?_ hdb)
  refine PySem.W.callWith_KW0 (h₀ := X.base) I.ok.mod.kin hk hall ?_ hpl
  refine thn (hkw.run pos pins s σ H _ I h) fun ws s2 ⟨zs, H2, I2, rz, l2, q2⟩ => ⟨I2.kIn, ?_⟩
  rw [hks]
  exact (Runs.gd F hg (hr.mono hj)).at (us := []) (us2 := g ws) (passAt tk σ) I2 (fun _ => hb s2 ws I2.kIn (rz.length.symm.trans l2)) (hgr rz) q2
end
section
variable {K : PySem.W.Frag} {g : Gd} {E : WX} {F H : Hp} {σ : L2.St} {S : SS}
@[simp] def lCallK (f : LFn) (m : Nat) (gD : List D → List D) (Ts : LTs) : LT := fun S Q R => Ts S (fun ds S1 => ds.length = m ∧ callWP f [] (gD ds) S1 Q R) R
theorem lf_callK {n m : Nat} {f : LFn} {gp : {α : Type} → List α → List α} {ta : TA} {Ta : LTs} (hg : ∀ {F : Hp} {σ : L2.St} {S : SS} {vs : List V} {ds : List D}, Paired (RepW K F σ S) vs ds → Paired (RepW K F σ S) (gp vs) (gp ds)) (ha : LfA K E ta Ta) (hn : ∀ as Q R, f as Q R → as.length = n) :
    Lf K E (tCallKn (spL K n f) m gp (WE E) ta) (lCallK f m gp Ta) := by
  intro g σ H F S Q R Q' rs h hq hx
  refine ha g σ H F S _ R _ rs h (fun ds S1 vs H1 F1 h1 c1 e1 r1 w1 => ?_) hx
  refine ⟨(Paired.length w1).trans h1.1, ?_⟩
  have := sp_of (dvs := []) (dd := []) (vs := gp vs) (fun _ => .nil) hn r1 (hg w1) h1.2 (hq.step c1 e1) fun c fs S' dx H' F' q c3 e3 r x => hx c fs S' dx H' F' q (c1.trans c3) (e1.trans e3) r x
  rw [List.append_nil] at this
  exact this
end
/-! ### known classes -/
section
/-- the module's name x is the class at C that is made by an __init__ that keeps sp -/
structure MakeAt (P : Program) (w : World) (K : PySem.W.Frag) (mg : Str → Option Value) (base : Heap) (k : Nat) (x : Str) (C : Addr) (ps : List Str) (sp : Sp) : Prop where
  ex : ∃ f fd, mg x = some (.ref C) ∧ Mk K C f ∧ FnG P w K mg base (L2.CX P w) k f fd ps sp ∧ Binds K fd ps []
/-- the property m of the class at C keeps sp -/
structure PropAt (P : Program) (w : World) (K : PySem.W.Frag) (mg : Str → Option Value) (base : Heap) (k : Nat) (C : Addr) (m : Str) (sp : Sp) : Prop where
  ex : ∃ g pp fd ps, Cls K C ∧ PropOf K C m pp g ∧ FnG P w K mg base (L2.CX P w) k g fd ps sp ∧ Binds K fd ps []
variable {X : Cx} {W : WX} {k j : Nat} {x m : Str} {C : Addr} {ps : List Str} {sp : Sp} {p pos : Pos} {e : Expr} {es : List Expr} {t : TA} {ta : TE}
theorem pe_mk (D : MakeAt X.prog X.w X.K X.mg X.base j x C ps sp) (hg : X.A.guards = some []) (hr : Room k X.A) (tk : Takes X W) (ha : PA X (e :: es) t) (hj : j + 1 ≤ k := by decide) (hgl : Gl X x := by rfl)
    (hdb : (x == ("__debug__" : Str)) = false := by decide) (he : starEach (e :: es) X.env = (false, eval e X.env) :: starEach es X.env := by rfl) (hpl : (backTo pos (starEach es X.env)).any (·.1) = false := by rfl) :
    PE X (.Call (.Name x p) (e :: es) [] pos) (tMakeS C sp [] (WE W) t) := by
  obtain ⟨f, fd, hm, M, F, hb⟩ := D.ex
  exact pe_makeG M F hg (hr.mono hj) hgl hm hb .nil (fun σ => passAt tk σ) ha hdb he hpl
theorem pe_pr (D : PropAt X.prog X.w X.K X.mg X.base j C m sp) (hg : X.A.guards = some []) (hr : Room k X.A) (ha : PE X e ta) (hj : j + 1 ≤ k := by decide)
    (hab : attributeBase e m X.env (eval e X.env) = eval e X.env := by rfl) : PE X (.Attribute e m pos) (tProp C sp [] (fun _ _ _ => False) ta) := by
  obtain ⟨g, pp, fd, ps, c, hp, F, hb⟩ := D.ex
  exact pe_propG ha c hp F hg (hr.mono hj) hb .nil passL hab
end
end L3
set_option linter.all false
set_option maxRecDepth 100000
set_option maxHeartbeats 4000000
/-! L3, part P: small rules that the printed texts use. -/
namespace L3
open PySem PySem.Spec PyProof.Rows L2
section
variable {X : Cx} {pos : Pos} {k : Nat}
theorem pe_gint {x : Str} {i : Int} (hm : ∃ t, X.mg x = some (.int i t)) (hg : Gl X x := by rfl) (hd : (x == ("__debug__" : Str)) = false := by decide) : PE X (.Name x pos) (tC (.int i)) := by
  obtain ⟨t, hm⟩ := hm
  exact pe_glob (v := .int i) hg hm ⟨t, rfl⟩ hd
theorem pe_gstr {x z : Str} (hm : ∃ t, X.mg x = some (.str z t)) (hg : Gl X x := by rfl) (hd : (x == ("__debug__" : Str)) = false := by decide) : PE X (.Name x pos) (tC (.str z)) := by
  obtain ⟨t, hm⟩ := hm
  exact pe_glob (v := .str z) hg hm ⟨t, rfl⟩ hd
theorem un66 {A : Around} (r : Room k A) : A.units + 66 < cLine := by have := r.un; omega
theorem un65 {A : Around} (r : Room k A) : A.units + 65 < cLine := by have := r.un; omega
theorem un64 {A : Around} (r : Room k A) : A.units + 64 < cLine := by have := r.un; omega
theorem tkB {X : Cx} : Takes X E0w := takes0
section
variable {P : Program} {w : World} {K : PySem.W.Frag} {mg : Str → Option Value} {base : Heap} {N : List Str} {qual : Str} {scope : Scope} {f : Addr} {cd : Value} {A : Around} {outer : List Env} {s : Shared} {H : Hp} {E : XK}
theorem tkD : Takes (cxOf (L2.CX P w) P w K mg base N qual scope f cd A outer s H E) (fun c d _ H => E c d H) := takes_of rfl rfl rfl rfl
theorem ownD : PassesOwn (model P w) (cxOf (L2.CX P w) P w K mg base N qual scope f cd A outer s H E).A (cxOf (L2.CX P w) P w K mg base N qual scope f cd A outer s H E).env (cxOf (L2.CX P w) P w K mg base N qual scope f cd A outer s H E).xe := passes_of (X := cxOf (L2.CX P w) P w K mg base N qual scope f cd A outer s H E) rfl
end
end
/-! ### the same rules with K named (inside a comprehension the context varies, the reading must not) -/
section
variable {X : Cx} {K : PySem.W.Frag} {k : Nat} {a b e o : Expr} {es : List Expr} {pos : Pos} {ta tb te to : TE} {t : TA}
theorem op_addK (hK : X.K = K) : OpR X (binaryOp .Add) (rAddA K) := by subst hK; exact op_addA
theorem op_eqK (hK : X.K = K) (hu : X.A.units + 64 < cLine) : OpR X (compareOp .Eq) (rEqA K) := by subst hK; exact op_eqA hu
theorem op_neK (hK : X.K = K) (hu : X.A.units + 64 < cLine) : OpR X (compareOp .NotEq) (rNeA K) := by subst hK; exact op_neA hu
theorem op_inK (hK : X.K = K) (hu : X.A.units + 65 < cLine) : OpR X (compareOp .In) (rInA K) := by subst hK; exact op_inA hu
theorem op_notInK (hK : X.K = K) (hu : X.A.units + 65 < cLine) : OpR X (compareOp .NotIn) (rNotInA K) := by subst hK; exact op_notInA hu
theorem ix_seqK (hK : X.K = K) : IxR X (rIx K) := by subst hK; exact ix_seq
theorem sl_DK (hK : X.K = K) : SlR X (rSlD K) := by subst hK; exact sl_D
theorem call_lenK (hK : X.K = K) : CallR X (.builtin "len") (rLenA K) := by subst hK; exact call_lenA
theorem call_isiKK (hK : X.K = K) : CallR X (.builtin "isinstance") (rIsi K) := by subst hK; exact call_isi
theorem call_reprK (hK : X.K = K) (hg : X.A.guards = some []) (hu : X.A.units + 66 < cLine) : CallR X (.builtin "repr") (rReprD K) := by subst hK; exact call_reprD hg hu
theorem cr_allK (hK : X.K = K) (hc : X.calm = true) : CallR X (.builtin "all") (rAll K) := by subst hK; exact cr_all hc
theorem cr_anyK (hK : X.K = K) (hc : X.calm = true) : CallR X (.builtin "any") (rAny K) := by subst hK; exact cr_any hc
theorem call_tupleK (hK : X.K = K) : CallR X (.type "tuple") (fun xs H Q => ∃ p ys, xs = [.ref p] ∧ ((SqL K H p ys ∧ ∀ l, H l = none → Q (.ref l) (upd H l (.tup ys))) ∨ (SqT K H p ys ∧ Q (.ref p) H))) := by subst hK; exact call_tuple_of
theorem call_listK (hK : X.K = K) : CallR X (.type "list") (fun xs H Q => ∃ p ys, xs = [.ref p] ∧ (SqL K H p ys ∨ SqT K H p ys) ∧ ∀ l, H l = none → Q (.ref l) (upd H l (.lst ys))) := by subst hK; exact call_list_of
theorem pe_fldK {f : Str} (hK : X.K = K) (he : PE X e ta) (hb : attributeBase e f X.env (eval e X.env) = eval e X.env) : PE X (.Attribute e f pos) (tFld K ta f) := by subst hK; exact pe_fld he hb
theorem pe_andK {rest : List Expr} (hK : X.K = K) (ha : PE X a ta) (hb : PE X (.BoolOp .And (b :: rest) pos) tb) : PE X (.BoolOp .And (a :: b :: rest) pos) (tAndT K ta tb) := by subst hK; exact pe_andT ha hb
theorem pe_orK {rest : List Expr} (hK : X.K = K) (ha : PE X a ta) (hb : PE X (.BoolOp .Or (b :: rest) pos) tb) : PE X (.BoolOp .Or (a :: b :: rest) pos) (tOrT K ta tb) := by subst hK; exact pe_orT ha hb
theorem pe_notK (hK : X.K = K) (ha : PE X a ta) : PE X (.UnaryOp .Not a pos) (tNotT K ta) := by subst hK; exact pe_notT ha
theorem pt_truK (hK : X.K = K) (ha : PE X a ta) (he : ∀ whole, isTrue a X.env whole = (do let v ← whole; standAt a.pos; holding [v] (truthy v))) : PT X a (fun σ H Q => ta σ H fun x H' => ∃ k, TruV K x H' k ∧ Q k H') := by subst hK; exact pt_truth ha he
theorem pg_tupK {kk : Nat} {u : TGs} {n : Nat} (hK : X.K = K) (hc : X.calm = true) (h : PGs X es u) (hn : (assignEach es X.env).length = n := by rfl) (hst : (assignEach es X.env).findIdx? (·.1) = none := by rfl) : PG X (.Tuple es kk pos) (gTup K n u) := by subst hK; exact pg_tup hc h hn hst
theorem pi_seqK {tg l : Expr} {tl : TE} (hK : X.K = K) (hl : PE X l tl) : PI X tg l (iSeqU K tl) := by subst hK; exact pi_seqU hl
theorem pe_indexK {apos : Pos} (hK : X.K = K) (hu : X.A.units + 65 < cLine) (ho : PE X o to) (ha : PE X e te) (hbase : attributeBase o "index" X.env (eval o X.env) = eval o X.env := by rfl)
    (hfew : ((backTo pos (starEach (e :: []) X.env)).all (fun x => !x.1) && (backToKw pos (keywordEach [] X.env)).all (fun x => x.1.isSome)
      && decide ((e :: []).length + ([] : List Keyword).length + (if ([] : List Keyword).isEmpty then 0 else 1) < 30)) = true := by rfl)
    (hline : (apos.endLine == pos.line) = true := by rfl) (hs : starEach (e :: []) X.env = (false, eval e X.env) :: starEach [] X.env := by rfl) : PE X (.Call (.Attribute o "index" apos) [e] [] pos) (tBM K "list" (rIndexD K) to (tCons te tNil)) := by
  subst hK
  exact pe_bm PySem.F.plainAttrs_list PySem.F.slot_list_index PySem.F.type_list_index (mt_indexD hu) ho (pa_cons ha pa_nil hs) hbase hfew hline hs rfl
theorem pg_subS {lo up : Option Expr} {p2 : Pos} {ti : TE} {u : TSet} (ho : PE X o to) (hi : PE X (.Slice lo up none p2) ti) (hs : PSet X u)
    (ha : ∀ v, assign (.Subscript o (.Slice lo up none p2) pos) X.env v = (do
      let ov ← holding [v] (eval o X.env)
      let iv ← holding [v, ov] (eval (.Slice lo up none p2) X.env)
      standAt pos
      holding [v, ov, iv] (setItem ov iv v)
      release [iv, v, ov] []) := by intro _; rfl) : PG X (.Subscript o (.Slice lo up none p2) pos) (gSub to ti u) := by
  refine ⟨fun pins s σ H v z Q I r h => ?_⟩
  rw [ha]
  refine wpAny_bind (wpAny_holding (thn (ho.run pins s σ H _ I h) fun ov s1 ⟨x, H1, I1, r1, q1⟩ => ?_))
  refine wpAny_bind (wpAny_holding (thn (hi.run pins s1 σ H1 _ I1 q1) fun iv s2 ⟨y, H2, I2, r2, q2⟩ => ?_))
  refine wpAny_bind (wpAny_standAt (wpAny_bind (wpAny_holding (thn (hs pins s2 σ H2 x y v ov iv z _ I2 r1 r2 r q2) fun _ s3 ⟨H3, I3, q3⟩ => ?_))))
  exact wpAny_release ⟨σ, H3, I3, q3⟩
end
end L3
set_option linter.all false
set_option maxRecDepth 100000
set_option maxHeartbeats 4000000
/-! L3, part Q: how readings are worked out: the simp set, loops by invariants. -/
namespace L3
open PySem L2
/-- a loop by an invariant -/
theorem for_inv {ds : List D} {b : D → SS → En → Prop} {Z : En} {S : SS} (I : Nat → SS → Prop) (h0 : I 0 S) (hd : ∀ S', I ds.length S' → Z.nx S')
    (hs : ∀ (i : Nat) (d : D) (S' : SS) (N : SS → Prop), ds[i]? = some d → I i S' → (∀ S2, I (i + 1) S2 → N S2) → b d S' { Z with nx := N, ct := N, bk := Z.nx }) : forWP ds b Z S := by
  have go : ∀ (n i : Nat) (S' : SS), n = ds.length - i → i ≤ ds.length → I i S' → forWP (ds.drop i) b Z S' := by
    intro n
    induction n with
    | zero =>
      intro i S' hn hi h
      have e : i = ds.length := by omega
      subst e
      rw [List.drop_length]
      exact hd S' h
    | succ n ih =>
      intro i S' hn hi h
      have hlt : i < ds.length := by omega
      rw [List.drop_eq_getElem_cons hlt]
      exact hs i ds[i] S' _ (List.getElem?_eq_getElem hlt) h fun S2 h2 => ih (i + 1) S2 (by omega) (by omega) h2
  have := go ds.length 0 S (by simp) (Nat.zero_le _) h0
  rwa [List.drop_zero] at this
/-- a comprehension without a filter, by an invariant of its list so far -/
theorem comp_inv {ds : List D} {b : D → SS → (Option D → SS → Prop) → Prop} {Q : D → SS → Prop} {S : SS} (I : Nat → List D → SS → Prop) (h0 : I 0 [] S) (hd : ∀ acc S', I ds.length acc S' → Q (.lst acc) S')
    (hs : ∀ (i : Nat) (d : D) (acc : List D) (S' : SS) (k : Option D → SS → Prop), ds[i]? = some d → I i acc S' → (∀ y S2, isCel y = false → acc.length < sizeLine → I (i + 1) (acc ++ [y]) S2 → k (some y) S2) → (∀ S2, I (i + 1) acc S2 → k none S2) → b d S' k) : compWP ds b [] S Q := by
  have go : ∀ (n i : Nat) (acc : List D) (S' : SS), n = ds.length - i → i ≤ ds.length → I i acc S' → compWP (ds.drop i) b acc S' Q := by
    intro n
    induction n with
    | zero =>
      intro i acc S' hn hi h
      have e : i = ds.length := by omega
      subst e
      rw [List.drop_length]
      exact hd acc S' h
    | succ n ih =>
      intro i acc S' hn hi h
      have hlt : i < ds.length := by omega
      rw [List.drop_eq_getElem_cons hlt]
      exact hs i ds[i] acc S' _ (List.getElem?_eq_getElem hlt) h (fun y S2 hy hz h2 => ⟨hy, hz, ih (i + 1) _ S2 (by omega) (by omega) h2⟩) fun S2 h2 => ih (i + 1) _ S2 (by omega) (by omega) h2
  have := go ds.length 0 [] S (by simp) (Nat.zero_le _) h0
  rwa [List.drop_zero] at this
theorem cdivp_small {i j : Int} (h : 0 < j) (hl : j < 2 ^ 64) : CDivP i j := by
  refine ⟨h, ?_⟩
  show (decide ((if j == 0 then 0 else j.natAbs.log2 / 30 + 1) > 300) && _) = false
  have h1 : j.natAbs.log2 < 64 := PySem.Flt.log2_lt_of (by omega) (by omega)
  rw [if_neg (show ¬ (j == 0) = true by simpa using (show j ≠ 0 by omega))]
  rw [decide_eq_false (by omega), Bool.false_and]
theorem cdivw_small {i j : Int} (h : 0 < j) (hl : j < 2 ^ 64) : CDivW i j := by
  refine ⟨h, ?_⟩
  have h1 : j.natAbs.log2 < 64 := PySem.Flt.log2_lt_of (by omega) (by omega)
  omega
theorem mul_left {i j : Int} (h : -(2 ^ 64) < i ∧ i < 2 ^ 64) : IntMulOk i j := CMul.ok (.inl h)
theorem mul_right {i j : Int} (h : -(2 ^ 64) < j ∧ j < 2 ^ 64) : IntMulOk i j := CMul.ok (.inr h)
/-! ### stepping: what follows stays folded -/
theorem seq_i {T U : LTS} {Z : En} {S : SS} (h : ∀ N : SS → Prop, (∀ S', U Z S' → N S') → T { Z with nx := N } S) : lSeq T U Z S := h _ fun _ q => q
theorem for_i {Ti : LTI} {G : LG} {T : LTS} {Z : En} {S : SS} (h : ∀ P : List D → SS → Prop, (∀ ds S1, forWP ds (fun d S' Z' => G d S' (T Z') Z'.xr) Z S1 → P ds S1) → Ti S P Z.xr) : lFor Ti G T Z S := h _ fun _ _ q => q
theorem lc_i {Ti : LTI} {G : LG} {Tt : LTT} {Te : LT} {vs : List Nat} {S : SS} {Q : D → SS → Prop} {R : XR}
    (h : ∀ P : List D → SS → Prop, (∀ ds S1, bare S1 vs = true → compWP ds (fun d S' k => G d S' (fun S2 => Tt S2 (fun b S3 => if b = true then Te S3 (fun y S4 => k (some y) (wipeL S4 vs)) RF else k none (wipeL S3 vs)) RF) RF) [] (wipeL S1 vs) (fun d S2 => Q d (backL S1 S2 vs)) → P ds S1) → Ti S P R) : lLc Ti G Tt Te vs S Q R :=
  h _ fun _ _ hb hc => ⟨hb, hc⟩
@[simp] theorem look_non {S : SS}  : look S .non = .non := rfl
@[simp] theorem isCel_non  : isCel .non = false := rfl
@[simp] theorem retOk_non {S : SS}  : retOk S .non = True := rfl
@[simp] theorem look_bl {S : SS} {b : Bool} : look S (.bl b) = (.bl b) := rfl
@[simp] theorem isCel_bl {b : Bool} : isCel (.bl b) = false := rfl
@[simp] theorem retOk_bl {S : SS} {b : Bool} : retOk S (.bl b) = True := rfl
@[simp] theorem look_int {S : SS} {i : Int} : look S (.int i) = (.int i) := rfl
@[simp] theorem isCel_int {i : Int} : isCel (.int i) = false := rfl
@[simp] theorem retOk_int {S : SS} {i : Int} : retOk S (.int i) = True := rfl
@[simp] theorem look_str {S : SS} {x : Str} : look S (.str x) = (.str x) := rfl
@[simp] theorem isCel_str {x : Str} : isCel (.str x) = false := rfl
@[simp] theorem retOk_str {S : SS} {x : Str} : retOk S (.str x) = True := rfl
@[simp] theorem look_tup {S : SS} {xs : List D} : look S (.tup xs) = (.tup xs) := rfl
@[simp] theorem isCel_tup {xs : List D} : isCel (.tup xs) = false := rfl
@[simp] theorem retOk_tup {S : SS} {xs : List D} : retOk S (.tup xs) = True := rfl
@[simp] theorem look_lst {S : SS} {xs : List D} : look S (.lst xs) = (.lst xs) := rfl
@[simp] theorem isCel_lst {xs : List D} : isCel (.lst xs) = false := rfl
@[simp] theorem retOk_lst {S : SS} {xs : List D} : retOk S (.lst xs) = True := rfl
@[simp] theorem look_lsf {S : SS} {xs : List D} : look S (.lsf xs) = (.lsf xs) := rfl
@[simp] theorem isCel_lsf {xs : List D} : isCel (.lsf xs) = false := rfl
@[simp] theorem retOk_lsf {S : SS} {xs : List D} : retOk S (.lsf xs) = True := rfl
@[simp] theorem look_edc {S : SS}  : look S .edc = .edc := rfl
@[simp] theorem isCel_edc  : isCel .edc = false := rfl
@[simp] theorem retOk_edc {S : SS}  : retOk S .edc = True := rfl
@[simp] theorem look_ins {S : SS} {C : Addr} {ns : List Str} {fs : List D} : look S (.ins C ns fs) = (.ins C ns fs) := rfl
@[simp] theorem isCel_ins {C : Addr} {ns : List Str} {fs : List D} : isCel (.ins C ns fs) = false := rfl
@[simp] theorem retOk_ins {S : SS} {C : Addr} {ns : List Str} {fs : List D} : retOk S (.ins C ns fs) = True := rfl
@[simp] theorem look_fn {S : SS} {a : Addr} : look S (.fn a) = (.fn a) := rfl
@[simp] theorem isCel_fn {a : Addr} : isCel (.fn a) = false := rfl
@[simp] theorem retOk_fn {S : SS} {a : Addr} : retOk S (.fn a) = True := rfl
@[simp] theorem look_ty {S : SS} {n : String} : look S (.ty n) = (.ty n) := rfl
@[simp] theorem look_exc {S : SS} {C a dx : Addr} {ns : List Str} {fs : List D} : look S (.exc C a dx ns fs) = (.exc C a dx ns fs) := rfl
@[simp] theorem look_clo {S : SS} {f : Addr} {G : Hp} : look S (.clo f G) = .clo f G := rfl
@[simp] theorem isCel_clo {f : Addr} {G : Hp} : isCel (.clo f G) = false := rfl
@[simp] theorem retOk_clo {S : SS} {f : Addr} {G : Hp} : retOk S (.clo f G) = True := rfl
@[simp] theorem isCel_ty {n : String} : isCel (.ty n) = false := rfl
@[simp] theorem isCel_exc {C a dx : Addr} {ns : List Str} {fs : List D} : isCel (.exc C a dx ns fs) = false := rfl
@[simp] theorem retOk_ty {S : SS} {n : String} : retOk S (.ty n) = True := rfl
@[simp] theorem retOk_exc {S : SS} {C a dx : Addr} {ns : List Str} {fs : List D} : retOk S (.exc C a dx ns fs) = True := rfl
@[simp] theorem look_c {S : SS} {i : Nat} : look S (.cel i) = (match S[i]? with
  | some (some (.c _ k)) => k.d
  | _ => .cel i) := rfl
@[simp] theorem isCel_c {i : Nat} : isCel (.cel i) = true := rfl
@[simp] theorem retOk_c {S : SS} {i : Nat} : retOk S (.cel i) = ∃ k, S[i]? = some (some (.c true k)) := rfl
@[simp] theorem look_nc {S : SS} {d : D} (h : isCel d = false) : look S d = d := by
  cases d <;> first | rfl | cases h
@[simp] theorem retOk_nc {S : SS} {d : D} (h : isCel d = false) : retOk S d = True := by
  cases d <;> first | rfl | cases h
theorem atI_nat' {α : Type} {xs : List α} {i : Nat} (h : i < xs.length) : atI xs (i : Int) = some xs[i] := atI_nat (List.getElem?_eq_getElem h)
/-! ### slices -/
theorem cut_to {α : Type} (xs : List α) (k : Nat) : cutD xs none (some (k : Int)) = xs.take k := by
  unfold cutD
  rw [HT.sIx_none, HT.sIx_nat, List.drop_zero, Nat.sub_zero]
  by_cases h : k ≤ xs.length
  · rw [Nat.min_eq_left h]
  · rw [Nat.min_eq_right (by omega), List.take_of_length_le (Nat.le_refl _), List.take_of_length_le (by omega)]
theorem cut_from {α : Type} (xs : List α) (k : Nat) : cutD xs (some (k : Int)) none = xs.drop k := by
  unfold cutD
  rw [HT.sIx_none, HT.sIx_nat]
  by_cases h : k ≤ xs.length
  · rw [Nat.min_eq_left h, List.take_of_length_le (by rw [List.length_drop]; omega)]
  · rw [Nat.min_eq_right (by omega), List.drop_eq_nil_of_le (Nat.le_refl _), List.drop_eq_nil_of_le (by omega)]
    simp
/-- a list of whole numbers -/
theorem ints_at {cs : List Int} {own : Int} {i : Nat} {d : D} (h : (cs.map D.int ++ [D.int own])[i]? = some d) : ∃ z, d = .int z := by
  have := List.mem_of_getElem? h
  rcases List.mem_append.mp this with h | h
  · obtain ⟨z, _, rfl⟩ := List.mem_map.mp h
    exact ⟨z, rfl⟩
  · exact ⟨own, by simpa using h⟩
theorem sz {n : Nat} (h : n ≤ 100000) : n ≤ sizeLine := Nat.le_trans h (by decide)
theorem szl {n : Nat} (h : n ≤ 100000) : n < sizeLine := Nat.lt_of_le_of_lt h (by decide)
@[simp] theorem toArg_c {S : SS} {i : Nat} : toArg S (.cel i) = (match S[i]? with
  | some (some (.c _ k)) => .c false k
  | _ => .v (.cel i)) := rfl
@[simp] theorem toArg_nc {S : SS} {d : D} (h : isCel d = false) : toArg S d = .v d := by
  cases d <;> first | rfl | cases h
@[simp] theorem celIx_0 : celIx [] = [] := rfl
@[simp] theorem celIx_c {i : Nat} {ds : List D} : celIx (.cel i :: ds) = i :: celIx ds := rfl
@[simp] theorem celIx_nc {d : D} {ds : List D} (h : isCel d = false) : celIx (d :: ds) = celIx ds := by
  cases d <;> first | rfl | cases h
@[simp] theorem frozenD_0 : frozenD [] = true := rfl
@[simp] theorem frozenD_c {i : Nat} {ds : List D} : frozenD (.cel i :: ds) = false := rfl
@[simp] theorem frozenD_nc {d : D} {ds : List D} (h : isCel d = false) : frozenD (d :: ds) = frozenD ds := by
  cases d <;> first | rfl | cases h
@[simp] theorem toArg_non {S : SS}  : toArg S .non = .v .non := rfl
@[simp] theorem celIx_non  {ds : List D} : celIx (.non :: ds) = celIx ds := rfl
@[simp] theorem frozenD_non  {ds : List D} : frozenD (.non :: ds) = frozenD ds := rfl
@[simp] theorem toArg_bl {S : SS} {b : Bool} : toArg S (.bl b) = .v (.bl b) := rfl
@[simp] theorem celIx_bl {b : Bool} {ds : List D} : celIx ((.bl b) :: ds) = celIx ds := rfl
@[simp] theorem frozenD_bl {b : Bool} {ds : List D} : frozenD ((.bl b) :: ds) = frozenD ds := rfl
@[simp] theorem toArg_int {S : SS} {i : Int} : toArg S (.int i) = .v (.int i) := rfl
@[simp] theorem celIx_int {i : Int} {ds : List D} : celIx ((.int i) :: ds) = celIx ds := rfl
@[simp] theorem frozenD_int {i : Int} {ds : List D} : frozenD ((.int i) :: ds) = frozenD ds := rfl
@[simp] theorem toArg_str {S : SS} {x : Str} : toArg S (.str x) = .v (.str x) := rfl
@[simp] theorem celIx_str {x : Str} {ds : List D} : celIx ((.str x) :: ds) = celIx ds := rfl
@[simp] theorem frozenD_str {x : Str} {ds : List D} : frozenD ((.str x) :: ds) = frozenD ds := rfl
@[simp] theorem toArg_tup {S : SS} {xs : List D} : toArg S (.tup xs) = .v (.tup xs) := rfl
@[simp] theorem celIx_tup {xs : List D} {ds : List D} : celIx ((.tup xs) :: ds) = celIx ds := rfl
@[simp] theorem frozenD_tup {xs : List D} {ds : List D} : frozenD ((.tup xs) :: ds) = frozenD ds := rfl
@[simp] theorem toArg_lst {S : SS} {xs : List D} : toArg S (.lst xs) = .v (.lst xs) := rfl
@[simp] theorem celIx_lst {xs : List D} {ds : List D} : celIx ((.lst xs) :: ds) = celIx ds := rfl
@[simp] theorem frozenD_lst {xs : List D} {ds : List D} : frozenD ((.lst xs) :: ds) = frozenD ds := rfl
@[simp] theorem toArg_lsf {S : SS} {xs : List D} : toArg S (.lsf xs) = .v (.lsf xs) := rfl
@[simp] theorem celIx_lsf {xs : List D} {ds : List D} : celIx ((.lsf xs) :: ds) = celIx ds := rfl
@[simp] theorem frozenD_lsf {xs : List D} {ds : List D} : frozenD ((.lsf xs) :: ds) = frozenD ds := rfl
@[simp] theorem toArg_edc {S : SS}  : toArg S .edc = .v .edc := rfl
@[simp] theorem celIx_edc  {ds : List D} : celIx (.edc :: ds) = celIx ds := rfl
@[simp] theorem frozenD_edc  {ds : List D} : frozenD (.edc :: ds) = frozenD ds := rfl
@[simp] theorem toArg_ins {S : SS} {C : Addr} {ns : List Str} {fs : List D} : toArg S (.ins C ns fs) = .v (.ins C ns fs) := rfl
@[simp] theorem celIx_ins {C : Addr} {ns : List Str} {fs : List D} {ds : List D} : celIx ((.ins C ns fs) :: ds) = celIx ds := rfl
@[simp] theorem frozenD_ins {C : Addr} {ns : List Str} {fs : List D} {ds : List D} : frozenD ((.ins C ns fs) :: ds) = frozenD ds := rfl
@[simp] theorem toArg_fn {S : SS} {a : Addr} : toArg S (.fn a) = .v (.fn a) := rfl
@[simp] theorem celIx_fn {a : Addr} {ds : List D} : celIx ((.fn a) :: ds) = celIx ds := rfl
@[simp] theorem frozenD_fn {a : Addr} {ds : List D} : frozenD ((.fn a) :: ds) = frozenD ds := rfl
@[simp] theorem toArg_ty {S : SS} {n : String} : toArg S (.ty n) = .v (.ty n) := rfl
@[simp] theorem toArg_exc {S : SS} {C a dx : Addr} {ns : List Str} {fs : List D} : toArg S (.exc C a dx ns fs) = .v (.exc C a dx ns fs) := rfl
@[simp] theorem celIx_ty {n : String} {ds : List D} : celIx ((.ty n) :: ds) = celIx ds := rfl
@[simp] theorem celIx_exc {C a dx : Addr} {ns : List Str} {fs : List D} {ds : List D} : celIx ((.exc C a dx ns fs) :: ds) = celIx ds := rfl
@[simp] theorem frozenD_ty {n : String} {ds : List D} : frozenD ((.ty n) :: ds) = frozenD ds := rfl
@[simp] theorem frozenD_exc {C a dx : Addr} {ns : List Str} {fs : List D} {ds : List D} : frozenD ((.exc C a dx ns fs) :: ds) = frozenD ds := rfl
end L3
set_option linter.all false
set_option maxRecDepth 100000
set_option maxHeartbeats 4000000
/-! L3, part R: tuple(range(..)), list(range(..)). -/
namespace L3
open PySem PySem.Spec PyProof.Rows L2
variable {K : PySem.W.Frag} {g : Gd} {E : WX} {F H : Hp} {σ : L2.St} {S : SS}
def rgD (a b : Int) : List D := rangeD a (b - a).toNat
theorem rg_rep (a b : Int) : RepL K F (rgV a b) (rgD a b) := by
  unfold rgV rgD rangeD
  generalize List.range _ = l
  induction l with
  | nil => exact .nil
  | cons i l ih => exact .cons (.int _) ih
@[simp] def lTupRg1 (T : LT) : LT := fun S Q R => T S (fun d S1 => match look S1 d with
  | .int n => RgOk 0 n ∧ Q (.tup (rgD 0 n)) S1
  | _ => False) R
theorem lf_tupRg1 {t : TE} {T : LT} (h : Lf K E t T) : Lf K E (tTupRg (tRg1 t)) (lTupRg1 T) := by
  intro g σ H F S Q R Q' rs q hq hx
  refine h g σ H F S _ R _ rs q (fun d S1 v1 H1 F1 h1 c1 e1 r1 w1 => ?_) hx
  have w := w1.look r1
  split at h1
  · rename_i n en
    rw [en] at w
    refine ⟨n, w.intI, h1.1, ?_⟩
    have oq : OQ K g F1 σ S1 (fun d => Q d S1) Q' := fun d v H' F' p e r rep => hq d S1 v H' F' p c1 (e1.trans e) r (.inl rep)
    exact oq.tup r1 h1.2 (rg_rep 0 n)
  · exact h1.elim
@[simp] def lLstRg1 (T : LT) : LT := fun S Q R => T S (fun d S1 => match look S1 d with
  | .int n => RgOk 0 n ∧ Q (.lst (rgD 0 n)) S1
  | _ => False) R
theorem lf_lstRg1 {t : TE} {T : LT} (h : Lf K E t T) : Lf K E (tLstRg (tRg1 t)) (lLstRg1 T) := by
  intro g σ H F S Q R Q' rs q hq hx
  refine h g σ H F S _ R _ rs q (fun d S1 v1 H1 F1 h1 c1 e1 r1 w1 => ?_) hx
  have w := w1.look r1
  split at h1
  · rename_i n en
    rw [en] at w
    refine ⟨n, w.intI, h1.1, ?_⟩
    have oq : OQ K g F1 σ S1 (fun d => Q d S1) Q' := fun d v H' F' p e r rep => hq d S1 v H' F' p c1 (e1.trans e) r (.inl rep)
    exact oq.lst r1 h1.2 (rg_rep 0 n)
  · exact h1.elim
@[simp] def nLstRg1 (T : LT) : LTN := fun S Q R => T S (fun d S1 => match look S1 d with
  | .int n => RgOk 0 n ∧ Q (.lst (rgD 0 n)) S1
  | _ => False) R
theorem lfn_lstRg1 {t : TE} {T : LT} (h : Lf K E t T) : LfN K E (tLstRg (tRg1 t)) (nLstRg1 T) := by
  intro g σ H F S Q R Q' rs q hq hx
  refine h g σ H F S _ R _ rs q (fun d S1 v1 H1 F1 h1 c1 e1 r1 w1 => ?_) hx
  have w := w1.look r1
  split at h1
  · rename_i n en
    rw [en] at w
    refine ⟨n, w.intI, h1.1, fun p hp => ?_⟩
    obtain ⟨rp, hG, hB⟩ := r1.pend (o := .lst (rgV 0 n)) hp
    exact hq _ S1 p _ _ F1 h1.2 c1 e1 rp hG hB ⟨rfl, _, upd_same, rg_rep 0 n⟩
  · exact h1.elim
/-- name op= e, whole numbers -/
@[simp] def lAug (i : Nat) (f : Int → Int → Int) (T : LT) : LTS := fun Z S => match S[i]? with
  | some (some (.v (.int a))) => T S (fun d S1 => match look S1 d with
    | .int b => freeSl S1 i = true ∧ Z.nx (S1.set i (some (.v (.int (f a b)))))
    | _ => False) Z.xr
  | _ => False
theorem lfs_aug {i : Nat} {f : Int → Int → Int} {t : TE} {T : LT} (h : Lf K E t T) : LfS K E (tAug i t (ipI f)) (lAug i f T) := fun g σ H F S D3 D2 rs q c => by
  unfold lAug at q
  split at q
  · rename_i a ea
    have rs' := rs
    obtain ⟨fp, r0⟩ := rs
    obtain ⟨v, hv, rep⟩ := r0.val i _ ea
    cases rep
    refine ⟨_, hv, ?_⟩
    refine h g σ H F S _ _ _ rs' q (fun d S1 v1 H1 F1 h1 c1 e1 r1 w1 => ?_) c.cx
    have w := w1.look r1
    split at h1
    · rename_i b eb
      rw [eb] at w
      exact ⟨a, b, rfl, w.intI, c.nx _ _ _ F1 h1.2 e1 (r1.setV h1.1 (.int _))⟩
    · exact h1.elim
  · exact q.elim
/-- x[::-1] of a list -/
theorem RepL.rev : ∀ {vs : List V} {ds : List D}, RepL K F vs ds → RepL K F vs.reverse ds.reverse
  | _, _, .nil => .nil
  | _, _, .cons h r => by
    rw [List.reverse_cons, List.reverse_cons]
    exact (RepL.rev r).append (.one h)
@[simp] def lRev (T : LT) : LT := fun S Q R => T S (fun d S1 => match look S1 d with
  | .lst xs => Q (.lst xs.reverse) S1
  | .lsf xs => Q (.lst xs.reverse) S1
  | _ => False) R
theorem lf_rev {t : TE} {T : LT} (h : Lf K E t T) : Lf K E (tRevL K t) (lRev T) := by
  intro g σ H F S Q R Q' rs q hq hx
  refine h g σ H F S _ R _ rs q (fun d S1 v1 H1 F1 h1 c1 e1 r1 w1 => ?_) hx
  have w := w1.look r1
  have oq : OQ K g F1 σ S1 (fun d => Q d S1) Q' := fun d v H' F' p e r rep => hq d S1 v H' F' p c1 (e1.trans e) r (.inl rep)
  split at h1
  · rename_i xs ex
    rw [ex] at w
    obtain ⟨a, vs, rfl, ha, ra⟩ := w.lstI r1.fh'
    exact ⟨a, vs, rfl, SqL.of ha, oq.lst r1 h1 (RepL.rev ra)⟩
  · rename_i xs ex
    rw [ex] at w
    obtain ⟨a, vs, rfl, ha, ra⟩ := w.lsfI r1.fh'
    exact ⟨a, vs, rfl, ha, oq.lst r1 h1 (RepL.rev ra)⟩
  · exact h1.elim
theorem pe_revLK {X : Cx} {K : PySem.W.Frag} {e : Expr} {te : TE} {k : Nat} {p1 p2 p3 pos : Pos} (hK : X.K = K) (he : PE X e te) : PE X (.Subscript e (.Slice none none (some (.UnaryOp .USub (.Constant (.int 1) k p1) p2)) p3) pos) (tRevL K te) := by
  subst hK
  exact pe_revL he
end L3
set_option linter.all false
set_option maxRecDepth 100000
set_option maxHeartbeats 4000000
/-! L3, part S: for a, b in ((x, c1), (y, c2)), where c1, c2 are lists of the frame's own that the body changes by the name b. -/
namespace L3
open PySem PySem.Spec PyProof.Rows L2
variable {K : PySem.W.Frag} {g : Gd} {E : WX} {F H : Hp} {σ : L2.St} {S : SS}
/-! ### bodies that set no name -/
def Keeps (t : TS) : Prop := ∀ (D : Ends) (σ : L2.St) (H : Hp), t { D with nx := fun σ' H' => σ' = σ → D.nx σ' H' } σ H = t D σ H
theorem kp_next : Keeps tNext := fun D σ H => propext ⟨fun h => h rfl, fun h _ => h⟩
theorem kp_drop {te : TE} : Keeps (tDrop te) := fun D σ H => by
  show te σ H (fun _ H1 => σ = σ → D.nx σ H1) = te σ H fun _ H1 => D.nx σ H1
  simp
theorem kp_if {c : TT} {t u : TS} (ht : Keeps t) (hu : Keeps u) : Keeps (tIfS c t u) := fun D σ H => by
  have e : (fun (b : Bool) (H1 : Hp) => if b = true then t { D with nx := fun σ' H' => σ' = σ → D.nx σ' H' } σ H1 else u { D with nx := fun σ' H' => σ' = σ → D.nx σ' H' } σ H1) = fun b H1 => if b = true then t D σ H1 else u D σ H1 := by
    funext b H1
    rw [ht D σ H1, hu D σ H1]
  show c σ H _ = c σ H _
  rw [e]
theorem kp_seq {t u : TS} (ht : Keeps t) (hu : Keeps u) : Keeps (tSeq t u) := fun D σ H => by
  have h1 := ht { D with nx := u { D with nx := fun σ' H' => σ' = σ → D.nx σ' H' } } σ H
  have h2 := ht { D with nx := u D } σ H
  have e : (fun (σ' : L2.St) (H' : Hp) => σ' = σ → u { D with nx := fun σ' H' => σ' = σ → D.nx σ' H' } σ' H') = fun σ' H' => σ' = σ → u D σ' H' := by
    funext σ' H'
    apply propext
    constructor
    · intro h z
      have h' := h z
      subst z
      rw [hu D σ' H'] at h'
      exact h'
    · intro h z
      have h' := h z
      subst z
      rw [hu D σ' H']
      exact h'
  show t { D with nx := u { D with nx := fun σ' H' => σ' = σ → D.nx σ' H' } } σ H = t { D with nx := u D } σ H
  rw [← h1, ← h2]
  show t { D with nx := fun (σ' : L2.St) (H' : Hp) => σ' = σ → u { D with nx := fun σ' H' => σ' = σ → D.nx σ' H' } σ' H' } σ H = t { D with nx := fun σ' H' => σ' = σ → u D σ' H' } σ H
  rw [e]
/-! ### a cell goes to another slot -/
@[simp] def mvS (S : SS) (src dst : Nat) (k : Cell) : SS := (S.set dst (some (.c true k))).set src none
theorem RS.mv {src dst : Nat} {k : Cell} {σ' : L2.St} (r : RS K g F H σ S) (hk : S[src]? = some (some (.c true k))) (hf : freeSl S dst = true) (hn : src ≠ dst)
    (hl : σ'.length = σ.length) (hd : σ'[dst]? = σ[src]?) (ho : ∀ j, j ≠ src → j ≠ dst → σ'[j]? = σ[j]?) : RS K g F H σ' (mvS S src dst k) := by
  obtain ⟨fp, r⟩ := r
  have ld := freeSl_lt hf
  have lsrc : src < S.length := (List.getElem?_eq_some_iff.mp hk).1
  have at_ : ∀ {j : Nat} {x : Sl}, (mvS S src dst k)[j]? = some (some x) → (j = dst ∧ x = .c true k) ∨ (j ≠ src ∧ j ≠ dst ∧ S[j]? = some (some x)) := fun {j x} q => by
    unfold mvS at q
    by_cases hj : j = src
    · subst hj
      rw [List.getElem?_set_self (by rw [List.length_set]; exact lsrc)] at q
      cases q
    · rw [get_set_ne hj] at q
      by_cases hj2 : j = dst
      · subst hj2
        rw [List.getElem?_set_self ld] at q
        cases q
        exact .inl ⟨rfl, rfl⟩
      · rw [get_set_ne hj2] at q
        exact .inr ⟨hj, hj2, q⟩
  refine ⟨fun j => if j = dst then fp src else fp j, r.fh, r.gf, r.nb, fun j d e => ?_, fun j o k' e => ?_, fun i j o k1 o' k2 n e1 e2 => ?_, by simp [mvS, r.len, hl], fun p hp => ?_, fun j k' e => ?_, r.tb⟩
  · rcases at_ e with ⟨_, z⟩ | ⟨h1, h2, h3⟩
    · cases z
    · rw [ho j h1 h2]; exact r.val j d h3
  · rcases at_ e with ⟨z, z2⟩ | ⟨h1, h2, h3⟩
    · subst z
      cases z2
      rw [if_pos rfl, hd]
      exact r.cel src true k hk
    · rw [if_neg h2, ho j h1 h2]; exact r.cel j o k' h3
  · rcases at_ e1 with ⟨z, z2⟩ | ⟨h1, h2, h3⟩
    · rcases at_ e2 with ⟨w, w2⟩ | ⟨h1', h2', h3'⟩
      · exact absurd (z.trans w.symm) n
      · rw [if_pos z, if_neg h2']
        exact r.ap src j _ _ _ _ (Ne.symm h1') hk h3'
    · rcases at_ e2 with ⟨w, w2⟩ | ⟨h1', h2', h3'⟩
      · rw [if_neg h2, if_pos w]
        exact r.ap i src _ _ _ _ h1 h3 hk
      · rw [if_neg h2, if_neg h2']
        exact r.ap i j _ _ _ _ n h3 h3'
  · obtain ⟨h1, k', h2⟩ := r.lent p hp
    have n1 : p.1 ≠ src := fun z => by rw [z, hk] at h2; cases h2
    have n2 : p.1 ≠ dst := fun z => freeSl_ne hf k' (by rw [← z]; exact h2)
    unfold mvS
    rw [ho _ n1 n2, get_set_ne n1, get_set_ne n2]
    exact ⟨h1, k', h2⟩
  · rcases at_ e with ⟨_, z⟩ | ⟨h1, h2, h3⟩
    · cases z
    · exact r.nl j k' h3
theorem RS.unpend {p : Addr} {o : HO} (r : RS K (gadd g p o) F H σ S) (hG : g.G p = none) : RS K g F H σ S := by
  obtain ⟨fp, r⟩ := r
  refine ⟨fp, r.fh, fun b u e => ?_, fun b hb => r.nb b (.inl hb), r.val, fun j ow k e => ?_, r.ap, r.len, r.lent, r.nl, ⟨r.tb.t, r.tb.f, fun b ps z => r.tb.g b ps (by show upd g.G p o b = _; rw [upd_ne (ne_of_none z hG)]; exact z), r.tb.c⟩⟩
  · refine r.gf b u ?_
    show upd g.G p o b = some u
    rw [upd_ne (ne_of_none e hG)]; exact e
  · obtain ⟨a, ha, hc, hf⟩ := r.cel j ow k e
    refine ⟨a, ha, hc, fun b hb => ?_⟩
    obtain ⟨h1, h2, h3⟩ := hf b hb
    have h2' : upd g.G p o b = none := h2
    have hne : b ≠ p := fun z => by rw [z, upd_same] at h2'; cases h2'
    rw [upd_ne hne] at h2'
    exact ⟨h1, h2', fun z q => h3 z (.inl q)⟩
theorem RS.pendH {p : Addr} {o : HO} (r : RS K (gadd g p o) F H σ S) : H p = some o := by
  obtain ⟨fp, r⟩ := r
  exact r.gf p o upd_same
/-- one pair's turn -/
def lPair1 (a b c : Nat) (d : D) (Tb : LTS) (nx : SS → Prop) : SS → Prop := fun S => isCel d = false ∧ freeSl S a = true ∧ freeSl S b = true ∧
  ∃ k, S[c]? = some (some (.c true k)) ∧ Tb { nx := fun S' => ∃ k', S'[b]? = some (some (.c true k')) ∧ freeSl S' c = true ∧ nx (mvS S' b c k'), rt := fun _ _ => False, xr := RF } (mvS (S.set a (some (.v d))) c b k)
def ownC (S : SS) (c : Nat) : Prop := ∃ k, S[c]? = some (some (.c true k))
def lPairs (a b c1 c2 : Nat) (T1 T2 : LT) (Tb : LTS) : LTS := fun D S => T1 S (fun d1 S1 => isCel d1 = false ∧ ownC S1 c1 ∧ T2 S1 (fun d2 S2 => isCel d2 = false ∧ ownC S2 c2 ∧ lPair1 a b c1 d1 Tb (lPair1 a b c2 d2 Tb D.nx) S2) RF) RF
theorem ownC.addr {c : Nat} (h : ownC S c) (r : RS K g F H σ S) : ∃ a, σ[c]? = some (some (.ref a)) := by
  obtain ⟨k, h⟩ := h
  obtain ⟨fp, r⟩ := r
  obtain ⟨a, ha, _⟩ := r.cel c true k h
  exact ⟨a, ha⟩
theorem sz2 : 2 ≤ sizeLine := by decide
theorem pair_turn {a b c : Nat} {d : D} {v : V} {h : Addr} {tb : TS} {Tb : LTS} {nx : SS → Prop} {D2 : Ends} (hb : LfS K E tb Tb) (kp : Keeps tb) (hab : a ≠ b) (hac : a ≠ c) (hbc : b ≠ c)
    (rs : RS K g F H σ S) (hv : Rep K F v d) (hc : σ[c]? = some (some (.ref h))) (q : lPair1 a b c d Tb nx S)
    (hn : ∀ F' H' S', Same F F' → RS K g F' H' ((σ.set a (some v)).set b (some (.ref h))) S' → nx S' → D2.nx ((σ.set a (some v)).set b (some (.ref h))) H') : tb D2 ((σ.set a (some v)).set b (some (.ref h))) H := by
  obtain ⟨hd, fa, fb, k, hk, q⟩ := q
  rw [← kp]
  have r1 := rs.setV fa hv
  have lb := freeSl_lt fb
  have lbσ : b < σ.length := by obtain ⟨_, r⟩ := rs; rw [← r.len]; exact lb
  have hk1 : (S.set a (some (.v d)))[c]? = some (some (.c true k)) := by rw [get_set_ne (Ne.symm hac)]; exact hk
  have fb1 : freeSl (S.set a (some (.v d))) b = true := by
    unfold freeSl at fb ⊢
    rw [get_set_ne (Ne.symm hab)]; exact fb
  have r2 : RS K g F H ((σ.set a (some v)).set b (some (.ref h))) (mvS (S.set a (some (.v d))) c b k) := by
    refine r1.mv hk1 fb1 (Ne.symm hbc) (by simp) ?_ fun j h1 h2 => ?_
    · rw [List.getElem?_set_self (by simpa using lbσ), get_set_ne (Ne.symm hac), hc]
    · rw [get_set_ne h2]
  refine hb g _ H F _ _ _ r2 q ⟨fun S' σ' H' F' n e r z => ?_, fun _ _ _ _ _ _ z => z.elim, fun _ _ _ _ z => z.elim, fun _ _ _ _ z => z.elim, fun _ _ _ _ _ _ _ z => z.elim⟩
  subst z
  obtain ⟨k', h1, h2, h3⟩ := n
  refine hn F' H' _ e (r.mv h1 h2 hbc rfl ?_ fun _ _ _ => rfl) h3
  rw [get_set_ne (Ne.symm hbc), get_set_ne (Ne.symm hac), hc, List.getElem?_set_self (by simpa using lbσ)]
theorem lfs_pairs {a b c1 c2 : Nat} {t1 t2 : TE} {T1 T2 : LT} {tb : TS} {Tb : LTS} (h1 : Lf K E t1 T1) (h2 : Lf K E t2 T2) (hb : LfS K E tb Tb) (kp : Keeps tb) (hab : a ≠ b) (ha1 : a ≠ c1) (ha2 : a ≠ c2) (hb1 : b ≠ c1) (hb2 : b ≠ c2) :
    LfS K E (tFor (iTup K (tTup (tCons (tTup (tCons t1 (tCons (tVar c1) tNil))) (tCons (tTup (tCons t2 (tCons (tVar c2) tNil))) tNil)))) (gTup K 2 (gCons (gName a) (gCons (gName b) gNil))) tb) (lPairs a b c1 c2 T1 T2 Tb) := fun g σ H F S D3 D2 rs q c => by
  refine h1 g σ H F S _ _ _ rs q (fun d1 S1 v1 H1 F1 q1 cs1 e1 r1 w1 => ?_) fun _ _ _ _ _ _ z => z.elim
  obtain ⟨cd1, o1, q1⟩ := q1
  obtain ⟨g1, hg1⟩ := o1.addr r1
  refine ⟨.ref g1, hg1, ?_⟩
  refine ⟨sz2, fun p1 hp1 => ?_⟩
  obtain ⟨r1p, gn1, gb1⟩ := r1.pend (p := p1) (o := .tup [v1, .ref g1]) hp1
  refine h2 _ σ _ F1 S1 _ _ _ r1p q1 (fun d2 S2 v2 H2 F2 q2 cs2 e2 r2 w2 => ?_) fun _ _ _ _ _ _ z => z.elim
  obtain ⟨cd2, o2, q2⟩ := q2
  obtain ⟨g2, hg2⟩ := o2.addr r2
  refine ⟨.ref g2, hg2, ?_⟩
  refine ⟨sz2, fun p2 hp2 => ?_⟩
  obtain ⟨r2p, gn2, gb2⟩ := r2.pend (p := p2) (o := .tup [v2, .ref g2]) hp2
  refine ⟨sz2, fun p3 hp3 => ?_⟩
  obtain ⟨r3p, gn3, gb3⟩ := r2p.pend (p := p3) (o := .tup [.ref p1, .ref p2]) hp3
  have rep1 : Rep K F2 v1 d1 := (w1.rep cd1).mono e2
  have rep2 : Rep K F2 v2 d2 := w2.rep cd2
  generalize hG : gadd (gadd (gadd g p1 (.tup [v1, .ref g1])) p2 (.tup [v2, .ref g2])) p3 (.tup [.ref p1, .ref p2]) = G at r3p
  have un : ∀ {F' H' : Hp} {σ' : L2.St} {S' : SS}, RS K G F' H' σ' S' → RS K g F' H' σ' S' ∧ H' p3 = some (.tup [.ref p1, .ref p2]) ∧ H' p2 = some (.tup [v2, .ref g2]) ∧ H' p1 = some (.tup [v1, .ref g1]) := fun {F' H' σ' S'} r => by
    subst hG
    have u3 := r.unpend gn3
    have u2 := u3.unpend gn2
    exact ⟨u2.unpend gn1, r.pendH, u3.pendH, u2.pendH⟩
  obtain ⟨_, z3, z2, z1⟩ := un r3p
  refine ⟨p3, rfl, ⟨_, SqT.of z3⟩, ?_⟩
  refine ⟨fun i m σ' H' => m = 2 - i ∧ ((i = 0 ∧ ∃ F' S', Same F2 F' ∧ RS K G F' H' σ' S' ∧ σ'[c1]? = some (some (.ref g1)) ∧ σ'[c2]? = some (some (.ref g2)) ∧ lPair1 a b c1 d1 Tb (lPair1 a b c2 d2 Tb D3.nx) S') ∨
    (i = 1 ∧ ∃ F' S', Same F2 F' ∧ RS K G F' H' σ' S' ∧ σ'[c2]? = some (some (.ref g2)) ∧ lPair1 a b c2 d2 Tb D3.nx S') ∨ (i = 2 ∧ ∃ F' S', Same F2 F' ∧ RS K G F' H' σ' S' ∧ D3.nx S')),
    ⟨2, rfl, .inl ⟨rfl, F2, S2, Same.refl F2, r3p, hg1, hg2, q2⟩⟩, ?_⟩
  rintro i m σ' H' ⟨rfl, ⟨rfl, F', S', e, r, hc1, hc2, q⟩ | ⟨rfl, F', S', e, r, hc2, q⟩ | ⟨rfl, F', S', e, r, q⟩⟩
  · obtain ⟨r0, y3, y2, y1⟩ := un r
    refine .inr ⟨⟨_, _, SqT.of y3, rfl⟩, fun σ'' H'' => ∃ F' S', Same F2 F' ∧ RS K G F' H'' σ'' S' ∧ σ''[c2]? = some (some (.ref g2)) ∧ lPair1 a b c2 d2 Tb D3.nx S', fun σ'' H'' h => ⟨1, by omega, rfl, .inr (.inl ⟨rfl, h⟩)⟩, fun x H4 hy => ?_⟩
    obtain ⟨rfl, hy⟩ := hy
    have hx := hy _ (SqT.of y3)
    cases hx
    refine ⟨p1, _, rfl, SqT.of y1, rfl, v1, _, rfl, _, _, rfl, rfl, ?_⟩
    refine pair_turn hb kp hab ha1 hb1 r (rep1.mono e) hc1 q fun F5 H5 S5 e5 r5 n5 => ⟨F5, S5, e.trans e5, r5, ?_, n5⟩
    rw [get_set_ne (Ne.symm hb2), get_set_ne (Ne.symm ha2)]; exact hc2
  · obtain ⟨r0, y3, y2, y1⟩ := un r
    refine .inr ⟨⟨_, _, SqT.of y3, rfl⟩, fun σ'' H'' => ∃ F' S', Same F2 F' ∧ RS K G F' H'' σ'' S' ∧ D3.nx S', fun σ'' H'' h => ⟨0, by omega, rfl, .inr (.inr ⟨rfl, h⟩)⟩, fun x H4 hy => ?_⟩
    obtain ⟨rfl, hy⟩ := hy
    have hx := hy _ (SqT.of y3)
    cases hx
    refine ⟨p2, _, rfl, SqT.of y2, rfl, v2, _, rfl, _, _, rfl, rfl, ?_⟩
    exact pair_turn hb kp hab ha2 hb2 r (rep2.mono e) hc2 q fun F5 H5 S5 e5 r5 n5 => ⟨F5, S5, e.trans e5, r5, n5⟩
  · obtain ⟨r0, y3, y2, y1⟩ := un r
    exact .inl ⟨⟨_, SqT.of y3, Nat.le_refl _⟩, c.nx S' σ' H' F' q (e1.trans (e2.trans e)) r0⟩
theorem pi_tupK {X : Cx} {tg l : Expr} {tl : TE} (hK : X.K = K) (hl : PE X l tl) : PI X tg l (iTup K tl) := by subst hK; exact pi_tup hl
end L3
set_option linter.all false
set_option maxRecDepth 100000
set_option maxHeartbeats 4000000
/-! L3, part T: x.pop(e), [..] * n and list(range(a, b)) as new lists, an own list that is changed no more. -/
namespace L3
open PySem PySem.Spec PyProof.Rows L2
variable {K : PySem.W.Frag} {g : Gd} {E : WX} {F H : Hp} {σ : L2.St} {S : SS}
theorem CS.setC {i : Nat} {o : Bool} {k k' : Cell} (h : S[i]? = some (some (.c o k))) : CS S (S.set i (some (.c o k'))) := by
  have hl := (List.getElem?_eq_some_iff.mp h).1
  refine ⟨by rw [List.length_set], fun j => ⟨fun d e => ?_, fun o2 k2 e => ?_, fun e => ?_⟩⟩
  · by_cases hj : j = i
    · rw [hj, h] at e; cases e
    · rw [get_set_ne hj]; exact e
  · by_cases hj : j = i
    · subst hj
      rw [h] at e
      cases e
      exact ⟨k', by rw [List.getElem?_set_self hl]⟩
    · rw [get_set_ne hj]; exact ⟨k2, e⟩
  · by_cases hj : j = i
    · rw [hj, h] at e; cases e
    · rw [get_set_ne hj]; exact e
theorem RepL.eraseIdx : ∀ {vs : List V} {ds : List D} (n : Nat), RepL K F vs ds → RepL K F (vs.eraseIdx n) (ds.eraseIdx n)
  | _, _, _, .nil => .nil
  | _, _, 0, .cons _ r => r
  | _, _, n + 1, .cons h r => .cons h (RepL.eraseIdx n r)
/-- x.pop(e) -/
@[simp] def lPopAt (i : Nat) (T : LT) : LT := fun S Q R => celL S i fun _ _ => T S (fun d S1 => match look S1 d with
  | .int j => (-(2 ^ 63) ≤ j ∧ j < 2 ^ 63) ∧ celL S1 i fun o xs => ∃ k, ixN xs.length j = some k ∧ ∃ y, xs[k]? = some y ∧ Q y (S1.set i (some (.c o (.lst (xs.eraseIdx k)))))
  | _ => False) R
theorem lf_popAt {i : Nat} {t : TE} {T : LT} (h : Lf K E t T) : Lf K E (tBM K "list" rPopAt (tVar i) (tCons t tNil)) (lPopAt i T) := by
  intro g σ H F S Q R Q' rs q hq hx
  obtain ⟨o0, xs0, hi0, q⟩ := celL_of q
  obtain ⟨a0, vs0, ha0, hv0, rl0, _⟩ := rs.celA hi0
  refine ⟨.ref a0, ha0, .inl ⟨rfl, vs0, SqL.of hv0⟩, ?_⟩
  refine h g σ H F S _ R _ rs q (fun d S1 v H1 F1 h1 c1 e1 r1 w1 => ?_) hx
  have w := w1.look r1
  split at h1
  · rename_i j ej
    rw [ej] at w
    obtain ⟨hj, h1⟩ := h1
    obtain ⟨o, xs, hi, k, hk, y, hy, hn⟩ := celL_of h1
    obtain ⟨a, vs, ha, hv, rl, _⟩ := r1.celA hi
    rw [ha0] at ha
    cases ha
    obtain ⟨u, hu, ry⟩ := rl.get hy
    have hk' : seqIndex? j vs.length = some k := by rw [rl.length]; exact (ixN_seq hk).1
    refine ⟨a0, vs, j, k, u, rfl, by rw [w.intI], hv, hj.1, hj.2, hk', hu, ?_⟩
    exact hq y _ u _ F1 hn (c1.trans (CS.setC hi)) e1 (r1.setC hi ha0 (rl.eraseIdx k)) (.inl ry)
  · exact h1.elim
/-- [..] * n, a new list -/
@[simp] def nMul (Ta Tb : LT) : LTN := fun S Q R => Ta S (fun x S1 => Tb S1 (fun y S2 => match look S2 x, look S2 y with
  | .lst a, .int k => (-(2 ^ 63) ≤ k ∧ k < 2 ^ 63 ∧ a.length * k.toNat ≤ sizeLine) ∧ Q (.lst (List.replicate k.toNat a).flatten) S2
  | _, _ => False) R) R
theorem lfn_mul {ta tb : TE} {Ta Tb : LT} (ha : Lf K E ta Ta) (hb : Lf K E tb Tb) : LfN K E (tOp rMulA ta tb) (nMul Ta Tb) := by
  intro g σ H F S Q R Q' rs q hq hx
  refine ha g σ H F S _ R _ rs q (fun x S1 v1 H1 F1 h1 c1 e1 r1 w1 => ?_) hx
  refine hb g σ H1 F1 S1 _ R _ r1 h1 (fun y S2 v2 H2 F2 h2 c2 e2 r2 w2 => ?_) (hx.step c1 e1)
  have wx := (w1.step c2 e2).look r2
  have wy := w2.look r2
  split at h2
  · rename_i a k ex ey
    rw [ex] at wx
    rw [ey] at wy
    obtain ⟨p0, vs, rfl, hp0, ra⟩ := wx.lstI r2.fh'
    refine .inr ⟨p0, k, vs, rfl, wy.intI, hp0, h2.1.1, h2.1.2.1, by rw [ra.length]; exact h2.1.2.2, fun p hp => ?_⟩
    obtain ⟨rp, hG, hB⟩ := r2.pend (o := .lst (List.replicate k.toNat vs).flatten) hp
    exact hq _ S2 p _ _ F2 h2.2 (c1.trans c2) (e1.trans e2) rp hG hB ⟨rfl, _, upd_same, ra.rep _⟩
  · exact h2.elim
/-- list(range(a, b)), a new list -/
@[simp] def nLstRg2 (Ta Tb : LT) : LTN := fun S Q R => Ta S (fun x S1 => Tb S1 (fun y S2 => lookI (look S2 x) (look S2 y) fun i j => RgOk i j ∧ Q (.lst (rgD i j)) S2) R) R
theorem lfn_lstRg2 {ta tb : TE} {Ta Tb : LT} (ha : Lf K E ta Ta) (hb : Lf K E tb Tb) : LfN K E (tLstRg (tRg2 ta tb)) (nLstRg2 Ta Tb) := by
  intro g σ H F S Q R Q' rs q hq hx
  refine ha g σ H F S _ R _ rs q (fun x S1 v1 H1 F1 h1 c1 e1 r1 w1 => ?_) hx
  refine hb g σ H1 F1 S1 _ R _ r1 h1 (fun y S2 v2 H2 F2 h2 c2 e2 r2 w2 => ?_) (hx.step c1 e1)
  obtain ⟨i, j, _, _, rfl, rfl, hr, n⟩ := lookI_of ((w1.step c2 e2).look r2) (w2.look r2) h2
  refine ⟨i, j, rfl, rfl, hr, fun p hp => ?_⟩
  obtain ⟨rp, hG, hB⟩ := r2.pend (o := .lst (rgV i j)) hp
  exact hq _ S2 p _ _ F2 n (c1.trans c2) (e1.trans e2) rp hG hB ⟨rfl, _, upd_same, rg_rep i j⟩
/-- a new list of any make among the items of a row -/
@[simp] def lSlN (T : LTN) (Ts : LSl) : LSl := fun S Q R => T S (fun k S1 => match k with
  | .lst xs => Ts S1 (fun ss S2 => Q (.c true (.lst xs) :: ss) S2) RF
  | _ => False) R
theorem lfsl_n {t : TE} {u : TA} {T : LTN} {Ts : LSl} (h : LfN K E t T) (hu : LfSl K E u Ts) : LfSl K E (tCons t u) (lSlN T Ts) := fun g σ H F S Q R Q' rs q hq hx => by
  refine h g σ H F S _ R _ rs q (fun k S1 p o H1 F1 h1 c1 e1 r1 hG hB ca => ?_) hx
  split at h1
  · rename_i xs
    obtain ⟨_, ws, hw, rl⟩ := ca
    have ho : o = .lst ws := by
      have := r1.pendH
      rw [hw] at this
      exact (Option.some.inj this).symm
    subst ho
    refine hu _ σ H1 F1 S1 _ RF _ r1 h1 (fun ss S2 vs H2 F2 g' h2 c2 e2 r2 ps => ?_) fun _ _ _ _ _ _ z => z.elim
    refine hq _ S2 _ H2 F2 g' h2 (c1.trans c2) (e1.trans e2) r2 (.c hG hB ?_ (rl.mono e2) ps)
    obtain ⟨fp, r2⟩ := r2
    exact r2.gf p _ (ps.grow p _ (by show upd g.G p _ p = _; rw [upd_same]))
  · exact h1.elim
/-- a, b = .., .. by way of a tuple, lists that will be changed among them -/
theorem lfs_parT {i j : Nat} {t : TA} {T : LSl} (h : LfSl K E t T) (hij : i ≠ j) : LfS K E (tAsg (tTup t) (gTup K 2 (gCons (gName i) (gCons (gName j) gNil)))) (lPar [i, j] T) := fun g σ H F S D3 D2 rs q c => by
  refine h g σ H F S _ _ _ rs q (fun ss S1 vs H1 F1 g' h1 c1 e1 r1 p => ?_) c.cx
  obtain ⟨hl, ho, hn⟩ := h1
  have hv := p.len
  have hz : vs.length ≤ sizeLine := by rw [hv, hl]; exact sz2
  refine ⟨hz, fun q0 hq => ?_⟩
  obtain ⟨r2, gn, gb⟩ := r1.pend (p := q0) (o := .tup vs) hq
  have r3 := r2.unpend gn
  have p2 : PSl K F1 (upd H1 q0 (.tup vs)) g vs ss g' := p.mono (Same.refl F1) fun b o _ hb => by
    rw [upd_ne (ne_of_none hb hq)]; exact hb
  have r4 := store_all p2 [i, j] hl.symm ho r3
  obtain ⟨v, w, rfl⟩ := len2 (hv.trans hl)
  obtain ⟨s, t, rfl⟩ := len2 hl
  refine ⟨q0, _, rfl, SqT.of upd_same, rfl, v, _, rfl, w, _, rfl, rfl, ?_⟩
  refine c.nx _ _ _ F1 hn e1 ?_
  have : setSt σ [i, j] [v, w] = (σ.set i (some v)).set j (some w) := by
    show (σ.set j (some w)).set i (some v) = _
    rw [List.set_comm _ _ hij]
  rw [← this]
  exact r4
/-- an own list is known from now on: it is changed no more -/
theorem RS.frzKeep {i : Nat} {k : Cell} (r : RS K g F H σ S) (hk : S[i]? = some (some (.c true k))) : ∃ F', Same F F' ∧ RS K g F' H σ (S.set i (some (.v k.d))) := by
  obtain ⟨a, ob, ha, f1, r2, rep⟩ := r.freezeSlot hk
  refine ⟨upd F a ob, sameNew f1, ?_⟩
  have hli := (List.getElem?_eq_some_iff.mp hk).1
  have hls : i < σ.length := by obtain ⟨_, r⟩ := r; rw [← r.len]; exact hli
  have r3 := r2.setV (i := i) (v := .ref a) (d := k.d) (by unfold freeSl; rw [List.getElem?_set_self hli]) rep
  rw [List.set_set, List.set_set] at r3
  have e : σ.set i (some (.ref a)) = σ := by
    refine List.ext_getElem? fun j => ?_
    by_cases hj : j = i
    · subst hj; rw [List.getElem?_set_self hls, ha]
    · rw [get_set_ne hj]
  rw [e] at r3
  exact r3
def lFrz (i : Nat) (T : LTS) : LTS := fun Z S => ∃ xs, S[i]? = some (some (.c true (.lst xs))) ∧ T Z (S.set i (some (.v (.lst xs))))
theorem lfs_frz {i : Nat} {t : TS} {T : LTS} (h : LfS K E t T) : LfS K E t (lFrz i T) := fun g σ H F S D3 D2 rs q c => by
  obtain ⟨xs, hi, q⟩ := q
  obtain ⟨F', e, r⟩ := rs.frzKeep hi
  exact h g σ H F' _ D3 D2 r q (c.step e)
end L3
set_option linter.all false
set_option maxRecDepth 100000
set_option maxHeartbeats 4000000
/-! L3, part U: t[::-1] of tuples, t * n of tuples, len(set(t)), sorted. -/
namespace L3
open PySem PySem.Spec PyProof.Rows L2
section
variable {prog : Program} {w : World} {A : Around} {E : Value → Shared → Prop} {s : Shared}
theorem back_adjust (n : Nat) : Builtin.Slice.sliceAdjust none none (-1) (n : Int) = ((n : Int) - 1, -1) := rfl
theorem back_places (n : Nat) : Builtin.Slice.slicePlaces ((n : Int) - 1) (-1) (-1) = n := by
  unfold Builtin.Slice.slicePlaces
  rw [if_neg (by omega)]
  have e : (- -1 : Int) = 1 := rfl
  rw [e, Int.ediv_one]
  split <;> omega
theorem back_pick (xs : Array Value) : ((List.range xs.size).filterMap fun (m : Nat) => xs[(((xs.size : Nat) : Int) - 1 + (m : Int) * -1).toNat]?).toArray = xs.toList.reverse.toArray := by
  congr 1
  refine List.ext_getElem? fun i => ?_
  have e : ∀ m ∈ List.range xs.size, xs[(((xs.size : Nat) : Int) - 1 + (m : Int) * -1).toNat]? = some (xs.toList.reverse[m]?.getD .none) := by
    intro m hm
    have hm' : m < xs.size := List.mem_range.mp hm
    have e1 : (((xs.size : Nat) : Int) - 1 + (m : Int) * -1).toNat = xs.size - 1 - m := by omega
    rw [e1, List.getElem?_reverse (by simpa using hm')]
    rw [Array.getElem?_eq_getElem (by omega), Array.length_toList, Array.getElem?_toList, Array.getElem?_eq_getElem (by omega)]
    rfl
  have e2 : ∀ l : List Nat, (∀ m ∈ l, m ∈ List.range xs.size) → l.filterMap (fun (m : Nat) => xs[(((xs.size : Nat) : Int) - 1 + (m : Int) * -1).toNat]?) = l.map fun m => xs.toList.reverse[m]?.getD .none := by
    intro l
    induction l with
    | nil => intro _; rfl
    | cons m l ih =>
      intro h
      rw [List.filterMap_cons, e m (h m List.mem_cons_self), List.map_cons, ih fun k hk => h k (List.mem_cons_of_mem _ hk)]
  rw [e2 _ fun m hm => hm, List.getElem?_map]
  by_cases hi : i < xs.size
  · rw [List.getElem?_range hi]
    have g := List.getElem?_eq_getElem (l := xs.toList.reverse) (i := i) (by simpa using hi)
    show some ((xs.toList.reverse[i]?).getD .none) = _
    rw [g]
    rfl
  · rw [List.getElem?_eq_none (by simpa using hi), List.getElem?_eq_none (by simpa using hi)]
    rfl
theorem tup_back {t sl : Addr} {its : Array Value} {vl vu vs : Value} {Q : Value → Shared → Prop} (ht : IsTup s.heap t its) (hs : s.heap.IsSliceOf sl vl vu vs) (pl : IsPart vl none) (pu : IsPart vu none) (ps : IsPart vs (some (-1))) (hz : its.size ≤ sizeLine)
    (h : Q (.ref s.heap.objs.size) { s with heap := s.heap.push { cls := .type "tuple", data := .seq its.toList.reverse.toArray } }) : wpAny (model prog w) A (getItem (.ref t) (.ref sl)) Q E s := by
  obtain ⟨ob, ho, hc, hd⟩ := id hs
  have hT : s.TypeIs (.ref sl) "slice" := ⟨ob, ho, hc⟩
  have hz2 : sizeOk (.seq its.toList.reverse.toArray) := by show its.toList.reverse.toArray.size ≤ sizeLine; simpa using hz
  unfold getItem; try with_reducible refine wpAny_holding ?_
  first | refine wpAny_bind (wpAny_pure ?_) | skip
  refine wpAny_bind (wpAny_sequenceKey ht.typeIs (by decide) ?_); refine wpAny_bind (wpAny_callSpecial?_slot (name := Str.ofString "__getitem__") ht.typeIs PyProof.Rows.slot_tuple_getitem (wpAny_call_entry PyProof.Rows.slot_tuple_getitem ht.typeIs entry_tuple_getitem ?_ (args_tuple_getitem _ _)))
  show wpAny _ _ (Builtin.Tuple.tupleItemsOf (.ref t) >>= _) _ _ s; refine wpAny_bind (tupleItemsOf_ ht ?_)
  refine wpAny_bind (wpAny_typeOf hT ?_); rw [if_pos (by decide)]
  have ap : ∀ {Q' : Int × Int × Nat → Shared → Prop} {E' : Value → Shared → Prop}, Q' (((its.size : Nat) : Int) - 1, -1, its.size) s → wpAny (model prog w) A.in1 (Builtin.Slice.sliceApplied (.ref sl) (pure ((its.size : Nat) : Int))) Q' E' s := fun {Q' E'} q => by
    unfold Builtin.Slice.sliceApplied Builtin.Slice.sliceFields
    refine wpAny_bind (wpAny_bind (wpAny_field ho hd (x := vl) rfl (wpAny_bind (wpAny_field ho hd (x := vu) rfl (wpAny_bind (wpAny_field ho hd (x := vs) rfl (wpAny_pure ?_)))))))
    refine wpAny_bind (HT.slicePart_ ps ?_)
    show wpAny _ _ (if ((-1 : Int) == 0) = true then _ else _) _ _ s
    rw [if_neg (by decide)]
    refine wpAny_bind (HT.slicePart_ pl (wpAny_bind (HT.slicePart_ pu (wpAny_bind (wpAny_pure ?_)))))
    show wpAny _ _ (match Builtin.Slice.sliceAdjust none none (-1) ((its.size : Nat) : Int) with | (lo, hi) => pure (lo, (-1 : Int), Builtin.Slice.slicePlaces lo hi (-1))) _ _ s
    rw [back_adjust]
    show wpAny _ _ (pure (((its.size : Nat) : Int) - 1, (-1 : Int), Builtin.Slice.slicePlaces (((its.size : Nat) : Int) - 1) (-1) (-1))) _ _ s
    rw [back_places]
    exact wpAny_pure q
  refine wpAny_bind (ap ?_)
  show wpAny _ _ (if ((((its.size : Nat) : Int) - 1) == 0 && (-1 : Int) == 1 && its.size == its.size) = true then _ else _) _ _ s
  rw [if_neg (by simp), back_pick]
  first
    | exact wpAny_bind (m := Builtin.Tuple.tupleExact _) (wpAny_newObj_type (wpAny_pure ⟨_, rfl, wpAny_pure h⟩) hz2)
    | exact wpAny_bind (m := Builtin.Tuple.tupleExact _) (wpAny_newObj_type (wpAny_bind (wpAny_pure (wpAny_pure ⟨_, rfl, wpAny_pure h⟩))) hz2)
    | exact wpAny_bind (wpAny_bind (m := Builtin.Tuple.tupleExact _) (wpAny_newObj_type (wpAny_pure (wpAny_pure ⟨_, rfl, wpAny_pure h⟩)) hz2))
    | exact wpAny_bind (wpAny_bind (m := Builtin.Tuple.tupleExact _) (wpAny_newObj_type (wpAny_pure ⟨_, rfl, wpAny_pure h⟩) hz2))
end
/-! ### t[::-1] -/
def tRevT (K : PySem.W.Frag) (te : TE) : TE := fun σ H Q => te σ H fun x H1 => ∃ a xs, x = .ref a ∧ SqT K H1 a xs ∧ ∀ p, H1 p = none → Q (.ref p) (upd H1 p (.tup xs.reverse))
theorem pe_revTK {X : Cx} {K : PySem.W.Frag} {e : Expr} {te : TE} {k : Nat} {p1 p2 p3 pos : Pos} (hK : X.K = K) (he : PE X e te) : PE X (.Subscript e (.Slice none none (some (.UnaryOp .USub (.Constant (.int 1) k p1) p2)) p3) pos) (tRevT K te) := by
  subst hK
  refine ⟨fun pins s σ H Q I h => ?_⟩
  refine Subscript_ (thn (he.run pins s σ H _ I h) fun v s1 ⟨x, H1, I1, r1, q1⟩ => ?_)
  obtain ⟨a, xs, ex, hx, q⟩ := q1; subst ex; cases r1
  have hst : PO X (some (.UnaryOp .USub (.Constant (.int 1) k p1) p2)) (tPart (tUn (rU fun i => .int (-i)) (tC (.int 1)))) := po_some (pe_un un_neg pe_int)
  refine wpAny_Slice (thn (po_none.run pins s1 σ H1 (fun o H2 => o = none ∧ H2 = H1) I1 ⟨rfl, rfl⟩) fun vl s2 ⟨l, H2, I2, pl, el, e2⟩ => ?_); subst el e2
  refine thn (po_none.run pins s2 σ H2 (fun o H3 => o = none ∧ H3 = H2) I2 ⟨rfl, rfl⟩) fun vu s3 ⟨u, H3, I3, pu, eu, e3⟩ => ?_; subst eu e3
  refine thn (hst.run pins s3 σ H3 (fun o H4 => o = some (-1) ∧ H4 = H3) I3 ⟨1, rfl, -1, rfl, rfl, rfl⟩) fun vs s4 ⟨o, H4, I4, ps, eo, e4⟩ => ?_; subst eo e4
  have J : Inv X pins σ H4 { s4 with heap := s4.heap.push { cls := .type "slice", data := .fields #[vl, vu, vs] } } := I4.kept (t' := s4.toks) fun b ob q => Heap.get?_push_of_some _ q
  obtain ⟨its, r, ht, hz⟩ := J.tuple hx
  have hlen := r.length
  show wpAny (model X.prog X.w) X.A (subscriptTail e (.Slice none none (some (.UnaryOp .USub (.Constant (.int 1) k p1) p2)) p3) (.ref a) (.ref s4.heap.objs.size)) (EP X pins σ Q) X.xe { s4 with heap := s4.heap.push { cls := .type "slice", data := .fields #[vl, vu, vs] } }
  refine tail_any (ops := [.ref a, .ref s4.heap.objs.size]) ht.typeIs PyProof.Rows.slot_tuple_getitem.lookup ?_ (by with_unfolding_all rfl)
  refine tup_back ht (Heap.IsSliceOf.new _ vl vu vs) pl pu ps (by rw [List.size_toArray]; omega) ?_
  refine ⟨.ref _, _, J.laid (t' := s4.toks) (o := .tup xs.reverse) (fun b ob q => Heap.get?_push_of_some _ q) (Nat.le_refl _) ?_, rfl, q _ (J.hok.fresh (Nat.le_refl _))⟩
  exact ⟨by rw [List.length_reverse]; omega, _, r.reverse, IsTup.new _ _⟩
section
variable {K : PySem.W.Frag} {g : Gd} {E : WX} {F H : Hp} {σ : L2.St} {S : SS}
@[simp] def lRevT (T : LT) : LT := fun S Q R => T S (fun d S1 => match look S1 d with
  | .tup xs => Q (.tup xs.reverse) S1
  | _ => False) R
theorem lf_revT {t : TE} {T : LT} (h : Lf K E t T) : Lf K E (tRevT K t) (lRevT T) := by
  intro g σ H F S Q R Q' rs q hq hx
  refine h g σ H F S _ R _ rs q (fun d S1 v1 H1 F1 h1 c1 e1 r1 w1 => ?_) hx
  have w := w1.look r1
  split at h1
  · rename_i xs ex
    rw [ex] at w
    obtain ⟨a, vs, rfl, ha, ra⟩ := w.tupI r1.fh'
    have oq : OQ K g F1 σ S1 (fun d => Q d S1) Q' := fun d v H' F' p e r rep => hq d S1 v H' F' p c1 (e1.trans e) r (.inl rep)
    exact ⟨a, vs, rfl, ha, oq.tup r1 h1 (RepL.rev ra)⟩
  · exact h1.elim
end
/-! ### (x,) * n -/
section
variable {K : PySem.W.Frag} {X : Cx}
theorem mulT_same (l : Addr) (items : Array Value) (n : Nat) (sl : Array (Option Value)) (dd : Option Addr) (u : Tok) :
    Meets (Builtin.«tuple.__mul__» ⟨[.ref l, .int 1 u], []⟩) (fun _ R s => s.heap.get? l = some { cls := .type "tuple", dict := dd, data := .seq items n, slots := sl } ∧ R (.ok (.ret (.ref l))) s) :=
  .of_wp fun prog w A R s h => by
    obtain ⟨hp, g, d, tk, os⟩ := s
    obtain ⟨hl, h⟩ := h
    have f1 := AutoSeq1.idx_int
    wp_walk using wpAny_loadPart' hl
    exact ⟨_, rfl, h⟩
theorem mulT_none (l : Addr) (items : Array Value) (n : Nat) (sl : Array (Option Value)) (dd : Option Addr) (u : Tok) (c1 : (items.isEmpty || (0 : Int) == 1) = false) :
    Meets (Builtin.«tuple.__mul__» ⟨[.ref l, .int 0 u], []⟩) (fun _ R s => s.heap.get? l = some { cls := .type "tuple", dict := dd, data := .seq items n, slots := sl } ∧
      R (.ok (.ret (Value.ref s.heap.objs.size))) { s with heap := s.heap.push { cls := Value.type "tuple", data := Data.seq #[] }, toks := s.toks }) :=
  .of_wp fun prog w A R s h => by
    obtain ⟨hp, g, d, tk, os⟩ := s
    obtain ⟨hl, h⟩ := h
    have f1 := AutoSeq1.idx_int
    wp_walk using wpAny_loadPart' hl
    repeat (first
      | (refine wpAny_ite_false (decide_eq_false (by rw [c1]; exact Bool.false_ne_true)) ?_; wp_walk using wpAny_loadPart' hl))
    exact ⟨_, rfl, h⟩
def rMulTA (K : PySem.W.Frag) : R2 := fun x y H Q => ∃ l k xs, x = .ref l ∧ y = .int k ∧ SqT K H l xs ∧ xs ≠ [] ∧ 0 ≤ k ∧ k ≤ 1000 ∧ xs.length ≤ 1000 ∧
  (k = 1 → Q (.ref l) H) ∧ (k ≠ 1 → ∀ p, H p = none → Q (.ref p) (upd H p (.tup (List.replicate k.toNat xs).flatten)))
theorem op_mulTA : OpR X (binaryOp .Mult) (rMulTA X.K) := by
  intro pins s σ H x y v u Q I rx ry h
  obtain ⟨l, k, xs, rfl, rfl, hT, hne, h0, h1, hz, q1, q2⟩ := h
  by_cases k2 : 2 ≤ k
  · exact op_repT pins s σ H _ _ v u Q I rx ry ⟨l, k, xs, rfl, rfl, hT, hne, k2, h1, hz, q2 (by omega)⟩
  · cases rx
    obtain ⟨t, rfl⟩ := ry
    obtain ⟨its, r, ⟨⟨cls, dd, data, sl⟩, ho, hc, n, hd⟩, hs⟩ := I.tuple hT
    simp only at hc hd
    subst hc hd
    have hle : its.length = xs.length := r.length.symm
    have hi : its.toArray.isEmpty = false := by
      cases its with
      | nil => exact absurd (List.eq_nil_of_length_eq_zero hle.symm) hne
      | cons a b => rfl
    have road : ∀ {Q' : Value → Shared → Prop}, wpAny (model X.prog X.w) X.A (call (.builtin "tuple.__mul__") [.ref l, .int k t]) Q' X.xe s → wpAny (model X.prog X.w) X.A (binaryOp .Mult (.ref l) (.int k t)) Q' X.xe s := by
      intro Q' w
      exact wpAny_binaryOp_repeat_ref (T := "tuple") (U := "int") (by decide) ⟨_, ho, rfl⟩ (fun s' => typeIs_int s' k t) noFill_tuple_mul F.fills_int_mul F.slot_int_rmul repeat_tuple F.slot_int_index.lookup
        (call_meets F.slot_int_rmul (typeIs_int s k t) F.entry_int_rmul (F.args_int_rmul_2 _ _) (int_rmul_tuple k t l its.toArray n dd sl) ⟨ho, rfl, ⟨_, ho, rfl⟩, w⟩)
    refine road ?_
    have k01 : k = 0 ∨ k = 1 := by omega
    rcases k01 with rfl | rfl
    · refine call_meets F.slot_tuple_mul ⟨_, ho, rfl⟩ F.entry_tuple_mul (F.args_tuple_mul_2 _ _) (mulT_none l its.toArray n sl dd t (by rw [hi]; rfl)) ⟨ho, ?_⟩
      refine ⟨.ref s.heap.objs.size, _, I.laid (t' := s.toks) (o := .tup []) (fun b ob q => Heap.get?_push_of_some _ q) (Nat.le_refl _) ?_, rfl, q2 (by omega) _ (I.hok.fresh (Nat.le_refl _))⟩
      exact ⟨Nat.zero_le _, [], .nil, IsTup.new _ _⟩
    · exact call_meets F.slot_tuple_mul ⟨_, ho, rfl⟩ F.entry_tuple_mul (F.args_tuple_mul_2 _ _) (mulT_same l its.toArray n sl dd t) ⟨ho, .ref l, H, I, rfl, q1 rfl⟩
/-- int * int, list * int, tuple * int -/
def rMulB (K : PySem.W.Frag) : R2 := fun x y H Q => rMulA x y H Q ∨ rMulTA K x y H Q
theorem op_mulB (hK : X.K = K) : OpR X (binaryOp .Mult) (rMulB K) := by subst hK; exact op_mulA.or op_mulTA
@[simp] def mulTD : D2 := fun x y P => match x, y with
  | .tup a, .int k => (a ≠ [] ∧ 0 ≤ k ∧ k ≤ 1000 ∧ a.length ≤ 1000) ∧ P (.tup (List.replicate k.toNat a).flatten)
  | _, _ => False
theorem opl_mulT : OpL K (rMulB K) mulTD := by
  intro g F H σ S v1 v2 d1 d2 P Q' r h1 h2 f q
  unfold mulTD at f
  split at f
  · rename_i a k
    have hF := h1.tupF
    obtain ⟨l, vs, rfl, ha, ra⟩ := h1.tupI r.fh'
    obtain ⟨⟨c1, c2, c3, c4⟩, f⟩ := f
    refine .inr ⟨l, k, vs, rfl, h2.intI, ha, fun e => ?_, c2, c3, by rw [ra.length]; exact c4, fun e => ?_, fun _ => q.tup r f (ra.rep _)⟩
    · subst e; cases ra; exact c1 rfl
    · subst e
      have e1 : (List.replicate (1 : Int).toNat a).flatten = a := by
        show (List.replicate 1 a).flatten = a
        simp
      rw [e1] at f
      exact q.val r f hF
  · exact f.elim
end
/-! ### len(set(t)) of unlike whole numbers -/
theorem nodup_le : ∀ {xs ys : List Int}, xs.Nodup → (∀ x, x ∈ xs → x ∈ ys) → xs.length ≤ ys.length
  | [], _, _, _ => Nat.zero_le _
  | x :: xs, ys, hn, hs => by
    have hx : x ∈ ys := hs x List.mem_cons_self
    have hn' := List.nodup_cons.mp hn
    have := nodup_le (ys := ys.erase x) hn'.2 fun z hz => by
      have hne : z ≠ x := fun e => hn'.1 (by rw [← e]; exact hz)
      exact (List.mem_erase_of_ne hne).mpr (hs z (List.mem_cons_of_mem _ hz))
    have h2 := List.length_erase_of_mem hx
    have h3 : 0 < ys.length := List.length_pos_of_mem hx
    rw [List.length_cons]
    omega
section
variable {K : PySem.W.Frag} {X : Cx}
def tLenSetT (K : PySem.W.Frag) (ta : TE) : TE := fun σ H Q => ta σ H fun x H1 => ∃ (l : Addr) (ns : List Int), x = V.ref l ∧ SqT K H1 l (ns.map V.int) ∧ ns.length ≤ 1000 ∧ ns.Nodup ∧ Q (.int ns.length) H1
theorem pe_lenSetT {a : Expr} {ta : TE} {p p2 q pos : Pos} (hK : X.K = K) (hc : X.calm = true) (hg : Gl X "len") (hm : X.mg "len" = none) (hg2 : Gl X "set") (hm2 : X.mg "set" = none) (ha : PE X a ta)
    (na : starEach [a] X.env = (false, eval a X.env) :: starEach [] X.env := by rfl) : PE X (.Call (.Name "len" p) [.Call (.Name "set" p2) [a] [] q] [] pos) (tLenSetT K ta) := by
  subst hK
  refine ⟨fun pins s σ H Q I h => ?_⟩
  refine Call_ (ld_blt I hg hm PySem.boot_len ?_); refine PyProof.Rows.callWith_builtin1 (PyProof.Rows.args_cons ?_ rfl) rfl rfl
  refine Call_ (ld_blt I hg2 hm2 PyProof.Rows.boot_set ?_); refine PyProof.Rows.callWith_type1 (PyProof.Rows.args_cons (thn (ha.run pins s σ H _ I h) fun v s1 ⟨x, H1, I1, r1, q1⟩ => PyProof.Rows.args_nil ?_) na) na rfl
  obtain ⟨l, ns, rfl, hq, h1, hnd, q1⟩ := q1; cases r1
  obtain ⟨its, r, pl, hz⟩ := I1.tuple hq
  refine call_set_tupI (P := X.prog) (w := X.w) ns (I1.ok.hd hc) pl (by simpa using r.ints) (by unfold scanBound; omega) fun h' tk cc hS hcl hk => ?_
  refine PyProof.Rows.args_nil ?_
  obtain ⟨o, es, ep, t, ho, hex, hd, _, hnd2, hmem, _, hf, hn, _⟩ := hS
  have e1 : es.size ≤ ns.length := by rw [hn]; exact hcl
  have e2 : ns.length ≤ (es.toList.map keyOf).length := nodup_le hnd fun x hx => (hmem x).mp (decide_eq_true hx)
  have hcount : es.size = ns.length := by simp at e2; omega
  have I2 : Inv X pins σ H1 { s1 with heap := h', toks := tk } := I1.kept fun b o e => hk b o e
  exact call_len_set ho hex hd hf (by rw [hcount] <;> omega) ⟨.int ns.length, H1, I2.tok _, ⟨_, by rw [hcount]⟩, q1⟩
end
section
variable {K : PySem.W.Frag} {g : Gd} {E : WX} {F H : Hp} {σ : L2.St} {S : SS}
def lLenSetT (T : LT) : LT := fun S Q R => T S (fun d S1 => ∃ ns : List Int, look S1 d = .tup (ns.map .int) ∧ ns.length ≤ 1000 ∧ ns.Nodup ∧ Q (.int (ns.length : Nat)) S1) R
theorem repL_ints : ∀ {vs : List V} {ns : List Int}, RepL K F vs (ns.map .int) → vs = ns.map V.int
  | [], [], _ => rfl
  | v :: vs, n :: ns, h => by
    rw [List.map_cons] at h
    cases h with
    | cons h r => cases h; rw [repL_ints r]; rfl
  | [], _ :: _, h => by cases h
  | _ :: _, [], h => by cases h
theorem lf_lenSetT {t : TE} {T : LT} (h : Lf K E t T) : Lf K E (tLenSetT K t) (lLenSetT T) := by
  intro g σ H F S Q R Q' rs q hq hx
  refine h g σ H F S _ R _ rs q (fun d S1 v1 H1 F1 h1 c1 e1 r1 w1 => ?_) hx
  have w := w1.look r1
  obtain ⟨ns, ed, hl, hn, hQ⟩ := h1
  rw [ed] at w
  obtain ⟨a, vs, rfl, ha, ra⟩ := w.tupI r1.fh'
  have := repL_ints ra
  subst this
  exact ⟨a, ns, rfl, ha, hl, hn, hq _ S1 _ H1 F1 hQ c1 e1 r1 (.inl (.int _))⟩
/-! ### sorted(whole numbers) -/
def sortedD : D1 := fun x P => ∃ ns : List Int, x = .lst (ns.map .int) ∧ ∀ ns' : List Int, ns'.Perm ns → ns'.Pairwise (· ≤ ·) → P (.lst (ns'.map .int))
theorem ints_rep : ∀ (ns : List Int), RepL K F (ns.map V.int) (ns.map .int)
  | [] => .nil
  | n :: ns => .cons (.int n) (ints_rep ns)
theorem cl_sorted : CallL K (rSortedI K) (on1 sortedD) := call1 fun g F H σ S v d P Q' r h f q => by
  obtain ⟨ns, rfl, hP⟩ := f
  obtain ⟨a, vs, rfl, ha, ra⟩ := h.lstI r.fh'
  have := repL_ints ra
  subst this
  refine ⟨a, ns, rfl, SqL.of ha, fun ns' p hp hs hn => ?_⟩
  exact q.lst r (hP ns' hp hs) (ints_rep ns') p hn
theorem call_sortedIK {X : Cx} (hK : X.K = K) : CallR X (.builtin "sorted") (rSortedI K) := by subst hK; exact cr_sortedI
end
end L3
set_option linter.all false
set_option maxRecDepth 100000
set_option maxHeartbeats 4000000
/-! L3, part V: own errors with one field, raised and caught. -/
namespace PySem
open PySem.W PySem.Calls PyProof.Rows PySem.HandSPX Builtin Builtin.ObjectAttr
abbrev Arm : List Value := [.type "ArithmeticError", .type "Exception", .type "BaseException", .type "object"]
/-- a field of a new exception over any base -/
theorem excOsaB {prog : Program} {w : World} {A : Around} {R : Result → Shared → Prop} {s : Shared} {K : Frag} {B : String} {bmB bm bs : List Value} {name nm qn : Str} {tk : Tok} {v : Value} {x C N : Addr} {fv : Array Value} {sn : List Str} {sub : List Value} {ab : Bool} {col : Option Bool}
    (SF : StoreFacts B bmB "object.__setattr__" "object") (X : K.In s.heap) (hx : s.heap.get? x = some { cls := .ref C, data := .fields fv })
    (hcl : clsIn K C = some { name := nm, bases := bs, mro := .ref C :: bm, ns := N, qualname := qn, hasDict := true, slotNames := sn, subclasses := sub, abstract := ab, collection := col, hasDel := false }) (hbm : excTail bmB bm = true) (ha : findIn K (.ref C) name = some none)
    (hq : ∀ h' tk' dx, (∀ b o, b ≠ x → s.heap.get? b = some o → h'.get? b = some o) → s.heap.objs.size ≤ dx → dx ≠ x → h'.get? x = some { cls := .ref C, dict := some dx, data := .fields fv } →
      h'.Ns1 dx (fun y => if y = name then some v else none) → R (.ok (.ret .none)) { s with heap := h', toks := tk' }) :
    codeAny (model prog w) A (.call (.builtin "object.__setattr__") ⟨[.ref x, .str name tk, v], []⟩) R s := by
  have I : InstAt s.heap x { cls := .ref C, data := .fields fv } C none := ⟨hx, rfl, rfl, trivial⟩
  have ho : excOver K C bmB = true := by unfold excOver; rw [hcl]; simp [hbm]
  have ht : takerIn K C name = some none := by unfold takerIn; rw [ha]; rfl
  have hC : Looks (model prog w) s.heap (classData C) _ := looks_clsIn X hcl
  have hxs : x ≠ s.heap.objs.size := Nat.ne_of_lt (Heap.lt_size hx)
  refine osa_openX SF X I ho ht fun b => ?_
  show wpAny _ _ (storeInOwnDict (.ref x) (.ref C) (.str name tk) name v b) _ _ s
  obtain ⟨hp, g, d, t, os⟩ := s
  unfold storeInOwnDict ownDictForStores; repeat (first | with_reducible refine store_in_new ?_ ?_ | with_reducible refine wpAny_loadPart_at hx ?_ | with_reducible refine hC.at ?_ | wp_step)
  · refine ⟨_, #[], _, (Heap.get?_update_ne _ _ _ _ hxs.symm).trans (Heap.get?_push_at rfl rfl), rfl, fun e he => absurd he (by simp), fun _ => rfl⟩
  · intro h2 tk2 hn2 hs2
    have hx2 : (hp.push { cls := .type "dict", data := .dict #[] }).get? x = some { cls := .ref C, data := .fields fv } := Heap.get?_push_of_some _ hx
    refine hq h2 tk2 hp.objs.size (fun a o hne hao => ?_) (Nat.le_refl _) hxs.symm ((hs2.2 x hxs).trans (Heap.get?_update_self _ hx2 rfl)) hn2
    exact (hs2.2 a (Nat.ne_of_lt (Heap.lt_size hao))).trans ((Heap.get?_update_ne _ _ _ _ hne).trans (Heap.get?_push_of_some _ hao))
end PySem
namespace PySem
namespace Low_given
open PySem.W PySem.Calls PyProof.Rows PySem.HandSPX
/-! ### the text of __init__ -/
def iA (p1 p2 : Pos) : Arguments := { posonlyargs := [], args := [{ arg := "self", annotation := none, pos := p1 }, { arg := "given", annotation := none, pos := p2 }], vararg := none, kwonlyargs := [], kw_defaults := [], kwarg := none, defaults := [] }
def iB (q1 q2 q3 q4 : Pos) : List Stmt := [.Assign [.Attribute (.Name "self" q1) "given" q2] (.Name "given" q3) q4]
def iS : Scope := { kind := .function, names := [(PySem.Str.ofString "self", .local), (PySem.Str.ofString "given", .local)], isGenerator := false, isCoroutine := false, more := [] }
/-- what the written part says of Low, at C, and of its __init__, at fI -/
structure LowTxt (K : Frag) (mg : Str → Option Value) (cn qn : Str) (C fI : Addr) : Prop where
  gC : mg cn = some (.ref C)
  nd : (cn == ("__debug__" : Str)) = false
  cls : ∃ nm q N bs bm sn sub ab col dd k0 k1 k2 k3 k5, K.lookup C = some (excClassObj nm q C N bs bm true sn sub ab col dd k0 k1 k2 k3 k5 "ValueError.__new__") ∧ refsVE bm = true
  sa : findIn K (.ref C) "__setattr__" = some (some (.builtin "object.__setattr__"))
  ga : findIn K (.ref C) "__getattribute__" = some (some (.builtin "BaseException.__getattribute__"))
  gg : findIn K (.ref C) "__getattr__" = some none
  noN : findIn K (.ref C) "given" = some none
  iC : findIn K (.ref C) "__init__" = some (some (.ref fI))
  tC : typeIn K (.ref fI) = some (.type "function")
  kC : keepIn K (.ref C) = true
  exC : subIn K (.ref C) (.type "BaseException") = some true
  tyC : typeIn K (.ref C) = some (.type "type")
  hdC : hasDictIn K C = true
  te : exmOne K (.ref C) (.ref C) = some true
  fn : ∃ (oc : Value) (od : Option Addr) (doc pm : Value) (an : Option Addr) (cdv ct : Value) (osl : Array (Option Value)) (p1 p2 q1 q2 q3 q4 : Pos),
    K.lookup fI = some ⟨oc, od, .func (fnOf "__init__" qn (iA p1 p2) (iB q1 q2 q3 q4) iS .none .none doc pm an cdv ct), osl⟩ ∧ codeIn K cdv qn = true
theorem one_size (v : Value) : [v].length ≤ sizeLine := by
  rw [sizeLine_eq]
  exact (by decide : 1 ≤ 16777216)
theorem kept_but {K : Frag} {h h' : Heap} {x : Addr} (X : K.In h) (hx : K.lookup x = none) (k : ∀ b o, b ≠ x → h.get? b = some o → h'.get? b = some o) : K.In h' := fun a o e =>
  k a o (fun z => by rw [z, hx] at e; cases e) (X a o e)
theorem ldC {M : Model} {s : Shared} {name : Str} {scope : Scope} {L a : Addr} {cd : Value} {m : Str → Option Value} {x : Str} {pos : Pos} {v : Value} {Q : Value → Shared → Prop} {A : Around} {E : Value → Shared → Prop} (hn : s.heap.Ns L m) (hv : m x = some v) (h : Q v s)
    (hk : scope.kind = .function := by rfl) (hl : (envOfC name scope L a cd).kindOf x = some .local := by rfl) (hd : (x == ("__debug__" : Str)) = false := by decide) :
    wpAny M A (eval (.Name x pos) (envOfC name scope L a cd)) Q E s := wpAny_Name (wpAny_loadName_local hk hl hn hv h) hd
/-- what __init__ leaves of a fresh exception at x -/
structure InitEnd (h h' : Heap) (x C dx t1 : Addr) (v : Value) : Prop where
  keep : ∀ b o, b ≠ x → h.get? b = some o → h'.get? b = some o
  obj : h'.get? x = some { cls := .ref C, dict := some dx, data := .fields #[.ref t1, .none, .none, .none, .bool false, .none] }
  dbig : h.objs.size ≤ dx
  dne : dx ≠ x
  ns : h'.Ns1 dx (fun y => if y = "given" then some v else none)
/-- a made Low -/
structure OwnMade (h h' : Heap) (e C d : Addr) (v : Value) : Prop where
  keep : ∀ b o, h.get? b = some o → h'.get? b = some o
  new : h.objs.size ≤ e
  obj : ∃ oe vs, h'.get? e = some oe ∧ oe.cls = .ref C ∧ oe.dict = some d ∧ oe.data = .fields vs ∧ vs[1]? = some .none
  dbig : h.objs.size ≤ d
  dne : d ≠ e
  ns : h'.Ns1 d (fun y => if y = "given" then some v else none)
section
variable {prog : Program} {w : World} {A : Around} {E : Value → Shared → Prop} {R : Result → Shared → Prop} {s : Shared} {K : Frag} {mg : Str → Option Value} {cn qn : Str} {C fI : Addr}
theorem low_init (T : LowTxt K mg cn qn C fI) {x t0 : Addr} {v : Value} (X : K.In s.heap) (hlim : s.heap.NoLimit) (hx : s.heap.get? x = some (excO C t0)) (hnx : K.lookup x = none) (hroom : A.depth < recursionLimit)
    (hq : ∀ h' tk dx, InitEnd s.heap h' x C dx t0 v → R (.ok (.ret .none)) { s with heap := h', toks := tk }) :
    codeAny (model prog w) A (.call (.ref fI) ⟨[.ref x, v], []⟩) R s := by
  obtain ⟨oc, od, doc, pm, an, cdv, ct, osl, p1, p2, q1, q2, q3, q4, ho, hcd⟩ := T.fn
  obtain ⟨nm, q, N, bs, bm, sn, sub, ab, col, dd, k0, k1, k2, k3, k5, hC, hbm⟩ := T.cls
  have hcl : clsIn K C = some { name := nm, bases := bs, mro := .ref C :: bm, ns := N, qualname := q, hasDict := true, slotNames := sn, subclasses := sub, abstract := ab, collection := col, hasDel := false } := by unfold clsIn; rw [hC] <;> rfl
  refine Att.call_fn (binds := [("self", .ref x), ("given", v)]) X hlim ho hcd hroom (BindsTo.of_eq (by first | rfl | with_unfolding_all rfl)) (by first | rfl | decide | with_unfolding_all rfl) (fun s₁ IC => ?_) rfl rfl rfl
  obtain ⟨h₁, tk₁, rfl⟩ := IC.toInCall.same
  have k : ∀ b o, s.heap.get? b = some o → h₁.get? b = some o := IC.toInCall.keep
  have hn := IC.toInCall.ns
  have hxL : s.heap.objs.size ≠ x := Nat.ne_of_gt (Heap.lt_size hx)
  have X₁ : K.In h₁ := X.keeps k
  have hx₁ := k _ _ hx
  -- self.by = by
  show wpAny _ _ (execs _ _) _ _ _
  refine wpAny_execs_cons (plainObj_wpAny_Assign_Attribute ?_)
  refine ldC (v := v) hn (by first | rfl | with_unfolding_all rfl | kernel_rfl) (ldC (v := .ref x) hn (by first | rfl | with_unfolding_all rfl | kernel_rfl) ?_)
  refine set_plain X₁ (ox := excO C t0) (od := none) ⟨hx₁, rfl, rfl, trivial⟩ T.sa ?_
  refine exc_osa X₁ hx₁ hcl (show refsVE (.ref C :: bm) = true from hbm) rfl T.noN (fun h₃ tk₃ dx k₃ dn dne hx₃ hn₃ => ?_)
  show wpAny _ _ (execs _ _) _ _ _
  have z : s.heap.objs.size < h₁.objs.size := hn.lt
  exact wpAny_execs_nil (hq h₃ tk₃ dx ⟨fun b o hb e => k₃ b o hb (k b o e), hx₃, Nat.le_of_lt (Nat.lt_of_lt_of_le z dn), dne, hn₃⟩)
theorem low_made (T : LowTxt K mg cn qn C fI) {v : Value} (X : K.In s.heap) (hlim : s.heap.NoLimit) (hroom : A.depth + 1 < recursionLimit)
    (hq : ∀ h' tk e d, OwnMade s.heap h' e C d v → R (.ok (.ret (.ref e))) { s with heap := h', toks := tk }) :
    codeAny (model prog w) A (.call (.ref C) ⟨[v], []⟩) R s := by
  obtain ⟨nm, q, N, bs, bm, sn, sub, ab, col, dd, k0, k1, k2, k3, k5, hC, hbm⟩ := T.cls
  obtain ⟨hp, g, dr, tk, os⟩ := s
  have k : ∀ b o, hp.get? b = some o → ((hp.push (kdv_tup [v])).push (excO C hp.objs.size)).get? b = some o := fun b o e => Heap.get?_push_of_some _ (Heap.get?_push_of_some _ e)
  have hget : ((hp.push (kdv_tup [v])).push (excO C hp.objs.size)).get? (hp.objs.size + 1) = some (excO C hp.objs.size) := by heap_get
  have hnx : K.lookup (hp.objs.size + 1) = none := by
    cases e : K.lookup (hp.objs.size + 1) with
    | none => rfl
    | some o =>
      have z : hp.get? (hp.objs.size + 1) = some o := X _ _ e
      exact absurd (Nat.lt_of_succ_lt (Heap.lt_size z)) (Nat.lt_irrefl _)
  refine call_own F.excBase_ValueError (fun X => refsVE_contains X bm hbm) (X _ _ hC) (looks_findIn X T.iC) (fun self => bind_fn X self T.tC) (one_size v) ?_
  refine low_init (s := ⟨(hp.push (kdv_tup [v])).push (excO C hp.objs.size), g, dr, tk, os⟩) T (X.keeps k) (hlim.keeps k) hget hnx ?_ fun h' tk' dx ⟨k', hx, dn, dne, hns⟩ => ?_
  · show A.depth + 1 < recursionLimit
    exact hroom
  · have old : ∀ b o, hp.get? b = some o → h'.get? b = some o := fun b o e => k' b o (Nat.ne_of_lt (Nat.lt_succ_of_lt (Heap.lt_size e))) (k b o e)
    have z : hp.objs.size + 1 + 1 ≤ dx := by
      first
        | (simpa only [Heap.size_push] using dn)
        | exact dn
        | (have q := dn; rw [Heap.size_push, Heap.size_push] at q; exact q)
    exact ⟨rfl, hq h' tk' (hp.objs.size + 1) dx ⟨old, Nat.le_succ _, ⟨_, _, hx, rfl, rfl, rfl, rfl⟩, Nat.le_trans (Nat.le_trans (Nat.le_succ _) (Nat.le_succ _)) z, dne, hns⟩⟩
end
end Low_given
end PySem
namespace L2
open PySem PySem.Spec PyProof.Rows
theorem relO_low_given {v : V} {v' : Value} (r : RelV v v') (f : Str) : RelO (List.lookup f [(("given" : Str), v)]) (if f = "given" then some v' else none) := by
  by_cases hw : f = "given"
  · subst hw
    rw [if_pos rfl]
    have q : List.lookup ("given" : Str) [(("given" : Str), v)] = some v := by simp [List.lookup]
    rw [q]
    exact r
  · rw [if_neg hw]
    have qw : (f == ("given" : Str)) = false := by simpa using hw
    have q2 : List.lookup f [(("given" : Str), v)] = none := by simp [List.lookup, qw]
    rw [q2]
    trivial
section
variable {X : Cx} {cn qn : Str} {C fI : Addr}
/-- Low(e) -/
def tMkLow_given (C : Addr) (ta : TA) : St → Hp → XK → Prop := fun σ H Q => ta σ H fun vs H1 => ∃ v, vs = [v] ∧ ∀ d, H1 d = none → Q (.ref C) (some d) (upd H1 d (.xd [(("given" : Str), v)]))
theorem pmk_low_given {a : Expr} {ta : TA} {p pos : Pos} {k : Nat} (T : PySem.Low_given.LowTxt X.K X.mg cn qn C fI) (hr : Room k X.A) (ha : PA X [a] ta) (hg : Gl X cn := by rfl)
    (he : starEach (a :: []) X.env = (false, eval a X.env) :: starEach [] X.env := by rfl) (hpl : (backTo pos (starEach [] X.env)).any (·.1) = false := by rfl) :
    PMk X (.Call (.Name cn p) [a] [] pos) (tMkLow_given C ta) := by
  intro pins s σ H Q I h
  refine wpAny_Call_Name_kw (ld_glob I hg T.gC ?_ T.nd)
  refine PySem.W.callWith_K (h₀ := X.base) I.ok.mod.kin T.kC (thn (ha.run pos pins s σ H _ I h) fun us s1 hh => ?_) he hpl
  obtain ⟨vs, H1, I1, r1, v, ev, q1⟩ := hh
  subst ev
  refine ⟨I1.kIn, ?_⟩
  cases r1 with
  | cons rv rn =>
    rename_i v' us'
    cases rn
    show wpAny _ _ (call (.ref C) [v']) _ _ _
    have hlim := I1.nolimit
    obtain ⟨hp, g, dr, tk, os⟩ := s1
    refine wpAny_call (PySem.Low_given.low_made T I1.kIn hlim (by have := hr.dp; omega) fun h' tk' e d M => ?_)
    show MkP X pins σ Q (.ref e) ⟨h', g, dr, tk', os⟩
    obtain ⟨oe, fv, hoe, hc, hd, hdat, h1⟩ := M.obj
    have hns := M.ns
    obtain ⟨G', g1, g2⟩ := restrict h' fun b => decide (b ≠ e)
    have gk : ∀ b, b ≠ e → G'.get? b = h'.get? b := fun b hb => g1 b (decide_eq_true hb)
    have ge : G'.get? e = none := g2 e (by simp)
    have old : ∀ b o, hp.get? b = some o → G'.get? b = some o := fun b o q => (gk b (Nat.ne_of_lt (Nat.lt_of_lt_of_le (Heap.lt_size q) M.new))).trans (M.keep b o q)
    have ob : ObjOk X.prog X.w (upd H1 d (.xd [(("given" : Str), v)])) G' d (.xd [(("given" : Str), v)]) :=
      ⟨_, hns.at (fun o q => (gk d M.dne).trans q), fun f => relO_low_given rv f⟩
    have J : Inv X pins σ (upd H1 d (.xd [(("given" : Str), v)])) ⟨G', g, dr, tk', os⟩ := I1.laid (t' := tk') old M.dbig ob
    refine ⟨e, oe, fv, ⟨G', g, dr, tk', os⟩, _, .ref C, some d, rfl, J, fun b o q => ?_, ge, hoe, ⟨hc, hd⟩, hdat, h1, ?_, rfl, I1.bare, raises_own T.exC T.tyC, q1 d (I1.hok.fresh M.dbig)⟩
    · by_cases hb : b = e
      · have q' : G'.get? b = some o := q
        rw [hb, ge] at q'; cases q'
      · exact (gk b hb).symm.trans q
    · rw [upd_ne (Ne.symm M.dne)]
      exact I1.hok.fresh M.new
/-- raise Low(e) -/
def tRaiseLow_given (C : Addr) (W : WX) (ta : TA) : TS := fun _ σ H => tMkLow_given C ta σ H fun cls d H' => W cls d σ H'
theorem ps_raiseLow_given {a : Expr} {ta : TA} {W : WX} {p pos pos2 : Pos} {k : Nat} (hc : X.calm = true) (T : PySem.Low_given.LowTxt X.K X.mg cn qn C fI) (hr : Room k X.A) (tk : Takes X W) (ha : PA X [a] ta) (hg : Gl X cn := by rfl)
    (he : starEach (a :: []) X.env = (false, eval a X.env) :: starEach [] X.env := by rfl) (hpl : (backTo pos (starEach [] X.env)).any (·.1) = false := by rfl) :
    PS X (.Raise (some (.Call (.Name cn p) [a] [] pos)) none pos2) (tRaiseLow_given C W ta) := ps_raise hc tk (pmk_low_given T hr ha hg he hpl)
/-- low.by, low the exception that the suite holds (at a; its class cls, its dict d) -/
def tByLow_given (C : Addr) (a : Addr) (cls : Value) (d : Option Addr) (te : TE) : TE := fun σ H Q => te σ H fun x H1 => x = .ref a ∧ cls = .ref C ∧ ∃ (dd : Addr) (v : V), d = some dd ∧ H1 dd = some (.xd [(("given" : Str), v)]) ∧ Q v H1
theorem pe_byLow_given {a : Addr} {oe : Obj} {cls : Value} {d : Option Addr} {pn : List (Addr × Obj)} {e : Expr} {te : TE} {pos : Pos} (T : PySem.Low_given.LowTxt X.K X.mg cn qn C fI) (hz : Zc cls d oe) (hf : ∃ vs, oe.data = .fields vs) (he : PE (X.suite a ((a, oe) :: pn)) e te)
    (hb : attributeBase e "given" X.env (eval e X.env) = eval e X.env := by rfl) :
    PE (X.suite a ((a, oe) :: pn)) (.Attribute e "given" pos) (tByLow_given C a cls d te) := by
  refine ⟨fun pins s σ H Q I h => ?_⟩
  refine attr_of hb (thn (he.run pins s σ H _ I h) fun u s1 hh => ?_)
  obtain ⟨x, H1, I1, rx, ex, ec, dd, v, ed, ea, q⟩ := hh
  subst ex
  obtain rfl : u = Value.ref a := rx
  subst ec
  subst ed
  obtain ⟨ha, _⟩ := I1.pin (a, oe) (List.mem_append_left _ List.mem_cons_self)
  obtain ⟨vs, hd⟩ := hf
  have hx : ObjOk X.prog X.w H1 s1.heap dd (.xd [(("given" : Str), v)]) := I1.hok dd _ ea
  obtain ⟨mA, hns, hr⟩ := hx
  obtain ⟨od, ho, hl⟩ := lookIn_ns hns
  have l : List.lookup ("given" : Str) [(("given" : Str), v)] = some v := by simp [List.lookup]
  obtain ⟨u, hu, ru⟩ := RelO.some_of (v := v) (o := mA "given") (by rw [← l]; exact hr "given")
  have J : PySem.W.InstAt s1.heap a oe C (some od) := ⟨ha, hz.1, by unfold PySem.W.notCls; rw [hd] <;> rfl, by rw [hz.2]; exact ho⟩
  exact HandSPX.exc_get I1.kIn J T.ga T.gg T.exC (PySem.W.findObj_own T.hdC T.noN rfl (by rw [hl, hu])) (handed_of ru) ⟨v, H1, I1.tok _, ru, q⟩
end
end L2

namespace PySem
namespace Low_index
open PySem.W PySem.Calls PyProof.Rows PySem.HandSPX
/-! ### the text of __init__ -/
def iA (p1 p2 : Pos) : Arguments := { posonlyargs := [], args := [{ arg := "self", annotation := none, pos := p1 }, { arg := "index", annotation := none, pos := p2 }], vararg := none, kwonlyargs := [], kw_defaults := [], kwarg := none, defaults := [] }
def iB (q1 q2 q3 q4 : Pos) : List Stmt := [.Assign [.Attribute (.Name "self" q1) "index" q2] (.Name "index" q3) q4]
def iS : Scope := { kind := .function, names := [(PySem.Str.ofString "self", .local), (PySem.Str.ofString "index", .local)], isGenerator := false, isCoroutine := false, more := [] }
/-- what the written part says of Low, at C, and of its __init__, at fI -/
structure LowTxt (K : Frag) (mg : Str → Option Value) (cn qn : Str) (C fI : Addr) : Prop where
  gC : mg cn = some (.ref C)
  nd : (cn == ("__debug__" : Str)) = false
  cls : ∃ nm q N bs bm sn sub ab col dd k0 k1 k2 k3 k5, K.lookup C = some (excClassObj nm q C N bs bm true sn sub ab col dd k0 k1 k2 k3 k5 "ValueError.__new__") ∧ refsVE bm = true
  sa : findIn K (.ref C) "__setattr__" = some (some (.builtin "object.__setattr__"))
  ga : findIn K (.ref C) "__getattribute__" = some (some (.builtin "BaseException.__getattribute__"))
  gg : findIn K (.ref C) "__getattr__" = some none
  noN : findIn K (.ref C) "index" = some none
  iC : findIn K (.ref C) "__init__" = some (some (.ref fI))
  tC : typeIn K (.ref fI) = some (.type "function")
  kC : keepIn K (.ref C) = true
  exC : subIn K (.ref C) (.type "BaseException") = some true
  tyC : typeIn K (.ref C) = some (.type "type")
  hdC : hasDictIn K C = true
  te : exmOne K (.ref C) (.ref C) = some true
  fn : ∃ (oc : Value) (od : Option Addr) (doc pm : Value) (an : Option Addr) (cdv ct : Value) (osl : Array (Option Value)) (p1 p2 q1 q2 q3 q4 : Pos),
    K.lookup fI = some ⟨oc, od, .func (fnOf "__init__" qn (iA p1 p2) (iB q1 q2 q3 q4) iS .none .none doc pm an cdv ct), osl⟩ ∧ codeIn K cdv qn = true
theorem one_size (v : Value) : [v].length ≤ sizeLine := by
  rw [sizeLine_eq]
  exact (by decide : 1 ≤ 16777216)
theorem kept_but {K : Frag} {h h' : Heap} {x : Addr} (X : K.In h) (hx : K.lookup x = none) (k : ∀ b o, b ≠ x → h.get? b = some o → h'.get? b = some o) : K.In h' := fun a o e =>
  k a o (fun z => by rw [z, hx] at e; cases e) (X a o e)
theorem ldC {M : Model} {s : Shared} {name : Str} {scope : Scope} {L a : Addr} {cd : Value} {m : Str → Option Value} {x : Str} {pos : Pos} {v : Value} {Q : Value → Shared → Prop} {A : Around} {E : Value → Shared → Prop} (hn : s.heap.Ns L m) (hv : m x = some v) (h : Q v s)
    (hk : scope.kind = .function := by rfl) (hl : (envOfC name scope L a cd).kindOf x = some .local := by rfl) (hd : (x == ("__debug__" : Str)) = false := by decide) :
    wpAny M A (eval (.Name x pos) (envOfC name scope L a cd)) Q E s := wpAny_Name (wpAny_loadName_local hk hl hn hv h) hd
/-- what __init__ leaves of a fresh exception at x -/
structure InitEnd (h h' : Heap) (x C dx t1 : Addr) (v : Value) : Prop where
  keep : ∀ b o, b ≠ x → h.get? b = some o → h'.get? b = some o
  obj : h'.get? x = some { cls := .ref C, dict := some dx, data := .fields #[.ref t1, .none, .none, .none, .bool false, .none] }
  dbig : h.objs.size ≤ dx
  dne : dx ≠ x
  ns : h'.Ns1 dx (fun y => if y = "index" then some v else none)
/-- a made Low -/
structure OwnMade (h h' : Heap) (e C d : Addr) (v : Value) : Prop where
  keep : ∀ b o, h.get? b = some o → h'.get? b = some o
  new : h.objs.size ≤ e
  obj : ∃ oe vs, h'.get? e = some oe ∧ oe.cls = .ref C ∧ oe.dict = some d ∧ oe.data = .fields vs ∧ vs[1]? = some .none
  dbig : h.objs.size ≤ d
  dne : d ≠ e
  ns : h'.Ns1 d (fun y => if y = "index" then some v else none)
section
variable {prog : Program} {w : World} {A : Around} {E : Value → Shared → Prop} {R : Result → Shared → Prop} {s : Shared} {K : Frag} {mg : Str → Option Value} {cn qn : Str} {C fI : Addr}
theorem low_init (T : LowTxt K mg cn qn C fI) {x t0 : Addr} {v : Value} (X : K.In s.heap) (hlim : s.heap.NoLimit) (hx : s.heap.get? x = some (excO C t0)) (hnx : K.lookup x = none) (hroom : A.depth < recursionLimit)
    (hq : ∀ h' tk dx, InitEnd s.heap h' x C dx t0 v → R (.ok (.ret .none)) { s with heap := h', toks := tk }) :
    codeAny (model prog w) A (.call (.ref fI) ⟨[.ref x, v], []⟩) R s := by
  obtain ⟨oc, od, doc, pm, an, cdv, ct, osl, p1, p2, q1, q2, q3, q4, ho, hcd⟩ := T.fn
  obtain ⟨nm, q, N, bs, bm, sn, sub, ab, col, dd, k0, k1, k2, k3, k5, hC, hbm⟩ := T.cls
  have hcl : clsIn K C = some { name := nm, bases := bs, mro := .ref C :: bm, ns := N, qualname := q, hasDict := true, slotNames := sn, subclasses := sub, abstract := ab, collection := col, hasDel := false } := by unfold clsIn; rw [hC] <;> rfl
  refine Att.call_fn (binds := [("self", .ref x), ("index", v)]) X hlim ho hcd hroom (BindsTo.of_eq (by first | rfl | with_unfolding_all rfl)) (by first | rfl | decide | with_unfolding_all rfl) (fun s₁ IC => ?_) rfl rfl rfl
  obtain ⟨h₁, tk₁, rfl⟩ := IC.toInCall.same
  have k : ∀ b o, s.heap.get? b = some o → h₁.get? b = some o := IC.toInCall.keep
  have hn := IC.toInCall.ns
  have hxL : s.heap.objs.size ≠ x := Nat.ne_of_gt (Heap.lt_size hx)
  have X₁ : K.In h₁ := X.keeps k
  have hx₁ := k _ _ hx
  -- self.by = by
  show wpAny _ _ (execs _ _) _ _ _
  refine wpAny_execs_cons (plainObj_wpAny_Assign_Attribute ?_)
  refine ldC (v := v) hn (by first | rfl | with_unfolding_all rfl | kernel_rfl) (ldC (v := .ref x) hn (by first | rfl | with_unfolding_all rfl | kernel_rfl) ?_)
  refine set_plain X₁ (ox := excO C t0) (od := none) ⟨hx₁, rfl, rfl, trivial⟩ T.sa ?_
  refine exc_osa X₁ hx₁ hcl (show refsVE (.ref C :: bm) = true from hbm) rfl T.noN (fun h₃ tk₃ dx k₃ dn dne hx₃ hn₃ => ?_)
  show wpAny _ _ (execs _ _) _ _ _
  have z : s.heap.objs.size < h₁.objs.size := hn.lt
  exact wpAny_execs_nil (hq h₃ tk₃ dx ⟨fun b o hb e => k₃ b o hb (k b o e), hx₃, Nat.le_of_lt (Nat.lt_of_lt_of_le z dn), dne, hn₃⟩)
theorem low_made (T : LowTxt K mg cn qn C fI) {v : Value} (X : K.In s.heap) (hlim : s.heap.NoLimit) (hroom : A.depth + 1 < recursionLimit)
    (hq : ∀ h' tk e d, OwnMade s.heap h' e C d v → R (.ok (.ret (.ref e))) { s with heap := h', toks := tk }) :
    codeAny (model prog w) A (.call (.ref C) ⟨[v], []⟩) R s := by
  obtain ⟨nm, q, N, bs, bm, sn, sub, ab, col, dd, k0, k1, k2, k3, k5, hC, hbm⟩ := T.cls
  obtain ⟨hp, g, dr, tk, os⟩ := s
  have k : ∀ b o, hp.get? b = some o → ((hp.push (kdv_tup [v])).push (excO C hp.objs.size)).get? b = some o := fun b o e => Heap.get?_push_of_some _ (Heap.get?_push_of_some _ e)
  have hget : ((hp.push (kdv_tup [v])).push (excO C hp.objs.size)).get? (hp.objs.size + 1) = some (excO C hp.objs.size) := by heap_get
  have hnx : K.lookup (hp.objs.size + 1) = none := by
    cases e : K.lookup (hp.objs.size + 1) with
    | none => rfl
    | some o =>
      have z : hp.get? (hp.objs.size + 1) = some o := X _ _ e
      exact absurd (Nat.lt_of_succ_lt (Heap.lt_size z)) (Nat.lt_irrefl _)
  refine call_own F.excBase_ValueError (fun X => refsVE_contains X bm hbm) (X _ _ hC) (looks_findIn X T.iC) (fun self => bind_fn X self T.tC) (one_size v) ?_
  refine low_init (s := ⟨(hp.push (kdv_tup [v])).push (excO C hp.objs.size), g, dr, tk, os⟩) T (X.keeps k) (hlim.keeps k) hget hnx ?_ fun h' tk' dx ⟨k', hx, dn, dne, hns⟩ => ?_
  · show A.depth + 1 < recursionLimit
    exact hroom
  · have old : ∀ b o, hp.get? b = some o → h'.get? b = some o := fun b o e => k' b o (Nat.ne_of_lt (Nat.lt_succ_of_lt (Heap.lt_size e))) (k b o e)
    have z : hp.objs.size + 1 + 1 ≤ dx := by
      first
        | (simpa only [Heap.size_push] using dn)
        | exact dn
        | (have q := dn; rw [Heap.size_push, Heap.size_push] at q; exact q)
    exact ⟨rfl, hq h' tk' (hp.objs.size + 1) dx ⟨old, Nat.le_succ _, ⟨_, _, hx, rfl, rfl, rfl, rfl⟩, Nat.le_trans (Nat.le_trans (Nat.le_succ _) (Nat.le_succ _)) z, dne, hns⟩⟩
end
end Low_index
end PySem
namespace L2
open PySem PySem.Spec PyProof.Rows
theorem relO_low_index {v : V} {v' : Value} (r : RelV v v') (f : Str) : RelO (List.lookup f [(("index" : Str), v)]) (if f = "index" then some v' else none) := by
  by_cases hw : f = "index"
  · subst hw
    rw [if_pos rfl]
    have q : List.lookup ("index" : Str) [(("index" : Str), v)] = some v := by simp [List.lookup]
    rw [q]
    exact r
  · rw [if_neg hw]
    have qw : (f == ("index" : Str)) = false := by simpa using hw
    have q2 : List.lookup f [(("index" : Str), v)] = none := by simp [List.lookup, qw]
    rw [q2]
    trivial
section
variable {X : Cx} {cn qn : Str} {C fI : Addr}
/-- Low(e) -/
def tMkLow_index (C : Addr) (ta : TA) : St → Hp → XK → Prop := fun σ H Q => ta σ H fun vs H1 => ∃ v, vs = [v] ∧ ∀ d, H1 d = none → Q (.ref C) (some d) (upd H1 d (.xd [(("index" : Str), v)]))
theorem pmk_low_index {a : Expr} {ta : TA} {p pos : Pos} {k : Nat} (T : PySem.Low_index.LowTxt X.K X.mg cn qn C fI) (hr : Room k X.A) (ha : PA X [a] ta) (hg : Gl X cn := by rfl)
    (he : starEach (a :: []) X.env = (false, eval a X.env) :: starEach [] X.env := by rfl) (hpl : (backTo pos (starEach [] X.env)).any (·.1) = false := by rfl) :
    PMk X (.Call (.Name cn p) [a] [] pos) (tMkLow_index C ta) := by
  intro pins s σ H Q I h
  refine wpAny_Call_Name_kw (ld_glob I hg T.gC ?_ T.nd)
  refine PySem.W.callWith_K (h₀ := X.base) I.ok.mod.kin T.kC (thn (ha.run pos pins s σ H _ I h) fun us s1 hh => ?_) he hpl
  obtain ⟨vs, H1, I1, r1, v, ev, q1⟩ := hh
  subst ev
  refine ⟨I1.kIn, ?_⟩
  cases r1 with
  | cons rv rn =>
    rename_i v' us'
    cases rn
    show wpAny _ _ (call (.ref C) [v']) _ _ _
    have hlim := I1.nolimit
    obtain ⟨hp, g, dr, tk, os⟩ := s1
    refine wpAny_call (PySem.Low_index.low_made T I1.kIn hlim (by have := hr.dp; omega) fun h' tk' e d M => ?_)
    show MkP X pins σ Q (.ref e) ⟨h', g, dr, tk', os⟩
    obtain ⟨oe, fv, hoe, hc, hd, hdat, h1⟩ := M.obj
    have hns := M.ns
    obtain ⟨G', g1, g2⟩ := restrict h' fun b => decide (b ≠ e)
    have gk : ∀ b, b ≠ e → G'.get? b = h'.get? b := fun b hb => g1 b (decide_eq_true hb)
    have ge : G'.get? e = none := g2 e (by simp)
    have old : ∀ b o, hp.get? b = some o → G'.get? b = some o := fun b o q => (gk b (Nat.ne_of_lt (Nat.lt_of_lt_of_le (Heap.lt_size q) M.new))).trans (M.keep b o q)
    have ob : ObjOk X.prog X.w (upd H1 d (.xd [(("index" : Str), v)])) G' d (.xd [(("index" : Str), v)]) :=
      ⟨_, hns.at (fun o q => (gk d M.dne).trans q), fun f => relO_low_index rv f⟩
    have J : Inv X pins σ (upd H1 d (.xd [(("index" : Str), v)])) ⟨G', g, dr, tk', os⟩ := I1.laid (t' := tk') old M.dbig ob
    refine ⟨e, oe, fv, ⟨G', g, dr, tk', os⟩, _, .ref C, some d, rfl, J, fun b o q => ?_, ge, hoe, ⟨hc, hd⟩, hdat, h1, ?_, rfl, I1.bare, raises_own T.exC T.tyC, q1 d (I1.hok.fresh M.dbig)⟩
    · by_cases hb : b = e
      · have q' : G'.get? b = some o := q
        rw [hb, ge] at q'; cases q'
      · exact (gk b hb).symm.trans q
    · rw [upd_ne (Ne.symm M.dne)]
      exact I1.hok.fresh M.new
/-- raise Low(e) -/
def tRaiseLow_index (C : Addr) (W : WX) (ta : TA) : TS := fun _ σ H => tMkLow_index C ta σ H fun cls d H' => W cls d σ H'
theorem ps_raiseLow_index {a : Expr} {ta : TA} {W : WX} {p pos pos2 : Pos} {k : Nat} (hc : X.calm = true) (T : PySem.Low_index.LowTxt X.K X.mg cn qn C fI) (hr : Room k X.A) (tk : Takes X W) (ha : PA X [a] ta) (hg : Gl X cn := by rfl)
    (he : starEach (a :: []) X.env = (false, eval a X.env) :: starEach [] X.env := by rfl) (hpl : (backTo pos (starEach [] X.env)).any (·.1) = false := by rfl) :
    PS X (.Raise (some (.Call (.Name cn p) [a] [] pos)) none pos2) (tRaiseLow_index C W ta) := ps_raise hc tk (pmk_low_index T hr ha hg he hpl)
/-- low.by, low the exception that the suite holds (at a; its class cls, its dict d) -/
def tByLow_index (C : Addr) (a : Addr) (cls : Value) (d : Option Addr) (te : TE) : TE := fun σ H Q => te σ H fun x H1 => x = .ref a ∧ cls = .ref C ∧ ∃ (dd : Addr) (v : V), d = some dd ∧ H1 dd = some (.xd [(("index" : Str), v)]) ∧ Q v H1
theorem pe_byLow_index {a : Addr} {oe : Obj} {cls : Value} {d : Option Addr} {pn : List (Addr × Obj)} {e : Expr} {te : TE} {pos : Pos} (T : PySem.Low_index.LowTxt X.K X.mg cn qn C fI) (hz : Zc cls d oe) (hf : ∃ vs, oe.data = .fields vs) (he : PE (X.suite a ((a, oe) :: pn)) e te)
    (hb : attributeBase e "index" X.env (eval e X.env) = eval e X.env := by rfl) :
    PE (X.suite a ((a, oe) :: pn)) (.Attribute e "index" pos) (tByLow_index C a cls d te) := by
  refine ⟨fun pins s σ H Q I h => ?_⟩
  refine attr_of hb (thn (he.run pins s σ H _ I h) fun u s1 hh => ?_)
  obtain ⟨x, H1, I1, rx, ex, ec, dd, v, ed, ea, q⟩ := hh
  subst ex
  obtain rfl : u = Value.ref a := rx
  subst ec
  subst ed
  obtain ⟨ha, _⟩ := I1.pin (a, oe) (List.mem_append_left _ List.mem_cons_self)
  obtain ⟨vs, hd⟩ := hf
  have hx : ObjOk X.prog X.w H1 s1.heap dd (.xd [(("index" : Str), v)]) := I1.hok dd _ ea
  obtain ⟨mA, hns, hr⟩ := hx
  obtain ⟨od, ho, hl⟩ := lookIn_ns hns
  have l : List.lookup ("index" : Str) [(("index" : Str), v)] = some v := by simp [List.lookup]
  obtain ⟨u, hu, ru⟩ := RelO.some_of (v := v) (o := mA "index") (by rw [← l]; exact hr "index")
  have J : PySem.W.InstAt s1.heap a oe C (some od) := ⟨ha, hz.1, by unfold PySem.W.notCls; rw [hd] <;> rfl, by rw [hz.2]; exact ho⟩
  exact HandSPX.exc_get I1.kIn J T.ga T.gg T.exC (PySem.W.findObj_own T.hdC T.noN rfl (by rw [hl, hu])) (handed_of ru) ⟨v, H1, I1.tok _, ru, q⟩
end
end L2

namespace PySem
namespace Low_given_ar
open PySem.W PySem.Calls PyProof.Rows PySem.HandSPX
/-! ### the text of __init__ -/
def iA (p1 p2 : Pos) : Arguments := { posonlyargs := [], args := [{ arg := "self", annotation := none, pos := p1 }, { arg := "given", annotation := none, pos := p2 }], vararg := none, kwonlyargs := [], kw_defaults := [], kwarg := none, defaults := [] }
def iB (q1 q2 q3 q4 : Pos) : List Stmt := [.Assign [.Attribute (.Name "self" q1) "given" q2] (.Name "given" q3) q4]
def iS : Scope := { kind := .function, names := [(PySem.Str.ofString "self", .local), (PySem.Str.ofString "given", .local)], isGenerator := false, isCoroutine := false, more := [] }
/-- what the written part says of Low, at C, and of its __init__, at fI -/
structure LowTxt (K : Frag) (mg : Str → Option Value) (cn qn : Str) (C fI : Addr) : Prop where
  gC : mg cn = some (.ref C)
  nd : (cn == ("__debug__" : Str)) = false
  cls : ∃ nm q N bs bm sn sub ab col dd k0 k1 k2 k3 k5, K.lookup C = some (excClassObj nm q C N bs bm true sn sub ab col dd k0 k1 k2 k3 k5 "ArithmeticError.__new__") ∧ excTail Arm bm = true
  sa : findIn K (.ref C) "__setattr__" = some (some (.builtin "object.__setattr__"))
  ga : findIn K (.ref C) "__getattribute__" = some (some (.builtin "BaseException.__getattribute__"))
  gg : findIn K (.ref C) "__getattr__" = some none
  noN : findIn K (.ref C) "given" = some none
  iC : findIn K (.ref C) "__init__" = some (some (.ref fI))
  tC : typeIn K (.ref fI) = some (.type "function")
  kC : keepIn K (.ref C) = true
  exC : subIn K (.ref C) (.type "BaseException") = some true
  tyC : typeIn K (.ref C) = some (.type "type")
  hdC : hasDictIn K C = true
  te : exmOne K (.ref C) (.ref C) = some true
  fn : ∃ (oc : Value) (od : Option Addr) (doc pm : Value) (an : Option Addr) (cdv ct : Value) (osl : Array (Option Value)) (p1 p2 q1 q2 q3 q4 : Pos),
    K.lookup fI = some ⟨oc, od, .func (fnOf "__init__" qn (iA p1 p2) (iB q1 q2 q3 q4) iS .none .none doc pm an cdv ct), osl⟩ ∧ codeIn K cdv qn = true
theorem one_size (v : Value) : [v].length ≤ sizeLine := by
  rw [sizeLine_eq]
  exact (by decide : 1 ≤ 16777216)
theorem kept_but {K : Frag} {h h' : Heap} {x : Addr} (X : K.In h) (hx : K.lookup x = none) (k : ∀ b o, b ≠ x → h.get? b = some o → h'.get? b = some o) : K.In h' := fun a o e =>
  k a o (fun z => by rw [z, hx] at e; cases e) (X a o e)
theorem ldC {M : Model} {s : Shared} {name : Str} {scope : Scope} {L a : Addr} {cd : Value} {m : Str → Option Value} {x : Str} {pos : Pos} {v : Value} {Q : Value → Shared → Prop} {A : Around} {E : Value → Shared → Prop} (hn : s.heap.Ns L m) (hv : m x = some v) (h : Q v s)
    (hk : scope.kind = .function := by rfl) (hl : (envOfC name scope L a cd).kindOf x = some .local := by rfl) (hd : (x == ("__debug__" : Str)) = false := by decide) :
    wpAny M A (eval (.Name x pos) (envOfC name scope L a cd)) Q E s := wpAny_Name (wpAny_loadName_local hk hl hn hv h) hd
/-- what __init__ leaves of a fresh exception at x -/
structure InitEnd (h h' : Heap) (x C dx t1 : Addr) (v : Value) : Prop where
  keep : ∀ b o, b ≠ x → h.get? b = some o → h'.get? b = some o
  obj : h'.get? x = some { cls := .ref C, dict := some dx, data := .fields #[.ref t1, .none, .none, .none, .bool false, .none] }
  dbig : h.objs.size ≤ dx
  dne : dx ≠ x
  ns : h'.Ns1 dx (fun y => if y = "given" then some v else none)
/-- a made Low -/
structure OwnMade (h h' : Heap) (e C d : Addr) (v : Value) : Prop where
  keep : ∀ b o, h.get? b = some o → h'.get? b = some o
  new : h.objs.size ≤ e
  obj : ∃ oe vs, h'.get? e = some oe ∧ oe.cls = .ref C ∧ oe.dict = some d ∧ oe.data = .fields vs ∧ vs[1]? = some .none
  dbig : h.objs.size ≤ d
  dne : d ≠ e
  ns : h'.Ns1 d (fun y => if y = "given" then some v else none)
section
variable {prog : Program} {w : World} {A : Around} {E : Value → Shared → Prop} {R : Result → Shared → Prop} {s : Shared} {K : Frag} {mg : Str → Option Value} {cn qn : Str} {C fI : Addr}
theorem low_init (T : LowTxt K mg cn qn C fI) {x t0 : Addr} {v : Value} (X : K.In s.heap) (hlim : s.heap.NoLimit) (hx : s.heap.get? x = some (excO C t0)) (hnx : K.lookup x = none) (hroom : A.depth < recursionLimit)
    (hq : ∀ h' tk dx, InitEnd s.heap h' x C dx t0 v → R (.ok (.ret .none)) { s with heap := h', toks := tk }) :
    codeAny (model prog w) A (.call (.ref fI) ⟨[.ref x, v], []⟩) R s := by
  obtain ⟨oc, od, doc, pm, an, cdv, ct, osl, p1, p2, q1, q2, q3, q4, ho, hcd⟩ := T.fn
  obtain ⟨nm, q, N, bs, bm, sn, sub, ab, col, dd, k0, k1, k2, k3, k5, hC, hbm⟩ := T.cls
  have hcl : clsIn K C = some { name := nm, bases := bs, mro := .ref C :: bm, ns := N, qualname := q, hasDict := true, slotNames := sn, subclasses := sub, abstract := ab, collection := col, hasDel := false } := by unfold clsIn; rw [hC] <;> rfl
  refine Att.call_fn (binds := [("self", .ref x), ("given", v)]) X hlim ho hcd hroom (BindsTo.of_eq (by first | rfl | with_unfolding_all rfl)) (by first | rfl | decide | with_unfolding_all rfl) (fun s₁ IC => ?_) rfl rfl rfl
  obtain ⟨h₁, tk₁, rfl⟩ := IC.toInCall.same
  have k : ∀ b o, s.heap.get? b = some o → h₁.get? b = some o := IC.toInCall.keep
  have hn := IC.toInCall.ns
  have hxL : s.heap.objs.size ≠ x := Nat.ne_of_gt (Heap.lt_size hx)
  have X₁ : K.In h₁ := X.keeps k
  have hx₁ := k _ _ hx
  -- self.by = by
  show wpAny _ _ (execs _ _) _ _ _
  refine wpAny_execs_cons (plainObj_wpAny_Assign_Attribute ?_)
  refine ldC (v := v) hn (by first | rfl | with_unfolding_all rfl | kernel_rfl) (ldC (v := .ref x) hn (by first | rfl | with_unfolding_all rfl | kernel_rfl) ?_)
  refine set_plain X₁ (ox := excO C t0) (od := none) ⟨hx₁, rfl, rfl, trivial⟩ T.sa ?_
  refine PySem.excOsaB F.store_ArithmeticError X₁ hx₁ hcl hbm T.noN (fun h₃ tk₃ dx k₃ dn dne hx₃ hn₃ => ?_)
  show wpAny _ _ (execs _ _) _ _ _
  have z : s.heap.objs.size < h₁.objs.size := hn.lt
  exact wpAny_execs_nil (hq h₃ tk₃ dx ⟨fun b o hb e => k₃ b o hb (k b o e), hx₃, Nat.le_of_lt (Nat.lt_of_lt_of_le z dn), dne, hn₃⟩)
theorem low_made (T : LowTxt K mg cn qn C fI) {v : Value} (X : K.In s.heap) (hlim : s.heap.NoLimit) (hroom : A.depth + 1 < recursionLimit)
    (hq : ∀ h' tk e d, OwnMade s.heap h' e C d v → R (.ok (.ret (.ref e))) { s with heap := h', toks := tk }) :
    codeAny (model prog w) A (.call (.ref C) ⟨[v], []⟩) R s := by
  obtain ⟨nm, q, N, bs, bm, sn, sub, ab, col, dd, k0, k1, k2, k3, k5, hC, hbm⟩ := T.cls
  obtain ⟨hp, g, dr, tk, os⟩ := s
  have k : ∀ b o, hp.get? b = some o → ((hp.push (kdv_tup [v])).push (excO C hp.objs.size)).get? b = some o := fun b o e => Heap.get?_push_of_some _ (Heap.get?_push_of_some _ e)
  have hget : ((hp.push (kdv_tup [v])).push (excO C hp.objs.size)).get? (hp.objs.size + 1) = some (excO C hp.objs.size) := by heap_get
  have hnx : K.lookup (hp.objs.size + 1) = none := by
    cases e : K.lookup (hp.objs.size + 1) with
    | none => rfl
    | some o =>
      have z : hp.get? (hp.objs.size + 1) = some o := X _ _ e
      exact absurd (Nat.lt_of_succ_lt (Heap.lt_size z)) (Nat.lt_irrefl _)
  refine call_own F.excBase_ArithmeticError (fun X => excTail_contains X _ hbm) (X _ _ hC) (looks_findIn X T.iC) (fun self => bind_fn X self T.tC) (one_size v) ?_
  refine low_init (s := ⟨(hp.push (kdv_tup [v])).push (excO C hp.objs.size), g, dr, tk, os⟩) T (X.keeps k) (hlim.keeps k) hget hnx ?_ fun h' tk' dx ⟨k', hx, dn, dne, hns⟩ => ?_
  · show A.depth + 1 < recursionLimit
    exact hroom
  · have old : ∀ b o, hp.get? b = some o → h'.get? b = some o := fun b o e => k' b o (Nat.ne_of_lt (Nat.lt_succ_of_lt (Heap.lt_size e))) (k b o e)
    have z : hp.objs.size + 1 + 1 ≤ dx := by
      first
        | (simpa only [Heap.size_push] using dn)
        | exact dn
        | (have q := dn; rw [Heap.size_push, Heap.size_push] at q; exact q)
    exact ⟨rfl, hq h' tk' (hp.objs.size + 1) dx ⟨old, Nat.le_succ _, ⟨_, _, hx, rfl, rfl, rfl, rfl⟩, Nat.le_trans (Nat.le_trans (Nat.le_succ _) (Nat.le_succ _)) z, dne, hns⟩⟩
end
end Low_given_ar
end PySem
namespace L2
open PySem PySem.Spec PyProof.Rows
theorem relO_low_given_ar {v : V} {v' : Value} (r : RelV v v') (f : Str) : RelO (List.lookup f [(("given" : Str), v)]) (if f = "given" then some v' else none) := by
  by_cases hw : f = "given"
  · subst hw
    rw [if_pos rfl]
    have q : List.lookup ("given" : Str) [(("given" : Str), v)] = some v := by simp [List.lookup]
    rw [q]
    exact r
  · rw [if_neg hw]
    have qw : (f == ("given" : Str)) = false := by simpa using hw
    have q2 : List.lookup f [(("given" : Str), v)] = none := by simp [List.lookup, qw]
    rw [q2]
    trivial
section
variable {X : Cx} {cn qn : Str} {C fI : Addr}
/-- Low(e) -/
def tMkLow_given_ar (C : Addr) (ta : TA) : St → Hp → XK → Prop := fun σ H Q => ta σ H fun vs H1 => ∃ v, vs = [v] ∧ ∀ d, H1 d = none → Q (.ref C) (some d) (upd H1 d (.xd [(("given" : Str), v)]))
theorem pmk_low_given_ar {a : Expr} {ta : TA} {p pos : Pos} {k : Nat} (T : PySem.Low_given_ar.LowTxt X.K X.mg cn qn C fI) (hr : Room k X.A) (ha : PA X [a] ta) (hg : Gl X cn := by rfl)
    (he : starEach (a :: []) X.env = (false, eval a X.env) :: starEach [] X.env := by rfl) (hpl : (backTo pos (starEach [] X.env)).any (·.1) = false := by rfl) :
    PMk X (.Call (.Name cn p) [a] [] pos) (tMkLow_given_ar C ta) := by
  intro pins s σ H Q I h
  refine wpAny_Call_Name_kw (ld_glob I hg T.gC ?_ T.nd)
  refine PySem.W.callWith_K (h₀ := X.base) I.ok.mod.kin T.kC (thn (ha.run pos pins s σ H _ I h) fun us s1 hh => ?_) he hpl
  obtain ⟨vs, H1, I1, r1, v, ev, q1⟩ := hh
  subst ev
  refine ⟨I1.kIn, ?_⟩
  cases r1 with
  | cons rv rn =>
    rename_i v' us'
    cases rn
    show wpAny _ _ (call (.ref C) [v']) _ _ _
    have hlim := I1.nolimit
    obtain ⟨hp, g, dr, tk, os⟩ := s1
    refine wpAny_call (PySem.Low_given_ar.low_made T I1.kIn hlim (by have := hr.dp; omega) fun h' tk' e d M => ?_)
    show MkP X pins σ Q (.ref e) ⟨h', g, dr, tk', os⟩
    obtain ⟨oe, fv, hoe, hc, hd, hdat, h1⟩ := M.obj
    have hns := M.ns
    obtain ⟨G', g1, g2⟩ := restrict h' fun b => decide (b ≠ e)
    have gk : ∀ b, b ≠ e → G'.get? b = h'.get? b := fun b hb => g1 b (decide_eq_true hb)
    have ge : G'.get? e = none := g2 e (by simp)
    have old : ∀ b o, hp.get? b = some o → G'.get? b = some o := fun b o q => (gk b (Nat.ne_of_lt (Nat.lt_of_lt_of_le (Heap.lt_size q) M.new))).trans (M.keep b o q)
    have ob : ObjOk X.prog X.w (upd H1 d (.xd [(("given" : Str), v)])) G' d (.xd [(("given" : Str), v)]) :=
      ⟨_, hns.at (fun o q => (gk d M.dne).trans q), fun f => relO_low_given_ar rv f⟩
    have J : Inv X pins σ (upd H1 d (.xd [(("given" : Str), v)])) ⟨G', g, dr, tk', os⟩ := I1.laid (t' := tk') old M.dbig ob
    refine ⟨e, oe, fv, ⟨G', g, dr, tk', os⟩, _, .ref C, some d, rfl, J, fun b o q => ?_, ge, hoe, ⟨hc, hd⟩, hdat, h1, ?_, rfl, I1.bare, raises_own T.exC T.tyC, q1 d (I1.hok.fresh M.dbig)⟩
    · by_cases hb : b = e
      · have q' : G'.get? b = some o := q
        rw [hb, ge] at q'; cases q'
      · exact (gk b hb).symm.trans q
    · rw [upd_ne (Ne.symm M.dne)]
      exact I1.hok.fresh M.new
/-- raise Low(e) -/
def tRaiseLow_given_ar (C : Addr) (W : WX) (ta : TA) : TS := fun _ σ H => tMkLow_given_ar C ta σ H fun cls d H' => W cls d σ H'
theorem ps_raiseLow_given_ar {a : Expr} {ta : TA} {W : WX} {p pos pos2 : Pos} {k : Nat} (hc : X.calm = true) (T : PySem.Low_given_ar.LowTxt X.K X.mg cn qn C fI) (hr : Room k X.A) (tk : Takes X W) (ha : PA X [a] ta) (hg : Gl X cn := by rfl)
    (he : starEach (a :: []) X.env = (false, eval a X.env) :: starEach [] X.env := by rfl) (hpl : (backTo pos (starEach [] X.env)).any (·.1) = false := by rfl) :
    PS X (.Raise (some (.Call (.Name cn p) [a] [] pos)) none pos2) (tRaiseLow_given_ar C W ta) := ps_raise hc tk (pmk_low_given_ar T hr ha hg he hpl)
/-- low.by, low the exception that the suite holds (at a; its class cls, its dict d) -/
def tByLow_given_ar (C : Addr) (a : Addr) (cls : Value) (d : Option Addr) (te : TE) : TE := fun σ H Q => te σ H fun x H1 => x = .ref a ∧ cls = .ref C ∧ ∃ (dd : Addr) (v : V), d = some dd ∧ H1 dd = some (.xd [(("given" : Str), v)]) ∧ Q v H1
theorem pe_byLow_given_ar {a : Addr} {oe : Obj} {cls : Value} {d : Option Addr} {pn : List (Addr × Obj)} {e : Expr} {te : TE} {pos : Pos} (T : PySem.Low_given_ar.LowTxt X.K X.mg cn qn C fI) (hz : Zc cls d oe) (hf : ∃ vs, oe.data = .fields vs) (he : PE (X.suite a ((a, oe) :: pn)) e te)
    (hb : attributeBase e "given" X.env (eval e X.env) = eval e X.env := by rfl) :
    PE (X.suite a ((a, oe) :: pn)) (.Attribute e "given" pos) (tByLow_given_ar C a cls d te) := by
  refine ⟨fun pins s σ H Q I h => ?_⟩
  refine attr_of hb (thn (he.run pins s σ H _ I h) fun u s1 hh => ?_)
  obtain ⟨x, H1, I1, rx, ex, ec, dd, v, ed, ea, q⟩ := hh
  subst ex
  obtain rfl : u = Value.ref a := rx
  subst ec
  subst ed
  obtain ⟨ha, _⟩ := I1.pin (a, oe) (List.mem_append_left _ List.mem_cons_self)
  obtain ⟨vs, hd⟩ := hf
  have hx : ObjOk X.prog X.w H1 s1.heap dd (.xd [(("given" : Str), v)]) := I1.hok dd _ ea
  obtain ⟨mA, hns, hr⟩ := hx
  obtain ⟨od, ho, hl⟩ := lookIn_ns hns
  have l : List.lookup ("given" : Str) [(("given" : Str), v)] = some v := by simp [List.lookup]
  obtain ⟨u, hu, ru⟩ := RelO.some_of (v := v) (o := mA "given") (by rw [← l]; exact hr "given")
  have J : PySem.W.InstAt s1.heap a oe C (some od) := ⟨ha, hz.1, by unfold PySem.W.notCls; rw [hd] <;> rfl, by rw [hz.2]; exact ho⟩
  exact HandSPX.exc_get I1.kIn J T.ga T.gg T.exC (PySem.W.findObj_own T.hdC T.noN rfl (by rw [hl, hu])) (handed_of ru) ⟨v, H1, I1.tok _, ru, q⟩
end
end L2

namespace L3
open PySem PySem.Spec PyProof.Rows L2
section
variable {K : PySem.W.Frag} {g : Gd} {E : WX} {F H : Hp} {σ : L2.St} {S : SS}
/-- raise C(e): the field f of it -/
@[simp] def lRaise (C : Addr) (f : Str) (T : LT) : LTS := fun D S => T S (fun d S1 => isCel d = false ∧ D.xr (.ref C) [(f, d)] S1) D.xr
/-- a block whose raising is caught: Wb, what it is to reach, by what is wished of its exceptions -/
def lTryAs (K : PySem.W.Frag) (Cn : Addr) (i : Nat) (Tb : LTS) (Ts : Addr → Value → Option Addr → LTS) : LTS := fun D S => Tb { D with xr := fun c fs S' => ∃ b, PySem.W.exmOne K c (.ref Cn) = some b ∧
  (b = true → ∃ C, c = .ref C ∧ fs ≠ [] ∧ freeSl S' i = true ∧ ∀ a dx : Addr, Ts a c (some dx) { nx := fun S2 => freeSl S2 i = true ∧ D.nx (S2.set i none), rt := D.rt, xr := RF, bk := fun S2 => freeSl S2 i = true ∧ D.bk (S2.set i none), ct := fun S2 => freeSl S2 i = true ∧ D.ct (S2.set i none) } (S'.set i (some (.v (.exc C a dx (fs.map (·.1)) (fs.map (·.2))))))) ∧
  (b = false → D.xr c fs S') } S
theorem RS.unset {i : Nat} (r : RS K g F H σ S) (hf : freeSl S i = true) : RS K g F H (σ.set i none) (S.set i none) := by
  obtain ⟨fp, r⟩ := r
  have hl := freeSl_lt hf
  have back : ∀ {j : Nat} {x : Sl}, (S.set i none)[j]? = some (some x) → j ≠ i ∧ S[j]? = some (some x) := fun {j x} q => by
    by_cases hj : j = i
    · subst hj; rw [List.getElem?_set_self hl] at q; cases q
    · rw [get_set_ne hj] at q; exact ⟨hj, q⟩
  refine ⟨fp, r.fh, r.gf, r.nb, fun j d q => ?_, fun j o k q => ?_, fun j l o k o' k' n e1 e2 => r.ap j l o k o' k' n (back e1).2 (back e2).2, by rw [List.length_set, List.length_set]; exact r.len, fun p hp => ?_, fun j k q => r.nl j k (back q).2, r.tb⟩
  · obtain ⟨hj, q⟩ := back q
    rw [get_set_ne hj]; exact r.val j d q
  · obtain ⟨hj, q⟩ := back q
    rw [get_set_ne hj]; exact r.cel j o k q
  · obtain ⟨h1, k, h2⟩ := r.lent p hp
    have hj : p.1 ≠ i := fun z => freeSl_ne hf k (by rw [← z]; exact h2)
    rw [get_set_ne hj, get_set_ne hj]
    exact ⟨h1, k, h2⟩
theorem lfs_tryAs {Cn : Addr} {i : Nat} {tb : WX → TS} {ts : Addr → Value → Option Addr → TS} {Tb : LTS} {Ts : Addr → Value → Option Addr → LTS} (hb : ∀ W : WX, LfS K W (tb W) Tb) (hs : ∀ a c d, LfS K (fun _ _ _ _ => False) (ts a c d) (Ts a c d)) :
    LfS K E (fun D σ H => tb (wAs K (.ref Cn) i ts E D) D σ H) (lTryAs K Cn i Tb Ts) := fun g σ H F S D3 D2 rs q c => by
  refine hb _ g σ H F S _ D2 rs q ⟨c.nx, c.rt, c.bk, c.ct, fun cl fs S' dx σ' H' F' h e r x => ?_⟩
  obtain ⟨b, hb1, hy, hn⟩ := h
  refine ⟨b, hb1, fun eb a ha => ?_, fun eb => c.xr cl fs S' dx σ' H' F' (hn eb) e r x⟩
  obtain ⟨C, rfl, hne, hf, hs'⟩ := hy eb
  cases dx with
  | none => exact absurd x hne
  | some dd =>
    obtain ⟨vs, hx, rl⟩ := x
    have c1 := c.step e
    have hlen : (fs.map (·.1)).length = vs.length := by rw [rl.length, List.length_map, List.length_map]
    have r2 := r.setV (v := .ref a) (d := .exc C a dd (fs.map (·.1)) (fs.map (·.2))) hf (.exc hx hlen rl)
    refine hs a (.ref C) (some dd) g _ H' F' _ _ _ r2 (hs' a dd) ⟨fun S2 σ2 H2 F2 n e2 r3 => ?_, fun d S2 v σ2 H2 F2 n e2 r3 w => ?_, fun S2 σ2 H2 F2 n e2 r3 => ?_, fun S2 σ2 H2 F2 n e2 r3 => ?_, fun _ _ _ _ _ _ _ z => z.elim⟩
    · exact c1.nx _ _ H2 F2 n.2 e2 (r3.unset n.1)
    · exact c1.rt d S2 v σ2 H2 F2 n e2 r3 w
    · exact c1.bk _ _ H2 F2 n.2 e2 (r3.unset n.1)
    · exact c1.ct _ _ H2 F2 n.2 e2 (r3.unset n.1)
end
section
variable {K : PySem.W.Frag} {g : Gd} {E : WX} {F H : Hp} {σ : L2.St} {S : SS}
theorem lfs_raise_given {C : Addr} {t : TE} {T : LT} (h : Lf K E t T) : LfS K E (tRaiseLow_given C E (tCons t tNil)) (lRaise C "given" T) := fun g σ H F S D3 D2 rs q c => by
  refine h g σ H F S _ _ _ rs q (fun d S1 v H1 F1 h1 c1 e1 r1 w1 => ?_) c.cx
  refine ⟨v, rfl, fun dx hd => ?_⟩
  exact c.xr (.ref C) [("given", d)] S1 (some dx) σ _ (upd F1 dx (.xd [(("given" : Str), v)])) h1.2 (e1.trans (sameNew (r1.free hd))) (r1.new hd) ⟨[v], upd_same, .cons ((w1.rep h1.1).mono (sameNew (r1.free hd))) .nil⟩
/-- e.given, e the exception in slot i -/
@[simp] def lBy_given (C a : Addr) (cls : Value) (d : Option Addr) (i : Nat) : LT := fun S Q _ => match S[i]? with
  | some (some (.v (.exc _ a' dx [n] [v]))) => a' = a ∧ cls = .ref C ∧ d = some dx ∧ n = "given" ∧ Q v S
  | _ => False
theorem lf_by_given {C a : Addr} {cls : Value} {d : Option Addr} {i : Nat} : Lf K E (tByLow_given C a cls d (tVar i)) (lBy_given C a cls d i) := by
  intro g σ H F S Q R Q' rs q hq hx
  unfold lBy_given at q
  split at q
  · rename_i C' a' dx n v hi
    obtain ⟨rfl, rfl, rfl, rfl, q⟩ := q
    obtain ⟨fp, r⟩ := rs
    obtain ⟨u, hu, rep⟩ := r.val i _ hi
    cases rep with
    | @exc a0 C0 dx0 ns0 vs ds hd hl rl =>
      cases rl with
      | cons rv rn =>
        cases rn
        refine ⟨_, hu, rfl, rfl, _, _, rfl, r.fh _ _ hd, ?_⟩
        exact hq v S _ H F q (CS.refl S) (Same.refl F) ⟨fp, r⟩ (.inl rv)
  · exact q.elim
end
section
variable {K : PySem.W.Frag} {g : Gd} {E : WX} {F H : Hp} {σ : L2.St} {S : SS}
theorem lfs_raise_index {C : Addr} {t : TE} {T : LT} (h : Lf K E t T) : LfS K E (tRaiseLow_index C E (tCons t tNil)) (lRaise C "index" T) := fun g σ H F S D3 D2 rs q c => by
  refine h g σ H F S _ _ _ rs q (fun d S1 v H1 F1 h1 c1 e1 r1 w1 => ?_) c.cx
  refine ⟨v, rfl, fun dx hd => ?_⟩
  exact c.xr (.ref C) [("index", d)] S1 (some dx) σ _ (upd F1 dx (.xd [(("index" : Str), v)])) h1.2 (e1.trans (sameNew (r1.free hd))) (r1.new hd) ⟨[v], upd_same, .cons ((w1.rep h1.1).mono (sameNew (r1.free hd))) .nil⟩
/-- e.index, e the exception in slot i -/
@[simp] def lBy_index (C a : Addr) (cls : Value) (d : Option Addr) (i : Nat) : LT := fun S Q _ => match S[i]? with
  | some (some (.v (.exc _ a' dx [n] [v]))) => a' = a ∧ cls = .ref C ∧ d = some dx ∧ n = "index" ∧ Q v S
  | _ => False
theorem lf_by_index {C a : Addr} {cls : Value} {d : Option Addr} {i : Nat} : Lf K E (tByLow_index C a cls d (tVar i)) (lBy_index C a cls d i) := by
  intro g σ H F S Q R Q' rs q hq hx
  unfold lBy_index at q
  split at q
  · rename_i C' a' dx n v hi
    obtain ⟨rfl, rfl, rfl, rfl, q⟩ := q
    obtain ⟨fp, r⟩ := rs
    obtain ⟨u, hu, rep⟩ := r.val i _ hi
    cases rep with
    | @exc a0 C0 dx0 ns0 vs ds hd hl rl =>
      cases rl with
      | cons rv rn =>
        cases rn
        refine ⟨_, hu, rfl, rfl, _, _, rfl, r.fh _ _ hd, ?_⟩
        exact hq v S _ H F q (CS.refl S) (Same.refl F) ⟨fp, r⟩ (.inl rv)
  · exact q.elim
end
section
variable {K : PySem.W.Frag} {g : Gd} {E : WX} {F H : Hp} {σ : L2.St} {S : SS}
theorem lfs_raise_given_ar {C : Addr} {t : TE} {T : LT} (h : Lf K E t T) : LfS K E (tRaiseLow_given_ar C E (tCons t tNil)) (lRaise C "given" T) := fun g σ H F S D3 D2 rs q c => by
  refine h g σ H F S _ _ _ rs q (fun d S1 v H1 F1 h1 c1 e1 r1 w1 => ?_) c.cx
  refine ⟨v, rfl, fun dx hd => ?_⟩
  exact c.xr (.ref C) [("given", d)] S1 (some dx) σ _ (upd F1 dx (.xd [(("given" : Str), v)])) h1.2 (e1.trans (sameNew (r1.free hd))) (r1.new hd) ⟨[v], upd_same, .cons ((w1.rep h1.1).mono (sameNew (r1.free hd))) .nil⟩
/-- e.given_ar, e the exception in slot i -/
@[simp] def lBy_given_ar (C a : Addr) (cls : Value) (d : Option Addr) (i : Nat) : LT := fun S Q _ => match S[i]? with
  | some (some (.v (.exc _ a' dx [n] [v]))) => a' = a ∧ cls = .ref C ∧ d = some dx ∧ n = "given" ∧ Q v S
  | _ => False
theorem lf_by_given_ar {C a : Addr} {cls : Value} {d : Option Addr} {i : Nat} : Lf K E (tByLow_given_ar C a cls d (tVar i)) (lBy_given_ar C a cls d i) := by
  intro g σ H F S Q R Q' rs q hq hx
  unfold lBy_given_ar at q
  split at q
  · rename_i C' a' dx n v hi
    obtain ⟨rfl, rfl, rfl, rfl, q⟩ := q
    obtain ⟨fp, r⟩ := rs
    obtain ⟨u, hu, rep⟩ := r.val i _ hi
    cases rep with
    | @exc a0 C0 dx0 ns0 vs ds hd hl rl =>
      cases rl with
      | cons rv rn =>
        cases rn
        refine ⟨_, hu, rfl, rfl, _, _, rfl, r.fh _ _ hd, ?_⟩
        exact hq v S _ H F q (CS.refl S) (Same.refl F) ⟨fp, r⟩ (.inl rv)
  · exact q.elim
end
end L3
set_option linter.all false
set_option maxRecDepth 100000
set_option maxHeartbeats 4000000
/-! L3, part W: is True, is not True. -/
namespace L3
open PySem PySem.Spec PyProof.Rows L2
section
variable {K : PySem.W.Frag} {g : Gd} {E : WX} {F H : Hp} {σ : L2.St} {S : SS}
@[simp] def isBD (neg : Bool) : D2 := fun x y P => match x, y with
  | .bl a, .bl b => P (.bl (if neg = true then !decide (a = b) else decide (a = b)))
  | _, _ => False
theorem opl_isB : OpL K (fun x y H Q => ∃ a b, x = .bl a ∧ y = .bl b ∧ Q (.bl (decide (a = b))) H) (isBD false) := by
  intro g F H σ S v1 v2 d1 d2 P Q' r h1 h2 f q
  unfold isBD at f
  split at f
  · exact ⟨_, _, h1.blI, h2.blI, q.val r f (.bl _)⟩
  · exact f.elim
theorem opl_notB : OpL K (fun x y H Q => ∃ a b, x = .bl a ∧ y = .bl b ∧ Q (.bl (!decide (a = b))) H) (isBD true) := by
  intro g F H σ S v1 v2 d1 d2 P Q' r h1 h2 f q
  unfold isBD at f
  split at f
  · exact ⟨_, _, h1.blI, h2.blI, q.val r f (.bl _)⟩
  · exact f.elim
end
end L3
set_option linter.all false
set_option maxRecDepth 100000
set_option maxHeartbeats 4000000
/-! L3, part X: defs with defaults; the end's words for own errors. -/
namespace L3
open PySem PySem.Spec PyProof.Rows L2
section
variable {P : Program} {w : World} {K : PySem.W.Frag} {mg : Str → Option Value} {base : Heap}
/-- a def with defaults -/
abbrev FunP (K : PySem.W.Frag) (x qual : Str) (st : Stmt) (dvs : List V) (f : Addr) (fd : FuncData) : Prop := FunD K x qual (defArgs st) (defBody st) (defScope st) dvs [] f fd
theorem defLD {x qual : Str} {st : Stmt} {dvs : List V} {f : Addr} {fd : FuncData} {N ps : List Str} {k n : Nat} {T : LTS} (F : FunP K x qual st dvs f fd) (S : FnScope N ps (defScope st)) (hp : ps.length = n) (hn : n ≤ N.length)
    (hbody : ∀ (cdv : Value) (A : Around) (outer : List Env) (s : Shared) (H : Hp) (E : XK), A.guards = some [] → Room k (A.deeper (envOfC qual (defScope st) s.heap.objs.size f cdv)) →
      ∃ t, PSs (cxOf (L2.CX P w) P w K mg base N qual (defScope st) f cdv A outer s H E) (defBody st) t ∧ LfS K (fun c d _ H => E c d H) t T) : FnG P w K mg base (L2.CX P w) (k + 1) f fd ps (spL K n (fnW n N.length T)) := by
  obtain ⟨oc, od, dV, kV, doc, pm, an, cdv, ct, osl, rfl, lk, hcd, _, _⟩ := F.ex
  exact fnG_of lk hcd S (fun vs H Q E h => h.1.trans hp.symm) fun A outer s H vs Q E hg hr h => by
    obtain ⟨t, p, l⟩ := hbody cdv A outer s H E hg hr
    exact ⟨t, p, body_of l (fun _ _ _ _ q => q) hn h⟩
theorem defCD {x qual : Str} {st : Stmt} {dvs : List V} {f : Addr} {fd : FuncData} {N ps : List Str} {k n : Nat} {T : LTS} (F : FunP K x qual st dvs f fd) (S : FnScope N ps (defScope st)) (hp : ps.length = n) (hn : n ≤ N.length)
    (hbody : ∀ (cdv : Value) (A : Around) (outer : List Env) (s : Shared) (H : Hp) (E : XK), A.guards = some [] → Room k (A.deeper (envOfC qual (defScope st) s.heap.objs.size f cdv)) →
      ∃ t, PSs (cxOf (L2.CX P w) P w K mg base N qual (defScope st) f cdv A outer s H E) (defBody st) t ∧ LfS K (fun c d _ H => E c d H) t T) : FnG P w K mg base (L2.CX P w) (k + 1) f fd ps (spC K n (fnC n N.length T)) := by
  obtain ⟨oc, od, dV, kV, doc, pm, an, cdv, ct, osl, rfl, lk, hcd, _, _⟩ := F.ex
  exact fnG_of lk hcd S (fun vs H Q E h => h.1.trans hp.symm) fun A outer s H vs Q E hg hr h => by
    obtain ⟨t, p, l⟩ := hbody cdv A outer s H E hg hr
    exact ⟨t, p, body_ofC l (fun _ _ _ _ q => q) hn h⟩
theorem funP_mk {x qual : Str} {st : Stmt} {dvs : List V} {its : List Value} {f T : Addr} {oc tc : Value} {od an td : Option Addr} {osl tsl : Array (Option Value)} {n : Nat} {kV doc pm cdv ct : Value}
    (l : K.lookup f = some ⟨oc, od, .func (PySem.W.fnOf x qual (defArgs st) (defBody st) (defScope st) (.ref T) kV doc pm an cdv ct), osl⟩)
    (c : PySem.W.codeIn K cdv qual = true) (k : PySem.W.keepIn K (.ref f) = true) (lT : K.lookup T = some ⟨tc, td, .seq its.toArray n, tsl⟩) (hd : dvs ≠ []) (r : Vals dvs its) :
    FunP K x qual st dvs f (PySem.W.fnOf x qual (defArgs st) (defBody st) (defScope st) (.ref T) kV doc pm an cdv ct) :=
  ⟨⟨oc, od, .ref T, kV, doc, pm, an, cdv, ct, osl, rfl, l, c, .inr ⟨hd, T, _, its, n, rfl, lT, rfl, r⟩, .inl rfl⟩, k⟩
/-- all its arguments are written -/
theorem FunP.bindsAll {x qual : Str} {st : Stmt} {dvs : List V} {f : Addr} {fd : FuncData} {ps : List Str} (F : FunP K x qual st dvs f fd) (hd : dvs ≠ [])
    (h : ∀ (T : Addr) (kV doc pm : Value) (an : Option Addr) (cdv ct : Value) (us its : List Value), us.length = ps.length → its.length = dvs.length →
      ∃ k, bindArgs (PySem.W.fnOf x qual (defArgs st) (defBody st) (defScope st) (.ref T) kV doc pm an cdv ct) ⟨us, []⟩ = seqItems? (.ref T) >>= k ∧ k (some its.toArray) = pure (ps.zip us)) : Binds K fd ps [] := by
  obtain ⟨ds, r, b⟩ := FunD.binds1 (ps := ps) F ps.length dvs.length hd (by omega) fun T kV doc pm an cdv ct us its hu hi => by
    obtain ⟨k, e1, e2⟩ := h T kV doc pm an cdv ct us its hu hi
    refine ⟨k, e1, ?_⟩
    rw [List.drop_of_length_le (by omega), List.append_nil]
    exact e2
  rw [List.drop_of_length_le (Nat.le_refl _)] at r
  cases r
  exact b
/-- an error of the class at S is what «except S» names (the guide's skeleton 42) -/
theorem exm_self {S : Addr} (h1 : PySem.W.subIn K (.ref S) (.type "BaseException") = some true) (h2 : PySem.W.isClsIn K S = true) (h3 : PySem.W.typeIn K (.ref S) = some (.type "type")) (h4 : PySem.W.subIn K (.ref S) (.ref S) = some true) :
    PySem.W.exmOne K (.ref S) (.ref S) = some true := by
  have e1 : (PySem.W.subIn K (.ref S) (.type "BaseException") == some true) = true := by rw [h1] <;> rfl
  have e2 : ((PySem.W.clsIn K S).isSome && PySem.W.typeIn K (.ref S) == some (.type "type")) = true := by
    have h2' : (PySem.W.clsIn K S).isSome = true := h2
    rw [h2', h3] <;> rfl
  show (if (PySem.W.subIn K (.ref S) (.type "BaseException") == some true) = true then (if ((PySem.W.clsIn K S).isSome && PySem.W.typeIn K (.ref S) == some (.type "type")) = true then PySem.W.subIn K (.ref S) (.ref S) else none) else none) = some true
  rw [if_pos e1, if_pos e2]
  exact h4
end
end L3
set_option linter.all false
set_option maxRecDepth 100000
set_option maxHeartbeats 4000000
/-! L3, part Y: texts joined, formatted, split; str of an object with an own __str__; starred parts. -/
namespace L3
open PySem PySem.Spec PyProof.Rows L2
/-! ### str(x), x an object of a class with a __str__ of its own -/
def rStrO (C : Addr) (sp : Sp) : List V → Hp → VK → Prop := fun xs H Q => ∃ a dx fs, xs = [.ref a] ∧ H a = some (.ins C dx fs) ∧ sp [.ref a] H (fun v H2 => ∃ y, v = .str y ∧ Q (.str y) H2) (fun _ _ _ => False)
/-- the class at C keeps sp as its method m -/
structure MethAt (P : Program) (w : World) (K : PySem.W.Frag) (mg : Str → Option Value) (base : Heap) (k : Nat) (C : Addr) (m : Str) (sp : Sp) : Prop where
  ex : ∃ g fd ps, Cls K C ∧ PySem.W.findIn K (.ref C) m = some (some (.ref g)) ∧ PySem.W.isFn K (.ref g) = true ∧ FnG P w K mg base (L2.CX P w) k g fd ps sp ∧ Binds K fd ps []
section
variable {X : Cx} {W : WX} {k j : Nat} {C : Addr} {sp : Sp} {e o : Expr} {te to : TE} {pos apos : Pos}
theorem call_strO (D : MethAt X.prog X.w X.K X.mg X.base j C "__str__" sp) (hgd : X.A.guards = some []) (hr : Room k X.A) (hj : j + 2 ≤ k := by decide) : CallR X (.type "str") (rStrO C sp) := by
  obtain ⟨g, fd, ps, c, hs, hf, F, hb⟩ := D.ex
  intro pins s σ H xs us Q I rv h
  obtain ⟨a, dx, fs, rfl, ea, q⟩ := h
  cases rv with
  | cons r1 rs =>
    cases rs
    obtain rfl : _ = Value.ref a := r1
    obtain ⟨mA, O, _, _, _, _⟩ := ins_get I.hok ea
    obtain ⟨od, J, _⟩ := O.look
    have hr2 : Room (j + 2) X.A := hr.mono hj
    refine PySem.W.kso_call (by have := hr2.in1.in1.un; omega) I.kIn J hs hf ?_
    have hl : ([Value.ref a] ++ []).length = ps.length := by rw [← F.len _ _ _ _ q]; rfl
    refine wpAny_call (codeAny_mono (F.run X.A.in1.in1 X.stack s H ⟨[.ref a], []⟩ [.ref a] [.ref a] _ E0 hgd hr2.in1.in1 I.env0.in1.in1 (hb _ [.ref a] I.kIn hl) (.cons rfl .nil) q) fun r s' hq => ?_)
    cases r with
    | error er => exact passL pins σ H s er s' (I.wish _) hq
    | ok fl =>
      cases fl with
      | ret u =>
        obtain ⟨v, H', I4, rv, y, rfl, q3⟩ := I.after hq
        obtain ⟨t, rfl⟩ := rv
        exact ⟨.str y, H', I4, ⟨t, rfl⟩, q3⟩
      | next => exact False.elim hq
      | brk => exact False.elim hq
      | cont => exact False.elim hq
end
section
variable {K : PySem.W.Frag} {g : Gd} {E : WX} {F H : Hp} {σ : L2.St} {S : SS}
@[simp] def lStrO (C : Addr) (f : LFn) (T : LT) : LT := fun S Q R => T S (fun d S1 => isIns C (look S1 d) ∧ callWP f [] [d] S1 (fun z S2 => ∃ y, z = .str y ∧ Q (.str y) S2) fun _ _ _ => False) R
theorem lf_strO {C : Addr} {f : LFn} {t : TE} {T : LT} (ha : Lf K E t T) (hn : ∀ as Q R, f as Q R → as.length = 1) : Lf K E (tCB (rStrO C (spL K 1 f)) (tCons t tNil)) (lStrO C f T) := by
  intro g σ H F S Q R Q' rs q hq hx
  refine ha g σ H F S _ R _ rs q (fun d S1 v1 H1 F1 h1 c1 e1 r1 w1 => ?_) hx
  obtain ⟨hi, h1⟩ := h1
  obtain ⟨a, dx, ns, vs, ds, rfl, _, hH, _⟩ := ins_at r1.fh' (w1.look r1) hi
  refine ⟨a, dx, _, rfl, hH, ?_⟩
  refine sp_of (dvs := []) (dd := []) (vs := [.ref a]) (fun _ => .nil) hn r1 (.cons w1 .nil) h1 (fun z S2 v H2 F2 q2 c2 e2 r2 w2 => ?_) fun c fs S' dx H' F' q _ _ _ _ => q.elim
  obtain ⟨y, rfl, q2⟩ := q2
  have ev : v = .str y := (w2.look r2).strI
  subst ev
  exact ⟨y, rfl, hq (.str y) S2 _ H2 F2 q2 (c1.trans c2) (e1.trans e2) r2 (.inl (.str y))⟩
/-! ### sep.join(texts) -/
def strsOf : List D → Option (List Str)
  | [] => some []
  | .str x :: r => (strsOf r).map (x :: ·)
  | _ :: _ => none
theorem strs_rep : ∀ {ds : List D} {vs : List V} {ys : List Str}, RepL K F vs ds → strsOf ds = some ys → vs = ys.map V.str
  | [], _, ys, h, e => by cases h; cases e; rfl
  | d :: ds, _, ys, h, e => by
    cases h with
    | cons h1 h2 =>
      cases d <;> first | cases e | skip
      rename_i x
      cases e1 : strsOf ds with
      | none => rw [strsOf, e1] at e; cases e
      | some zs =>
        rw [strsOf, e1] at e
        cases e
        cases h1
        rw [strs_rep h2 e1]
        rfl
@[simp] theorem strsOf_map : ∀ {ys : List Str}, strsOf (ys.map D.str) = some ys
  | [] => rfl
  | y :: ys => by show (strsOf (ys.map D.str)).map (y :: ·) = _; rw [strsOf_map]; rfl
def rJoin (K : PySem.W.Frag) : V → List V → Hp → VK → Prop := fun x xs H Q => ∃ a p, ∃ ys : List Str, x = .str a ∧ xs = [.ref p] ∧ (SqL K H p (ys.map V.str) ∨ SqT K H p (ys.map V.str)) ∧
      (ys.map (·.length)).sum + ys.length * a.length ≤ 16777216 ∧ Q (.str (Txt.join a ys)) H
theorem pe_joinK {X : Cx} {o e : Expr} {to te : TE} {apos pos : Pos} (hK : X.K = K) (ho : PE X o to) (he : PE X e te) (hs : starEach [e] X.env = [(false, eval e X.env)] := by rfl) (hbase : attributeBase o "join" X.env (eval o X.env) = eval o X.env := by rfl) (hline : (apos.endLine == pos.line) = true := by rfl) :
    PE X (.Call (.Attribute o "join" apos) [e] [] pos) (tM1 (rJoin K) to te) := by subst hK; exact pe_join ho he hs hbase hline
def joinD : D2 := fun x y P => match x, y with
  | .str a, .lst ds => ∃ ys, strsOf ds = some ys ∧ (ys.map (·.length)).sum + ys.length * a.length ≤ 16777216 ∧ P (.str (Txt.join a ys))
  | .str a, .tup ds => ∃ ys, strsOf ds = some ys ∧ (ys.map (·.length)).sum + ys.length * a.length ≤ 16777216 ∧ P (.str (Txt.join a ys))
  | _, _ => False
@[simp] theorem join_lst {a : Str} {ys : List Str} {P : D → Prop} : joinD (.str a) (.lst (ys.map D.str)) P = ((ys.map (·.length)).sum + ys.length * a.length ≤ 16777216 ∧ P (.str (Txt.join a ys))) := by
  apply propext
  show (∃ zs, strsOf (ys.map D.str) = some zs ∧ _) ↔ _
  rw [strsOf_map]
  exact ⟨fun ⟨_, e, h⟩ => by cases e; exact h, fun h => ⟨ys, rfl, h⟩⟩
/-- a text's method with one argument -/
@[simp] def lM1 (f : D2) (To Te : LT) : LT := fun S Q R => To S (fun x S1 => (∃ a, x = .str a) ∧ Te S1 (fun y S2 => f x (look S2 y) fun z => Q z S2) R) R
theorem lf_join {to te : TE} {To Te : LT} (ha : Lf K E to To) (hb : Lf K E te Te) : Lf K E (tM1 (rJoin K) to te) (lM1 joinD To Te) := by
  intro g σ H F S Q R Q' rs h hq hx
  refine ha g σ H F S _ R _ rs h (fun x S1 v1 H1 F1 h1 c1 e1 r1 w1 => ?_) hx
  obtain ⟨⟨a, rfl⟩, h1⟩ := h1
  have ev : v1 = .str a := (w1.look r1).strI
  subst ev
  refine ⟨⟨a, rfl⟩, ?_⟩
  refine hb g σ H1 F1 S1 _ R _ r1 h1 (fun y S2 v2 H2 F2 h2 c2 e2 r2 w2 => ?_) (hx.step c1 e1)
  have w := w2.look r2
  have fin : ∀ z : Str, Q (.str z) S2 → Q' (.str z) H2 := fun z q => hq (.str z) S2 _ H2 F2 q (c1.trans c2) (e1.trans e2) r2 (.inl (.str z))
  generalize look S2 y = dy at h2 w
  cases dy <;> first | exact h2.elim | skip
  · rename_i ds
    obtain ⟨p, vs, rfl, hp, rl⟩ := w.tupI r2.fh'
    obtain ⟨ys, es, hz, q⟩ := h2
    have := strs_rep rl es
    subst this
    exact ⟨_, p, ys, rfl, rfl, .inr hp, hz, fin _ q⟩
  · rename_i ds
    obtain ⟨p, vs, rfl, hp, rl⟩ := w.lstI r2.fh'
    obtain ⟨ys, es, hz, q⟩ := h2
    have := strs_rep rl es
    subst this
    exact ⟨_, p, ys, rfl, rfl, .inl (SqL.of hp), hz, fin _ q⟩
/-! ### text.split(sep) -/
def rSplit : V → List V → Hp → VK → Prop := fun x xs H Q => ∃ a b, x = .str a ∧ xs = [.str b] ∧ (b.length == 0) = false ∧ a.length + 2 ≤ sizeLine ∧ rNewStrs (Txt.split a b) H Q
theorem pe_splitK {X : Cx} {o e : Expr} {to te : TE} {apos pos : Pos} (ho : PE X o to) (he : PE X e te) (hs : starEach [e] X.env = [(false, eval e X.env)] := by rfl) (hbase : attributeBase o "split" X.env (eval o X.env) = eval o X.env := by rfl) (hline : (apos.endLine == pos.line) = true := by rfl) :
    PE X (.Call (.Attribute o "split" apos) [e] [] pos) (tM1 rSplit to te) := pe_split ho he hs hbase hline
@[simp] def splitD : D2 := fun x y P => match x, y with
  | .str a, .str b => (b.length == 0) = false ∧ a.length + 2 ≤ sizeLine ∧ P (.lst ((Txt.split a b).map D.str))
  | _, _ => False
theorem repL_strs : ∀ (ys : List Str), RepL K F (ys.map V.str) (ys.map D.str)
  | [] => .nil
  | y :: ys => .cons (.str y) (repL_strs ys)
theorem lf_split {to te : TE} {To Te : LT} (ha : Lf K E to To) (hb : Lf K E te Te) : Lf K E (tM1 rSplit to te) (lM1 splitD To Te) := by
  intro g σ H F S Q R Q' rs h hq hx
  refine ha g σ H F S _ R _ rs h (fun x S1 v1 H1 F1 h1 c1 e1 r1 w1 => ?_) hx
  obtain ⟨⟨a, rfl⟩, h1⟩ := h1
  have ev : v1 = .str a := (w1.look r1).strI
  subst ev
  refine ⟨⟨a, rfl⟩, ?_⟩
  refine hb g σ H1 F1 S1 _ R _ r1 h1 (fun y S2 v2 H2 F2 h2 c2 e2 r2 w2 => ?_) (hx.step c1 e1)
  have w := w2.look r2
  generalize look S2 y = dy at h2 w
  cases dy <;> first | exact h2.elim | skip
  rename_i b
  have ev : v2 = .str b := w.strI
  subst ev
  obtain ⟨hb0, hz, q⟩ := h2
  have oq : OQ K g F2 σ S2 (fun d => Q d S2) Q' := fun d v H' F' p e r w => hq d S2 v H' F' p (c1.trans c2) (e1.trans (e2.trans e)) r (.inl w)
  exact ⟨a, b, rfl, rfl, hb0, hz, oq.lst r2 q (repL_strs _)⟩
/-! ### f"..": parts one behind another -/
@[simp] def lJs : List LT → Str → SS → (Str → SS → Prop) → XR → Prop
  | [], acc, S, Q, _ => Q acc S
  | T :: Ts, acc, S, Q, R => T S (fun x S1 => ∃ y : Str, x = .str y ∧ (acc ++ y).length ≤ sizeLine ∧ lJs Ts (acc ++ y) S1 Q R) R
@[simp] def lFStr (Ts : List LT) : LT := fun S Q R => lJs Ts Str.empty S (fun z S1 => Q (.str z) S1) R
inductive LfJ (K : PySem.W.Frag) (E : WX) : List TE → List LT → Prop
  | nil : LfJ K E [] []
  | cons {t : TE} {T : LT} {ts : List TE} {Ts : List LT} (h : Lf K E t T) (r : LfJ K E ts Ts) : LfJ K E (t :: ts) (T :: Ts)
theorem lf_js {ts : List TE} {Ts : List LT} (h : LfJ K E ts Ts) : ∀ (acc : Str) (g : Gd) (σ : L2.St) (H F : Hp) (S : SS) (Q : Str → SS → Prop) (R : XR) (Q' : Str → Hp → Prop), RS K g F H σ S → lJs Ts acc S Q R →
    (∀ z S' H' F', Q z S' → CS S S' → Same F F' → RS K g F' H' σ S' → Q' z H') → CX3 K g σ F S R E → tJs ts acc σ H Q' := by
  induction h with
  | nil =>
    intro acc g σ H F S Q R Q' rs h hq hx
    exact hq acc S H F h (CS.refl S) (Same.refl F) rs
  | @cons t T ts Ts h1 r ih =>
    intro acc g σ H F S Q R Q' rs h hq hx
    refine h1 g σ H F S _ R _ rs h (fun x S1 v1 H1 F1 h1 c1 e1 r1 w1 => ?_) hx
    obtain ⟨y, rfl, hz, h2⟩ := h1
    have ev : v1 = .str y := (w1.look r1).strI
    subst ev
    exact ⟨y, rfl, hz, ih _ g σ H1 F1 S1 Q R Q' r1 h2 (fun z S' H' F' q c e r => hq z S' H' F' q (c1.trans c) (e1.trans e) r) (hx.step c1 e1)⟩
theorem lf_fstr {ts : List TE} {Ts : List LT} (h : LfJ K E ts Ts) : Lf K E (fun σ H Q => tJs ts Str.empty σ H fun out H1 => Q (.str out) H1) (lFStr Ts) := by
  intro g σ H F S Q R Q' rs q hq hx
  exact lf_js h Str.empty g σ H F S _ R _ rs q (fun z S' H' F' q c e r => hq (.str z) S' _ H' F' q c e r (.inl (.str z))) hx
@[simp] def lFmt (T : LT) : LT := fun S Q R => T S (fun x S1 => match x with
  | .str y => y.length ≤ sizeLine ∧ Q (.str y) S1
  | .int i => i.natAbs.log2 < 1920 ∧ Q (.str (toString i)) S1
  | _ => False) R
theorem lf_fmt {t : TE} {T : LT} (h : Lf K E t T) : Lf K E (tFmt t) (lFmt T) := by
  intro g σ H F S Q R Q' rs q hq hx
  refine h g σ H F S _ R _ rs q (fun x S1 v1 H1 F1 h1 c1 e1 r1 w1 => ?_) hx
  have w := w1.look r1
  cases x <;> first | exact h1.elim | skip
  · rename_i i
    have ev : v1 = .int i := w.intI
    subst ev
    exact .inr ⟨i, rfl, h1.1, hq _ S1 _ H1 F1 h1.2 c1 e1 r1 (.inl (.str _))⟩
  · rename_i y
    have ev : v1 = .str y := w.strI
    subst ev
    exact .inl ⟨y, rfl, h1.1, hq _ S1 _ H1 F1 h1.2 c1 e1 r1 (.inl (.str _))⟩
/-! ### *parts in a display -/
@[simp] def lStar (T : LT) (Ts : LTs) : LTs := fun S Q R => T S (fun x S1 => match look S1 x with
  | .tup xs => Ts S1 (fun ys S2 => Q (xs ++ ys) S2) R
  | .lst xs => frozenD [x] = true ∧ Ts S1 (fun ys S2 => Q (xs ++ ys) S2) R
  | _ => False) R
theorem paired_rep : ∀ {vs : List V} {ds : List D}, RepL K F vs ds → Paired (RepW K F σ S) vs ds
  | _, _, .nil => .nil
  | _, _, .cons h r => .cons (.inl h) (paired_rep r)
theorem Paired.app {α β : Type} {r : α → β → Prop} : ∀ {a : List α} {b : List β} {c : List α} {d : List β}, Paired r a b → Paired r c d → Paired r (a ++ c) (b ++ d)
  | _, _, _, _, .nil, q => q
  | _, _, _, _, .cons h p, q => .cons h (Paired.app p q)
theorem lfa_star {t : TE} {u : TA} {T : LT} {Ts : LTs} (h : Lf K E t T) (hr : LfA K E u Ts) : LfA K E (StX.tStar K t u) (lStar T Ts) := by
  intro g σ H F S Q R Q' rs q hq hx
  refine h g σ H F S _ R _ rs q (fun x S1 v1 H1 F1 h1 c1 e1 r1 w1 => ?_) hx
  have w := w1.look r1
  have fin : ∀ {vs : List V} {xs : List D}, RepL K F1 vs xs → Ts S1 (fun ys S2 => Q (xs ++ ys) S2) R → u σ H1 (fun ys H2 => Q' (vs ++ ys) H2) := by
    intro vs xs rl hT
    refine hr g σ H1 F1 S1 _ R _ r1 hT (fun ys S2 us H2 F2 q2 c2 e2 r2 p => ?_) (hx.step c1 e1)
    exact hq (xs ++ ys) S2 _ H2 F2 q2 (c1.trans c2) (e1.trans e2) r2 (Paired.app (paired_rep (rl.mono e2)) p)
  revert h1 w
  generalize look S1 x = dx
  intro h1 w
  cases dx <;> first | exact h1.elim | skip
  · obtain ⟨p, vs, rfl, hp, rl⟩ := w.tupI r1.fh'
    exact ⟨p, vs, rfl, .inl hp, fin rl h1⟩
  · obtain ⟨p, vs, rfl, hp, rl⟩ := w.lstI r1.fh'
    exact ⟨p, vs, rfl, .inr (SqL.of hp), fin rl h1.2⟩
end
section
variable {X : Cx} {W : WX} {k j : Nat} {C : Addr} {sp : Sp} {e o : Expr} {te to : TE} {es : List Expr} {t : TA} {K : PySem.W.Frag} {pos apos p : Pos}
theorem pa_starK (hK : X.K = K) (he : PE X e te) (hr : PA X es t) (hs : starEach (.Starred e p :: es) X.env = (true, eval e X.env) :: starEach es X.env := by rfl) : PA X (.Starred e p :: es) (StX.tStar K te t) := by subst hK; exact StX.pa_star he hr hs
/-! ### a == b, both of a class with an __eq__ of its own -/
def rEqO (C : Addr) (sp : Sp) : R2 := fun x y H Q => ∃ a b dx dy fs gs, x = .ref a ∧ y = .ref b ∧ H a = some (.ins C dx fs) ∧ H b = some (.ins C dy gs) ∧ sp [.ref a, .ref b] H (fun v H2 => ∃ t, v = .bl t ∧ Q (.bl t) H2) (fun _ _ _ => False)
theorem op_eqO (D : MethAt X.prog X.w X.K X.mg X.base j C "__eq__" sp) (hgd : X.A.guards = some []) (hr : Room k X.A) (hj : j ≤ k := by decide) : OpR X (compareOp .Eq) (rEqO C sp) := by
  obtain ⟨g, fd, ps, c, hs, hf, F, hb⟩ := D.ex
  intro pins s σ H x y v u Q I rx ry h
  obtain ⟨a, b, dx, dy, fs, gs, rfl, rfl, ha, hb', q⟩ := h
  obtain rfl : v = Value.ref a := rx
  obtain rfl : u = Value.ref b := ry
  obtain ⟨mA, J, _⟩ := ins_get I.hok ha
  obtain ⟨mB, J', _⟩ := ins_get I.hok hb'
  obtain ⟨od, J, _⟩ := J.look
  obtain ⟨od', J', _⟩ := J'.look
  obtain ⟨m, hF⟩ := I.fr
  show wpAny (model X.prog X.w) X.A (richCompare .Eq (.ref a) (.ref b)) (EP X pins σ Q) X.xe s
  refine PySem.W.cmp_K (op := .Eq) (tb := .ref C) hr.units0 hF I.ok.mod.kin J J'.type (by simp [PySem.W.notFirst]) hs hf ?_
  have hl : ([Value.ref a, Value.ref b] ++ []).length = ps.length := by rw [← F.len _ _ _ _ q]; rfl
  refine wpAny_call (codeAny_mono (F.run X.A X.stack s H ⟨[.ref a, .ref b], []⟩ [.ref a, .ref b] [.ref a, .ref b] _ E0 hgd (hr.mono hj) I.env0 (hb _ [.ref a, .ref b] I.kIn hl) (.cons rfl (.cons rfl .nil)) q) fun r s' hq => ?_)
  cases r with
  | error er => exact passL pins σ H s er s' (I.wish _) hq
  | ok fl =>
    cases fl with
    | ret u =>
      obtain ⟨v, H', I4, rv, t, rfl, q3⟩ := I.after hq
      obtain rfl : u = Value.bool t := rv
      exact ⟨.bl t, H', I4, rfl, q3⟩
    | next => exact False.elim hq
    | brk => exact False.elim hq
    | cont => exact False.elim hq
end
section
variable {K : PySem.W.Frag} {g : Gd} {E : WX} {F H : Hp} {σ : L2.St} {S : SS}
@[simp] def lEqO (C : Addr) (f : LFn) (Ta Tb : LT) : LT := fun S Q R => Ta S (fun x S1 => Tb S1 (fun y S2 => isIns C (look S2 x) ∧ isIns C (look S2 y) ∧ callWP f [] [x, y] S2 (fun z S3 => ∃ t, z = .bl t ∧ Q (.bl t) S3) fun _ _ _ => False) R) R
theorem lf_eqO {C : Addr} {f : LFn} {ta tb : TE} {Ta Tb : LT} (ha : Lf K E ta Ta) (hb : Lf K E tb Tb) (hn : ∀ as Q R, f as Q R → as.length = 2) : Lf K E (tOp (rEqO C (spL K 2 f)) ta tb) (lEqO C f Ta Tb) := by
  intro g σ H F S Q R Q' rs q hq hx
  refine ha g σ H F S _ R _ rs q (fun x S1 v1 H1 F1 h1 c1 e1 r1 w1 => ?_) hx
  refine hb g σ H1 F1 S1 _ R _ r1 h1 (fun y S2 v2 H2 F2 h2 c2 e2 r2 w2 => ?_) (hx.step c1 e1)
  obtain ⟨i1, i2, h3⟩ := h2
  have w1' := w1.step c2 e2
  obtain ⟨a, dx, ns, vs, ds, rfl, _, hH, _⟩ := ins_at r2.fh' (w1'.look r2) i1
  obtain ⟨b, dy, ms, us, es, rfl, _, hH', _⟩ := ins_at r2.fh' (w2.look r2) i2
  refine ⟨a, b, dx, dy, _, _, rfl, rfl, hH, hH', ?_⟩
  refine sp_of (dvs := []) (dd := []) (vs := [.ref a, .ref b]) (fun _ => .nil) hn r2 (.cons w1' (.cons w2 .nil)) h3 (fun z S3 v H3 F3 q2 c3 e3 r3 w3 => ?_) fun c fs S' dx H' F' q _ _ _ _ => q.elim
  obtain ⟨t, rfl, q2⟩ := q2
  have ev : v = .bl t := (w3.look r3).blI
  subst ev
  exact ⟨t, rfl, hq (.bl t) S3 _ H3 F3 q2 (c1.trans (c2.trans c3)) (e1.trans (e2.trans e3)) r3 (.inl (.bl t))⟩
end
end L3
set_option linter.all false
set_option maxRecDepth 100000
set_option maxHeartbeats 4000000
/-! L3, part Z: classmethods, classes called by a variable, classes made with defaults or by keywords, a != b. -/
namespace L3
open PySem PySem.Spec PyProof.Rows L2
/-! ### classmethods: C.m(..) -/
/-- the classmethod m of the class at C keeps sp (the class is its first argument) -/
structure CMetAt (P : Program) (w : World) (K : PySem.W.Frag) (mg : Str → Option Value) (base : Heap) (k : Nat) (C : Addr) (m : Str) (ps : List Str) (sp : Sp) : Prop where
  ex : ∃ mc p g fd, ClX.CRead K C mc ∧ ClX.CMet K C mc m p g ∧ FnG P w K mg base (L2.CX P w) k g fd ps sp ∧ Binds K fd ps []
/-- .. by keywords alone -/
structure CMetKw (P : Program) (w : World) (K : PySem.W.Frag) (mg : Str → Option Value) (base : Heap) (k : Nat) (C : Addr) (m : Str) (ps : List Str) (sp : Sp) (ks : List Str) (g : {α : Type} → List α → List α) : Prop where
  ex : ∃ mc p f fd, ClX.CRead K C mc ∧ ClX.CMet K C mc m p f ∧ FnG P w K mg base (L2.CX P w) k f fd ps sp ∧ (∀ (s : Shared) (u : Value) (ws : List Value), K.In s.heap → ws.length = ks.length → BindsTo s fd ⟨[u], ks.zip ws⟩ (ps.zip (u :: g ws)))
def tCMetS (C : Addr) (sp : Sp) (E : L2.St → XK) (ta : TE) (t : TA) : TE := fun σ H Q => ta σ H fun x H1 => x = .ref C ∧ t σ H1 fun vs H2 => sp (.ref C :: vs) H2 Q (E σ)
def tCMetK (C : Addr) (sp : Sp) (m : Nat) (gV : List V → List V) (E : L2.St → XK) (ta : TE) (t : TA) : TE := fun σ H Q => ta σ H fun x H1 => x = .ref C ∧ t σ H1 fun zs H2 => zs.length = m ∧ sp (.ref C :: gV zs) H2 Q (E σ)
section
variable {X : Cx} {W : WX} {k j : Nat} {x m : Str} {C : Addr} {ps : List Str} {sp : Sp} {p pos apos : Pos} {e o : Expr} {es : List Expr} {t : TA} {ta tf : TE} {pl : Sem Bool}
theorem pe_cm (D : CMetAt X.prog X.w X.K X.mg X.base j C m ps sp) (hg : X.A.guards = some []) (hr : Room k X.A) (tk : Takes X W) (he : PE X o ta) (ha : PA X (e :: es) t) (hj : j ≤ k := by decide)
    (hst : starEach (e :: es) X.env = (false, eval e X.env) :: starEach es X.env := by rfl) (hpl : (backTo pos (starEach es X.env)).any (·.1) = false := by rfl)
    (ht : eval (.Call (.Attribute o m apos) (e :: es) [] pos) X.env = (do
      let ov ← eval o X.env
      standAt apos.atName
      let (f, first) ← holding [ov] (getMethod ov m pl)
      callWith pos f first (backTo pos (starEach (e :: es) X.env)) (backToKw pos (keywordEach [] X.env))) := by rfl) :
    PE X (.Call (.Attribute o m apos) (e :: es) [] pos) (tCMetS C sp (WE W) ta t) := by
  obtain ⟨mc, p, f, fd, r, c, F, hb⟩ := D.ex
  refine ⟨fun pins s σ H Q I h => ?_⟩
  refine PySem.W.methodCall_KW (pl := pl) (thn (he.run pins s σ H _ I h) fun u s1 ⟨x, H1, I1, rx, ex, q⟩ => ?_) ht
  subst ex
  obtain rfl : u = Value.ref C := rx
  refine ClX.getmethcm_ok I1 r c fun s2 I2 => ?_
  refine ClX.callwith_cm I2 (ClX.base_none I1 (Nat.le_refl _)) c.fi (thn (ha.run pos _ s2 σ H1 _ I2 q) fun us s3 ⟨vs, H2, I3, rv, q2⟩ => ⟨⟨ClX.pin_at I3, I3.kIn⟩, ?_⟩) hst hpl
  have hl : (Value.ref C :: us).length = ps.length := by
    have e1 := F.len _ _ _ _ q2
    have e2 := rv.length
    simp only [List.length_cons] at e1 ⊢
    omega
  have z : wpAny (model X.prog X.w) X.A (call (.ref s1.heap.objs.size) us) (EP X ((s1.heap.objs.size, PySem.W.methodObj (.ref f) (.ref C)) :: pins) σ Q) X.xe s3 := by
    refine wpAny_call (PySem.W.method_call (ClX.pin_at I3) ?_)
    refine codeAny_mono ((Runs.gd F hg (hr.mono hj)).run s3 H2 ⟨.ref C :: us, []⟩ (.ref C :: us) (.ref C :: vs) Q (WE W σ) I3.env0 ?_ (.cons rfl rv) q2) fun res s' hq => ?_
    · have := hb s3 (.ref C :: us) I3.kIn (by simpa using hl)
      rwa [List.append_nil] at this
    · match res, hq with
      | .error er, hq => exact passAt tk σ _ H2 s3 er s' I3 hq
      | .ok (.ret u), hq => exact I3.after hq
      | .ok .next, hq => exact hq.elim
      | .ok .brk, hq => exact hq.elim
      | .ok .cont, hq => exact hq.elim
  exact thn z fun _ _ y => ClX.unpinE y
theorem pe_cmk {ks : List Str} {g : {α : Type} → List α → List α} {kws : List Keyword} {tk' : TA} (D : CMetKw X.prog X.w X.K X.mg X.base j C m ps sp ks g) (hgr : ∀ {vs : List V} {us : List Value}, Vals vs us → Vals (g vs) (g us)) (hg : X.A.guards = some []) (hr : Room k X.A) (tk : Takes X W) (he : PE X o ta) (hkw : PK X kws tk') (hj : j ≤ k := by decide)
    (hall : (backToKw pos (keywordEach kws X.env)).all (·.1.isSome) = true := by rfl) (hks : (backToKw pos (keywordEach kws X.env)).filterMap (·.1) = ks := by rfl)
    (hpl : ((backTo pos (starEach [] X.env)).any (·.1) || (backToKw pos (keywordEach kws X.env)).any (·.1.isNone)) = false := by rfl)
    (ht : eval (.Call (.Attribute o m apos) [] kws pos) X.env = (do
      let ov ← eval o X.env
      standAt apos.atName
      let (f, first) ← holding [ov] (getMethod ov m pl)
      callWith pos f first (backTo pos (starEach [] X.env)) (backToKw pos (keywordEach kws X.env))) := by rfl) :
    PE X (.Call (.Attribute o m apos) [] kws pos) (tCMetK C sp ks.length g (WE W) ta tk') := by
  obtain ⟨mc, p, f, fd, r, c, F, hb⟩ := D.ex
  refine ⟨fun pins s σ H Q I h => ?_⟩
  refine PySem.W.methodCall_KW (pl := pl) (thn (he.run pins s σ H _ I h) fun u s1 ⟨x, H1, I1, rx, ex, q⟩ => ?_) ht
  subst ex
  obtain rfl : u = Value.ref C := rx
  refine ClX.getmethcm_ok I1 r c fun s2 I2 => ?_
  refine PySem.W.callWith_of hpl (PySem.W.keeps_M c.fi) (evalArgs_kw2_nil hall (thn (hkw.run pos _ s2 σ H1 _ I2 q) fun ws s3 ⟨zs, H2, I3, rz, l2, q2⟩ => ⟨⟨ClX.pin_at I3, I3.kIn⟩, ?_⟩))
  rw [hks]
  have z : wpAny (model X.prog X.w) X.A (call (.ref s1.heap.objs.size) [] (ks.zip ws)) (EP X ((s1.heap.objs.size, PySem.W.methodObj (.ref f) (.ref C)) :: pins) σ Q) X.xe s3 := by
    refine wpAny_call (PySem.W.method_call (ClX.pin_at I3) ?_)
    refine codeAny_mono ((Runs.gd F hg (hr.mono hj)).run s3 H2 ⟨[.ref C], ks.zip ws⟩ (.ref C :: g ws) (.ref C :: g zs) Q (WE W σ) I3.env0 (hb s3 (.ref C) ws I3.kIn (rz.length.symm.trans l2)) (.cons rfl (hgr rz)) q2) fun res s' hq => ?_
    match res, hq with
      | .error er, hq => exact passAt tk σ _ H2 s3 er s' I3 hq
      | .ok (.ret u), hq => exact I3.after hq
      | .ok .next, hq => exact hq.elim
      | .ok .brk, hq => exact hq.elim
      | .ok .cont, hq => exact hq.elim
  exact thn z fun _ _ y => ClX.unpinE y
end
section
variable {K : PySem.W.Frag} {g : Gd} {E : WX} {F H : Hp} {σ : L2.St} {S : SS}
theorem _root_.L2.Rep.fnI {v : V} {c : Addr} (h : Rep K F v (.fn c)) : v = .ref c := by cases h; rfl
theorem repR_fn {v : V} {c : Addr} (h : RepR K F H v (.fn c)) : v = .ref c := by cases h with | fz h => cases h; rfl
@[simp] def lCMet (C : Addr) (f : LFn) (T : LT) (Ts : LTs) : LT := fun S Q R => T S (fun o S1 => o = .fn C ∧ Ts S1 (fun ds S2 => callWP f [] (.fn C :: ds) S2 Q R) R) R
theorem lf_cm {C : Addr} {n : Nat} {f : LFn} {to : TE} {ta : TA} {To : LT} {Ta : LTs} (ho : Lf K E to To) (ha : LfA K E ta Ta) (hn : ∀ as Q R, f as Q R → as.length = n) : Lf K E (tCMetS C (spL K n f) (WE E) to ta) (lCMet C f To Ta) := by
  intro g σ H F S Q R Q' rs q hq hx
  refine ho g σ H F S _ R _ rs q (fun o S1 v1 H1 F1 h1 c1 e1 r1 w1 => ?_) hx
  obtain ⟨rfl, h1⟩ := h1
  have ev : v1 = .ref C := repR_fn (w1.look r1)
  subst ev
  refine ⟨rfl, ?_⟩
  refine ha g σ H1 F1 S1 _ R _ r1 h1 (fun ds S2 vs H2 F2 h2 c2 e2 r2 w2 => ?_) (hx.step c1 e1)
  have := sp_of (dvs := []) (dd := []) (vs := .ref C :: vs) (fun _ => .nil) hn r2 (.cons (.inl (.fn _)) w2) h2 ((hq.step c1 e1).step c2 e2) fun c fs S' dx H' F' q c3 e3 r x => hx c fs S' dx H' F' q (c1.trans (c2.trans c3)) (e1.trans (e2.trans e3)) r x
  rw [List.append_nil] at this
  exact this
@[simp] def lCMetK (C : Addr) (f : LFn) (m : Nat) (gD : List D → List D) (T : LT) (Ts : LTs) : LT := fun S Q R => T S (fun o S1 => o = .fn C ∧ Ts S1 (fun ds S2 => ds.length = m ∧ callWP f [] (.fn C :: gD ds) S2 Q R) R) R
theorem lf_cmk {C : Addr} {n m : Nat} {f : LFn} {gp : {α : Type} → List α → List α} {to : TE} {ta : TA} {To : LT} {Ta : LTs} (hg : ∀ {F : Hp} {σ : L2.St} {S : SS} {vs : List V} {ds : List D}, Paired (RepW K F σ S) vs ds → Paired (RepW K F σ S) (gp vs) (gp ds)) (ho : Lf K E to To) (ha : LfA K E ta Ta) (hn : ∀ as Q R, f as Q R → as.length = n) :
    Lf K E (tCMetK C (spL K n f) m gp (WE E) to ta) (lCMetK C f m gp To Ta) := by
  intro g σ H F S Q R Q' rs q hq hx
  refine ho g σ H F S _ R _ rs q (fun o S1 v1 H1 F1 h1 c1 e1 r1 w1 => ?_) hx
  obtain ⟨rfl, h1⟩ := h1
  have ev : v1 = .ref C := repR_fn (w1.look r1)
  subst ev
  refine ⟨rfl, ?_⟩
  refine ha g σ H1 F1 S1 _ R _ r1 h1 (fun ds S2 vs H2 F2 h2 c2 e2 r2 w2 => ?_) (hx.step c1 e1)
  refine ⟨(Paired.length w2).trans h2.1, ?_⟩
  have := sp_of (dvs := []) (dd := []) (vs := .ref C :: gp vs) (fun _ => .nil) hn r2 (.cons (.inl (.fn _)) (hg w2)) h2.2 ((hq.step c1 e1).step c2 e2) fun c fs S' dx H' F' q c3 e3 r x => hx c fs S' dx H' F' q (c1.trans (c2.trans c3)) (e1.trans (e2.trans e3)) r x
  rw [List.append_nil] at this
  exact this
end
/-! ### classes made with defaults, by keywords alone, by a variable -/
/-- the module's name x is the class at C, made with the defaults dvs behind -/
structure MakeD (P : Program) (w : World) (K : PySem.W.Frag) (mg : Str → Option Value) (base : Heap) (k : Nat) (x : Str) (C : Addr) (ps : List Str) (sp : Sp) (dvs : List V) : Prop where
  ex : ∃ f fd ds, mg x = some (.ref C) ∧ Mk K C f ∧ FnG P w K mg base (L2.CX P w) k f fd ps sp ∧ Binds K fd ps ds ∧ Vals dvs ds
def tMakeF (C : Addr) (sp : Sp) (dvs : List V) (E : L2.St → XK) (tf : TE) (t : TA) : TE := fun σ H Q => tf σ H fun v H1 => v = .ref C ∧ tMakeS C sp dvs E t σ H1 Q
section
variable {X : Cx} {W : WX} {k j : Nat} {x m : Str} {C : Addr} {ps : List Str} {sp : Sp} {p pos apos : Pos} {e o : Expr} {es : List Expr} {t : TA} {ta tf : TE} {dvs : List V}
theorem pe_mkd (D : MakeD X.prog X.w X.K X.mg X.base j x C ps sp dvs) (hg : X.A.guards = some []) (hr : Room k X.A) (tk : Takes X W) (ha : PA X (e :: es) t) (hj : j + 1 ≤ k := by decide) (hgl : Gl X x := by rfl)
    (hdb : (x == ("__debug__" : Str)) = false := by decide) (he : starEach (e :: es) X.env = (false, eval e X.env) :: starEach es X.env := by rfl) (hpl : (backTo pos (starEach es X.env)).any (·.1) = false := by rfl) :
    PE X (.Call (.Name x p) (e :: es) [] pos) (tMakeS C sp dvs (WE W) t) := by
  obtain ⟨f, fd, ds, hm, M, F, hb, hd⟩ := D.ex
  exact pe_makeG M F hg (hr.mono hj) hgl hm hb hd (fun σ => passAt tk σ) ha hdb he hpl
theorem pe_mkv {y : Str} (D : MakeAt X.prog X.w X.K X.mg X.base j x C ps sp) (hg : X.A.guards = some []) (hr : Room k X.A) (tk : Takes X W) (hf : PE X (.Name y p) tf) (ha : PA X (e :: es) t) (hj : j + 1 ≤ k := by decide)
    (he : starEach (e :: es) X.env = (false, eval e X.env) :: starEach es X.env := by rfl) (hpl : (backTo pos (starEach es X.env)).any (·.1) = false := by rfl) :
    PE X (.Call (.Name y p) (e :: es) [] pos) (tMakeF C sp [] (WE W) tf t) := by
  obtain ⟨f, fd, hm, M, F, hb⟩ := D.ex
  refine ⟨fun pins s σ H Q I h => ?_⟩
  refine wpAny_Call_Name_kw (thn (hf.run pins s σ H _ I h) fun u s0 ⟨v, H0, I0, r0, ev, q0⟩ => ?_)
  subst ev
  obtain rfl : u = Value.ref C := r0
  refine PySem.W.callWith_K (h₀ := X.base) I.ok.mod.kin M.kp (thn (ha.run pos pins s0 σ H0 _ I0 q0) fun us s1 ⟨vs, H1, I1, r, q⟩ => ⟨I1.kIn, ?_⟩) he hpl
  exact run_makeG M F hg (hr.mono hj) hb .nil (passAt tk σ) I1 r q
end
section
variable {K : PySem.W.Frag} {g : Gd} {E : WX} {F H : Hp} {σ : L2.St} {S : SS}
@[simp] def lMakeF (C : Addr) (f : LFn) (dd : List D) (Tf : LT) (Ta : LTs) : LT := fun S Q R => Tf S (fun o S1 => o = .fn C ∧ lMake C f dd Ta S1 Q R) R
theorem lf_mkv {C : Addr} {n : Nat} {f : LFn} {tf : TE} {ta : TA} {Tf : LT} {Ta : LTs} (hf : Lf K E tf Tf) (ha : LfA K E ta Ta) (hn : ∀ as Q R, f as Q R → as.length = n) : Lf K E (tMakeF C (spL K n f) [] (WE E) tf ta) (lMakeF C f [] Tf Ta) := by
  intro g σ H F S Q R Q' rs q hq hx
  refine hf g σ H F S _ R _ rs q (fun o S1 v1 H1 F1 h1 c1 e1 r1 w1 => ?_) hx
  obtain ⟨rfl, h1⟩ := h1
  have ev : v1 = .ref C := repR_fn (w1.look r1)
  subst ev
  exact ⟨rfl, lf_make (fun _ => .nil) ha hn g σ H1 F1 S1 Q R Q' r1 h1 (hq.step c1 e1) (hx.step c1 e1)⟩
end
/-! ### a != b, both of a class with an __eq__ of its own and no __ne__ -/
section
open PySem.W PySem.Calls Builtin
variable {prog : Program} {w : World} {A : Around} {E : Value → Shared → Prop} {s : Shared} {K : PySem.W.Frag} {x C L f : Addr} {h₀ : Heap} {m : Str → Option Value} {ox : Obj} {od : Option Obj} {b tb : Value}
theorem ifBound_B {M : Model} {name : Str} {id : String} {args : List Value} {Q : Option Value → Shared → Prop} (X : K.In s.heap) (I : InstAt s.heap x ox C od) (hs : findIn K (.ref C) name = some (some (.builtin id)))
    (hb : ∀ self, bindSpecial (.builtin id) self = pure (.builtin id, [self])) (h : wpAny M A (call (.builtin id) (.ref x :: args)) (fun v => Q (some v)) E s) : wpAny M A (callSpecialIfBound? (.ref x) name args) Q E s := by
  simp only [callSpecialIfBound?, bindSpecialIfBound?]
  refine wpAny_holding (wpAny_bind (wpAny_bind (wpAny_bind (I.type.here ((looks_findIn X hs).here ?_)))))
  refine wpAny_bind (wpAny_askSetting (wpAny_ite ?_))
  have fin : wpAny M A (call (.builtin id) ([.ref x] ++ args) >>= fun v => pure (some v)) Q E s := wpAny_bind (wpAny_mono h (fun v s' h' => wpAny_pure h') fun _ _ h' => h')
  split
  · exact wpAny_bind ((Looks.of_pure (hb _)).here (wpAny_pure (by exact fin)))
  · exact wpAny_tryCatch (wpAny_bind ((Looks.of_pure (hb _)).here (wpAny_pure (by exact fin))))
theorem objNe_K {Q : Fin → Shared → Prop} (hu : A.units < cLine) (X : K.In s.heap) (I : InstAt s.heap x ox C od) (he : findIn K (.ref C) "__eq__" = some (some (.ref f))) (hf : isFn K (.ref f) = true)
    (h : wpAny (model prog w) A (call (.ref f) [.ref x, b]) (fun v s' => ∃ t, v = .bool t ∧ Q (.done (.ret (.bool (!t)))) s') E s) : wpAny (model prog w) A (Builtin.«object.__ne__» ⟨[.ref x, b], []⟩) Q E s := by
  unfold Builtin.«object.__ne__»
  refine wpAny_bind (m := slotArgs "__ne__" 1 _) (wpAny_pure ?_)
  refine wpAny_bind (m := cRoomFor _ _) (wpAny_cRoomFor hu ?_)
  refine wpAny_bind (m := callSpecialIfBound? (.ref x) (Str.ofString "__eq__") _) (ifBound_K X I he hf (wpAny_mono h (fun r s' hr => ?_) fun _ _ y => y))
  obtain ⟨t, rfl, hq⟩ := hr
  refine wpAny_bind (m := truthy (.bool t)) (wpAny_truthy_bool ?_)
  exact wpAny_pure hq
theorem ne_K {Q : Value → Shared → Prop} (hu0 : A.units < cLine) (hu : A.in1.units < cLine) (F : Fr h₀ L s.heap m) (X₀ : K.In h₀) (I : InstAt s.heap x ox C od) (hb : Looks (model prog w) s.heap (typeOf b) tb) (hn : notFirst K C tb = true)
    (hm : mroIn K C (.type "object") = some true) (hs : findIn K (.ref C) "__ne__" = some (some (.builtin "object.__ne__"))) (he : findIn K (.ref C) "__eq__" = some (some (.ref f))) (hf : isFn K (.ref f) = true)
    (h : wpAny (model prog w) A.in1 (call (.ref f) [.ref x, b]) (fun v s' => ∃ t, v = .bool t ∧ Q (.bool (!t)) s') E s) : wpAny (model prog w) A (richCompare .NotEq (.ref x) b) Q E s := by
  have X := X₀.keeps F.keep
  have one : wpAny (model prog w) A (tryCompare (.ref x) "__ne__" b) (fun r s' => ∃ v, r = some v ∧ Q v s') E s := by
    unfold tryCompare
    refine wpAny_bind (ifBound_B X I hs PySem.F.cmp_object.ne.bind (wpAny_call (codeAny_call_builtin PySem.F.cmp_object.ne.plain PySem.F.cmpEntry_ne
      (check_slot PySem.F.cmpKind_ne PySem.F.cmpSplit_ne (I.type.andThen (looks_mroIn X hm)) (PySem.F.cmpArgs_ne _ _) (objNe_K (A := A.in1) hu X I he hf (wpAny_mono h (fun v s' hv => ?_) fun _ _ e => e))))))
    obtain ⟨t, rfl, hq⟩ := hv
    exact ⟨t, rfl, wpAny_pure ⟨_, rfl, hq⟩⟩
  unfold richCompare
  simp only [oneThing_ref]
  refine wpAny_holding (wpAny_bind (wpAny_cRoomFor hu0 ?_))
  refine wpAny_bind (I.type.here (wpAny_bind (hb.here ?_)))
  split
  · rename_i q
    have e : subIn K tb (.ref C) = some false := by
      rcases Bool.or_eq_true_iff.mp hn with e | e
      · rw [beq_iff_eq.mp e] at q; simp at q
      · exact beq_iff_eq.mp e
    refine wpAny_bind ((looks_subIn X e).here ?_)
    simp only [Bool.false_eq_true, if_false]
    refine wpAny_bind (wpAny_mono one (fun r s' z => ?_) fun _ _ e => e)
    obtain ⟨v, rfl, hq⟩ := z
    exact wpAny_pure hq
  · refine wpAny_bind (wpAny_pure ?_)
    simp only [Bool.false_eq_true, if_false]
    refine wpAny_bind (wpAny_mono one (fun r s' z => ?_) fun _ _ e => e)
    obtain ⟨v, rfl, hq⟩ := z
    exact wpAny_pure hq
end
/-- the class at C has no __ne__ of its own -/
structure NeAt (K : PySem.W.Frag) (C : Addr) : Prop where
  ne : PySem.W.findIn K (.ref C) "__ne__" = some (some (.builtin "object.__ne__"))
  ob : PySem.W.mroIn K C (.type "object") = some true
def rNeO (C : Addr) (sp : Sp) : R2 := fun x y H Q => ∃ a b dx dy fs gs, x = .ref a ∧ y = .ref b ∧ H a = some (.ins C dx fs) ∧ H b = some (.ins C dy gs) ∧ sp [.ref a, .ref b] H (fun v H2 => ∃ t, v = .bl t ∧ Q (.bl (!t)) H2) (fun _ _ _ => False)
section
variable {X : Cx} {k j : Nat} {C : Addr} {sp : Sp}
theorem op_neO (D : MethAt X.prog X.w X.K X.mg X.base j C "__eq__" sp) (N : NeAt X.K C) (hgd : X.A.guards = some []) (hr : Room k X.A) (hj : j + 1 ≤ k := by decide) : OpR X (compareOp .NotEq) (rNeO C sp) := by
  obtain ⟨g, fd, ps, c, hs, hf, F, hb⟩ := D.ex
  intro pins s σ H x y v u Q I rx ry h
  obtain ⟨a, b, dx, dy, fs, gs, rfl, rfl, ha, hb', q⟩ := h
  obtain rfl : v = Value.ref a := rx
  obtain rfl : u = Value.ref b := ry
  obtain ⟨mA, J, _⟩ := ins_get I.hok ha
  obtain ⟨mB, J', _⟩ := ins_get I.hok hb'
  obtain ⟨od, J, _⟩ := J.look
  obtain ⟨od', J', _⟩ := J'.look
  obtain ⟨m, hF⟩ := I.fr
  have hr2 : Room (j + 1) X.A := hr.mono hj
  show wpAny (model X.prog X.w) X.A (richCompare .NotEq (.ref a) (.ref b)) (EP X pins σ Q) X.xe s
  refine ne_K (tb := .ref C) hr.units0 hr2.in1.units0 hF I.ok.mod.kin J J'.type (by simp [PySem.W.notFirst]) N.ob N.ne hs hf ?_
  have hl : ([Value.ref a, Value.ref b] ++ []).length = ps.length := by rw [← F.len _ _ _ _ q]; rfl
  refine wpAny_call (codeAny_mono (F.run X.A.in1 X.stack s H ⟨[.ref a, .ref b], []⟩ [.ref a, .ref b] [.ref a, .ref b] _ E0 hgd hr2.in1 I.env0.in1 (hb _ [.ref a, .ref b] I.kIn hl) (.cons rfl (.cons rfl .nil)) q) fun r s' hq => ?_)
  cases r with
  | error er => exact passL pins σ H s er s' (I.wish _) hq
  | ok fl =>
    cases fl with
    | ret u =>
      obtain ⟨v, H', I4, rv, t, rfl, q3⟩ := I.after hq
      obtain rfl : u = Value.bool t := rv
      exact ⟨t, rfl, ⟨.bl (!t), H', I4, rfl, q3⟩⟩
    | next => exact False.elim hq
    | brk => exact False.elim hq
    | cont => exact False.elim hq
end
section
variable {K : PySem.W.Frag} {g : Gd} {E : WX} {F H : Hp} {σ : L2.St} {S : SS}
@[simp] def lNeO (C : Addr) (f : LFn) (Ta Tb : LT) : LT := fun S Q R => Ta S (fun x S1 => Tb S1 (fun y S2 => isIns C (look S2 x) ∧ isIns C (look S2 y) ∧ callWP f [] [x, y] S2 (fun z S3 => ∃ t, z = .bl t ∧ Q (.bl (!t)) S3) fun _ _ _ => False) R) R
theorem lf_neO {C : Addr} {f : LFn} {ta tb : TE} {Ta Tb : LT} (ha : Lf K E ta Ta) (hb : Lf K E tb Tb) (hn : ∀ as Q R, f as Q R → as.length = 2) : Lf K E (tOp (rNeO C (spL K 2 f)) ta tb) (lNeO C f Ta Tb) := by
  intro g σ H F S Q R Q' rs q hq hx
  refine ha g σ H F S _ R _ rs q (fun x S1 v1 H1 F1 h1 c1 e1 r1 w1 => ?_) hx
  refine hb g σ H1 F1 S1 _ R _ r1 h1 (fun y S2 v2 H2 F2 h2 c2 e2 r2 w2 => ?_) (hx.step c1 e1)
  obtain ⟨i1, i2, h3⟩ := h2
  have w1' := w1.step c2 e2
  obtain ⟨a, dx, ns, vs, ds, rfl, _, hH, _⟩ := ins_at r2.fh' (w1'.look r2) i1
  obtain ⟨b, dy, ms, us, es, rfl, _, hH', _⟩ := ins_at r2.fh' (w2.look r2) i2
  refine ⟨a, b, dx, dy, _, _, rfl, rfl, hH, hH', ?_⟩
  refine sp_of (dvs := []) (dd := []) (vs := [.ref a, .ref b]) (fun _ => .nil) hn r2 (.cons w1' (.cons w2 .nil)) h3 (fun z S3 v H3 F3 q2 c3 e3 r3 w3 => ?_) fun c fs S' dx H' F' q _ _ _ _ => q.elim
  obtain ⟨t, rfl, q2⟩ := q2
  have ev : v = .bl t := (w3.look r3).blI
  subst ev
  exact ⟨t, rfl, hq (.bl (!t)) S3 _ H3 F3 q2 (c1.trans (c2.trans c3)) (e1.trans (e2.trans e3)) r3 (.inl (.bl _))⟩
end
/-! ### for .. in an own list that may be changed behind the loop -/
section
variable {K : PySem.W.Frag} {g : Gd} {E : WX} {F H : Hp} {σ : L2.St} {S : SS}
theorem kp_ret {te : TE} : Keeps (tRet te) := fun D σ H => rfl
theorem RS.hide {i : Nat} {xs : List D} (r : RS K g F H σ S) (hk : S[i]? = some (some (.c true (.lst xs)))) :
    ∃ a vs, σ[i]? = some (some (.ref a)) ∧ H a = some (.lst vs) ∧ RepL K F vs xs ∧ g.G a = none ∧ ¬ g.B a ∧ RS K (gadd g a (.lst vs)) F H σ (S.set i none) := by
  obtain ⟨fp, r⟩ := r
  obtain ⟨a, ha, hc, hf⟩ := r.cel i true _ hk
  obtain ⟨f1, f2, f3⟩ := hf a hc.mem
  have hB := f3 rfl
  have hm := hc.mem
  obtain ⟨_, ws, hw, rl⟩ := hc
  have hli := (List.getElem?_eq_some_iff.mp hk).1
  have back : ∀ {j : Nat} {x : Sl}, (S.set i none)[j]? = some (some x) → j ≠ i ∧ S[j]? = some (some x) := fun {j x} q => by
    by_cases hj : j = i
    · subst hj; rw [List.getElem?_set_self hli] at q; cases q
    · rw [get_set_ne hj] at q; exact ⟨hj, q⟩
  have r1 : RS K g F H σ (S.set i none) := by
    refine ⟨fp, r.fh, r.gf, r.nb, fun j d q => r.val j d (back q).2, fun j o k q => r.cel j o k (back q).2, fun j l o k o' k' n e1 e2 => r.ap j l o k o' k' n (back e1).2 (back e2).2, by rw [List.length_set]; exact r.len, fun p hp => ?_, fun j k q => r.nl j k (back q).2, r.tb⟩
    obtain ⟨h1, k, h2⟩ := r.lent p hp
    have hj : p.1 ≠ i := fun z => by rw [z, hk] at h2; cases h2
    rw [get_set_ne hj]
    exact ⟨h1, k, h2⟩
  refine ⟨a, ws, ha, hw, rl, f2, hB, r1.toPend hw f1 (fun j ow k _ a' e ea z => ?_) (fun _ z => (nomatch z))⟩
  obtain ⟨hj, e'⟩ := back e
  obtain ⟨a2, h1, h2, _⟩ := r.cel j ow k e'
  rw [ea] at h1
  cases h1
  subst z
  exact r.ap j i ow k true _ hj e' hk _ h2.mem hm
def forCW : List D → (D → SS → En → Prop) → (SS → Prop) → En → SS → Prop
  | [], _, fin, _, S => fin S
  | d :: ds, b, fin, D, S => b d S { nx := forCW ds b fin D, rt := D.rt, xr := D.xr }
def lForC (i : Nat) (G : LG) (Tb : LTS) : LTS := fun Z S => ∃ xs, S[i]? = some (some (.c true (.lst xs))) ∧
  forCW xs (fun d S' Z' => G d S' (Tb Z') Z'.xr) (fun S' => freeSl S' i = true ∧ Z.nx (S'.set i (some (.c true (.lst xs))))) Z (S.set i none)
theorem wipe_out {j : Nat} : ∀ {vs : List Nat} {σ : L2.St}, j ∉ vs → (wipe σ vs)[j]? = σ[j]?
  | [], _, _ => rfl
  | v :: vs, σ, h => by
    show ((wipe σ vs).set v none)[j]? = σ[j]?
    rw [get_set_ne (fun z => h (by rw [z]; exact List.mem_cons_self)), wipe_out fun z => h (List.mem_cons_of_mem _ z)]
theorem lfs_forC {i : Nat} {gt : TG} {tb : TS} {G : LG} {Tb : LTS} {vs : List Nat} (hg : LfG K E gt G) (ho : TgOwn gt vs) (hi : i ∉ vs) (hb : LfS K E tb Tb) (kp : Keeps tb) : LfS K E (tFor (iSeqU K (tVar i)) gt tb) (lForC i G Tb) := fun g σ H F S D3 D2 rs q c => by
  obtain ⟨xs, hk, q⟩ := q
  obtain ⟨a, ws, ha, hw, rl, hG, hB, rp⟩ := rs.hide hk
  refine ⟨.ref a, ha, .inl ⟨a, ws, rfl, SqL.of hw, ?_⟩⟩
  have hl := rl.length
  refine ⟨fun j m σ' H' => m = xs.length - j ∧ j ≤ xs.length ∧ ∃ F' S', Same F F' ∧ RS K (gadd g a (.lst ws)) F' H' σ' S' ∧ σ'[i]? = some (some (.ref a)) ∧ forCW (xs.drop j) (fun d S' Z' => G d S' (Tb Z') Z'.xr) (fun S' => freeSl S' i = true ∧ D3.nx (S'.set i (some (.c true (.lst xs))))) D3 S',
    ⟨xs.length, by simp, Nat.zero_le _, F, _, Same.refl F, rp, ha, q⟩, ?_⟩
  rintro j m σ2 H2 ⟨rfl, hle, F2, S2, e2, r2, h2a, h2⟩
  have hH : SqL K H2 a ws := SqL.of r2.pendH
  have c2 := c.step e2
  by_cases hlt : j < xs.length
  · refine .inr ⟨⟨ws, ws[j]'(by omega), hH, by simp⟩, fun σ' H' => ∃ F' S', Same F F' ∧ RS K (gadd g a (.lst ws)) F' H' σ' S' ∧ σ'[i]? = some (some (.ref a)) ∧ forCW (xs.drop (j + 1)) (fun d S' Z' => G d S' (Tb Z') Z'.xr) (fun S' => freeSl S' i = true ∧ D3.nx (S'.set i (some (.c true (.lst xs))))) D3 S', ?_, fun x H3 y => ?_⟩
    · rintro σ' H' ⟨F', S', e, r, z, q⟩
      exact ⟨xs.length - (j + 1), by omega, rfl, hlt, F', S', e, r, z, q⟩
    · obtain ⟨rfl, hy⟩ := y
      obtain ⟨v, hv, rep⟩ := (rl.mono e2).get (show xs[j]? = some xs[j] by simp [hlt])
      have := hy ws hH
      rw [hv] at this
      cases this
      rw [List.drop_eq_getElem_cons hlt] at h2
      refine ho x σ2 H3 (fun σ4 H4 => ∃ F4 S4, Same F2 F4 ∧ RS K (gadd g a (.lst ws)) F4 H4 σ4 S4 ∧ Tb { nx := forCW (xs.drop (j + 1)) (fun d S' Z' => G d S' (Tb Z') Z'.xr) (fun S' => freeSl S' i = true ∧ D3.nx (S'.set i (some (.c true (.lst xs))))) D3, rt := D3.rt, xr := D3.xr } S4) _ ?_
        (hg (gadd g a (.lst ws)) x xs[j] σ2 H3 F2 S2 _ _ _ r2 (.inl rep) h2 (fun S4 σ4 H4 F4 q4 e4 r4 => ⟨F4, S4, e4, r4, q4⟩) fun cl fs S4 dx σ4 H4 F4 q e r x => c2.xr cl fs S4 dx σ4 H4 F4 q e (r.unpend hG) x)
      rintro σ4 H4 ⟨F4, S4, e4, r4, q4⟩ w
      have h4 : σ4[i]? = some (some (.ref a)) := by rw [← wipe_out (vs := vs) (σ := σ4) hi, w, wipe_out hi, h2a]
      rw [← kp]
      have c4 := c2.step e4
      exact hb (gadd g a (.lst ws)) σ4 H4 F4 S4 _ _ r4 q4 ⟨fun S' σ' H' F' q e r z => ⟨F', S', e2.trans (e4.trans e), r, by rw [z]; exact h4, q⟩,
        fun d S' v σ' H' F' h e r w => c4.rt d S' v σ' H' F' h e (r.unpend hG) w, fun _ _ _ _ z => z.elim, fun _ _ _ _ z => z.elim, fun cl fs S' dx σ' H' F' h e r x => c4.xr cl fs S' dx σ' H' F' h e (r.unpend hG) x⟩
  · have e : j = xs.length := by omega
    subst e
    rw [List.drop_length] at h2
    obtain ⟨hf, h2⟩ := h2
    have r3 := r2.toCell hG hB r2.pendH (rl.mono e2) hf
    have hls : i < σ2.length := (List.getElem?_eq_some_iff.mp h2a).1
    have es : σ2.set i (some (.ref a)) = σ2 := by
      refine List.ext_getElem? fun j => ?_
      by_cases hj : j = i
      · subst hj; rw [List.getElem?_set_self hls, h2a]
      · rw [get_set_ne hj]
    rw [es] at r3
    exact .inl ⟨⟨ws, hH, by omega⟩, c2.nx _ σ2 H2 F2 h2 (Same.refl F2) r3⟩
end
theorem noFree {ns : List (Str × NameKind)} (h : (ns.all fun y => y.2 != .free) = true) : ∀ y ∈ ns, ¬ y.2 = .free := fun y hy e => by
  have := List.all_eq_true.mp h y hy
  rw [e] at this
  exact absurd this (by decide)
/-! ### a, b = a list -/
section
variable {K : PySem.W.Frag} {g : Gd} {E : WX} {F H : Hp} {σ : L2.St} {S : SS} {X : Cx} {es : List Expr} {pos : Pos}
@[simp] def gLstL (n : Nat) (Gs : LGs) : LG := fun d S Q R => match look S d with
  | .lst ds => ds.length = n ∧ Gs ds S Q R
  | _ => False
theorem lfg_unl {n : Nat} {t : TGs} {Gs : LGs} (h1 : LfGs K E t Gs) : LfG K E (gUnl K n t) (gLstL n Gs) := fun g v d σ H F S Q R Q' rs w h hq hx => by
  unfold gLstL at h
  have w' := w.look rs
  split at h
  · rename_i ds e
    rw [e] at w'
    obtain ⟨a, vs, rfl, ha, ra⟩ := w'.lstI rs.fh'
    exact ⟨a, vs, rfl, SqL.of ha, by rw [ra.length]; exact h.1, h1 g vs ds σ H F S Q R Q' rs ra h.2 hq hx⟩
  · exact h.elim
theorem pg_unlK {kk : Nat} {u : TGs} {n : Nat} (hK : X.K = K) (hc : X.calm = true) (h : PGs X es u) (hn : (assignEach es X.env).length = n := by rfl) (hst : (assignEach es X.env).findIdx? (·.1) = none := by rfl) : PG X (.Tuple es kk pos) (gUnl K n u) := by subst hK; exact pg_unl hc h hn hst
end
end L3
set_option linter.all false
set_option maxRecDepth 100000
set_option maxHeartbeats 4000000
/-! L3, part Z2: empty dicts, == and != of an own object and anything, bool of an own object, makes by keywords. -/
namespace L3
open PySem PySem.Spec PyProof.Rows L2
/-! ### {} -/
section
variable {K : PySem.W.Frag} {g : Gd} {E : WX} {F H : Hp} {σ : L2.St} {S : SS}
@[simp] def lEdc : LT := fun S Q _ => Q .edc S
theorem lf_edc : Lf K E tDNewK lEdc := by
  intro g σ H F S Q R Q' rs h hq hx
  intro p hp
  exact hq _ S _ _ (upd F p (.dK [])) h (CS.refl S) (sameNew (rs.free hp)) (rs.new hp) (.inl (.edc upd_same))
end
/-! ### a == b, a != b: a of an own class, b anything -/
/-- what is asked of b -/
def EqTy (K : PySem.W.Frag) (C : Addr) (d : D) : Prop := ∃ t, TyD K d t ∧ PySem.W.notFirst K C t = true
section
variable {K : PySem.W.Frag} {C : Addr}
theorem nf_ty {T : String} {l : List Value} (h : PySem.fastBuiltinMro T = some l) (hl : l.contains (.ref C) = false) : PySem.W.notFirst K C (.type T) = true := by
  have e : PySem.W.subIn K (.type T) (.ref C) = some false := by
    show (PySem.fastBuiltinMro T).map (·.contains (.ref C)) = some false
    rw [h]
    simpa using hl
  unfold PySem.W.notFirst
  rw [e]
  simp
@[simp] theorem eqTy_non : EqTy K C .non := ⟨_, .non, nf_ty (T := "NoneType") (l := [.type "NoneType", .type "object"]) (by kernel_rfl) (by first | rfl | simp)⟩
@[simp] theorem eqTy_bl {b : Bool} : EqTy K C (.bl b) := ⟨_, .bl b, nf_ty (T := "bool") (l := [.type "bool", .type "int", .type "object"]) (by kernel_rfl) (by first | rfl | simp)⟩
@[simp] theorem eqTy_int {i : Int} : EqTy K C (.int i) := ⟨_, .int i, nf_ty (T := "int") (l := [.type "int", .type "object"]) (by kernel_rfl) (by first | rfl | simp)⟩
@[simp] theorem eqTy_str {x : Str} : EqTy K C (.str x) := ⟨_, .str x, nf_ty (T := "str") (l := [.type "str", .type "object"]) (by kernel_rfl) (by first | rfl | simp)⟩
@[simp] theorem eqTy_tup {xs : List D} : EqTy K C (.tup xs) := ⟨_, .tup xs, nf_ty (T := "tuple") (l := [.type "tuple", .type "object"]) (by kernel_rfl) (by first | rfl | simp)⟩
@[simp] theorem eqTy_lst {xs : List D} : EqTy K C (.lst xs) := ⟨_, .lst xs, nf_ty (T := "list") (l := [.type "list", .type "object"]) (by kernel_rfl) (by first | rfl | simp)⟩
@[simp] theorem eqTy_edc : EqTy K C .edc := ⟨_, .edc, nf_ty (T := "dict") (l := [.type "dict", .type "object"]) (by kernel_rfl) (by first | rfl | simp)⟩
theorem eqTy_ins {ns : List Str} {fs : List D} (h : InsTy K C) : EqTy K C (.ins C ns fs) := ⟨_, .ins C ns fs h, by simp [PySem.W.notFirst]⟩
end
def rEqT (K : PySem.W.Frag) (C : Addr) (sp : Sp) : R2 := fun x y H Q => ∃ a dx fs t, x = .ref a ∧ H a = some (.ins C dx fs) ∧ TyX K H y t ∧ PySem.W.notFirst K C t = true ∧ sp [.ref a, y] H (fun v H2 => ∃ t, v = .bl t ∧ Q (.bl t) H2) (fun _ _ _ => False)
def rNeT (K : PySem.W.Frag) (C : Addr) (sp : Sp) : R2 := fun x y H Q => ∃ a dx fs t, x = .ref a ∧ H a = some (.ins C dx fs) ∧ TyX K H y t ∧ PySem.W.notFirst K C t = true ∧ sp [.ref a, y] H (fun v H2 => ∃ t, v = .bl t ∧ Q (.bl (!t)) H2) (fun _ _ _ => False)
section
variable {X : Cx} {k j : Nat} {C : Addr} {sp : Sp} {K : PySem.W.Frag}
theorem op_eqT (hK : X.K = K) (D : MethAt X.prog X.w X.K X.mg X.base j C "__eq__" sp) (hgd : X.A.guards = some []) (hr : Room k X.A) (hj : j ≤ k := by decide) : OpR X (compareOp .Eq) (rEqT K C sp) := by
  subst hK
  obtain ⟨g, fd, ps, c, hs, hf, F, hb⟩ := D.ex
  intro pins s σ H x y v u Q I rx ry h
  obtain ⟨a, dx, fs, t, rfl, ha, ht, hn, q⟩ := h
  obtain rfl : v = Value.ref a := rx
  obtain ⟨mA, J, _⟩ := ins_get I.hok ha
  obtain ⟨od, J, _⟩ := J.look
  obtain ⟨P, Z, hP, _⟩ := kit_of I ry ht
  obtain ⟨m, hF⟩ := I.fr
  show wpAny (model X.prog X.w) X.A (richCompare .Eq (.ref a) u) (EP X pins σ Q) X.xe s
  refine PySem.W.cmp_K (op := .Eq) (tb := t) hr.units0 hF I.ok.mod.kin J (Z.ty _ _ I.kIn hP) hn hs hf ?_
  have hl : ([Value.ref a, u] ++ []).length = ps.length := by rw [← F.len _ _ _ _ q]; rfl
  refine wpAny_call (codeAny_mono (F.run X.A X.stack s H ⟨[.ref a, u], []⟩ [.ref a, u] [.ref a, y] _ E0 hgd (hr.mono hj) I.env0 (hb _ [.ref a, u] I.kIn hl) (.cons rfl (.cons ry .nil)) q) fun r s' hq => ?_)
  cases r with
  | error er => exact passL pins σ H s er s' (I.wish _) hq
  | ok fl =>
    cases fl with
    | ret u =>
      obtain ⟨v, H', I4, rv, t, rfl, q3⟩ := I.after hq
      obtain rfl : u = Value.bool t := rv
      exact ⟨.bl t, H', I4, rfl, q3⟩
    | next => exact False.elim hq
    | brk => exact False.elim hq
    | cont => exact False.elim hq
theorem op_neT (hK : X.K = K) (D : MethAt X.prog X.w X.K X.mg X.base j C "__eq__" sp) (N : NeAt X.K C) (hgd : X.A.guards = some []) (hr : Room k X.A) (hj : j + 1 ≤ k := by decide) : OpR X (compareOp .NotEq) (rNeT K C sp) := by
  subst hK
  obtain ⟨g, fd, ps, c, hs, hf, F, hb⟩ := D.ex
  intro pins s σ H x y v u Q I rx ry h
  obtain ⟨a, dx, fs, t, rfl, ha, ht, hn, q⟩ := h
  obtain rfl : v = Value.ref a := rx
  obtain ⟨mA, J, _⟩ := ins_get I.hok ha
  obtain ⟨od, J, _⟩ := J.look
  obtain ⟨P, Z, hP, _⟩ := kit_of I ry ht
  obtain ⟨m, hF⟩ := I.fr
  have hr2 : Room (j + 1) X.A := hr.mono hj
  show wpAny (model X.prog X.w) X.A (richCompare .NotEq (.ref a) u) (EP X pins σ Q) X.xe s
  refine ne_K (tb := t) hr.units0 hr2.in1.units0 hF I.ok.mod.kin J (Z.ty _ _ I.kIn hP) hn N.ob N.ne hs hf ?_
  have hl : ([Value.ref a, u] ++ []).length = ps.length := by rw [← F.len _ _ _ _ q]; rfl
  refine wpAny_call (codeAny_mono (F.run X.A.in1 X.stack s H ⟨[.ref a, u], []⟩ [.ref a, u] [.ref a, y] _ E0 hgd hr2.in1 I.env0.in1 (hb _ [.ref a, u] I.kIn hl) (.cons rfl (.cons ry .nil)) q) fun r s' hq => ?_)
  cases r with
  | error er => exact passL pins σ H s er s' (I.wish _) hq
  | ok fl =>
    cases fl with
    | ret u =>
      obtain ⟨v, H', I4, rv, t, rfl, q3⟩ := I.after hq
      obtain rfl : u = Value.bool t := rv
      exact ⟨t, rfl, ⟨.bl (!t), H', I4, rfl, q3⟩⟩
    | next => exact False.elim hq
    | brk => exact False.elim hq
    | cont => exact False.elim hq
end
section
variable {K : PySem.W.Frag} {g : Gd} {E : WX} {F H : Hp} {σ : L2.St} {S : SS}
@[simp] def lEqT (K : PySem.W.Frag) (C : Addr) (f : LFn) (Ta Tb : LT) : LT := fun S Q R => Ta S (fun x S1 => Tb S1 (fun y S2 => isIns C (look S2 x) ∧ EqTy K C (look S2 y) ∧ callWP f [] [x, y] S2 (fun z S3 => ∃ t, z = .bl t ∧ Q (.bl t) S3) fun _ _ _ => False) R) R
@[simp] def lNeT (K : PySem.W.Frag) (C : Addr) (f : LFn) (Ta Tb : LT) : LT := fun S Q R => Ta S (fun x S1 => Tb S1 (fun y S2 => isIns C (look S2 x) ∧ EqTy K C (look S2 y) ∧ callWP f [] [x, y] S2 (fun z S3 => ∃ t, z = .bl t ∧ Q (.bl (!t)) S3) fun _ _ _ => False) R) R
theorem lf_eqT {C : Addr} {f : LFn} {ta tb : TE} {Ta Tb : LT} (ha : Lf K E ta Ta) (hb : Lf K E tb Tb) (hn : ∀ as Q R, f as Q R → as.length = 2) : Lf K E (tOp (rEqT K C (spL K 2 f)) ta tb) (lEqT K C f Ta Tb) := by
  intro g σ H F S Q R Q' rs q hq hx
  refine ha g σ H F S _ R _ rs q (fun x S1 v1 H1 F1 h1 c1 e1 r1 w1 => ?_) hx
  refine hb g σ H1 F1 S1 _ R _ r1 h1 (fun y S2 v2 H2 F2 h2 c2 e2 r2 w2 => ?_) (hx.step c1 e1)
  obtain ⟨i1, ⟨t, i2, i3⟩, h3⟩ := h2
  have w1' := w1.step c2 e2
  obtain ⟨a, dx, ns, vs, ds, rfl, _, hH, _⟩ := ins_at r2.fh' (w1'.look r2) i1
  refine ⟨a, dx, _, t, rfl, hH, tyx_of r2.fh' (w2.look r2) i2, i3, ?_⟩
  refine sp_of (dvs := []) (dd := []) (vs := [.ref a, v2]) (fun _ => .nil) hn r2 (.cons w1' (.cons w2 .nil)) h3 (fun z S3 v H3 F3 q2 c3 e3 r3 w3 => ?_) fun c fs S' dx H' F' q _ _ _ _ => q.elim
  obtain ⟨t, rfl, q2⟩ := q2
  have ev : v = .bl t := (w3.look r3).blI
  subst ev
  exact ⟨t, rfl, hq (.bl t) S3 _ H3 F3 q2 (c1.trans (c2.trans c3)) (e1.trans (e2.trans e3)) r3 (.inl (.bl t))⟩
theorem lf_neT {C : Addr} {f : LFn} {ta tb : TE} {Ta Tb : LT} (ha : Lf K E ta Ta) (hb : Lf K E tb Tb) (hn : ∀ as Q R, f as Q R → as.length = 2) : Lf K E (tOp (rNeT K C (spL K 2 f)) ta tb) (lNeT K C f Ta Tb) := by
  intro g σ H F S Q R Q' rs q hq hx
  refine ha g σ H F S _ R _ rs q (fun x S1 v1 H1 F1 h1 c1 e1 r1 w1 => ?_) hx
  refine hb g σ H1 F1 S1 _ R _ r1 h1 (fun y S2 v2 H2 F2 h2 c2 e2 r2 w2 => ?_) (hx.step c1 e1)
  obtain ⟨i1, ⟨t, i2, i3⟩, h3⟩ := h2
  have w1' := w1.step c2 e2
  obtain ⟨a, dx, ns, vs, ds, rfl, _, hH, _⟩ := ins_at r2.fh' (w1'.look r2) i1
  refine ⟨a, dx, _, t, rfl, hH, tyx_of r2.fh' (w2.look r2) i2, i3, ?_⟩
  refine sp_of (dvs := []) (dd := []) (vs := [.ref a, v2]) (fun _ => .nil) hn r2 (.cons w1' (.cons w2 .nil)) h3 (fun z S3 v H3 F3 q2 c3 e3 r3 w3 => ?_) fun c fs S' dx H' F' q _ _ _ _ => q.elim
  obtain ⟨t, rfl, q2⟩ := q2
  have ev : v = .bl t := (w3.look r3).blI
  subst ev
  exact ⟨t, rfl, hq (.bl (!t)) S3 _ H3 F3 q2 (c1.trans (c2.trans c3)) (e1.trans (e2.trans e3)) r3 (.inl (.bl _))⟩
end
/-! ### C(k = v, ..): keywords alone, the defaults filled in -/
structure MakeKw (P : Program) (w : World) (K : PySem.W.Frag) (mg : Str → Option Value) (base : Heap) (k : Nat) (x : Str) (C : Addr) (ps : List Str) (sp : Sp) (ks : List Str) (gV : List V → List V) : Prop where
  ex : ∃ f fd, ∃ g : List Value → List Value, mg x = some (.ref C) ∧ Mk K C f ∧ FnG P w K mg base (L2.CX P w) k f fd ps sp ∧ (∀ (s : Shared) (u : Value) (ws : List Value), K.In s.heap → ws.length = ks.length → BindsTo s fd ⟨[u], ks.zip ws⟩ (ps.zip (u :: g ws))) ∧ ∀ {vs : List V} {us : List Value}, Vals vs us → Vals (gV vs) (g us)
def tMakeKd (C : Addr) (sp : Sp) (m : Nat) (gV : List V → List V) (E : L2.St → XK) (t : TA) : TE := fun σ H Q => t σ H fun zs H1 => zs.length = m ∧ ∀ x dx, H1 x = none → H1 dx = none → dx ≠ x →
  sp (.ref x :: gV zs) (upd (upd H1 dx (.own x)) x (.ins C dx [])) (fun v H2 => v = .non ∧ Q (.ref x) H2) (E σ)
section
variable {X : Cx} {W : WX} {k j : Nat} {x : Str} {C : Addr} {ps : List Str} {sp : Sp} {p pos : Pos} {gV : List V → List V}
theorem pe_mkk {ks : List Str} {kws : List Keyword} {tk' : TA} (D : MakeKw X.prog X.w X.K X.mg X.base j x C ps sp ks gV) (hg : X.A.guards = some []) (hr : Room k X.A) (tk : Takes X W) (hkw : PK X kws tk') (hj : j + 1 ≤ k := by decide)
    (hgl : Gl X x := by rfl) (hall : (backToKw pos (keywordEach kws X.env)).all (·.1.isSome) = true := by rfl) (hks : (backToKw pos (keywordEach kws X.env)).filterMap (·.1) = ks := by rfl) (hdb : (x == ("__debug__" : Str)) = false := by decide)
    (hpl : ((backTo pos (starEach [] X.env)).any (·.1) || (backToKw pos (keywordEach kws X.env)).any (·.1.isNone)) = false := by rfl) :
    PE X (.Call (.Name x p) [] kws pos) (tMakeKd C sp ks.length gV (WE W) tk') := by
  obtain ⟨f, fd, gB, hm, M, F, hb, hrel⟩ := D.ex
  refine ⟨fun pins s σ H Q I h => ?_⟩
  refine wpAny_Call_Name_kw (ld_glob I hgl hm ?_ hdb)
  refine PySem.W.callWith_KW0 (h₀ := X.base) I.ok.mod.kin M.kp hall ?_ hpl
  refine thn (hkw.run pos pins s σ H _ I h) fun ws s2 ⟨zs, H2, I2, rz, l2, q2⟩ => ⟨I2.kIn, ?_⟩
  rw [hks]
  have hr2 : Room (j + 1) X.A := hr.mono hj
  have hq := q2 (s2.heap.objs.size + 1) s2.heap.objs.size (I2.hok.fresh (Nat.le_succ _)) (I2.hok.fresh (Nat.le_refl _)) (Nat.ne_of_lt (Nat.lt_succ_self _))
  have I3 := Inv.made (C := C) I2
  have r2 : Vals (V.ref (s2.heap.objs.size + 1) :: gV zs) (Value.ref (s2.heap.objs.size + 1) :: gB ws) := .cons rfl (hrel rz)
  refine wpAny_call (make_map (f := f) I2.kIn M.makes M.init (beq_iff_eq.mp M.fn) (codeAny_mono (F.run _ X.stack _ _ ⟨[Value.ref (s2.heap.objs.size + 1)], ks.zip ws⟩ (Value.ref (s2.heap.objs.size + 1) :: gB ws) _ _ (WE W σ) hg (hr2.make C [] (ks.zip ws))
    (I3.env0.make C [] (ks.zip ws)) (hb _ _ ws I3.kIn (rz.length.symm.trans l2)) r2 hq) fun r s' hq' => ?_))
  cases r with
  | error e => exact passAt tk σ pins _ _ e s' I3 hq'
  | ok fl =>
    cases fl with
    | ret u =>
      obtain ⟨v, H', I4, rv, ev, q3⟩ := I3.after hq'
      subst ev
      exact ⟨rv, ⟨V.ref (s2.heap.objs.size + 1), H', I4, rfl, q3⟩⟩
    | next => exact False.elim hq'
    | brk => exact False.elim hq'
    | cont => exact False.elim hq'
end
section
variable {K : PySem.W.Frag} {g : Gd} {E : WX} {F H : Hp} {σ : L2.St} {S : SS}
@[simp] def lMakeK (C : Addr) (f : LFn) (m : Nat) (gD : List D → List D) (Ta : LTs) : LT := fun S Q R => Ta S (fun ds S1 => ds.length = m ∧ frozenD ds = true ∧
  f (.c false (.ins C [] []) :: (gD ds).map Sl.v) (fun d as' => d = .non ∧ match as' with
    | .c _ (.ins C' ns fs) :: _ => Q (.ins C' ns fs) S1
    | _ => False) (fun c fs _ => R c fs S1)) R
theorem lf_mkk {C : Addr} {n m : Nat} {f : LFn} {gV : List V → List V} {gD : List D → List D} {ta : TA} {Ta : LTs} (hg : ∀ {F : Hp} {vs : List V} {ds : List D}, RepL K F vs ds → RepL K F (gV vs) (gD ds)) (ha : LfA K E ta Ta) (hn : ∀ as Q R, f as Q R → as.length = n) : Lf K E (tMakeKd C (spL K n f) m gV (WE E) ta) (lMakeK C f m gD Ta) := by
  intro g σ H F S Q R Q' rs h hq hx
  refine ha g σ H F S _ R _ rs h (fun ds S1 vs H1 F1 h1 c1 e1 r1 w1 => ?_) hx
  obtain ⟨hm, hfz, h1⟩ := h1
  refine ⟨(Paired.length w1).trans hm, ?_⟩
  intro x dx hx0 hdx hne
  have rv := repL_of w1 hfz
  have r2 := RS.new (o := .own x) r1 hdx
  have fdx : F1 dx = none := r1.free hdx
  have hx1 : upd H1 dx (.own x) x = none := by rw [upd_ne (Ne.symm hne)]; exact hx0
  obtain ⟨r3, hG, hB⟩ := RS.pend (o := .ins C dx []) r2 hx1
  have e2 : Same F1 (upd F1 dx (.own x)) := sameNew fdx
  have fx : upd F1 dx (.own x) x = none := r2.free hx1
  have ar0 : ArgsR K (upd F1 dx (.own x)) (upd (upd H1 dx (.own x)) x (.ins C dx [])) (gV vs) ((gD ds).map Sl.v) (List.replicate (gD ds).length []) := by
    exact args_v (hg (rv.mono e2))
  have ar : ArgsR K (upd F1 dx (.own x)) (upd (upd H1 dx (.own x)) x (.ins C dx [])) (.ref x :: gV vs) (.c false (.ins C [] []) :: (gD ds).map Sl.v) ([x] :: List.replicate (gD ds).length []) := by
    refine .c ⟨rfl, dx, [], upd_same, rfl, .nil⟩ (fun b hb => ?_) (fun b hb q hq => ?_) ar0
    · rw [List.mem_singleton.mp hb]; exact fx
    · rw [List.eq_of_mem_replicate hq]; intro z; cases z
  refine ⟨by rw [ar.length.1]; exact hn _ _ _ h1, _, _, _, _, _, r3.ent, ar, h1, fun d as q v H' F' fps' p a' rep => ?_, fun c fs as q dx' H' F' fps' p a' xr => ?_⟩
  · obtain ⟨rfl, q⟩ := q
    cases rep
    refine ⟨rfl, ?_⟩
    split at q
    · rename_i C' ns fs rest
      cases a' with
      | c hc hf hp ht =>
        have hc' := hc
        obtain ⟨efp, dx', vs', hi, hl, rl⟩ := hc
        have fx' := hf x (by rw [efp]; exact List.mem_singleton.mpr rfl)
        have r4 := RS.lent1 r3 p hi fx' (fun _ z => (nomatch z))
        obtain ⟨r5, e5⟩ := RS.froze r4 hG hB hi
        exact hq _ S1 _ H' _ q c1 (e1.trans (e2.trans (p.ff.trans e5))) r5 (.inl (.ins upd_same hl (rl.mono e5)))
    · exact q.elim
  · exact hx c fs S1 dx' H' _ q c1 (e1.trans (e2.trans p.ff)) (RS.lentX r3 hG p) xr
end
/-! ### bool(x), x of a class with a __bool__ of its own -/
section
open PySem.W PySem.Calls Builtin
variable {prog : Program} {w : World} {A : Around} {E : Value → Shared → Prop} {s : Shared} {K : PySem.W.Frag} {x C L f : Addr} {h₀ : Heap} {m : Str → Option Value} {ox : Obj} {od : Option Obj}
theorem kbo_call {Q : Value → Shared → Prop} (F : Fr h₀ L s.heap m) (X₀ : K.In h₀) (I : InstAt s.heap x ox C od) (hs : findIn K (.ref C) "__bool__" = some (some (.ref f))) (hf : isFn K (.ref f) = true)
    (h : wpAny (model prog w) A.in1.in1 (call (.ref f) [.ref x]) (PySem.W.BoolBack fun b s' => Q (.bool b) s') E s) : wpAny (model prog w) A (call (.type "bool") [.ref x]) Q E s := by
  refine callType_codes (T := "bool") (Bi := Builtin.«object.__init__») (Q₁ := fun r s₁ => ∃ b, r = .bool b ∧ Q r s₁) PySem.F.called_bool (PySem.F.typeCall_bool_1 _) PySem.F.entry_object_init ?_ ?_
  · refine codeAny_of_tree ?_
    show wpAny _ A.in1.in1 (do checkBuiltinCall "bool.__new__" ⟨[.type "bool", .ref x], []⟩; again (.builtin "bool.__new__" ⟨[.type "bool", .ref x], []⟩)) _ _ s
    refine wpAny_bind (wpAny_of_eq (PySem.F.newCall_bool_1 _) (wpAny_pure ⟨plainId_quiet (by decide +kernel) _, codeAny_builtin PySem.F.entry_bool_new ?_⟩))
    rw [Around.under_plainId (by decide +kernel) _]
    have f1 := PySem.F.conv_sub_bool
    unfold Builtin.«bool.__new__»
    obtain ⟨hp, g, d, tk, os⟩ := s
    repeat (any_goals (first | assumption | (with_reducible refine PySem.W.truthy_K F X₀ I hs hf (wpAny_mono h (fun r s' hr => ?_) fun _ _ y => y)) | wp_step))
    cases r <;> first | exact hr.elim | exact wpAny_pure ⟨_, rfl, hr⟩
  · rintro obj s₁ ⟨b, rfl, hq⟩
    exact ⟨rfl, PySem.F.args_object_init_2 _ _, object_init_meets PySem.F.called_bool.init.lookup PySem.F.called_bool.made (by decide) prog w A.in1 _ s₁ ⟨rfl, rfl, hq⟩⟩
end
def rBoolO (C : Addr) (sp : Sp) : List V → Hp → VK → Prop := fun xs H Q => ∃ a dx fs, xs = [.ref a] ∧ H a = some (.ins C dx fs) ∧ sp [.ref a] H (fun v H2 => ∃ y, v = .bl y ∧ Q (.bl y) H2) (fun _ _ _ => False)
section
variable {X : Cx} {W : WX} {k j : Nat} {C : Addr} {sp : Sp}
theorem call_boolO (D : MethAt X.prog X.w X.K X.mg X.base j C "__bool__" sp) (hgd : X.A.guards = some []) (hr : Room k X.A) (hj : j + 2 ≤ k := by decide) : CallR X (.type "bool") (rBoolO C sp) := by
  obtain ⟨g, fd, ps, c, hs, hf, F, hb⟩ := D.ex
  intro pins s σ H xs us Q I rv h
  obtain ⟨a, dx, fs, rfl, ea, q⟩ := h
  cases rv with
  | cons r1 rs =>
    cases rs
    obtain rfl : _ = Value.ref a := r1
    obtain ⟨mA, O, _, _, _, _⟩ := ins_get I.hok ea
    obtain ⟨od, J, _⟩ := O.look
    obtain ⟨m, hF⟩ := I.fr
    have hr2 : Room (j + 2) X.A := hr.mono hj
    refine kbo_call hF I.ok.mod.kin J hs hf ?_
    have hl : ([Value.ref a] ++ []).length = ps.length := by rw [← F.len _ _ _ _ q]; rfl
    refine wpAny_call (codeAny_mono (F.run X.A.in1.in1 X.stack s H ⟨[.ref a], []⟩ [.ref a] [.ref a] _ E0 hgd hr2.in1.in1 I.env0.in1.in1 (hb _ [.ref a] I.kIn hl) (.cons rfl .nil) q) fun r s' hq => ?_)
    cases r with
    | error er => exact passL pins σ H s er s' (I.wish _) hq
    | ok fl =>
      cases fl with
      | ret u =>
        obtain ⟨v, H', I4, rv, y, rfl, q3⟩ := I.after hq
        obtain rfl : u = Value.bool y := rv
        exact ⟨.bl y, H', I4, rfl, q3⟩
      | next => exact False.elim hq
      | brk => exact False.elim hq
      | cont => exact False.elim hq
end
section
variable {K : PySem.W.Frag} {g : Gd} {E : WX} {F H : Hp} {σ : L2.St} {S : SS}
@[simp] def lBoolO (C : Addr) (f : LFn) (T : LT) : LT := fun S Q R => T S (fun d S1 => isIns C (look S1 d) ∧ callWP f [] [d] S1 (fun z S2 => ∃ y, z = .bl y ∧ Q (.bl y) S2) fun _ _ _ => False) R
theorem lf_boolO {C : Addr} {f : LFn} {t : TE} {T : LT} (ha : Lf K E t T) (hn : ∀ as Q R, f as Q R → as.length = 1) : Lf K E (tCB (rBoolO C (spL K 1 f)) (tCons t tNil)) (lBoolO C f T) := by
  intro g σ H F S Q R Q' rs q hq hx
  refine ha g σ H F S _ R _ rs q (fun d S1 v1 H1 F1 h1 c1 e1 r1 w1 => ?_) hx
  obtain ⟨hi, h1⟩ := h1
  obtain ⟨a, dx, ns, vs, ds, rfl, _, hH, _⟩ := ins_at r1.fh' (w1.look r1) hi
  refine ⟨a, dx, _, rfl, hH, ?_⟩
  refine sp_of (dvs := []) (dd := []) (vs := [.ref a]) (fun _ => .nil) hn r1 (.cons w1 .nil) h1 (fun z S2 v H2 F2 q2 c2 e2 r2 w2 => ?_) fun c fs S' dx H' F' q _ _ _ _ => q.elim
  obtain ⟨y, rfl, q2⟩ := q2
  have ev : v = .bl y := (w2.look r2).blI
  subst ev
  exact ⟨y, rfl, hq (.bl y) S2 _ H2 F2 q2 (c1.trans c2) (e1.trans e2) r2 (.inl (.bl y))⟩
end
/-! ### what is no instance of C -/
structure IsCl (K : PySem.W.Frag) (C : Addr) : Prop where
  cl : PySem.W.isClsIn K C = true
  ty : PySem.W.typeIn K (.ref C) = some (.type "type")
structure NoC (K : PySem.W.Frag) (C : Addr) (d : D) : Prop where
  eq : EqTy K C d
  isi : ∀ P : D → Prop, P (.bl false) → isiD K d (.fn C) P
  nc : isCel d = false
  lk : ∀ S : SS, look S d = d
section
variable {K : PySem.W.Frag} {C : Addr}
theorem kit_no {T : String} {l : List Value} (I : IsCl K C) (h : PySem.fastBuiltinMro T = some l) (hl : l.contains (.ref C) = false) : PySem.W.kitOne K (.type T) (.ref C) = some false := by
  have h1 : ((PySem.W.clsIn K C).isSome && PySem.W.typeIn K (.ref C) == some (.type "type")) = true := by
    have h0 : (PySem.W.clsIn K C).isSome = true := I.cl
    rw [h0, I.ty] <;> rfl
  have h2 : PySem.W.subIn K (.type T) (.ref C) = some false := by
    show (PySem.fastBuiltinMro T).map (·.contains (.ref C)) = some false
    rw [h]
    simpa using hl
  unfold PySem.W.kitOne
  rw [if_neg (by simp)]
  show (if ((PySem.W.clsIn K C).isSome && PySem.W.typeIn K (.ref C) == some (.type "type")) = true then PySem.W.subIn K (.type T) (.ref C) else none) = some false
  rw [if_pos h1]
  exact h2
theorem noC_non (I : IsCl K C) : NoC K C .non := ⟨eqTy_non, fun _ p => ⟨_, _, false, .non, .own C, kit_no I (T := "NoneType") (l := [.type "NoneType", .type "object"]) (by kernel_rfl) (by first | rfl | simp), p⟩, rfl, fun _ => rfl⟩
theorem noC_bl (I : IsCl K C) {b : Bool} : NoC K C (.bl b) := ⟨eqTy_bl, fun _ p => ⟨_, _, false, .bl b, .own C, kit_no I (T := "bool") (l := [.type "bool", .type "int", .type "object"]) (by kernel_rfl) (by first | rfl | simp), p⟩, rfl, fun _ => rfl⟩
theorem noC_int (I : IsCl K C) {i : Int} : NoC K C (.int i) := ⟨eqTy_int, fun _ p => ⟨_, _, false, .int i, .own C, kit_no I (T := "int") (l := [.type "int", .type "object"]) (by kernel_rfl) (by first | rfl | simp), p⟩, rfl, fun _ => rfl⟩
theorem noC_str (I : IsCl K C) {x : Str} : NoC K C (.str x) := ⟨eqTy_str, fun _ p => ⟨_, _, false, .str x, .own C, kit_no I (T := "str") (l := [.type "str", .type "object"]) (by kernel_rfl) (by first | rfl | simp), p⟩, rfl, fun _ => rfl⟩
theorem noC_tup (I : IsCl K C) {xs : List D} : NoC K C (.tup xs) := ⟨eqTy_tup, fun _ p => ⟨_, _, false, .tup xs, .own C, kit_no I (T := "tuple") (l := [.type "tuple", .type "object"]) (by kernel_rfl) (by first | rfl | simp), p⟩, rfl, fun _ => rfl⟩
theorem noC_lst (I : IsCl K C) {xs : List D} : NoC K C (.lst xs) := ⟨eqTy_lst, fun _ p => ⟨_, _, false, .lst xs, .own C, kit_no I (T := "list") (l := [.type "list", .type "object"]) (by kernel_rfl) (by first | rfl | simp), p⟩, rfl, fun _ => rfl⟩
theorem noC_edc (I : IsCl K C) : NoC K C .edc := ⟨eqTy_edc, fun _ p => ⟨_, _, false, .edc, .own C, kit_no I (T := "dict") (l := [.type "dict", .type "object"]) (by kernel_rfl) (by first | rfl | simp), p⟩, rfl, fun _ => rfl⟩
end
end L3
set_option linter.all false
set_option maxRecDepth 100000
set_option maxHeartbeats 4000000
/-! L3, part Z3: every second of six. -/
namespace L3
open PySem PySem.Spec PyProof.Rows L2
theorem ev6_pick (a b c d e f : Value) : slicePick #[a, b, c, d, e, f] (some 0) none (some 2) = #[a, c, e] := by
  first
    | rfl
    | kernel_rfl
    | simp [slicePick, sliceBounds, sliceRange]
/-- e[0::2], e a list of six -/
def tEv6 (K : PySem.W.Frag) (te : TE) : TE := fun σ H Q => te σ H fun x H1 => ∃ a x0 x1 x2 x3 x4 x5, x = .ref a ∧ SqL K H1 a [x0, x1, x2, x3, x4, x5] ∧ ∀ p, H1 p = none → Q (.ref p) (upd H1 p (.lst [x0, x2, x4]))
section
variable {X : Cx} {K : PySem.W.Frag}
theorem sz3 {α : Type} {a b c : α} : [a, b, c].length ≤ sizeLine := sz (show (3 : Nat) ≤ 100000 by decide)
theorem pe_ev6 {e : Expr} {te : TE} {k k2 : Nat} {p1 p2 p3 pos : Pos} (he : PE X e te) : PE X (.Subscript e (.Slice (some (.Constant (.int 0) k p1)) none (some (.Constant (.int 2) k2 p2)) p3) pos) (tEv6 X.K te) := by
  refine ⟨fun pins s σ H Q I h => ?_⟩
  refine Subscript_ (thn (he.run pins s σ H _ I h) fun v s1 ⟨x, H1, I1, r1, q1⟩ => ?_)
  obtain ⟨a, x0, x1, x2, x3, x4, x5, ex, hx, q⟩ := q1
  subst ex
  cases r1
  have hlo : PO X (some (.Constant (.int 0) k p1)) (tPart (tC (.int 0))) := po_some pe_int
  have hst : PO X (some (.Constant (.int 2) k2 p2)) (tPart (tC (.int 2))) := po_some pe_int
  refine wpAny_Slice (thn (hlo.run pins s1 σ H1 (fun o H2 => o = some 0 ∧ H2 = H1) I1 ⟨0, rfl, rfl, rfl⟩) fun vl s2 ⟨l, H2, I2, pl, el, e2⟩ => ?_)
  subst el e2
  refine thn (po_none.run pins s2 σ H2 (fun o H3 => o = none ∧ H3 = H2) I2 ⟨rfl, rfl⟩) fun vu s3 ⟨u, H3, I3, pu, eu, e3⟩ => ?_
  subst eu e3
  refine thn (hst.run pins s3 σ H3 (fun o H4 => o = some 2 ∧ H4 = H3) I3 ⟨2, rfl, rfl, rfl⟩) fun vs s4 ⟨o, H4, I4, ps, eo, e4⟩ => ?_
  subst eo e4
  have I5 : Inv X pins σ H4 { s4 with heap := s4.heap.push { cls := .type "slice", data := .fields #[vl, vu, vs] } } := I4.kept (t' := s4.toks) fun b ob q => Heap.get?_push_of_some _ q
  obtain ⟨its, r, ht, hz⟩ := I5.list hx
  have hlen := r.length
  show wpAny (model X.prog X.w) X.A (subscriptTail e (.Slice (some (.Constant (.int 0) k p1)) none (some (.Constant (.int 2) k2 p2)) p3) (.ref a) (.ref s4.heap.objs.size)) (EP X pins σ Q) X.xe { s4 with heap := s4.heap.push { cls := .type "slice", data := .fields #[vl, vu, vs] } }
  refine tail_any (ops := [.ref a, .ref s4.heap.objs.size]) ht.isList.typeIs (PySem.slot_list_getitem.lookup) ?_ (by with_unfolding_all rfl)
  refine wpAny_getItem_list_slice ht.isList (Heap.IsSliceOf.new _ vl vu vs) pl pu ps (by decide) ?_ (by rw [List.size_toArray]; omega)
  rcases r with _ | ⟨a0, r⟩
  rcases r with _ | ⟨a1, r⟩
  rcases r with _ | ⟨a2, r⟩
  rcases r with _ | ⟨a3, r⟩
  rcases r with _ | ⟨a4, r⟩
  rcases r with _ | ⟨a5, r⟩
  rcases r with _ | ⟨a6, r⟩
  rw [ev6_pick]
  refine ⟨.ref _, _, I5.laid (t' := s4.toks) (o := .lst [x0, x2, x4]) (fun b ob q => Heap.get?_push_of_some _ q) (Nat.le_refl _) ?_, rfl, q _ (I5.hok.fresh (Nat.le_refl _))⟩
  exact ⟨sz3, _, 0, .cons a0 (.cons a2 (.cons a4 .nil)), Heap.get?_push_size _ rfl⟩
theorem pe_ev6K {e : Expr} {te : TE} {k k2 : Nat} {p1 p2 p3 pos : Pos} (hK : X.K = K) (he : PE X e te) : PE X (.Subscript e (.Slice (some (.Constant (.int 0) k p1)) none (some (.Constant (.int 2) k2 p2)) p3) pos) (tEv6 K te) := by
  subst hK
  exact pe_ev6 he
end
section
variable {K : PySem.W.Frag} {g : Gd} {E : WX} {F H : Hp} {σ : L2.St} {S : SS}
@[simp] def lEv6 (T : LT) : LT := fun S Q R => T S (fun x S1 => match look S1 x with
  | .lst [x0, _, x2, _, x4, _] => Q (.lst [x0, x2, x4]) S1
  | _ => False) R
theorem lf_ev6 {t : TE} {T : LT} (h : Lf K E t T) : Lf K E (tEv6 K t) (lEv6 T) := by
  intro g σ H F S Q R Q' rs q hq hx
  refine h g σ H F S _ R _ rs q (fun d S1 v1 H1 F1 h1 c1 e1 r1 w1 => ?_) hx
  have w := w1.look r1
  revert h1 w
  generalize look S1 d = dx
  intro h1 w
  split at h1
  · rename_i x0 x1 x2 x3 x4 x5
    obtain ⟨p, vs, rfl, hp, rl⟩ := w.lstI r1.fh'
    rcases rl with _ | ⟨a0, rl⟩
    rcases rl with _ | ⟨a1, rl⟩
    rcases rl with _ | ⟨a2, rl⟩
    rcases rl with _ | ⟨a3, rl⟩
    rcases rl with _ | ⟨a4, rl⟩
    rcases rl with _ | ⟨a5, rl⟩
    rcases rl with _ | ⟨a6, rl⟩
    have oq : OQ K g F1 σ S1 (fun d => Q d S1) Q' := fun d v H' F' p e r rep => hq d S1 v H' F' p c1 (e1.trans e) r (.inl rep)
    exact ⟨p, _, _, _, _, _, _, rfl, SqL.of hp, oq.lst r1 h1 (.cons a0 (.cons a2 (.cons a4 .nil)))⟩
  · exact h1.elim
end
end L3
set_option linter.all false
set_option maxRecDepth 100000
set_option maxHeartbeats 4000000
/-! L3, part Z4: a def handed over as a value, and called by the parameter that holds it. -/
namespace L3
open PySem PySem.Spec PyProof.Rows L2
/-- where a def of the module lies -/
def fnAd (K : PySem.W.Frag) (x : Str) : Addr := match PySem.W.nsIn K mainGlobals x with
  | some (some (.ref a)) => a
  | _ => 0
theorem fnAd_of {K : PySem.W.Frag} {x : Str} {f : Addr} (h : PySem.W.nsIn K mainGlobals x = some (some (.ref f))) : fnAd K x = f := by
  unfold fnAd
  rw [h]
theorem mg_fnAd {K : PySem.W.Frag} {x : Str} {f : Addr} {mg : Str → Option Value} (h : PySem.W.nsIn K mainGlobals x = some (some (.ref f))) (hm : mg x = some (.ref f)) : mg x = some (.ref (fnAd K x)) := by
  rw [fnAd_of h]
  exact hm
/-- p(e, ..), p a parameter that holds the def y -/
def tCallP (K : PySem.W.Frag) (i : Nat) (y : Str) (sp : Sp) (E : L2.St → XK) (t : TA) : TE := fun σ H Q => σ[i]? = some (some (.ref (fnAd K y))) ∧ tCallSD sp [] E t σ H Q
section
variable {X : Cx} {W : WX} {K : PySem.W.Frag} {k j i : Nat} {x y : Str} {ps : List Str} {sp : Sp} {p pos : Pos} {e : Expr} {es : List Expr} {t : TA}
theorem pe_callP (hm : X.mg y = some (.ref (fnAd X.K y))) (D : DefAt X.prog X.w X.K X.mg X.base j y ps sp) (hg : X.A.guards = some []) (hr : Room k X.A) (tk : Takes X W) (hN : X.N[i]? = some x) (hv : Vis X.env.scope x) (ha : PA X (e :: es) t) (hj : j ≤ k := by decide)
    (hdb : (x == ("__debug__" : Str)) = false := by decide) (hcd : (x == ("__classdict__" : Str)) = false := by decide)
    (he : starEach (e :: es) X.env = (false, eval e X.env) :: starEach es X.env := by rfl) (hpl : (backTo pos (starEach es X.env)).any (·.1) = false := by rfl) :
    PE X (.Call (.Name x p) (e :: es) [] pos) (tCallP X.K i y sp (WE W) t) := by
  obtain ⟨f, fd, hm2, hk, F, hb⟩ := D.ex
  have ef : fnAd X.K y = f := by
    have := hm.symm.trans hm2
    cases this
    rfl
  refine ⟨fun pins s σ H Q I h => ?_⟩
  obtain ⟨hs, ht⟩ := h
  rw [ef] at hs
  refine wpAny_Call_Name_kw (thn ((pe_var (pos := p) hN hv hdb hcd).run pins s σ H (fun v H1 => v = .ref f ∧ H1 = H) I ⟨.ref f, hs, rfl, rfl⟩) fun u s1 ⟨v, H1, I1, r1, q1⟩ => ?_)
  obtain ⟨rfl, rfl⟩ := q1
  cases r1
  refine PySem.W.callWith_K (h₀ := X.base) I1.ok.mod.kin hk (thn (ha.run pos pins s1 σ _ _ I1 ht) fun us s2 ⟨vs, H2, I2, r, q⟩ => ⟨I2.kIn, ?_⟩) he hpl
  have hd0 : Vals [] [] := .nil
  exact (Runs.gd F hg (hr.mono hj)).at (us2 := us ++ []) (passAt tk σ) I2 (fun hl => hb s2 us I2.kIn hl) (r.append hd0) q
theorem pe_callPK (hK : X.K = K) (hm : X.mg y = some (.ref (fnAd K y))) (D : DefAt X.prog X.w X.K X.mg X.base j y ps sp) (hg : X.A.guards = some []) (hr : Room k X.A) (tk : Takes X W) (hN : X.N[i]? = some x) (hv : Vis X.env.scope x) (ha : PA X (e :: es) t) (hj : j ≤ k := by decide)
    (hdb : (x == ("__debug__" : Str)) = false := by decide) (hcd : (x == ("__classdict__" : Str)) = false := by decide)
    (he : starEach (e :: es) X.env = (false, eval e X.env) :: starEach es X.env := by rfl) (hpl : (backTo pos (starEach es X.env)).any (·.1) = false := by rfl) :
    PE X (.Call (.Name x p) (e :: es) [] pos) (tCallP K i y sp (WE W) t) := by
  subst hK
  exact pe_callP hm D hg hr tk hN hv ha hj hdb hcd he hpl
end
section
variable {K : PySem.W.Frag}
/-- min(xs), max(xs) of a list of ints -/
def minLD : D1 := fun x P => ∃ ns : List Int, x = .lst (ns.map .int) ∧ 0 < ns.length ∧ ∀ m, m ∈ ns → (∀ y, y ∈ ns → m ≤ y) → P (.int m)
def maxLD : D1 := fun x P => ∃ ns : List Int, x = .lst (ns.map .int) ∧ 0 < ns.length ∧ ∀ m, m ∈ ns → (∀ y, y ∈ ns → y ≤ m) → P (.int m)
theorem cl_minL : CallL K (rMin K) (on1 minLD) := call1 fun g F H σ S v d P Q' r h f q => by
  obtain ⟨ns, rfl, h0, hP⟩ := f
  obtain ⟨a, vs, rfl, ha, ra⟩ := h.lstI r.fh'
  have := repL_ints ra
  subst this
  exact ⟨a, ns, rfl, SqL.of ha, h0, fun m hm hy => q.val r (hP m hm hy) (.int _)⟩
theorem cl_maxL : CallL K (rMax K) (on1 maxLD) := call1 fun g F H σ S v d P Q' r h f q => by
  obtain ⟨ns, rfl, h0, hP⟩ := f
  obtain ⟨a, vs, rfl, ha, ra⟩ := h.lstI r.fh'
  have := repL_ints ra
  subst this
  exact ⟨a, ns, rfl, SqL.of ha, h0, fun m hm hy => q.val r (hP m hm hy) (.int _)⟩
theorem call_minLK {X : Cx} (hK : X.K = K) (hc : X.calm = true) : CallR X (.builtin "min") (rMin K) := by subst hK; exact cr_min hc
theorem call_maxLK {X : Cx} (hK : X.K = K) (hc : X.calm = true) : CallR X (.builtin "max") (rMax K) := by subst hK; exact cr_max hc
end
section
variable {K : PySem.W.Frag} {E : WX}
@[simp] def lCallP (K : PySem.W.Frag) (i : Nat) (y : Str) (f : LFn) (Ts : LTs) : LT := fun S Q R => S[i]? = some (some (.v (.fn (fnAd K y)))) ∧ lCall f [] Ts S Q R
theorem lf_callP {n i : Nat} {y : Str} {f : LFn} {ta : TA} {Ta : LTs} (ha : LfA K E ta Ta) (hn : ∀ as Q R, f as Q R → as.length = n) : Lf K E (tCallP K i y (spL K n f) (WE E) ta) (lCallP K i y f Ta) := by
  intro g σ H F S Q R Q' rs h hq hx
  refine ⟨?_, lf_call (dvs := []) (dd := []) (fun _ => .nil) ha hn g σ H F S Q R Q' rs h.2 hq hx⟩
  obtain ⟨fp, r⟩ := id rs
  obtain ⟨v, hv, rep⟩ := r.val i _ h.1
  cases rep
  exact hv
end
end L3
set_option linter.all false
set_option maxRecDepth 100000
set_option maxHeartbeats 4000000
/-! L3, part Z5: several except clauses with a name each. -/
namespace L2
open PySem PySem.Spec PyProof.Rows
/-- the ends behind a clause that bound slot i -/
def endAs (i : Nat) (D : Ends) : Ends := { nx := fun σ' H' => D.nx (σ'.set i none) H', rt := D.rt, bk := fun σ' H' => D.bk (σ'.set i none) H', ct := fun σ' H' => D.ct (σ'.set i none) H' }
/-- what the clauses wish, one after the other -/
def wManyAs (K : PySem.W.Frag) (Wout : WX) (D : Ends) : List (Value × Nat × (Addr → Value → Option Addr → TS)) → WX
  | [] => Wout
  | (c, i, ts) :: r => fun cls d σ H => ∃ b, PySem.W.exmOne K cls c = some b ∧ (b = true → ∀ a, H a = none → ts a cls d (endAs i D) (σ.set i (some (.ref a))) H) ∧ (b = false → wManyAs K Wout D r cls d σ H)
inductive HdsAs (X : Cx) : List ExceptHandler → List (Value × Nat × (Addr → Value → Option Addr → TS)) → Prop
  | nil : HdsAs X [] []
  | cons {x n : Str} {c : Value} {i : Nat} {ts : Addr → Value → Option Addr → TS} {b₀ : Stmt} {suite : List Stmt} {np pos' : Pos} {hds : List ExceptHandler} {l : List (Value × Nat × (Addr → Value → Option Addr → TS))} (hi : X.N[i]? = some n) (hln : X.env.kindOf n = some .local) (hc : Names X x c)
      (hsu : ∀ (a : Addr) (oe : Obj) (cls : Value) (d : Option Addr) (pn : List (Addr × Obj)), Zc cls d oe → (∃ vs, oe.data = .fields vs) → PSs (X.suite a ((a, oe) :: pn)) (b₀ :: suite) (ts a cls d)) (r : HdsAs X hds l) :
      HdsAs X (.ExceptHandler (some (.Name x np)) (some n) (b₀ :: suite) pos' :: hds) ((c, i, ts) :: l)
section
variable {X : Cx} {body : List Stmt} {h₀ : ExceptHandler} {hds : List ExceptHandler} {l : List (Value × Nat × (Addr → Value → Option Addr → TS))} {pos : Pos} {tb : WX → TS} {Wout : WX}
theorem ps_try_manyAs (hs : X.stack = X.env :: X.outer) (hf : X.env.frame = some X.env.locals) (hN : X.N.Nodup) (tk : Takes X Wout)
    (hb : ∀ (W : WX) (pn : List (Addr × Obj)) (xe : Value → Shared → Prop), Takes (X.tr pn xe) W → PassesOwn (model X.prog X.w) X.A X.env xe → PSs (X.tr pn xe) body (tb W))
    (hh : HdsAs X (h₀ :: hds) l) : PS X (.Try body (h₀ :: hds) [] [] pos) (fun D σ H => tb (wManyAs X.K Wout D l) D σ H) := by
  refine ⟨fun pins s σ H D I h => ?_⟩
  have ok := I.ok
  have frm : X.A.frames = some (X.env :: X.outer) := ok.frames.trans (by rw [hs])
  refine wpAny_Try_except (wpAny_mono ((hb (wManyAs X.K Wout D l) (X.pn ++ pins) (fun e t => wpAny (model X.prog X.w) X.A (noteFrame e X.env) (fun _ t2 => wpAny (model X.prog X.w) X.A (setFlight e none) (fun _ t3 =>
    wpAny (model X.prog X.w) X.A (handleBy e X.env (h₀ :: hds)) (SP X pins D) X.xe t3) X.xe t2) X.xe t) (fun u s' hx => ?_) PassesOwn.looking).run [] s σ H D (I.toTry _) h) (fun f s1 hsp => ?_) fun _ _ he => he)
  · -- an exception of the body
    obtain ⟨a, B, sI, pins', σ', H', cls, d, rfl, J', nb, up, sky, na, os, ag, w⟩ := hx
    have J : Inv X pins σ' H' sI := J'.ofTry ok
    have sky' : Sky B (X.env :: X.outer) a (Zc cls d) X.env.locals s'.heap := hs ▸ sky
    show wpAny (model X.prog X.w) X.A (noteFrame (.ref a) X.env) _ _ _
    refine Sky.land Zc.steady frm hf sky' fun h3 fl3 up3 => ?_
    have J3 : Inv X pins σ' H' { s' with heap := h3 } := J.landed nb fl3.1 (up.trans up3) os ag
    obtain ⟨oe3, vs3, he3, hz3, hd3⟩ := fl3.there
    have nfr : a ∉ frs (X.env :: X.outer) := fun hm => by
      obtain ⟨_, o', e', hnf⟩ := fl3.2.2.1.mem hm
      rw [he3] at e'
      cases e'
      exact hnf _ hd3
    have nL : a ≠ X.env.locals := fun z => nfr (List.mem_filterMap.mpr ⟨X.env, List.mem_cons_self, by rw [hf, z]⟩)
    have nF : a ∉ X.fs := fun hm => by
      obtain ⟨e, he, q⟩ := List.mem_filterMap.mp hm
      exact nfr (List.mem_filterMap.mpr ⟨e, List.mem_cons_of_mem _ he, q⟩)
    have S3 := J3.suite he3 hd3 na nL nF
    have go : ∀ {hds' : List ExceptHandler} {l' : List (Value × Nat × (Addr → Value → Option Addr → TS))}, HdsAs X hds' l' → wManyAs X.K Wout D l' cls d σ' H' →
        wpAny (model X.prog X.w) X.A (handleBy (.ref a) X.env hds') (SP X pins D) X.xe { s' with heap := h3 } := by
      intro hds' l' hk
      induction hk with
      | nil =>
        intro w
        refine wpAny_handleBy_nil ?_
        obtain ⟨k1, k2, k3, oe, vs, T, oT, ts', he, hz, hd, h1, hr⟩ := id fl3
        unfold PySem.passOn
        refine wpAny_bind (wpAny_field he hd h1 ?_)
        rw [if_neg (show ¬ ((Value.ref T == Value.none) = true) from by simp)]
        have fin : wpAny (model X.prog X.w) X.A (setFlight (.ref a) X.env.frame) (fun _ s4 => wpAny (model X.prog X.w) X.A (throw (.ref a) : Sem Flow) (SP X pins D) X.xe s4) X.xe { s' with heap := h3 } := by
          rw [hf]
          exact HandSPX.setFlight_upZ fl3 fun h4 hh4 up4 => wpAny_throw (tk _ _ ⟨a, B, sI, pins, σ', H', cls, d, rfl, J, nb, (up.trans up3).trans up4, .inr (.inr (by rw [hs]; exact hh4)), na, os, ag, w⟩)
        first
          | exact wpAny_bind (wpAny_pure (wpAny_bind fin))
          | exact wpAny_bind fin
      | @cons x n c i ts b₀ suite np pos' hds2 l2 hi hln hc hsu r ih =>
        intro w
        obtain ⟨b, hb1, hyes, hno⟩ := w
        refine wpAny_handleBy_cons (codeAny_handlers_test ?_) (by intro q; cases q)
        have LT : PySem.W.Looks (model X.prog X.w) h3 (typeOf (.ref a)) cls := fun A Q E s k q => wpAny_typeOf_ref (k _ _ he3) (by rw [hz3.1]; exact q)
        have LM := PySem.W.exm_one (M := model X.prog X.w) (J3.kIn) LT hb1
        have test : ∀ {Q : Value → Shared → Prop} {E : Value → Shared → Prop}, Q c { s' with heap := h3 } → wpAny (model X.prog X.w) (X.A.mark (some (.ref a))) (eval (.Name x np) X.env) Q E { s' with heap := h3 } := fun {Q E} q => by
          obtain ⟨hg, hdbg, hm | ⟨hm, hv, hnn⟩⟩ := hc
          · exact ld_glob (X := X.suite a ((a, oe3) :: (X.pn ++ pins))) S3 hg hm q hdbg
          · exact ld_blt (X := X.suite a ((a, oe3) :: (X.pn ++ pins))) S3 hg hm hv q hnn hdbg
        refine test (LM.here ?_)
        cases b with
        | true =>
          refine codeAny_handlers_suite_as (HandSPX.lands_againZ fl3 fun h4 fl4 up4 => ?_)
          have J4 : Inv X pins σ' H' { s' with heap := h4 } := J.landed nb fl4.1 ((up.trans up3).trans up4) os ag
          obtain ⟨oe4, vs4, he4, hz4, hd4⟩ := fl4.there
          have S4 := J4.suite he4 hd4 na nL nF
          refine store_ok (X := X.suite a ((a, oe4) :: (X.pn ++ pins))) (v := .ref a) S4 hN hi (.inl hln) rfl (fun s5 S5 => ?_) (.inr hln)
          refine wpAny_mono ((hsu a oe4 cls d (X.pn ++ pins) hz4 ⟨_, hd4⟩).run [] s5 _ H' _ S5 (hyes rfl a na)) (fun f s6 hsp => ?_) fun _ _ z => False.elim z
          have out : ∀ {σ6 : St} {H6 : Hp} {Q : Shared → Prop}, Inv (X.suite a ((a, oe4) :: (X.pn ++ pins))) [] σ6 H6 s6 → (∀ s7, Inv X pins (σ6.set i none) H6 s7 → Q s7) →
              wpAny (model X.prog X.w) X.A (do bindName X.env n .none; unbindBehindTheSuite X.env n pos') (fun _ s7 => Q s7) X.xe s6 := fun {σ6 H6 Q} S6 hq => gone_ok (S6.unsuite ok) hN hi hln hq
          cases f with
          | next =>
            obtain ⟨σ6, H6, S6, q6⟩ := hsp
            exact out S6 fun s7 J7 => ⟨_, _, J7, q6⟩
          | brk =>
            obtain ⟨σ6, H6, S6, q6⟩ := hsp
            exact out S6 fun s7 J7 => ⟨_, _, J7, q6⟩
          | cont =>
            obtain ⟨σ6, H6, S6, q6⟩ := hsp
            exact out S6 fun s7 J7 => ⟨_, _, J7, q6⟩
          | ret u =>
            obtain ⟨v6, σ6, H6, S6, r6, q6⟩ := hsp
            exact out S6 fun s7 J7 => ⟨_, _, _, J7, r6, q6⟩
        | false =>
          show wpAny _ X.A (handleBy (.ref a) X.env hds2) _ _ _
          exact ih (hno rfl)
    exact go hh w
  · match f, hsp with
    | .next, ⟨σ', H', J', q⟩ => exact wpAny_execs_nil ⟨σ', H', J'.ofTry ok, q⟩
    | .brk, ⟨σ', H', J', q⟩ => exact ⟨σ', H', J'.ofTry ok, q⟩
    | .cont, ⟨σ', H', J', q⟩ => exact ⟨σ', H', J'.ofTry ok, q⟩
    | .ret u, ⟨v, σ', H', J', r, q⟩ => exact ⟨v, σ', H', J'.ofTry ok, r, q⟩
end
end L2
namespace L3
open PySem PySem.Spec PyProof.Rows L2
variable {K : PySem.W.Frag} {g : Gd} {E : WX} {F H : Hp} {σ : L2.St} {S : SS}
/-- what the clauses want of an exception -/
def xrMany (K : PySem.W.Frag) (D : En) : List (Addr × Nat × (Addr → Value → Option Addr → LTS)) → XR
  | [] => D.xr
  | (Cn, i, Ts) :: r => fun c fs S' => ∃ b, PySem.W.exmOne K c (.ref Cn) = some b ∧
    (b = true → ∃ C, c = .ref C ∧ fs ≠ [] ∧ freeSl S' i = true ∧ ∀ a dx : Addr, Ts a c (some dx) { nx := fun S2 => freeSl S2 i = true ∧ D.nx (S2.set i none), rt := D.rt, xr := RF, bk := fun S2 => freeSl S2 i = true ∧ D.bk (S2.set i none), ct := fun S2 => freeSl S2 i = true ∧ D.ct (S2.set i none) } (S'.set i (some (.v (.exc C a dx (fs.map (·.1)) (fs.map (·.2))))))) ∧
    (b = false → xrMany K D r c fs S')
/-- a block with several clauses -/
def lTryMany (K : PySem.W.Frag) (hs : List (Addr × Nat × (Addr → Value → Option Addr → LTS))) (Tb : LTS) : LTS := fun D S => Tb { D with xr := xrMany K D hs } S
inductive HsL (K : PySem.W.Frag) : List (Value × Nat × (Addr → Value → Option Addr → TS)) → List (Addr × Nat × (Addr → Value → Option Addr → LTS)) → Prop
  | nil : HsL K [] []
  | cons {Cn : Addr} {i : Nat} {ts : Addr → Value → Option Addr → TS} {Ts : Addr → Value → Option Addr → LTS} {l : List (Value × Nat × (Addr → Value → Option Addr → TS))} {hl : List (Addr × Nat × (Addr → Value → Option Addr → LTS))} :
    (∀ a c d, LfS K (fun _ _ _ _ => False) (ts a c d) (Ts a c d)) → HsL K l hl → HsL K ((.ref Cn, i, ts) :: l) ((Cn, i, Ts) :: hl)
theorem many_ends {D3 : En} {D2 : Ends} {l : List (Value × Nat × (Addr → Value → Option Addr → TS))} {hl : List (Addr × Nat × (Addr → Value → Option Addr → LTS))} (hs : HsL K l hl) : ∀ {F : Hp}, CE3 K g E F D3 D2 → ∀ (cl : Value) (fs : List (Str × D)) (S' : SS) (dx : Option Addr) (σ' : L2.St) (H' F' : Hp),
    xrMany K D3 hl cl fs S' → Same F F' → RS K g F' H' σ' S' → XRep K F' dx fs → wManyAs K E D2 l cl dx σ' H' := by
  induction hs with
  | nil => intro F c cl fs S' dx σ' H' F' h e r x; exact c.xr cl fs S' dx σ' H' F' h e r x
  | @cons Cn i ts Ts l hl h1 hr ih =>
    intro F c cl fs S' dx σ' H' F' h e r x
    obtain ⟨b, hb1, hy, hn⟩ := h
    refine ⟨b, hb1, fun eb a ha => ?_, fun eb => ih c cl fs S' dx σ' H' F' (hn eb) e r x⟩
    obtain ⟨C, rfl, hne, hf, hs'⟩ := hy eb
    cases dx with
    | none => exact absurd x hne
    | some dd =>
      obtain ⟨vs, hx, rl⟩ := x
      have c1 := c.step e
      have hlen : (fs.map (·.1)).length = vs.length := by rw [rl.length, List.length_map, List.length_map]
      have r2 := r.setV (v := .ref a) (d := .exc C a dd (fs.map (·.1)) (fs.map (·.2))) hf (.exc hx hlen rl)
      refine h1 a (.ref C) (some dd) g _ H' F' _ _ _ r2 (hs' a dd) ⟨fun S2 σ2 H2 F2 n e2 r3 => ?_, fun d S2 v σ2 H2 F2 n e2 r3 w => ?_, fun S2 σ2 H2 F2 n e2 r3 => ?_, fun S2 σ2 H2 F2 n e2 r3 => ?_, fun _ _ _ _ _ _ _ z => z.elim⟩
      · exact c1.nx _ _ H2 F2 n.2 e2 (r3.unset n.1)
      · exact c1.rt d S2 v σ2 H2 F2 n e2 r3 w
      · exact c1.bk _ _ H2 F2 n.2 e2 (r3.unset n.1)
      · exact c1.ct _ _ H2 F2 n.2 e2 (r3.unset n.1)
theorem lfs_tryMany {l : List (Value × Nat × (Addr → Value → Option Addr → TS))} {hl : List (Addr × Nat × (Addr → Value → Option Addr → LTS))} {tb : WX → TS} {Tb : LTS} (hb : ∀ W : WX, LfS K W (tb W) Tb) (hs : HsL K l hl) :
    LfS K E (fun D σ H => tb (wManyAs K E D l) D σ H) (lTryMany K hl Tb) := fun g σ H F S D3 D2 rs q c =>
  hb _ g σ H F S _ D2 rs q ⟨c.nx, c.rt, c.bk, c.ct, fun cl fs S' dx σ' H' F' h e r x => many_ends hs c cl fs S' dx σ' H' F' h e r x⟩
/-- one class under another, or not -/
theorem exm_of {A B : Addr} {b : Bool} (h1 : PySem.W.subIn K (.ref B) (.type "BaseException") = some true) (h2 : PySem.W.isClsIn K B = true) (h3 : PySem.W.typeIn K (.ref B) = some (.type "type")) (h4 : PySem.W.subIn K (.ref A) (.ref B) = some b) :
    PySem.W.exmOne K (.ref A) (.ref B) = some b := by
  have e1 : (PySem.W.subIn K (.ref B) (.type "BaseException") == some true) = true := by rw [h1] <;> rfl
  have e2 : ((PySem.W.clsIn K B).isSome && PySem.W.typeIn K (.ref B) == some (.type "type")) = true := by
    have h2' : (PySem.W.clsIn K B).isSome = true := h2
    rw [h2', h3] <;> rfl
  show (if (PySem.W.subIn K (.ref B) (.type "BaseException") == some true) = true then (if ((PySem.W.clsIn K B).isSome && PySem.W.typeIn K (.ref B) == some (.type "type")) = true then PySem.W.subIn K (.ref A) (.ref B) else none) else none) = some b
  rw [if_pos e1, if_pos e2]
  exact h4
end L3
set_option linter.all false
set_option maxRecDepth 100000
set_option maxHeartbeats 4000000
/-! L3, part Z6: texts of data: their signs, their lengths; comparing. -/
namespace L3
open PySem L2
theorem okt_app {a b : Str} (ha : PyData.strOk a = true) (hb : PyData.strOk b = true) : PyData.strOk (a ++ b) = true := by
  unfold PyData.strOk at *
  rw [Str.cps_append, Array.all_append, ha, hb]
  rfl
theorem okt_of (s : String) : PyData.strOk (Str.ofString s) = true := by
  unfold PyData.strOk
  rw [Str.ofString_eq_toList]
  simp
  intro c hc
  have := c.valid
  rcases this with h | h
  · have : c.toNat < 55296 := h
    omega
  · exact h.2
theorem okt_join {a : Str} (ha : PyData.strOk a = true) : ∀ {ys : List Str}, (∀ y ∈ ys, PyData.strOk y = true) → PyData.strOk (Str.join a ys) = true
  | [], _ => by simp [PyData.strOk, Str.join, Str.empty]
  | [y], h => h y (by simp)
  | y :: z :: r, h => by
    show PyData.strOk (y ++ a ++ Str.join a (z :: r)) = true
    exact okt_app (okt_app (h y (by simp)) ha) (okt_join ha fun x hx => h x (List.mem_cons_of_mem _ hx))
theorem char_lt (c : Char) : c.toNat < 0x110000 := by
  rcases c.valid with h | h
  · have : c.toNat < 55296 := h
    omega
  · exact h.2
theorem okt_char {q c : Nat} (hc : c < 0x110000) : ∀ z ∈ Builtin.Str.reprChar q c, z < 0x110000 := by
  have hex : ∀ (w : Nat), ∀ z ∈ List.replicate (w - ((Nat.toDigits 16 c).map Char.toNat).length) 48 ++ (Nat.toDigits 16 c).map Char.toNat, z < 0x110000 := fun w z hz => by
    rcases List.mem_append.mp hz with h | h
    · rw [List.eq_of_mem_replicate h]; decide
    · obtain ⟨d, _, rfl⟩ := List.mem_map.mp h
      exact char_lt d
  intro z hz
  unfold Builtin.Str.reprChar at hz
  simp only at hz
  repeat' (split at hz)
  all_goals first
    | (rcases List.mem_append.mp hz with h | h
       · simp only [List.mem_cons, List.not_mem_nil, or_false] at h; omega
       · exact hex _ z h)
    | (simp only [List.mem_cons, List.not_mem_nil, or_false] at hz; omega)
theorem okt_repr {x : Str} (h : PyData.strOk x = true) : PyData.strOk (reprText x) = true := by
  have hq : reprQuote x < 0x110000 := by unfold reprQuote; split <;> decide
  have go : ∀ (l : List Nat) (acc : Array Nat), (∀ c ∈ l, c < 0x110000) → (∀ z ∈ acc.toList, z < 0x110000) → ∀ z ∈ (l.foldl (fun out c => out ++ (Builtin.Str.reprChar (reprQuote x) c).toArray) acc).toList, z < 0x110000 := by
    intro l
    induction l with
    | nil => intro acc _ ha; exact ha
    | cons c l ih =>
      intro acc hl ha
      rw [List.foldl_cons]
      refine ih _ (fun d hd => hl d (by simp [hd])) fun z hz => ?_
      rw [Array.toList_append] at hz
      rcases List.mem_append.mp hz with h | h
      · exact ha z h
      · exact okt_char (hl c (by simp)) z (by simpa using h)
  have hx : ∀ c ∈ x.cps.toList, c < 0x110000 := fun c hc => by
    unfold PyData.strOk at h
    rw [← Array.all_toList, List.all_eq_true] at h
    exact of_decide_eq_true (h c hc)
  unfold reprText PyData.strOk
  rw [← Array.all_toList, List.all_eq_true]
  intro z hz
  rw [Array.toList_push, ← Array.foldl_toList] at hz
  refine decide_eq_true ?_
  rcases List.mem_append.mp hz with h | h
  · exact go _ _ hx (by simpa using hq) z h
  · rw [List.mem_singleton.mp h]; exact hq
theorem okt_from : ∀ (ts : List Str) (k : Nat) (acc : Str), (∀ t ∈ ts, PyData.strOk t = true) → PyData.strOk acc = true → PyData.strOk (textFrom k acc ts) = true
  | [], _, acc, _, h => h
  | t :: ts, k, acc, ht, h => okt_from ts (k + 1) _ (fun x hx => ht x (by simp [hx])) (okt_app (okt_app h (by split <;> exact okt_of _)) (ht t (by simp)))
mutual
theorem okt_shown : ∀ d : PyData, d.canLay0 = true → PyData.strOk d.shown = true
  | .none, _ => by rw [PyData.shown]; exact okt_of _
  | .bool b, _ => by rw [PyData.shown]; cases b <;> exact okt_of _
  | .int i, _ => by rw [PyData.shown]; exact okt_of _
  | .str x, h => by rw [PyData.shown]; exact okt_repr (by simpa only [PyData.canLay0] using h)
  | .list xs, h => by
    rw [PyData.shown]
    exact okt_app (okt_from _ _ _ (okt_shownAll xs (by simpa only [PyData.canLay0] using h)) (okt_of _)) (okt_of _)
  | .tuple xs, h => by
    rw [PyData.shown]
    unfold tupleText
    refine okt_app (okt_app (okt_of _) (okt_join (okt_of _) (okt_shownAll xs (by simpa only [PyData.canLay0] using h)))) ?_
    split <;> exact okt_of _
  | .dict _, h => by simp [PyData.canLay0] at h
theorem okt_shownAll : ∀ xs : List PyData, PyData.canLayAll0 xs = true → ∀ t ∈ PyData.shownAll xs, PyData.strOk t = true
  | [], _ => by intro t ht; rw [PyData.shownAll] at ht; cases ht
  | x :: xs, h => by
    simp only [PyData.canLayAll0, Bool.and_eq_true] at h
    intro t ht
    rw [PyData.shownAll] at ht
    rcases List.mem_cons.mp ht with e | e
    · rw [e]; exact okt_shown x h.1
    · exact okt_shownAll xs h.2 t e
end
theorem ok_strL {x : Str} (h : PyData.strOk x = true) {n : Nat} : okD n (.str x) = true := by
  cases n <;> (rw [okD]; simpa only [PyData.canLay0] using h)
theorem ok_shown {x : D} (h : okD 60 x = true) {n : Nat} : okD n (.str (shownD x)) = true := ok_strL (okt_shown _ (lay_of 60 x h).1)
mutual
theorem okD_more : ∀ (n : Nat) (x : D), okD n x = true → okD (n + 1) x = true
  | _, .non, _ => by rw [okD]
  | _, .bl _, _ => by rw [okD]
  | _, .int _, _ => by rw [okD]
  | n, .str s, h => by cases n <;> (rw [okD] at h ⊢; exact h)
  | 0, .tup xs, h => by rw [okD] at h <;> first | cases h | (intros; nofun)
  | n + 1, .tup xs, h => by rw [okD] at h ⊢; exact okDs_more n xs h
  | 0, .lst xs, h => by rw [okD] at h <;> first | cases h | (intros; nofun)
  | n + 1, .lst xs, h => by rw [okD] at h ⊢; exact okDs_more n xs h
  | n, .lsf xs, h => by cases n <;> (rw [okD] at h <;> first | cases h | (intros; nofun))
  | n, .edc, h => by cases n <;> (rw [okD] at h <;> first | cases h | (intros; nofun))
  | n, .ins _ _ _, h => by cases n <;> (rw [okD] at h <;> first | cases h | (intros; nofun))
  | n, .fn _, h => by cases n <;> (rw [okD] at h <;> first | cases h | (intros; nofun))
  | n, .ty _, h => by cases n <;> (rw [okD] at h <;> first | cases h | (intros; nofun))
  | n, .cel _, h => by cases n <;> (rw [okD] at h <;> first | cases h | (intros; nofun))
  | n, .clo _ _, h => by cases n <;> (rw [okD] at h <;> first | cases h | (intros; nofun))
  | n, .exc _ _ _ _ _, h => by cases n <;> (rw [okD] at h <;> first | cases h | (intros; nofun))
theorem okDs_more : ∀ (n : Nat) (xs : List D), okDs n xs = true → okDs (n + 1) xs = true
  | _, [], _ => by rw [okDs]
  | n, x :: xs, h => by
    rw [okDs, Bool.and_eq_true] at h ⊢
    exact ⟨okD_more n x h.1, okDs_more n xs h.2⟩
end
theorem okD_le {n m : Nat} {x : D} (h : okD n x = true) (hm : n ≤ m) : okD m x = true := by
  induction hm with
  | refl => exact h
  | step _ ih => exact okD_more _ _ ih
theorem okDs_of {n : Nat} : ∀ {xs : List D}, (∀ y ∈ xs, okD n y = true) → okDs n xs = true
  | [], _ => by rw [okDs]
  | x :: xs, h => by rw [okDs, h x (by simp), okDs_of fun y hy => h y (by simp [hy])]; rfl
/-- data of no more than k levels, whose text has no more than m signs -/
structure Shw (k m : Nat) (x : D) : Prop where
  ok : okD k x = true
  sh : (pyd x).showable = true
  le : (pyd x).shown.length ≤ m
theorem Shw.mono {k k' m m' : Nat} {x : D} (h : Shw k m x) (hk : k ≤ k') (hm : m ≤ m') : Shw k' m' x := ⟨okD_le h.ok hk, h.sh, Nat.le_trans h.le hm⟩
theorem Shw.ok60 {k m : Nat} {x : D} (h : Shw k m x) (hk : k ≤ 60) : okD 60 x = true := okD_le h.ok hk
theorem Shw.shows {k m : Nat} {x : D} (h : Shw k m x) (hk : k ≤ 60) (hm : m ≤ 16777216) : showsD x := ⟨okD_le h.ok hk, h.sh, Nat.le_trans h.le (by rw [sizeLine_eq]; exact hm)⟩
theorem shw_non : Shw 0 4 .non := ⟨by rw [okD], by rw [pyd]; simp [PyData.showable], by rw [pyd]; simp only [PyData.shown]; decide⟩
theorem shw_bl {b : Bool} : Shw 0 5 (.bl b) := ⟨by rw [okD], by rw [pyd]; simp [PyData.showable], by rw [pyd]; simp only [PyData.shown]; cases b <;> decide⟩
theorem shw_str {x : Str} {n : Nat} (h : PyData.strOk x = true) (hl : x.length ≤ n) : Shw 0 (10 * n + 10) (.str x) := by
  refine ⟨ok_strL h, by rw [pyd]; simp [PyData.showable], ?_⟩
  rw [pyd]
  have h1 := PyData.shown_le 8 (by decide) (.str x) (PyData.leavesShort_of_canLay0 8 _ (by simpa only [PyData.canLay0] using h) (by simp [PyData.intsShort]))
  have h2 : (PyData.str x).weight ≤ n := by
    simp only [PyData.weight]
    exact hl
  omega
theorem log_lt {i : Int} (h : i.natAbs < 10 ^ 100) : i.natAbs.log2 < 1920 := by
  by_cases h0 : i.natAbs = 0
  · rw [h0]; decide
  · rw [Nat.log2_lt h0]
    exact Nat.lt_trans h (by decide +kernel)
theorem shw_int {i : Int} (h : i.natAbs < 10 ^ 100) : Shw 0 102 (.int i) := by
  refine ⟨by rw [okD], by rw [pyd]; simp only [PyData.showable, decide_eq_true (log_lt h)], ?_⟩
  rw [pyd]
  simp only [PyData.shown]
  cases i with
  | ofNat n =>
    have : (Str.ofString (toString (Int.ofNat n))).length ≤ 101 := PyProof.Rows.toString_length_le (Int.natCast_nonneg n) (by decide) (by
      have h' : n < 10 ^ 100 := h
      show ((n : Nat) : Int) < 10 ^ 101
      omega)
    exact Nat.le_trans this (by decide)
  | negSucc n =>
    have h1 : (Str.ofString (toString ((n + 1 : Nat) : Int))).length ≤ 101 := PyProof.Rows.toString_length_le (by omega) (by decide) (by
      have h' : n + 1 < 10 ^ 100 := h
      omega)
    have e : toString (Int.negSucc n) = "-" ++ toString ((n + 1 : Nat) : Int) := rfl
    rw [PyProof.Rows.ofString_length] at h1 ⊢
    rw [e, String.toList_append, List.length_append]
    have h2 : ("-" : String).toList.length = 1 := by decide
    omega
theorem pyds_map (xs : List D) : pyds xs = xs.map pyd := by
  induction xs with
  | nil => rw [pyds]; rfl
  | cons x xs ih => rw [pyds, ih]; rfl
theorem shw_all {k m : Nat} : ∀ {xs : List D}, (∀ y ∈ xs, Shw k m y) → PyData.showableAll (pyds xs) = true ∧ ((PyData.shownAll (pyds xs)).map (·.length)).sum ≤ m * xs.length ∧ (PyData.shownAll (pyds xs)).length = xs.length
  | [], _ => by rw [pyds]; exact ⟨by simp [PyData.showableAll], by simp [PyData.shownAll], by simp [PyData.shownAll]⟩
  | x :: xs, h => by
    have ih := shw_all (xs := xs) fun y hy => h y (by simp [hy])
    have hx := h x (by simp)
    rw [pyds]
    refine ⟨by simp only [PyData.showableAll, hx.sh, ih.1, Bool.and_self], ?_, by simp only [PyData.shownAll, List.length_cons, ih.2.2]⟩
    simp only [PyData.shownAll, List.map_cons, List.sum_cons, List.length_cons]
    have h1 := hx.le
    have h2 := ih.2.1
    have : m * (xs.length + 1) = m * xs.length + m := Nat.mul_succ _ _
    omega
theorem shw_tup {k m n : Nat} {xs : List D} (h : ∀ y ∈ xs, Shw k m y) (hn : (m + 2) * xs.length + 3 ≤ n) : Shw (k + 1) n (.tup xs) := by
  have ha := shw_all h
  refine ⟨by rw [okD_tup]; exact okDs_of fun y hy => (h y hy).ok, by rw [pyd]; simp only [PyData.showable]; exact ha.1, ?_⟩
  rw [pyd]
  simp only [PyData.shown]
  have h1 := tupleText_len_le (PyData.shownAll (pyds xs))
  rw [ha.2.2] at h1
  have h2 := ha.2.1
  have : (m + 2) * xs.length = m * xs.length + 2 * xs.length := Nat.add_mul _ _ _
  omega
theorem shw_lst {k m n : Nat} {xs : List D} (h : ∀ y ∈ xs, Shw k m y) (hn : (m + 2) * xs.length + 3 ≤ n) : Shw (k + 1) n (.lst xs) := by
  have ha := shw_all h
  refine ⟨by rw [okD_lst]; exact okDs_of fun y hy => (h y hy).ok, by rw [pyd]; simp only [PyData.showable]; exact ha.1, ?_⟩
  rw [pyd]
  simp only [PyData.shown]
  have h1 := listText_len_le (PyData.shownAll (pyds xs))
  rw [ha.2.2] at h1
  have h2 := ha.2.1
  have : (m + 2) * xs.length = m * xs.length + 2 * xs.length := Nat.add_mul _ _ _
  omega
/-- a text of data is data -/
theorem shw_shown {k m : Nat} {x : D} (h : Shw k m x) (hk : k ≤ 60) : Shw 0 (10 * m + 10) (.str (shownD x)) := shw_str (okt_shown _ (lay_of 60 x (h.ok60 hk)).1) h.le
/-! comparing -/
theorem eq_same {x : D} {P : D → Prop} (hx : okD 60 x = true) (h : P (.bl true)) : eqD x x P := by
  have e : eqd x x = true := PySem.SeqAt.eqv_refl _ (lay_of 60 _ hx).1
  have k : eqD0 x x P := by
    unfold eqD0
    rw [e]
    exact ⟨hx, hx, h⟩
  cases x <;> first | exact k | (show P (.bl (decide (_ = _))); rw [decide_eq_true rfl]; exact h)
theorem ne_same {x : D} {P : D → Prop} (hx : okD 60 x = true) (h : P (.bl false)) : neD x x P := by
  have e : eqd x x = true := PySem.SeqAt.eqv_refl _ (lay_of 60 _ hx).1
  have k : neD0 x x P := by
    unfold neD0
    rw [e]
    exact ⟨hx, hx, h⟩
  cases x <;> first | exact k | (show P (.bl (!decide (_ = _))); rw [decide_eq_true rfl]; exact h)
/-- from left to right: what simp can't do where a value is read by its slot -/
theorem call_i {f : LFn} {dd : List D} {Ts : LTs} {S : SS} {Q : D → SS → Prop} {R : XR} (h : ∀ P : List D → SS → Prop, (∀ ds S1, (nodupB (celIx ds) = true ∧
  f (ds.map (toArg S1) ++ dd.map Sl.v) (fun d as => shp (ds.map (toArg S1) ++ dd.map Sl.v) as = true ∧ Q d (backA S1 ds as)) (fun c fs as => shp (ds.map (toArg S1) ++ dd.map Sl.v) as = true ∧ R c fs (backA S1 ds as))) → P ds S1) → Ts S P R) : lCall f dd Ts S Q R := h _ fun _ _ q => q
theorem asg_i {T : LT} {G : LG} {Z : En} {S : SS} (h : ∀ P : D → SS → Prop, (∀ d S1, G d S1 Z.nx Z.xr → P d S1) → T S P Z.xr) : lAsg T G Z S := h _ fun _ _ q => q
theorem ent0 {K : PySem.W.Frag} {H : Hp} (hO : Only H) (hn : lamNames = []) : Ent K H H := by
  refine ⟨Same.refl H, fun p hp => ?_, fun b ps z => ?_, fun _ _ e => e⟩
  · unfold tabsOf at hp
    rw [hn] at hp
    cases hp
  · rcases hO b with e | ⟨_, _, e⟩
    · rw [e] at z; cases z
    · rw [e] at z; cases z
end L3
set_option linter.all false
set_option maxRecDepth 100000
set_option maxHeartbeats 4000000
/-! L3, part Z7: lambdas without parameters, kept as values, handed to a def that calls them. -/
namespace LamX
open PySem PySem.Spec PyProof.Rows L2
/-- the function object at f: a lambda; its code object at c -/
def LamO (f c : Addr) (q : Str) (params : Arguments) (body : Expr) (scope : Scope) (cl : List (Str × Addr)) : HO :=
  .ext fun h => ∃ (pm ctv : Value), h.get? f = some (PySem.W.kla_obj "<lambda>" q params body scope cl pm c ctv)
/-- what the making leaves of the heap -/
structure Made (T : List (Addr × Str)) (H H2 : Hp) (f c : Addr) (q : Str) (o : HO) : Prop where
  ext : ExtN H H2
  tabs : Tabs T H2
  nf : H f = none
  hf : H2 f = some o
  hc : H2 c = some (CodeO c q)
  nc : H c = none ∨ H c = some (CodeO c q)
  ne : f ≠ c
  live : ∀ b, H b ≠ none → H2 b ≠ none
  back : ∀ b u, H2 b = some u → (∀ ps, u ≠ .tbl ps) → H b = some u ∨ b = f ∨ b = c
section
variable {X : Cx} {pins : List (Addr × Obj)} {σ : L2.St} {H HZ : Hp} {s s1 : Shared}
theorem lam_ok {f c : Addr} {q : Str} {params : Arguments} {body : Expr} {scope : Scope} {cl : List (Str × Addr)} {pm ctv : Value} {P : Program} {w : World} {h : Heap} (e : h.get? f = some (PySem.W.kla_obj "<lambda>" q params body scope cl pm c ctv)) : ObjOk P w H h f (LamO f c q params body scope cl) :=
  ⟨⟨pm, ctv, e⟩, ⟨_, e⟩, fun _ _ ⟨pm, ctv, e⟩ st => ⟨pm, ctv, st _ e⟩⟩
theorem lam_make3 {T : List (Addr × Str)} {c P : Addr} {params : Arguments} {body : Expr} {scope : Scope} {pos : Pos} {E : Value → Shared → Prop} {Q : Value → Shared → Prop} (I : Inv X pins σ H s) (TB : TabB X.base X.mg c P) (hcode : X.env.code = .ref c)
    (hm : (P, X.env.qual ++ "<lambda>") ∈ T) (hu : ∀ p ∈ T, p.1 = P → p.2 = X.env.qual ++ "<lambda>") (hT : Tabs T H) (hdef : defaultsOf params X.env = ([], [])) (hfree : ∀ y ∈ scope.names, y.2 = .free → ∃ c, X.env.cells.lookup y.1 = some c)
    (h : ∀ (f c' : Addr) (H2 : Hp) (s' : Shared), Inv X pins σ H2 s' → Made T H H2 f c' (X.env.qual ++ "<lambda>") (LamO f c' (X.env.qual ++ "<lambda>") params body scope (cloFrom X.env.cells scope.names [])) → Q (.ref f) s') :
    wpAny (model X.prog X.w) X.A (eval (.Lambda params body scope pos) X.env) Q E s := by
  obtain ⟨ps, hP, ht, ha⟩ := hT _ hm
  refine PySem.W.kla_eval hdef ?_
  have bP : s.heap.BuiltinsAt X.mg P := TB.bm.keeps I.bk
  have hP' : s.heap.get? P = some { cls := .none, data := .fields ps } := I.hok P _ hP
  cases hc : codeAmong pos ps.toList with
  | none =>
    refine PySem.W.kla_makeFunction (mg := X.mg) (c := c) (P := P) (ps := ps) (closure_ok hfree) I.ok.glob (I.mod.glob.keeps I.bk) hcode (TB.code.keeps I.bk) hP' ht hc TB.gP bP fun c' ctv h' tk hx hge hlt hrec htb => ?_
    obtain ⟨c2, oc, vs, t, e2, hoc, hd, hv⟩ := hrec
    cases e2
    have hsz : s.heap.objs.size ≤ h'.objs.size := Nat.le_trans hge (Nat.le_of_lt hlt)
    have nC : H c' = none := I.hok.fresh hge
    have nF : H h'.objs.size = none := I.hok.fresh hsz
    have nPc : P ≠ c' := ne_of_none hP nC
    have nPf : P ≠ h'.objs.size := ne_of_none hP nF
    have ncf : c' ≠ h'.objs.size := Nat.ne_of_lt hlt
    have I0 := inv_table (t' := tk) (more := #[rawInt pos.line, rawInt pos.col, .ref c']) (h' := h') I hP (fun b o hb e => hx b o hb e) htb hge ⟨oc, vs, t, hoc, hd, hv⟩
    have I1 := Inv.laid (a := h'.objs.size) (t' := tk) (h' := h'.push (PySem.W.kla_obj "<lambda>" (X.env.qual ++ "<lambda>") params body scope (cloFrom X.env.cells scope.names []) ((X.mg "__name__").getD .none) c' ctv)) I0 (fun b u e => Heap.get?_push_of_some _ e) (Nat.le_refl _) (lam_ok (c := c') (Heap.get?_push_size _ rfl))
    have atE : ∀ b u, H b = some u → b ≠ P → upd (upd (upd H P (.tbl (ps ++ #[rawInt pos.line, rawInt pos.col, .ref c']))) c' (CodeO c' (X.env.qual ++ "<lambda>"))) h'.objs.size (LamO h'.objs.size c' (X.env.qual ++ "<lambda>") params body scope (cloFrom X.env.cells scope.names [])) b = some u := fun b u e hb => by
      rw [upd_ne (ne_of_none e nF), upd_ne (ne_of_none e nC), upd_ne hb]
      exact e
    have atC : upd (upd (upd H P (.tbl (ps ++ #[rawInt pos.line, rawInt pos.col, .ref c']))) c' (CodeO c' (X.env.qual ++ "<lambda>"))) h'.objs.size (LamO h'.objs.size c' (X.env.qual ++ "<lambda>") params body scope (cloFrom X.env.cells scope.names [])) c' = some (CodeO c' (X.env.qual ++ "<lambda>")) := by
      rw [upd_ne ncf, upd_same]
    have atP : upd (upd (upd H P (.tbl (ps ++ #[rawInt pos.line, rawInt pos.col, .ref c']))) c' (CodeO c' (X.env.qual ++ "<lambda>"))) h'.objs.size (LamO h'.objs.size c' (X.env.qual ++ "<lambda>") params body scope (cloFrom X.env.cells scope.names [])) P = some (.tbl (ps ++ #[rawInt pos.line, rawInt pos.col, .ref c'])) := by
      rw [upd_ne nPf, upd_ne nPc, upd_same]
    have hE : ExtN H _ := fun b o e n => atE b o e fun z => n ps (Option.some.inj (e.symm.trans (by rw [z]; exact hP)))
    have eL : (ps ++ #[rawInt pos.line, rawInt pos.col, .ref c']).toList = ps.toList ++ [rawInt pos.line, rawInt pos.col, .ref c'] := by simp
    refine h h'.objs.size c' _ _ I1 ⟨hE, fun p hp => ?_, nF, upd_same, atC, .inl nC, Ne.symm ncf, fun b hb => ?_, fun b u e n => ?_⟩
    · by_cases hb : p.1 = P
      · rw [hu p hp hb, hb]
        refine ⟨_, atP, by rw [eL]; exact PySem.TriplesOk_snoc _ _ _ _ ht, fun p' cv hcv => ?_⟩
        rw [eL] at hcv
        rcases among_app _ ht hcv with z | z
        · obtain ⟨c0, e1, e2⟩ := ha p' cv z
          exact ⟨c0, e1, hE _ _ e2 codeO_ne⟩
        · exact ⟨c', z, atC⟩
      · obtain ⟨ps', a1, a2, a3⟩ := hT p hp
        refine ⟨ps', atE _ _ a1 hb, a2, fun p' cv hcv => ?_⟩
        obtain ⟨c0, e1, e2⟩ := a3 p' cv hcv
        exact ⟨c0, e1, hE _ _ e2 codeO_ne⟩
    · by_cases z : b = P
      · rw [z, atP]; simp
      · cases e : H b with
        | none => exact absurd e hb
        | some u => rw [atE b u e z]; simp
    · by_cases z1 : b = h'.objs.size
      · exact .inr (.inl z1)
      · by_cases z2 : b = c'
        · exact .inr (.inr z2)
        · rw [upd_ne z1, upd_ne z2] at e
          by_cases z3 : b = P
          · rw [z3, upd_same] at e
            exact absurd (Option.some.inj e).symm (n _)
          · rw [upd_ne z3] at e
            exact .inl e
  | some cv =>
    obtain ⟨c', e, hco⟩ := ha pos cv hc
    subst e
    refine PySem.W.kla_makeFunctionHit (mg := X.mg) (c := c) (P := P) (ps := ps) (closure_ok hfree) I.ok.glob (I.mod.glob.keeps I.bk) hcode (TB.code.keeps I.bk) hP' ht hc bP fun ctv h' tk hx hsz => ?_
    have nF : H h'.objs.size = none := I.hok.fresh hsz
    have I0 : Inv X pins σ H { s with heap := h', toks := tk } := I.kept fun b o e => hx b o e
    have I1 := Inv.laid (a := h'.objs.size) (t' := tk) (h' := h'.push (PySem.W.kla_obj "<lambda>" (X.env.qual ++ "<lambda>") params body scope (cloFrom X.env.cells scope.names []) ((X.mg "__name__").getD .none) c' ctv)) I0 (fun b u e => Heap.get?_push_of_some _ e) (Nat.le_refl _) (lam_ok (c := c') (Heap.get?_push_size _ rfl))
    have atE : ∀ b u, H b = some u → upd H h'.objs.size (LamO h'.objs.size c' (X.env.qual ++ "<lambda>") params body scope (cloFrom X.env.cells scope.names [])) b = some u := fun b u e => by
      rw [upd_ne (ne_of_none e nF)]; exact e
    have ncf : h'.objs.size ≠ c' := Ne.symm (ne_of_none hco nF)
    refine h h'.objs.size c' _ _ I1 ⟨fun b o e _ => atE b o e, hT.ext atE, nF, upd_same, atE _ _ hco, .inr hco, ncf, fun b hb => ?_, fun b u e n => ?_⟩
    · cases e : H b with
      | none => exact absurd e hb
      | some u => rw [atE b u e]; simp
    · by_cases z1 : b = h'.objs.size
      · exact .inr (.inl z1)
      · rw [upd_ne z1] at e
        exact .inl e
/-- a lambda is made -/
def tMkLam (T : List (Addr × Str)) (q : Str) (params : Arguments) (body : Expr) (scope : Scope) (cl : List (Str × Addr)) : TE := fun _ H Q => Tabs T H ∧ ∀ (f c : Addr) (H2 : Hp), Made T H H2 f c q (LamO f c q params body scope cl) → Q (.ref f) H2
theorem pe_lam {T : List (Addr × Str)} {c P : Addr} {params : Arguments} {body : Expr} {scope : Scope} {pos : Pos} (TB : TabB X.base X.mg c P) (hcode : X.env.code = .ref c) (hm : (P, X.env.qual ++ "<lambda>") ∈ T) (hu : ∀ p ∈ T, p.1 = P → p.2 = X.env.qual ++ "<lambda>")
    (L : LamS X.env.scope scope) (hdef : defaultsOf params X.env = ([], [])) : PE X (.Lambda params body scope pos) (tMkLam T (X.env.qual ++ "<lambda>") params body scope (cloFrom X.env.cells scope.names [])) := ⟨fun pins s σ H Q I h => by
  refine lam_make3 I TB hcode hm hu h.1 hdef (L.has I.ok) fun f c' H2 s' I2 M => ?_
  exact ⟨.ref f, H2, I2, rfl, h.2 f c' H2 M⟩⟩
/-- x(), in the def that got the lambda -/
theorem pe_act3 {CXg : CXT} {Eg : XK} {Ng : List Str} {qg : Str} {sg : Scope} {g f c' : Addr} {cdg : Value} {params : Arguments} {body : Expr} {scope : Scope} {k i : Nat} {a : Str} {pn : List (Addr × Obj)} {xe : Value → Shared → Prop} {W : WX} {tb : XK → TE} {p1 p2 : Pos}
    (I : Inv X pins σ H s) (L : LamS X.env.scope scope) (hgd : X.A.guards = some [])
    (hbind : ∀ (q : Str) (cl : List (Str × Addr)) (pm cv ctv : Value), bindArgs (PySem.W.kla_fn "<lambda>" q params body scope cl pm cv ctv) ⟨[], []⟩ = pure [])
    (tk : Takes ((cxOf CXg X.prog X.w X.K X.mg X.base Ng qg sg g cdg X.A X.stack s H Eg).tr pn xe) W) (hr : Room (k + 1) (X.A.deeper (envOfC qg sg s.heap.objs.size g cdg)))
    (hbody : ∀ (A : Around) (outer : List Env) (s : Shared) (H : Hp) (E : XK), A.guards = some [] → Room k (A.deeper (lamEnv X scope s.heap.objs.size f c')) → PE (lamCx X A outer s H E scope f c') body (tb E))
    (hN : Ng[i]? = some a) (hv : Vis sg a) (hd : (a == ("__debug__" : Str)) = false := by decide) (hcd : (a == ("__classdict__" : Str)) = false := by decide) :
    PE ((cxOf CXg X.prog X.w X.K X.mg X.base Ng qg sg g cdg X.A X.stack s H Eg).tr pn xe) (.Call (.Name a p1) [] [] p2)
      (fun σZ HZ Q => σZ[i]? = some (some (.ref f)) ∧ HZ f = some (LamO f c' (X.env.qual ++ "<lambda>") params body scope (cloFrom X.env.cells scope.names [])) ∧ HZ c' = some (CodeO c' (X.env.qual ++ "<lambda>")) ∧ tb (fun cls d H' => W cls d σZ H') σ HZ Q) := by
  refine ⟨fun pinsZ sZ σZ HZ Q IZ h => ?_⟩
  obtain ⟨hs, hlam, hc, ht⟩ := h
  refine wpAny_Call_Name_kw (thn ((pe_var (pos := p1) (i := i) hN hv hd hcd).run pinsZ sZ σZ HZ (fun v H1 => v = .ref f ∧ H1 = HZ) IZ ⟨.ref f, hs, rfl, rfl⟩) fun u s1 ⟨v, H1, I1, r1, q1⟩ => ?_)
  obtain ⟨ev, eH⟩ := q1
  subst ev
  rw [eH] at I1
  obtain rfl : u = Value.ref f := r1
  obtain ⟨⟨pm, ctv, of1⟩, _, _⟩ := I1.hok f _ hlam
  refine PySem.W.callWith_F0 ⟨_, _, _, _, of1⟩ ?_
  have un : Un (frs X.stack) [] H HZ s.heap s1.heap := I1.base
  obtain ⟨⟨oc, vs, t, hoc, hdc, hvc⟩, _, _⟩ := I1.hok c' _ hc
  have rc : codeAny (model X.prog X.w) (X.A.deeper (envOfC qg sg s.heap.objs.size g cdg)) (.call (.ref f) ⟨[], []⟩) (CR (L2.CX X.prog X.w) (envOfC qg sg s.heap.objs.size g cdg :: X.stack) X.prog X.w HZ s1 Q fun cls d H' => W cls d σZ H') s1 := by
    refine PySem.W.kla_callFunE hr.depth of1 rfl L.co L.gen rfl ⟨c', oc, vs, t, rfl, hoc, hdc, hvc⟩ ?_
    rw [hbind]
    refine wpAny_pure (wpAny_newFunctionEnv (fun y hy => (L.own y hy).2) (fun y hy => absurd hy (by simp)) (fun h₁ hns hsb => ⟨I1.nolimit.fresh _ hsb, ?_⟩) L.kind)
    show codeAny _ _ (.expr body (lamEnv X scope s1.heap.objs.size f c')) _ _
    have kp : ∀ b o, s1.heap.get? b = some o → h₁.get? b = some o := fun b o e => hsb.extBut b o (Nat.ne_of_lt (Heap.lt_size e)) (Heap.get?_push_of_some _ e)
    have J : Inv (lamCx X (X.A.deeper (envOfC qg sg s.heap.objs.size g cdg)) (envOfC qg sg s.heap.objs.size g cdg :: X.stack) s1 HZ (fun cls d H' => W cls d σZ H') scope f c') [] σ HZ { s1 with heap := h₁, toks := s1.toks + ([] : List (Str × Value)).length } :=
      lam_start2 I L I1.env0 hr.hd un hns kp
    refine PySem.W.kla_codeExpr (wpAny_mono ((hbody (X.A.deeper (envOfC qg sg s.heap.objs.size g cdg)) _ s1 HZ _ hgd (hr.deeper _)).run [] _ _ HZ Q J ht) (fun v s' hq => ?_) fun e s' hq => hq)
    obtain ⟨w', H', J', rv, q⟩ := hq
    exact ⟨w', H', J'.os, J'.bare, J'.base, J'.hok, rv, q⟩
  have hx : PassesAt (L2.CX X.prog X.w) ((cxOf CXg X.prog X.w X.K X.mg X.base Ng qg sg g cdg X.A X.stack s H Eg).tr pn xe) σZ (fun cls d H' => W cls d σZ H') := passAt tk σZ
  refine wpAny_call (codeAny_mono rc fun r s' hq => ?_)
  cases r with
  | error e => exact hx pinsZ HZ s1 e s' I1 hq
  | ok fl =>
    cases fl with
    | ret u => exact I1.after hq
    | next => exact False.elim hq
    | brk => exact False.elim hq
    | cont => exact False.elim hq
/-- a def that calls what it got (a: its parameter) -/
def GivesTo3 (X : Cx) (Ng : List Str) (x : Str) (sg : Scope) (g : Addr) (cdg : Value) (bg : List Stmt) (a : Str) (TT : Addr → Addr → HO → HO → (XK → Hp → VK → Prop) → Hp → VK → Prop) : Prop :=
  ∀ (f c' : Addr) (of oc : HO) (s : Shared) (H : Hp) (Q : VK) (tl : XK → Hp → VK → Prop),
    (∀ (W : WX) (pn : List (Addr × Obj)) (xe : Value → Shared → Prop) (p1 p2 : Pos), Takes ((cxOf C8.CX0 X.prog X.w X.K X.mg X.base Ng x sg g cdg X.A X.stack s H C8.E0).tr pn xe) W →
      PE ((cxOf C8.CX0 X.prog X.w X.K X.mg X.base Ng x sg g cdg X.A X.stack s H C8.E0).tr pn xe) (.Call (.Name a p1) [] [] p2) (fun σZ HZ Q => σZ[0]? = some (some (.ref f)) ∧ HZ f = some of ∧ HZ c' = some oc ∧ tl (fun cls d H' => W cls d σZ H') HZ Q)) →
    TT f c' of oc tl H Q →
    ∃ t, PSs (cxOf C8.CX0 X.prog X.w X.K X.mg X.base Ng x sg g cdg X.A X.stack s H C8.E0).nox bg t ∧ t { nx := fun _ H' => Q .non H', rt := Q } (L2.start Ng [.ref f]) H
/-- a lambda of the frame: its text, its reading -/
structure LamD where
  params : Arguments
  body : Expr
  scope : Scope
  t : XK → TE
structure LamOk (X : Cx) (k : Nat) (d : LamD) : Prop where
  L : LamS X.env.scope d.scope
  bind : ∀ (q : Str) (cl : List (Str × Addr)) (pm cv ctv : Value), bindArgs (PySem.W.kla_fn "<lambda>" q d.params d.body d.scope cl pm cv ctv) ⟨[], []⟩ = pure []
  body : ∀ (A : Around) (outer : List Env) (s : Shared) (H : Hp) (E : XK) (f c' : Addr), A.guards = some [] → Room k (A.deeper (lamEnv X d.scope s.heap.objs.size f c')) → PE (lamCx X A outer s H E d.scope f c') d.body (d.t E)
def oLam (q : Str) (cells : List (Str × Addr)) (d : LamD) (f c : Addr) : HO := LamO f c q d.params d.body d.scope (cloFrom cells d.scope.names [])
/-- x(e), e a lambda of the frame -/
def tOutC (q : Str) (cells : List (Str × Addr)) (ds : List LamD) (TT : Addr → Addr → HO → HO → (XK → Hp → VK → Prop) → Hp → VK → Prop) (t : TA) : TE := fun σ H Q => t σ H fun vs H1 => ∃ (f c : Addr) (d : LamD), d ∈ ds ∧ vs = [.ref f] ∧ H1 f = some (oLam q cells d f c) ∧ H1 c = some (CodeO c q) ∧
  TT f c (oLam q cells d f c) (CodeO c q) (fun E H' Q' => d.t E σ H' Q') H1 Q
theorem pe_outC {TT : Addr → Addr → HO → HO → (XK → Hp → VK → Prop) → Hp → VK → Prop} {ds : List LamD} {x a : Str} {g : Addr} {k : Nat} {pg : Arguments} {bg : List Stmt} {sg : Scope} {dV kV doc pm cdv ct oc : Value} {an od : Option Addr} {osl : Array (Option Value)} {Ng : List Str} {e : Expr} {ta : TA} {p pos : Pos}
    (hg : Gl X x) (hm : X.mg x = some (.ref g)) (hk : PySem.W.keepIn X.K (.ref g) = true)
    (lk : X.K.lookup g = some ⟨oc, od, .func (PySem.W.fnOf x x pg bg sg dV kV doc pm an cdv ct), osl⟩) (hcg : PySem.W.codeIn X.K cdv x = true) (hb : L2.Binds X.K (PySem.W.fnOf x x pg bg sg dV kV doc pm an cdv ct) [a] []) (Sg : FnScope Ng [a] sg) (hNg : Ng[0]? = some a) (hva : Vis sg a)
    (hG : GivesTo3 X Ng x sg g cdv bg a TT) (hgd : X.A.guards = some []) (hr : Room (k + 2) X.A) (hds : ∀ d ∈ ds, LamOk X k d) (ha : PA X [e] ta)
    (hdb : (x == ("__debug__" : Str)) = false := by decide) (hd : (a == ("__debug__" : Str)) = false := by decide) (hcd : (a == ("__classdict__" : Str)) = false := by decide)
    (he : starEach (e :: []) X.env = (false, eval e X.env) :: starEach [] X.env := by rfl) (hpl : (backTo pos (starEach [] X.env)).any (·.1) = false := by rfl) :
    PE X (.Call (.Name x p) [e] [] pos) (tOutC (X.env.qual ++ "<lambda>") X.env.cells ds TT ta) := by
  refine ⟨fun pins s σ H Q I h => ?_⟩
  refine wpAny_Call_Name_kw (ld_glob I hg hm ?_ hdb)
  refine PySem.W.callWith_K (h₀ := X.base) I.ok.mod.kin hk (thn (ha.run pos pins s σ H _ I h) fun us s1 ⟨vs, H1, I1, r, q⟩ => ⟨I1.kIn, ?_⟩) he hpl
  obtain ⟨f, c', d, hdm, rfl, hf, hc, q⟩ := q
  have LK := hds d hdm
  have rc : codeAny (model X.prog X.w) X.A (.call (.ref g) ⟨us, []⟩) (CR C8.CX0 X.stack X.prog X.w H1 s1 Q C8.E0) s1 := by
    have hl : us.length = 1 := by rw [← r.length]; rfl
    refine run_ofS (N := Ng) (ps := [a]) (us := us) (vs := [.ref f]) lk hcg Sg hr I1.env0 (by have := hb s1 us I1.kIn (by simp [hl]); simpa using this) r rfl fun hr' => ?_
    obtain ⟨t', ht', hq'⟩ := hG f c' _ _ s1 H1 Q (fun E H' Q' => d.t E σ H' Q') (fun W pn xe p1 p2 tk => pe_act3 (i := 0) I1 LK.L hgd LK.bind tk hr' (fun A outer s H E hgA hr2 => LK.body A outer s H E f c' hgA hr2) hNg hva hd hcd) q
    exact ⟨t', ht'.nox, hq'⟩
  refine wpAny_call (codeAny_mono rc fun r s2 hq => ?_)
  cases r with
  | error e => exact (show False from hq).elim
  | ok fl =>
    cases fl with
    | ret u => exact I1.after hq
    | next => exact False.elim hq
    | brk => exact False.elim hq
    | cont => exact False.elim hq
end
end LamX
set_option linter.all false
set_option maxRecDepth 100000
set_option maxHeartbeats 4000000
/-! L3, part Z8: lambdas by data; the end of a law that makes lambdas. -/
namespace L3
open PySem PySem.Spec PyProof.Rows L2 LamX
section
variable {K : PySem.W.Frag} {g : Gd} {E : WX} {F H : Hp} {σ : L2.St} {S : SS}
/-- the heap has grown: nothing known is changed -/
structure Grow (K : PySem.W.Frag) (F H F' H' : Hp) : Prop where
  ff : Same F F'
  keep : ∀ b o, H b = some o → (∀ ps, o ≠ .tbl ps) → H' b = some o
  out : ∀ b, H b ≠ none → F b = none → F' b = none
  live : ∀ b, H b ≠ none → H' b ≠ none
  ent : Ent K F' H'
theorem RS.grow {F' H' : Hp} (r : RS K g F H σ S) (w : Grow K F H F' H') : RS K g F' H' σ S := by
  obtain ⟨fp, r⟩ := r
  refine ⟨fp, w.ent.sm, fun b u e => w.keep b u (r.gf b u e) (fun ps z => r.tb.g b ps (by rw [e, z])), fun b hb => ?_, fun i d h => ?_, fun i o k h => ?_, r.ap, r.len, r.lent, r.nl, ⟨w.ent.tb.t, w.ent.tb.f, r.tb.g, w.ent.tb.c⟩⟩
  · obtain ⟨h1, h2⟩ := r.nb b hb
    exact ⟨w.out b h2 h1, w.live b h2⟩
  · obtain ⟨v, hv, rep⟩ := r.val i d h
    exact ⟨v, hv, rep.mono w.ff⟩
  · obtain ⟨a, ha, hc, hf⟩ := r.cel i o k h
    refine ⟨a, ha, hc.mono w.ff fun b hb u q => w.keep b u q (hc.ntb hb q), fun b hb => ?_⟩
    obtain ⟨h1, h2, h3⟩ := hf b hb
    exact ⟨w.out b (hc.live b hb) h1, h2, h3⟩
theorem Post.grow {F' H' : Hp} {n : Nat} {fps' : List (List Addr)} (p : Post K F H (List.replicate n []) F' H' fps') : Grow K F H F' H' :=
  ⟨p.ff, fun b o e nt => p.keep b o e nt fun q hq => by rw [List.eq_of_mem_replicate hq]; exact List.not_mem_nil, p.out, p.live, ⟨p.fh, p.tb⟩⟩
/-- what a call of a lambda does, by data: its result, what it raises -/
abbrev ActR := (D → Prop) → (Value → List (Str × D) → Prop) → Prop
def ActOk (K : PySem.W.Frag) (G0 : Hp) (tl : XK → Hp → VK → Prop) (A : ActR) : Prop := ∀ (E : XK) (F H : Hp) (Q1 : D → Prop) (R1 : Value → List (Str × D) → Prop) (Q' : VK), Same G0 F → Ent K F H → A Q1 R1 →
  (∀ d v F' H', Q1 d → Grow K F H F' H' → Rep K F' v d → Q' v H') → (∀ c fs dx F' H', R1 c fs → Grow K F H F' H' → XRep K F' dx fs → E c dx H') → tl E H Q'
/-- the frame's values, its lists left out -/
def hide (S : SS) : SS := S.map fun x => match x with
  | some (.v d) => some (.v d)
  | _ => none
theorem hide_at {i : Nat} {d : D} : (hide S)[i]? = some (some (.v d)) ↔ S[i]? = some (some (.v d)) := by
  unfold hide
  rw [List.getElem?_map]
  cases e : S[i]? with
  | none => simp
  | some x =>
    cases x with
    | none => simp
    | some x => cases x <;> simp
theorem hide_nc {i : Nat} {o : Bool} {k : Cell} : (hide S)[i]? ≠ some (some (.c o k)) := by
  unfold hide
  rw [List.getElem?_map]
  cases e : S[i]? with
  | none => simp
  | some x =>
    cases x with
    | none => simp
    | some x => cases x <;> simp
/-- a lambda's body, read in the frame -/
def bodyA (T : LT) (S : SS) : ActR := fun Q1 R1 => T (hide S) (fun d _ => isCel d = false ∧ Q1 d) (fun c fs _ => R1 c fs)
theorem act_ok {t : XK → TE} {T : LT} (h : ∀ E : XK, Lf K (fun c d _ H => E c d H) (t E) T) (r : RS K g F H σ S) : ActOk K F (fun E H' Q' => t E σ H' Q') (bodyA T S) := by
  intro E F1 H1 Q1 R1 Q' sm ent hA hq hx
  obtain ⟨fp, r⟩ := r
  have r0 : RS K { G := fun b => noTbl (H1 b), B := fun b => H1 b ≠ none ∧ F1 b = none, L := [] } F1 H1 σ (hide S) := by
    refine ⟨fun _ => [], ent.sm, fun b o e => noTbl_some e, fun b hb => ⟨hb.2, hb.1⟩, fun i d e => ?_, fun i o k e => absurd e hide_nc, fun i j o k o' k' _ e _ => absurd e hide_nc, by unfold hide; simp [r.len], fun p hp => (nomatch hp), fun i k e => absurd e hide_nc, ⟨ent.tb.t, ent.tb.f, fun b ps => noTbl_ne, ent.tb.c⟩⟩
    obtain ⟨v, hv, rep⟩ := r.val i d (hide_at.mp e)
    exact ⟨v, hv, rep.mono sm⟩
  have gr : ∀ {F' H' : Hp} {S' : SS}, Same F1 F' → RS K { G := fun b => noTbl (H1 b), B := fun b => H1 b ≠ none ∧ F1 b = none, L := [] } F' H' σ S' → Grow K F1 H1 F' H' := fun {F' H' S'} e r2 => by
    obtain ⟨fp2, r2⟩ := r2
    refine ⟨e, fun b o q nt => r2.gf b o (by show noTbl (H1 b) = _; rw [q]; exact noTbl_of nt), fun b h1 h2 => (r2.nb b ⟨h1, h2⟩).1, fun b h1 => ?_, r2.ent⟩
    by_cases z : F1 b = none
    · exact (r2.nb b ⟨h1, z⟩).2
    · cases w : F1 b with
      | none => exact absurd w z
      | some o => rw [r2.fh b o (e b o w)]; simp
  exact h E _ σ H1 F1 (hide S) _ _ Q' r0 hA (fun d S' v H' F' q _ e r2 w => hq d v F' H' q.2 (gr e r2) (w.rep q.1)) fun c fs S' dx H' F' q _ e r2 x => hx c fs dx F' H' q (gr e r2) x
/-! ### making -/
/-- the frame's k-th lambda at f, over what is known -/
abbrev LamP := Nat → Addr → Hp → Prop
@[simp] def lLam (L : LamP) (k : Nat) : LT := fun S Q _ => ∀ f G0, L k f G0 → Q (.clo f G0) S
theorem lf_lam {L : LamP} {k : Nat} {q : Str} {params : Arguments} {body : Expr} {scope : Scope} {cl : List (Str × Addr)} (hL : ∀ f c G0, G0 f = some (LamO f c q params body scope cl) → G0 c = some (CodeO c q) → L k f G0) :
    Lf K E (tMkLam (tabsOf K) q params body scope cl) (lLam L k) := by
  intro g σ H F S Q R Q' rs h hq hx
  have ent := rs.ent
  refine ⟨ent.tb.t, fun f c H2 M => ?_⟩
  have fF : F f = none := by
    cases z : F f with
    | none => rfl
    | some u => have := ent.sm f u z; rw [M.nf] at this; cases this
  have fc : F c = none ∨ F c = some (CodeO c q) := by
    rcases M.nc with e | e
    · left
      cases z : F c with
      | none => rfl
      | some u => have := ent.sm c u z; rw [e] at this; cases this
    · exact .inr (ent.tb.c c q e)
  have at_ : ∀ b, b ≠ f → b ≠ c → upd (upd F f (LamO f c q params body scope cl)) c (CodeO c q) b = F b := fun b h1 h2 => by rw [upd_ne h2, upd_ne h1]
  have at_f : upd (upd F f (LamO f c q params body scope cl)) c (CodeO c q) f = some (LamO f c q params body scope cl) := by rw [upd_ne M.ne, upd_same]
  have at_c : upd (upd F f (LamO f c q params body scope cl)) c (CodeO c q) c = some (CodeO c q) := upd_same
  have ff : Same F (upd (upd F f (LamO f c q params body scope cl)) c (CodeO c q)) := fun b u e => by
    by_cases h1 : b = f
    · rw [h1, fF] at e; cases e
    · by_cases h2 : b = c
      · rw [h2] at e ⊢
        rcases fc with z | z
        · rw [z] at e; cases e
        · rw [at_c, ← z]; exact e
      · rw [at_ b h1 h2]; exact e
  have nt : ∀ b ps, upd (upd F f (LamO f c q params body scope cl)) c (CodeO c q) b ≠ some (.tbl ps) := fun b ps z => by
    by_cases h1 : b = f
    · rw [h1, at_f] at z; unfold LamO at z; cases z
    · by_cases h2 : b = c
      · rw [h2, at_c] at z; unfold CodeO at z; cases z
      · rw [at_ b h1 h2] at z; exact ent.tb.f b ps z
  have gr : Grow K F H (upd (upd F f (LamO f c q params body scope cl)) c (CodeO c q)) H2 := by
    refine ⟨ff, fun b o e n => M.ext b o e n, fun b h1 h2 => ?_, M.live, ⟨fun b u e => ?_, M.tabs, nt, fun b q' e => ?_⟩⟩
    · have n1 : b ≠ f := fun z => h1 (by rw [z]; exact M.nf)
      have n2 : b ≠ c := fun z => by
        rw [z] at h1 h2
        rcases M.nc with y | y
        · exact h1 y
        · rw [ent.tb.c c q y] at h2; cases h2
      rw [at_ b n1 n2]; exact h2
    · by_cases h1 : b = f
      · rw [h1, at_f] at e; rw [h1, M.hf]; exact e
      · by_cases h2 : b = c
        · rw [h2, at_c] at e; rw [h2, M.hc]; exact e
        · rw [at_ b h1 h2] at e
          exact M.ext b u (ent.sm b u e) fun ps z => ent.tb.f b ps (by rw [e, z])
    · rcases M.back b _ e (fun ps z => by unfold CodeO at z; cases z) with z | z | z
      · exact ff b _ (ent.tb.c b q' z)
      · rw [z] at e ⊢
        rw [at_f, ← M.hf]; exact e
      · rw [z] at e ⊢
        rw [at_c, ← M.hc]; exact e
  exact hq (.clo f _) S (.ref f) H2 _ (h f _ (hL f c _ at_f at_c)) (CS.refl S) ff (rs.grow gr) (.inl (.clo (Same.refl _)))
/-! ### calling, in the def that got it -/
@[simp] def lAct (A : ActR) (f : Addr) (G0 : Hp) (i : Nat) : LT := fun S Q R => S[i]? = some (some (.v (.clo f G0))) ∧ A (fun d => isCel d = false ∧ Q d S) (fun c fs => R c fs S)
theorem lf_act {A : ActR} {f c : Addr} {G0 : Hp} {i : Nat} {of oc : HO} {tl : XK → Hp → VK → Prop} (hf : G0 f = some of) (hc : G0 c = some oc) (ha : ActOk K G0 tl A) :
    Lf K E (fun σZ HZ Q => σZ[i]? = some (some (.ref f)) ∧ HZ f = some of ∧ HZ c = some oc ∧ tl (fun cls d H' => E cls d σZ H') HZ Q) (lAct A f G0 i) := by
  intro g σ H F S Q R Q' rs h hq hx
  obtain ⟨hS, hA⟩ := h
  have ent := rs.ent
  obtain ⟨v, hv, rep⟩ : ∃ v, σ[i]? = some (some v) ∧ Rep K F v (.clo f G0) := by
    obtain ⟨fp, r⟩ := id rs
    exact r.val i _ hS
  cases rep with
  | clo sm =>
    refine ⟨hv, ent.sm _ _ (sm _ _ hf), ent.sm _ _ (sm _ _ hc), ha _ F H _ _ Q' sm ent hA (fun d v F' H' q w rep => ?_) fun cl fs dx F' H' q w x => ?_⟩
    · exact hq d S v H' F' q.2 (CS.refl S) w.ff (rs.grow w) (.inl rep)
    · exact hx cl fs S dx H' F' q (CS.refl S) w.ff (rs.grow w) x
/-- what the def promises, by data -/
def TTL (K : PySem.W.Frag) (w : Addr → Hp → ActR → LFn) : Addr → Addr → HO → HO → (XK → Hp → VK → Prop) → Hp → VK → Prop := fun f c of oc tl H Q => ∃ (F : Hp) (A : ActR), F f = some of ∧ F c = some oc ∧ ActOk K F tl A ∧
  spL K 1 (w f F A) [.ref f] H Q (fun _ _ _ => False)
/-! ### handing a lambda to it -/
@[simp] def lOutC (L : LamP) (Ts : List LT) (w : Addr → Hp → ActR → LFn) (Ta : LTs) : LT := fun S Q R => Ta S (fun ds S1 => ∃ f G0 k T, ds = [.clo f G0] ∧ L k f G0 ∧ Ts[k]? = some T ∧ ∀ G1, w f G1 (bodyA T S1) [.v (.clo f G1)] (fun d _ => Q d S1) (fun _ _ _ => False)) R
theorem lf_outC {L : LamP} {Ts : List LT} {ds : List LamD} {w : Addr → Hp → ActR → LFn} {q : Str} {cells : List (Str × Addr)} {ta : TA} {Ta : LTs} (hL : ∀ k f G0, L k f G0 → ∃ c d, ds[k]? = some d ∧ G0 f = some (oLam q cells d f c) ∧ G0 c = some (CodeO c q))
    (hT : ∀ (k : Nat) (d : LamD) (T : LT), ds[k]? = some d → Ts[k]? = some T → ∀ E : XK, Lf K (fun c dx _ H => E c dx H) (d.t E) T) (hw : ∀ f G A as Q R, w f G A as Q R → as.length = 1) (ha : LfA K E ta Ta) : Lf K E (tOutC q cells ds (TTL K w) ta) (lOutC L Ts w Ta) := by
  intro g σ H F S Q R Q' rs h hq hx
  refine ha g σ H F S _ R _ rs h (fun es S1 vs H1 F1 h1 c1 e1 r1 w1 => ?_) hx
  obtain ⟨f, G0, k, T, rfl, hl, hTk, hw1⟩ := h1
  obtain ⟨c, d, hd, hf, hc⟩ := hL k f G0 hl
  cases w1 with
  | cons w1 wn =>
    cases wn
    have rep := w1.rep rfl
    cases rep with
    | clo sm =>
      have hf1 := sm _ _ hf
      have hc1 := sm _ _ hc
      refine ⟨f, c, d, List.mem_of_getElem? hd, rfl, r1.fh' _ _ hf1, r1.fh' _ _ hc1, F1, bodyA T S1, hf1, hc1, act_ok (hT k d T hd hTk) r1, rfl, F1, [.v (.clo f F1)], [[]], _, _, r1.ent, .v (.clo (Same.refl _)) .nil, hw1 F1, fun d' as' q2 v H' F' fps' p a' rep' => ?_, fun cl fs as' z => z.elim⟩
      have gw : Grow K F1 H1 F' H' := Post.grow (n := 1) p
      exact hq d' S1 v H' F' q2 c1 (e1.trans gw.ff) (r1.grow gw) (.inl rep')
/-- a frame's reading for whatever its lambdas are -/
def lAll (T : LamP → LTS) : LTS := fun Z S => ∀ L, T L Z S
theorem lfs_all {t : TS} {T : LamP → LTS} (L : LamP) (h : LfS K E t (T L)) : LfS K E t (lAll T) := fun g σ H F S D3 D2 rs q c => h g σ H F S D3 D2 rs (q L) c
end
/-! ### a def by its text, its code object known -/
structure FunC (K : PySem.W.Frag) (x qual : Str) (st : Stmt) (c : Addr) (f : Addr) (fd : FuncData) : Prop where
  ex : ∃ oc od kV doc pm an ct osl, fd = PySem.W.fnOf x qual (defArgs st) (defBody st) (defScope st) .none kV doc pm an (.ref c) ct ∧ K.lookup f = some ⟨oc, od, .func (PySem.W.fnOf x qual (defArgs st) (defBody st) (defScope st) .none kV doc pm an (.ref c) ct), osl⟩ ∧ PySem.W.codeIn K (.ref c) qual = true
section
variable {P : Program} {w : World} {K : PySem.W.Frag} {mg : Str → Option Value} {base : Heap}
theorem defLC {x qual : Str} {st : Stmt} {c f : Addr} {fd : FuncData} {N ps : List Str} {k n : Nat} {T : LTS} (F : FunC K x qual st c f fd) (S : FnScope N ps (defScope st)) (hp : ps.length = n) (hn : n ≤ N.length)
    (hbody : ∀ (A : Around) (outer : List Env) (s : Shared) (H : Hp) (E : XK), A.guards = some [] → Room k (A.deeper (envOfC qual (defScope st) s.heap.objs.size f (.ref c))) →
      ∃ t, PSs (cxOf (L2.CX P w) P w K mg base N qual (defScope st) f (.ref c) A outer s H E) (defBody st) t ∧ LfS K (fun c d _ H => E c d H) t T) : FnG P w K mg base (L2.CX P w) (k + 1) f fd ps (spL K n (fnW n N.length T)) := by
  obtain ⟨oc, od, kV, doc, pm, an, ct, osl, rfl, lk, hcd⟩ := F.ex
  refine fnG_of lk hcd S (fun vs H Q E h => h.1.trans hp.symm) fun A outer s H vs Q E hg hr h => ?_
  obtain ⟨t, p, l⟩ := hbody A outer s H E hg hr
  exact ⟨t, p, body_of l (fun _ _ _ _ q => q) hn h⟩
/-! ### a def that calls what it got -/
/-- the def x (one parameter a) calls the lambda that it gets: w, by data -/
structure GivesAt (P : Program) (w : World) (K : PySem.W.Frag) (mg : Str → Option Value) (base : Heap) (k : Nat) (x a : Str) (wo : Addr → Hp → ActR → LFn) : Prop where
  ex : ∃ (g : Addr) (oc : Value) (od : Option Addr) (pg : Arguments) (bg : List Stmt) (sg : Scope) (dV kV doc pm cdv ct : Value) (an : Option Addr) (osl : Array (Option Value)) (Ng : List Str),
    mg x = some (.ref g) ∧ PySem.W.keepIn K (.ref g) = true ∧ K.lookup g = some ⟨oc, od, .func (PySem.W.fnOf x x pg bg sg dV kV doc pm an cdv ct), osl⟩ ∧ PySem.W.codeIn K cdv x = true ∧ L2.Binds K (PySem.W.fnOf x x pg bg sg dV kV doc pm an cdv ct) [a] [] ∧ FnScope Ng [a] sg ∧ Ng[0]? = some a ∧ Vis sg a ∧
      (∀ X : Cx, X.prog = P → X.w = w → X.K = K → X.mg = mg → X.base = base → X.A.guards = some [] → Room (k + 2) X.A → GivesTo3 X Ng x sg g cdv bg a (TTL K wo))
end
section
variable {X : Cx} {k j : Nat} {x a : Str} {wo : Addr → Hp → ActR → LFn} {ds : List LamD} {e : Expr} {ta : TA} {p pos : Pos}
theorem pe_outD (D : GivesAt X.prog X.w X.K X.mg X.base j x a wo) (hgd : X.A.guards = some []) (hr : Room k X.A) (hds : ∀ d ∈ ds, LamOk X j d) (ha : PA X [e] ta) (hj : j + 2 ≤ k := by decide) (hg : Gl X x := by rfl)
    (hdb : (x == ("__debug__" : Str)) = false := by decide) (hd : (a == ("__debug__" : Str)) = false := by decide) (hcd : (a == ("__classdict__" : Str)) = false := by decide)
    (he : starEach (e :: []) X.env = (false, eval e X.env) :: starEach [] X.env := by rfl) (hpl : (backTo pos (starEach [] X.env)).any (·.1) = false := by rfl) :
    PE X (.Call (.Name x p) [e] [] pos) (tOutC (X.env.qual ++ "<lambda>") X.env.cells ds (TTL X.K wo) ta) := by
  obtain ⟨g, oc, od, pg, bg, sg, dV, kV, doc, pm, cdv, ct, an, osl, Ng, hm, hk, lk, hcg, hb, Sg, hNg, hva, hG⟩ := D.ex
  exact pe_outC hg hm hk lk hcg hb Sg hNg hva (hG X rfl rfl rfl rfl rfl hgd (hr.mono hj)) hgd (hr.mono hj) hds ha hdb hd hcd he hpl
end
end L3
set_option linter.all false
set_option maxRecDepth 100000
set_option maxHeartbeats 4000000
/-! L3, part Z9: the end of a law that makes lambdas. -/
namespace L3
open PySem PySem.Spec PyProof.Rows L2 LamX
/-- the heap at a law's call: the script, the tables, nothing else -/
structure Begun (K : PySem.W.Frag) (ts : List Addr) (H : Hp) : Prop where
  tab : ∀ P ∈ ts, H P = some (.tbl #[])
  other : ∀ b u, H b = some u → b ∈ ts ∨ ∃ o xs, u = .frz o (.lst xs)
theorem begun_ent {K : PySem.W.Frag} {ts : List Addr} {H : Hp} (B : Begun K ts H) (hk : ∀ p ∈ tabsOf K, p.1 ∈ ts) : Ent K (fun b => noTbl (H b)) H :=
  ⟨fun b u e => noTbl_some e, fun p hp => TabS.nil (B.tab _ (hk p hp)), fun b ps => noTbl_ne, fun b q e => by
    show noTbl (H b) = _
    rw [e]
    exact noTbl_of codeO_ne⟩
theorem begun_lst {K : PySem.W.Frag} {H : Hp} {a : Addr} {xs : List V} (h : SqL K H a xs) : SqL K (fun b => noTbl (H b)) a xs := by
  rcases h with (h | ⟨o, h⟩) | h
  · exact .inl (.inl (by show noTbl (H a) = _; rw [h]; rfl))
  · exact .inl (.inr ⟨o, by show noTbl (H a) = _; rw [h]; rfl⟩)
  · exact .inr h
theorem lawGT {P : Program} {w : World} {K : PySem.W.Frag} {mg mb : Str → Option Value} {CX : CXT} {k : Nat} {fa a : Addr} {cs : List (Addr × Addr)} {fd : FuncData} {x : Str} {sp : Sp} {s₁ : Shared} {vs : List Value} {ns : List Int}
    (inK : K.In s₁.heap) (hns : s₁.heap.Ns mainGlobals mg) (hb : s₁.heap.Ns builtinsNs mb) (hbb : ∀ x : Str, x ≠ "__name__" → mb x = bootBuiltins x) (hlim : s₁.heap.NoLimit) (hgn : s₁.gens = #[])
    (hT : ∀ p ∈ cs, s₁.heap.get? p.2 = some { cls := .none, data := .fields #[] }) (nT : ∀ p ∈ cs, K.lookup p.2 = none) (hC : ∀ p ∈ cs, PySem.W.CodeHd s₁.heap p.1 p.2)
    (hbm : ∃ (bm : Addr) (ob : Obj), mg "__builtins__" = some (.ref bm) ∧ bm ≠ builtinsNs ∧ s₁.heap.get? bm = some ob ∧ ob.cls = .type "module" ∧ ob.dict = some builtinsNs ∧ ob.data = .plain)
    (ha : s₁.heap.get? a = some { cls := .type "list", data := .seq vs.toArray }) (hi : IntsAre vs ns) (hl : ns.length ≤ sizeLine) (hr : Room k callerA)
    (F : ∀ base : Heap, K.In base → base.Ns mainGlobals mg → (∀ p ∈ cs, TabB base mg p.1 p.2) → FnG P w K mg base CX k fa fd [x] sp) (hbind : ∀ (s : Shared) (u : Value), BindsTo s fd ⟨[u], []⟩ [(x, u)])
    (hsp : ∀ H : Hp, Begun K (cs.map (·.2)) H → SqL K H a (ns.map V.int) → sp [.ref a] H (fun v _ => v = .bl true) fun _ _ _ => False)
    (hCX : ∀ H e s', CX [] H s₁ (fun _ _ _ => False) e s' → False) :
    codeAny (model P w) callerA (.call (.ref fa) ⟨[.ref a], []⟩) (fun r s' => r = .ok (.ret (.bool true)) ∧ OldK s₁.heap s'.heap ∧ s'.os = s₁.os ∧ AllBare s'.gens) s₁ := by
  have rvs := vals_ints hi
  have nvs := hi.length
  have tabAt : ∀ {b : Addr}, b ∈ cs.map (·.2) → s₁.heap.get? b = some { cls := .none, data := .fields #[] } := fun {b} hm => by
    obtain ⟨q, hq, rfl⟩ := List.mem_map.mp hm
    exact hT q hq
  have aNo : a ∉ cs.map (·.2) := fun z => by
    have e := ha.symm.trans (tabAt z)
    exact nomatch (congrArg Obj.data (Option.some.inj e) : Data.seq vs.toArray _ = Data.fields #[])
  have main : ∀ H : Hp, Begun K (cs.map (·.2)) H → SqL K H a (ns.map V.int) → HOk P w H s₁.heap → (∀ b, H b ≠ none → b = a ∨ b ∈ cs.map (·.2)) → (H a ≠ none → K.lookup a = none) →
      codeAny (model P w) callerA (.call (.ref fa) ⟨[.ref a], []⟩) (fun r s' => r = .ok (.ret (.bool true)) ∧ OldK s₁.heap s'.heap ∧ s'.os = s₁.os ∧ AllBare s'.gens) s₁ := by
    intro H bg hS hok hA hK
    -- what is neither the script's list nor a table is not tracked
    have bare : ∀ {b : Addr} {o : Obj}, s₁.heap.get? b = some o → (∀ (v : Array Value) (n : Nat), o.data ≠ .seq v n) → o.data ≠ .fields #[] → H b = none := fun {b o} e n1 n2 => by
      cases q : H b with
      | none => rfl
      | some u =>
        rcases hA b (by rw [q]; simp) with z | z
        · rw [z] at e
          cases ha.symm.trans e
          exact absurd rfl (n1 _ _)
        · cases (tabAt z).symm.trans e
          exact absurd rfl n2
    have dictNo : ∀ {b : Addr} {o : Obj} {es : Array DictEntry} {ep : Nat}, s₁.heap.get? b = some o → o.data = .dict es ep → H b = none := fun {b o es ep} e d =>
      bare e (fun v n z => nomatch (d.symm.trans z)) fun z => nomatch (d.symm.trans z)
    have hid : ∀ {b : Addr} {m : Str → Option Value}, s₁.heap.Ns b m → (hidT s₁.heap H).Ns b m := fun {b m} ⟨o, es, ep, e, d, r⟩ => ⟨o, es, ep, hidT_get e (dictNo e d), d, r⟩
    have kBase : K.In (hidT s₁.heap H) := fun b o e => hidT_get (inK b o e) (by
      cases q : H b with
      | none => rfl
      | some u =>
        rcases hA b (by rw [q]; simp) with z | z
        · have hk := hK (by rw [← z, q]; simp)
          rw [← z, e] at hk
          cases hk
        · obtain ⟨p, hp, ep⟩ := List.mem_map.mp z
          have hk := nT p hp
          rw [ep, e] at hk
          cases hk)
    have md : Mod K mg (hidT s₁.heap H) := ⟨kBase, hid hns, ⟨mb, hid hb, hbb⟩, let ⟨mc, h1, h2⟩ := hlim; ⟨mc, hid h1, h2⟩⟩
    have start0 : Env0 P w K mg (hidT s₁.heap H) callerA [] s₁ H := ⟨rfl, md, fun b o e => of_hidT e, Nat.le_of_eq (hidT_size _ _), trivial, (fun b hb => nomatch hb), hok, .of_eq hgn⟩
    have TB : ∀ p ∈ cs, TabB (hidT s₁.heap H) mg p.1 p.2 := fun p hp => by
      have e0 := hT p hp
      have notMain : ∀ {b : Addr} {o : Obj}, s₁.heap.get? b = some o → (∀ (es : Array DictEntry) (ep : Nat), o.data ≠ .dict es ep) → b ≠ mainGlobals := fun {b o} e n z => by
        obtain ⟨o2, es, ep, e2, hd, _⟩ := hns
        rw [z] at e
        cases e.symm.trans e2
        exact n es ep hd
      refine ⟨?_, ?_, Ne.symm (notMain e0 fun es ep z => nomatch z)⟩
      · obtain ⟨o, us, file, tf, flags, tg, inF, text, tt, e1, r1, r2, r3, rest⟩ := hC p hp
        refine ⟨o, us, file, tf, flags, tg, inF, text, tt, hidT_get e1 (bare e1 (fun v n z => nomatch (r2.symm.trans z)) fun z => ?_), r1, r2, r3, rest⟩
        have z' := r2.symm.trans z
        cases z'
        simp at r3
      · obtain ⟨bm, ob, b1, b2, b3, b4, b5, b6⟩ := hbm
        refine ⟨bm, ob, b1, b2, notMain b3 (fun es ep z => nomatch (b6.symm.trans z)), fun q => ?_, hidT_get b3 (bare b3 (fun v n z => nomatch (b6.symm.trans z)) fun z => nomatch (b6.symm.trans z)), b4, b5, b6⟩
        rw [q] at b3
        cases e0.symm.trans b3
        exact nomatch b6
    refine codeAny_mono ((F _ kBase (hid hns) TB).run callerA [] s₁ H ⟨[.ref a], []⟩ [.ref a] [.ref a] _ _ rfl hr start0 (hbind s₁ (.ref a)) (.cons rfl .nil) (hsp H bg hS)) fun r s' h => ?_
    match r, h with
    | .error e, h => exact (hCX H e s' h).elim
    | .ok .next, h => exact False.elim h
    | .ok .brk, h => exact False.elim h
    | .ok .cont, h => exact False.elim h
    | .ok (.ret u), h =>
      obtain ⟨v, H', os, bar, un, hok', r', q⟩ := h
      cases (show v = .bl true from q)
      cases (show u = Value.bool true from r')
      have same : ∀ b o, b ∉ cs.map (·.2) → s₁.heap.get? b = some o → s'.heap.get? b = some o := fun b o nb e => by
        cases q : H b with
        | none => exact un.keep b o e q (fun z => nomatch z) (by simp)
        | some u =>
          rcases bg.other b u q with z | ⟨ob, xs, rfl⟩
          · exact absurd z nb
          · obtain ⟨e1, _⟩ := hok b _ q
            obtain ⟨e2, _⟩ := hok' b _ (un.frzs b ob _ q)
            rw [e] at e1; cases e1
            exact e2
      have more : ∀ p ∈ cs, ∃ ps : Array Value, s'.heap.get? p.2 = some { cls := .none, data := .fields ps } := fun p hp => by
        obtain ⟨ps, z⟩ := un.tbls p.2 #[] (bg.tab _ (List.mem_map.mpr ⟨p, hp, rfl⟩))
        exact ⟨_, hok' p.2 _ z⟩
      refine ⟨rfl, ⟨fun b o e => ?_, fun b o e => ?_⟩, os, bar⟩
      · by_cases hm : b ∈ cs.map (·.2)
        · obtain ⟨p, hp, rfl⟩ := List.mem_map.mp hm
          obtain ⟨ps, hps⟩ := more p hp
          cases (hT p hp).symm.trans e
          exact .inr (.inl ⟨((hC p hp).tab (hT p hp)).isCodeTable, rfl, #[], ps, rfl, by rw [Array.empty_append]; exact hps⟩)
        · exact .inl (same b o hm e)
      · by_cases hm : b ∈ cs.map (·.2)
        · obtain ⟨p, hp, rfl⟩ := List.mem_map.mp hm
          obtain ⟨ps, hps⟩ := more p hp
          exact ⟨_, hps⟩
        · exact ⟨o, same b o hm e⟩
  cases hk : K.lookup a with
  | some o =>
    have e := inK a o hk
    rw [ha] at e
    cases e
    refine main (fun b => if b ∈ cs.map (·.2) then some (.tbl #[]) else none) ⟨fun b hm => if_pos hm, fun b u z => ?_⟩ (.inr ⟨_, vs.toArray, _, hk, rfl, rfl, rfl, by rw [List.size_toArray, nvs]; exact hl, by simpa using rvs⟩) (fun b u z => ?_) (fun b z => ?_) fun z => absurd (if_neg aNo) z
    · by_cases hm : b ∈ cs.map (·.2)
      · exact .inl hm
      · cases (if_neg hm).symm.trans z
    · by_cases hm : b ∈ cs.map (·.2)
      · cases (if_pos hm).symm.trans z
        exact tabAt hm
      · cases (if_neg hm).symm.trans z
    · by_cases hm : b ∈ cs.map (·.2)
      · exact .inr hm
      · exact absurd (if_neg hm) z
  | none =>
    have at_a : (fun b => if b ∈ cs.map (·.2) then some (HO.tbl #[]) else if b = a then some (.frz { cls := .type "list", data := .seq vs.toArray } (.lst (ns.map V.int))) else none) a = some (.frz { cls := .type "list", data := .seq vs.toArray } (.lst (ns.map V.int))) := (if_neg aNo).trans (if_pos rfl)
    refine main (fun b => if b ∈ cs.map (·.2) then some (.tbl #[]) else if b = a then some (.frz { cls := .type "list", data := .seq vs.toArray } (.lst (ns.map V.int))) else none) ⟨fun b hm => if_pos hm, fun b u z => ?_⟩ (.inl (.inr ⟨_, at_a⟩)) (fun b u z => ?_) (fun b z => ?_) fun _ => hk
    · by_cases hm : b ∈ cs.map (·.2)
      · exact .inl hm
      · have z1 := (if_neg hm).symm.trans z
        by_cases hb : b = a
        · cases (if_pos hb).symm.trans z1
          exact .inr ⟨_, _, rfl⟩
        · cases (if_neg hb).symm.trans z1
    · by_cases hm : b ∈ cs.map (·.2)
      · cases (if_pos hm).symm.trans z
        exact tabAt hm
      · have z1 := (if_neg hm).symm.trans z
        by_cases hb : b = a
        · subst hb
          cases (if_pos rfl).symm.trans z1
          exact ⟨ha, by rw [List.length_map]; exact hl, vs, _, rvs, ha⟩
        · cases (if_neg hb).symm.trans z1
    · by_cases hm : b ∈ cs.map (·.2)
      · exact .inr hm
      · by_cases hb : b = a
        · exact .inl hb
        · exact absurd ((if_neg hm).trans (if_neg hb)) z
/-- what is known of the law at the head's heap -/
def LawAtG (l : PySem.W.OpenLaw) (w : World) (K : PySem.W.Frag) (CX : CXT) (k n : Nat) (x : Str) (mg : Str → Option Value) (fa : Addr) (h : Heap) : Prop :=
  ∃ (fd : FuncData) (cs : List (Addr × Addr)) (sp : Sp), (∀ p ∈ cs, h.get? p.2 = some { cls := .none, data := .fields #[] }) ∧ (∀ p ∈ cs, K.lookup p.2 = none) ∧ (∀ p ∈ cs, PySem.W.CodeHd h p.1 p.2) ∧ (∀ (s : Shared) (u : Value), BindsTo s fd ⟨[u], []⟩ [(x, u)]) ∧
    (∀ (H : Hp) (a : Addr) (ns : List Int), ns.length ≤ n → Begun K (cs.map (·.2)) H → SqL K H a (ns.map V.int) → sp [.ref a] H (fun v _ => v = .bl true) fun _ _ _ => False) ∧
    ∀ base : Heap, K.In base → base.Ns mainGlobals mg → (∀ p ∈ cs, TabB base mg p.1 p.2) → FnG l.prog w K mg base CX k fa fd [x] sp
theorem walkGT {l : PySem.W.OpenLaw} {n k : Nat} {q : Program} {loose : List Str} {XP : (Str → Option Value) → Heap → Prop} {YP : World → Heap → Prop} {d : DefRec} {K : Params → PySem.W.Frag} {CX : World → CXT} {x : Str}
    (hn : l.most = some n) (hn2 : n ≤ sizeLine) (hdf : d.params.defaults = []) (hr : Room k callerA) (hY : ∀ (w : World) (h : Heap), YP w h → (K w.params).In h)
    (F : ∀ (w : World) (mg : Str → Option Value) (fa : Addr) (h : Heap), YP w h → (K w.params).In h → h.Ns mainGlobals mg → mg d.name = some (.ref fa) → LawAtG l w (K w.params) (CX w) k n x mg fa h)
    (hCX : ∀ (w : World) (H : Hp) (s : Shared) (e : Value) (s' : Shared), CX w [] H s (fun _ _ _ => False) e s' → False) :
    PySem.W.WalkO q loose XP YP l.row.toRowW d [] (fun f vs => PySem.call f vs) := by
  refine Att.attach_callB hn hdf fun w s₀ s₁ mg mb fa o pm cd doc a vs ns G Y ho hd hcd hmg hobj hints hlen hbits hgn => ?_
  have inK := hY w _ Y
  obtain ⟨fd, cs, sp, hT, nT, hC, hbd, hsp, hF⟩ := F w mg fa _ Y inK G.T.g hmg
  exact lawGT inK G.T.g G.T.b G.T.builtins G.T.nolimit hgn hT nT hC G.T.bmain hobj hints (Nat.le_trans hlen hn2) hr hF hbd (fun H hB hS => hsp H a ns hlen hB hS) fun H e s' => hCX w H s₁ e s'
/-! ### lambdas by their places in a text -/
def kidE : Expr → Nat → Expr
  | .Compare l _ cs _, i => (l :: cs).getD i l
  | .Call f as _ _, i => (f :: as).getD i f
  | .BoolOp _ es _, i => es.getD i (.List es ⟨0, 0, 0, 0⟩)
  | .List es p, i => es.getD i (.List es p)
  | .UnaryOp _ e _, _ => e
  | .BinOp a _ b _, i => [a, b].getD i a
  | .ListComp e _ _ _, _ => e
  | e, _ => e
def kidS : Stmt → Nat → Stmt
  | .FunctionDef _ _ b _ _ _ _ _ _ p, i => b.getD i (.Pass p)
  | .For _ _ b o p, i => (b ++ o).getD i (.Pass p)
  | .If _ b o p, i => (b ++ o).getD i (.Pass p)
  | s, _ => s
def expS : Stmt → Expr
  | .For _ e _ _ _ => e
  | .If e _ _ _ => e
  | .Return (some e) _ => e
  | .Assign _ e _ => e
  | .Expr e _ => e
  | .Return none p => .List [] p
  | _ => .List [] ⟨0, 0, 0, 0⟩
def lamA : Expr → Arguments
  | .Lambda a _ _ _ => a
  | _ => { posonlyargs := [], args := [], vararg := none, kwonlyargs := [], kw_defaults := [], kwarg := none, defaults := [] }
def lamB : Expr → Expr
  | .Lambda _ b _ _ => b
  | e => e
def lamSc : Expr → Scope
  | .Lambda _ _ s _ => s
  | _ => { kind := .function, names := [], isGenerator := false, isCoroutine := false }
inductive LfLams (K : PySem.W.Frag) : List LamD → List LT → Prop
  | nil : LfLams K [] []
  | cons {d : LamD} {T : LT} {ds : List LamD} {Ts : List LT} : (∀ E : XK, Lf K (fun c dx _ H => E c dx H) (d.t E) T) → LfLams K ds Ts → LfLams K (d :: ds) (T :: Ts)
theorem LfLams.at {K : PySem.W.Frag} : ∀ {ds : List LamD} {Ts : List LT}, LfLams K ds Ts → ∀ (k : Nat) (d : LamD) (T : LT), ds[k]? = some d → Ts[k]? = some T → ∀ E : XK, Lf K (fun c dx _ H => E c dx H) (d.t E) T
  | _, _, .nil, k, d, T, e, _ => by simp at e
  | _, _, .cons h r, 0, d, T, e1, e2 => by
    simp at e1 e2
    subst e1 e2
    exact h
  | _, _, .cons h r, k + 1, d, T, e1, e2 => r.at k d T (by simpa using e1) (by simpa using e2)
inductive LamOks (X : Cx) (k : Nat) : List LamD → Prop
  | nil : LamOks X k []
  | cons {d : LamD} {ds : List LamD} : LamOk X k d → LamOks X k ds → LamOks X k (d :: ds)
theorem LamOks.all {X : Cx} {k : Nat} : ∀ {ds : List LamD}, LamOks X k ds → ∀ d ∈ ds, LamOk X k d
  | _, .nil, d, h => by cases h
  | _, .cons h r, d, hm => by
    rcases List.mem_cons.mp hm with e | e
    · rw [e]; exact h
    · exact r.all d e
/-- which lambda of the frame is at f -/
def lamsP (q : Str) (cells : List (Str × Addr)) (ds : List LamD) : LamP := fun k f G0 => ∃ c d, ds[k]? = some d ∧ G0 f = some (oLam q cells d f c) ∧ G0 c = some (CodeO c q)
theorem tkL {X : Cx} {A : Around} {outer : List Env} {s : Shared} {H : Hp} {E : XK} {scope : Scope} {f c : Addr} : Takes (lamCx X A outer s H E scope f c) (fun cls d _ H => E cls d H) := takes_of rfl rfl rfl rfl
theorem tabs1 {K : PySem.W.Frag} {x : Str} {c P : Addr} (h : PySem.W.tabIn K x = some (c, P)) (hn : lamNames = [x]) : tabsOf K = [(P, x ++ ".<locals>." ++ "<lambda>")] := by
  unfold tabsOf
  rw [hn, List.filterMap_cons, h]
  rfl
theorem tabs2 {K : PySem.W.Frag} {x y : Str} {c P d R : Addr} (h : PySem.W.tabIn K x = some (c, P)) (h2 : PySem.W.tabIn K y = some (d, R)) (hn : lamNames = [x, y]) : tabsOf K = [(P, x ++ ".<locals>." ++ "<lambda>"), (R, y ++ ".<locals>." ++ "<lambda>")] := by
  unfold tabsOf
  rw [hn, List.filterMap_cons, h]
  show (P, x ++ ".<locals>." ++ "<lambda>") :: List.filterMap _ [y] = _
  rw [List.filterMap_cons, h2]
  rfl
/-- a + b, lists: a new list -/
@[simp] def nCat (Ta Tb : LT) : LTN := fun S Q R => Ta S (fun x S1 => Tb S1 (fun y S2 => match look S2 x, look S2 y with
  | .lst a, .lst b => a.length + b.length ≤ sizeLine ∧ Q (.lst (a ++ b)) S2
  | _, _ => False) R) R
theorem lfn_cat {K : PySem.W.Frag} {E : WX} {ta tb : TE} {Ta Tb : LT} (ha : Lf K E ta Ta) (hb : Lf K E tb Tb) : LfN K E (tOp (rAddA K) ta tb) (nCat Ta Tb) := by
  intro g σ H F S Q R Q' rs q hq hx
  refine ha g σ H F S _ R _ rs q (fun x S1 v1 H1 F1 h1 c1 e1 r1 w1 => ?_) hx
  refine hb g σ H1 F1 S1 _ R _ r1 h1 (fun y S2 v2 H2 F2 h2 c2 e2 r2 w2 => ?_) (hx.step c1 e1)
  have wx := (w1.step c2 e2).look r2
  have wy := w2.look r2
  split at h2
  · rename_i a b ex ey
    rw [ex] at wx
    rw [ey] at wy
    obtain ⟨p0, vs, rfl, hp0, ra⟩ := wx.lstI r2.fh'
    obtain ⟨q0, ws, rfl, hq0, rb⟩ := wy.lstI r2.fh'
    refine .inr (.inr ⟨p0, q0, vs, ws, rfl, rfl, hp0, hq0, by rw [ra.length, rb.length]; exact h2.1, fun p hp => ?_⟩)
    obtain ⟨rp, hG, hB⟩ := r2.pend (o := .lst (vs ++ ws)) hp
    exact hq _ S2 p _ _ F2 h2.2 (c1.trans c2) (e1.trans e2) rp hG hB ⟨rfl, _, upd_same, ra.append rb⟩
  · exact h2.elim
end L3
set_option linter.all false
set_option maxRecDepth 100000
set_option maxHeartbeats 4000000
/-! L3, part ZA: values read in a frame that stays as it is. -/
namespace L3
open PySem L2
/-- T reads d, the frame stays -/
structure Pv (T : LT) (S : SS) (d : D) : Prop where
  nc : isCel d = false
  go : ∀ (Q : D → SS → Prop) (R : XR), Q d S → T S Q R
structure Pvs (Ts : LTs) (S : SS) (ds : List D) : Prop where
  nc : frozenD ds = true
  go : ∀ (Q : List D → SS → Prop) (R : XR), Q ds S → Ts S Q R
section
variable {S : SS} {x y d : D} {Ta Tb T : LT} {Ts : LTs} {ds : List D}
theorem Pv.c (h : isCel d = false := by rfl) : Pv (lC d) S d := ⟨h, fun _ _ q => q⟩
theorem Pv.edc : Pv lEdc S .edc := ⟨rfl, fun _ _ q => q⟩
theorem Pv.var {i : Nat} (h : S[i]? = some (some (.v d))) (nc : isCel d = false := by rfl) : Pv (lVar i) S d := ⟨nc, fun _ _ q => by
  unfold lVar
  rw [h]
  exact q⟩
theorem Pv.bin {f : D2} (ha : Pv Ta S x) (hb : Pv Tb S y) (nc : isCel d = false) (hf : ∀ P : D → Prop, P d → f x y P) : Pv (lBin f Ta Tb) S d := ⟨nc, fun _ _ q => ha.go _ _ (hb.go _ _ (by
  rw [look_nc ha.nc, look_nc hb.nc]
  exact hf _ q))⟩
theorem Pv.un {f : D1} (ha : Pv Ta S x) (nc : isCel d = false) (hf : ∀ P : D → Prop, P d → f x P) : Pv (lUn f Ta) S d := ⟨nc, fun _ _ q => ha.go _ _ (by
  rw [look_nc ha.nc]
  exact hf _ q)⟩
theorem Pvs.nil : Pvs lNil S [] := ⟨rfl, fun _ _ q => q⟩
theorem Pvs.cons (ha : Pv Ta S x) (hr : Pvs Ts S ds) : Pvs (lCons Ta Ts) S (x :: ds) := ⟨by
  rw [show frozenD (x :: ds) = frozenD ds from by have h1 := ha.nc; cases x <;> first | rfl | cases h1]
  exact hr.nc, fun Q R q => ha.go _ _ (hr.go (fun xs S2 => Q (x :: xs) S2) R q)⟩
theorem Pvs.map_look (h : Pvs Ts S ds) : ds.map (look S) = ds := by
  have := h.nc
  clear h
  induction ds with
  | nil => rfl
  | cons x xs ih =>
    cases x <;> first | (show _ :: _ = _; rw [ih this]; rfl) | cases this
theorem Pv.lst (h : Pvs Ts S ds) (hl : ds.length ≤ sizeLine := by exact sz (of_decide_eq_true rfl)) : Pv (lLst Ts) S (.lst ds) := ⟨rfl, fun _ _ q => h.go _ _ ⟨h.nc, hl, q⟩⟩
theorem Pv.tup (h : Pvs Ts S ds) (hl : ds.length ≤ sizeLine := by exact sz (of_decide_eq_true rfl)) : Pv (lTup Ts) S (.tup ds) := ⟨rfl, fun _ _ q => h.go _ _ ⟨h.nc, hl, q⟩⟩
theorem Pv.cb {f : DN} (h : Pvs Ts S ds) (nc : isCel d = false) (hf : ∀ P : D → Prop, P d → f ds P) : Pv (lCB f Ts) S d := ⟨nc, fun _ _ q => h.go _ _ (by
  rw [h.map_look]
  exact hf _ q)⟩
/-- an end of a slice -/
def Pvo (T : LTO) (S : SS) (o : Option Int) : Prop := ∀ (Q : Option Int → SS → Prop) (R : XR), Q o S → T S Q R
theorem Pvo.none : Pvo lNoPart S none := fun _ _ q => q
theorem Pvo.at {i : Int} (h : Pv T S (.int i)) : Pvo (lPart T) S (some i) := fun _ _ q => h.go _ _ q
theorem Pv.slT {Tl Th : LTO} {lo hi : Option Int} {xs : List D} (h : Pv T S (.tup xs)) (hl : Pvo Tl S lo) (hh : Pvo Th S hi) : Pv (lSl T Tl Th) S (.tup (cutD xs lo hi)) := ⟨rfl, fun _ _ q => h.go _ _ (hl _ _ (hh _ _ q))⟩
theorem Pv.addT {xs ys : List D} (ha : Pv Ta S (.tup xs)) (hb : Pv Tb S (.tup ys)) (hl : (xs ++ ys).length ≤ sizeLine := by exact sz (of_decide_eq_true rfl)) : Pv (lBin addD Ta Tb) S (.tup (xs ++ ys)) := .bin ha hb rfl fun P q => by
  simp
  simp at hl
  exact ⟨hl, q⟩
theorem Pv.addI {a b : Int} (ha : Pv Ta S (.int a)) (hb : Pv Tb S (.int b)) : Pv (lBin addD Ta Tb) S (.int (a + b)) := .bin ha hb rfl fun P q => q
theorem Pv.ixT {xs : List D} {i : Int} (ha : Pv Ta S (.tup xs)) (hb : Pv Tb S (.int i)) (h : atI xs i = some d) (nc : isCel d = false := by rfl) : Pv (lBin ixD Ta Tb) S d := .bin ha hb nc fun P q => ⟨_, h, q⟩
theorem asg_pv {i : Nat} {Z : En} (h : Pv T S d) (hf : freeSl S i = true) (k : Z.nx (S.set i (some (.v d)))) : lAsg T (gNameL i) Z S := asg_i fun P hP => h.go _ _ (hP _ _ ⟨h.nc, hf, k⟩)
theorem ret_pv {Z : En} (h : Pv T S d) (k : Z.rt d S) : lRet T Z S := h.go _ _ k
end
end L3
set_option linter.all false
set_option maxRecDepth 100000
set_option maxHeartbeats 4000000
/-! L3, part ZB: the empty dict, shown and looked for. -/
namespace L3
open PySem PySem.Spec PyProof.Rows L2
open PySem.SeqAt AutoSeq1 MeetsSeq in
theorem str_eq_dict (b : Str) (u : Tok) (l : Addr) (c : Value) (es : Array DictEntry) (n : Nat) (dd : Option Addr) (sl : Array (Option Value)) :
    Meets (Builtin.«str.__eq__» ⟨[.str b u, .ref l], []⟩) (fun _ R s => s.heap.get? l = some { cls := c, dict := dd, data := .dict es n, slots := sl } ∧ R (.ok (.ret .notImplemented)) s) :=
  .of_wp fun prog w A R s h => by obtain ⟨hp, g, d, tk, os⟩ := s; obtain ⟨hl, h⟩ := h; wp_walk using wpAny_loadPart' hl, wpAny_load hl; exact ⟨_, rfl, h⟩
open PySem.SeqAt AutoSeq1 MeetsSeq in
theorem dict_eq_str (l : Addr) (es : Array DictEntry) (n : Nat) (dd : Option Addr) (sl : Array (Option Value)) (b : Str) (u : Tok) :
    Meets (Builtin.«dict.__eq__» ⟨[.ref l, .str b u], []⟩) (fun _ R s => s.heap.get? l = some { cls := .type "dict", dict := dd, data := .dict es n, slots := sl } ∧ R (.ok (.ret .notImplemented)) s) :=
  .of_wp fun prog w A R s h => by obtain ⟨hp, g, d, tk, os⟩ := s; obtain ⟨hl, h⟩ := h; have f1 := F.sub_str_dict; wp_walk using wpAny_loadPart' hl, wpAny_load hl; exact ⟨_, rfl, h⟩
section
variable {A : Around} {s : Shared}
open PySem.SeqAt in
theorem rc_str_dict {l : Addr} {o : Obj} {es : Array DictEntry} {n : Nat} (b : Str) (u : Tok) (ho : s.heap.get? l = some o) (hc : o.cls = .type "dict") (hd : o.data = .dict es n) (hu : A.units < cLine) : RcAt A s (.str b u) (.ref l) false := fun prog w E Q h => by
  obtain ⟨cls, dd, data, sl⟩ := o
  simp only at hc hd
  subst hc hd
  exact rc_eq_decline_or (k := false) (typeIs_str s b u) ⟨_, ho, rfl⟩ (by decide) F.sub_dict_str F.slot_str_eq F.slot_dict_eq_refl
    (fun _ hq => call_meets F.slot_str_eq (typeIs_str s b u) F.entry_str_eq (F.args_str_eq_2 _ _) (str_eq_dict b u l (.type "dict") es n dd sl) ⟨ho, hq⟩)
    (fun _ hq => call_meets F.slot_dict_eq_refl ⟨_, ho, rfl⟩ F.entry_dict_eq (F.args_dict_eq_2 _ _) (dict_eq_str l es n dd sl b u) ⟨ho, hq⟩)
    (fun _ hq => wpAny_of_eq (rfl : isSame (.str b u) (.ref l) = pure false) hq) (.inr hu) h
open PySem.SeqAt in
theorem eq_str_dict {l : Addr} {o : Obj} {es : Array DictEntry} {n : Nat} (b : Str) (u : Tok) (ho : s.heap.get? l = some o) (hc : o.cls = .type "dict") (hd : o.data = .dict es n) (hu : A.units < cLine) : EqAt A s (.str b u) (.ref l) false := fun prog w E Q h => by
  unfold eqBool
  refine wpAny_holding ?_
  refine wpAny_ite_split (fun hab => absurd (eq_of_beq hab) nofun) (fun _ => ?_)
  exact wpAny_bind (rc_str_dict b u ho hc hd hu prog w E _ (wpAny_truthy_bool h))
end
/-- words, as data -/
def StrsP (ys : List PyData) : Prop := ∀ z ∈ ys, ∃ t, z = .str t
theorem strs_all {h : Heap} : ∀ (xs : List PyData) (vs : List Value) (as : List Addr), StrsP xs → ReadsAll h vs xs as → ∀ y ∈ vs, ∃ t u, y = .str t u
  | [], _, _, _, r, y, hy => by cases r; cases hy
  | x :: xs, _, _, hs, r, y, hy => by
    cases r with
    | cons r1 r2 =>
      rcases List.mem_cons.mp hy with rfl | hy
      · obtain ⟨t, rfl⟩ := hs x (by simp)
        cases r1
        exact ⟨_, _, rfl⟩
      · exact strs_all xs _ _ (fun z hz => hs z (by simp [hz])) r2 y hy
def rInE (K : PySem.W.Frag) : R2 := fun x y H Q => rInA K x y H Q ∨ ∃ p ys, x = .ref p ∧ H p = some (.dK []) ∧ Dp K H y (.tuple ys) ∧ StrsP ys ∧ Q (.bl false) H
theorem inv_edc {X : Cx} {pins : List (Addr × Obj)} {s : Shared} {σ : L2.St} {H : Hp} {p : Addr} (I : Inv X pins σ H s) (e : H p = some (.dK [])) : (p == sysModules) = false ∧ ∃ o n, s.heap.get? p = some o ∧ o.cls = .type "dict" ∧ o.data = .dict #[] n := by
  obtain ⟨_, h2, vs, kv, o, es, ep, ho, hx, hd, _, hp, _⟩ := I.hok p _ e
  cases kv
  have e0 : es = #[] := by
    obtain ⟨l⟩ := es
    cases hp
    rfl
  subst e0
  exact ⟨h2, o, ep, ho, hx.1, hd⟩
theorem op_inE {X : Cx} (hu : X.A.units + 65 < cLine) : OpR X (compareOp .In) (rInE X.K) := by
  intro pins s σ H x y v u Q I rx ry h
  rcases h with h | ⟨p, ys, rfl, hp, hy, hs, q⟩
  · exact op_inA hu pins s σ H x y v u Q I rx ry h
  cases rx
  obtain ⟨_, o, n, ho, hc, hd⟩ := inv_edc I hp
  obtain ⟨bs, r2⟩ := Dp.reads I (.tuple ys) y u hy ry
  cases r2 with
  | tuple h1 h2 h3 h4 =>
    refine SeqAt.in_tupleAt (fun _ => false) ⟨_, h1, h2, _, h3⟩ (fun z hz => ?_) ?_
    · obtain ⟨t, w, rfl⟩ := strs_all _ _ _ hs h4 z (by simpa using hz)
      exact eq_str_dict t w ho hc hd (by show X.A.units + 1 < cLine; omega)
    · exact ⟨.bl _, H, I, (by rw [show Array.any _ (fun _ => false) = false from by simp]; rfl), q⟩
theorem op_inEK {X : Cx} {K : PySem.W.Frag} (hK : X.K = K) (hu : X.A.units + 65 < cLine) : OpR X (compareOp .In) (rInE K) := by subst hK; exact op_inE hu
def allStr : List D → Bool
  | [] => true
  | .str _ :: ds => allStr ds
  | _ => false
theorem allStr_pyds : ∀ {ds : List D}, allStr ds = true → StrsP (pyds ds)
  | [], _, z, hz => by rw [pyds] at hz; cases hz
  | .str t :: ds, h, z, hz => by
    rw [pyds, pyd] at hz
    rcases List.mem_cons.mp hz with rfl | hz
    · exact ⟨_, rfl⟩
    · exact allStr_pyds (ds := ds) h z hz
def inDE : D2 := fun x y P => match x with
  | .edc => (match y with
    | .tup ds => okD 60 (.tup ds) = true ∧ allStr ds = true ∧ P (.bl false)
    | _ => False)
  | x => inD x y P
theorem inDE_str {s : Str} {y : D} {P : D → Prop} : inDE (.str s) y P = inD (.str s) y P := rfl
theorem inDE_non {y : D} {P : D → Prop} : inDE .non y P = inD .non y P := rfl
theorem inDE_bl {b : Bool} {y : D} {P : D → Prop} : inDE (.bl b) y P = inD (.bl b) y P := rfl
theorem inDE_int {b : Int} {y : D} {P : D → Prop} : inDE (.int b) y P = inD (.int b) y P := rfl
theorem inDE_lst {b : List D} {y : D} {P : D → Prop} : inDE (.lst b) y P = inD (.lst b) y P := rfl
/-- shown, the empty dict too -/
def rReprE (K : PySem.W.Frag) : List V → Hp → VK → Prop := fun xs H Q => rReprD K xs H Q ∨ ∃ p, xs = [.ref p] ∧ H p = some (.dK []) ∧ Q (.str "{}") H
theorem shown_edc : (PyData.dict []).shown = Str.ofString "{}" := by decide +kernel
theorem call_reprE {X : Cx} (hg : X.A.guards = some []) (hu : X.A.units + 66 < cLine) : CallR X (.builtin "repr") (rReprE X.K) := by
  intro pins s σ H xs us Q I r h
  rcases h with h | ⟨p, rfl, hp, q⟩
  · exact call_reprD hg hu pins s σ H xs us Q I r h
  cases r with
  | cons r rt =>
    cases rt
    cases r
    obtain ⟨hs, o, n, ho, hc, hd⟩ := inv_edc I hp
    have rd : Reads s.heap (.ref p) (.dict []) (p :: [] ++ []) := .dict (kvs := []) ho hc hd .nil .nil
    exact PySem.repr_of_reads' rd (by decide +kernel) (fun _ hm => by
      simp only [List.cons_append, List.nil_append, List.mem_cons, List.not_mem_nil, or_false] at hm
      rw [hm] at hs
      simp at hs) hg (by show _ + ((PyData.dict []).depth + 1) < _; have : (PyData.dict []).depth ≤ 64 := by decide +kernel
                         omega) (fun _ _ e => e) (fun h' u tk hk => ⟨.str _, H, I.kept hk, ⟨u, by rw [shown_edc]⟩, q⟩) (by decide +kernel)
theorem call_reprEK {X : Cx} {K : PySem.W.Frag} (hK : X.K = K) (hg : X.A.guards = some []) (hu : X.A.units + 66 < cLine) : CallR X (.builtin "repr") (rReprE K) := by subst hK; exact call_reprE hg hu
def showsE (d : D) : Prop := match d with
  | .edc => True
  | d => showsD d
def shownE (d : D) : Str := match d with
  | .edc => "{}"
  | d => shownD d
def reprDE : D1 := fun x P => showsE x ∧ P (.str (shownE x))
section
variable {K : PySem.W.Frag}
theorem cl_reprE : CallL K (rReprE K) (on1 reprDE) := call1 fun g F H σ S v d P Q' r h f q => by
  obtain ⟨h1, p⟩ := f
  by_cases e : d = .edc
  · subst e
    cases h with
    | fz h => cases h with | edc ha => exact .inr ⟨_, rfl, r.fh' _ _ ha, q.val r p (.str _)⟩
  · have e1 : showsE d = showsD d := by cases d <;> first | rfl | exact absurd rfl e
    have e2 : shownE d = shownD d := by cases d <;> first | rfl | exact absurd rfl e
    rw [e1] at h1
    rw [e2] at p
    exact .inl ⟨v, pyd d, rfl, dpR r.fh' h h1.1, shaped_of h1.1, h1.2.1, h1.2.2, q.val r p (.str _)⟩
theorem opl_inE : OpL K (rInE K) inDE := by
  intro g F H σ S v1 v2 d1 d2 P Q' r h1 h2 f q
  by_cases e : d1 = .edc
  · subst e
    cases d2 with
    | tup ds =>
      obtain ⟨f1, f2, p⟩ := f
      cases h1 with
      | fz h1 => cases h1 with | edc ha => exact .inr ⟨_, _, rfl, r.fh' _ _ ha, (by have := dpR r.fh' h2 f1; rw [pyd] at this; exact this), allStr_pyds f2, q.val r p (.bl _)⟩
    | _ => exact f.elim
  · have e1 : inDE d1 d2 P = inD d1 d2 P := by cases d1 <;> first | rfl | exact absurd rfl e
    rw [e1] at f
    exact .inl (opl_in g F H σ S v1 v2 d1 d2 P Q' r h1 h2 f q)
end
end L3
set_option linter.all false
set_option maxRecDepth 100000
set_option maxHeartbeats 4000000
/-! L3, part ZC: a text's parts as an own list. -/
namespace L3
open PySem PySem.Spec PyProof.Rows L2
variable {K : PySem.W.Frag} {E : WX}
@[simp] def nSplit (To Te : LT) : LTN := fun S Q R => To S (fun x S1 => ∃ a, x = .str a ∧ Te S1 (fun y S2 => match look S2 y with
  | .str b => (b.length == 0) = false ∧ a.length + 2 ≤ sizeLine ∧ Q (.lst ((Txt.split a b).map D.str)) S2
  | _ => False) R) R
theorem lfn_split {to te : TE} {To Te : LT} (ha : Lf K E to To) (hb : Lf K E te Te) : LfN K E (tM1 rSplit to te) (nSplit To Te) := by
  intro g σ H F S Q R Q' rs h hq hx
  refine ha g σ H F S _ R _ rs h (fun x S1 v1 H1 F1 h1 c1 e1 r1 w1 => ?_) hx
  obtain ⟨a, rfl, h1⟩ := h1
  obtain rfl : v1 = .str a := (w1.look r1).strI
  refine ⟨⟨a, rfl⟩, ?_⟩
  refine hb g σ H1 F1 S1 _ R _ r1 h1 (fun y S2 v2 H2 F2 h2 c2 e2 r2 w2 => ?_) (hx.step c1 e1)
  have w := w2.look r2
  generalize look S2 y = dy at h2 w
  cases dy <;> first | exact h2.elim | skip
  rename_i b
  obtain rfl : v2 = .str b := w.strI
  obtain ⟨hb0, hz, q⟩ := h2
  refine ⟨a, b, rfl, rfl, hb0, hz, fun p hp => ?_⟩
  obtain ⟨rp, hG, hB⟩ := r2.pend (o := .lst ((Txt.split a b).map V.str)) hp
  exact hq _ S2 p _ _ F2 q (c1.trans c2) (e1.trans e2) rp hG hB ⟨rfl, _, upd_same, repL_strs _⟩
/-- not in, a text in a text too -/
def rNotInE (K : PySem.W.Frag) : R2 := fun x y H Q => rNotInA K x y H Q ∨ ∃ i j, x = .str i ∧ y = .str j ∧ Q (.bl (!(!(Builtin.Str.occurrences j i 0 j.length 1).isEmpty))) H
theorem op_notInE {X : Cx} (hu : X.A.units + 65 < cLine) : OpR X (compareOp .NotIn) (rNotInE X.K) := (op_notInA hu).or op_notin_str
theorem op_notInEK {X : Cx} {K : PySem.W.Frag} (hK : X.K = K) (hu : X.A.units + 65 < cLine) : OpR X (compareOp .NotIn) (rNotInE K) := by subst hK; exact op_notInE hu
def notInDE : D2 := fun x y P => match x, y with
  | .str i, .str j => P (.bl (!(!(Builtin.Str.occurrences j i 0 j.length 1).isEmpty)))
  | x, y => notInD x y P
theorem notInDE_ss {i j : Str} {P : D → Prop} : notInDE (.str i) (.str j) P = P (.bl (!(!(Builtin.Str.occurrences j i 0 j.length 1).isEmpty))) := rfl
theorem notInDE_sl {i : Str} {ys : List D} {P : D → Prop} : notInDE (.str i) (.lst ys) P = notInD (.str i) (.lst ys) P := rfl
theorem notInDE_il {i : Int} {ys : List D} {P : D → Prop} : notInDE (.int i) (.lst ys) P = notInD (.int i) (.lst ys) P := rfl
theorem opl_notInE : OpL K (rNotInE K) notInDE := by
  intro g F H σ S v1 v2 d1 d2 P Q' r h1 h2 f q
  by_cases e : ∃ i j, d1 = .str i ∧ d2 = .str j
  · obtain ⟨i, j, rfl, rfl⟩ := e
    obtain rfl : v1 = .str i := h1.strI
    obtain rfl : v2 = .str j := h2.strI
    exact .inr ⟨i, j, rfl, rfl, q.val r f (.bl _)⟩
  · have e1 : notInDE d1 d2 P = notInD d1 d2 P := by
      unfold notInDE
      split
      · exact absurd ⟨_, _, rfl, rfl⟩ e
      · rfl
    rw [e1] at f
    exact .inl (opl_notIn g F H σ S v1 v2 d1 d2 P Q' r h1 h2 f q)
end L3
set_option linter.all false
set_option maxRecDepth 100000
set_option maxHeartbeats 4000000
/-! tables of keepers and what their ways hold: plain laws, no program -/
namespace MK
open PySem L2 L3
variable {K : PySem.W.Frag} {c : Addr}
abbrev Qd := D → List Sl → Prop
abbrev Rd' := Value → List (Str × D) → List Sl → Prop
/-- a jar as the draws keep it -/
def jar (a b n : Int) : List D := [.int a, .int b, .int n]
structure Row where
  out : Nat
  hits : List Nat
  puts : List Nat
def natD (n : Nat) : D := .int (n : Nat)
def rowD (r : Row) : D := .tup [natD r.out, .tup (r.hits.map natD), .tup (r.puts.map natD)]
@[simp] theorem nc_row {r : Row} : isCel (rowD r) = false := rfl
@[simp] theorem lk_row {S : SS} {r : Row} : look S (rowD r) = rowD r := rfl
@[simp] theorem rt_row {S : SS} {r : Row} : retOk S (rowD r) = True := rfl
@[simp] theorem ta_row {S : SS} {r : Row} : toArg S (rowD r) = .v (rowD r) := rfl
@[simp] theorem ci_row {r : Row} {ds : List D} : celIx ((rowD r) :: ds) = celIx ds := rfl
@[simp] theorem fz_row {r : Row} {ds : List D} : frozenD ((rowD r) :: ds) = frozenD ds := rfl
@[simp] theorem nc_nat {n : Nat} : isCel (natD n) = false := rfl
@[simp] theorem lk_nat {S : SS} {n : Nat} : look S (natD n) = natD n := rfl
@[simp] theorem rt_nat {S : SS} {n : Nat} : retOk S (natD n) = True := rfl
@[simp] theorem ta_nat {S : SS} {n : Nat} : toArg S (natD n) = .v (natD n) := rfl
@[simp] theorem ci_nat {n : Nat} {ds : List D} : celIx ((natD n) :: ds) = celIx ds := rfl
@[simp] theorem fz_nat {n : Nat} {ds : List D} : frozenD ((natD n) :: ds) = frozenD ds := rfl
structure RowOk (wide many : Nat) (r : Row) : Prop where
  out : r.out < wide
  hl : r.hits.length = wide
  pl : r.puts.length = wide
  hb : ∀ x ∈ r.hits, x < many
  pb : ∀ x ∈ r.puts, x < many
structure TblOk (wide : Nat) (t : List Row) : Prop where
  w1 : 1 ≤ wide
  w4 : wide ≤ 4
  l1 : 1 ≤ t.length
  l40 : t.length ≤ 40
  rows : ∀ r ∈ t, RowOk wide t.length r
/-- a slot that holds no cell -/
def fr (x : Option Sl) : Prop := x = none ∨ ∃ d, x = some (.v d)
theorem rng_at {lo : Int} {n i : Nat} {d : D} (h : (rangeD lo n)[i]? = some d) : d = .int (lo + (i : Nat)) ∧ i < n := by
  unfold rangeD at h
  rw [List.getElem?_map] at h
  cases e : (List.range n)[i]? with
  | none => rw [e] at h; cases h
  | some j =>
    rw [e] at h
    have h1 := List.getElem?_eq_some_iff.mp e
    obtain ⟨hlt, hj⟩ := h1
    simp at hlt hj
    subst hj
    exact ⟨(Option.some.inj h).symm, hlt⟩
theorem rng_len {lo : Int} {n : Nat} : (rangeD lo n).length = n := by unfold rangeD; simp
@[simp] theorem isi_ii {i : Int} {P : D → Prop} : isiD K (.int i) (.ty "int") P = P (.bl true) := isi_of (.int i) (.ty _) (kit_ty (by decide +kernel))
@[simp] theorem isi_ib {i : Int} {P : D → Prop} : isiD K (.int i) (.ty "bool") P = P (.bl false) := isi_of (.int i) (.ty _) (kit_ty (by decide +kernel))
@[simp] theorem isi_tt {xs : List D} {P : D → Prop} : isiD K (.tup xs) (.ty "tuple") P = P (.bl true) := isi_of (.tup xs) (.ty _) (kit_ty (by decide +kernel))
@[simp] theorem eq_ii {a b : Int} {P : D → Prop} : eqD (.int a) (.int b) P = P (.bl (decide (a = b))) := by
  have e : eqd (.int a) (.int b) = decide (a = b) := by
    show PyData.eqv (pyd (.int a)) (pyd (.int b)) = _
    rw [pyd, pyd]
    simp [PyData.eqv, Bool.beq_eq_decide_eq]
  apply propext
  show eqD0 _ _ _ ↔ _
  unfold eqD0
  rw [e]
  constructor
  · exact fun h => h.2.2
  · exact fun h => ⟨by rw [okD], by rw [okD], h⟩
@[simp] theorem ne_ii {a b : Int} {P : D → Prop} : neD (.int a) (.int b) P = P (.bl (!decide (a = b))) := by
  have e : eqd (.int a) (.int b) = decide (a = b) := by
    show PyData.eqv (pyd (.int a)) (pyd (.int b)) = _
    rw [pyd, pyd]
    simp [PyData.eqv, Bool.beq_eq_decide_eq]
  apply propext
  show neD0 _ _ _ ↔ _
  unfold neD0
  rw [e]
  constructor
  · exact fun h => h.2.2
  · exact fun h => ⟨by rw [okD], by rw [okD], h⟩
theorem bls_true : ∀ n : Nat, blsOf (List.replicate n (.bl true)) = some (List.replicate n true)
  | 0 => rfl
  | n + 1 => by rw [List.replicate_succ, List.replicate_succ]; simp [blsOf, bls_true n]
@[simp] theorem all_true {n : Nat} {P : D → Prop} : allD (.lst (List.replicate n (.bl true))) P = P (.bl true) := by
  apply propext
  simp [allD, bls_true]
theorem enum_at {n : Nat} {ds : List D} {i : Nat} {d : D} (h : (enumFrom n ds)[i]? = some d) : ∃ e, ds[i]? = some e ∧ d = .tup [.int ((n + i : Nat) : Int), e] := enum_get n ds i d h
def kpD (c : Addr) (t : List Row) : D := .ins c ["lines"] [.tup (t.map rowD)]
@[simp] theorem nc_kp {t : List Row} : isCel (kpD c t) = false := rfl
@[simp] theorem lk_kp {S : SS} {t : List Row} : look S (kpD c t) = kpD c t := rfl
@[simp] theorem rt_kp {S : SS} {t : List Row} : retOk S (kpD c t) = True := rfl
@[simp] theorem ta_kp {S : SS} {t : List Row} : toArg S (kpD c t) = .v (kpD c t) := rfl
@[simp] theorem ci_kp {t : List Row} {ds : List D} : celIx ((kpD c t) :: ds) = celIx ds := rfl
@[simp] theorem fz_kp {t : List Row} {ds : List D} : frozenD ((kpD c t) :: ds) = frozenD ds := rfl
@[simp] theorem ne_e {P : D → Prop} : neD (.tup []) (.tup []) P = P (.bl false) := by
  have e : eqd (.tup []) (.tup []) = true := by
    show PyData.eqv (pyd (.tup [])) (pyd (.tup [])) = true
    rw [pyd, pyds]
    simp [PyData.eqv, PyData.eqvAll]
  apply propext
  show neD0 _ _ _ ↔ _
  unfold neD0
  rw [e]
  constructor
  · exact fun h => h.2.2
  · exact fun h => ⟨by rw [okD_tup]; rfl, by rw [okD_tup]; rfl, h⟩
theorem rg_nat (n : Nat) : rgD 0 (n : Int) = (List.range n).map natD := by
  unfold rgD rangeD natD
  simp
/-! ### what the ways hold, over whole numbers -/
def rowAt (t : List Row) (st : Nat) : Row := t.getD st ⟨0, [], []⟩
def wayOf (t : List Row) (wide : Nat) (f : List Int × Nat) : Nat := if f.1.length < wide then f.1.length else (rowAt t f.2).out
def hstep (t : List Row) (wide : Nat) (f : List Int × Nat) (p : Int) : List Int × Nat :=
  if p ∈ f.1 then (f.1, (rowAt t f.2).hits.getD (f.1.idxOf p) 0)
  else (f.1.take (wayOf t wide f) ++ [p] ++ f.1.drop (wayOf t wide f + 1), (rowAt t f.2).puts.getD (wayOf t wide f) 0)
def hrun (t : List Row) (wide : Nat) (ps : List Int) : List Int × Nat := ps.foldl (hstep t wide) ([], 0)
structure HOk (t : List Row) (wide : Nat) (f : List Int × Nat) : Prop where
  len : f.1.length ≤ wide
  st : f.2 < t.length
theorem eqd_ii {a b : Int} : eqd (.int a) (.int b) = decide (a = b) := by
  show PyData.eqv (pyd (.int a)) (pyd (.int b)) = _
  rw [pyd, pyd]
  simp [PyData.eqv, Bool.beq_eq_decide_eq]
theorem inB_ints {p : Int} : ∀ {xs : List Int}, inB (.int p) (xs.map .int) = decide (p ∈ xs)
  | [] => by simp [inB]
  | x :: xs => by
    show (eqd (.int x) (.int p) || inB (.int p) (xs.map .int)) = _
    rw [inB_ints, eqd_ii]
    simp [eq_comm]
theorem idx_ints {p : Int} : ∀ {xs : List Int}, p ∈ xs → idxD (.int p) (xs.map .int) = some (xs.idxOf p)
  | [], h => by simp at h
  | x :: xs, h => by
    rw [List.map_cons]
    unfold idxD
    rw [eqd_ii, List.idxOf_cons]
    by_cases e : x = p
    · simp [e]
    · have h' : p ∈ xs := by
        rcases List.mem_cons.mp h with z | z
        · exact absurd z.symm e
        · exact z
      have e2 : (x == p) = false := by simpa using e
      rw [idx_ints h', e2, if_neg (by simpa using e)]
      rfl
theorem okDs_int {n : Nat} : ∀ {xs : List Int}, okDs n (xs.map .int) = true
  | [] => by rw [List.map_nil, okDs]
  | x :: xs => by rw [List.map_cons, okDs, okD, okDs_int]; rfl
theorem rowAt_eq {t : List Row} {st : Nat} (h : st < t.length) : rowAt t st = t[st] := by
  unfold rowAt
  rw [List.getD_eq_getElem?_getD, List.getElem?_eq_getElem h]
  rfl
theorem way_ok {t : List Row} {wide : Nat} (ht : TblOk wide t) {f : List Int × Nat} (hf : HOk t wide f) : wayOf t wide f < wide ∧ wayOf t wide f ≤ f.1.length := by
  have hr := ht.rows _ (List.getElem_mem hf.st)
  have e := rowAt_eq hf.st
  unfold wayOf
  rw [e]
  have := hr.out
  have := hf.len
  split <;> omega
theorem hstep_ok {t : List Row} {wide : Nat} (ht : TblOk wide t) {f : List Int × Nat} (hf : HOk t wide f) (z : Int) : HOk t wide (hstep t wide f z) := by
  have hst : f.2 < t.length := hf.st
  have hr := ht.rows _ (List.getElem_mem hst)
  have e := rowAt_eq hst
  unfold hstep
  split
  · rename_i hin
    refine ⟨hf.len, ?_⟩
    show (rowAt t f.2).hits.getD (f.1.idxOf z) 0 < t.length
    rw [e]
    have hlt := List.idxOf_lt_length_of_mem hin
    have hlt2 : f.1.idxOf z < t[f.2].hits.length := by rw [hr.hl]; have := hf.len; omega
    rw [List.getD_eq_getElem?_getD, List.getElem?_eq_getElem hlt2]
    exact hr.hb _ (List.getElem_mem hlt2)
  · have hw := way_ok ht hf
    refine ⟨?_, ?_⟩
    · simp only [List.length_append, List.length_take, List.length_drop, List.length_singleton]
      have := hf.len
      omega
    · show (rowAt t f.2).puts.getD (wayOf t wide f) 0 < t.length
      rw [e]
      have hlt2 : wayOf t wide f < t[f.2].puts.length := by rw [hr.pl]; omega
      rw [List.getD_eq_getElem?_getD, List.getElem?_eq_getElem hlt2]
      exact hr.pb _ (List.getElem_mem hlt2)
theorem hfold_ok {t : List Row} {wide : Nat} (ht : TblOk wide t) : ∀ (ps : List Int) (f : List Int × Nat), HOk t wide f → HOk t wide (ps.foldl (hstep t wide) f)
  | [], f, hf => hf
  | p :: ps, f, hf => hfold_ok ht ps _ (hstep_ok ht hf p)
theorem hrun_ok {t : List Row} {wide : Nat} (ht : TblOk wide t) (ps : List Int) : HOk t wide (hrun t wide ps) := hfold_ok ht ps _ ⟨by simp, ht.l1⟩
theorem hrun_snoc {t : List Row} {wide : Nat} (ps : List Int) (p : Int) : hrun t wide (ps ++ [p]) = hstep t wide (hrun t wide ps) p := by
  unfold hrun
  rw [List.foldl_append]
  rfl
theorem hrun_take {t : List Row} {wide : Nat} {ps : List Int} {i : Nat} {z : Int} (h : ps[i]? = some z) : hrun t wide (ps.take (i + 1)) = hstep t wide (hrun t wide (ps.take i)) z := by
  rw [List.take_succ, h]
  exact hrun_snoc _ _
/-- what is handed back -/
def outL (wide : Nat) (f : List Int × Nat) : List D := f.1.map .int ++ List.replicate (wide - f.1.length) .non
def hout (wide : Nat) (f : List Int × Nat) : D := .tup (outL wide f)
@[simp] theorem nc_out {wide : Nat} {f : List Int × Nat} : isCel (hout wide f) = false := rfl
@[simp] theorem lk_out {S : SS} {wide : Nat} {f : List Int × Nat} : look S (hout wide f) = hout wide f := rfl
@[simp] theorem fz_out {wide : Nat} {f : List Int × Nat} {ds : List D} : frozenD (hout wide f :: ds) = frozenD ds := rfl
@[simp] theorem rt_out {S : SS} {wide : Nat} {f : List Int × Nat} : retOk S (hout wide f) = True := rfl
@[simp] theorem ta_out {S : SS} {wide : Nat} {f : List Int × Nat} : toArg S (hout wide f) = .v (hout wide f) := rfl
@[simp] theorem ci_out {wide : Nat} {f : List Int × Nat} {ds : List D} : celIx ((hout wide f) :: ds) = celIx ds := rfl
theorem outL_len {t : List Row} {wide : Nat} {f : List Int × Nat} (hf : HOk t wide f) : (outL wide f).length = wide := by
  have := hf.len
  unfold outL
  simp
  omega
/-! ### one more ask -/
theorem hstep_hit {t : List Row} {wide : Nat} {f : List Int × Nat} {p : Int} (h : p ∈ f.1) : (hstep t wide f p).1 = f.1 := by
  unfold hstep
  rw [if_pos h]
theorem hstep_miss {t : List Row} {wide : Nat} (ht : TblOk wide t) {f : List Int × Nat} (hf : HOk t wide f) {p : Int} (h : p ∉ f.1) : outL wide (hstep t wide f p) = (outL wide f).set (wayOf t wide f) (.int p) := by
  obtain ⟨w1, w2⟩ := way_ok ht hf
  have hl := hf.len
  unfold hstep
  rw [if_neg h]
  unfold outL
  generalize wayOf t wide f = w at w1 w2
  refine List.ext_getElem? fun i => ?_
  rw [List.getElem?_set]
  simp only [List.length_append, List.length_take, List.length_drop, List.length_singleton, List.map_append, List.map_take, List.map_drop, List.map_cons, List.map_nil, List.length_map, List.length_replicate]
  have e1 : ([] : List D).length = 0 := rfl
  by_cases hi : i < w
  · rw [if_neg (by omega)]
    rw [List.getElem?_append_left (by simp; omega), List.getElem?_append_left (by simp; omega), List.getElem?_append_left (by simp; omega), List.getElem?_take, if_pos hi, List.getElem?_append_left (by simp; omega)]
  · by_cases hi2 : i = w
    · subst hi2
      rw [if_pos rfl, if_pos (by omega)]
      rw [List.getElem?_append_left (by simp; omega), List.getElem?_append_left (by simp; omega), List.getElem?_append_right (by simp; omega)]
      simp
      have : i - min i f.1.length = 0 := by omega
      rw [this]
      rfl
    · rw [if_neg (fun z => hi2 z.symm)]
      by_cases hi3 : i < f.1.length
      · rw [List.getElem?_append_left (by simp; omega), List.getElem?_append_right (by simp; omega), List.getElem?_append_left (by simp; omega)]
        simp
        rw [show w + 1 + (i - (min w f.1.length + 1)) = i by omega]
      · have hw : w < f.1.length ∨ w = f.1.length := by omega
        rw [List.getElem?_append_right (by simp; omega), List.getElem?_append_right (by simp; omega)]
        simp only [List.length_append, List.length_take, List.length_drop, List.length_singleton, List.length_map, List.getElem?_replicate]
        by_cases h1 : i < wide
        · rw [if_pos (by omega), if_pos (by omega)]
        · rw [if_neg (by omega), if_neg (by omega)]
theorem hstep_mem {t : List Row} {wide : Nat} {f : List Int × Nat} {p : Int} : p ∈ (hstep t wide f p).1 := by
  unfold hstep
  split
  · assumption
  · simp
theorem hstep_sub {t : List Row} {wide : Nat} {f : List Int × Nat} {p x : Int} (h : x ∈ (hstep t wide f p).1) : x = p ∨ x ∈ f.1 := by
  unfold hstep at h
  split at h
  · exact .inr h
  · simp only [List.mem_append, List.mem_singleton] at h
    rcases h with (h | h) | h
    · exact .inr (List.mem_of_mem_take h)
    · exact .inl h
    · exact .inr (List.mem_of_mem_drop h)
theorem hfold_sub {t : List Row} {wide : Nat} : ∀ (ps : List Int) (f : List Int × Nat) (x : Int), x ∈ (ps.foldl (hstep t wide) f).1 → x ∈ ps ∨ x ∈ f.1
  | [], f, x, h => .inr h
  | p :: ps, f, x, h => by
    rcases hfold_sub ps _ x h with z | z
    · exact .inl (List.mem_cons_of_mem _ z)
    · rcases hstep_sub z with z | z
      · exact .inl (by rw [z]; exact List.mem_cons_self)
      · exact .inr z
theorem hrun_sub {t : List Row} {wide : Nat} {ps : List Int} {x : Int} (h : x ∈ (hrun t wide ps).1) : x ∈ ps := by
  rcases hfold_sub ps _ x h with z | z
  · exact z
  · simp at z
/-! ### other names for the pieces -/
theorem idx_map {g : Int → Int} {p : Int} : ∀ {xs : List Int}, (∀ a, a ∈ xs → g a = g p → a = p) → (xs.map g).idxOf (g p) = xs.idxOf p
  | [], _ => rfl
  | x :: xs, h => by
    rw [List.map_cons, List.idxOf_cons, List.idxOf_cons, idx_map fun a ha e => h a (List.mem_cons_of_mem _ ha) e]
    by_cases e : x = p
    · simp [e]
    · have : g x ≠ g p := fun z => e (h x List.mem_cons_self z)
      have e1 : (x == p) = false := by simpa using e
      have e2 : (g x == g p) = false := by simpa using this
      rw [e1, e2]
theorem hstep_map {t : List Row} {wide : Nat} {f : List Int × Nat} {g : Int → Int} {p : Int} (h : ∀ a, a ∈ f.1 → g a = g p → a = p) : hstep t wide (f.1.map g, f.2) (g p) = ((hstep t wide f p).1.map g, (hstep t wide f p).2) := by
  have em : g p ∈ f.1.map g ↔ p ∈ f.1 := by
    constructor
    · intro z
      obtain ⟨a, ha, e⟩ := List.mem_map.mp z
      rw [← h a ha e]; exact ha
    · exact fun z => List.mem_map.mpr ⟨p, z, rfl⟩
  have ew : wayOf t wide (f.1.map g, f.2) = wayOf t wide f := by
    show (if (f.1.map g).length < wide then (f.1.map g).length else _) = _
    rw [List.length_map]
    rfl
  unfold hstep
  rw [ew]
  by_cases hp : p ∈ f.1
  · rw [if_pos (em.mpr hp), if_pos hp]
    show (_, _) = (_, _)
    rw [idx_map h]
  · rw [if_neg (fun z => hp (em.mp z)), if_neg hp]
    simp
theorem hfold_map {t : List Row} {wide : Nat} {g : Int → Int} : ∀ (ps : List Int) (f : List Int × Nat) (_ : ∀ a b, (a ∈ ps ∨ a ∈ f.1) → (b ∈ ps ∨ b ∈ f.1) → g a = g b → a = b), (ps.map g).foldl (hstep t wide) (f.1.map g, f.2) = ((ps.foldl (hstep t wide) f).1.map g, (ps.foldl (hstep t wide) f).2)
  | [], f, _ => rfl
  | p :: ps, f, h => by
    have h1 := hstep_map (t := t) (wide := wide) (f := f) (g := g) (p := p) fun a ha e => h a p (.inr ha) (.inl List.mem_cons_self) e
    rw [List.map_cons, List.foldl_cons, h1, List.foldl_cons]
    refine hfold_map ps (hstep t wide f p) fun a b ha hb e => h a b ?_ ?_ e
    · rcases ha with z | z
      · exact .inl (List.mem_cons_of_mem _ z)
      · rcases hstep_sub z with z | z
        · exact .inl (by rw [z]; exact List.mem_cons_self)
        · exact .inr z
    · rcases hb with z | z
      · exact .inl (List.mem_cons_of_mem _ z)
      · rcases hstep_sub z with z | z
        · exact .inl (by rw [z]; exact List.mem_cons_self)
        · exact .inr z
theorem hrun_map {t : List Row} {wide : Nat} {g : Int → Int} {ps : List Int} (h : ∀ a b, a ∈ ps → b ∈ ps → g a = g b → a = b) : hrun t wide (ps.map g) = ((hrun t wide ps).1.map g, (hrun t wide ps).2) := by
  refine hfold_map ps ([], 0) fun a b ha hb e => h a b ?_ ?_ e
  · simpa using ha
  · simpa using hb
/-! ### the orders of the ways -/
def push (os : List (List Nat)) (o : List Nat) : List (List Nat) := if o ∈ os then os else os ++ [o]
def laterO (order : List Nat) (way : Nat) : List Nat := order.filter (fun e => e != way) ++ [way]
def kway (moved : Bool) (order : List Nat) (acc : List (List Nat) × List Nat × List Nat) (way : Nat) : List (List Nat) × List Nat × List Nat :=
  let o1 := if moved then laterO order way else order
  let os1 := push acc.1 o1
  let os2 := push os1 (laterO order way)
  (os2, acc.2.1 ++ [os1.idxOf o1], acc.2.2 ++ [os2.idxOf (laterO order way)])
def kway' (ways : Nat) (moved : Bool) (order : List Nat) (os : List (List Nat)) (n : Nat) := (List.range n).foldl (kway moved order) (os, [], [])
def krow (ways : Nat) (moved : Bool) (s : List (List Nat) × List Row) (at_ : Nat) : List (List Nat) × List Row :=
  let order := s.1.getD at_ []
  let r := kway' ways moved order s.1 ways
  (r.1, s.2 ++ [⟨order.getD 0 0, r.2.1, r.2.2⟩])
def kst (ways : Nat) (moved : Bool) (n : Nat) : List (List Nat) × List Row := (List.range n).foldl (krow ways moved) ([List.range ways], [])
def kN (ways : Nat) : Nat := [0, 1, 2, 6, 24].getD ways 0
def kRows (ways : Nat) (moved : Bool) : List Row := (kst ways moved (kN ways)).2
theorem kst_succ (ways : Nat) (moved : Bool) (n : Nat) : kst ways moved (n + 1) = krow ways moved (kst ways moved n) n := by
  unfold kst
  rw [List.range_succ, List.foldl_append]
  rfl
theorem kway_succ (ways : Nat) (moved : Bool) (order : List Nat) (os : List (List Nat)) (n : Nat) : kway' ways moved order os (n + 1) = kway moved order (kway' ways moved order os n) n := by
  unfold kway'
  rw [List.range_succ, List.foldl_append]
  rfl
def rowB (wide many : Nat) (r : Row) : Bool := decide (r.out < wide) && decide (r.hits.length = wide) && decide (r.puts.length = wide) && r.hits.all (fun x => decide (x < many)) && r.puts.all (fun x => decide (x < many))
def tblB (wide : Nat) (t : List Row) : Bool := decide (1 ≤ wide) && decide (wide ≤ 4) && decide (1 ≤ t.length) && decide (t.length ≤ 40) && t.all (rowB wide t.length)
theorem tbl_of {wide : Nat} {t : List Row} (h : tblB wide t = true) : TblOk wide t := by
  unfold tblB at h
  simp only [Bool.and_eq_true, decide_eq_true_eq, List.all_eq_true] at h
  obtain ⟨⟨⟨⟨h1, h2⟩, h3⟩, h4⟩, h5⟩ := h
  refine ⟨h1, h2, h3, h4, fun r hr => ?_⟩
  have := h5 r hr
  unfold rowB at this
  simp only [Bool.and_eq_true, decide_eq_true_eq, List.all_eq_true] at this
  obtain ⟨⟨⟨⟨g1, g2⟩, g3⟩, g4⟩, g5⟩ := this
  exact ⟨g1, g2, g3, g4, g5⟩
/-- what holds of the orders ahead of each turn -/
def kinvB (ways : Nat) (moved : Bool) : Bool := (List.range (kN ways)).all (fun n => decide (n < (kst ways moved n).1.length) && (kst ways moved n).1.all (fun o => decide (o.length = ways)) && decide ((kst ways moved n).1.length ≤ 24)) && decide ((kst ways moved (kN ways)).1.length = kN ways) && tblB ways (kRows ways moved)
theorem kinv_all : kinvB 1 true = true ∧ kinvB 2 true = true ∧ kinvB 3 true = true ∧ kinvB 4 true = true ∧ kinvB 1 false = true ∧ kinvB 2 false = true ∧ kinvB 3 false = true ∧ kinvB 4 false = true := by
  decide +kernel
theorem kinv {ways : Nat} {moved : Bool} (h : 1 ≤ ways ∧ ways ≤ 4) : (∀ n, n < kN ways → n < (kst ways moved n).1.length ∧ (∀ o ∈ (kst ways moved n).1, o.length = ways) ∧ (kst ways moved n).1.length ≤ 24) ∧ (kst ways moved (kN ways)).1.length = kN ways ∧ TblOk ways (kRows ways moved) := by
  have k : kinvB ways moved = true := by
    obtain ⟨h1, h2, h3, h4, h5, h6, h7, h8⟩ := kinv_all
    have : ways = 1 ∨ ways = 2 ∨ ways = 3 ∨ ways = 4 := by omega
    cases moved
    · rcases this with rfl | rfl | rfl | rfl
      · exact h5
      · exact h6
      · exact h7
      · exact h8
    · rcases this with rfl | rfl | rfl | rfl
      · exact h1
      · exact h2
      · exact h3
      · exact h4
  unfold kinvB at k
  simp only [Bool.and_eq_true, decide_eq_true_eq, List.all_eq_true] at k
  obtain ⟨⟨k1, k2⟩, k3⟩ := k
  refine ⟨fun n hn => ?_, k2, tbl_of k3⟩
  obtain ⟨⟨a, b⟩, d⟩ := k1 n (List.mem_range.mpr hn)
  exact ⟨a, b, d⟩
/-- an order as a tree -/
def ordD (o : List Nat) : D := .tup (o.map natD)
@[simp] theorem nc_ord {o : List Nat} : isCel (ordD o) = false := rfl
@[simp] theorem lk_ord {S : SS} {o : List Nat} : look S (ordD o) = ordD o := rfl
@[simp] theorem rt_ord {S : SS} {o : List Nat} : retOk S (ordD o) = True := rfl
@[simp] theorem ta_ord {S : SS} {o : List Nat} : toArg S (ordD o) = .v (ordD o) := rfl
@[simp] theorem ci_ord {o : List Nat} {ds : List D} : celIx ((ordD o) :: ds) = celIx ds := rfl
@[simp] theorem fz_ord {o : List Nat} {ds : List D} : frozenD ((ordD o) :: ds) = frozenD ds := rfl
theorem eqv_nats : ∀ {a b : List Nat}, PyData.eqvAll (pyds (a.map natD)) (pyds (b.map natD)) = decide (a = b)
  | [], [] => by simp [pyds, PyData.eqvAll]
  | [], y :: b => by rw [List.map_cons, List.map_nil, pyds, pyds]; simp [PyData.eqvAll]
  | x :: a, [] => by rw [List.map_cons, List.map_nil, pyds, pyds]; simp [PyData.eqvAll]
  | x :: a, y :: b => by
    rw [List.map_cons, List.map_cons, pyds, pyds]
    have ih := eqv_nats (a := a) (b := b)
    unfold natD at ih ⊢
    rw [pyd, pyd]
    simp only [PyData.eqvAll, ih, PyData.eqv]
    by_cases e : x = y
    · simp [e]
    · have e' : ¬ ((x : Int) = (y : Int)) := by omega
      simp [e, e']
theorem eqd_ord {a b : List Nat} : eqd (ordD a) (ordD b) = decide (a = b) := by
  show PyData.eqv (pyd (.tup (a.map natD))) (pyd (.tup (b.map natD))) = _
  rw [pyd, pyd]
  simp only [PyData.eqv]
  exact eqv_nats
theorem okDs_nat {n : Nat} : ∀ {xs : List Nat}, okDs n (xs.map natD) = true
  | [] => by rw [List.map_nil, okDs]
  | x :: xs => by rw [List.map_cons, okDs, okDs_nat]; unfold natD; rw [okD]; rfl
theorem okD_ord {n : Nat} {o : List Nat} : okD (n + 1) (ordD o) = true := by
  unfold ordD
  rw [okD_tup]
  exact okDs_nat
theorem okDs_ord {n : Nat} : ∀ {os : List (List Nat)}, okDs (n + 1) (os.map ordD) = true
  | [] => by rw [List.map_nil, okDs]
  | x :: xs => by rw [List.map_cons, okDs, okDs_ord, okD_ord]; rfl
theorem inB_ord {o : List Nat} : ∀ {os : List (List Nat)}, inB (ordD o) (os.map ordD) = decide (o ∈ os)
  | [] => by simp [inB]
  | x :: xs => by
    show (eqd (ordD x) (ordD o) || inB (ordD o) (xs.map ordD)) = _
    rw [inB_ord, eqd_ord]
    simp [eq_comm]
theorem idx_ord {o : List Nat} : ∀ {os : List (List Nat)}, o ∈ os → idxD (ordD o) (os.map ordD) = some (os.idxOf o)
  | [], h => by simp at h
  | x :: xs, h => by
    rw [List.map_cons]
    unfold idxD
    rw [eqd_ord, List.idxOf_cons]
    by_cases e : x = o
    · simp [e]
    · have h' : o ∈ xs := by
        rcases List.mem_cons.mp h with z | z
        · exact absurd z.symm e
        · exact z
      have e2 : (x == o) = false := by simpa using e
      rw [idx_ord h', e2, if_neg (by simpa using e)]
      rfl
theorem mem_push {os : List (List Nat)} {o : List Nat} : o ∈ push os o := by
  unfold push
  split
  · assumption
  · simp
end MK
namespace MK
open PySem L2 L3
variable {K : PySem.W.Frag} {c : Addr}
/-! ### whole numbers and None -/
def oD : Option Int → D
  | none => .non
  | some z => .int z
@[simp] theorem oD_none : oD none = .non := rfl
@[simp] theorem oD_some {z : Int} : oD (some z) = .int z := rfl
theorem nc_oD {o : Option Int} : isCel (oD o) = false := by cases o <;> rfl
theorem lk_oD {S : SS} {o : Option Int} : look S (oD o) = oD o := by cases o <;> rfl
theorem eqd_oD {a b : Option Int} : eqd (oD a) (oD b) = decide (a = b) := by
  show PyData.eqv (pyd (oD a)) (pyd (oD b)) = _
  cases a <;> cases b <;> simp only [oD, pyd] <;> simp [PyData.eqv, Bool.beq_eq_decide_eq]
theorem eqv_os : ∀ {a b : List (Option Int)}, PyData.eqvAll (pyds (a.map oD)) (pyds (b.map oD)) = decide (a = b)
  | [], [] => by simp [pyds, PyData.eqvAll]
  | [], y :: b => by rw [List.map_cons, List.map_nil, pyds, pyds]; simp [PyData.eqvAll]
  | x :: a, [] => by rw [List.map_cons, List.map_nil, pyds, pyds]; simp [PyData.eqvAll]
  | x :: a, y :: b => by
    rw [List.map_cons, List.map_cons, pyds, pyds]
    have ih := eqv_os (a := a) (b := b)
    have e : PyData.eqv (pyd (oD x)) (pyd (oD y)) = decide (x = y) := eqd_oD
    simp only [PyData.eqvAll, ih, e]
    by_cases z : x = y
    · simp [z]
    · simp [z]
theorem eqd_ot {a b : List (Option Int)} : eqd (.tup (a.map oD)) (.tup (b.map oD)) = decide (a = b) := by
  show PyData.eqv (pyd _) (pyd _) = _
  rw [pyd, pyd]
  simp only [PyData.eqv]
  exact eqv_os
theorem eqd_ol {a b : List (Option Int)} : eqd (.lst (a.map oD)) (.lst (b.map oD)) = decide (a = b) := by
  show PyData.eqv (pyd _) (pyd _) = _
  rw [pyd, pyd]
  simp only [PyData.eqv]
  exact eqv_os
theorem okDs_o {n : Nat} : ∀ {xs : List (Option Int)}, okDs n (xs.map oD) = true
  | [] => by rw [List.map_nil, okDs]
  | x :: xs => by
    rw [List.map_cons, okDs, okDs_o]
    cases x <;> simp only [oD] <;> rw [okD] <;> rfl
theorem ok_ot {a : List (Option Int)} : okD 60 (.tup (a.map oD)) = true := by rw [okD_tup]; exact okDs_o
theorem ok_ol {a : List (Option Int)} : okD 60 (.lst (a.map oD)) = true := by rw [okD_lst]; exact okDs_o
theorem ok_i {z : Int} : okD 60 (.int z) = true := by rw [okD]
theorem inB_o {p : Int} : ∀ {xs : List (Option Int)}, inB (.int p) (xs.map oD) = decide (some p ∈ xs)
  | [] => by simp [inB]
  | x :: xs => by
    show (eqd (oD x) (oD (some p)) || inB (.int p) (xs.map oD)) = _
    rw [inB_o, eqd_oD]
    simp [eq_comm]
def outO (wide : Nat) (f : List Int × Nat) : List (Option Int) := f.1.map some ++ List.replicate (wide - f.1.length) none
theorem outL_o {wide : Nat} {f : List Int × Nat} : outL wide f = (outO wide f).map oD := by
  unfold outL outO
  simp
theorem hout_o {wide : Nat} {f : List Int × Nat} : hout wide f = .tup ((outO wide f).map oD) := by
  unfold hout
  rw [outL_o]
theorem outO_mem {wide : Nat} {f : List Int × Nat} {p : Int} : some p ∈ outO wide f ↔ p ∈ f.1 := by
  unfold outO
  simp
theorem outO_len {t : List Row} {wide : Nat} {f : List Int × Nat} (hf : HOk t wide f) : (outO wide f).length = wide := by
  have := hf.len
  unfold outO
  simp
  omega
theorem oD_inj {a b : Option Int} (h : oD a = oD b) : a = b := by
  cases a <;> cases b <;> simp_all [oD]
theorem oDs_inj : ∀ {a b : List (Option Int)}, a.map oD = b.map oD → a = b
  | [], [], _ => rfl
  | [], y :: b, h => by simp at h
  | x :: a, [], h => by simp at h
  | x :: a, y :: b, h => by
    rw [List.map_cons, List.map_cons, List.cons.injEq] at h
    rw [oD_inj h.1, oDs_inj h.2]
theorem hstep_missO {t : List Row} {wide : Nat} (ht : TblOk wide t) {f : List Int × Nat} (hf : HOk t wide f) {p : Int} (h : p ∉ f.1) : outO wide (hstep t wide f p) = (outO wide f).set (wayOf t wide f) (some p) := by
  have := hstep_miss ht hf h
  rw [outL_o, outL_o] at this
  refine oDs_inj ?_
  rw [this, List.map_set]
  rfl
theorem outO_map {wide : Nat} {f : List Int × Nat} {g : Int → Int} : outO wide (f.1.map g, f.2) = (outO wide f).map (Option.map g) := by
  unfold outO
  simp
theorem one_change {n w : Nat} {p : Nat → Bool} (h : ∀ k, p k = true → k = w) : ((List.range n).filter p).length ≤ if w < n then 1 else 0 := by
  induction n with
  | zero => simp
  | succ n ih =>
    rw [List.range_succ, List.filter_append, List.length_append]
    by_cases e : p n = true
    · have := h n e
      subst this
      simp only [List.filter_cons, e, if_true, List.filter_nil, List.length_singleton]
      rw [if_neg (by omega)] at ih
      rw [if_pos (by omega)]
      omega
    · simp only [List.filter_cons, e, List.filter_nil]
      have : (if w < n then 1 else 0) ≤ (if w < n + 1 then 1 else 0) := by split <;> split <;> omega
      simp
      omega
end MK
set_option linter.all false
set_option maxRecDepth 100000
set_option maxHeartbeats 4000000
namespace K16
open PySem PySem.Spec L2 L3
/-! ### the text by places -/
def top (i : Nat) : Stmt := PySem.Challenge.pw_shelfwithin_k16_whole_texts_of_keepers_j.main.body.getD i (.Pass ⟨0, 0, 0, 0⟩)
abbrev s_law_sheet : Stmt := top 28
abbrev s_law_figure : Stmt := top 25
abbrev s_law_line_read : Stmt := top 32
abbrev s_law_num : Stmt := top 24
abbrev s_law_states_ok : Stmt := top 29
abbrev s_law_line_ok : Stmt := top 30
abbrev s_law_first_wrong : Stmt := top 31
abbrev s_law_read : Stmt := top 33
abbrev s_law_pick : Stmt := top 22
abbrev s_law_table : Stmt := top 27
abbrev s_law_of : Stmt := top 23
abbrev s_law_bent : Stmt := top 26
abbrev s_read_number : Stmt := top 10
abbrev s_read_states : Stmt := top 16
abbrev s_read_line : Stmt := top 17
abbrev s_ways_of : Stmt := top 14
abbrev s_is_integer : Stmt := top 8
abbrev s_is_within : Stmt := top 9
abbrev s_are_states : Stmt := top 12
abbrev s_is_line : Stmt := top 13
abbrev s_wrong_line : Stmt := top 15
abbrev s_read_keeper : Stmt := top 18
abbrev s_Keeper__init : Stmt := inClass (top 19) 0
abbrev s_Keeper_read : Stmt := inClass (top 19) 1
abbrev s_Keeper__str : Stmt := inClass (top 19) 6
abbrev s_Keeper_rows : Stmt := inClass (top 19) 2
abbrev s_law_outcome : Stmt := top 34
abbrev s_law_right : Stmt := top 35
abbrev s_law_jar : Stmt := top 21
abbrev s_law : Stmt := top 36
/-! ### the readings -/
/-- _law_sheet: 0 _law_table_here, 1 _law_lines, 2 _law_out, 3 _law_hits, 4 _law_puts, 5 _law_one_side, 6 _law_far_side, 7 _law_k -/
def t_law_sheet (K : PySem.W.Frag) (c_InvalidText c_Keeper : Addr) : LTS := lSeq (lAsgN 1 (nLst (lNil))) (lSeq (lFor (lItU (lVar 0)) (gTupL 3 (gConsL (gNameL 2) (gConsL (gNameL 3) (gConsL (gNameL 4) (gNilL))))) (lSeq (lPar [5, 6] (lSlV (lM1 joinD (lC (.str ",")) (lLc (lItU (lVar 3)) (gNameL 7) (lYes) (lCB (on1 strD) (lCons (lVar 7) (lNil))) [7])) (lSlV (lM1 joinD (lC (.str ",")) (lLc (lItU (lVar 4)) (gNameL 7) (lYes) (lCB (on1 strD) (lCons (lVar 7) (lNil))) [7])) (lSlNil)))) (lAppend 1 (lBin addD (lBin addD (lBin addD (lBin addD (lBin addD (lC (.str "out ")) (lCB (on1 strD) (lCons (lVar 2) (lNil)))) (lC (.str " hits "))) (lVar 5)) (lC (.str " puts "))) (lVar 6))))) (lRet (lM1 joinD (lC (.str "\n")) (lVar 1))))
def w_law_sheet (K : PySem.W.Frag) (c_InvalidText c_Keeper : Addr) : LFn := fnW 1 8 (t_law_sheet K c_InvalidText c_Keeper)
/-- _law_figure: 0 _law_word, 1 _law_sign -/
def t_law_figure (K : PySem.W.Frag) (c_InvalidText c_Keeper : Addr) : LTS := lSeq (lIfS (lOr (lTst (lBin eqD (lVar 0) (lC (.str "")))) (lOr (lTst (lBin gtD (lCB (on1 lenD) (lCons (lVar 0) (lNil))) (lC (.int 40)))) (lTst (lBin neD (lLc (lItU (lVar 0)) (gNameL 1) (lTst (lBin notInDE (lVar 1) (lC (.str "0123456789")))) (lVar 1) [1]) (lLst (lNil)))))) (lRet (lC .non)) (lNext)) (lRet (lIf (lAnd (lTst (lBin eqD (lBin ixD (lVar 0) (lC (.int 0))) (lC (.str "0")))) (lTst (lBin neD (lVar 0) (lC (.str "0"))))) (lC .non) (lCB (on1 intD1) (lCons (lVar 0) (lNil)))))
def w_law_figure (K : PySem.W.Frag) (c_InvalidText c_Keeper : Addr) : LFn := fnW 1 2 (t_law_figure K c_InvalidText c_Keeper)
/-- _law_line_read: 0 _law_line, 1 _law_words, 2 _law_hits, 3 _law_puts, 4 _law_word -/
def t_law_line_read (K : PySem.W.Frag) (c_InvalidText c_Keeper : Addr) : LTS := lSeq (lAsg (lM1 splitD (lVar 0) (lC (.str " "))) (gNameL 1)) (lSeq (lIfS (lOr (lTst (lBin neD (lCB (on1 lenD) (lCons (lVar 1) (lNil))) (lC (.int 6)))) (lTst (lBin neD (lLst (lCons (lBin ixD (lVar 1) (lC (.int 0))) (lCons (lBin ixD (lVar 1) (lC (.int 2))) (lCons (lBin ixD (lVar 1) (lC (.int 4))) (lNil))))) (lLst (lCons (lC (.str "out")) (lCons (lC (.str "hits")) (lCons (lC (.str "puts")) (lNil)))))))) (lRet (lC .non)) (lNext)) (lSeq (lAsg (lCB (on1 tupleD) (lCons (lLc (lItU (lM1 splitD (lBin ixD (lVar 1) (lC (.int 3))) (lC (.str ",")))) (gNameL 4) (lYes) (lCall (w_law_figure K c_InvalidText c_Keeper) [] (lCons (lVar 4) (lNil))) [4]) (lNil))) (gNameL 2)) (lSeq (lAsg (lCB (on1 tupleD) (lCons (lLc (lItU (lM1 splitD (lBin ixD (lVar 1) (lC (.int 5))) (lC (.str ",")))) (gNameL 4) (lYes) (lCall (w_law_figure K c_InvalidText c_Keeper) [] (lCons (lVar 4) (lNil))) [4]) (lNil))) (gNameL 3)) (lRet (lTup (lCons (lCall (w_law_figure K c_InvalidText c_Keeper) [] (lCons (lBin ixD (lVar 1) (lC (.int 1))) (lNil))) (lCons (lVar 2) (lCons (lVar 3) (lNil)))))))))
def w_law_line_read (K : PySem.W.Frag) (c_InvalidText c_Keeper : Addr) : LFn := fnW 1 5 (t_law_line_read K c_InvalidText c_Keeper)
/-- _law_num: 0 _law_thing, 1 _law_low, 2 _law_high -/
def t_law_num (K : PySem.W.Frag) (c_InvalidText c_Keeper : Addr) : LTS := lRet (lAndV (lCB (on2 (isiD K)) (lCons (lVar 0) (lCons (lC (.ty "int")) (lNil)))) (lAndV (lNotV (lCB (on2 (isiD K)) (lCons (lVar 0) (lCons (lC (.ty "bool")) (lNil))))) (lChain leD leD (lVar 1) (lVar 0) (lVar 2))))
def w_law_num (K : PySem.W.Frag) (c_InvalidText c_Keeper : Addr) : LFn := fnW 3 3 (t_law_num K c_InvalidText c_Keeper)
/-- _law_states_ok: 0 _law_thing, 1 _law_wide, 2 _law_many, 3 _law_state -/
def t_law_states_ok (K : PySem.W.Frag) (c_InvalidText c_Keeper : Addr) : LTS := lSeq (lIfS (lOr (lNot (lTru (lCB (on2 (isiD K)) (lCons (lVar 0) (lCons (lC (.ty "tuple")) (lNil)))))) (lTst (lBin neD (lCB (on1 lenD) (lCons (lVar 0) (lNil))) (lVar 1)))) (lRet (lC (.bl false))) (lNext)) (lRet (lBin eqD (lLc (lItU (lVar 0)) (gNameL 3) (lNot (lTru (lCall (w_law_num K c_InvalidText c_Keeper) [] (lCons (lVar 3) (lCons (lC (.int 0)) (lCons (lBin subD (lVar 2) (lC (.int 1))) (lNil))))))) (lVar 3) [3]) (lLst (lNil))))
def w_law_states_ok (K : PySem.W.Frag) (c_InvalidText c_Keeper : Addr) : LFn := fnW 3 4 (t_law_states_ok K c_InvalidText c_Keeper)
/-- _law_line_ok: 0 _law_line, 1 _law_wide, 2 _law_many -/
def t_law_line_ok (K : PySem.W.Frag) (c_InvalidText c_Keeper : Addr) : LTS := lSeq (lIfS (lOr (lNot (lTru (lCB (on2 (isiD K)) (lCons (lVar 0) (lCons (lC (.ty "tuple")) (lNil)))))) (lOr (lTst (lBin neD (lCB (on1 lenD) (lCons (lVar 0) (lNil))) (lC (.int 3)))) (lNot (lTru (lCall (w_law_num K c_InvalidText c_Keeper) [] (lCons (lBin ixD (lVar 0) (lC (.int 0))) (lCons (lC (.int 0)) (lCons (lBin subD (lVar 1) (lC (.int 1))) (lNil))))))))) (lRet (lC (.bl false))) (lNext)) (lRet (lAndV (lCall (w_law_states_ok K c_InvalidText c_Keeper) [] (lCons (lBin ixD (lVar 0) (lC (.int 1))) (lCons (lVar 1) (lCons (lVar 2) (lNil))))) (lCall (w_law_states_ok K c_InvalidText c_Keeper) [] (lCons (lBin ixD (lVar 0) (lC (.int 2))) (lCons (lVar 1) (lCons (lVar 2) (lNil)))))))
def w_law_line_ok (K : PySem.W.Frag) (c_InvalidText c_Keeper : Addr) : LFn := fnW 3 3 (t_law_line_ok K c_InvalidText c_Keeper)
/-- _law_first_wrong: 0 _law_table_here, 1 _law_top, 2 _law_k -/
def t_law_first_wrong (K : PySem.W.Frag) (c_InvalidText c_Keeper : Addr) : LTS := lSeq (lIfS (lOr (lNot (lTru (lCB (on2 (isiD K)) (lCons (lVar 0) (lCons (lC (.ty "tuple")) (lNil)))))) (lTst (lBin eqD (lVar 0) (lTup (lNil))))) (lRet (lLst (lCons (lC .non) (lNil)))) (lNext)) (lSeq (lAsg (lBin ixD (lVar 0) (lC (.int 0))) (gNameL 1)) (lSeq (lIfS (lOr (lNot (lTru (lCB (on2 (isiD K)) (lCons (lVar 1) (lCons (lC (.ty "tuple")) (lNil)))))) (lOr (lTst (lBin neD (lCB (on1 lenD) (lCons (lVar 1) (lNil))) (lC (.int 3)))) (lOr (lNot (lTru (lCB (on2 (isiD K)) (lCons (lBin ixD (lVar 1) (lC (.int 1))) (lCons (lC (.ty "tuple")) (lNil)))))) (lNot (lTst (lChain leD leD (lC (.int 1)) (lCB (on1 lenD) (lCons (lBin ixD (lVar 1) (lC (.int 1))) (lNil))) (lC (.int 4)))))))) (lRet (lLst (lCons (lC (.int 0)) (lNil)))) (lNext)) (lSeq (lFor (lRng1 (lCons (lCB (on1 lenD) (lCons (lVar 0) (lNil))) (lNil))) (gNameL 2) (lIfS (lOr (lTst (lBin gtD (lVar 2) (lC (.int 39)))) (lNot (lTru (lCall (w_law_line_ok K c_InvalidText c_Keeper) [] (lCons (lBin ixD (lVar 0) (lVar 2)) (lCons (lCB (on1 lenD) (lCons (lBin ixD (lVar 1) (lC (.int 1))) (lNil))) (lCons (lCB (on1 lenD) (lCons (lVar 0) (lNil))) (lNil)))))))) (lRet (lLst (lCons (lVar 2) (lNil)))) (lNext))) (lRet (lLst (lNil))))))
def w_law_first_wrong (K : PySem.W.Frag) (c_InvalidText c_Keeper : Addr) : LFn := fnW 1 3 (t_law_first_wrong K c_InvalidText c_Keeper)
/-- _law_read: 0 _law_sheet_here, 1 _law_table_here, 2 _law_line -/
def t_law_read (K : PySem.W.Frag) (c_InvalidText c_Keeper : Addr) : LTS := lSeq (lAsg (lCB (on1 tupleD) (lCons (lLc (lItU (lM1 splitD (lVar 0) (lC (.str "\n")))) (gNameL 2) (lYes) (lCall (w_law_line_read K c_InvalidText c_Keeper) [] (lCons (lVar 2) (lNil))) [2]) (lNil))) (gNameL 1)) (lRet (lIf (lTst (lBin eqD (lCall (w_law_first_wrong K c_InvalidText c_Keeper) [] (lCons (lVar 1) (lNil))) (lLst (lNil)))) (lVar 1) (lC .non)))
def w_law_read (K : PySem.W.Frag) (c_InvalidText c_Keeper : Addr) : LFn := fnW 1 3 (t_law_read K c_InvalidText c_Keeper)
/-- _law_pick: 0 _law_jar_here, 1 _law_many, 2 _law_factor, 3 _law_digit -/
def t_law_pick (K : PySem.W.Frag) (c_InvalidText c_Keeper : Addr) : LTS := lSeq (lIfS (lTst (lBin gtD (lBin ixD (lVar 0) (lC (.int 0))) (lC (.int 0)))) (lSeq (lAsg (lCB (on2 divmodD) (lCons (lBin ixD (lVar 0) (lC (.int 0))) (lCons (lVar 1) (lNil)))) (gTupL 2 (gConsL (gSubL 0 (lC (.int 0))) (gConsL (gNameL 3) (gNilL))))) (lRet (lVar 3))) (lNext)) (lSeq (lAsg (lBin addD (lBin ixD (lVar 0) (lC (.int 2))) (lC (.int 1))) (gSubL 0 (lC (.int 2)))) (lSeq (lAsg (lBin addD (lBin modD (lCB (on1 intD1) (lCons (lBin ixD (lVar 0) (lC (.int 1))) (lNil))) (lC (.int 30029))) (lC (.int 12007))) (gNameL 2)) (lSeq (lAsg (lBin modD (lCB (on1 intD1) (lCons (lBin addD (lBin mulD (lBin addD (lBin ixD (lVar 0) (lC (.int 1))) (lBin mulD (lC (.int 28657)) (lBin ixD (lVar 0) (lC (.int 2))))) (lVar 2)) (lC (.int 11))) (lNil))) (lC (.int 2147483353))) (gSubL 0 (lC (.int 1)))) (lRet (lBin modD (lCB (on1 intD1) (lCons (lBin divD (lBin ixD (lVar 0) (lC (.int 1))) (lC (.int 200))) (lNil))) (lVar 1))))))
def w_law_pick (K : PySem.W.Frag) (c_InvalidText c_Keeper : Addr) : LFn := fnW 2 4 (t_law_pick K c_InvalidText c_Keeper)
/-- _law_table: 0 _law_jar_here, 1 _law_most, 2 _law_found, 3 _law_k, 4 _law_wide, 5 _law_many, 6 _law_hits, 7 _law_puts, 8 _law_way -/
def t_law_table (K : PySem.W.Frag) (c_InvalidText c_Keeper : Addr) : LTS := lSeq (lAsg (lTup (lCons (lBin addD (lC (.int 1)) (lCall (w_law_pick K c_InvalidText c_Keeper) [] (lCons (lVar 0) (lCons (lC (.int 4)) (lNil))))) (lCons (lBin addD (lC (.int 1)) (lCall (w_law_pick K c_InvalidText c_Keeper) [] (lCons (lVar 0) (lCons (lVar 1) (lNil))))) (lNil)))) (gTupL 2 (gConsL (gNameL 4) (gConsL (gNameL 5) (gNilL))))) (lSeq (lAsgN 2 (nLst (lNil))) (lSeq (lFor (lRng1 (lCons (lVar 5) (lNil))) (gNameL 3) (lSeq (lAsg (lCB (on1 tupleD) (lCons (lLc (lRng1 (lCons (lVar 4) (lNil))) (gNameL 8) (lYes) (lCall (w_law_pick K c_InvalidText c_Keeper) [] (lCons (lVar 0) (lCons (lVar 5) (lNil)))) [8]) (lNil))) (gNameL 6)) (lSeq (lAsg (lCB (on1 tupleD) (lCons (lLc (lRng1 (lCons (lVar 4) (lNil))) (gNameL 8) (lYes) (lCall (w_law_pick K c_InvalidText c_Keeper) [] (lCons (lVar 0) (lCons (lVar 5) (lNil)))) [8]) (lNil))) (gNameL 7)) (lAppend 2 (lTup (lCons (lCall (w_law_pick K c_InvalidText c_Keeper) [] (lCons (lVar 0) (lCons (lVar 4) (lNil)))) (lCons (lVar 6) (lCons (lVar 7) (lNil))))))))) (lRet (lCB (on1 tupleD) (lCons (lVar 2) (lNil))))))
def w_law_table (K : PySem.W.Frag) (c_InvalidText c_Keeper : Addr) : LFn := fnW 2 9 (t_law_table K c_InvalidText c_Keeper)
/-- _law_of: 0 _law_jar_here, 1 _law_menu -/
def t_law_of (K : PySem.W.Frag) (c_InvalidText c_Keeper : Addr) : LTS := lRet (lBin ixD (lVar 1) (lCall (w_law_pick K c_InvalidText c_Keeper) [] (lCons (lVar 0) (lCons (lCB (on1 lenD) (lCons (lVar 1) (lNil))) (lNil)))))
def w_law_of (K : PySem.W.Frag) (c_InvalidText c_Keeper : Addr) : LFn := fnW 2 2 (t_law_of K c_InvalidText c_Keeper)
/-- _law_bent: 0 _law_jar_here, 1 _law_sheet_here, 2 _law_words, 3 _law_lines, 4 _law_spot, 5 _law_row, 6 _law_k, 7 _law_way, 8 _law_at -/
def t_law_bent (K : PySem.W.Frag) (c_InvalidText c_Keeper : Addr) : LTS := lSeq (lPar [7, 8] (lSlV (lCall (w_law_pick K c_InvalidText c_Keeper) [] (lCons (lVar 0) (lCons (lC (.int 8)) (lNil)))) (lSlV (lCall (w_law_pick K c_InvalidText c_Keeper) [] (lCons (lVar 0) (lCons (lBin addD (lCB (on1 lenD) (lCons (lVar 1) (lNil))) (lC (.int 1))) (lNil)))) (lSlNil)))) (lSeq (lIfS (lTst (lBin eqD (lVar 7) (lC (.int 0)))) (lRet (lBin addD (lBin addD (lSl (lVar 1) (lNoPart) (lPart (lVar 8))) (lCall (w_law_of K c_InvalidText c_Keeper) [] (lCons (lVar 0) (lCons (lLst (lCons (lC (.str " ")) (lCons (lC (.str "0")) (lCons (lC (.str "1")) (lCons (lC (.str "-")) (lCons (lC (.str "a")) (lCons (lC (.str "\n")) (lCons (lC (.str ",")) (lCons (lC (.str "9")) (lNil)))))))))) (lNil))))) (lSl (lVar 1) (lPart (lVar 8)) (lNoPart)))) (lNext)) (lSeq (lIfS (lTst (lBin eqD (lVar 7) (lC (.int 1)))) (lRet (lBin addD (lSl (lVar 1) (lNoPart) (lPart (lVar 8))) (lSl (lVar 1) (lPart (lBin addD (lVar 8) (lC (.int 1)))) (lNoPart)))) (lNext)) (lSeq (lAsgN 3 (nSplit (lVar 1) (lC (.str "\n")))) (lSeq (lAsg (lCall (w_law_pick K c_InvalidText c_Keeper) [] (lCons (lVar 0) (lCons (lCB (on1 lenD) (lCons (lVar 3) (lNil))) (lNil)))) (gNameL 4)) (lSeq (lIfS (lTst (lBin eqD (lVar 7) (lC (.int 2)))) (lRet (lM1 joinD (lC (.str "\n")) (lBin addD (lSl (lVar 3) (lNoPart) (lPart (lVar 4))) (lSl (lVar 3) (lPart (lBin addD (lVar 4) (lC (.int 1)))) (lNoPart))))) (lNext)) (lSeq (lIfS (lTst (lBin eqD (lVar 7) (lC (.int 3)))) (lRet (lM1 joinD (lC (.str "\n")) (lBin addD (lSl (lVar 3) (lNoPart) (lPart (lBin addD (lVar 4) (lC (.int 1))))) (lSl (lVar 3) (lPart (lVar 4)) (lNoPart))))) (lNext)) (lSeq (lAsgN 5 (nSplit (lBin ixD (lVar 3) (lVar 4)) (lC (.str " ")))) (lSeq (lAsg (lCall (w_law_pick K c_InvalidText c_Keeper) [] (lCons (lVar 0) (lCons (lCB (on1 lenD) (lCons (lVar 5) (lNil))) (lNil)))) (gNameL 6)) (lSeq (lIfS (lTst (lBin eqD (lVar 7) (lC (.int 4)))) (lAsgN 5 (nCat (lSl (lVar 5) (lNoPart) (lPart (lVar 6))) (lSl (lVar 5) (lPart (lBin addD (lVar 6) (lC (.int 1)))) (lNoPart)))) (lNext)) (lSeq (lIfS (lTst (lBin eqD (lVar 7) (lC (.int 5)))) (lAsgN 5 (nCat (lBin addD (lSl (lVar 5) (lNoPart) (lPart (lVar 6))) (lLst (lCons (lCall (w_law_of K c_InvalidText c_Keeper) [] (lCons (lVar 0) (lCons (lVar 2) (lNil)))) (lNil)))) (lSl (lVar 5) (lPart (lVar 6)) (lNoPart)))) (lNext)) (lSeq (lIfS (lTst (lBin eqD (lVar 7) (lC (.int 6)))) (lAsg (lCall (w_law_of K c_InvalidText c_Keeper) [] (lCons (lVar 0) (lCons (lVar 2) (lNil)))) (gSubL 5 (lVar 6))) (lNext)) (lSeq (lAsg (lM1 joinD (lC (.str " ")) (lVar 5)) (gSubL 3 (lVar 4))) (lRet (lM1 joinD (lC (.str "\n")) (lVar 3)))))))))))))))
def w_law_bent (K : PySem.W.Frag) (c_InvalidText c_Keeper : Addr) : LFn := fnW 3 9 (t_law_bent K c_InvalidText c_Keeper)
/-- read_number: 0 word, 1 number, 2 sign -/
def t_read_number (K : PySem.W.Frag) (c_InvalidText c_Keeper : Addr) : LTS := lSeq (lIfS (lOr (lTst (lBin eqD (lVar 0) (lC (.str "")))) (lOr (lTst (lBin gtD (lCB (on1 lenD) (lCons (lVar 0) (lNil))) (lC (.int 80)))) (lNot (lTru (lCB (on1 allD) (lCons (lLc (lItU (lVar 0)) (gNameL 2) (lYes) (lBin inDE (lVar 2) (lC (.str "0123456789"))) [2]) (lNil))))))) (lRet (lC .non)) (lNext)) (lSeq (lAsg (lCB (on1 intD1) (lCons (lVar 0) (lNil))) (gNameL 1)) (lRet (lIf (lTst (lBin eqD (lCB (on1 strD) (lCons (lVar 1) (lNil))) (lVar 0))) (lVar 1) (lC .non))))
def w_read_number (K : PySem.W.Frag) (c_InvalidText c_Keeper : Addr) : LFn := fnW 1 3 (t_read_number K c_InvalidText c_Keeper)
/-- read_states: 0 word, 1 part -/
def t_read_states (K : PySem.W.Frag) (c_InvalidText c_Keeper : Addr) : LTS := lRet (lCB (on1 tupleD) (lCons (lLc (lItU (lM1 splitD (lVar 0) (lC (.str ",")))) (gNameL 1) (lYes) (lCall (w_read_number K c_InvalidText c_Keeper) [] (lCons (lVar 1) (lNil))) [1]) (lNil)))
def w_read_states (K : PySem.W.Frag) (c_InvalidText c_Keeper : Addr) : LFn := fnW 1 2 (t_read_states K c_InvalidText c_Keeper)
/-- read_line: 0 line, 1 words -/
def t_read_line (K : PySem.W.Frag) (c_InvalidText c_Keeper : Addr) : LTS := lSeq (lAsg (lM1 splitD (lVar 0) (lC (.str " "))) (gNameL 1)) (lSeq (lIfS (lOr (lTst (lBin neD (lCB (on1 lenD) (lCons (lVar 1) (lNil))) (lC (.int 6)))) (lTst (lBin neD (lEv6 (lVar 1)) (lLst (lCons (lC (.str "out")) (lCons (lC (.str "hits")) (lCons (lC (.str "puts")) (lNil)))))))) (lRet (lC .non)) (lNext)) (lRet (lTup (lCons (lCall (w_read_number K c_InvalidText c_Keeper) [] (lCons (lBin ixD (lVar 1) (lC (.int 1))) (lNil))) (lCons (lCall (w_read_states K c_InvalidText c_Keeper) [] (lCons (lBin ixD (lVar 1) (lC (.int 3))) (lNil))) (lCons (lCall (w_read_states K c_InvalidText c_Keeper) [] (lCons (lBin ixD (lVar 1) (lC (.int 5))) (lNil))) (lNil)))))))
def w_read_line (K : PySem.W.Frag) (c_InvalidText c_Keeper : Addr) : LFn := fnW 1 2 (t_read_line K c_InvalidText c_Keeper)
/-- ways_of: 0 value -/
def t_ways_of (K : PySem.W.Frag) (c_InvalidText c_Keeper : Addr) : LTS := lSeq (lIfS (lOr (lNot (lTru (lCB (on2 (isiD K)) (lCons (lVar 0) (lCons (lC (.ty "tuple")) (lNil)))))) (lOr (lTst (lBin neD (lCB (on1 lenD) (lCons (lVar 0) (lNil))) (lC (.int 3)))) (lNot (lTru (lCB (on2 (isiD K)) (lCons (lBin ixD (lVar 0) (lC (.int 1))) (lCons (lC (.ty "tuple")) (lNil)))))))) (lRet (lC (.int 0))) (lNext)) (lRet (lIf (lTst (lChain leD leD (lC (.int 1)) (lCB (on1 lenD) (lCons (lBin ixD (lVar 0) (lC (.int 1))) (lNil))) (lC (.int 4)))) (lCB (on1 lenD) (lCons (lBin ixD (lVar 0) (lC (.int 1))) (lNil))) (lC (.int 0))))
def w_ways_of (K : PySem.W.Frag) (c_InvalidText c_Keeper : Addr) : LFn := fnW 1 1 (t_ways_of K c_InvalidText c_Keeper)
/-- is_integer: 0 value -/
def t_is_integer (K : PySem.W.Frag) (c_InvalidText c_Keeper : Addr) : LTS := lRet (lAndV (lCB (on2 (isiD K)) (lCons (lVar 0) (lCons (lC (.ty "int")) (lNil)))) (lNotV (lCB (on2 (isiD K)) (lCons (lVar 0) (lCons (lC (.ty "bool")) (lNil))))))
def w_is_integer (K : PySem.W.Frag) (c_InvalidText c_Keeper : Addr) : LFn := fnW 1 1 (t_is_integer K c_InvalidText c_Keeper)
/-- is_within: 0 value, 1 least, 2 most -/
def t_is_within (K : PySem.W.Frag) (c_InvalidText c_Keeper : Addr) : LTS := lRet (lAndV (lCall (w_is_integer K c_InvalidText c_Keeper) [] (lCons (lVar 0) (lNil))) (lChain leD leD (lVar 1) (lVar 0) (lVar 2)))
def w_is_within (K : PySem.W.Frag) (c_InvalidText c_Keeper : Addr) : LFn := fnW 3 3 (t_is_within K c_InvalidText c_Keeper)
/-- are_states: 0 value, 1 ways, 2 many, 3 state -/
def t_are_states (K : PySem.W.Frag) (c_InvalidText c_Keeper : Addr) : LTS := lRet (lAndV (lCB (on2 (isiD K)) (lCons (lVar 0) (lCons (lC (.ty "tuple")) (lNil)))) (lAndV (lBin eqD (lCB (on1 lenD) (lCons (lVar 0) (lNil))) (lVar 1)) (lCB (on1 allD) (lCons (lLc (lItU (lVar 0)) (gNameL 3) (lYes) (lCall (w_is_within K c_InvalidText c_Keeper) [] (lCons (lVar 3) (lCons (lC (.int 0)) (lCons (lBin subD (lVar 2) (lC (.int 1))) (lNil))))) [3]) (lNil)))))
def w_are_states (K : PySem.W.Frag) (c_InvalidText c_Keeper : Addr) : LFn := fnW 3 4 (t_are_states K c_InvalidText c_Keeper)
/-- is_line: 0 value, 1 ways, 2 many -/
def t_is_line (K : PySem.W.Frag) (c_InvalidText c_Keeper : Addr) : LTS := lSeq (lIfS (lOr (lNot (lTru (lCB (on2 (isiD K)) (lCons (lVar 0) (lCons (lC (.ty "tuple")) (lNil)))))) (lOr (lTst (lBin neD (lCB (on1 lenD) (lCons (lVar 0) (lNil))) (lC (.int 3)))) (lNot (lTru (lCall (w_is_within K c_InvalidText c_Keeper) [] (lCons (lBin ixD (lVar 0) (lC (.int 0))) (lCons (lC (.int 0)) (lCons (lBin subD (lVar 1) (lC (.int 1))) (lNil))))))))) (lRet (lC (.bl false))) (lNext)) (lRet (lAndV (lCall (w_are_states K c_InvalidText c_Keeper) [] (lCons (lBin ixD (lVar 0) (lC (.int 1))) (lCons (lVar 1) (lCons (lVar 2) (lNil))))) (lCall (w_are_states K c_InvalidText c_Keeper) [] (lCons (lBin ixD (lVar 0) (lC (.int 2))) (lCons (lVar 1) (lCons (lVar 2) (lNil)))))))
def w_is_line (K : PySem.W.Frag) (c_InvalidText c_Keeper : Addr) : LFn := fnW 3 3 (t_is_line K c_InvalidText c_Keeper)
/-- wrong_line: 0 rows, 1 ways, 2 at, 3 row -/
def t_wrong_line (K : PySem.W.Frag) (c_InvalidText c_Keeper : Addr) : LTS := lSeq (lIfS (lOr (lNot (lTru (lCB (on2 (isiD K)) (lCons (lVar 0) (lCons (lC (.ty "tuple")) (lNil)))))) (lTst (lBin eqD (lCB (on1 lenD) (lCons (lVar 0) (lNil))) (lC (.int 0))))) (lRet (lTup (lCons (lC .non) (lNil)))) (lNext)) (lSeq (lAsg (lCall (w_ways_of K c_InvalidText c_Keeper) [] (lCons (lBin ixD (lVar 0) (lC (.int 0))) (lNil))) (gNameL 1)) (lSeq (lFor (lEnumU (lCons (lVar 0) (lNil))) (gTupL 2 (gConsL (gNameL 2) (gConsL (gNameL 3) (gNilL)))) (lIfS (lOr (lTst (lBin eqD (lVar 1) (lC (.int 0)))) (lOr (lTst (lBin geD (lVar 2) (lC (.int 40)))) (lNot (lTru (lCall (w_is_line K c_InvalidText c_Keeper) [] (lCons (lVar 3) (lCons (lVar 1) (lCons (lCB (on1 lenD) (lCons (lVar 0) (lNil))) (lNil))))))))) (lRet (lTup (lCons (lVar 2) (lNil)))) (lNext))) (lRet (lTup (lNil)))))
def w_wrong_line (K : PySem.W.Frag) (c_InvalidText c_Keeper : Addr) : LFn := fnW 1 4 (t_wrong_line K c_InvalidText c_Keeper)
/-- read_keeper: 0 text, 1 rows, 2 line -/
def t_read_keeper (K : PySem.W.Frag) (c_InvalidText c_Keeper : Addr) : LTS := lSeq (lIfS (lNot (lTru (lCB (on2 (isiD K)) (lCons (lVar 0) (lCons (lC (.ty "str")) (lNil)))))) (lRet (lC .non)) (lNext)) (lSeq (lAsg (lCB (on1 tupleD) (lCons (lLc (lItU (lM1 splitD (lVar 0) (lC (.str "\n")))) (gNameL 2) (lYes) (lCall (w_read_line K c_InvalidText c_Keeper) [] (lCons (lVar 2) (lNil))) [2]) (lNil))) (gNameL 1)) (lRet (lIf (lTst (lBin eqD (lCall (w_wrong_line K c_InvalidText c_Keeper) [] (lCons (lVar 1) (lNil))) (lTup (lNil)))) (lVar 1) (lC .non))))
def w_read_keeper (K : PySem.W.Frag) (c_InvalidText c_Keeper : Addr) : LFn := fnW 1 3 (t_read_keeper K c_InvalidText c_Keeper)
/-- Keeper.__init__: 0 self, 1 rows, 2 wrong -/
def t_Keeper__init (K : PySem.W.Frag) (c_InvalidText c_Keeper : Addr) : LTS := lSeq (lAsg (lCall (w_wrong_line K c_InvalidText c_Keeper) [] (lCons (lVar 1) (lNil))) (gNameL 2)) (lSeq (lIfS (lTst (lBin neD (lVar 2) (lTup (lNil)))) (lNever) (lNext)) (lFldS K 0 "lines" (lVar 1)))
def w_Keeper__init (K : PySem.W.Frag) (c_InvalidText c_Keeper : Addr) : LFn := fnW 2 3 (t_Keeper__init K c_InvalidText c_Keeper)
/-- Keeper.read: 0 cls, 1 text, 2 found -/
def t_Keeper_read (K : PySem.W.Frag) (c_InvalidText c_Keeper : Addr) : LTS := lSeq (lAsg (lCall (w_read_keeper K c_InvalidText c_Keeper) [] (lCons (lVar 1) (lNil))) (gNameL 2)) (lSeq (lIfS (lTst (lBin (isND false) (lVar 2) (lC .non))) (lRaise c_InvalidText "given" (lVar 1)) (lNext)) (lRet (lMakeF c_Keeper (w_Keeper__init K c_InvalidText c_Keeper) [] (lVar 0) (lCons (lVar 2) (lNil)))))
def w_Keeper_read (K : PySem.W.Frag) (c_InvalidText c_Keeper : Addr) : LFn := fnW 2 3 (t_Keeper_read K c_InvalidText c_Keeper)
/-- Keeper.__str__: 0 self, 1 lines, 2 out, 3 hits, 4 puts, 5 first, 6 second, 7 part, 8 state -/
def t_Keeper__str (K : PySem.W.Frag) (c_InvalidText c_Keeper : Addr) : LTS := lSeq (lAsgN 1 (nLst (lNil))) (lSeq (lFor (lItU (lFld K "lines" (lVar 0))) (gTupL 3 (gConsL (gNameL 2) (gConsL (gNameL 3) (gConsL (gNameL 4) (gNilL))))) (lSeq (lAsg (lLc (lItU (lTup (lCons (lVar 3) (lCons (lVar 4) (lNil))))) (gNameL 7) (lYes) (lM1 joinD (lC (.str ",")) (lLc (lItU (lVar 7)) (gNameL 8) (lYes) (lCB (on1 strD) (lCons (lVar 8) (lNil))) [8])) [7]) (gLstL 2 (gConsL (gNameL 5) (gConsL (gNameL 6) (gNilL))))) (lAppend 1 (lFStr [lC (.str "out "), lFmt (lVar 2), lC (.str " hits "), lFmt (lVar 5), lC (.str " puts "), lFmt (lVar 6)])))) (lRet (lM1 joinD (lC (.str "\n")) (lVar 1))))
def w_Keeper__str (K : PySem.W.Frag) (c_InvalidText c_Keeper : Addr) : LFn := fnW 1 9 (t_Keeper__str K c_InvalidText c_Keeper)
/-- Keeper.rows: 0 self -/
def t_Keeper_rows (K : PySem.W.Frag) (c_InvalidText c_Keeper : Addr) : LTS := lRet (lFld K "lines" (lVar 0))
def w_Keeper_rows (K : PySem.W.Frag) (c_InvalidText c_Keeper : Addr) : LFn := fnW 1 1 (t_Keeper_rows K c_InvalidText c_Keeper)
/-- _law_outcome: 0 _law_sheet_here, 1 e, 2 _law_made -/
def t_law_outcome (K : PySem.W.Frag) (c_InvalidText c_Keeper : Addr) : LTS := lSeq (lTryAs K c_InvalidText 1 (lAsg (lCMet c_Keeper (w_Keeper_read K c_InvalidText c_Keeper) (lC (.fn c_Keeper)) (lCons (lVar 0) (lNil))) (gNameL 2)) (fun a cls dx => lRet (lLst (lCons (lC (.str "refused")) (lCons (lCB (on1 reprDE) (lCons (lBy_given c_InvalidText a cls dx 1) (lNil))) (lNil)))))) (lRet (lLst (lCons (lC (.str "told")) (lCons (lCB (on1 reprDE) (lCons (lProp c_Keeper (w_Keeper_rows K c_InvalidText c_Keeper) [] (lVar 2)) (lNil))) (lCons (lStrO c_Keeper (w_Keeper__str K c_InvalidText c_Keeper) (lVar 2)) (lNil))))))
def w_law_outcome (K : PySem.W.Frag) (c_InvalidText c_Keeper : Addr) : LFn := fnW 1 3 (t_law_outcome K c_InvalidText c_Keeper)
/-- _law_right: 0 _law_jar_here, 1 _law_words, 2 _law_turn, 3 _law_sheet_here, 4 _law_thing, 5 _law_again, 6 _law_due -/
def t_law_right (K : PySem.W.Frag) (c_InvalidText c_Keeper : Addr) : LTS := lSeq (lAsg (lLst (lCons (lC (.str "")) (lCons (lC (.str "0")) (lCons (lC (.str "1")) (lCons (lC (.str "2")) (lCons (lC (.str "00")) (lCons (lC (.str "0,0")) (lCons (lC (.str "0,1")) (lCons (lC (.str "1,0,0")) (lCons (lC (.str "-1")) (lCons (lC (.str "out")) (lCons (lC (.str "hits")) (lCons (lC (.str "puts")) (lCons (lC (.str "0,")) (lCons (lC (.str ",0")) (lCons (lC (.str "0, 0")) (lCons (lC (.str "a")) (lCons (lC (.str "4")) (lNil))))))))))))))))))) (gNameL 1)) (lSeq (lFor (lRng1 (lCons (lC (.int 6)) (lNil))) (gNameL 2) (lSeq (lAsg (lCall (w_law_sheet K c_InvalidText c_Keeper) [] (lCons (lCall (w_law_table K c_InvalidText c_Keeper) [] (lCons (lVar 0) (lCons (lC (.int 4)) (lNil)))) (lNil))) (gNameL 3)) (lSeq (lFor (lRng1 (lCons (lBin addD (lC (.int 1)) (lBin modD (lCB (on1 intD1) (lCons (lVar 2) (lNil))) (lC (.int 3)))) (lNil))) (gNameL 5) (lAsg (lCall (w_law_bent K c_InvalidText c_Keeper) [] (lCons (lVar 0) (lCons (lVar 3) (lCons (lVar 1) (lNil))))) (gNameL 3))) (lSeq (lAsg (lCall (w_law_read K c_InvalidText c_Keeper) [] (lCons (lVar 3) (lNil))) (gNameL 6)) (lIfS (lTst (lBin neD (lCall (w_law_outcome K c_InvalidText c_Keeper) [] (lCons (lVar 3) (lNil))) (lIf (lTst (lBin (isND false) (lVar 6) (lC .non))) (lLst (lCons (lC (.str "refused")) (lCons (lCB (on1 reprDE) (lCons (lVar 3) (lNil))) (lNil)))) (lLst (lCons (lC (.str "told")) (lCons (lCB (on1 reprDE) (lCons (lVar 6) (lNil))) (lCons (lVar 3) (lNil)))))))) (lRet (lC (.bl false))) (lNext)))))) (lSeq (lAsg (lCall (w_law_sheet K c_InvalidText c_Keeper) [] (lCons (lCall (w_law_table K c_InvalidText c_Keeper) [] (lCons (lVar 0) (lCons (lC (.int 3)) (lNil)))) (lNil))) (gNameL 3)) (lSeq (lFor (lItU (lLst (lCons (lC .non) (lCons (lC (.bl true)) (lCons (lC (.int 3)) (lCons (lC (.str "")) (lCons (lTup (lCons (lVar 3) (lNil))) (lCons (lLst (lCons (lVar 3) (lNil))) (lCons (lEdc) (lCons (lBin addD (lVar 3) (lC (.str "\n"))) (lCons (lBin addD (lC (.str "\n")) (lVar 3)) (lCons (lBin addD (lVar 3) (lC (.str " "))) (lCons (lBin powD (lC (.int 10)) (lC (.int 20))) (lNil)))))))))))))) (gNameL 4) (lIfS (lTst (lBin neD (lCall (w_law_outcome K c_InvalidText c_Keeper) [] (lCons (lVar 4) (lNil))) (lLst (lCons (lC (.str "refused")) (lCons (lCB (on1 reprDE) (lCons (lVar 4) (lNil))) (lNil)))))) (lRet (lC (.bl false))) (lNext))) (lRet (lC (.bl true))))))
def w_law_right (K : PySem.W.Frag) (c_InvalidText c_Keeper : Addr) : LFn := fnW 1 7 (t_law_right K c_InvalidText c_Keeper)
/-- _law_jar: 0 _law_cells, 1 _law_lap, 2 _law_own, 3 _law_stirred, 4 _law_cell -/
def t_law_jar (K : PySem.W.Frag) (c_InvalidText c_Keeper : Addr) : LTS := lSeq (lAsg (lIf (lTst (lBin ltD (lVar 1) (lCB (on1 lenD) (lCons (lVar 0) (lNil))))) (lCB (on1 intD1) (lCons (lBin ixD (lVar 0) (lVar 1)) (lNil))) (lBin addD (lBin mulD (lC (.int 11)) (lVar 1)) (lC (.int 5)))) (gNameL 2)) (lSeq (lAsg (lBin addD (lC (.int 41017)) (lBin mulD (lC (.int 2029)) (lVar 1))) (gNameL 3)) (lSeq (lFor (lItU (lBin addD (lSl (lVar 0) (lNoPart) (lPart (lC (.int 63)))) (lLst (lCons (lVar 2) (lNil))))) (gNameL 4) (lAsg (lBin modD (lCB (on1 intD1) (lCons (lBin addD (lBin addD (lBin mulD (lVar 3) (lC (.int 50023))) (lCB (on1 intD1) (lCons (lVar 4) (lNil)))) (lC (.int 7))) (lNil))) (lC (.int 2147483353))) (gNameL 3))) (lRetC (nLst (lCons (lIf (lOr (lTst (lBin ltD (lVar 2) (lC (.int 0)))) (lTst (lBin geD (lVar 2) (lBin powD (lC (.int 10)) (lC (.int 18)))))) (lCB (on1 absD) (lCons (lVar 2) (lNil))) (lC (.int 0))) (lCons (lVar 3) (lCons (lC (.int 0)) (lNil))))))))
def w_law_jar (K : PySem.W.Frag) (c_InvalidText c_Keeper : Addr) : LFn := fnC 2 5 (t_law_jar K c_InvalidText c_Keeper)
/-- law: 0 _law_cells, 1 _law_lap -/
def t_law (K : PySem.W.Frag) (c_InvalidText c_Keeper : Addr) : LTS := lRet (lBin eqD (lLc (lRng1 (lCons (lCB (on2 maxD) (lCons (lC (.int 2)) (lCons (lCB (on2 minD) (lCons (lCB (on1 lenD) (lCons (lVar 0) (lNil))) (lCons (lC (.int 8)) (lNil)))) (lNil)))) (lNil))) (gNameL 1) (lNot (lTru (lCallX (w_law_right K c_InvalidText c_Keeper) [] (nCall (w_law_jar K c_InvalidText c_Keeper) [] (lCons (lVar 0) (lCons (lVar 1) (lNil)))) (lNil)))) (lVar 1) [1]) (lLst (lNil)))
def w_law (K : PySem.W.Frag) (c_InvalidText c_Keeper : Addr) : LFn := fnW 1 2 (t_law K c_InvalidText c_Keeper)
/-! ### what the top has written -/
structure TX (K : PySem.W.Frag) (mg : Str → Option Value) (c_InvalidText c_Keeper : Addr) : Prop where
  n_str : mg "str" = none
  n_len : mg "len" = none
  n_int : mg "int" = none
  n_tuple : mg "tuple" = none
  n_isinstance : mg "isinstance" = none
  n_bool : mg "bool" = none
  n_range : mg "range" = none
  n_divmod : mg "divmod" = none
  s_DIGITS : ∃ t, mg "DIGITS" = some (.str "0123456789" t)
  n_all : mg "all" = none
  i_MOST_WAYS : ∃ t, mg "MOST_WAYS" = some (.int 4 t)
  n_enumerate : mg "enumerate" = none
  i_MOST_STATES : ∃ t, mg "MOST_STATES" = some (.int 40 t)
  gc_InvalidText : mg "InvalidText" = some (.ref c_InvalidText)
  low_InvalidText : ∃ fI, PySem.Low_given.LowTxt K mg "InvalidText" "InvalidText.__init__" c_InvalidText fI
  gc_Keeper : mg "Keeper" = some (.ref c_Keeper)
  n_repr : mg "repr" = none
  n_abs : mg "abs" = none
  n_min : mg "min" = none
  n_max : mg "max" = none
section
variable {P : Program} {w : World} {K : PySem.W.Frag} {mg : Str → Option Value} {base : Heap} {c_InvalidText c_Keeper : Addr}
theorem sc_law_sheet : FnScope ["_law_table_here", "_law_lines", "_law_out", "_law_hits", "_law_puts", "_law_one_side", "_law_far_side", "_law_k"] ["_law_table_here"] (defScope s_law_sheet) := ⟨rfl, rfl, rfl, by decide +kernel, rfl, by decide +kernel, by decide +kernel⟩
theorem ok_law_sheet {f : Addr} {fd : FuncData} (F : Fun K "_law_sheet" "_law_sheet" s_law_sheet f fd) (T : TX K mg c_InvalidText c_Keeper) : FnG P w K mg base (L2.CX P w) 1 f fd ["_law_table_here"] (spL K 1 (w_law_sheet K c_InvalidText c_Keeper)) := by
  refine defL F sc_law_sheet rfl (by decide) fun cdv A outer s H E hg hr => ?_
  refine ⟨_, (pss_cons (ps_set (i := 1) sc_law_sheet.nd rfl (by first | exact Or.inl rfl | exact Or.inr rfl) (pe_lst pa_nil)) (pss_cons (ps_for ownD rfl (pi_seqK (K := K) rfl (pv 0)) (pg_tupK (K := K) (n := 3) rfl rfl (pgs_cons (pg_name (i := 2) sc_law_sheet.nd rfl (by first | exact Or.inl rfl | exact Or.inr rfl)) (pgs_cons (pg_name (i := 3) sc_law_sheet.nd rfl (by first | exact Or.inl rfl | exact Or.inr rfl)) (pgs_cons (pg_name (i := 4) sc_law_sheet.nd rfl (by first | exact Or.inl rfl | exact Or.inr rfl)) pgs_nil)))) (pss_cons (ps_par (i := 5) (j := 6) rfl sc_law_sheet.nd rfl rfl (by decide) rfl rfl (pa_cons (pe_joinK (K := K) rfl pe_str (pe_lc (own := [("_law_k", 7)]) rfl sc_law_sheet.nd (pi_seqK (K := K) rfl (pv 3)) (show BlkOk ["_law_table_here", "_law_lines", "_law_out", "_law_hits", "_law_puts", "_law_one_side", "_law_far_side", "_law_k"] (defScope s_law_sheet) _ [("_law_k", 7)] from ⟨rfl, by decide +kernel, by decide +kernel, by decide +kernel, by decide +kernel⟩) (fun _ _ _ _ _ => (pg_name (i := 7) sc_law_sheet.nd rfl (by first | exact Or.inl rfl | exact Or.inr rfl))) (fun _ _ _ _ _ => pts_nil) (fun _ _ _ _ _ => (pe_callTy call_str_int rfl T.n_str PyProof.Rows.boot_str (pa_cons (pv 7) pa_nil))))) (pa_cons (pe_joinK (K := K) rfl pe_str (pe_lc (own := [("_law_k", 7)]) rfl sc_law_sheet.nd (pi_seqK (K := K) rfl (pv 4)) (show BlkOk ["_law_table_here", "_law_lines", "_law_out", "_law_hits", "_law_puts", "_law_one_side", "_law_far_side", "_law_k"] (defScope s_law_sheet) _ [("_law_k", 7)] from ⟨rfl, by decide +kernel, by decide +kernel, by decide +kernel, by decide +kernel⟩) (fun _ _ _ _ _ => (pg_name (i := 7) sc_law_sheet.nd rfl (by first | exact Or.inl rfl | exact Or.inr rfl))) (fun _ _ _ _ _ => pts_nil) (fun _ _ _ _ _ => (pe_callTy call_str_int rfl T.n_str PyProof.Rows.boot_str (pa_cons (pv 7) pa_nil))))) pa_nil)) rfl) (pss_one (ps_expr (pe_bm PySem.F.plainAttrs_list PySem.F.slot_list_append PySem.F.type_list_append mt_append (pv 1) (pa_cons (pe_op (op_addK (K := K) rfl) (pe_op (op_addK (K := K) rfl) (pe_op (op_addK (K := K) rfl) (pe_op (op_addK (K := K) rfl) (pe_op (op_addK (K := K) rfl) pe_str (pe_callTy call_str_int rfl T.n_str PyProof.Rows.boot_str (pa_cons (pv 2) pa_nil))) pe_str) (pv 5)) pe_str) (pv 6)) pa_nil)))))) (pss_one (ps_ret (pe_joinK (K := K) rfl pe_str (pv 1)))))), ?_⟩
  exact (lfs_seq (lfs_asgN (lfn_lst lfa_nil)) (lfs_seq (lfs_for (lfi_seqU lf_var) (lfg_tup (lfgs_cons lfg_name (lfgs_cons lfg_name (lfgs_cons lfg_name lfgs_nil)))) (lfs_seq (lfs_par (lfsl_v (lf_join (lf_c fun _ => .str ",") (lf_lc (lfi_seqU lf_var) lfg_name (own_name (by decide)) (lown_name (by decide)) lft_yes (lf_cb cl_str (lfa_cons lf_var lfa_nil)))) (lfsl_v (lf_join (lf_c fun _ => .str ",") (lf_lc (lfi_seqU lf_var) lfg_name (own_name (by decide)) (lown_name (by decide)) lft_yes (lf_cb cl_str (lfa_cons lf_var lfa_nil)))) lfsl_nil)) (by decide)) (lfs_append (lf_bin opl_add (lf_bin opl_add (lf_bin opl_add (lf_bin opl_add (lf_bin opl_add (lf_c fun _ => .str "out ") (lf_cb cl_str (lfa_cons lf_var lfa_nil))) (lf_c fun _ => .str " hits ")) lf_var) (lf_c fun _ => .str " puts ")) lf_var)))) (lfs_ret (lf_join (lf_c fun _ => .str "\n") lf_var))))
theorem sc_law_figure : FnScope ["_law_word", "_law_sign"] ["_law_word"] (defScope s_law_figure) := ⟨rfl, rfl, rfl, by decide +kernel, rfl, by decide +kernel, by decide +kernel⟩
theorem ok_law_figure {f : Addr} {fd : FuncData} (F : Fun K "_law_figure" "_law_figure" s_law_figure f fd) (T : TX K mg c_InvalidText c_Keeper) : FnG P w K mg base (L2.CX P w) 1 f fd ["_law_word"] (spL K 1 (w_law_figure K c_InvalidText c_Keeper)) := by
  refine defL F sc_law_figure rfl (by decide) fun cdv A outer s H E hg hr => ?_
  refine ⟨_, (pss_cons (ps_if (PW.pt (pw_or (pt_cmpR (op_eqK (K := K) rfl (un64 hr)) (pv 0) pe_str (nomark _)) (pw_or (pt_cmpR op_gt (pe_callB (call_lenK (K := K) rfl) rfl T.n_len PySem.boot_len (pa_cons (pv 0) pa_nil)) pe_int (nomark _)) (pw_or1 (pt_cmpR (op_neK (K := K) rfl (un64 hr)) (pe_lc (own := [("_law_sign", 1)]) rfl sc_law_figure.nd (pi_seqK (K := K) rfl (pv 0)) (show BlkOk ["_law_word", "_law_sign"] (defScope s_law_figure) _ [("_law_sign", 1)] from ⟨rfl, by decide +kernel, by decide +kernel, by decide +kernel, by decide +kernel⟩) (fun _ _ _ _ _ => (pg_name (i := 1) sc_law_figure.nd rfl (by first | exact Or.inl rfl | exact Or.inr rfl))) (fun _ _ _ _ _ => (pts_one (pt_cmpR (op_notInEK (K := K) rfl (un65 hr)) (pv 1) pe_str (by with_unfolding_all rfl)))) (fun _ _ _ _ _ => (pv 1))) (pe_lst pa_nil) (nomark _)))))) (pss_one (ps_ret pe_non)) pss_nil) (pss_one (ps_ret (pe_ifExp (PW.pt (pw_and (pt_cmpR (op_eqK (K := K) rfl (un64 hr)) (pe_ix (ix_seqK (K := K) rfl) (pv 0) pe_int (fun _ _ => rfl)) pe_str (nomark _)) (pw_and1 (pt_cmpR (op_neK (K := K) rfl (un64 hr)) (pv 0) pe_str (nomark _))))) pe_non (pe_callTy call_intA rfl T.n_int PyProof.Rows.boot_int (pa_cons (pv 0) pa_nil)))))), ?_⟩
  exact (lfs_seq (lfs_if (lft_or (lft_tst (lf_bin opl_eq lf_var (lf_c fun _ => .str ""))) (lft_or (lft_tst (lf_bin opl_bool0 (lf_cb cl_len (lfa_cons lf_var lfa_nil)) (lf_c fun _ => .int 40))) (lft_tst (lf_bin opl_ne (lf_lc (lfi_seqU lf_var) lfg_name (own_name (by decide)) (lown_name (by decide)) (lft_tst (lf_bin opl_notInE lf_var (lf_c fun _ => .str "0123456789"))) lf_var) (lf_lst lfa_nil))))) (lfs_ret (lf_c fun _ => .non)) lfs_next) (lfs_ret (lf_if (lft_and (lft_tst (lf_bin opl_eq (lf_bin opl_ix lf_var (lf_c fun _ => .int 0)) (lf_c fun _ => .str "0"))) (lft_tst (lf_bin opl_ne lf_var (lf_c fun _ => .str "0")))) (lf_c fun _ => .non) (lf_cb cl_int (lfa_cons lf_var lfa_nil)))))
theorem sc_law_line_read : FnScope ["_law_line", "_law_words", "_law_hits", "_law_puts", "_law_word"] ["_law_line"] (defScope s_law_line_read) := ⟨rfl, rfl, rfl, by decide +kernel, rfl, by decide +kernel, by decide +kernel⟩
theorem ok_law_line_read {f : Addr} {fd : FuncData} (F : Fun K "_law_line_read" "_law_line_read" s_law_line_read f fd) (T : TX K mg c_InvalidText c_Keeper) (D_law_figure : DefAt P w K mg base 1 "_law_figure" ["_law_word"] (spL K 1 (w_law_figure K c_InvalidText c_Keeper))) : FnG P w K mg base (L2.CX P w) 2 f fd ["_law_line"] (spL K 1 (w_law_line_read K c_InvalidText c_Keeper)) := by
  refine defL F sc_law_line_read rfl (by decide) fun cdv A outer s H E hg hr => ?_
  refine ⟨_, (pss_cons (ps_set (i := 1) sc_law_line_read.nd rfl (by first | exact Or.inl rfl | exact Or.inr rfl) (pe_splitK (pv 0) pe_str)) (pss_cons (ps_if (PW.pt (pw_or (pt_cmpR (op_neK (K := K) rfl (un64 hr)) (pe_callB (call_lenK (K := K) rfl) rfl T.n_len PySem.boot_len (pa_cons (pv 1) pa_nil)) pe_int (nomark _)) (pw_or1 (pt_cmpR (op_neK (K := K) rfl (un64 hr)) (pe_lst (pa_cons (pe_ix (ix_seqK (K := K) rfl) (pv 1) pe_int (fun _ _ => rfl)) (pa_cons (pe_ix (ix_seqK (K := K) rfl) (pv 1) pe_int (fun _ _ => rfl)) (pa_cons (pe_ix (ix_seqK (K := K) rfl) (pv 1) pe_int (fun _ _ => rfl)) pa_nil)))) (pe_lst (pa_cons pe_str (pa_cons pe_str (pa_cons pe_str pa_nil)))) (nomark _))))) (pss_one (ps_ret pe_non)) pss_nil) (pss_cons (ps_set (i := 2) sc_law_line_read.nd rfl (by first | exact Or.inl rfl | exact Or.inr rfl) (pe_callTy (call_tupleK (K := K) rfl) rfl T.n_tuple PyProof.Rows.boot_tuple (pa_cons (pe_lc (own := [("_law_word", 4)]) rfl sc_law_line_read.nd (pi_seqK (K := K) rfl (pe_splitK (pe_ix (ix_seqK (K := K) rfl) (pv 1) pe_int (fun _ _ => rfl)) pe_str)) (show BlkOk ["_law_line", "_law_words", "_law_hits", "_law_puts", "_law_word"] (defScope s_law_line_read) _ [("_law_word", 4)] from ⟨rfl, by decide +kernel, by decide +kernel, by decide +kernel, by decide +kernel⟩) (fun _ _ _ _ _ => (pg_name (i := 4) sc_law_line_read.nd rfl (by first | exact Or.inl rfl | exact Or.inr rfl))) (fun _ _ _ _ _ => pts_nil) (fun _ _ _ _ _ => (pe_d D_law_figure hg hr tkB (pa_cons (pv 4) pa_nil)))) pa_nil))) (pss_cons (ps_set (i := 3) sc_law_line_read.nd rfl (by first | exact Or.inl rfl | exact Or.inr rfl) (pe_callTy (call_tupleK (K := K) rfl) rfl T.n_tuple PyProof.Rows.boot_tuple (pa_cons (pe_lc (own := [("_law_word", 4)]) rfl sc_law_line_read.nd (pi_seqK (K := K) rfl (pe_splitK (pe_ix (ix_seqK (K := K) rfl) (pv 1) pe_int (fun _ _ => rfl)) pe_str)) (show BlkOk ["_law_line", "_law_words", "_law_hits", "_law_puts", "_law_word"] (defScope s_law_line_read) _ [("_law_word", 4)] from ⟨rfl, by decide +kernel, by decide +kernel, by decide +kernel, by decide +kernel⟩) (fun _ _ _ _ _ => (pg_name (i := 4) sc_law_line_read.nd rfl (by first | exact Or.inl rfl | exact Or.inr rfl))) (fun _ _ _ _ _ => pts_nil) (fun _ _ _ _ _ => (pe_d D_law_figure hg hr tkB (pa_cons (pv 4) pa_nil)))) pa_nil))) (pss_one (ps_ret (pe_tup (pa_cons (pe_d D_law_figure hg hr tkD (pa_cons (pe_ix (ix_seqK (K := K) rfl) (pv 1) pe_int (fun _ _ => rfl)) pa_nil)) (pa_cons (pv 2) (pa_cons (pv 3) pa_nil)))))))))), ?_⟩
  exact (lfs_seq (lfs_asg (lf_split lf_var (lf_c fun _ => .str " ")) lfg_name) (lfs_seq (lfs_if (lft_or (lft_tst (lf_bin opl_ne (lf_cb cl_len (lfa_cons lf_var lfa_nil)) (lf_c fun _ => .int 6))) (lft_tst (lf_bin opl_ne (lf_lst (lfa_cons (lf_bin opl_ix lf_var (lf_c fun _ => .int 0)) (lfa_cons (lf_bin opl_ix lf_var (lf_c fun _ => .int 2)) (lfa_cons (lf_bin opl_ix lf_var (lf_c fun _ => .int 4)) lfa_nil)))) (lf_lst (lfa_cons (lf_c fun _ => .str "out") (lfa_cons (lf_c fun _ => .str "hits") (lfa_cons (lf_c fun _ => .str "puts") lfa_nil))))))) (lfs_ret (lf_c fun _ => .non)) lfs_next) (lfs_seq (lfs_asg (lf_cb cl_tuple (lfa_cons (lf_lc (lfi_seqU (lf_split (lf_bin opl_ix lf_var (lf_c fun _ => .int 3)) (lf_c fun _ => .str ","))) lfg_name (own_name (by decide)) (lown_name (by decide)) lft_yes (lf_call (fun _ => .nil) (lfa_cons lf_var lfa_nil) fnW_len)) lfa_nil)) lfg_name) (lfs_seq (lfs_asg (lf_cb cl_tuple (lfa_cons (lf_lc (lfi_seqU (lf_split (lf_bin opl_ix lf_var (lf_c fun _ => .int 5)) (lf_c fun _ => .str ","))) lfg_name (own_name (by decide)) (lown_name (by decide)) lft_yes (lf_call (fun _ => .nil) (lfa_cons lf_var lfa_nil) fnW_len)) lfa_nil)) lfg_name) (lfs_ret (lf_tup (lfa_cons (lf_call (fun _ => .nil) (lfa_cons (lf_bin opl_ix lf_var (lf_c fun _ => .int 1)) lfa_nil) fnW_len) (lfa_cons lf_var (lfa_cons lf_var lfa_nil)))))))))
theorem sc_law_num : FnScope ["_law_thing", "_law_low", "_law_high"] ["_law_thing", "_law_low", "_law_high"] (defScope s_law_num) := ⟨rfl, rfl, rfl, by decide +kernel, rfl, by decide +kernel, by decide +kernel⟩
theorem ok_law_num {f : Addr} {fd : FuncData} (F : Fun K "_law_num" "_law_num" s_law_num f fd) (T : TX K mg c_InvalidText c_Keeper) : FnG P w K mg base (L2.CX P w) 1 f fd ["_law_thing", "_law_low", "_law_high"] (spL K 3 (w_law_num K c_InvalidText c_Keeper)) := by
  refine defL F sc_law_num rfl (by decide) fun cdv A outer s H E hg hr => ?_
  refine ⟨_, (pss_one (ps_ret (pe_andK (K := K) rfl (pe_callB (call_isiKK (K := K) rfl) rfl T.n_isinstance PyProof.Rows.boot_isinstance (pa_cons (pv 0) (pa_cons (pe_bltn (v := .ty "int") rfl T.n_int PyProof.Rows.boot_int rfl) pa_nil))) (pe_andK (K := K) rfl (pe_notK (K := K) rfl (pe_callB (call_isiKK (K := K) rfl) rfl T.n_isinstance PyProof.Rows.boot_isinstance (pa_cons (pv 0) (pa_cons (pe_bltn (v := .ty "bool") rfl T.n_bool PyProof.Rows.boot_bool rfl) pa_nil)))) (pe_one (pe_chain op_le op_le (pv 1) (pv 0) (pv 2))))))), ?_⟩
  exact (lfs_ret (lf_andV (lf_cb cl_isi (lfa_cons lf_var (lfa_cons (lf_c fun _ => .ty "int") lfa_nil))) (lf_andV (lf_notV (lf_cb cl_isi (lfa_cons lf_var (lfa_cons (lf_c fun _ => .ty "bool") lfa_nil)))) (lf_chain opl_bool0 opl_bool0 lf_var lf_var lf_var))))
theorem sc_law_states_ok : FnScope ["_law_thing", "_law_wide", "_law_many", "_law_state"] ["_law_thing", "_law_wide", "_law_many"] (defScope s_law_states_ok) := ⟨rfl, rfl, rfl, by decide +kernel, rfl, by decide +kernel, by decide +kernel⟩
theorem ok_law_states_ok {f : Addr} {fd : FuncData} (F : Fun K "_law_states_ok" "_law_states_ok" s_law_states_ok f fd) (T : TX K mg c_InvalidText c_Keeper) (D_law_num : DefAt P w K mg base 1 "_law_num" ["_law_thing", "_law_low", "_law_high"] (spL K 3 (w_law_num K c_InvalidText c_Keeper))) : FnG P w K mg base (L2.CX P w) 2 f fd ["_law_thing", "_law_wide", "_law_many"] (spL K 3 (w_law_states_ok K c_InvalidText c_Keeper)) := by
  refine defL F sc_law_states_ok rfl (by decide) fun cdv A outer s H E hg hr => ?_
  refine ⟨_, (pss_cons (ps_if (PW.pt (pw_or (pt_not (pt_truK (K := K) rfl (pe_callB (call_isiKK (K := K) rfl) rfl T.n_isinstance PyProof.Rows.boot_isinstance (pa_cons (pv 0) (pa_cons (pe_bltn (v := .ty "tuple") rfl T.n_tuple PyProof.Rows.boot_tuple rfl) pa_nil))) (fun _ => rfl))) (pw_or1 (pt_cmpR (op_neK (K := K) rfl (un64 hr)) (pe_callB (call_lenK (K := K) rfl) rfl T.n_len PySem.boot_len (pa_cons (pv 0) pa_nil)) (pv 1) (nomark _))))) (pss_one (ps_ret pe_bl)) pss_nil) (pss_one (ps_ret (pe_cmpR (op_eqK (K := K) rfl (un64 hr)) (pe_lc (own := [("_law_state", 3)]) rfl sc_law_states_ok.nd (pi_seqK (K := K) rfl (pv 0)) (show BlkOk ["_law_thing", "_law_wide", "_law_many", "_law_state"] (defScope s_law_states_ok) _ [("_law_state", 3)] from ⟨rfl, by decide +kernel, by decide +kernel, by decide +kernel, by decide +kernel⟩) (fun _ _ _ _ _ => (pg_name (i := 3) sc_law_states_ok.nd rfl (by first | exact Or.inl rfl | exact Or.inr rfl))) (fun _ _ _ _ _ => (pts_one (pt_not (pt_truK (K := K) rfl (pe_d D_law_num hg hr tkB (pa_cons (pv 3) (pa_cons pe_int (pa_cons (pe_op op_sub (pv 2) pe_int) pa_nil)))) (fun _ => rfl))))) (fun _ _ _ _ _ => (pv 3))) (pe_lst pa_nil) (nomark _))))), ?_⟩
  exact (lfs_seq (lfs_if (lft_or (lft_not (lft_tru (lf_cb cl_isi (lfa_cons lf_var (lfa_cons (lf_c fun _ => .ty "tuple") lfa_nil))))) (lft_tst (lf_bin opl_ne (lf_cb cl_len (lfa_cons lf_var lfa_nil)) lf_var))) (lfs_ret (lf_c fun _ => .bl false)) lfs_next) (lfs_ret (lf_bin opl_eq (lf_lc (lfi_seqU lf_var) lfg_name (own_name (by decide)) (lown_name (by decide)) (lft_not (lft_tru (lf_call (fun _ => .nil) (lfa_cons lf_var (lfa_cons (lf_c fun _ => .int 0) (lfa_cons (lf_bin opl_int0 lf_var (lf_c fun _ => .int 1)) lfa_nil))) fnW_len))) lf_var) (lf_lst lfa_nil))))
theorem sc_law_line_ok : FnScope ["_law_line", "_law_wide", "_law_many"] ["_law_line", "_law_wide", "_law_many"] (defScope s_law_line_ok) := ⟨rfl, rfl, rfl, by decide +kernel, rfl, by decide +kernel, by decide +kernel⟩
theorem ok_law_line_ok {f : Addr} {fd : FuncData} (F : Fun K "_law_line_ok" "_law_line_ok" s_law_line_ok f fd) (T : TX K mg c_InvalidText c_Keeper) (D_law_num : DefAt P w K mg base 1 "_law_num" ["_law_thing", "_law_low", "_law_high"] (spL K 3 (w_law_num K c_InvalidText c_Keeper))) (D_law_states_ok : DefAt P w K mg base 2 "_law_states_ok" ["_law_thing", "_law_wide", "_law_many"] (spL K 3 (w_law_states_ok K c_InvalidText c_Keeper))) : FnG P w K mg base (L2.CX P w) 3 f fd ["_law_line", "_law_wide", "_law_many"] (spL K 3 (w_law_line_ok K c_InvalidText c_Keeper)) := by
  refine defL F sc_law_line_ok rfl (by decide) fun cdv A outer s H E hg hr => ?_
  refine ⟨_, (pss_cons (ps_if (PW.pt (pw_or (pt_not (pt_truK (K := K) rfl (pe_callB (call_isiKK (K := K) rfl) rfl T.n_isinstance PyProof.Rows.boot_isinstance (pa_cons (pv 0) (pa_cons (pe_bltn (v := .ty "tuple") rfl T.n_tuple PyProof.Rows.boot_tuple rfl) pa_nil))) (fun _ => rfl))) (pw_or (pt_cmpR (op_neK (K := K) rfl (un64 hr)) (pe_callB (call_lenK (K := K) rfl) rfl T.n_len PySem.boot_len (pa_cons (pv 0) pa_nil)) pe_int (nomark _)) (pw_or1 (pt_not (pt_truK (K := K) rfl (pe_d D_law_num hg hr tkD (pa_cons (pe_ix (ix_seqK (K := K) rfl) (pv 0) pe_int (fun _ _ => rfl)) (pa_cons pe_int (pa_cons (pe_op op_sub (pv 1) pe_int) pa_nil)))) (fun _ => rfl))))))) (pss_one (ps_ret pe_bl)) pss_nil) (pss_one (ps_ret (pe_andK (K := K) rfl (pe_d D_law_states_ok hg hr tkD (pa_cons (pe_ix (ix_seqK (K := K) rfl) (pv 0) pe_int (fun _ _ => rfl)) (pa_cons (pv 1) (pa_cons (pv 2) pa_nil)))) (pe_one (pe_d D_law_states_ok hg hr tkD (pa_cons (pe_ix (ix_seqK (K := K) rfl) (pv 0) pe_int (fun _ _ => rfl)) (pa_cons (pv 1) (pa_cons (pv 2) pa_nil))))))))), ?_⟩
  exact (lfs_seq (lfs_if (lft_or (lft_not (lft_tru (lf_cb cl_isi (lfa_cons lf_var (lfa_cons (lf_c fun _ => .ty "tuple") lfa_nil))))) (lft_or (lft_tst (lf_bin opl_ne (lf_cb cl_len (lfa_cons lf_var lfa_nil)) (lf_c fun _ => .int 3))) (lft_not (lft_tru (lf_call (fun _ => .nil) (lfa_cons (lf_bin opl_ix lf_var (lf_c fun _ => .int 0)) (lfa_cons (lf_c fun _ => .int 0) (lfa_cons (lf_bin opl_int0 lf_var (lf_c fun _ => .int 1)) lfa_nil))) fnW_len))))) (lfs_ret (lf_c fun _ => .bl false)) lfs_next) (lfs_ret (lf_andV (lf_call (fun _ => .nil) (lfa_cons (lf_bin opl_ix lf_var (lf_c fun _ => .int 1)) (lfa_cons lf_var (lfa_cons lf_var lfa_nil))) fnW_len) (lf_call (fun _ => .nil) (lfa_cons (lf_bin opl_ix lf_var (lf_c fun _ => .int 2)) (lfa_cons lf_var (lfa_cons lf_var lfa_nil))) fnW_len))))
theorem sc_law_first_wrong : FnScope ["_law_table_here", "_law_top", "_law_k"] ["_law_table_here"] (defScope s_law_first_wrong) := ⟨rfl, rfl, rfl, by decide +kernel, rfl, by decide +kernel, by decide +kernel⟩
theorem ok_law_first_wrong {f : Addr} {fd : FuncData} (F : Fun K "_law_first_wrong" "_law_first_wrong" s_law_first_wrong f fd) (T : TX K mg c_InvalidText c_Keeper) (D_law_line_ok : DefAt P w K mg base 3 "_law_line_ok" ["_law_line", "_law_wide", "_law_many"] (spL K 3 (w_law_line_ok K c_InvalidText c_Keeper))) : FnG P w K mg base (L2.CX P w) 4 f fd ["_law_table_here"] (spL K 1 (w_law_first_wrong K c_InvalidText c_Keeper)) := by
  refine defL F sc_law_first_wrong rfl (by decide) fun cdv A outer s H E hg hr => ?_
  refine ⟨_, (pss_cons (ps_if (PW.pt (pw_or (pt_not (pt_truK (K := K) rfl (pe_callB (call_isiKK (K := K) rfl) rfl T.n_isinstance PyProof.Rows.boot_isinstance (pa_cons (pv 0) (pa_cons (pe_bltn (v := .ty "tuple") rfl T.n_tuple PyProof.Rows.boot_tuple rfl) pa_nil))) (fun _ => rfl))) (pw_or1 (pt_cmpR (op_eqK (K := K) rfl (un64 hr)) (pv 0) (pe_tup pa_nil) (nomark _))))) (pss_one (ps_ret (pe_lst (pa_cons pe_non pa_nil)))) pss_nil) (pss_cons (ps_set (i := 1) sc_law_first_wrong.nd rfl (by first | exact Or.inl rfl | exact Or.inr rfl) (pe_ix (ix_seqK (K := K) rfl) (pv 0) pe_int (fun _ _ => rfl))) (pss_cons (ps_if (PW.pt (pw_or (pt_not (pt_truK (K := K) rfl (pe_callB (call_isiKK (K := K) rfl) rfl T.n_isinstance PyProof.Rows.boot_isinstance (pa_cons (pv 1) (pa_cons (pe_bltn (v := .ty "tuple") rfl T.n_tuple PyProof.Rows.boot_tuple rfl) pa_nil))) (fun _ => rfl))) (pw_or (pt_cmpR (op_neK (K := K) rfl (un64 hr)) (pe_callB (call_lenK (K := K) rfl) rfl T.n_len PySem.boot_len (pa_cons (pv 1) pa_nil)) pe_int (nomark _)) (pw_or (pt_not (pt_truK (K := K) rfl (pe_callB (call_isiKK (K := K) rfl) rfl T.n_isinstance PyProof.Rows.boot_isinstance (pa_cons (pe_ix (ix_seqK (K := K) rfl) (pv 1) pe_int (fun _ _ => rfl)) (pa_cons (pe_bltn (v := .ty "tuple") rfl T.n_tuple PyProof.Rows.boot_tuple rfl) pa_nil))) (fun _ => rfl))) (pw_or1 (pt_not (pt_chain op_le op_le pe_int (pe_callB (call_lenK (K := K) rfl) rfl T.n_len PySem.boot_len (pa_cons (pe_ix (ix_seqK (K := K) rfl) (pv 1) pe_int (fun _ _ => rfl)) pa_nil)) pe_int))))))) (pss_one (ps_ret (pe_lst (pa_cons pe_int pa_nil)))) pss_nil) (pss_cons (ps_for ownD rfl (pi_range1 rfl T.n_range (pa_cons (pe_callB (call_lenK (K := K) rfl) rfl T.n_len PySem.boot_len (pa_cons (pv 0) pa_nil)) pa_nil)) (pg_name (i := 2) sc_law_first_wrong.nd rfl (by first | exact Or.inl rfl | exact Or.inr rfl)) (pss_one (ps_if (PW.pt (pw_or (pt_cmpR op_gt (pv 2) pe_int (nomark _)) (pw_or1 (pt_not (pt_truK (K := K) rfl (pe_d D_law_line_ok hg hr tkD (pa_cons (pe_ix (ix_seqK (K := K) rfl) (pv 0) (pv 2) (fun _ _ => rfl)) (pa_cons (pe_callB (call_lenK (K := K) rfl) rfl T.n_len PySem.boot_len (pa_cons (pe_ix (ix_seqK (K := K) rfl) (pv 1) pe_int (fun _ _ => rfl)) pa_nil)) (pa_cons (pe_callB (call_lenK (K := K) rfl) rfl T.n_len PySem.boot_len (pa_cons (pv 0) pa_nil)) pa_nil)))) (fun _ => rfl)))))) (pss_one (ps_ret (pe_lst (pa_cons (pv 2) pa_nil)))) pss_nil))) (pss_one (ps_ret (pe_lst pa_nil))))))), ?_⟩
  exact (lfs_seq (lfs_if (lft_or (lft_not (lft_tru (lf_cb cl_isi (lfa_cons lf_var (lfa_cons (lf_c fun _ => .ty "tuple") lfa_nil))))) (lft_tst (lf_bin opl_eq lf_var (lf_tup lfa_nil)))) (lfs_ret (lf_lst (lfa_cons (lf_c fun _ => .non) lfa_nil))) lfs_next) (lfs_seq (lfs_asg (lf_bin opl_ix lf_var (lf_c fun _ => .int 0)) lfg_name) (lfs_seq (lfs_if (lft_or (lft_not (lft_tru (lf_cb cl_isi (lfa_cons lf_var (lfa_cons (lf_c fun _ => .ty "tuple") lfa_nil))))) (lft_or (lft_tst (lf_bin opl_ne (lf_cb cl_len (lfa_cons lf_var lfa_nil)) (lf_c fun _ => .int 3))) (lft_or (lft_not (lft_tru (lf_cb cl_isi (lfa_cons (lf_bin opl_ix lf_var (lf_c fun _ => .int 1)) (lfa_cons (lf_c fun _ => .ty "tuple") lfa_nil))))) (lft_not (lft_tst (lf_chain opl_bool0 opl_bool0 (lf_c fun _ => .int 1) (lf_cb cl_len (lfa_cons (lf_bin opl_ix lf_var (lf_c fun _ => .int 1)) lfa_nil)) (lf_c fun _ => .int 4))))))) (lfs_ret (lf_lst (lfa_cons (lf_c fun _ => .int 0) lfa_nil))) lfs_next) (lfs_seq (lfs_for (lfi_rng1 (lfa_cons (lf_cb cl_len (lfa_cons lf_var lfa_nil)) lfa_nil)) lfg_name (lfs_if (lft_or (lft_tst (lf_bin opl_bool0 lf_var (lf_c fun _ => .int 39))) (lft_not (lft_tru (lf_call (fun _ => .nil) (lfa_cons (lf_bin opl_ix lf_var lf_var) (lfa_cons (lf_cb cl_len (lfa_cons (lf_bin opl_ix lf_var (lf_c fun _ => .int 1)) lfa_nil)) (lfa_cons (lf_cb cl_len (lfa_cons lf_var lfa_nil)) lfa_nil))) fnW_len)))) (lfs_ret (lf_lst (lfa_cons lf_var lfa_nil))) lfs_next)) (lfs_ret (lf_lst lfa_nil))))))
theorem sc_law_read : FnScope ["_law_sheet_here", "_law_table_here", "_law_line"] ["_law_sheet_here"] (defScope s_law_read) := ⟨rfl, rfl, rfl, by decide +kernel, rfl, by decide +kernel, by decide +kernel⟩
theorem ok_law_read {f : Addr} {fd : FuncData} (F : Fun K "_law_read" "_law_read" s_law_read f fd) (T : TX K mg c_InvalidText c_Keeper) (D_law_line_read : DefAt P w K mg base 2 "_law_line_read" ["_law_line"] (spL K 1 (w_law_line_read K c_InvalidText c_Keeper))) (D_law_first_wrong : DefAt P w K mg base 4 "_law_first_wrong" ["_law_table_here"] (spL K 1 (w_law_first_wrong K c_InvalidText c_Keeper))) : FnG P w K mg base (L2.CX P w) 5 f fd ["_law_sheet_here"] (spL K 1 (w_law_read K c_InvalidText c_Keeper)) := by
  refine defL F sc_law_read rfl (by decide) fun cdv A outer s H E hg hr => ?_
  refine ⟨_, (pss_cons (ps_set (i := 1) sc_law_read.nd rfl (by first | exact Or.inl rfl | exact Or.inr rfl) (pe_callTy (call_tupleK (K := K) rfl) rfl T.n_tuple PyProof.Rows.boot_tuple (pa_cons (pe_lc (own := [("_law_line", 2)]) rfl sc_law_read.nd (pi_seqK (K := K) rfl (pe_splitK (pv 0) pe_str)) (show BlkOk ["_law_sheet_here", "_law_table_here", "_law_line"] (defScope s_law_read) _ [("_law_line", 2)] from ⟨rfl, by decide +kernel, by decide +kernel, by decide +kernel, by decide +kernel⟩) (fun _ _ _ _ _ => (pg_name (i := 2) sc_law_read.nd rfl (by first | exact Or.inl rfl | exact Or.inr rfl))) (fun _ _ _ _ _ => pts_nil) (fun _ _ _ _ _ => (pe_d D_law_line_read hg hr tkB (pa_cons (pv 2) pa_nil)))) pa_nil))) (pss_one (ps_ret (pe_ifExp (pt_cmpR (op_eqK (K := K) rfl (un64 hr)) (pe_d D_law_first_wrong hg hr tkD (pa_cons (pv 1) pa_nil)) (pe_lst pa_nil) (nomark _)) (pv 1) pe_non)))), ?_⟩
  exact (lfs_seq (lfs_asg (lf_cb cl_tuple (lfa_cons (lf_lc (lfi_seqU (lf_split lf_var (lf_c fun _ => .str "\n"))) lfg_name (own_name (by decide)) (lown_name (by decide)) lft_yes (lf_call (fun _ => .nil) (lfa_cons lf_var lfa_nil) fnW_len)) lfa_nil)) lfg_name) (lfs_ret (lf_if (lft_tst (lf_bin opl_eq (lf_call (fun _ => .nil) (lfa_cons lf_var lfa_nil) fnW_len) (lf_lst lfa_nil))) lf_var (lf_c fun _ => .non))))
theorem sc_law_pick : FnScope ["_law_jar_here", "_law_many", "_law_factor", "_law_digit"] ["_law_jar_here", "_law_many"] (defScope s_law_pick) := ⟨rfl, rfl, rfl, by decide +kernel, rfl, by decide +kernel, by decide +kernel⟩
theorem ok_law_pick {f : Addr} {fd : FuncData} (F : Fun K "_law_pick" "_law_pick" s_law_pick f fd) (T : TX K mg c_InvalidText c_Keeper) : FnG P w K mg base (L2.CX P w) 1 f fd ["_law_jar_here", "_law_many"] (spL K 2 (w_law_pick K c_InvalidText c_Keeper)) := by
  refine defL F sc_law_pick rfl (by decide) fun cdv A outer s H E hg hr => ?_
  refine ⟨_, (pss_cons (ps_if (pt_cmpR op_gt (pe_ix (ix_seqK (K := K) rfl) (pv 0) pe_int (fun _ _ => rfl)) pe_int (nomark _)) (pss_cons (ps_asg (pe_callB call_divmodW rfl T.n_divmod PyProof.Rows.boot_divmod (pa_cons (pe_ix (ix_seqK (K := K) rfl) (pv 0) pe_int (fun _ _ => rfl)) (pa_cons (pv 1) pa_nil))) (pg_tupK (K := K) (n := 2) rfl rfl (pgs_cons (pg_sub (pv 0) pe_int set_list) (pgs_cons (pg_name (i := 3) sc_law_pick.nd rfl (by first | exact Or.inl rfl | exact Or.inr rfl)) pgs_nil)))) (pss_one (ps_ret (pv 3)))) pss_nil) (pss_cons (ps_asg (pe_op (op_addK (K := K) rfl) (pe_ix (ix_seqK (K := K) rfl) (pv 0) pe_int (fun _ _ => rfl)) pe_int) (pg_sub (pv 0) pe_int set_list)) (pss_cons (ps_set (i := 2) sc_law_pick.nd rfl (by first | exact Or.inl rfl | exact Or.inr rfl) (pe_op (op_addK (K := K) rfl) (pe_op op_mod (pe_callTy call_intA rfl T.n_int PyProof.Rows.boot_int (pa_cons (pe_ix (ix_seqK (K := K) rfl) (pv 0) pe_int (fun _ _ => rfl)) pa_nil)) pe_int) pe_int)) (pss_cons (ps_asg (pe_op op_mod (pe_callTy call_intA rfl T.n_int PyProof.Rows.boot_int (pa_cons (pe_op (op_addK (K := K) rfl) (pe_op op_mulA (pe_op (op_addK (K := K) rfl) (pe_ix (ix_seqK (K := K) rfl) (pv 0) pe_int (fun _ _ => rfl)) (pe_op op_mulA pe_int (pe_ix (ix_seqK (K := K) rfl) (pv 0) pe_int (fun _ _ => rfl)))) (pv 2)) pe_int) pa_nil)) pe_int) (pg_sub (pv 0) pe_int set_list)) (pss_one (ps_ret (pe_op op_mod (pe_callTy call_intA rfl T.n_int PyProof.Rows.boot_int (pa_cons (pe_op op_fdivW (pe_ix (ix_seqK (K := K) rfl) (pv 0) pe_int (fun _ _ => rfl)) pe_int) pa_nil)) (pv 1)))))))), ?_⟩
  exact (lfs_seq (lfs_if (lft_tst (lf_bin opl_bool0 (lf_bin opl_ix lf_var (lf_c fun _ => .int 0)) (lf_c fun _ => .int 0))) (lfs_seq (lfs_asg (lf_cb cl_divmod (lfa_cons (lf_bin opl_ix lf_var (lf_c fun _ => .int 0)) (lfa_cons lf_var lfa_nil))) (lfg_tup (lfgs_cons (lfg_sub (lf_c fun _ => .int 0)) (lfgs_cons lfg_name lfgs_nil)))) (lfs_ret lf_var)) lfs_next) (lfs_seq (lfs_asg (lf_bin opl_add (lf_bin opl_ix lf_var (lf_c fun _ => .int 2)) (lf_c fun _ => .int 1)) (lfg_sub (lf_c fun _ => .int 2))) (lfs_seq (lfs_asg (lf_bin opl_add (lf_bin opl_int (lf_cb cl_int (lfa_cons (lf_bin opl_ix lf_var (lf_c fun _ => .int 1)) lfa_nil)) (lf_c fun _ => .int 30029)) (lf_c fun _ => .int 12007)) lfg_name) (lfs_seq (lfs_asg (lf_bin opl_int (lf_cb cl_int (lfa_cons (lf_bin opl_add (lf_bin opl_mul (lf_bin opl_add (lf_bin opl_ix lf_var (lf_c fun _ => .int 1)) (lf_bin opl_mul (lf_c fun _ => .int 28657) (lf_bin opl_ix lf_var (lf_c fun _ => .int 2)))) lf_var) (lf_c fun _ => .int 11)) lfa_nil)) (lf_c fun _ => .int 2147483353)) (lfg_sub (lf_c fun _ => .int 1))) (lfs_ret (lf_bin opl_int (lf_cb cl_int (lfa_cons (lf_bin opl_int (lf_bin opl_ix lf_var (lf_c fun _ => .int 1)) (lf_c fun _ => .int 200)) lfa_nil)) lf_var))))))
theorem sc_law_table : FnScope ["_law_jar_here", "_law_most", "_law_found", "_law_k", "_law_wide", "_law_many", "_law_hits", "_law_puts", "_law_way"] ["_law_jar_here", "_law_most"] (defScope s_law_table) := ⟨rfl, rfl, rfl, by decide +kernel, rfl, by decide +kernel, by decide +kernel⟩
theorem ok_law_table {f : Addr} {fd : FuncData} (F : Fun K "_law_table" "_law_table" s_law_table f fd) (T : TX K mg c_InvalidText c_Keeper) (D_law_pick : DefAt P w K mg base 1 "_law_pick" ["_law_jar_here", "_law_many"] (spL K 2 (w_law_pick K c_InvalidText c_Keeper))) : FnG P w K mg base (L2.CX P w) 2 f fd ["_law_jar_here", "_law_most"] (spL K 2 (w_law_table K c_InvalidText c_Keeper)) := by
  refine defL F sc_law_table rfl (by decide) fun cdv A outer s H E hg hr => ?_
  refine ⟨_, (pss_cons (ps_asg (pe_tup (pa_cons (pe_op (op_addK (K := K) rfl) pe_int (pe_d D_law_pick hg hr tkD (pa_cons (pv 0) (pa_cons pe_int pa_nil)))) (pa_cons (pe_op (op_addK (K := K) rfl) pe_int (pe_d D_law_pick hg hr tkD (pa_cons (pv 0) (pa_cons (pv 1) pa_nil)))) pa_nil))) (pg_tupK (K := K) (n := 2) rfl rfl (pgs_cons (pg_name (i := 4) sc_law_table.nd rfl (by first | exact Or.inl rfl | exact Or.inr rfl)) (pgs_cons (pg_name (i := 5) sc_law_table.nd rfl (by first | exact Or.inl rfl | exact Or.inr rfl)) pgs_nil)))) (pss_cons (ps_set (i := 2) sc_law_table.nd rfl (by first | exact Or.inl rfl | exact Or.inr rfl) (pe_lst pa_nil)) (pss_cons (ps_for ownD rfl (pi_range1 rfl T.n_range (pa_cons (pv 5) pa_nil)) (pg_name (i := 3) sc_law_table.nd rfl (by first | exact Or.inl rfl | exact Or.inr rfl)) (pss_cons (ps_set (i := 6) sc_law_table.nd rfl (by first | exact Or.inl rfl | exact Or.inr rfl) (pe_callTy (call_tupleK (K := K) rfl) rfl T.n_tuple PyProof.Rows.boot_tuple (pa_cons (pe_lc (own := [("_law_way", 8)]) rfl sc_law_table.nd (pi_range1 rfl T.n_range (pa_cons (pv 4) pa_nil)) (show BlkOk ["_law_jar_here", "_law_most", "_law_found", "_law_k", "_law_wide", "_law_many", "_law_hits", "_law_puts", "_law_way"] (defScope s_law_table) _ [("_law_way", 8)] from ⟨rfl, by decide +kernel, by decide +kernel, by decide +kernel, by decide +kernel⟩) (fun _ _ _ _ _ => (pg_name (i := 8) sc_law_table.nd rfl (by first | exact Or.inl rfl | exact Or.inr rfl))) (fun _ _ _ _ _ => pts_nil) (fun _ _ _ _ _ => (pe_d D_law_pick hg hr tkB (pa_cons (pv 0) (pa_cons (pv 5) pa_nil))))) pa_nil))) (pss_cons (ps_set (i := 7) sc_law_table.nd rfl (by first | exact Or.inl rfl | exact Or.inr rfl) (pe_callTy (call_tupleK (K := K) rfl) rfl T.n_tuple PyProof.Rows.boot_tuple (pa_cons (pe_lc (own := [("_law_way", 8)]) rfl sc_law_table.nd (pi_range1 rfl T.n_range (pa_cons (pv 4) pa_nil)) (show BlkOk ["_law_jar_here", "_law_most", "_law_found", "_law_k", "_law_wide", "_law_many", "_law_hits", "_law_puts", "_law_way"] (defScope s_law_table) _ [("_law_way", 8)] from ⟨rfl, by decide +kernel, by decide +kernel, by decide +kernel, by decide +kernel⟩) (fun _ _ _ _ _ => (pg_name (i := 8) sc_law_table.nd rfl (by first | exact Or.inl rfl | exact Or.inr rfl))) (fun _ _ _ _ _ => pts_nil) (fun _ _ _ _ _ => (pe_d D_law_pick hg hr tkB (pa_cons (pv 0) (pa_cons (pv 5) pa_nil))))) pa_nil))) (pss_one (ps_expr (pe_bm PySem.F.plainAttrs_list PySem.F.slot_list_append PySem.F.type_list_append mt_append (pv 2) (pa_cons (pe_tup (pa_cons (pe_d D_law_pick hg hr tkD (pa_cons (pv 0) (pa_cons (pv 4) pa_nil))) (pa_cons (pv 6) (pa_cons (pv 7) pa_nil)))) pa_nil))))))) (pss_one (ps_ret (pe_callTy (call_tupleK (K := K) rfl) rfl T.n_tuple PyProof.Rows.boot_tuple (pa_cons (pv 2) pa_nil))))))), ?_⟩
  exact (lfs_seq (lfs_asg (lf_tup (lfa_cons (lf_bin opl_add (lf_c fun _ => .int 1) (lf_call (fun _ => .nil) (lfa_cons lf_var (lfa_cons (lf_c fun _ => .int 4) lfa_nil)) fnW_len)) (lfa_cons (lf_bin opl_add (lf_c fun _ => .int 1) (lf_call (fun _ => .nil) (lfa_cons lf_var (lfa_cons lf_var lfa_nil)) fnW_len)) lfa_nil))) (lfg_tup (lfgs_cons lfg_name (lfgs_cons lfg_name lfgs_nil)))) (lfs_seq (lfs_asgN (lfn_lst lfa_nil)) (lfs_seq (lfs_for (lfi_rng1 (lfa_cons lf_var lfa_nil)) lfg_name (lfs_seq (lfs_asg (lf_cb cl_tuple (lfa_cons (lf_lc (lfi_rng1 (lfa_cons lf_var lfa_nil)) lfg_name (own_name (by decide)) (lown_name (by decide)) lft_yes (lf_call (fun _ => .nil) (lfa_cons lf_var (lfa_cons lf_var lfa_nil)) fnW_len)) lfa_nil)) lfg_name) (lfs_seq (lfs_asg (lf_cb cl_tuple (lfa_cons (lf_lc (lfi_rng1 (lfa_cons lf_var lfa_nil)) lfg_name (own_name (by decide)) (lown_name (by decide)) lft_yes (lf_call (fun _ => .nil) (lfa_cons lf_var (lfa_cons lf_var lfa_nil)) fnW_len)) lfa_nil)) lfg_name) (lfs_append (lf_tup (lfa_cons (lf_call (fun _ => .nil) (lfa_cons lf_var (lfa_cons lf_var lfa_nil)) fnW_len) (lfa_cons lf_var (lfa_cons lf_var lfa_nil)))))))) (lfs_ret (lf_cb cl_tuple (lfa_cons lf_var lfa_nil))))))
theorem sc_law_of : FnScope ["_law_jar_here", "_law_menu"] ["_law_jar_here", "_law_menu"] (defScope s_law_of) := ⟨rfl, rfl, rfl, by decide +kernel, rfl, by decide +kernel, by decide +kernel⟩
theorem ok_law_of {f : Addr} {fd : FuncData} (F : Fun K "_law_of" "_law_of" s_law_of f fd) (T : TX K mg c_InvalidText c_Keeper) (D_law_pick : DefAt P w K mg base 1 "_law_pick" ["_law_jar_here", "_law_many"] (spL K 2 (w_law_pick K c_InvalidText c_Keeper))) : FnG P w K mg base (L2.CX P w) 2 f fd ["_law_jar_here", "_law_menu"] (spL K 2 (w_law_of K c_InvalidText c_Keeper)) := by
  refine defL F sc_law_of rfl (by decide) fun cdv A outer s H E hg hr => ?_
  refine ⟨_, (pss_one (ps_ret (pe_ix (ix_seqK (K := K) rfl) (pv 1) (pe_d D_law_pick hg hr tkD (pa_cons (pv 0) (pa_cons (pe_callB (call_lenK (K := K) rfl) rfl T.n_len PySem.boot_len (pa_cons (pv 1) pa_nil)) pa_nil))) (fun _ _ => rfl)))), ?_⟩
  exact (lfs_ret (lf_bin opl_ix lf_var (lf_call (fun _ => .nil) (lfa_cons lf_var (lfa_cons (lf_cb cl_len (lfa_cons lf_var lfa_nil)) lfa_nil)) fnW_len)))
theorem sc_law_bent : FnScope ["_law_jar_here", "_law_sheet_here", "_law_words", "_law_lines", "_law_spot", "_law_row", "_law_k", "_law_way", "_law_at"] ["_law_jar_here", "_law_sheet_here", "_law_words"] (defScope s_law_bent) := ⟨rfl, rfl, rfl, by decide +kernel, rfl, by decide +kernel, by decide +kernel⟩
theorem ok_law_bent {f : Addr} {fd : FuncData} (F : Fun K "_law_bent" "_law_bent" s_law_bent f fd) (T : TX K mg c_InvalidText c_Keeper) (D_law_pick : DefAt P w K mg base 1 "_law_pick" ["_law_jar_here", "_law_many"] (spL K 2 (w_law_pick K c_InvalidText c_Keeper))) (D_law_of : DefAt P w K mg base 2 "_law_of" ["_law_jar_here", "_law_menu"] (spL K 2 (w_law_of K c_InvalidText c_Keeper))) : FnG P w K mg base (L2.CX P w) 3 f fd ["_law_jar_here", "_law_sheet_here", "_law_words"] (spL K 3 (w_law_bent K c_InvalidText c_Keeper)) := by
  refine defL F sc_law_bent rfl (by decide) fun cdv A outer s H E hg hr => ?_
  refine ⟨_, (pss_cons (ps_par (i := 7) (j := 8) rfl sc_law_bent.nd rfl rfl (by decide) rfl rfl (pa_cons (pe_d D_law_pick hg hr tkD (pa_cons (pv 0) (pa_cons pe_int pa_nil))) (pa_cons (pe_d D_law_pick hg hr tkD (pa_cons (pv 0) (pa_cons (pe_op (op_addK (K := K) rfl) (pe_callB (call_lenK (K := K) rfl) rfl T.n_len PySem.boot_len (pa_cons (pv 1) pa_nil)) pe_int) pa_nil))) pa_nil)) rfl) (pss_cons (ps_if (pt_cmpR (op_eqK (K := K) rfl (un64 hr)) (pv 7) pe_int (nomark _)) (pss_one (ps_ret (pe_op (op_addK (K := K) rfl) (pe_op (op_addK (K := K) rfl) (pe_slice (sl_DK (K := K) rfl) (pv 1) po_none (po_some (pv 8))) (pe_d D_law_of hg hr tkD (pa_cons (pv 0) (pa_cons (pe_lst (pa_cons pe_str (pa_cons pe_str (pa_cons pe_str (pa_cons pe_str (pa_cons pe_str (pa_cons pe_str (pa_cons pe_str (pa_cons pe_str pa_nil))))))))) pa_nil)))) (pe_slice (sl_DK (K := K) rfl) (pv 1) (po_some (pv 8)) po_none)))) pss_nil) (pss_cons (ps_if (pt_cmpR (op_eqK (K := K) rfl (un64 hr)) (pv 7) pe_int (nomark _)) (pss_one (ps_ret (pe_op (op_addK (K := K) rfl) (pe_slice (sl_DK (K := K) rfl) (pv 1) po_none (po_some (pv 8))) (pe_slice (sl_DK (K := K) rfl) (pv 1) (po_some (pe_op (op_addK (K := K) rfl) (pv 8) pe_int)) po_none)))) pss_nil) (pss_cons (ps_set (i := 3) sc_law_bent.nd rfl (by first | exact Or.inl rfl | exact Or.inr rfl) (pe_splitK (pv 1) pe_str)) (pss_cons (ps_set (i := 4) sc_law_bent.nd rfl (by first | exact Or.inl rfl | exact Or.inr rfl) (pe_d D_law_pick hg hr tkD (pa_cons (pv 0) (pa_cons (pe_callB (call_lenK (K := K) rfl) rfl T.n_len PySem.boot_len (pa_cons (pv 3) pa_nil)) pa_nil)))) (pss_cons (ps_if (pt_cmpR (op_eqK (K := K) rfl (un64 hr)) (pv 7) pe_int (nomark _)) (pss_one (ps_ret (pe_joinK (K := K) rfl pe_str (pe_op (op_addK (K := K) rfl) (pe_slice (sl_DK (K := K) rfl) (pv 3) po_none (po_some (pv 4))) (pe_slice (sl_DK (K := K) rfl) (pv 3) (po_some (pe_op (op_addK (K := K) rfl) (pv 4) pe_int)) po_none))))) pss_nil) (pss_cons (ps_if (pt_cmpR (op_eqK (K := K) rfl (un64 hr)) (pv 7) pe_int (nomark _)) (pss_one (ps_ret (pe_joinK (K := K) rfl pe_str (pe_op (op_addK (K := K) rfl) (pe_slice (sl_DK (K := K) rfl) (pv 3) po_none (po_some (pe_op (op_addK (K := K) rfl) (pv 4) pe_int))) (pe_slice (sl_DK (K := K) rfl) (pv 3) (po_some (pv 4)) po_none))))) pss_nil) (pss_cons (ps_set (i := 5) sc_law_bent.nd rfl (by first | exact Or.inl rfl | exact Or.inr rfl) (pe_splitK (pe_ix (ix_seqK (K := K) rfl) (pv 3) (pv 4) (fun _ _ => rfl)) pe_str)) (pss_cons (ps_set (i := 6) sc_law_bent.nd rfl (by first | exact Or.inl rfl | exact Or.inr rfl) (pe_d D_law_pick hg hr tkD (pa_cons (pv 0) (pa_cons (pe_callB (call_lenK (K := K) rfl) rfl T.n_len PySem.boot_len (pa_cons (pv 5) pa_nil)) pa_nil)))) (pss_cons (ps_if (pt_cmpR (op_eqK (K := K) rfl (un64 hr)) (pv 7) pe_int (nomark _)) (pss_one (ps_set (i := 5) sc_law_bent.nd rfl (by first | exact Or.inl rfl | exact Or.inr rfl) (pe_op (op_addK (K := K) rfl) (pe_slice (sl_DK (K := K) rfl) (pv 5) po_none (po_some (pv 6))) (pe_slice (sl_DK (K := K) rfl) (pv 5) (po_some (pe_op (op_addK (K := K) rfl) (pv 6) pe_int)) po_none)))) pss_nil) (pss_cons (ps_if (pt_cmpR (op_eqK (K := K) rfl (un64 hr)) (pv 7) pe_int (nomark _)) (pss_one (ps_set (i := 5) sc_law_bent.nd rfl (by first | exact Or.inl rfl | exact Or.inr rfl) (pe_op (op_addK (K := K) rfl) (pe_op (op_addK (K := K) rfl) (pe_slice (sl_DK (K := K) rfl) (pv 5) po_none (po_some (pv 6))) (pe_lst (pa_cons (pe_d D_law_of hg hr tkD (pa_cons (pv 0) (pa_cons (pv 2) pa_nil))) pa_nil))) (pe_slice (sl_DK (K := K) rfl) (pv 5) (po_some (pv 6)) po_none)))) pss_nil) (pss_cons (ps_if (pt_cmpR (op_eqK (K := K) rfl (un64 hr)) (pv 7) pe_int (nomark _)) (pss_one (ps_asg (pe_d D_law_of hg hr tkD (pa_cons (pv 0) (pa_cons (pv 2) pa_nil))) (pg_sub (pv 5) (pv 6) set_list))) pss_nil) (pss_cons (ps_asg (pe_joinK (K := K) rfl pe_str (pv 5)) (pg_sub (pv 3) (pv 4) set_list)) (pss_one (ps_ret (pe_joinK (K := K) rfl pe_str (pv 3))))))))))))))))), ?_⟩
  exact (lfs_seq (lfs_par (lfsl_v (lf_call (fun _ => .nil) (lfa_cons lf_var (lfa_cons (lf_c fun _ => .int 8) lfa_nil)) fnW_len) (lfsl_v (lf_call (fun _ => .nil) (lfa_cons lf_var (lfa_cons (lf_bin opl_add (lf_cb cl_len (lfa_cons lf_var lfa_nil)) (lf_c fun _ => .int 1)) lfa_nil)) fnW_len) lfsl_nil)) (by decide)) (lfs_seq (lfs_if (lft_tst (lf_bin opl_eq lf_var (lf_c fun _ => .int 0))) (lfs_ret (lf_bin opl_add (lf_bin opl_add (lf_sl lf_var lfo_none (lfo_some lf_var)) (lf_call (fun _ => .nil) (lfa_cons lf_var (lfa_cons (lf_lst (lfa_cons (lf_c fun _ => .str " ") (lfa_cons (lf_c fun _ => .str "0") (lfa_cons (lf_c fun _ => .str "1") (lfa_cons (lf_c fun _ => .str "-") (lfa_cons (lf_c fun _ => .str "a") (lfa_cons (lf_c fun _ => .str "\n") (lfa_cons (lf_c fun _ => .str ",") (lfa_cons (lf_c fun _ => .str "9") lfa_nil))))))))) lfa_nil)) fnW_len)) (lf_sl lf_var (lfo_some lf_var) lfo_none))) lfs_next) (lfs_seq (lfs_if (lft_tst (lf_bin opl_eq lf_var (lf_c fun _ => .int 1))) (lfs_ret (lf_bin opl_add (lf_sl lf_var lfo_none (lfo_some lf_var)) (lf_sl lf_var (lfo_some (lf_bin opl_add lf_var (lf_c fun _ => .int 1))) lfo_none))) lfs_next) (lfs_seq (lfs_asgN (lfn_split lf_var (lf_c fun _ => .str "\n"))) (lfs_seq (lfs_asg (lf_call (fun _ => .nil) (lfa_cons lf_var (lfa_cons (lf_cb cl_len (lfa_cons lf_var lfa_nil)) lfa_nil)) fnW_len) lfg_name) (lfs_seq (lfs_if (lft_tst (lf_bin opl_eq lf_var (lf_c fun _ => .int 2))) (lfs_ret (lf_join (lf_c fun _ => .str "\n") (lf_bin opl_add (lf_sl lf_var lfo_none (lfo_some lf_var)) (lf_sl lf_var (lfo_some (lf_bin opl_add lf_var (lf_c fun _ => .int 1))) lfo_none)))) lfs_next) (lfs_seq (lfs_if (lft_tst (lf_bin opl_eq lf_var (lf_c fun _ => .int 3))) (lfs_ret (lf_join (lf_c fun _ => .str "\n") (lf_bin opl_add (lf_sl lf_var lfo_none (lfo_some (lf_bin opl_add lf_var (lf_c fun _ => .int 1)))) (lf_sl lf_var (lfo_some lf_var) lfo_none)))) lfs_next) (lfs_seq (lfs_asgN (lfn_split (lf_bin opl_ix lf_var lf_var) (lf_c fun _ => .str " "))) (lfs_seq (lfs_asg (lf_call (fun _ => .nil) (lfa_cons lf_var (lfa_cons (lf_cb cl_len (lfa_cons lf_var lfa_nil)) lfa_nil)) fnW_len) lfg_name) (lfs_seq (lfs_if (lft_tst (lf_bin opl_eq lf_var (lf_c fun _ => .int 4))) (lfs_asgN (lfn_cat (lf_sl lf_var lfo_none (lfo_some lf_var)) (lf_sl lf_var (lfo_some (lf_bin opl_add lf_var (lf_c fun _ => .int 1))) lfo_none))) lfs_next) (lfs_seq (lfs_if (lft_tst (lf_bin opl_eq lf_var (lf_c fun _ => .int 5))) (lfs_asgN (lfn_cat (lf_bin opl_add (lf_sl lf_var lfo_none (lfo_some lf_var)) (lf_lst (lfa_cons (lf_call (fun _ => .nil) (lfa_cons lf_var (lfa_cons lf_var lfa_nil)) fnW_len) lfa_nil))) (lf_sl lf_var (lfo_some lf_var) lfo_none))) lfs_next) (lfs_seq (lfs_if (lft_tst (lf_bin opl_eq lf_var (lf_c fun _ => .int 6))) (lfs_asg (lf_call (fun _ => .nil) (lfa_cons lf_var (lfa_cons lf_var lfa_nil)) fnW_len) (lfg_sub lf_var)) lfs_next) (lfs_seq (lfs_asg (lf_join (lf_c fun _ => .str " ") lf_var) (lfg_sub lf_var)) (lfs_ret (lf_join (lf_c fun _ => .str "\n") lf_var)))))))))))))))
theorem sc_read_number : FnScope ["word", "number", "sign"] ["word"] (defScope s_read_number) := ⟨rfl, rfl, rfl, by decide +kernel, rfl, by decide +kernel, by decide +kernel⟩
theorem ok_read_number {f : Addr} {fd : FuncData} (F : Fun K "read_number" "read_number" s_read_number f fd) (T : TX K mg c_InvalidText c_Keeper) : FnG P w K mg base (L2.CX P w) 1 f fd ["word"] (spL K 1 (w_read_number K c_InvalidText c_Keeper)) := by
  refine defL F sc_read_number rfl (by decide) fun cdv A outer s H E hg hr => ?_
  refine ⟨_, (pss_cons (ps_if (PW.pt (pw_or (pt_cmpR (op_eqK (K := K) rfl (un64 hr)) (pv 0) pe_str (nomark _)) (pw_or (pt_cmpR op_gt (pe_callB (call_lenK (K := K) rfl) rfl T.n_len PySem.boot_len (pa_cons (pv 0) pa_nil)) pe_int (nomark _)) (pw_or1 (pt_not (pt_truK (K := K) rfl (pe_callB (cr_allK (K := K) rfl rfl) rfl T.n_all PyProof.Rows.boot_all (pa_cons (pe_lc (own := [("sign", 2)]) rfl sc_read_number.nd (pi_seqK (K := K) rfl (pv 0)) (show BlkOk ["word", "number", "sign"] (defScope s_read_number) _ [("sign", 2)] from ⟨rfl, by decide +kernel, by decide +kernel, by decide +kernel, by decide +kernel⟩) (fun _ _ _ _ _ => (pg_name (i := 2) sc_read_number.nd rfl (by first | exact Or.inl rfl | exact Or.inr rfl))) (fun _ _ _ _ _ => pts_nil) (fun _ _ _ _ _ => (pe_cmpR (op_inEK (K := K) rfl (un65 hr)) (pv 2) (pe_gstr T.s_DIGITS) (by with_unfolding_all rfl)))) pa_nil)) (fun _ => rfl))))))) (pss_one (ps_ret pe_non)) pss_nil) (pss_cons (ps_set (i := 1) sc_read_number.nd rfl (by first | exact Or.inl rfl | exact Or.inr rfl) (pe_callTy call_intA rfl T.n_int PyProof.Rows.boot_int (pa_cons (pv 0) pa_nil))) (pss_one (ps_ret (pe_ifExp (pt_cmpR (op_eqK (K := K) rfl (un64 hr)) (pe_callTy call_str_int rfl T.n_str PyProof.Rows.boot_str (pa_cons (pv 1) pa_nil)) (pv 0) (nomark _)) (pv 1) pe_non))))), ?_⟩
  exact (lfs_seq (lfs_if (lft_or (lft_tst (lf_bin opl_eq lf_var (lf_c fun _ => .str ""))) (lft_or (lft_tst (lf_bin opl_bool0 (lf_cb cl_len (lfa_cons lf_var lfa_nil)) (lf_c fun _ => .int 80))) (lft_not (lft_tru (lf_cb cl_all (lfa_cons (lf_lc (lfi_seqU lf_var) lfg_name (own_name (by decide)) (lown_name (by decide)) lft_yes (lf_bin opl_inE lf_var (lf_c fun _ => .str "0123456789"))) lfa_nil)))))) (lfs_ret (lf_c fun _ => .non)) lfs_next) (lfs_seq (lfs_asg (lf_cb cl_int (lfa_cons lf_var lfa_nil)) lfg_name) (lfs_ret (lf_if (lft_tst (lf_bin opl_eq (lf_cb cl_str (lfa_cons lf_var lfa_nil)) lf_var)) lf_var (lf_c fun _ => .non)))))
theorem sc_read_states : FnScope ["word", "part"] ["word"] (defScope s_read_states) := ⟨rfl, rfl, rfl, by decide +kernel, rfl, by decide +kernel, by decide +kernel⟩
theorem ok_read_states {f : Addr} {fd : FuncData} (F : Fun K "read_states" "read_states" s_read_states f fd) (T : TX K mg c_InvalidText c_Keeper) (D_read_number : DefAt P w K mg base 1 "read_number" ["word"] (spL K 1 (w_read_number K c_InvalidText c_Keeper))) : FnG P w K mg base (L2.CX P w) 2 f fd ["word"] (spL K 1 (w_read_states K c_InvalidText c_Keeper)) := by
  refine defL F sc_read_states rfl (by decide) fun cdv A outer s H E hg hr => ?_
  refine ⟨_, (pss_one (ps_ret (pe_callTy (call_tupleK (K := K) rfl) rfl T.n_tuple PyProof.Rows.boot_tuple (pa_cons (pe_lc (own := [("part", 1)]) rfl sc_read_states.nd (pi_seqK (K := K) rfl (pe_splitK (pv 0) pe_str)) (show BlkOk ["word", "part"] (defScope s_read_states) _ [("part", 1)] from ⟨rfl, by decide +kernel, by decide +kernel, by decide +kernel, by decide +kernel⟩) (fun _ _ _ _ _ => (pg_name (i := 1) sc_read_states.nd rfl (by first | exact Or.inl rfl | exact Or.inr rfl))) (fun _ _ _ _ _ => pts_nil) (fun _ _ _ _ _ => (pe_d D_read_number hg hr tkB (pa_cons (pv 1) pa_nil)))) pa_nil)))), ?_⟩
  exact (lfs_ret (lf_cb cl_tuple (lfa_cons (lf_lc (lfi_seqU (lf_split lf_var (lf_c fun _ => .str ","))) lfg_name (own_name (by decide)) (lown_name (by decide)) lft_yes (lf_call (fun _ => .nil) (lfa_cons lf_var lfa_nil) fnW_len)) lfa_nil)))
theorem sc_read_line : FnScope ["line", "words"] ["line"] (defScope s_read_line) := ⟨rfl, rfl, rfl, by decide +kernel, rfl, by decide +kernel, by decide +kernel⟩
theorem ok_read_line {f : Addr} {fd : FuncData} (F : Fun K "read_line" "read_line" s_read_line f fd) (T : TX K mg c_InvalidText c_Keeper) (D_read_states : DefAt P w K mg base 2 "read_states" ["word"] (spL K 1 (w_read_states K c_InvalidText c_Keeper))) (D_read_number : DefAt P w K mg base 1 "read_number" ["word"] (spL K 1 (w_read_number K c_InvalidText c_Keeper))) : FnG P w K mg base (L2.CX P w) 3 f fd ["line"] (spL K 1 (w_read_line K c_InvalidText c_Keeper)) := by
  refine defL F sc_read_line rfl (by decide) fun cdv A outer s H E hg hr => ?_
  refine ⟨_, (pss_cons (ps_set (i := 1) sc_read_line.nd rfl (by first | exact Or.inl rfl | exact Or.inr rfl) (pe_splitK (pv 0) pe_str)) (pss_cons (ps_if (PW.pt (pw_or (pt_cmpR (op_neK (K := K) rfl (un64 hr)) (pe_callB (call_lenK (K := K) rfl) rfl T.n_len PySem.boot_len (pa_cons (pv 1) pa_nil)) pe_int (nomark _)) (pw_or1 (pt_cmpR (op_neK (K := K) rfl (un64 hr)) (pe_ev6K (K := K) rfl (pv 1)) (pe_lst (pa_cons pe_str (pa_cons pe_str (pa_cons pe_str pa_nil)))) (nomark _))))) (pss_one (ps_ret pe_non)) pss_nil) (pss_one (ps_ret (pe_tup (pa_cons (pe_d D_read_number hg hr tkD (pa_cons (pe_ix (ix_seqK (K := K) rfl) (pv 1) pe_int (fun _ _ => rfl)) pa_nil)) (pa_cons (pe_d D_read_states hg hr tkD (pa_cons (pe_ix (ix_seqK (K := K) rfl) (pv 1) pe_int (fun _ _ => rfl)) pa_nil)) (pa_cons (pe_d D_read_states hg hr tkD (pa_cons (pe_ix (ix_seqK (K := K) rfl) (pv 1) pe_int (fun _ _ => rfl)) pa_nil)) pa_nil)))))))), ?_⟩
  exact (lfs_seq (lfs_asg (lf_split lf_var (lf_c fun _ => .str " ")) lfg_name) (lfs_seq (lfs_if (lft_or (lft_tst (lf_bin opl_ne (lf_cb cl_len (lfa_cons lf_var lfa_nil)) (lf_c fun _ => .int 6))) (lft_tst (lf_bin opl_ne (lf_ev6 lf_var) (lf_lst (lfa_cons (lf_c fun _ => .str "out") (lfa_cons (lf_c fun _ => .str "hits") (lfa_cons (lf_c fun _ => .str "puts") lfa_nil))))))) (lfs_ret (lf_c fun _ => .non)) lfs_next) (lfs_ret (lf_tup (lfa_cons (lf_call (fun _ => .nil) (lfa_cons (lf_bin opl_ix lf_var (lf_c fun _ => .int 1)) lfa_nil) fnW_len) (lfa_cons (lf_call (fun _ => .nil) (lfa_cons (lf_bin opl_ix lf_var (lf_c fun _ => .int 3)) lfa_nil) fnW_len) (lfa_cons (lf_call (fun _ => .nil) (lfa_cons (lf_bin opl_ix lf_var (lf_c fun _ => .int 5)) lfa_nil) fnW_len) lfa_nil)))))))
theorem sc_ways_of : FnScope ["value"] ["value"] (defScope s_ways_of) := ⟨rfl, rfl, rfl, by decide +kernel, rfl, by decide +kernel, by decide +kernel⟩
theorem ok_ways_of {f : Addr} {fd : FuncData} (F : Fun K "ways_of" "ways_of" s_ways_of f fd) (T : TX K mg c_InvalidText c_Keeper) : FnG P w K mg base (L2.CX P w) 1 f fd ["value"] (spL K 1 (w_ways_of K c_InvalidText c_Keeper)) := by
  refine defL F sc_ways_of rfl (by decide) fun cdv A outer s H E hg hr => ?_
  refine ⟨_, (pss_cons (ps_if (PW.pt (pw_or (pt_not (pt_truK (K := K) rfl (pe_callB (call_isiKK (K := K) rfl) rfl T.n_isinstance PyProof.Rows.boot_isinstance (pa_cons (pv 0) (pa_cons (pe_bltn (v := .ty "tuple") rfl T.n_tuple PyProof.Rows.boot_tuple rfl) pa_nil))) (fun _ => rfl))) (pw_or (pt_cmpR (op_neK (K := K) rfl (un64 hr)) (pe_callB (call_lenK (K := K) rfl) rfl T.n_len PySem.boot_len (pa_cons (pv 0) pa_nil)) pe_int (nomark _)) (pw_or1 (pt_not (pt_truK (K := K) rfl (pe_callB (call_isiKK (K := K) rfl) rfl T.n_isinstance PyProof.Rows.boot_isinstance (pa_cons (pe_ix (ix_seqK (K := K) rfl) (pv 0) pe_int (fun _ _ => rfl)) (pa_cons (pe_bltn (v := .ty "tuple") rfl T.n_tuple PyProof.Rows.boot_tuple rfl) pa_nil))) (fun _ => rfl))))))) (pss_one (ps_ret pe_int)) pss_nil) (pss_one (ps_ret (pe_ifExp (pt_chain op_le op_le pe_int (pe_callB (call_lenK (K := K) rfl) rfl T.n_len PySem.boot_len (pa_cons (pe_ix (ix_seqK (K := K) rfl) (pv 0) pe_int (fun _ _ => rfl)) pa_nil)) (pe_gint T.i_MOST_WAYS)) (pe_callB (call_lenK (K := K) rfl) rfl T.n_len PySem.boot_len (pa_cons (pe_ix (ix_seqK (K := K) rfl) (pv 0) pe_int (fun _ _ => rfl)) pa_nil)) pe_int)))), ?_⟩
  exact (lfs_seq (lfs_if (lft_or (lft_not (lft_tru (lf_cb cl_isi (lfa_cons lf_var (lfa_cons (lf_c fun _ => .ty "tuple") lfa_nil))))) (lft_or (lft_tst (lf_bin opl_ne (lf_cb cl_len (lfa_cons lf_var lfa_nil)) (lf_c fun _ => .int 3))) (lft_not (lft_tru (lf_cb cl_isi (lfa_cons (lf_bin opl_ix lf_var (lf_c fun _ => .int 1)) (lfa_cons (lf_c fun _ => .ty "tuple") lfa_nil))))))) (lfs_ret (lf_c fun _ => .int 0)) lfs_next) (lfs_ret (lf_if (lft_tst (lf_chain opl_bool0 opl_bool0 (lf_c fun _ => .int 1) (lf_cb cl_len (lfa_cons (lf_bin opl_ix lf_var (lf_c fun _ => .int 1)) lfa_nil)) (lf_c fun _ => .int 4))) (lf_cb cl_len (lfa_cons (lf_bin opl_ix lf_var (lf_c fun _ => .int 1)) lfa_nil)) (lf_c fun _ => .int 0))))
theorem sc_is_integer : FnScope ["value"] ["value"] (defScope s_is_integer) := ⟨rfl, rfl, rfl, by decide +kernel, rfl, by decide +kernel, by decide +kernel⟩
theorem ok_is_integer {f : Addr} {fd : FuncData} (F : Fun K "is_integer" "is_integer" s_is_integer f fd) (T : TX K mg c_InvalidText c_Keeper) : FnG P w K mg base (L2.CX P w) 1 f fd ["value"] (spL K 1 (w_is_integer K c_InvalidText c_Keeper)) := by
  refine defL F sc_is_integer rfl (by decide) fun cdv A outer s H E hg hr => ?_
  refine ⟨_, (pss_one (ps_ret (pe_andK (K := K) rfl (pe_callB (call_isiKK (K := K) rfl) rfl T.n_isinstance PyProof.Rows.boot_isinstance (pa_cons (pv 0) (pa_cons (pe_bltn (v := .ty "int") rfl T.n_int PyProof.Rows.boot_int rfl) pa_nil))) (pe_one (pe_notK (K := K) rfl (pe_callB (call_isiKK (K := K) rfl) rfl T.n_isinstance PyProof.Rows.boot_isinstance (pa_cons (pv 0) (pa_cons (pe_bltn (v := .ty "bool") rfl T.n_bool PyProof.Rows.boot_bool rfl) pa_nil)))))))), ?_⟩
  exact (lfs_ret (lf_andV (lf_cb cl_isi (lfa_cons lf_var (lfa_cons (lf_c fun _ => .ty "int") lfa_nil))) (lf_notV (lf_cb cl_isi (lfa_cons lf_var (lfa_cons (lf_c fun _ => .ty "bool") lfa_nil))))))
theorem sc_is_within : FnScope ["value", "least", "most"] ["value", "least", "most"] (defScope s_is_within) := ⟨rfl, rfl, rfl, by decide +kernel, rfl, by decide +kernel, by decide +kernel⟩
theorem ok_is_within {f : Addr} {fd : FuncData} (F : Fun K "is_within" "is_within" s_is_within f fd) (T : TX K mg c_InvalidText c_Keeper) (D_is_integer : DefAt P w K mg base 1 "is_integer" ["value"] (spL K 1 (w_is_integer K c_InvalidText c_Keeper))) : FnG P w K mg base (L2.CX P w) 2 f fd ["value", "least", "most"] (spL K 3 (w_is_within K c_InvalidText c_Keeper)) := by
  refine defL F sc_is_within rfl (by decide) fun cdv A outer s H E hg hr => ?_
  refine ⟨_, (pss_one (ps_ret (pe_andK (K := K) rfl (pe_d D_is_integer hg hr tkD (pa_cons (pv 0) pa_nil)) (pe_one (pe_chain op_le op_le (pv 1) (pv 0) (pv 2)))))), ?_⟩
  exact (lfs_ret (lf_andV (lf_call (fun _ => .nil) (lfa_cons lf_var lfa_nil) fnW_len) (lf_chain opl_bool0 opl_bool0 lf_var lf_var lf_var)))
theorem sc_are_states : FnScope ["value", "ways", "many", "state"] ["value", "ways", "many"] (defScope s_are_states) := ⟨rfl, rfl, rfl, by decide +kernel, rfl, by decide +kernel, by decide +kernel⟩
theorem ok_are_states {f : Addr} {fd : FuncData} (F : Fun K "are_states" "are_states" s_are_states f fd) (T : TX K mg c_InvalidText c_Keeper) (D_is_within : DefAt P w K mg base 2 "is_within" ["value", "least", "most"] (spL K 3 (w_is_within K c_InvalidText c_Keeper))) : FnG P w K mg base (L2.CX P w) 3 f fd ["value", "ways", "many"] (spL K 3 (w_are_states K c_InvalidText c_Keeper)) := by
  refine defL F sc_are_states rfl (by decide) fun cdv A outer s H E hg hr => ?_
  refine ⟨_, (pss_one (ps_ret (pe_andK (K := K) rfl (pe_callB (call_isiKK (K := K) rfl) rfl T.n_isinstance PyProof.Rows.boot_isinstance (pa_cons (pv 0) (pa_cons (pe_bltn (v := .ty "tuple") rfl T.n_tuple PyProof.Rows.boot_tuple rfl) pa_nil))) (pe_andK (K := K) rfl (pe_cmpR (op_eqK (K := K) rfl (un64 hr)) (pe_callB (call_lenK (K := K) rfl) rfl T.n_len PySem.boot_len (pa_cons (pv 0) pa_nil)) (pv 1) (nomark _)) (pe_one (pe_callB (cr_allK (K := K) rfl rfl) rfl T.n_all PyProof.Rows.boot_all (pa_cons (pe_lc (own := [("state", 3)]) rfl sc_are_states.nd (pi_seqK (K := K) rfl (pv 0)) (show BlkOk ["value", "ways", "many", "state"] (defScope s_are_states) _ [("state", 3)] from ⟨rfl, by decide +kernel, by decide +kernel, by decide +kernel, by decide +kernel⟩) (fun _ _ _ _ _ => (pg_name (i := 3) sc_are_states.nd rfl (by first | exact Or.inl rfl | exact Or.inr rfl))) (fun _ _ _ _ _ => pts_nil) (fun _ _ _ _ _ => (pe_d D_is_within hg hr tkB (pa_cons (pv 3) (pa_cons pe_int (pa_cons (pe_op op_sub (pv 2) pe_int) pa_nil)))))) pa_nil))))))), ?_⟩
  exact (lfs_ret (lf_andV (lf_cb cl_isi (lfa_cons lf_var (lfa_cons (lf_c fun _ => .ty "tuple") lfa_nil))) (lf_andV (lf_bin opl_eq (lf_cb cl_len (lfa_cons lf_var lfa_nil)) lf_var) (lf_cb cl_all (lfa_cons (lf_lc (lfi_seqU lf_var) lfg_name (own_name (by decide)) (lown_name (by decide)) lft_yes (lf_call (fun _ => .nil) (lfa_cons lf_var (lfa_cons (lf_c fun _ => .int 0) (lfa_cons (lf_bin opl_int0 lf_var (lf_c fun _ => .int 1)) lfa_nil))) fnW_len)) lfa_nil)))))
theorem sc_is_line : FnScope ["value", "ways", "many"] ["value", "ways", "many"] (defScope s_is_line) := ⟨rfl, rfl, rfl, by decide +kernel, rfl, by decide +kernel, by decide +kernel⟩
theorem ok_is_line {f : Addr} {fd : FuncData} (F : Fun K "is_line" "is_line" s_is_line f fd) (T : TX K mg c_InvalidText c_Keeper) (D_is_within : DefAt P w K mg base 2 "is_within" ["value", "least", "most"] (spL K 3 (w_is_within K c_InvalidText c_Keeper))) (D_are_states : DefAt P w K mg base 3 "are_states" ["value", "ways", "many"] (spL K 3 (w_are_states K c_InvalidText c_Keeper))) : FnG P w K mg base (L2.CX P w) 4 f fd ["value", "ways", "many"] (spL K 3 (w_is_line K c_InvalidText c_Keeper)) := by
  refine defL F sc_is_line rfl (by decide) fun cdv A outer s H E hg hr => ?_
  refine ⟨_, (pss_cons (ps_if (PW.pt (pw_or (pt_not (pt_truK (K := K) rfl (pe_callB (call_isiKK (K := K) rfl) rfl T.n_isinstance PyProof.Rows.boot_isinstance (pa_cons (pv 0) (pa_cons (pe_bltn (v := .ty "tuple") rfl T.n_tuple PyProof.Rows.boot_tuple rfl) pa_nil))) (fun _ => rfl))) (pw_or (pt_cmpR (op_neK (K := K) rfl (un64 hr)) (pe_callB (call_lenK (K := K) rfl) rfl T.n_len PySem.boot_len (pa_cons (pv 0) pa_nil)) pe_int (nomark _)) (pw_or1 (pt_not (pt_truK (K := K) rfl (pe_d D_is_within hg hr tkD (pa_cons (pe_ix (ix_seqK (K := K) rfl) (pv 0) pe_int (fun _ _ => rfl)) (pa_cons pe_int (pa_cons (pe_op op_sub (pv 1) pe_int) pa_nil)))) (fun _ => rfl))))))) (pss_one (ps_ret pe_bl)) pss_nil) (pss_one (ps_ret (pe_andK (K := K) rfl (pe_d D_are_states hg hr tkD (pa_cons (pe_ix (ix_seqK (K := K) rfl) (pv 0) pe_int (fun _ _ => rfl)) (pa_cons (pv 1) (pa_cons (pv 2) pa_nil)))) (pe_one (pe_d D_are_states hg hr tkD (pa_cons (pe_ix (ix_seqK (K := K) rfl) (pv 0) pe_int (fun _ _ => rfl)) (pa_cons (pv 1) (pa_cons (pv 2) pa_nil))))))))), ?_⟩
  exact (lfs_seq (lfs_if (lft_or (lft_not (lft_tru (lf_cb cl_isi (lfa_cons lf_var (lfa_cons (lf_c fun _ => .ty "tuple") lfa_nil))))) (lft_or (lft_tst (lf_bin opl_ne (lf_cb cl_len (lfa_cons lf_var lfa_nil)) (lf_c fun _ => .int 3))) (lft_not (lft_tru (lf_call (fun _ => .nil) (lfa_cons (lf_bin opl_ix lf_var (lf_c fun _ => .int 0)) (lfa_cons (lf_c fun _ => .int 0) (lfa_cons (lf_bin opl_int0 lf_var (lf_c fun _ => .int 1)) lfa_nil))) fnW_len))))) (lfs_ret (lf_c fun _ => .bl false)) lfs_next) (lfs_ret (lf_andV (lf_call (fun _ => .nil) (lfa_cons (lf_bin opl_ix lf_var (lf_c fun _ => .int 1)) (lfa_cons lf_var (lfa_cons lf_var lfa_nil))) fnW_len) (lf_call (fun _ => .nil) (lfa_cons (lf_bin opl_ix lf_var (lf_c fun _ => .int 2)) (lfa_cons lf_var (lfa_cons lf_var lfa_nil))) fnW_len))))
theorem sc_wrong_line : FnScope ["rows", "ways", "at", "row"] ["rows"] (defScope s_wrong_line) := ⟨rfl, rfl, rfl, by decide +kernel, rfl, by decide +kernel, by decide +kernel⟩
theorem ok_wrong_line {f : Addr} {fd : FuncData} (F : Fun K "wrong_line" "wrong_line" s_wrong_line f fd) (T : TX K mg c_InvalidText c_Keeper) (D_ways_of : DefAt P w K mg base 1 "ways_of" ["value"] (spL K 1 (w_ways_of K c_InvalidText c_Keeper))) (D_is_line : DefAt P w K mg base 4 "is_line" ["value", "ways", "many"] (spL K 3 (w_is_line K c_InvalidText c_Keeper))) : FnG P w K mg base (L2.CX P w) 5 f fd ["rows"] (spL K 1 (w_wrong_line K c_InvalidText c_Keeper)) := by
  refine defL F sc_wrong_line rfl (by decide) fun cdv A outer s H E hg hr => ?_
  refine ⟨_, (pss_cons (ps_if (PW.pt (pw_or (pt_not (pt_truK (K := K) rfl (pe_callB (call_isiKK (K := K) rfl) rfl T.n_isinstance PyProof.Rows.boot_isinstance (pa_cons (pv 0) (pa_cons (pe_bltn (v := .ty "tuple") rfl T.n_tuple PyProof.Rows.boot_tuple rfl) pa_nil))) (fun _ => rfl))) (pw_or1 (pt_cmpR (op_eqK (K := K) rfl (un64 hr)) (pe_callB (call_lenK (K := K) rfl) rfl T.n_len PySem.boot_len (pa_cons (pv 0) pa_nil)) pe_int (nomark _))))) (pss_one (ps_ret (pe_tup (pa_cons pe_non pa_nil)))) pss_nil) (pss_cons (ps_set (i := 1) sc_wrong_line.nd rfl (by first | exact Or.inl rfl | exact Or.inr rfl) (pe_d D_ways_of hg hr tkD (pa_cons (pe_ix (ix_seqK (K := K) rfl) (pv 0) pe_int (fun _ _ => rfl)) pa_nil))) (pss_cons (ps_for ownD rfl (pi_enumU rfl T.n_enumerate (pa_cons (pv 0) pa_nil)) (pg_tupK (K := K) (n := 2) rfl rfl (pgs_cons (pg_name (i := 2) sc_wrong_line.nd rfl (by first | exact Or.inl rfl | exact Or.inr rfl)) (pgs_cons (pg_name (i := 3) sc_wrong_line.nd rfl (by first | exact Or.inl rfl | exact Or.inr rfl)) pgs_nil))) (pss_one (ps_if (PW.pt (pw_or (pt_cmpR (op_eqK (K := K) rfl (un64 hr)) (pv 1) pe_int (nomark _)) (pw_or (pt_cmpR op_ge (pv 2) (pe_gint T.i_MOST_STATES) (nomark _)) (pw_or1 (pt_not (pt_truK (K := K) rfl (pe_d D_is_line hg hr tkD (pa_cons (pv 3) (pa_cons (pv 1) (pa_cons (pe_callB (call_lenK (K := K) rfl) rfl T.n_len PySem.boot_len (pa_cons (pv 0) pa_nil)) pa_nil)))) (fun _ => rfl))))))) (pss_one (ps_ret (pe_tup (pa_cons (pv 2) pa_nil)))) pss_nil))) (pss_one (ps_ret (pe_tup pa_nil)))))), ?_⟩
  exact (lfs_seq (lfs_if (lft_or (lft_not (lft_tru (lf_cb cl_isi (lfa_cons lf_var (lfa_cons (lf_c fun _ => .ty "tuple") lfa_nil))))) (lft_tst (lf_bin opl_eq (lf_cb cl_len (lfa_cons lf_var lfa_nil)) (lf_c fun _ => .int 0)))) (lfs_ret (lf_tup (lfa_cons (lf_c fun _ => .non) lfa_nil))) lfs_next) (lfs_seq (lfs_asg (lf_call (fun _ => .nil) (lfa_cons (lf_bin opl_ix lf_var (lf_c fun _ => .int 0)) lfa_nil) fnW_len) lfg_name) (lfs_seq (lfs_for (lfi_enumU (lfa_cons lf_var lfa_nil)) (lfg_tup (lfgs_cons lfg_name (lfgs_cons lfg_name lfgs_nil))) (lfs_if (lft_or (lft_tst (lf_bin opl_eq lf_var (lf_c fun _ => .int 0))) (lft_or (lft_tst (lf_bin opl_bool0 lf_var (lf_c fun _ => .int 40))) (lft_not (lft_tru (lf_call (fun _ => .nil) (lfa_cons lf_var (lfa_cons lf_var (lfa_cons (lf_cb cl_len (lfa_cons lf_var lfa_nil)) lfa_nil))) fnW_len))))) (lfs_ret (lf_tup (lfa_cons lf_var lfa_nil))) lfs_next)) (lfs_ret (lf_tup lfa_nil)))))
theorem sc_read_keeper : FnScope ["text", "rows", "line"] ["text"] (defScope s_read_keeper) := ⟨rfl, rfl, rfl, by decide +kernel, rfl, by decide +kernel, by decide +kernel⟩
theorem ok_read_keeper {f : Addr} {fd : FuncData} (F : Fun K "read_keeper" "read_keeper" s_read_keeper f fd) (T : TX K mg c_InvalidText c_Keeper) (D_read_line : DefAt P w K mg base 3 "read_line" ["line"] (spL K 1 (w_read_line K c_InvalidText c_Keeper))) (D_wrong_line : DefAt P w K mg base 5 "wrong_line" ["rows"] (spL K 1 (w_wrong_line K c_InvalidText c_Keeper))) : FnG P w K mg base (L2.CX P w) 6 f fd ["text"] (spL K 1 (w_read_keeper K c_InvalidText c_Keeper)) := by
  refine defL F sc_read_keeper rfl (by decide) fun cdv A outer s H E hg hr => ?_
  refine ⟨_, (pss_cons (ps_if (pt_not (pt_truK (K := K) rfl (pe_callB (call_isiKK (K := K) rfl) rfl T.n_isinstance PyProof.Rows.boot_isinstance (pa_cons (pv 0) (pa_cons (pe_bltn (v := .ty "str") rfl T.n_str PyProof.Rows.boot_str rfl) pa_nil))) (fun _ => rfl))) (pss_one (ps_ret pe_non)) pss_nil) (pss_cons (ps_set (i := 1) sc_read_keeper.nd rfl (by first | exact Or.inl rfl | exact Or.inr rfl) (pe_callTy (call_tupleK (K := K) rfl) rfl T.n_tuple PyProof.Rows.boot_tuple (pa_cons (pe_lc (own := [("line", 2)]) rfl sc_read_keeper.nd (pi_seqK (K := K) rfl (pe_splitK (pv 0) pe_str)) (show BlkOk ["text", "rows", "line"] (defScope s_read_keeper) _ [("line", 2)] from ⟨rfl, by decide +kernel, by decide +kernel, by decide +kernel, by decide +kernel⟩) (fun _ _ _ _ _ => (pg_name (i := 2) sc_read_keeper.nd rfl (by first | exact Or.inl rfl | exact Or.inr rfl))) (fun _ _ _ _ _ => pts_nil) (fun _ _ _ _ _ => (pe_d D_read_line hg hr tkB (pa_cons (pv 2) pa_nil)))) pa_nil))) (pss_one (ps_ret (pe_ifExp (pt_cmpR (op_eqK (K := K) rfl (un64 hr)) (pe_d D_wrong_line hg hr tkD (pa_cons (pv 1) pa_nil)) (pe_tup pa_nil) (nomark _)) (pv 1) pe_non))))), ?_⟩
  exact (lfs_seq (lfs_if (lft_not (lft_tru (lf_cb cl_isi (lfa_cons lf_var (lfa_cons (lf_c fun _ => .ty "str") lfa_nil))))) (lfs_ret (lf_c fun _ => .non)) lfs_next) (lfs_seq (lfs_asg (lf_cb cl_tuple (lfa_cons (lf_lc (lfi_seqU (lf_split lf_var (lf_c fun _ => .str "\n"))) lfg_name (own_name (by decide)) (lown_name (by decide)) lft_yes (lf_call (fun _ => .nil) (lfa_cons lf_var lfa_nil) fnW_len)) lfa_nil)) lfg_name) (lfs_ret (lf_if (lft_tst (lf_bin opl_eq (lf_call (fun _ => .nil) (lfa_cons lf_var lfa_nil) fnW_len) (lf_tup lfa_nil))) lf_var (lf_c fun _ => .non)))))
theorem sc_Keeper__init : FnScope ["self", "rows", "wrong"] ["self", "rows"] (defScope s_Keeper__init) := ⟨rfl, rfl, rfl, by decide +kernel, rfl, by decide +kernel, by decide +kernel⟩
theorem ok_Keeper__init {f : Addr} {fd : FuncData} (F : Fun K "__init__" "Keeper.__init__" s_Keeper__init f fd) (T : TX K mg c_InvalidText c_Keeper) (D_wrong_line : DefAt P w K mg base 5 "wrong_line" ["rows"] (spL K 1 (w_wrong_line K c_InvalidText c_Keeper))) : FnG P w K mg base (L2.CX P w) 6 f fd ["self", "rows"] (spL K 2 (w_Keeper__init K c_InvalidText c_Keeper)) := by
  refine defL F sc_Keeper__init rfl (by decide) fun cdv A outer s H E hg hr => ?_
  refine ⟨_, (pss_cons (ps_set (i := 2) sc_Keeper__init.nd rfl (by first | exact Or.inl rfl | exact Or.inr rfl) (pe_d D_wrong_line hg hr tkD (pa_cons (pv 1) pa_nil))) (pss_cons (ps_if (pt_cmpR (op_neK (K := K) rfl (un64 hr)) (pv 2) (pe_tup pa_nil) (nomark _)) (pss_one ps_never) pss_nil) (pss_one (ps_fld (pv 0) (pv 1) rfl)))), ?_⟩
  exact (lfs_seq (lfs_asg (lf_call (fun _ => .nil) (lfa_cons lf_var lfa_nil) fnW_len) lfg_name) (lfs_seq (lfs_if (lft_tst (lf_bin opl_ne lf_var (lf_tup lfa_nil))) lfs_never lfs_next) (lfs_fld lf_var)))
theorem sc_Keeper_read : FnScope ["cls", "text", "found"] ["cls", "text"] (defScope s_Keeper_read) := ⟨rfl, rfl, rfl, by decide +kernel, rfl, by decide +kernel, by decide +kernel⟩
theorem ok_Keeper_read {f : Addr} {fd : FuncData} (F : Fun K "read" "Keeper.read" s_Keeper_read f fd) (T : TX K mg c_InvalidText c_Keeper) (D_read_keeper : DefAt P w K mg base 6 "read_keeper" ["text"] (spL K 1 (w_read_keeper K c_InvalidText c_Keeper))) (D_Keeper__init : MakeAt P w K mg base 6 "Keeper" c_Keeper ["self", "rows"] (spL K 2 (w_Keeper__init K c_InvalidText c_Keeper))) : FnG P w K mg base (L2.CX P w) 8 f fd ["cls", "text"] (spL K 2 (w_Keeper_read K c_InvalidText c_Keeper)) := by
  refine defL F sc_Keeper_read rfl (by decide) fun cdv A outer s H E hg hr => ?_
  refine ⟨_, (pss_cons (ps_set (i := 2) sc_Keeper_read.nd rfl (by first | exact Or.inl rfl | exact Or.inr rfl) (pe_d D_read_keeper hg hr tkD (pa_cons (pv 1) pa_nil))) (pss_cons (ps_if (pt_cmpR op_isN (pv 2) pe_non (nomark _)) (pss_one (ps_raiseLow_given rfl T.low_InvalidText.choose_spec hr tkD (pa_cons (pv 1) pa_nil))) pss_nil) (pss_one (ps_ret (pe_mkv D_Keeper__init hg hr tkD (pv 0) (pa_cons (pv 2) pa_nil)))))), ?_⟩
  exact (lfs_seq (lfs_asg (lf_call (fun _ => .nil) (lfa_cons lf_var lfa_nil) fnW_len) lfg_name) (lfs_seq (lfs_if (lft_tst (lf_bin opl_isN lf_var (lf_c fun _ => .non))) (lfs_raise_given lf_var) lfs_next) (lfs_ret (lf_mkv lf_var (lfa_cons lf_var lfa_nil) fnW_len))))
theorem sc_Keeper__str : FnScope ["self", "lines", "out", "hits", "puts", "first", "second", "part", "state"] ["self"] (defScope s_Keeper__str) := ⟨rfl, rfl, rfl, by decide +kernel, rfl, by decide +kernel, by decide +kernel⟩
theorem ok_Keeper__str {f : Addr} {fd : FuncData} (F : Fun K "__str__" "Keeper.__str__" s_Keeper__str f fd) (T : TX K mg c_InvalidText c_Keeper) : FnG P w K mg base (L2.CX P w) 1 f fd ["self"] (spL K 1 (w_Keeper__str K c_InvalidText c_Keeper)) := by
  refine defL F sc_Keeper__str rfl (by decide) fun cdv A outer s H E hg hr => ?_
  refine ⟨_, (pss_cons (ps_set (i := 1) sc_Keeper__str.nd rfl (by first | exact Or.inl rfl | exact Or.inr rfl) (pe_lst pa_nil)) (pss_cons (ps_for ownD rfl (pi_seqK (K := K) rfl (pe_fldK (K := K) rfl (pv 0) rfl)) (pg_tupK (K := K) (n := 3) rfl rfl (pgs_cons (pg_name (i := 2) sc_Keeper__str.nd rfl (by first | exact Or.inl rfl | exact Or.inr rfl)) (pgs_cons (pg_name (i := 3) sc_Keeper__str.nd rfl (by first | exact Or.inl rfl | exact Or.inr rfl)) (pgs_cons (pg_name (i := 4) sc_Keeper__str.nd rfl (by first | exact Or.inl rfl | exact Or.inr rfl)) pgs_nil)))) (pss_cons (ps_asg (pe_lc (own := [("part", 7)]) rfl sc_Keeper__str.nd (pi_seqK (K := K) rfl (pe_tup (pa_cons (pv 3) (pa_cons (pv 4) pa_nil)))) (show BlkOk ["self", "lines", "out", "hits", "puts", "first", "second", "part", "state"] (defScope s_Keeper__str) _ [("part", 7)] from ⟨rfl, by decide +kernel, by decide +kernel, by decide +kernel, by decide +kernel⟩) (fun _ _ _ _ _ => (pg_name (i := 7) sc_Keeper__str.nd rfl (by first | exact Or.inl rfl | exact Or.inr rfl))) (fun _ _ _ _ _ => pts_nil) (fun _ _ _ _ _ => (pe_joinK (K := K) rfl pe_str (pe_lc (own := [("state", 8)]) rfl sc_Keeper__str.nd (pi_seqK (K := K) rfl (pv 7)) (by change BlkOk ["self", "lines", "out", "hits", "puts", "first", "second", "part", "state"] ⟨_, _, _, _, _⟩ ⟨_, _, _, _, _⟩ [("state", 8)]; exact ⟨rfl, by decide +kernel, by decide +kernel, fun y hy e => absurd e (noFree (by decide +kernel) y hy), by decide +kernel⟩) (fun _ _ _ _ _ => (pg_name (i := 8) sc_Keeper__str.nd rfl (by first | exact Or.inl rfl | exact Or.inr rfl))) (fun _ _ _ _ _ => pts_nil) (fun _ _ _ _ _ => (pe_callTy call_str_int rfl T.n_str PyProof.Rows.boot_str (pa_cons (pv 8) pa_nil))))))) (pg_unlK (K := K) (n := 2) rfl rfl (pgs_cons (pg_name (i := 5) sc_Keeper__str.nd rfl (by first | exact Or.inl rfl | exact Or.inr rfl)) (pgs_cons (pg_name (i := 6) sc_Keeper__str.nd rfl (by first | exact Or.inl rfl | exact Or.inr rfl)) pgs_nil)))) (pss_one (ps_expr (pe_bm PySem.F.plainAttrs_list PySem.F.slot_list_append PySem.F.type_list_append mt_append (pv 1) (pa_cons (pe_joined (.cons pe_str (.cons (pe_fmt (pv 2)) (.cons pe_str (.cons (pe_fmt (pv 5)) (.cons pe_str (.cons (pe_fmt (pv 6)) .nil))))))) pa_nil)))))) (pss_one (ps_ret (pe_joinK (K := K) rfl pe_str (pv 1)))))), ?_⟩
  exact (lfs_seq (lfs_asgN (lfn_lst lfa_nil)) (lfs_seq (lfs_for (lfi_seqU (lf_fld lf_var)) (lfg_tup (lfgs_cons lfg_name (lfgs_cons lfg_name (lfgs_cons lfg_name lfgs_nil)))) (lfs_seq (lfs_asg (lf_lc (lfi_seqU (lf_tup (lfa_cons lf_var (lfa_cons lf_var lfa_nil)))) lfg_name (own_name (by decide)) (lown_name (by decide)) lft_yes (lf_join (lf_c fun _ => .str ",") (lf_lc (lfi_seqU lf_var) lfg_name (own_name (by decide)) (lown_name (by decide)) lft_yes (lf_cb cl_str (lfa_cons lf_var lfa_nil))))) (lfg_unl (lfgs_cons lfg_name (lfgs_cons lfg_name lfgs_nil)))) (lfs_append (lf_fstr (.cons (lf_c fun _ => .str "out ") (.cons (lf_fmt lf_var) (.cons (lf_c fun _ => .str " hits ") (.cons (lf_fmt lf_var) (.cons (lf_c fun _ => .str " puts ") (.cons (lf_fmt lf_var) .nil)))))))))) (lfs_ret (lf_join (lf_c fun _ => .str "\n") lf_var))))
theorem sc_Keeper_rows : FnScope ["self"] ["self"] (defScope s_Keeper_rows) := ⟨rfl, rfl, rfl, by decide +kernel, rfl, by decide +kernel, by decide +kernel⟩
theorem ok_Keeper_rows {f : Addr} {fd : FuncData} (F : Fun K "rows" "Keeper.rows" s_Keeper_rows f fd) (T : TX K mg c_InvalidText c_Keeper) : FnG P w K mg base (L2.CX P w) 1 f fd ["self"] (spL K 1 (w_Keeper_rows K c_InvalidText c_Keeper)) := by
  refine defL F sc_Keeper_rows rfl (by decide) fun cdv A outer s H E hg hr => ?_
  refine ⟨_, (pss_one (ps_ret (pe_fldK (K := K) rfl (pv 0) rfl))), ?_⟩
  exact (lfs_ret (lf_fld lf_var))
theorem sc_law_outcome : FnScope ["_law_sheet_here", "e", "_law_made"] ["_law_sheet_here"] (defScope s_law_outcome) := ⟨rfl, rfl, rfl, by decide +kernel, rfl, by decide +kernel, by decide +kernel⟩
theorem ok_law_outcome {f : Addr} {fd : FuncData} (F : Fun K "_law_outcome" "_law_outcome" s_law_outcome f fd) (T : TX K mg c_InvalidText c_Keeper) (D_Keeper_read : CMetAt P w K mg base 8 c_Keeper "read" ["cls", "text"] (spL K 2 (w_Keeper_read K c_InvalidText c_Keeper))) (D_Keeper__str : MethAt P w K mg base 1 c_Keeper "__str__" (spL K 1 (w_Keeper__str K c_InvalidText c_Keeper))) (D_Keeper_rows : PropAt P w K mg base 1 c_Keeper "rows" (spL K 1 (w_Keeper_rows K c_InvalidText c_Keeper))) : FnG P w K mg base (L2.CX P w) 9 f fd ["_law_sheet_here"] (spL K 1 (w_law_outcome K c_InvalidText c_Keeper)) := by
  refine defL F sc_law_outcome rfl (by decide) fun cdv A outer s H E hg hr => ?_
  refine ⟨_, (pss_cons (ps_try_as (i := 1) rfl rfl sc_law_outcome.nd rfl rfl ⟨rfl, by decide, .inl T.low_InvalidText.choose_spec.gC⟩ tkD (fun W pn xe tk _ => (pss_one (ps_set (i := 2) sc_law_outcome.nd rfl (by first | exact Or.inl rfl | exact Or.inr rfl) (by exact (pe_cm D_Keeper_read hg hr tk (pe_glob (v := .ref c_Keeper) rfl T.gc_Keeper rfl) (pa_cons (pv 0) pa_nil)))))) (fun a oe cls dx pn hz hf => (pss_one (ps_ret (by exact (pe_lst (pa_cons pe_str (pa_cons (pe_callB (call_reprEK (K := K) rfl hg (by have h9 := un66 hr; exact h9)) rfl T.n_repr PyProof.Rows.boot_repr (pa_cons (pe_byLow_given T.low_InvalidText.choose_spec hz hf (pv 1)) pa_nil)) pa_nil)))))))) (pss_one (ps_ret (pe_lst (pa_cons pe_str (pa_cons (pe_callB (call_reprEK (K := K) rfl hg (un66 hr)) rfl T.n_repr PyProof.Rows.boot_repr (pa_cons (pe_pr D_Keeper_rows hg hr (pv 2)) pa_nil)) (pa_cons (pe_callTy (call_strO D_Keeper__str hg hr) rfl T.n_str PyProof.Rows.boot_str (pa_cons (pv 2) pa_nil)) pa_nil))))))), ?_⟩
  exact (lfs_seq (lfs_tryAs (fun W => (lfs_asg (lf_cm (lf_c fun _ => .fn c_Keeper) (lfa_cons lf_var lfa_nil) fnW_len) lfg_name)) (fun a cls dx => (lfs_ret (lf_lst (lfa_cons (lf_c fun _ => .str "refused") (lfa_cons (lf_cb cl_reprE (lfa_cons lf_by_given lfa_nil)) lfa_nil)))))) (lfs_ret (lf_lst (lfa_cons (lf_c fun _ => .str "told") (lfa_cons (lf_cb cl_reprE (lfa_cons (lf_prop (fun _ => .nil) lf_var fnW_len) lfa_nil)) (lfa_cons (lf_strO lf_var fnW_len) lfa_nil))))))
theorem sc_law_right : FnScope ["_law_jar_here", "_law_words", "_law_turn", "_law_sheet_here", "_law_thing", "_law_again", "_law_due"] ["_law_jar_here"] (defScope s_law_right) := ⟨rfl, rfl, rfl, by decide +kernel, rfl, by decide +kernel, by decide +kernel⟩
theorem ok_law_right {f : Addr} {fd : FuncData} (F : Fun K "_law_right" "_law_right" s_law_right f fd) (T : TX K mg c_InvalidText c_Keeper) (D_law_sheet : DefAt P w K mg base 1 "_law_sheet" ["_law_table_here"] (spL K 1 (w_law_sheet K c_InvalidText c_Keeper))) (D_law_table : DefAt P w K mg base 2 "_law_table" ["_law_jar_here", "_law_most"] (spL K 2 (w_law_table K c_InvalidText c_Keeper))) (D_law_bent : DefAt P w K mg base 3 "_law_bent" ["_law_jar_here", "_law_sheet_here", "_law_words"] (spL K 3 (w_law_bent K c_InvalidText c_Keeper))) (D_law_read : DefAt P w K mg base 5 "_law_read" ["_law_sheet_here"] (spL K 1 (w_law_read K c_InvalidText c_Keeper))) (D_law_outcome : DefAt P w K mg base 9 "_law_outcome" ["_law_sheet_here"] (spL K 1 (w_law_outcome K c_InvalidText c_Keeper))) : FnG P w K mg base (L2.CX P w) 10 f fd ["_law_jar_here"] (spL K 1 (w_law_right K c_InvalidText c_Keeper)) := by
  refine defL F sc_law_right rfl (by decide) fun cdv A outer s H E hg hr => ?_
  refine ⟨_, (pss_cons (ps_set (i := 1) sc_law_right.nd rfl (by first | exact Or.inl rfl | exact Or.inr rfl) (pe_lst (pa_cons pe_str (pa_cons pe_str (pa_cons pe_str (pa_cons pe_str (pa_cons pe_str (pa_cons pe_str (pa_cons pe_str (pa_cons pe_str (pa_cons pe_str (pa_cons pe_str (pa_cons pe_str (pa_cons pe_str (pa_cons pe_str (pa_cons pe_str (pa_cons pe_str (pa_cons pe_str (pa_cons pe_str pa_nil))))))))))))))))))) (pss_cons (ps_for ownD rfl (pi_range1 rfl T.n_range (pa_cons pe_int pa_nil)) (pg_name (i := 2) sc_law_right.nd rfl (by first | exact Or.inl rfl | exact Or.inr rfl)) (pss_cons (ps_set (i := 3) sc_law_right.nd rfl (by first | exact Or.inl rfl | exact Or.inr rfl) (pe_d D_law_sheet hg hr tkD (pa_cons (pe_d D_law_table hg hr tkD (pa_cons (pv 0) (pa_cons pe_int pa_nil))) pa_nil))) (pss_cons (ps_for ownD rfl (pi_range1 rfl T.n_range (pa_cons (pe_op (op_addK (K := K) rfl) pe_int (pe_op op_mod (pe_callTy call_intA rfl T.n_int PyProof.Rows.boot_int (pa_cons (pv 2) pa_nil)) pe_int)) pa_nil)) (pg_name (i := 5) sc_law_right.nd rfl (by first | exact Or.inl rfl | exact Or.inr rfl)) (pss_one (ps_set (i := 3) sc_law_right.nd rfl (by first | exact Or.inl rfl | exact Or.inr rfl) (pe_d D_law_bent hg hr tkD (pa_cons (pv 0) (pa_cons (pv 3) (pa_cons (pv 1) pa_nil))))))) (pss_cons (ps_set (i := 6) sc_law_right.nd rfl (by first | exact Or.inl rfl | exact Or.inr rfl) (pe_d D_law_read hg hr tkD (pa_cons (pv 3) pa_nil))) (pss_one (ps_if (pt_cmpR (op_neK (K := K) rfl (un64 hr)) (pe_d D_law_outcome hg hr tkD (pa_cons (pv 3) pa_nil)) (pe_ifExp (pt_cmpR op_isN (pv 6) pe_non (nomark _)) (pe_lst (pa_cons pe_str (pa_cons (pe_callB (call_reprEK (K := K) rfl hg (un66 hr)) rfl T.n_repr PyProof.Rows.boot_repr (pa_cons (pv 3) pa_nil)) pa_nil))) (pe_lst (pa_cons pe_str (pa_cons (pe_callB (call_reprEK (K := K) rfl hg (un66 hr)) rfl T.n_repr PyProof.Rows.boot_repr (pa_cons (pv 6) pa_nil)) (pa_cons (pv 3) pa_nil))))) (nomark _)) (pss_one (ps_ret pe_bl)) pss_nil)))))) (pss_cons (ps_set (i := 3) sc_law_right.nd rfl (by first | exact Or.inl rfl | exact Or.inr rfl) (pe_d D_law_sheet hg hr tkD (pa_cons (pe_d D_law_table hg hr tkD (pa_cons (pv 0) (pa_cons pe_int pa_nil))) pa_nil))) (pss_cons (ps_for ownD rfl (pi_seqK (K := K) rfl (pe_lst (pa_cons pe_non (pa_cons pe_bl (pa_cons pe_int (pa_cons pe_str (pa_cons (pe_tup (pa_cons (pv 3) pa_nil)) (pa_cons (pe_lst (pa_cons (pv 3) pa_nil)) (pa_cons pe_dnewK (pa_cons (pe_op (op_addK (K := K) rfl) (pv 3) pe_str) (pa_cons (pe_op (op_addK (K := K) rfl) pe_str (pv 3)) (pa_cons (pe_op (op_addK (K := K) rfl) (pv 3) pe_str) (pa_cons (pe_op op_pow pe_int pe_int) pa_nil))))))))))))) (pg_name (i := 4) sc_law_right.nd rfl (by first | exact Or.inl rfl | exact Or.inr rfl)) (pss_one (ps_if (pt_cmpR (op_neK (K := K) rfl (un64 hr)) (pe_d D_law_outcome hg hr tkD (pa_cons (pv 4) pa_nil)) (pe_lst (pa_cons pe_str (pa_cons (pe_callB (call_reprEK (K := K) rfl hg (un66 hr)) rfl T.n_repr PyProof.Rows.boot_repr (pa_cons (pv 4) pa_nil)) pa_nil))) (nomark _)) (pss_one (ps_ret pe_bl)) pss_nil))) (pss_one (ps_ret pe_bl)))))), ?_⟩
  exact (lfs_seq (lfs_asg (lf_lst (lfa_cons (lf_c fun _ => .str "") (lfa_cons (lf_c fun _ => .str "0") (lfa_cons (lf_c fun _ => .str "1") (lfa_cons (lf_c fun _ => .str "2") (lfa_cons (lf_c fun _ => .str "00") (lfa_cons (lf_c fun _ => .str "0,0") (lfa_cons (lf_c fun _ => .str "0,1") (lfa_cons (lf_c fun _ => .str "1,0,0") (lfa_cons (lf_c fun _ => .str "-1") (lfa_cons (lf_c fun _ => .str "out") (lfa_cons (lf_c fun _ => .str "hits") (lfa_cons (lf_c fun _ => .str "puts") (lfa_cons (lf_c fun _ => .str "0,") (lfa_cons (lf_c fun _ => .str ",0") (lfa_cons (lf_c fun _ => .str "0, 0") (lfa_cons (lf_c fun _ => .str "a") (lfa_cons (lf_c fun _ => .str "4") lfa_nil)))))))))))))))))) lfg_name) (lfs_seq (lfs_for (lfi_rng1 (lfa_cons (lf_c fun _ => .int 6) lfa_nil)) lfg_name (lfs_seq (lfs_asg (lf_call (fun _ => .nil) (lfa_cons (lf_call (fun _ => .nil) (lfa_cons lf_var (lfa_cons (lf_c fun _ => .int 4) lfa_nil)) fnW_len) lfa_nil) fnW_len) lfg_name) (lfs_seq (lfs_for (lfi_rng1 (lfa_cons (lf_bin opl_add (lf_c fun _ => .int 1) (lf_bin opl_int (lf_cb cl_int (lfa_cons lf_var lfa_nil)) (lf_c fun _ => .int 3))) lfa_nil)) lfg_name (lfs_asg (lf_call (fun _ => .nil) (lfa_cons lf_var (lfa_cons lf_var (lfa_cons lf_var lfa_nil))) fnW_len) lfg_name)) (lfs_seq (lfs_asg (lf_call (fun _ => .nil) (lfa_cons lf_var lfa_nil) fnW_len) lfg_name) (lfs_if (lft_tst (lf_bin opl_ne (lf_call (fun _ => .nil) (lfa_cons lf_var lfa_nil) fnW_len) (lf_if (lft_tst (lf_bin opl_isN lf_var (lf_c fun _ => .non))) (lf_lst (lfa_cons (lf_c fun _ => .str "refused") (lfa_cons (lf_cb cl_reprE (lfa_cons lf_var lfa_nil)) lfa_nil))) (lf_lst (lfa_cons (lf_c fun _ => .str "told") (lfa_cons (lf_cb cl_reprE (lfa_cons lf_var lfa_nil)) (lfa_cons lf_var lfa_nil))))))) (lfs_ret (lf_c fun _ => .bl false)) lfs_next))))) (lfs_seq (lfs_asg (lf_call (fun _ => .nil) (lfa_cons (lf_call (fun _ => .nil) (lfa_cons lf_var (lfa_cons (lf_c fun _ => .int 3) lfa_nil)) fnW_len) lfa_nil) fnW_len) lfg_name) (lfs_seq (lfs_for (lfi_seqU (lf_lst (lfa_cons (lf_c fun _ => .non) (lfa_cons (lf_c fun _ => .bl true) (lfa_cons (lf_c fun _ => .int 3) (lfa_cons (lf_c fun _ => .str "") (lfa_cons (lf_tup (lfa_cons lf_var lfa_nil)) (lfa_cons (lf_lst (lfa_cons lf_var lfa_nil)) (lfa_cons lf_edc (lfa_cons (lf_bin opl_add lf_var (lf_c fun _ => .str "\n")) (lfa_cons (lf_bin opl_add (lf_c fun _ => .str "\n") lf_var) (lfa_cons (lf_bin opl_add lf_var (lf_c fun _ => .str " ")) (lfa_cons (lf_bin opl_int (lf_c fun _ => .int 10) (lf_c fun _ => .int 20)) lfa_nil))))))))))))) lfg_name (lfs_if (lft_tst (lf_bin opl_ne (lf_call (fun _ => .nil) (lfa_cons lf_var lfa_nil) fnW_len) (lf_lst (lfa_cons (lf_c fun _ => .str "refused") (lfa_cons (lf_cb cl_reprE (lfa_cons lf_var lfa_nil)) lfa_nil))))) (lfs_ret (lf_c fun _ => .bl false)) lfs_next)) (lfs_ret (lf_c fun _ => .bl true))))))
theorem sc_law_jar : FnScope ["_law_cells", "_law_lap", "_law_own", "_law_stirred", "_law_cell"] ["_law_cells", "_law_lap"] (defScope s_law_jar) := ⟨rfl, rfl, rfl, by decide +kernel, rfl, by decide +kernel, by decide +kernel⟩
theorem ok_law_jar {f : Addr} {fd : FuncData} (F : Fun K "_law_jar" "_law_jar" s_law_jar f fd) (T : TX K mg c_InvalidText c_Keeper) : FnG P w K mg base (L2.CX P w) 1 f fd ["_law_cells", "_law_lap"] (spC K 2 (w_law_jar K c_InvalidText c_Keeper)) := by
  refine defC F sc_law_jar rfl (by decide) fun cdv A outer s H E hg hr => ?_
  refine ⟨_, (pss_cons (ps_set (i := 2) sc_law_jar.nd rfl (by first | exact Or.inl rfl | exact Or.inr rfl) (pe_ifExp (pt_cmpR op_lt (pv 1) (pe_callB (call_lenK (K := K) rfl) rfl T.n_len PySem.boot_len (pa_cons (pv 0) pa_nil)) (nomark _)) (pe_callTy call_intA rfl T.n_int PyProof.Rows.boot_int (pa_cons (pe_ix (ix_seqK (K := K) rfl) (pv 0) (pv 1) (fun _ _ => rfl)) pa_nil)) (pe_op (op_addK (K := K) rfl) (pe_op op_mulA pe_int (pv 1)) pe_int))) (pss_cons (ps_set (i := 3) sc_law_jar.nd rfl (by first | exact Or.inl rfl | exact Or.inr rfl) (pe_op (op_addK (K := K) rfl) pe_int (pe_op op_mulA pe_int (pv 1)))) (pss_cons (ps_for ownD rfl (pi_seqK (K := K) rfl (pe_op (op_addK (K := K) rfl) (pe_slice (sl_DK (K := K) rfl) (pv 0) po_none (po_some pe_int)) (pe_lst (pa_cons (pv 2) pa_nil)))) (pg_name (i := 4) sc_law_jar.nd rfl (by first | exact Or.inl rfl | exact Or.inr rfl)) (pss_one (ps_set (i := 3) sc_law_jar.nd rfl (by first | exact Or.inl rfl | exact Or.inr rfl) (pe_op op_mod (pe_callTy call_intA rfl T.n_int PyProof.Rows.boot_int (pa_cons (pe_op (op_addK (K := K) rfl) (pe_op (op_addK (K := K) rfl) (pe_op op_mulA (pv 3) pe_int) (pe_callTy call_intA rfl T.n_int PyProof.Rows.boot_int (pa_cons (pv 4) pa_nil))) pe_int) pa_nil)) pe_int)))) (pss_one (ps_ret (pe_lst (pa_cons (pe_ifExp (PW.pt (pw_or (pt_cmpR op_lt (pv 2) pe_int (nomark _)) (pw_or1 (pt_cmpR op_ge (pv 2) (pe_op op_pow pe_int pe_int) (nomark _))))) (pe_callB call_abs rfl T.n_abs PyProof.Rows.boot_abs (pa_cons (pv 2) pa_nil)) pe_int) (pa_cons (pv 3) (pa_cons pe_int pa_nil))))))))), ?_⟩
  exact (lfs_seq (lfs_asg (lf_if (lft_tst (lf_bin opl_bool0 lf_var (lf_cb cl_len (lfa_cons lf_var lfa_nil)))) (lf_cb cl_int (lfa_cons (lf_bin opl_ix lf_var lf_var) lfa_nil)) (lf_bin opl_add (lf_bin opl_mul (lf_c fun _ => .int 11) lf_var) (lf_c fun _ => .int 5))) lfg_name) (lfs_seq (lfs_asg (lf_bin opl_add (lf_c fun _ => .int 41017) (lf_bin opl_mul (lf_c fun _ => .int 2029) lf_var)) lfg_name) (lfs_seq (lfs_for (lfi_seqU (lf_bin opl_add (lf_sl lf_var lfo_none (lfo_some (lf_c fun _ => .int 63))) (lf_lst (lfa_cons lf_var lfa_nil)))) lfg_name (lfs_asg (lf_bin opl_int (lf_cb cl_int (lfa_cons (lf_bin opl_add (lf_bin opl_add (lf_bin opl_mul lf_var (lf_c fun _ => .int 50023)) (lf_cb cl_int (lfa_cons lf_var lfa_nil))) (lf_c fun _ => .int 7)) lfa_nil)) (lf_c fun _ => .int 2147483353)) lfg_name)) (lfs_retC (lfn_lst (lfa_cons (lf_if (lft_or (lft_tst (lf_bin opl_bool0 lf_var (lf_c fun _ => .int 0))) (lft_tst (lf_bin opl_bool0 lf_var (lf_bin opl_int (lf_c fun _ => .int 10) (lf_c fun _ => .int 18))))) (lf_cb cl_abs (lfa_cons lf_var lfa_nil)) (lf_c fun _ => .int 0)) (lfa_cons lf_var (lfa_cons (lf_c fun _ => .int 0) lfa_nil))))))))
theorem sc_law : FnScope ["_law_cells", "_law_lap"] ["_law_cells"] (defScope s_law) := ⟨rfl, rfl, rfl, by decide +kernel, rfl, by decide +kernel, by decide +kernel⟩
theorem ok_law {f : Addr} {fd : FuncData} (F : Fun K "law" "law" s_law f fd) (T : TX K mg c_InvalidText c_Keeper) (D_law_right : DefAt P w K mg base 10 "_law_right" ["_law_jar_here"] (spL K 1 (w_law_right K c_InvalidText c_Keeper))) (D_law_jar : DefAt P w K mg base 1 "_law_jar" ["_law_cells", "_law_lap"] (spC K 2 (w_law_jar K c_InvalidText c_Keeper))) : FnG P w K mg base (L2.CX P w) 11 f fd ["_law_cells"] (spL K 1 (w_law K c_InvalidText c_Keeper)) := by
  refine defL F sc_law rfl (by decide) fun cdv A outer s H E hg hr => ?_
  refine ⟨_, (pss_one (ps_ret (pe_cmpR (op_eqK (K := K) rfl (un64 hr)) (pe_lc (own := [("_law_lap", 1)]) rfl sc_law.nd (pi_range1 rfl T.n_range (pa_cons (pe_callB (call_max2 rfl) rfl T.n_max PyProof.Rows.boot_max (pa_cons pe_int (pa_cons (pe_callB (call_min2 rfl) rfl T.n_min PyProof.Rows.boot_min (pa_cons (pe_callB (call_lenK (K := K) rfl) rfl T.n_len PySem.boot_len (pa_cons (pv 0) pa_nil)) (pa_cons pe_int pa_nil))) pa_nil))) pa_nil)) (show BlkOk ["_law_cells", "_law_lap"] (defScope s_law) _ [("_law_lap", 1)] from ⟨rfl, by decide +kernel, by decide +kernel, by decide +kernel, by decide +kernel⟩) (fun _ _ _ _ _ => (pg_name (i := 1) sc_law.nd rfl (by first | exact Or.inl rfl | exact Or.inr rfl))) (fun _ _ _ _ _ => (pts_one (pt_not (pt_truK (K := K) rfl (pe_d D_law_right hg hr tkB (pa_cons (pe_d D_law_jar hg hr tkB (pa_cons (pv 0) (pa_cons (pv 1) pa_nil))) pa_nil)) (fun _ => rfl))))) (fun _ _ _ _ _ => (pv 1))) (pe_lst pa_nil) (nomark _)))), ?_⟩
  exact (lfs_ret (lf_bin opl_eq (lf_lc (lfi_rng1 (lfa_cons (lf_cb cl_max (lfa_cons (lf_c fun _ => .int 2) (lfa_cons (lf_cb cl_min (lfa_cons (lf_cb cl_len (lfa_cons lf_var lfa_nil)) (lfa_cons (lf_c fun _ => .int 8) lfa_nil))) lfa_nil))) lfa_nil)) lfg_name (own_name (by decide)) (lown_name (by decide)) (lft_not (lft_tru (lf_callX (fun _ => .nil) (lfn_call (fun _ => .nil) (lfa_cons lf_var (lfa_cons lf_var lfa_nil)) fnC_len) lfa_nil fnW_len))) lf_var) (lf_lst lfa_nil)))
end
end K16

set_option linter.all false
set_option maxRecDepth 100000
set_option maxHeartbeats 4000000
namespace K16
open PySem L2 L3 MK
variable {K : PySem.W.Frag} {c_InvalidText c_Keeper : Addr}
theorem pick_spec {a b n m : Int} {Q : Qd} {R : Rd'} (hb : 0 ≤ b ∧ b < 2147483353) (hm : 0 < m ∧ m ≤ 10 ^ 15)
    (h : ∀ r a' b' n', 0 ≤ r → r < m → 0 ≤ b' ∧ b' < 2147483353 → Q (.int r) [.c false (.lst (jar a' b' n')), .v (.int m)]) : w_law_pick K c_InvalidText c_Keeper [.c false (.lst (jar a b n)), .v (.int m)] Q R := by
  unfold w_law_pick fnW t_law_pick jar
  refine ⟨rfl, ?_⟩
  refine seq_i fun N hN => ?_
  simp [atI, ixN]
  split
  · refine seq_i fun N2 hN2 => ?_
    simp [atI, ixN]
    refine ⟨cdivp_small hm.1 (by omega), hN2 _ ?_⟩
    simp
    exact h _ _ _ _ (Int.emod_nonneg _ (by omega)) (Int.emod_lt_of_pos _ hm.1) hb
  · refine hN _ ?_
    have e1 := Int.emod_nonneg ((b + 28657 * (n + 1)) * (b % 30029 + 12007) + 11) (show (2147483353 : Int) ≠ 0 by decide)
    have e2 := Int.emod_lt_of_pos ((b + 28657 * (n + 1)) * (b % 30029 + 12007) + 11) (show (0 : Int) < 2147483353 by decide)
    have e3 := Int.emod_nonneg b (show (30029 : Int) ≠ 0 by decide)
    have e4 := Int.emod_lt_of_pos b (show (0 : Int) < 30029 by decide)
    refine seq_i fun N2 hN2 => ?_
    simp [atI, ixN]
    refine hN2 _ (seq_i fun N3 hN3 => ?_)
    simp [atI, ixN]
    refine hN3 _ (seq_i fun N4 hN4 => ?_)
    simp [atI, ixN]
    refine ⟨mul_left (by omega), mul_right (by omega), hN4 _ ?_⟩
    simp [atI, ixN]
    refine ⟨cdivw_small (by omega) (by omega), hm.1, ?_⟩
    exact h _ _ _ _ (Int.emod_nonneg _ (by omega)) (Int.emod_lt_of_pos _ hm.1) ⟨e1, e2⟩
theorem of_spec {a b n : Int} {xs : List D} {Q : Qd} {R : Rd'} (hb : 0 ≤ b ∧ b < 2147483353) (hm : 0 < xs.length ∧ xs.length ≤ 100) (hx : ∀ (i : Nat) d, xs[i]? = some d → isCel d = false)
    (h : ∀ (i : Nat) d a' b' n', xs[i]? = some d → 0 ≤ b' ∧ b' < 2147483353 → Q d [.c false (.lst (jar a' b' n')), .v (.lst xs)]) : w_law_of K c_InvalidText c_Keeper [.c false (.lst (jar a b n)), .v (.lst xs)] Q R := by
  unfold w_law_of fnW t_law_of
  simp
  refine pick_spec hb (by omega) fun r a' b' n' h0 h1 hb' => ?_
  obtain ⟨i, rfl⟩ := Int.eq_ofNat_of_zero_le h0
  have hi : i < xs.length := by omega
  have hg := List.getElem?_eq_getElem hi
  have hc := hx i _ hg
  simp [atI_nat' hi, hc]
  exact h i _ _ _ _ hg hb'
theorem jar_spec {cs : List Int} {lap : Nat} {Q : Qd} {R : Rd'} (hl : lap < 8) (hc : cs.length ≤ 63) (h : ∀ a b, 0 ≤ b ∧ b < 2147483353 → Q (.lst (jar a b 0)) [.v (.lsf (cs.map .int)), .v (.int (lap : Nat))]) : w_law_jar K c_InvalidText c_Keeper [.v (.lsf (cs.map .int)), .v (.int (lap : Nat))] Q R := by
  unfold w_law_jar fnC t_law_jar
  refine ⟨rfl, seq_i fun N hN => ?_⟩
  -- what follows, for any own number
  suffices rest : ∀ own : Int, N [some (.v (.lsf (cs.map .int))), some (.v (.int (lap : Nat))), some (.v (.int own)), none, none] by
    simp
    split
    · rename_i hlt
      rw [atI_nat' (by simpa using hlt)]
      simp
      exact rest _
    · exact ⟨mul_left (by omega), rest _⟩
  intro own
  refine hN _ (seq_i fun N2 hN2 => ?_)
  simp
  refine ⟨mul_left (by omega), hN2 _ (seq_i fun N3 hN3 => for_i fun P hP => ?_)⟩
  simp
  rw [show (63 : Int) = ((63 : Nat) : Int) from rfl, cut_to]
  refine ⟨by decide, ?_, hP _ _ (for_inv (fun _ S => ∃ st w, S = [some (.v (.lsf (cs.map .int))), some (.v (.int (lap : Nat))), some (.v (.int own)), some (.v (.int st)), w] ∧ freeSl S 4 = true ∧ 0 ≤ st ∧ st < 2147483353) ?_ ?_ ?_)⟩
  · exact Nat.le_trans (Nat.succ_le_succ (Nat.le_trans (List.length_take_le _ _) (Nat.le_refl 63))) (by decide)
  · exact ⟨41017 + 2029 * (lap : Int), none, rfl, rfl, by omega, by omega⟩
  · rintro S' ⟨st, w, rfl, -, h0, h1⟩
    refine hN3 _ ?_
    simp [L2.CPow]
    split
    · exact ⟨sz (by decide), h _ _ ⟨h0, h1⟩⟩
    · split
      · exact ⟨sz (by decide), h _ _ ⟨h0, h1⟩⟩
      · exact ⟨sz (by decide), h _ _ ⟨h0, h1⟩⟩
  · rintro i d S' N' hd ⟨st, w, rfl, hf, -, -⟩ hn
    rw [← List.map_take] at hd
    obtain ⟨z, rfl⟩ := ints_at hd
    have hf' := hf
    simp at hf'
    simp [hf']
    refine ⟨mul_right (by omega), hn _ ⟨_, _, rfl, rfl, Int.emod_nonneg _ (by decide), Int.emod_lt_of_pos _ (by decide)⟩⟩
theorem picks_spec {a b n : Int} {wide many : Nat} {s1 s2 s3 s6 s7 : Option Sl} {Q : D → SS → Prop} {R : XR} (hb : 0 ≤ b ∧ b < 2147483353) (hw : wide ≤ 4) (hm : 0 < many ∧ many ≤ 40)
    (h : ∀ (xs : List Nat) a' b' n', xs.length = wide → (∀ x ∈ xs, x < many) → 0 ≤ b' ∧ b' < 2147483353 → Q (.lst (xs.map natD)) [some (.c false (.lst (jar a' b' n'))), s1, s2, s3, some (.v (natD wide)), some (.v (natD many)), s6, s7, none]) :
    lLc (lRng1 (lCons (lVar 4) lNil)) (gNameL 8) lYes (lCall (w_law_pick K c_InvalidText c_Keeper) [] (lCons (lVar 0) (lCons (lVar 5) lNil))) [8] [some (.c false (.lst (jar a b n))), s1, s2, s3, some (.v (natD wide)), some (.v (natD many)), s6, s7, none] Q R := by
  refine lc_i fun P hP => ?_
  simp [natD]
  refine ⟨by omega, hP _ _ rfl ?_⟩
  refine comp_inv (fun i acc S' => ∃ (xs : List Nat) (a' b' n' : Int), acc = xs.map natD ∧ xs.length = i ∧ (∀ x ∈ xs, x < many) ∧ (0 ≤ b' ∧ b' < 2147483353) ∧ S' = [some (.c false (.lst (jar a' b' n'))), s1, s2, s3, some (.v (natD wide)), some (.v (natD many)), s6, s7, none]) ?_ ?_ ?_
  · exact ⟨[], a, b, n, rfl, rfl, by simp, hb, rfl⟩
  · rintro acc S' ⟨xs, a', b', n', rfl, hl, hx, hb', rfl⟩
    rw [rng_len] at hl
    exact h xs a' b' n' hl hx hb'
  · rintro i d acc S' k hd ⟨xs, a', b', n', rfl, hl, hx, hb', rfl⟩ hk -
    obtain ⟨rfl, hlt⟩ := rng_at hd
    simp [natD]
    refine pick_spec hb' (by omega) fun r a2 b2 n2 h0 h1 hb2 => ?_
    obtain ⟨r, rfl⟩ := Int.eq_ofNat_of_zero_le h0
    simp
    refine hk _ _ rfl (szl (by simp; omega)) ⟨xs ++ [r], a2, b2, n2, by simp [natD], by simp [hl], ?_, hb2, by simp [wipeL, natD]⟩
    intro x hx'
    rcases List.mem_append.mp hx' with z | z
    · exact hx x z
    · have : x = r := by simpa using z
      omega
theorem table_spec {a b n : Int} {most : Nat} {Q : Qd} {R : Rd'} (hb : 0 ≤ b ∧ b < 2147483353) (hm : 1 ≤ most ∧ most ≤ 40)
    (h : ∀ (wide : Nat) (t : List Row) a' b' n', TblOk wide t → 0 ≤ b' ∧ b' < 2147483353 → Q (.tup (t.map rowD)) [.c false (.lst (jar a' b' n')), .v (natD most)]) : w_law_table K c_InvalidText c_Keeper [.c false (.lst (jar a b n)), .v (natD most)] Q R := by
  unfold w_law_table fnW t_law_table
  refine ⟨rfl, seq_i fun N hN => ?_⟩
  simp [natD]
  refine pick_spec hb (by omega) fun w a1 b1 n1 w0 w1 hb1 => ?_
  simp
  refine pick_spec hb1 (by omega) fun m a2 b2 n2 m0 m1 hb2 => ?_
  obtain ⟨w, rfl⟩ := Int.eq_ofNat_of_zero_le w0
  obtain ⟨m, rfl⟩ := Int.eq_ofNat_of_zero_le m0
  simp
  refine ⟨sz (by decide), hN _ (seq_i fun N2 hN2 => ?_)⟩
  simp
  rw [show (1 : Int) + (w : Int) = ((1 + w : Nat) : Int) by omega, show (1 : Int) + (m : Int) = ((1 + m : Nat) : Int) by omega]
  have hw : 1 ≤ 1 + w ∧ 1 + w ≤ 4 := by omega
  have hmm : 1 ≤ 1 + m ∧ 1 + m ≤ 40 := by omega
  generalize 1 + w = wide at hw ⊢
  generalize 1 + m = many at hmm ⊢
  refine hN2 _ (seq_i fun N3 hN3 => for_i fun P hP => ?_)
  simp
  refine ⟨by omega, hP _ _ (for_inv (fun i S => ∃ (t : List Row) (a b n : Int) (s3 s6 s7 : Option Sl), t.length = i ∧ (∀ r ∈ t, RowOk wide many r) ∧ (0 ≤ b ∧ b < 2147483353) ∧ fr s3 ∧ fr s6 ∧ fr s7 ∧
    S = [some (.c false (.lst (jar a b n))), some (.v (natD most)), some (.c true (.lst (t.map rowD))), s3, some (.v (natD wide)), some (.v (natD many)), s6, s7, none]) ?_ ?_ ?_)⟩
  · exact ⟨[], a2, b2, n2, none, none, none, rfl, by simp, hb2, .inl rfl, .inl rfl, .inl rfl, rfl⟩
  · rintro S' ⟨t, a3, b3, n3, s3, s6, s7, hl, ht, hb3, -, -, -, rfl⟩
    rw [rng_len] at hl
    refine hN3 _ ?_
    simp
    refine h wide t _ _ _ ⟨hw.1, hw.2, by omega, by omega, fun r hr => by rw [hl]; exact ht r hr⟩ hb3
  · rintro i d S' N' hd ⟨t, a3, b3, n3, s3, s6, s7, hl, ht, hb3, f3, f6, f7, rfl⟩ hn
    obtain ⟨rfl, hlt⟩ := rng_at hd
    have g3 : (match s3 with
      | some (Sl.c false _) => false
      | _ => true) = true := by
      rcases f3 with rfl | ⟨d, rfl⟩ <;> rfl
    simp
    refine ⟨?_, ?_⟩
    · rcases f3 with rfl | ⟨d, rfl⟩ <;> rfl
    refine seq_i fun M1 hM1 => ?_
    simp
    refine picks_spec hb3 hw.2 (by omega) fun xs a4 b4 n4 hxl hx hb4 => ?_
    simp
    refine ⟨?_, hM1 _ (seq_i fun M2 hM2 => ?_)⟩
    · rcases f6 with rfl | ⟨d, rfl⟩ <;> rfl
    simp
    refine picks_spec hb4 hw.2 (by omega) fun ys a5 b5 n5 hyl hy hb5 => ?_
    simp
    refine ⟨?_, hM2 _ ?_⟩
    · rcases f7 with rfl | ⟨d, rfl⟩ <;> rfl
    simp [natD]
    refine pick_spec hb5 (by omega) fun r a6 b6 n6 r0 r1 hb6 => ?_
    obtain ⟨r, rfl⟩ := Int.eq_ofNat_of_zero_le r0
    simp
    refine ⟨sz (by decide), szl (by omega), hn _ ⟨t ++ [⟨r, xs, ys⟩], a6, b6, n6, some (.v (.int (i : Nat))), some (.v (.tup (xs.map natD))), some (.v (.tup (ys.map natD))), by simp [hl], ?_, hb6, .inr ⟨_, rfl⟩, .inr ⟨_, rfl⟩, .inr ⟨_, rfl⟩, by simp [rowD, natD]⟩⟩
    intro q hq
    rcases List.mem_append.mp hq with z | z
    · exact ht q z
    · have : q = ⟨r, xs, ys⟩ := by simpa using z
      subst this
      exact ⟨by show r < wide; omega, hxl, hyl, hx, hy⟩
theorem integer_spec {i : Int} {Q : Qd} {R : Rd'} (h : Q (.bl true) [.v (.int i)]) : w_is_integer K c_InvalidText c_Keeper [.v (.int i)] Q R := by
  unfold w_is_integer fnW t_is_integer
  simp
  exact h
theorem within_spec {i lo hi : Int} {Q : Qd} {R : Rd'} (h : Q (.bl (decide (lo ≤ i ∧ i ≤ hi))) [.v (.int i), .v (.int lo), .v (.int hi)]) : w_is_within K c_InvalidText c_Keeper [.v (.int i), .v (.int lo), .v (.int hi)] Q R := by
  unfold w_is_within fnW t_is_within
  simp
  refine integer_spec ?_
  simp
  split
  · rename_i h1
    simpa [h1] using h
  · rename_i h1
    simpa [h1] using h
theorem states_spec {xs : List Nat} {many : Nat} {Q : Qd} {R : Rd'} (hl : xs.length ≤ 4) (hx : ∀ x ∈ xs, x < many)
    (h : Q (.bl true) [.v (.tup (xs.map natD)), .v (natD xs.length), .v (natD many)]) : w_are_states K c_InvalidText c_Keeper [.v (.tup (xs.map natD)), .v (natD xs.length), .v (natD many)] Q R := by
  unfold w_are_states fnW t_are_states
  simp [natD]
  refine lc_i fun P hP => ?_
  simp
  refine hP _ _ rfl (comp_inv (fun i acc S' => acc = List.replicate i (.bl true) ∧ S' = [some (.v (.tup (xs.map natD))), some (.v (natD xs.length)), some (.v (natD many)), none]) ?_ ?_ ?_)
  · exact ⟨rfl, rfl⟩
  · rintro acc S' ⟨rfl, rfl⟩
    simp [backL]
    exact h
  · rintro i d acc S' k hd ⟨rfl, rfl⟩ hk -
    have hm := List.mem_of_getElem? hd
    obtain ⟨x, hx', rfl⟩ := List.mem_map.mp hm
    have hb := hx x hx'
    have hi : i < xs.length := by
      have := (List.getElem?_eq_some_iff.mp hd).1
      simpa using this
    simp [natD]
    refine within_spec ?_
    simp
    refine hk _ _ rfl (szl (by simp; omega)) ⟨?_, by simp [wipeL, natD]⟩
    rw [show decide ((x : Int) ≤ (many : Int) - 1) = true from decide_eq_true (by omega)]
    rw [List.replicate_succ']
theorem line_spec {r : Row} {wide many : Nat} {Q : Qd} {R : Rd'} (hr : RowOk wide many r) (hw : wide ≤ 4) (h : Q (.bl true) [.v (rowD r), .v (natD wide), .v (natD many)]) : w_is_line K c_InvalidText c_Keeper [.v (rowD r), .v (natD wide), .v (natD many)] Q R := by
  have h1 := hr.hl
  have h2 := hr.pl
  have h3 := hr.out
  unfold w_is_line fnW t_is_line
  refine ⟨rfl, seq_i fun N hN => ?_⟩
  simp [rowD, atI, ixN, natD]
  refine within_spec ?_
  simp [show decide ((r.out : Int) ≤ (wide : Int) - 1) = true from decide_eq_true (by omega)]
  refine hN _ ?_
  simp [rowD, atI, ixN, natD]
  rw [← h1]
  refine states_spec (by omega) hr.hb ?_
  simp [rowD, atI, ixN, natD]
  rw [h1, ← h2]
  refine states_spec (by omega) hr.pb ?_
  simp
  rw [h2]
  exact h
theorem waysof_spec {r : Row} {wide many : Nat} {Q : Qd} {R : Rd'} (hr : RowOk wide many r) (hw : 1 ≤ wide ∧ wide ≤ 4) (h : Q (natD wide) [.v (rowD r)]) : w_ways_of K c_InvalidText c_Keeper [.v (rowD r)] Q R := by
  have h1 := hr.hl
  unfold w_ways_of fnW t_ways_of
  refine ⟨rfl, seq_i fun N hN => ?_⟩
  simp [rowD, atI, ixN, natD]
  refine hN _ ?_
  simp [rowD, atI, ixN, natD, h1]
  have e1 : (1 : Int) ≤ (wide : Int) := by omega
  have e2 : (wide : Int) ≤ 4 := by omega
  have e3 : 1 ≤ wide := hw.1
  have e4 : wide ≤ 4 := hw.2
  simp [e1, e2, e3, e4]
  exact h
theorem wrong_spec {t : List Row} {wide : Nat} {Q : Qd} {R : Rd'} (ht : TblOk wide t) (h : Q (.tup []) [.v (.tup (t.map rowD))]) : w_wrong_line K c_InvalidText c_Keeper [.v (.tup (t.map rowD))] Q R := by
  unfold w_wrong_line fnW t_wrong_line
  have l1 := ht.l1
  have l40 := ht.l40
  refine ⟨rfl, seq_i fun N hN => ?_⟩
  simp
  split
  · rename_i h0
    have : t.length = 0 := by simp [h0]
    omega
  refine hN _ (seq_i fun N2 hN2 => ?_)
  simp
  have l0 : 0 < t.length := l1
  have g0 : atI (t.map rowD) ((0 : Nat) : Int) = some (rowD t[0]) := by
    rw [atI_nat' (by simpa using l0)]
    simp
  refine ⟨_, g0, ?_⟩
  simp
  refine waysof_spec (ht.rows _ (List.getElem_mem l0)) ⟨ht.w1, ht.w4⟩ ?_
  simp
  refine hN2 _ (seq_i fun N3 hN3 => for_i fun P hP => ?_)
  simp
  refine hP _ _ (for_inv (fun i S => ∃ s2 s3, fr s2 ∧ fr s3 ∧ S = [some (.v (.tup (t.map rowD))), some (.v (natD wide)), s2, s3]) ?_ ?_ ?_)
  · exact ⟨none, none, .inl rfl, .inl rfl, rfl⟩
  · rintro S' ⟨s2, s3, -, -, rfl⟩
    refine hN3 _ ?_
    simp
    exact h
  · rintro i d S' N' hd ⟨s2, s3, f2, f3, rfl⟩ hn
    obtain ⟨e, he, rfl⟩ := enum_at hd
    rw [List.getElem?_map] at he
    cases hr : t[i]? with
    | none => rw [hr] at he; cases he
    | some r =>
      rw [hr] at he
      cases he
      have hi : i < t.length := (List.getElem?_eq_some_iff.mp hr).1
      have hrow := ht.rows r (List.mem_of_getElem? hr)
      simp [rowD]
      refine ⟨?_, ?_, ?_⟩
      · rcases f2 with rfl | ⟨d, rfl⟩ <;> rfl
      · rcases f3 with rfl | ⟨d, rfl⟩ <;> rfl
      simp [natD]
      have w0 : ¬ wide = 0 := by have := ht.w1; omega
      have i40 : ¬ (40 : Int) ≤ (i : Int) := by omega
      have i40' : ¬ 40 ≤ i := by omega
      simp [w0, i40, i40']
      refine line_spec hrow ht.w4 ?_
      simp
      exact hn _ ⟨some (.v (.int (i : Nat))), some (.v (rowD r)), .inr ⟨_, rfl⟩, .inr ⟨_, rfl⟩, by simp [rowD, natD]⟩
theorem init_spec {t : List Row} {wide : Nat} {Q : Qd} {R : Rd'} (ht : TblOk wide t) (hF : FldOk K c_Keeper "lines") (h : Q .non [.c false (.ins c_Keeper ["lines"] [.tup (t.map rowD)]), .v (.tup (t.map rowD))]) :
    w_Keeper__init K c_InvalidText c_Keeper [.c false (.ins c_Keeper [] []), .v (.tup (t.map rowD))] Q R := by
  unfold w_Keeper__init fnW t_Keeper__init
  refine ⟨rfl, seq_i fun N hN => ?_⟩
  simp
  refine wrong_spec ht ?_
  simp
  refine hN _ (seq_i fun N2 hN2 => ?_)
  simp
  refine hN2 _ ?_
  simp
  exact ⟨hF, h⟩
theorem rows_spec {t : List Row} {Q : Qd} {R : Rd'} (hF : FldOk K c_Keeper "lines") (h : Q (.tup (t.map rowD)) [.v (kpD c_Keeper t)]) : w_Keeper_rows K c_InvalidText c_Keeper [.v (kpD c_Keeper t)] Q R := by
  unfold w_Keeper_rows fnW t_Keeper_rows kpD
  simp
  exact ⟨hF, h⟩
end K16
set_option linter.all false
set_option maxRecDepth 100000
set_option maxHeartbeats 4000000
namespace K16
open PySem L2 L3 MK
variable {K : PySem.W.Frag} {c_InvalidText c_Keeper : Addr}
theorem fs_of {s : Option Sl} (h : fr s) : freeSl [s] 0 = true := by rcases h with rfl | ⟨d, rfl⟩ <;> rfl
theorem if_i {Tc : LTT} {T U : LTS} {Z : En} {S : SS} (h : ∀ P : Bool → SS → Prop, (∀ k S1, (if k = true then T Z S1 else U Z S1) → P k S1) → Tc S P Z.xr) : lIfS Tc T U Z S := h _ fun _ _ q => q
theorem ife_i {Tc : LTT} {T U : LT} {S : SS} {Q : D → SS → Prop} {R : XR} (h : ∀ P : Bool → SS → Prop, (∀ k S1, (if k = true then T S1 Q R else U S1 Q R) → P k S1) → Tc S P R) : lIf Tc T U S Q R := h _ fun _ _ q => q
theorem bin_i {f : D2} {Ta Tb : LT} {S : SS} {Q : D → SS → Prop} {R : XR} (h : ∀ P : D → SS → Prop, (∀ x S1, Tb S1 (fun y S2 => f (look S2 x) (look S2 y) fun d => Q d S2) R → P x S1) → Ta S P R) : lBin f Ta Tb S Q R := h _ fun _ _ q => q
theorem cons_i {Ta : LT} {Tr : LTs} {S : SS} {Q : List D → SS → Prop} {R : XR} (h : ∀ P : D → SS → Prop, (∀ x S1, Tr S1 (fun xs S2 => Q (x :: xs) S2) R → P x S1) → Ta S P R) : lCons Ta Tr S Q R := h _ fun _ _ q => q
theorem or_i {Ta Tb : LTT} {S : SS} {Q : Bool → SS → Prop} {R : XR} (h : ∀ P : Bool → SS → Prop, (∀ k S1, (if k = true then Q true S1 else Tb S1 Q R) → P k S1) → Ta S P R) : lOr Ta Tb S Q R := h _ fun _ _ q => q
theorem and_i {Ta Tb : LTT} {S : SS} {Q : Bool → SS → Prop} {R : XR} (h : ∀ P : Bool → SS → Prop, (∀ k S1, (if k = true then Tb S1 Q R else Q false S1) → P k S1) → Ta S P R) : lAnd Ta Tb S Q R := h _ fun _ _ q => q
/-! ### looks at any data -/
/-- data by values, to a depth -/
def Pl : Nat → D → Prop
  | _, .non => True
  | _, .bl _ => True
  | _, .int _ => True
  | _, .str _ => True
  | _, .lst _ => True
  | _, .edc => True
  | 0, .tup _ => True
  | n + 1, .tup xs => ∀ y ∈ xs, Pl n y
  | _, _ => False
theorem Pl.cases {n : Nat} {x : D} (h : Pl n x) : x = .non ∨ (∃ b, x = .bl b) ∨ (∃ i, x = .int i) ∨ (∃ s, x = .str s) ∨ (∃ xs, x = .lst xs) ∨ x = .edc ∨ (∃ xs, x = .tup xs) := by
  cases x <;> first
    | exact .inl rfl
    | exact .inr (.inl ⟨_, rfl⟩)
    | exact .inr (.inr (.inl ⟨_, rfl⟩))
    | exact .inr (.inr (.inr (.inl ⟨_, rfl⟩)))
    | exact .inr (.inr (.inr (.inr (.inl ⟨_, rfl⟩))))
    | exact .inr (.inr (.inr (.inr (.inr (.inl rfl)))))
    | exact .inr (.inr (.inr (.inr (.inr (.inr ⟨_, rfl⟩)))))
    | (cases n <;> exact h.elim)
theorem Pl.tup {n : Nat} {xs : List D} (h : Pl (n + 1) (.tup xs)) : ∀ y ∈ xs, Pl n y := h
theorem Pl.nc {n : Nat} {x : D} (h : Pl n x) : isCel x = false := by
  rcases h.cases with rfl | ⟨_, rfl⟩ | ⟨_, rfl⟩ | ⟨_, rfl⟩ | ⟨_, rfl⟩ | rfl | ⟨_, rfl⟩ <;> rfl
theorem Pl.lk {n : Nat} {x : D} (h : Pl n x) (S : SS) : look S x = x := by
  rcases h.cases with rfl | ⟨_, rfl⟩ | ⟨_, rfl⟩ | ⟨_, rfl⟩ | ⟨_, rfl⟩ | rfl | ⟨_, rfl⟩ <;> rfl
theorem toArg_nc {S : SS} {d : D} (h : isCel d = false) : toArg S d = .v d := by cases d <;> first | rfl | cases h
theorem celIx_nc {d : D} {ds : List D} (h : isCel d = false) : celIx (d :: ds) = celIx ds := by cases d <;> first | rfl | cases h
theorem frozenD_nc {d : D} {ds : List D} (h : isCel d = false) : frozenD (d :: ds) = frozenD ds := by cases d <;> first | rfl | cases h
theorem backA_v {S : SS} {d : D} {ds : List D} {e : D} {as : List Sl} : backA S (d :: ds) (.v e :: as) = backA S ds as := by cases d <;> rfl
@[simp] theorem isi_ti {xs : List D} {P : D → Prop} : isiD K (.tup xs) (.ty "int") P = P (.bl false) := isi_of (.tup _) (.ty _) (kit_ty (by decide +kernel))
@[simp] theorem isi_bi {b : Bool} {P : D → Prop} : isiD K (.bl b) (.ty "int") P = P (.bl true) := isi_of (.bl _) (.ty _) (kit_ty (by decide +kernel))
@[simp] theorem isi_bb {b : Bool} {P : D → Prop} : isiD K (.bl b) (.ty "bool") P = P (.bl true) := isi_of (.bl _) (.ty _) (kit_ty (by decide +kernel))
@[simp] theorem isi_ni {P : D → Prop} : isiD K .non (.ty "int") P = P (.bl false) := isi_of .non (.ty _) (kit_ty (by decide +kernel))
@[simp] theorem isi_si {x : Str} {P : D → Prop} : isiD K (.str x) (.ty "int") P = P (.bl false) := isi_of (.str _) (.ty _) (kit_ty (by decide +kernel))
@[simp] theorem isi_li {xs : List D} {P : D → Prop} : isiD K (.lst xs) (.ty "int") P = P (.bl false) := isi_of (.lst _) (.ty _) (kit_ty (by decide +kernel))
@[simp] theorem isi_ei {P : D → Prop} : isiD K .edc (.ty "int") P = P (.bl false) := isi_of .edc (.ty _) (kit_ty (by decide +kernel))
@[simp] theorem isi_it {i : Int} {P : D → Prop} : isiD K (.int i) (.ty "tuple") P = P (.bl false) := isi_of (.int _) (.ty _) (kit_ty (by decide +kernel))
@[simp] theorem isi_bt {b : Bool} {P : D → Prop} : isiD K (.bl b) (.ty "tuple") P = P (.bl false) := isi_of (.bl _) (.ty _) (kit_ty (by decide +kernel))
@[simp] theorem isi_nt {P : D → Prop} : isiD K .non (.ty "tuple") P = P (.bl false) := isi_of .non (.ty _) (kit_ty (by decide +kernel))
@[simp] theorem isi_st {x : Str} {P : D → Prop} : isiD K (.str x) (.ty "tuple") P = P (.bl false) := isi_of (.str _) (.ty _) (kit_ty (by decide +kernel))
@[simp] theorem isi_lt {xs : List D} {P : D → Prop} : isiD K (.lst xs) (.ty "tuple") P = P (.bl false) := isi_of (.lst _) (.ty _) (kit_ty (by decide +kernel))
@[simp] theorem isi_et {P : D → Prop} : isiD K .edc (.ty "tuple") P = P (.bl false) := isi_of .edc (.ty _) (kit_ty (by decide +kernel))
/-! numbers -/
def numB (x : D) (lo hi : Int) : Bool := match x with
  | .int i => decide (lo ≤ i ∧ i ≤ hi)
  | _ => false
theorem chain_lt {lo i hi : Int} : (if lo ≤ i then decide (i ≤ hi) else false) = decide (lo ≤ i ∧ i ≤ hi) := by
  by_cases h : lo ≤ i <;> simp [h]
theorem lnum_spec {n : Nat} {x : D} {lo hi : Int} {Q : Qd} {R : Rd'} (hx : Pl n x) (h : Q (.bl (numB x lo hi)) [.v x, .v (.int lo), .v (.int hi)]) : w_law_num K c_InvalidText c_Keeper [.v x, .v (.int lo), .v (.int hi)] Q R := by
  unfold w_law_num fnW t_law_num
  rcases hx.cases with rfl | ⟨b, rfl⟩ | ⟨i, rfl⟩ | ⟨s, rfl⟩ | ⟨xs, rfl⟩ | rfl | ⟨xs, rfl⟩
  · simp; exact h
  · simp; exact h
  · simp
    have h' : Q (.bl (decide (lo ≤ i ∧ i ≤ hi))) [.v (.int i), .v (.int lo), .v (.int hi)] := h
    by_cases h1 : lo ≤ i
    · simp [h1] at h' ⊢
      exact h'
    · simp [h1] at h' ⊢
      exact h'
  · simp; exact h
  · simp; exact h
  · simp; exact h
  · simp; exact h
theorem integ_spec {n : Nat} {x : D} {Q : Qd} {R : Rd'} (hx : Pl n x) (h : Q (.bl (match x with | .int _ => true | _ => false)) [.v x]) : w_is_integer K c_InvalidText c_Keeper [.v x] Q R := by
  unfold w_is_integer fnW t_is_integer
  rcases hx.cases with rfl | ⟨b, rfl⟩ | ⟨i, rfl⟩ | ⟨s, rfl⟩ | ⟨xs, rfl⟩ | rfl | ⟨xs, rfl⟩ <;> (simp; exact h)
theorem wnum_spec {n : Nat} {x : D} {lo hi : Int} {Q : Qd} {R : Rd'} (hx : Pl n x) (h : Q (.bl (numB x lo hi)) [.v x, .v (.int lo), .v (.int hi)]) : w_is_within K c_InvalidText c_Keeper [.v x, .v (.int lo), .v (.int hi)] Q R := by
  unfold w_is_within fnW t_is_within
  have nc := hx.nc
  simp [toArg_nc nc, celIx_nc nc]
  refine integ_spec hx ?_
  rcases hx.cases with rfl | ⟨b, rfl⟩ | ⟨i, rfl⟩ | ⟨s, rfl⟩ | ⟨xs, rfl⟩ | rfl | ⟨xs, rfl⟩
  · simp; exact h
  · simp; exact h
  · simp
    have h' : Q (.bl (decide (lo ≤ i ∧ i ≤ hi))) [.v (.int i), .v (.int lo), .v (.int hi)] := h
    by_cases h1 : lo ≤ i
    · simp [h1] at h' ⊢
      exact h'
    · simp [h1] at h' ⊢
      exact h'
  · simp; exact h
  · simp; exact h
  · simp; exact h
  · simp; exact h
/-! states -/
def statesB (x : D) (wide many : Nat) : Bool := match x with
  | .tup xs => decide (xs.length = wide) && xs.all fun y => numB y 0 ((many : Int) - 1)
  | _ => false
theorem bls_map {α : Type} {f : α → Bool} : ∀ {xs : List α}, blsOf (xs.map fun y => .bl (f y)) = some (xs.map f)
  | [] => rfl
  | x :: xs => by
    rw [List.map_cons, List.map_cons]
    show (blsOf (xs.map fun y => .bl (f y))).map (f x :: ·) = _
    rw [bls_map]
    rfl
mutual
theorem okD_up : ∀ (n : Nat) (x : D), okD n x = true → okD (n + 1) x = true
  | _, .non, _ => by rw [okD]
  | _, .bl _, _ => by rw [okD]
  | _, .int _, _ => by rw [okD]
  | n, .str s, h => by cases n <;> (rw [okD] at h ⊢; exact h)
  | 0, .tup xs, h => by rw [okD] at h <;> first | cases h | (intros; nofun)
  | n + 1, .tup xs, h => by rw [okD] at h ⊢; exact okDs_up n xs h
  | 0, .lst xs, h => by rw [okD] at h <;> first | cases h | (intros; nofun)
  | n + 1, .lst xs, h => by rw [okD] at h ⊢; exact okDs_up n xs h
  | n, .lsf xs, h => by cases n <;> (rw [okD] at h <;> first | cases h | (intros; nofun))
  | n, .edc, h => by cases n <;> (rw [okD] at h <;> first | cases h | (intros; nofun))
  | n, .ins _ _ _, h => by cases n <;> (rw [okD] at h <;> first | cases h | (intros; nofun))
  | n, .fn _, h => by cases n <;> (rw [okD] at h <;> first | cases h | (intros; nofun))
  | n, .ty _, h => by cases n <;> (rw [okD] at h <;> first | cases h | (intros; nofun))
  | n, .cel _, h => by cases n <;> (rw [okD] at h <;> first | cases h | (intros; nofun))
  | n, .exc _ _ _ _ _, h => by cases n <;> (rw [okD] at h <;> first | cases h | (intros; nofun))
theorem okDs_up : ∀ (n : Nat) (xs : List D), okDs n xs = true → okDs (n + 1) xs = true
  | _, [], _ => by rw [okDs]
  | n, x :: xs, h => by
    rw [okDs, Bool.and_eq_true] at h ⊢
    exact ⟨okD_up n x h.1, okDs_up n xs h.2⟩
end
theorem okDs_filter {n : Nat} {p : D → Bool} : ∀ {xs : List D}, okDs n xs = true → okDs n (xs.filter p) = true
  | [], _ => by rw [List.filter_nil, okDs]
  | x :: xs, h => by
    rw [okDs, Bool.and_eq_true] at h
    rw [List.filter_cons]
    split
    · rw [okDs, h.1, okDs_filter h.2]; rfl
    · exact okDs_filter h.2
theorem okDs_mem {n : Nat} : ∀ {xs : List D} {y : D}, okDs n xs = true → y ∈ xs → okD n y = true
  | x :: xs, y, h, hy => by
    rw [okDs, Bool.and_eq_true] at h
    rcases List.mem_cons.mp hy with z | z
    · rw [z]; exact h.1
    · exact okDs_mem h.2 z
theorem okDs_all {n : Nat} : ∀ {xs : List D}, (∀ y ∈ xs, okD n y = true) → okDs n xs = true
  | [], _ => by rw [okDs]
  | x :: xs, h => by rw [okDs, h x (by simp), okDs_all fun y hy => h y (by simp [hy])]; rfl
theorem eq_nilL {ys : List D} (ho : okD 60 (.lst ys) = true) {P : D → Prop} (h : P (.bl (decide (ys = [])))) : eqD (.lst ys) (.lst []) P := by
  have e : eqd (.lst ys) (.lst []) = decide (ys = []) := by
    unfold eqd
    cases ys with
    | nil => rw [pyd, pyds]; rfl
    | cons y ys => rw [pyd, pyd, pyds, pyds]; simp [PyData.eqv, PyData.eqvAll]
  show eqD0 _ _ _
  unfold eqD0
  rw [e]
  exact ⟨ho, by decide +kernel, h⟩
theorem eq_nilT {ys : List D} (ho : okD 60 (.tup ys) = true) {P : D → Prop} (h : P (.bl (decide (ys = [])))) : eqD (.tup ys) (.tup []) P := by
  have e : eqd (.tup ys) (.tup []) = decide (ys = []) := by
    unfold eqd
    cases ys with
    | nil => rw [pyd, pyds]; rfl
    | cons y ys => rw [pyd, pyd, pyds, pyds]; simp [PyData.eqv, PyData.eqvAll]
  show eqD0 _ _ _
  unfold eqD0
  rw [e]
  exact ⟨ho, by decide +kernel, h⟩
theorem states2_spec {x : D} {wide many : Nat} {Q : Qd} {R : Rd'} (hx : Pl 1 x) (hw : wide ≤ 100) (h : Q (.bl (statesB x wide many)) [.v x, .v (natD wide), .v (natD many)]) :
    w_are_states K c_InvalidText c_Keeper [.v x, .v (natD wide), .v (natD many)] Q R := by
  unfold w_are_states fnW t_are_states
  rcases hx.cases with rfl | ⟨b, rfl⟩ | ⟨i, rfl⟩ | ⟨s, rfl⟩ | ⟨xs, rfl⟩ | rfl | ⟨xs, rfl⟩
  · simp; exact h
  · simp; exact h
  · simp; exact h
  · simp; exact h
  · simp; exact h
  · simp; exact h
  · have nb := hx.tup
    by_cases hl : xs.length = wide
    · subst hl
      simp [natD]
      refine lc_i fun P hP => ?_
      simp
      refine hP _ _ rfl (comp_inv (fun i acc S' => acc = (xs.take i).map (fun y => D.bl (numB y 0 ((many : Int) - 1))) ∧ S' = [some (.v (.tup xs)), some (.v (.int (xs.length : Nat))), some (.v (.int (many : Nat))), none]) ⟨rfl, rfl⟩ ?_ ?_)
      · rintro acc S' ⟨rfl, rfl⟩
        refine ⟨_, bls_map, ?_⟩
        rw [List.take_length, List.all_map]
        have e : statesB (.tup xs) xs.length many = xs.all (id ∘ fun y => numB y 0 ((many : Int) - 1)) := by
          unfold statesB
          simp
        rw [← e]
        exact ⟨trivial, h⟩
      · rintro i d acc S' k hd ⟨rfl, rfl⟩ hk -
        have hm := List.mem_of_getElem? hd
        have px := nb d hm
        have nc := px.nc
        have hi : i < xs.length := (List.getElem?_eq_some_iff.mp hd).1
        simp [natD, nc, toArg_nc nc, celIx_nc nc]
        refine wnum_spec px ?_
        simp
        refine hk _ _ rfl (szl (by simp; omega)) ⟨?_, by simp [wipeL, natD]⟩
        rw [List.take_succ, hd]
        simp
    · have hl' : ¬ (xs.length : Int) = (wide : Int) := by omega
      have e : statesB (.tup xs) wide many = false := by simp [statesB, hl]
      rw [e] at h
      simp [natD, hl']
      exact h
theorem lstates2_spec {x : D} {wide many : Nat} {Q : Qd} {R : Rd'} (hx : Pl 1 x) (ho : okD 58 x = true) (hw : wide ≤ 100) (h : Q (.bl (statesB x wide many)) [.v x, .v (natD wide), .v (natD many)]) :
    w_law_states_ok K c_InvalidText c_Keeper [.v x, .v (natD wide), .v (natD many)] Q R := by
  unfold w_law_states_ok fnW t_law_states_ok
  rcases hx.cases with rfl | ⟨b, rfl⟩ | ⟨i, rfl⟩ | ⟨s, rfl⟩ | ⟨xs, rfl⟩ | rfl | ⟨xs, rfl⟩
  · refine ⟨rfl, seq_i fun N hN => ?_⟩; simp; exact h
  · refine ⟨rfl, seq_i fun N hN => ?_⟩; simp; exact h
  · refine ⟨rfl, seq_i fun N hN => ?_⟩; simp; exact h
  · refine ⟨rfl, seq_i fun N hN => ?_⟩; simp; exact h
  · refine ⟨rfl, seq_i fun N hN => ?_⟩; simp; exact h
  · refine ⟨rfl, seq_i fun N hN => ?_⟩; simp; exact h
  · have nb := hx.tup
    refine ⟨rfl, seq_i fun N hN => ?_⟩
    by_cases hl : xs.length = wide
    · subst hl
      simp [natD]
      refine hN _ ?_
      show lBin eqD _ _ _ _ _
      refine bin_i fun P hP => lc_i fun P2 hP2 => ?_
      simp
      refine hP2 _ _ rfl (comp_inv (fun i acc S' => acc = (xs.take i).filter (fun y => !numB y 0 ((many : Int) - 1)) ∧ S' = [some (.v (.tup xs)), some (.v (.int (xs.length : Nat))), some (.v (.int (many : Nat))), none]) ⟨rfl, rfl⟩ ?_ ?_)
      · rintro acc S' ⟨rfl, rfl⟩
        refine hP _ _ ?_
        rw [List.take_length]
        simp [backL]
        have o1 : okDs 59 xs = true := by
          rw [okD] at ho
          exact okDs_up _ _ (okDs_up _ _ ho)
        refine eq_nilL (by rw [okD_lst]; exact okDs_filter o1) ?_
        have e : statesB (.tup xs) xs.length many = decide (xs.filter (fun y => !numB y 0 ((many : Int) - 1)) = []) := by
          unfold statesB
          rw [Bool.eq_iff_iff]
          simp [List.filter_eq_nil_iff]
        simp only [e] at h
        simp
        simpa using h
      · rintro i d acc S' k hd ⟨rfl, rfl⟩ hk hk0
        have hm := List.mem_of_getElem? hd
        have px := nb d hm
        have nc := px.nc
        have hi : i < xs.length := (List.getElem?_eq_some_iff.mp hd).1
        have hlen : ((xs.take i).filter (fun y => !numB y 0 ((many : Int) - 1))).length ≤ i := Nat.le_trans (List.length_filter_le ..) (by simp; omega)
        simp [natD, nc, toArg_nc nc, celIx_nc nc]
        refine lnum_spec px ?_
        simp
        by_cases hb : numB d 0 ((many : Int) - 1) = true
        · simp only [hb, Bool.not_true, Bool.false_eq_true, if_false, if_true]
          refine hk0 _ ⟨?_, by simp [wipeL, natD]⟩
          rw [List.take_succ, hd, List.filter_append]
          simp [hb]
        · have hb' : numB d 0 ((many : Int) - 1) = false := by simpa using hb
          simp only [hb', Bool.not_false, Bool.false_eq_true, if_false, if_true]
          refine hk _ _ nc (szl (by omega)) ⟨?_, by simp [wipeL, natD]⟩
          rw [List.take_succ, hd, List.filter_append]
          simp [hb']
    · have hl' : ¬ (xs.length : Int) = (wide : Int) := by omega
      have e : statesB (.tup xs) wide many = false := by simp [statesB, hl]
      rw [e] at h
      simp [natD, hl']
      exact h
/-! rows -/
def lineB (x : D) (wide many : Nat) : Bool := match x with
  | .tup [a, b, d] => numB a 0 ((wide : Int) - 1) && statesB b wide many && statesB d wide many
  | _ => false
theorem three {xs : List D} (h : xs.length = 3) : ∃ a b d, xs = [a, b, d] := by
  match xs, h with
  | [a, b, d], _ => exact ⟨a, b, d, rfl⟩
theorem lineB_len {xs : List D} {wide many : Nat} (h : ¬ xs.length = 3) : lineB (.tup xs) wide many = false := by
  unfold lineB
  split
  · rename_i e
    cases e
    exact absurd rfl h
  · rfl
theorem okD_tup' {n : Nat} {xs : List D} : okD (n + 1) (.tup xs) = okDs n xs := by rw [okD]
theorem line2_spec {x : D} {wide many : Nat} {Q : Qd} {R : Rd'} (hx : Pl 2 x) (hw : wide ≤ 100) (h : Q (.bl (lineB x wide many)) [.v x, .v (natD wide), .v (natD many)]) :
    w_is_line K c_InvalidText c_Keeper [.v x, .v (natD wide), .v (natD many)] Q R := by
  unfold w_is_line fnW t_is_line
  rcases hx.cases with rfl | ⟨b, rfl⟩ | ⟨i, rfl⟩ | ⟨s, rfl⟩ | ⟨xs, rfl⟩ | rfl | ⟨xs, rfl⟩
  · refine ⟨rfl, seq_i fun N hN => ?_⟩; simp; exact h
  · refine ⟨rfl, seq_i fun N hN => ?_⟩; simp; exact h
  · refine ⟨rfl, seq_i fun N hN => ?_⟩; simp; exact h
  · refine ⟨rfl, seq_i fun N hN => ?_⟩; simp; exact h
  · refine ⟨rfl, seq_i fun N hN => ?_⟩; simp; exact h
  · refine ⟨rfl, seq_i fun N hN => ?_⟩; simp; exact h
  · by_cases hl : xs.length = 3
    · obtain ⟨a, b, d, rfl⟩ := three hl
      have nb := hx.tup
      have pa : Pl 1 a := nb a (by simp)
      have pb : Pl 1 b := nb b (by simp)
      have pd : Pl 1 d := nb d (by simp)
      have ca := pa.nc
      have cb := pb.nc
      have cd := pd.nc
      refine ⟨rfl, seq_i fun N hN => if_i fun P hP => ?_⟩
      simp [natD, atI, ixN, ca, toArg_nc ca, celIx_nc ca]
      refine wnum_spec pa ?_
      simp
      refine hP _ _ ?_
      cases hna : numB a 0 ((wide : Int) - 1) with
      | false =>
        have e : lineB (.tup [a, b, d]) wide many = false := by unfold lineB; simp [hna]
        rw [e] at h
        simp only [Bool.not_false, if_true]
        simp
        exact h
      | true =>
        simp only [Bool.not_true, Bool.false_eq_true, if_false]
        show N [some (.v (.tup [a, b, d])), some (.v (.int (wide : Nat))), some (.v (.int (many : Nat)))]
        refine hN _ ?_
        simp [atI, ixN, cb, toArg_nc cb, celIx_nc cb]
        refine states2_spec pb hw ?_
        simp
        cases hsb : statesB b wide many with
        | false =>
          have e : lineB (.tup [a, b, d]) wide many = false := by unfold lineB; simp [hsb]
          rw [e] at h
          simp
          exact h
        | true =>
          simp [cd, toArg_nc cd, celIx_nc cd]
          refine states2_spec pd hw ?_
          have e : lineB (.tup [a, b, d]) wide many = statesB d wide many := by unfold lineB; simp [hna, hsb]
          rw [e] at h
          simp
          exact h
    · have hl' : ¬ (xs.length : Int) = 3 := by omega
      rw [lineB_len hl] at h
      refine ⟨rfl, seq_i fun N hN => ?_⟩
      simp [natD, hl']
      exact h
theorem lline2_spec {x : D} {wide many : Nat} {Q : Qd} {R : Rd'} (hx : Pl 2 x) (ho : okD 59 x = true) (hw : wide ≤ 100) (h : Q (.bl (lineB x wide many)) [.v x, .v (natD wide), .v (natD many)]) :
    w_law_line_ok K c_InvalidText c_Keeper [.v x, .v (natD wide), .v (natD many)] Q R := by
  unfold w_law_line_ok fnW t_law_line_ok
  rcases hx.cases with rfl | ⟨b, rfl⟩ | ⟨i, rfl⟩ | ⟨s, rfl⟩ | ⟨xs, rfl⟩ | rfl | ⟨xs, rfl⟩
  · refine ⟨rfl, seq_i fun N hN => ?_⟩; simp; exact h
  · refine ⟨rfl, seq_i fun N hN => ?_⟩; simp; exact h
  · refine ⟨rfl, seq_i fun N hN => ?_⟩; simp; exact h
  · refine ⟨rfl, seq_i fun N hN => ?_⟩; simp; exact h
  · refine ⟨rfl, seq_i fun N hN => ?_⟩; simp; exact h
  · refine ⟨rfl, seq_i fun N hN => ?_⟩; simp; exact h
  · by_cases hl : xs.length = 3
    · obtain ⟨a, b, d, rfl⟩ := three hl
      have nb := hx.tup
      have pa : Pl 1 a := nb a (by simp)
      have pb : Pl 1 b := nb b (by simp)
      have pd : Pl 1 d := nb d (by simp)
      have oks : ∀ y ∈ [a, b, d], okD 58 y = true := fun y hy => okDs_mem (by rw [okD_tup'] at ho; exact ho) hy
      have ca := pa.nc
      have cb := pb.nc
      have cd := pd.nc
      refine ⟨rfl, seq_i fun N hN => if_i fun P hP => ?_⟩
      simp [natD, atI, ixN, ca, toArg_nc ca, celIx_nc ca]
      refine lnum_spec pa ?_
      simp
      refine hP _ _ ?_
      cases hna : numB a 0 ((wide : Int) - 1) with
      | false =>
        have e : lineB (.tup [a, b, d]) wide many = false := by unfold lineB; simp [hna]
        rw [e] at h
        simp only [Bool.not_false, if_true]
        simp
        exact h
      | true =>
        simp only [Bool.not_true, Bool.false_eq_true, if_false]
        show N [some (.v (.tup [a, b, d])), some (.v (.int (wide : Nat))), some (.v (.int (many : Nat)))]
        refine hN _ ?_
        simp [atI, ixN, cb, toArg_nc cb, celIx_nc cb]
        refine lstates2_spec pb (oks _ (by simp)) hw ?_
        simp
        cases hsb : statesB b wide many with
        | false =>
          have e : lineB (.tup [a, b, d]) wide many = false := by unfold lineB; simp [hsb]
          rw [e] at h
          simp
          exact h
        | true =>
          simp [cd, toArg_nc cd, celIx_nc cd]
          refine lstates2_spec pd (oks _ (by simp)) hw ?_
          have e : lineB (.tup [a, b, d]) wide many = statesB d wide many := by unfold lineB; simp [hna, hsb]
          rw [e] at h
          simp
          exact h
    · have hl' : ¬ (xs.length : Int) = 3 := by omega
      rw [lineB_len hl] at h
      refine ⟨rfl, seq_i fun N hN => ?_⟩
      simp [natD, hl']
      exact h
end K16
set_option linter.all false
set_option maxRecDepth 100000
set_option maxHeartbeats 4000000
namespace K16
open PySem L2 L3 MK
variable {K : PySem.W.Frag} {c_InvalidText c_Keeper : Addr}
/-! ### looks at any table -/
def waysB (x : D) : Nat := match x with
  | .tup [_, .tup b, _] => if 1 ≤ b.length ∧ b.length ≤ 4 then b.length else 0
  | _ => 0
theorem waysB_le {x : D} : waysB x ≤ 4 := by
  unfold waysB
  split
  · split <;> omega
  · omega
theorem waysB_len {xs : List D} (h : ¬ xs.length = 3) : waysB (.tup xs) = 0 := by
  unfold waysB
  split
  · rename_i e
    cases e
    exact absurd rfl h
  · rfl
/-- the first that is wrong, from k on -/
def firstB (w n : Nat) : Nat → List D → Option Nat
  | _, [] => none
  | k, r :: rs => if w = 0 ∨ 40 ≤ k ∨ lineB r w n = false then some k else firstB w n (k + 1) rs
def wrongB (x : D) : Option (Option Nat) := match x with
  | .tup (r :: rs) => (firstB (waysB r) (rs.length + 1) 0 (r :: rs)).map some
  | _ => some none
def optD : Option Nat → D
  | none => .non
  | some k => .int (k : Nat)
def listOf : Option (Option Nat) → List D
  | none => []
  | some o => [optD o]
theorem waysof2_spec {x : D} {Q : Qd} {R : Rd'} (hx : Pl 2 x) (h : Q (natD (waysB x)) [.v x]) : w_ways_of K c_InvalidText c_Keeper [.v x] Q R := by
  unfold w_ways_of fnW t_ways_of
  rcases hx.cases with rfl | ⟨b, rfl⟩ | ⟨i, rfl⟩ | ⟨s, rfl⟩ | ⟨xs, rfl⟩ | rfl | ⟨xs, rfl⟩
  · refine ⟨rfl, seq_i fun N hN => ?_⟩; simp; exact h
  · refine ⟨rfl, seq_i fun N hN => ?_⟩; simp; exact h
  · refine ⟨rfl, seq_i fun N hN => ?_⟩; simp; exact h
  · refine ⟨rfl, seq_i fun N hN => ?_⟩; simp; exact h
  · refine ⟨rfl, seq_i fun N hN => ?_⟩; simp; exact h
  · refine ⟨rfl, seq_i fun N hN => ?_⟩; simp; exact h
  · by_cases hl : xs.length = 3
    · obtain ⟨a, b, d, rfl⟩ := three hl
      have pb : Pl 1 b := hx.tup b (by simp)
      refine ⟨rfl, seq_i fun N hN => ?_⟩
      rcases pb.cases with rfl | ⟨z, rfl⟩ | ⟨z, rfl⟩ | ⟨z, rfl⟩ | ⟨z, rfl⟩ | rfl | ⟨ys, rfl⟩
      · simp [atI, ixN]; exact h
      · simp [atI, ixN]; exact h
      · simp [atI, ixN]; exact h
      · simp [atI, ixN]; exact h
      · simp [atI, ixN]; exact h
      · simp [atI, ixN]; exact h
      · simp [atI, ixN]
        refine hN _ ?_
        unfold lRet
        refine ife_i fun P1 hP1 => ?_
        simp [atI, ixN]
        have ew : waysB (.tup [a, .tup ys, d]) = if 1 ≤ ys.length ∧ ys.length ≤ 4 then ys.length else 0 := rfl
        rw [ew] at h
        by_cases h1 : 1 ≤ ys.length
        · by_cases h4 : ys.length ≤ 4
          · have h1' : (1 : Int) ≤ (ys.length : Int) := by omega
            have h4' : (ys.length : Int) ≤ 4 := by omega
            rw [if_pos ⟨h1, h4⟩] at h
            simp [h1', h4']
            refine hP1 _ _ ?_
            simp only [if_true]
            simp [atI, ixN]
            exact h
          · have h1' : (1 : Int) ≤ (ys.length : Int) := by omega
            have h4' : ¬ (ys.length : Int) ≤ 4 := by omega
            rw [if_neg (by omega)] at h
            simp [h1', h4']
            refine hP1 _ _ ?_
            simp only [Bool.false_eq_true, if_false]
            simp
            exact h
        · have h1' : ¬ (1 : Int) ≤ (ys.length : Int) := by omega
          rw [if_neg (by omega)] at h
          simp [h1']
          refine hP1 _ _ ?_
          simp only [Bool.false_eq_true, if_false]
          simp
          exact h
    · have hl' : ¬ (xs.length : Int) = 3 := by omega
      rw [waysB_len hl] at h
      refine ⟨rfl, seq_i fun N hN => ?_⟩
      simp [hl']
      exact h
theorem wrong2_spec {x : D} {Q : Qd} {R : Rd'} (hx : Pl 3 x) (hl : ∀ xs, x = .tup xs → xs.length ≤ 100000) (h : Q (.tup (listOf (wrongB x))) [.v x]) : w_wrong_line K c_InvalidText c_Keeper [.v x] Q R := by
  unfold w_wrong_line fnW t_wrong_line
  rcases hx.cases with rfl | ⟨b, rfl⟩ | ⟨i, rfl⟩ | ⟨s, rfl⟩ | ⟨xs, rfl⟩ | rfl | ⟨xs, rfl⟩
  · refine ⟨rfl, seq_i fun N hN => ?_⟩; simp; exact ⟨sz (by decide), h⟩
  · refine ⟨rfl, seq_i fun N hN => ?_⟩; simp; exact ⟨sz (by decide), h⟩
  · refine ⟨rfl, seq_i fun N hN => ?_⟩; simp; exact ⟨sz (by decide), h⟩
  · refine ⟨rfl, seq_i fun N hN => ?_⟩; simp; exact ⟨sz (by decide), h⟩
  · refine ⟨rfl, seq_i fun N hN => ?_⟩; simp; exact ⟨sz (by decide), h⟩
  · refine ⟨rfl, seq_i fun N hN => ?_⟩; simp; exact ⟨sz (by decide), h⟩
  · have hlen := hl xs rfl
    refine ⟨rfl, seq_i fun N hN => ?_⟩
    cases xs with
    | nil => simp; exact ⟨sz (by decide), h⟩
    | cons r rs =>
      have nb := hx.tup
      have pr := nb r (by simp)
      have cr := pr.nc
      have hl0 : ¬ ((rs.length : Int) + 1) = 0 := by omega
      simp [hl0]
      refine hN _ (seq_i fun N1 hN1 => ?_)
      simp [atI, ixN, cr, toArg_nc cr, celIx_nc cr]
      refine waysof2_spec pr ?_
      simp [natD]
      refine hN1 _ (seq_i fun N2 hN2 => for_i fun P hP => ?_)
      simp
      have hw := waysB_le (x := r)
      have hw0 : ((waysB r : Nat) : Int) = 0 ↔ waysB r = 0 := by omega
      generalize hgw : waysB r = w at hw hw0
      have eW : wrongB (.tup (r :: rs)) = (firstB w (rs.length + 1) 0 (r :: rs)).map some := by rw [← hgw]; rfl
      rw [eW] at h
      refine hP _ _ (for_inv (fun i S => ∃ s2 s3, fr s2 ∧ fr s3 ∧ firstB w (rs.length + 1) 0 (r :: rs) = firstB w (rs.length + 1) i ((r :: rs).drop i) ∧ S = [some (.v (.tup (r :: rs))), some (.v (.int (w : Nat))), s2, s3]) ?_ ?_ ?_)
      · exact ⟨_, _, .inl rfl, .inl rfl, rfl, rfl⟩
      · rintro S' ⟨s2, s3, -, -, e, rfl⟩
        refine hN2 _ ?_
        rw [enum_len, List.drop_length] at e
        rw [e] at h
        simp
        exact h
      · rintro i d S' N' hd ⟨s2, s3, f2, f3, e, rfl⟩ hn
        have g2 := fs_of f2
        have g3 := fs_of f3
        simp at g2 g3
        obtain ⟨y, hy, rfl⟩ := enum_at hd
        have py := nb y (List.mem_of_getElem? hy)
        have cy := py.nc
        have hi : i < (r :: rs).length := (List.getElem?_eq_some_iff.mp hy).1
        have ed : (r :: rs).drop i = y :: (r :: rs).drop (i + 1) := by
          rw [List.drop_eq_getElem_cons hi, (List.getElem?_eq_some_iff.mp hy).2]
        rw [ed] at e
        have fin1 : (w = 0 ∨ 40 ≤ i ∨ lineB y w (rs.length + 1) = false) → firstB w (rs.length + 1) 0 (r :: rs) = some i := fun hb => by
          rw [e]
          unfold firstB
          rw [if_pos hb]
        have fin2 : ¬ (w = 0 ∨ 40 ≤ i ∨ lineB y w (rs.length + 1) = false) → N' [some (.v (.tup (r :: rs))), some (.v (.int (w : Nat))), some (.v (.int (i : Nat))), some (.v y)] := fun hb => by
          refine hn _ ⟨_, _, .inr ⟨_, rfl⟩, .inr ⟨_, rfl⟩, ?_, rfl⟩
          rw [e]
          show firstB w (rs.length + 1) i (y :: (r :: rs).drop (i + 1)) = _
          rw [firstB, if_neg hb]
        have hi2 : i < rs.length + 1 := hi
        simp [g2, g3, cy]
        by_cases h0 : w = 0
        · rw [fin1 (.inl h0)] at h
          simp [h0]
          exact ⟨sz (by decide), h⟩
        · have h0' : ¬ (w : Int) = 0 := by omega
          by_cases h40 : 40 ≤ i
          · have h40' : (40 : Int) ≤ (i : Int) := by omega
            rw [fin1 (.inr (.inl h40))] at h
            simp [h0, h40']
            exact ⟨sz (by decide), h⟩
          · have h40' : ¬ (40 : Int) ≤ (i : Int) := by omega
            simp [h0, h40', toArg_nc cy, celIx_nc cy]
            refine line2_spec (wide := w) (many := rs.length + 1) py (by omega) ?_
            cases hb : lineB y w (rs.length + 1) with
            | false =>
              rw [fin1 (.inr (.inr hb))] at h
              simp
              exact ⟨sz (by decide), h⟩
            | true =>
              simp
              exact fin2 (by simp [h0, hb]; omega)
end K16
set_option linter.all false
set_option maxRecDepth 100000
set_option maxHeartbeats 4000000
namespace K16
open PySem L2 L3 MK
variable {K : PySem.W.Frag} {c_InvalidText c_Keeper : Addr}
theorem eqd_nilT {ys : List D} : eqd (.tup ys) (.tup []) = decide (ys = []) := by
  unfold eqd
  cases ys with
  | nil => rw [pyd, pyds]; rfl
  | cons y ys => rw [pyd, pyd, pyds, pyds]; simp [PyData.eqv, PyData.eqvAll]
theorem wrong0 {r : D} {rs : List D} (h : waysB r = 0) : wrongB (.tup (r :: rs)) = some (some 0) := by
  show (firstB (waysB r) (rs.length + 1) 0 (r :: rs)).map some = _
  rw [h]
  unfold firstB
  rw [if_pos (.inl rfl)]
  rfl
theorem first_spec {x : D} {Q : Qd} {R : Rd'} (hx : Pl 3 x) (hl : ∀ xs, x = .tup xs → xs.length ≤ 100000 ∧ okD 60 x = true) (h : Q (.lst (listOf (wrongB x))) [.v x]) : w_law_first_wrong K c_InvalidText c_Keeper [.v x] Q R := by
  unfold w_law_first_wrong fnW t_law_first_wrong
  rcases hx.cases with rfl | ⟨b, rfl⟩ | ⟨i, rfl⟩ | ⟨s, rfl⟩ | ⟨xs, rfl⟩ | rfl | ⟨xs, rfl⟩
  · refine ⟨rfl, seq_i fun N hN => ?_⟩; simp; exact ⟨sz (by decide), h⟩
  · refine ⟨rfl, seq_i fun N hN => ?_⟩; simp; exact ⟨sz (by decide), h⟩
  · refine ⟨rfl, seq_i fun N hN => ?_⟩; simp; exact ⟨sz (by decide), h⟩
  · refine ⟨rfl, seq_i fun N hN => ?_⟩; simp; exact ⟨sz (by decide), h⟩
  · refine ⟨rfl, seq_i fun N hN => ?_⟩; simp; exact ⟨sz (by decide), h⟩
  · refine ⟨rfl, seq_i fun N hN => ?_⟩; simp; exact ⟨sz (by decide), h⟩
  · obtain ⟨hlen, hok⟩ := hl xs rfl
    refine ⟨rfl, seq_i fun N hN => if_i fun P0 hP0 => ?_⟩
    simp
    cases xs with
    | nil =>
      refine ⟨hok, by decide +kernel, ?_⟩
      rw [eqd_nilT]
      simp
      refine hP0 _ _ ?_
      simp only [if_true]
      simp
      exact ⟨sz (by decide), h⟩
    | cons r rs =>
      have nb := hx.tup
      have pr := nb r (by simp)
      have cr := pr.nc
      refine ⟨hok, by decide +kernel, ?_⟩
      rw [eqd_nilT]
      simp
      refine hP0 _ _ ?_
      simp only [Bool.false_eq_true, if_false]
      show N [some (.v (.tup (r :: rs))), none, none]
      refine hN _ (seq_i fun N1 hN1 => ?_)
      simp [atI, ixN, cr]
      refine hN1 _ (seq_i fun N2 hN2 => ?_)
      have bad : waysB r = 0 → Q (.lst [.int 0]) [.v (.tup (r :: rs))] := fun hw => by
        rw [wrong0 hw] at h
        exact h
      rcases pr.cases with rfl | ⟨z, rfl⟩ | ⟨z, rfl⟩ | ⟨z, rfl⟩ | ⟨z, rfl⟩ | rfl | ⟨ys, rfl⟩
      · simp; exact ⟨sz (by decide), bad rfl⟩
      · simp; exact ⟨sz (by decide), bad rfl⟩
      · simp; exact ⟨sz (by decide), bad rfl⟩
      · simp; exact ⟨sz (by decide), bad rfl⟩
      · simp; exact ⟨sz (by decide), bad rfl⟩
      · simp; exact ⟨sz (by decide), bad rfl⟩
      · by_cases h3 : ys.length = 3
        · obtain ⟨a, b, d, rfl⟩ := three h3
          have pb : Pl 1 b := pr.tup b (by simp)
          rcases pb.cases with rfl | ⟨z, rfl⟩ | ⟨z, rfl⟩ | ⟨z, rfl⟩ | ⟨z, rfl⟩ | rfl | ⟨zs, rfl⟩
          · simp [atI, ixN]; exact ⟨sz (by decide), bad rfl⟩
          · simp [atI, ixN]; exact ⟨sz (by decide), bad rfl⟩
          · simp [atI, ixN]; exact ⟨sz (by decide), bad rfl⟩
          · simp [atI, ixN]; exact ⟨sz (by decide), bad rfl⟩
          · simp [atI, ixN]; exact ⟨sz (by decide), bad rfl⟩
          · simp [atI, ixN]; exact ⟨sz (by decide), bad rfl⟩
          · have ew : waysB (.tup [a, .tup zs, d]) = if 1 ≤ zs.length ∧ zs.length ≤ 4 then zs.length else 0 := rfl
            by_cases h1 : 1 ≤ zs.length
            · by_cases h4 : zs.length ≤ 4
              · have h1' : (1 : Int) ≤ (zs.length : Int) := by omega
                have h4' : ¬ (4 : Int) < (zs.length : Int) := by omega
                rw [if_pos ⟨h1, h4⟩] at ew
                simp [atI, ixN, h1', h4']
                refine hN2 _ (seq_i fun N3 hN3 => for_i fun P hP => ?_)
                simp
                have eW : wrongB (.tup (.tup [a, .tup zs, d] :: rs)) = (firstB zs.length (rs.length + 1) 0 (.tup [a, .tup zs, d] :: rs)).map some := by rw [← ew]; rfl
                rw [eW] at h
                have oks : ∀ y ∈ (.tup [a, .tup zs, d] :: rs : List D), okD 59 y = true := fun y hy => okDs_mem (by rw [okD_tup'] at hok; exact hok) hy
                have hrl : ((D.tup [a, .tup zs, d] :: rs : List D)).length = rs.length + 1 := rfl
                refine ⟨⟨by omega, by omega⟩, hP _ _ (for_inv (fun i S => ∃ s2, fr s2 ∧ firstB zs.length (rs.length + 1) 0 (.tup [a, .tup zs, d] :: rs) = firstB zs.length (rs.length + 1) i (((.tup [a, .tup zs, d] :: rs) : List D).drop i) ∧ S = [some (.v (.tup (.tup [a, .tup zs, d] :: rs))), some (.v (.tup [a, .tup zs, d])), s2]) ?_ ?_ ?_)⟩
                · exact ⟨_, .inl rfl, rfl, rfl⟩
                · rintro S' ⟨s2, -, e, rfl⟩
                  refine hN3 _ ?_
                  have el : (rangeD 0 (rs.length + 1)).length = ((D.tup [a, .tup zs, d] :: rs : List D)).length := rng_len
                  rw [el, List.drop_length] at e
                  rw [e] at h
                  simp
                  exact h
                · rintro i d' S' N' hd ⟨s2, f2, e, rfl⟩ hn
                  have g2 := fs_of f2
                  simp at g2
                  obtain ⟨rfl, hlt⟩ := rng_at hd
                  rw [Int.zero_add]
                  have hi : i < ((D.tup [a, .tup zs, d] :: rs : List D)).length := by rw [hrl]; omega
                  have hy := List.getElem?_eq_getElem hi
                  generalize hgy : ((D.tup [a, .tup zs, d] :: rs : List D))[i] = y at hy
                  have py := nb y (List.mem_of_getElem? hy)
                  have oy := oks y (List.mem_of_getElem? hy)
                  have cy := py.nc
                  have ed : ((D.tup [a, .tup zs, d] :: rs : List D)).drop i = y :: ((D.tup [a, .tup zs, d] :: rs : List D)).drop (i + 1) := by
                    rw [List.drop_eq_getElem_cons hi, hgy]
                  rw [ed] at e
                  have w1 : ¬ zs.length = 0 := by omega
                  have fin1 : (40 ≤ i ∨ lineB y zs.length (rs.length + 1) = false) → firstB zs.length (rs.length + 1) 0 (.tup [a, .tup zs, d] :: rs) = some i := fun hb => by
                    rw [e]
                    unfold firstB
                    rw [if_pos (.inr hb)]
                  have fin2 : ¬ (zs.length = 0 ∨ 40 ≤ i ∨ lineB y zs.length (rs.length + 1) = false) → N' [some (.v (.tup (.tup [a, .tup zs, d] :: rs))), some (.v (.tup [a, .tup zs, d])), some (.v (.int (i : Nat)))] := fun hb => by
                    refine hn _ ⟨_, .inr ⟨_, rfl⟩, ?_, rfl⟩
                    rw [e]
                    show firstB zs.length (rs.length + 1) i (y :: ((D.tup [a, .tup zs, d] :: rs : List D)).drop (i + 1)) = _
                    rw [firstB, if_neg hb]
                  have hat : atI (D.tup [a, .tup zs, d] :: rs) ((i : Nat) : Int) = some y := atI_nat hy
                  have i1 : atI [a, D.tup zs, d] 1 = some (.tup zs) := by simp [atI, ixN]
                  refine ⟨rfl, by simp [g2], ?_⟩
                  by_cases h40 : 40 ≤ i
                  · have h40' : (39 : Int) < (i : Int) := by omega
                    rw [fin1 (.inl h40)] at h
                    simp [h40']
                    exact ⟨sz (by decide), h⟩
                  · have h40' : ¬ (39 : Int) < (i : Int) := by omega
                    simp [h40', hat, i1, cy, toArg_nc cy, celIx_nc cy]
                    refine lline2_spec (wide := zs.length) (many := rs.length + 1) py oy (by omega) ?_
                    cases hb : lineB y zs.length (rs.length + 1) with
                    | false =>
                      rw [fin1 (.inr hb)] at h
                      simp
                      exact ⟨sz (by decide), h⟩
                    | true =>
                      simp
                      exact fin2 (by simp [w1, hb]; omega)
              · have h1' : (1 : Int) ≤ (zs.length : Int) := by omega
                have h4' : (4 : Int) < (zs.length : Int) := by omega
                rw [if_neg (by omega)] at ew
                simp [atI, ixN, h1', h4']
                exact ⟨sz (by decide), bad ew⟩
            · have h1' : ¬ (1 : Int) ≤ (zs.length : Int) := by omega
              rw [if_neg (by omega)] at ew
              simp [atI, ixN, h1']
              exact ⟨sz (by decide), bad ew⟩
        · have hl' : ¬ (ys.length : Int) = 3 := by omega
          simp [hl']
          exact ⟨sz (by decide), bad (waysB_len h3)⟩
end K16
set_option linter.all false
set_option maxRecDepth 100000
set_option maxHeartbeats 4000000
namespace K16
open PySem L2 L3 MK
variable {K : PySem.W.Frag} {c_InvalidText c_Keeper : Addr}
/-! ### what is right -/
theorem num_right {y : D} {many : Nat} (h : numB y 0 ((many : Int) - 1) = true) : ∃ k : Nat, y = natD k ∧ k < many := by
  unfold numB at h
  split at h
  · rename_i i
    have h' := of_decide_eq_true h
    obtain ⟨k, rfl⟩ := Int.eq_ofNat_of_zero_le h'.1
    exact ⟨k, rfl, by omega⟩
  · cases h
theorem nums_right {many : Nat} : ∀ {xs : List D}, xs.all (fun y => numB y 0 ((many : Int) - 1)) = true → ∃ ys : List Nat, xs = ys.map natD ∧ ∀ k ∈ ys, k < many
  | [], _ => ⟨[], rfl, by simp⟩
  | x :: xs, h => by
    rw [List.all_cons, Bool.and_eq_true] at h
    obtain ⟨k, rfl, hk⟩ := num_right h.1
    obtain ⟨ys, rfl, hy⟩ := nums_right h.2
    refine ⟨k :: ys, rfl, fun z hz => ?_⟩
    rcases List.mem_cons.mp hz with e | e
    · rw [e]; exact hk
    · exact hy z e
theorem states_right {x : D} {wide many : Nat} (h : statesB x wide many = true) : ∃ ys : List Nat, x = .tup (ys.map natD) ∧ ys.length = wide ∧ ∀ k ∈ ys, k < many := by
  unfold statesB at h
  split at h
  · rename_i xs
    rw [Bool.and_eq_true] at h
    obtain ⟨ys, rfl, hy⟩ := nums_right h.2
    have hl := of_decide_eq_true h.1
    exact ⟨ys, rfl, by simpa using hl, hy⟩
  · cases h
theorem line_right {x : D} {wide many : Nat} (h : lineB x wide many = true) : ∃ r : Row, x = rowD r ∧ RowOk wide many r := by
  unfold lineB at h
  split at h
  · rename_i a b d
    rw [Bool.and_eq_true, Bool.and_eq_true] at h
    obtain ⟨k, rfl, hk⟩ := num_right h.1.1
    obtain ⟨ys, rfl, hy, hy2⟩ := states_right h.1.2
    obtain ⟨zs, rfl, hz, hz2⟩ := states_right h.2
    exact ⟨⟨k, ys, zs⟩, rfl, hk, hy, hz, hy2, hz2⟩
  · cases h
theorem first_right {w n : Nat} : ∀ {rs : List D} {k : Nat}, firstB w n k rs = none → (rs ≠ [] → w ≠ 0 ∧ k + rs.length ≤ 40) ∧ ∃ t : List Row, rs = t.map rowD ∧ ∀ r ∈ t, RowOk w n r
  | [], k, _ => ⟨fun h => absurd rfl h, [], rfl, by simp⟩
  | r :: rs, k, h => by
    unfold firstB at h
    split at h
    · cases h
    · rename_i hb
      have hw : w ≠ 0 := fun e => hb (.inl e)
      have hk : ¬ 40 ≤ k := fun e => hb (.inr (.inl e))
      have hr : lineB r w n = true := by
        cases e : lineB r w n with
        | true => rfl
        | false => exact absurd (.inr (.inr e)) hb
      obtain ⟨q, rfl, hq⟩ := line_right hr
      obtain ⟨h1, t, rfl, ht⟩ := first_right h
      refine ⟨fun _ => ⟨hw, ?_⟩, q :: t, rfl, fun z hz => ?_⟩
      · cases t with
        | nil => simp; omega
        | cons y t =>
          have := (h1 (by simp)).2
          simp at this ⊢
          omega
      · rcases List.mem_cons.mp hz with e | e
        · rw [e]; exact hq
        · exact ht z e
theorem right_tbl {x : D} (h : wrongB x = none) : ∃ (t : List Row) (wide : Nat), x = .tup (t.map rowD) ∧ TblOk wide t := by
  unfold wrongB at h
  split at h
  · rename_i r rs
    have h' : firstB (waysB r) (rs.length + 1) 0 (r :: rs) = none := by
      cases e : firstB (waysB r) (rs.length + 1) 0 (r :: rs) with
      | none => rfl
      | some k => rw [e] at h; cases h
    obtain ⟨h1, t, e, ht⟩ := first_right h'
    obtain ⟨h0, hl⟩ := h1 (by simp)
    have hlen : t.length = rs.length + 1 := by
      have := congrArg List.length e
      simpa using this.symm
    refine ⟨t, waysB r, by rw [e], by omega, waysB_le, by omega, ?_, fun q hq => ?_⟩
    · simp at hl
      omega
    · rw [hlen]
      exact ht q hq
  · cases h
theorem ne_list {o : Option (Option Nat)} {P : D → Prop} (h : P (.bl o.isSome)) : neD (.tup (listOf o)) (.tup []) P := by
  show neD0 _ _ _
  unfold neD0
  rw [eqd_nilT]
  cases o with
  | none => exact ⟨by decide +kernel, by decide +kernel, h⟩
  | some o =>
    refine ⟨?_, by decide +kernel, h⟩
    cases o with
    | none => decide +kernel
    | some k => rw [show listOf (some (some k)) = [D.int (k : Nat)] from rfl, okD_tup, okDs, okDs, okD]; rfl
end K16
set_option linter.all false
set_option maxRecDepth 100000
set_option maxHeartbeats 4000000
namespace K16
open PySem L2 L3 MK
variable {K : PySem.W.Frag} {c_InvalidText c_Keeper : Addr}
/-! ### texts of tables -/
abbrev nnS (n : Nat) : Str := Str.ofString (Int.repr (n : Int))
def sideS (xs : List Nat) : Str := Txt.join (Str.ofString ",") (xs.map nnS)
def lineS (r : Row) : Str := Str.ofString "out " ++ nnS r.out ++ Str.ofString " hits " ++ sideS r.hits ++ Str.ofString " puts " ++ sideS r.puts
def sheetS (t : List Row) : Str := Txt.join (Str.ofString "\n") (t.map lineS)
theorem len_nat {n : Nat} (h : n < 100) : (nnS n).length ≤ 2 := PyProof.Rows.toString_length_le (by omega) (by decide) (by omega)
theorem log_nat {n : Nat} (h : n < 100) : ((n : Nat) : Int).natAbs.log2 < 1920 := by
  refine Nat.lt_of_lt_of_le (PySem.Flt.log2_lt_of (k := 137) (by decide) ?_) (by decide)
  have : (10 : Int) ^ 41 < 2 ^ 137 := by decide
  omega
theorem len_join {a : Str} {ys : List Str} {m : Nat} (ha : a.length ≤ 1) (h : ∀ y ∈ ys, y.length ≤ m) : (ys.map (·.length)).sum + ys.length * a.length ≤ ys.length * (m + 1) ∧ (Txt.join a ys).length ≤ ys.length * (m + 1) := by
  have e : Txt.join a ys = Str.join a ys := StrLaws.glued_eq_join _ _
  have h1 := StrLaws.join_length_le a ys
  have h2 : (ys.map (·.length)).sum ≤ ys.length * m := by
    clear e h1
    induction ys with
    | nil => simp
    | cons y r ih =>
      have := h y (by simp)
      have := ih fun z hz => h z (by simp [hz])
      simp only [List.map_cons, List.sum_cons, List.length_cons, Nat.succ_mul]
      omega
  have h3 : ys.length * a.length ≤ ys.length * 1 := Nat.mul_le_mul_left _ ha
  rw [e, Nat.mul_add]
  omega
theorem len_side {xs : List Nat} (hx : ∀ x ∈ xs, x < 100) (hl : xs.length ≤ 4) : (((xs.map nnS).map (·.length)).sum + (xs.map nnS).length * (Str.ofString ",").length ≤ 12) ∧ (sideS xs).length ≤ 12 := by
  have h := len_join (a := Str.ofString ",") (ys := xs.map nnS) (m := 2) (by decide +kernel) (fun y hy => by
    obtain ⟨z, hz, rfl⟩ := List.mem_map.mp hy
    exact len_nat (hx z hz))
  have e : (xs.map nnS).length = xs.length := List.length_map _
  rw [e] at h
  unfold sideS
  rw [e]
  omega
theorem strs7 {xs : List Nat} {x0 x1 x2 x3 x4 x5 x6 : Option Sl} {Q : D → SS → Prop} (hx : ∀ x ∈ xs, x < 100) (hl : xs.length ≤ 4) (h : Q (.lst ((xs.map nnS).map D.str)) [x0, x1, x2, x3, x4, x5, x6, none]) :
    compWP (xs.map natD) (fun d S' q => gNameL 7 d S' (fun S2 => lYes S2 (fun b S3 => if b = true then lCB (on1 strD) (lCons (lVar 7) lNil) S3 (fun y S4 => q (some y) (wipeL S4 [7])) RF else q none (wipeL S3 [7])) RF) RF) [] [x0, x1, x2, x3, x4, x5, x6, none] Q := by
  refine comp_inv (fun i acc S' => acc = ((xs.take i).map nnS).map D.str ∧ S' = [x0, x1, x2, x3, x4, x5, x6, none]) ⟨rfl, rfl⟩ ?_ ?_
  · rintro acc S' ⟨rfl, rfl⟩
    rw [List.length_map, List.take_of_length_le (Nat.le_refl _)]
    exact h
  · rintro i d acc S' q hd ⟨rfl, rfl⟩ hq -
    rw [List.getElem?_map] at hd
    cases e : xs[i]? with
    | none => rw [e] at hd; cases hd
    | some z =>
      rw [e] at hd
      obtain rfl : _ = d := Option.some.inj hd
      have hm := hx z (List.mem_of_getElem? e)
      simp [strD, natD]
      refine ⟨log_nat hm, hq _ _ rfl (szl (by simp; omega)) ⟨?_, by simp [wipeL, natD]⟩⟩
      rw [List.take_add_one, e]
      simp [nnS]
theorem strs8 {xs : List Nat} {x0 x1 x2 x3 x4 x5 x6 x7 : Option Sl} {Q : D → SS → Prop} (hx : ∀ x ∈ xs, x < 100) (hl : xs.length ≤ 4) (h : Q (.lst ((xs.map nnS).map D.str)) [x0, x1, x2, x3, x4, x5, x6, x7, none]) :
    compWP (xs.map natD) (fun d S' q => gNameL 8 d S' (fun S2 => lYes S2 (fun b S3 => if b = true then lCB (on1 strD) (lCons (lVar 8) lNil) S3 (fun y S4 => q (some y) (wipeL S4 [8])) RF else q none (wipeL S3 [8])) RF) RF) [] [x0, x1, x2, x3, x4, x5, x6, x7, none] Q := by
  refine comp_inv (fun i acc S' => acc = ((xs.take i).map nnS).map D.str ∧ S' = [x0, x1, x2, x3, x4, x5, x6, x7, none]) ⟨rfl, rfl⟩ ?_ ?_
  · rintro acc S' ⟨rfl, rfl⟩
    rw [List.length_map, List.take_of_length_le (Nat.le_refl _)]
    exact h
  · rintro i d acc S' q hd ⟨rfl, rfl⟩ hq -
    rw [List.getElem?_map] at hd
    cases e : xs[i]? with
    | none => rw [e] at hd; cases hd
    | some z =>
      rw [e] at hd
      obtain rfl : _ = d := Option.some.inj hd
      have hm := hx z (List.mem_of_getElem? e)
      simp [strD, natD]
      refine ⟨log_nat hm, hq _ _ rfl (szl (by simp; omega)) ⟨?_, by simp [wipeL, natD]⟩⟩
      rw [List.take_add_one, e]
      simp [nnS]

theorem row_lt {wide : Nat} {t : List Row} (ht : TblOk wide t) {r : Row} (hr : r ∈ t) : r.out < 100 ∧ (∀ x ∈ r.hits, x < 100) ∧ (∀ x ∈ r.puts, x < 100) ∧ r.hits.length ≤ 4 ∧ r.puts.length ≤ 4 := by
  have h := ht.rows r hr
  have h1 := ht.w4
  have h2 := ht.l40
  refine ⟨by have := h.out; omega, fun x hx => by have := h.hb x hx; omega, fun x hx => by have := h.pb x hx; omega, by have := h.hl; omega, by have := h.pl; omega⟩
theorem len_line {wide : Nat} {t : List Row} (ht : TblOk wide t) {r : Row} (hr : r ∈ t) : (lineS r).length ≤ 42 := by
  obtain ⟨h1, h2, h3, h4, h5⟩ := row_lt ht hr
  have a1 := len_nat h1
  have a2 := (len_side h2 h4).2
  have a3 := (len_side h3 h5).2
  have b1 : (Str.ofString "out ").length = 4 := by decide +kernel
  have b2 : (Str.ofString " hits ").length = 6 := by decide +kernel
  have b3 : (Str.ofString " puts ").length = 6 := by decide +kernel
  unfold lineS
  rw [strLen_append, strLen_append, strLen_append, strLen_append, strLen_append, b1, b2, b3]
  omega
theorem len_sheet {wide : Nat} {t : List Row} (ht : TblOk wide t) : (((t.map lineS).map (·.length)).sum + (t.map lineS).length * (Str.ofString "\n").length ≤ 1720) ∧ (sheetS t).length ≤ 1720 := by
  have h := len_join (a := Str.ofString "\n") (ys := t.map lineS) (m := 42) (by decide +kernel) (fun y hy => by
    obtain ⟨z, hz, rfl⟩ := List.mem_map.mp hy
    exact len_line ht hz)
  have h2 := ht.l40
  have e : (t.map lineS).length = t.length := List.length_map _
  rw [e] at h
  unfold sheetS
  rw [e]
  omega
theorem sheet_spec {wide : Nat} {t : List Row} {Q : Qd} {R : Rd'} (ht : TblOk wide t) (h : Q (.str (sheetS t)) [.v (.tup (t.map rowD))]) : w_law_sheet K c_InvalidText c_Keeper [.v (.tup (t.map rowD))] Q R := by
  unfold w_law_sheet fnW t_law_sheet
  refine ⟨rfl, seq_i fun N hN => ?_⟩
  simp
  refine hN _ (seq_i fun N1 hN1 => for_i fun P hP => ?_)
  simp
  refine hP _ _ (for_inv (fun i S => ∃ s2 s3 s4 s5 s6, fr s2 ∧ fr s3 ∧ fr s4 ∧ fr s5 ∧ fr s6 ∧ S = [some (.v (.tup (t.map rowD))), some (.c true (.lst (((t.take i).map lineS).map D.str))), s2, s3, s4, s5, s6, none]) ?_ ?_ ?_)
  · exact ⟨_, _, _, _, _, .inl rfl, .inl rfl, .inl rfl, .inl rfl, .inl rfl, rfl⟩
  · rintro S' ⟨s2, s3, s4, s5, s6, -, -, -, -, -, rfl⟩
    refine hN1 _ ?_
    rw [List.length_map, List.take_of_length_le (Nat.le_refl _)]
    have hl := (len_sheet ht).1
    unfold lRet
    simp
    rw [show (t.map (D.str ∘ lineS)) = (t.map lineS).map D.str by rw [List.map_map], join_lst]
    refine ⟨Nat.le_trans hl (by decide), ?_⟩
    simp
    exact h
  · rintro i d S' N' hd ⟨s2, s3, s4, s5, s6, f2, f3, f4, f5, f6, rfl⟩ hn
    rw [List.getElem?_map] at hd
    cases e : t[i]? with
    | none => rw [e] at hd; cases hd
    | some r =>
      rw [e] at hd
      obtain rfl : _ = d := Option.some.inj hd
      have hm := List.mem_of_getElem? e
      obtain ⟨h1, h2, h3, h4, h5⟩ := row_lt ht hm
      have hi := (List.getElem?_eq_some_iff.mp e).1
      have g2 := fs_of f2
      have g3 := fs_of f3
      have g4 := fs_of f4
      have g5 := fs_of f5
      have g6 := fs_of f6
      simp at g2 g3 g4 g5 g6
      refine ⟨rfl, rfl, by simp [g2], rfl, by simp [g3], rfl, by simp [g4], rfl, seq_i fun N2 hN2 => ?_⟩
      unfold lPar
      simp only [lSlV]
      have j1 := (len_side h2 h4).1
      have j2 := (len_side h3 h5).1
      have l1 := (len_side h2 h4).2
      have l2 := (len_side h3 h5).2
      have l3 := len_nat h1
      have b1 : (Str.ofString "out ").length = 4 := by decide +kernel
      have b2 : (Str.ofString " hits ").length = 6 := by decide +kernel
      have b3 : (Str.ofString " puts ").length = 6 := by decide +kernel
      show lM1 joinD _ _ [some (.v (.tup (t.map rowD))), some (.c true (.lst (((t.take i).map lineS).map D.str))), some (.v (natD r.out)), some (.v (.tup (r.hits.map natD))), some (.v (.tup (r.puts.map natD))), s5, s6, none] _ _
      refine ⟨⟨_, rfl⟩, lc_i fun P1 hP1 => ?_⟩
      refine hP1 _ _ rfl (strs7 h2 h4 ?_)
      show joinD (.str (Str.ofString ",")) (.lst ((r.hits.map nnS).map D.str)) _
      rw [join_lst]
      refine ⟨Nat.le_trans j1 (by decide), rfl, ⟨_, rfl⟩, lc_i fun P2 hP2 => ?_⟩
      refine hP2 _ _ rfl (strs7 h3 h5 ?_)
      show joinD (.str (Str.ofString ",")) (.lst ((r.puts.map nnS).map D.str)) _
      rw [join_lst]
      refine ⟨Nat.le_trans j2 (by decide), rfl, ?_⟩
      refine ⟨rfl, by simp [parOk, backL, g5, g6], ?_⟩
      show N2 [some (.v (.tup (t.map rowD))), some (.c true (.lst (((t.take i).map lineS).map D.str))), some (.v (natD r.out)), some (.v (.tup (r.hits.map natD))), some (.v (.tup (r.puts.map natD))), some (.v (.str (sideS r.hits))), some (.v (.str (sideS r.puts))), none]
      refine hN2 _ ?_
      have l3' : (Str.ofString (Int.repr (r.out : Int))).length ≤ 2 := l3
      simp [strD, natD, strLen_append, b1, b2, b3]
      have h40 := ht.l40
      refine ⟨by have := log_nat h1; simpa using this, sz (by omega), sz (by omega), sz (by omega), sz (by omega), sz (by omega), szl (by omega), hn _ ⟨some (.v (natD r.out)), some (.v (.tup (r.hits.map natD))), some (.v (.tup (r.puts.map natD))), some (.v (.str (sideS r.hits))), some (.v (.str (sideS r.puts))), .inr ⟨_, rfl⟩, .inr ⟨_, rfl⟩, .inr ⟨_, rfl⟩, .inr ⟨_, rfl⟩, .inr ⟨_, rfl⟩, ?_⟩⟩
      rw [List.take_add_one, e]
      simp [lineS, natD]
theorem str_spec {wide : Nat} {t : List Row} {Q : Qd} {R : Rd'} (ht : TblOk wide t) (hF : FldOk K c_Keeper "lines") (h : Q (.str (sheetS t)) [.v (kpD c_Keeper t)]) : w_Keeper__str K c_InvalidText c_Keeper [.v (kpD c_Keeper t)] Q R := by
  unfold w_Keeper__str fnW t_Keeper__str
  refine ⟨rfl, seq_i fun N hN => ?_⟩
  simp
  refine hN _ (seq_i fun N1 hN1 => for_i fun P hP => ?_)
  unfold kpD
  simp
  refine ⟨hF, ?_⟩
  refine hP _ _ (for_inv (fun i S => ∃ s2 s3 s4 s5 s6, fr s2 ∧ fr s3 ∧ fr s4 ∧ fr s5 ∧ fr s6 ∧ S = [some (.v (kpD c_Keeper t)), some (.c true (.lst (((t.take i).map lineS).map D.str))), s2, s3, s4, s5, s6, none, none]) ?_ ?_ ?_)
  · exact ⟨_, _, _, _, _, .inl rfl, .inl rfl, .inl rfl, .inl rfl, .inl rfl, rfl⟩
  · rintro S' ⟨s2, s3, s4, s5, s6, -, -, -, -, -, rfl⟩
    refine hN1 _ ?_
    rw [List.length_map, List.take_of_length_le (Nat.le_refl _)]
    have hl := (len_sheet ht).1
    unfold lRet
    simp
    rw [show (t.map (D.str ∘ lineS)) = (t.map lineS).map D.str by rw [List.map_map], join_lst]
    refine ⟨Nat.le_trans hl (by decide), ?_⟩
    simp
    exact h
  · rintro i d S' N' hd ⟨s2, s3, s4, s5, s6, f2, f3, f4, f5, f6, rfl⟩ hn
    rw [List.getElem?_map] at hd
    cases e : t[i]? with
    | none => rw [e] at hd; cases hd
    | some r =>
      rw [e] at hd
      obtain rfl : _ = d := Option.some.inj hd
      have hm := List.mem_of_getElem? e
      obtain ⟨h1, h2, h3, h4, h5⟩ := row_lt ht hm
      have hi := (List.getElem?_eq_some_iff.mp e).1
      have h40 := ht.l40
      have g2 := fs_of f2
      have g3 := fs_of f3
      have g4 := fs_of f4
      simp at g2 g3 g4
      refine ⟨rfl, rfl, by simp [g2], rfl, by simp [g3], rfl, by simp [g4], rfl, seq_i fun N2 hN2 => ?_⟩
      have j1 := (len_side h2 h4).1
      have j2 := (len_side h3 h5).1
      have l1 := (len_side h2 h4).2
      have l2 := (len_side h3 h5).2
      have l3 : (Str.ofString (Int.repr (r.out : Int))).length ≤ 2 := len_nat h1
      have b1 : (Str.ofString "out ").length = 4 := by decide +kernel
      have b2 : (Str.ofString " hits ").length = 6 := by decide +kernel
      have b3 : (Str.ofString " puts ").length = 6 := by decide +kernel
      unfold lAsg
      refine lc_i fun P1 hP1 => ?_
      refine ⟨rfl, sz (by simp), ?_⟩
      show P1 [.tup (r.hits.map natD), .tup (r.puts.map natD)] [some (.v (kpD c_Keeper t)), some (.c true (.lst (((t.take i).map lineS).map D.str))), some (.v (natD r.out)), some (.v (.tup (r.hits.map natD))), some (.v (.tup (r.puts.map natD))), s5, s6, none, none]
      refine hP1 _ _ rfl ?_
      simp only [compWP]
      refine ⟨rfl, rfl, ?_⟩
      refine ⟨⟨_, rfl⟩, lc_i fun P2 hP2 => ?_⟩
      refine hP2 _ _ rfl (strs8 h2 h4 ?_)
      show joinD (.str (Str.ofString ",")) (.lst ((r.hits.map nnS).map D.str)) _
      rw [join_lst]
      refine ⟨Nat.le_trans j1 (by decide), rfl, by decide, rfl, rfl, ?_⟩
      refine ⟨⟨_, rfl⟩, lc_i fun P3 hP3 => ?_⟩
      refine hP3 _ _ rfl (strs8 h3 h5 ?_)
      show joinD (.str (Str.ofString ",")) (.lst ((r.puts.map nnS).map D.str)) _
      rw [join_lst]
      have g5 := fs_of f5
      have g6 := fs_of f6
      refine ⟨Nat.le_trans j2 (by decide), rfl, szl (by simp), rfl, rfl, g5, rfl, g6, rfl, ?_⟩
      show N2 [some (.v (kpD c_Keeper t)), some (.c true (.lst (((t.take i).map lineS).map D.str))), some (.v (natD r.out)), some (.v (.tup (r.hits.map natD))), some (.v (.tup (r.puts.map natD))), some (.v (.str (sideS r.hits))), some (.v (.str (sideS r.puts))), none, none]
      refine hN2 _ ?_
      have b0 : (Str.empty : Str).length = 0 := rfl
      simp [natD, strLen_append, b0, b1, b2, b3]
      refine ⟨sz (by decide), by have := log_nat h1; simpa using this, sz (by omega), sz (by omega), sz (by omega), sz (by omega), sz (by omega), sz (by omega), sz (by omega), szl (by omega), hn _ ⟨some (.v (natD r.out)), some (.v (.tup (r.hits.map natD))), some (.v (.tup (r.puts.map natD))), some (.v (.str (sideS r.hits))), some (.v (.str (sideS r.puts))), .inr ⟨_, rfl⟩, .inr ⟨_, rfl⟩, .inr ⟨_, rfl⟩, .inr ⟨_, rfl⟩, .inr ⟨_, rfl⟩, ?_⟩⟩
      rw [List.take_add_one, e, Str.empty_append]
      simp [lineS, natD]
end K16
set_option linter.all false
set_option maxRecDepth 100000
set_option maxHeartbeats 4000000
namespace K16
open PySem L2 L3 MK
variable {K : PySem.W.Frag} {c_InvalidText c_Keeper : Addr}
/-! ### tables as data -/
def intsP (xs : List Nat) : List PyData := xs.map fun n => PyData.int (n : Nat)
def rowP (r : Row) : PyData := .tuple [.int (r.out : Nat), .tuple (intsP r.hits), .tuple (intsP r.puts)]
theorem pyds_nat : ∀ xs : List Nat, pyds (xs.map natD) = intsP xs
  | [] => by rw [List.map_nil, pyds]; rfl
  | x :: xs => by rw [List.map_cons, pyds, pyds_nat xs]; rw [show natD x = .int (x : Nat) from rfl, pyd]; rfl
theorem pyd_row (r : Row) : pyd (rowD r) = rowP r := by
  unfold rowD rowP
  rw [pyd, pyds, pyds, pyds, pyds, pyd, pyd, pyds_nat, pyds_nat]
  rw [show natD r.out = .int (r.out : Nat) from rfl, pyd]
theorem pyds_rows : ∀ t : List Row, pyds (t.map rowD) = t.map rowP
  | [] => by rw [List.map_nil, pyds]; rfl
  | r :: t => by rw [List.map_cons, pyds, pyds_rows t, pyd_row]; rfl
theorem okDs_nat {n : Nat} : ∀ xs : List Nat, okDs n (xs.map natD) = true
  | [] => by rw [List.map_nil, okDs]
  | x :: xs => by
    rw [List.map_cons, okDs, okDs_nat xs]
    rw [show natD x = .int (x : Nat) from rfl]
    cases n <;> (rw [okD]; rfl)
theorem okD_row {n : Nat} (r : Row) : okD (n + 2) (rowD r) = true := by
  unfold rowD
  rw [okD, okDs, okDs, okDs, okDs, okD, okD, okDs_nat, okDs_nat]
  rw [show natD r.out = .int (r.out : Nat) from rfl, okD]
  rfl
theorem okDs_rows {n : Nat} : ∀ t : List Row, okDs (n + 2) (t.map rowD) = true
  | [] => by rw [List.map_nil, okDs]
  | r :: t => by rw [List.map_cons, okDs, okD_row, okDs_rows t]; rfl
theorem okD_tbl {n : Nat} {t : List Row} : okD (n + 3) (.tup (t.map rowD)) = true := by
  rw [okD]
  exact okDs_rows t
theorem eqv_ints : ∀ {xs ys : List Nat}, PyData.eqvAll (intsP xs) (intsP ys) = true → xs = ys
  | [], [], _ => rfl
  | [], y :: ys, h => by simp [intsP, PyData.eqvAll] at h
  | x :: xs, [], h => by simp [intsP, PyData.eqvAll] at h
  | x :: xs, y :: ys, h => by
    simp only [intsP, List.map_cons, PyData.eqvAll, PyData.eqv, Bool.and_eq_true, beq_iff_eq] at h
    have h2 := eqv_ints (xs := xs) (ys := ys) h.2
    have h1 : x = y := by have := h.1; omega
    rw [h1, h2]
theorem eqv_row {r s : Row} (h : PyData.eqv (rowP r) (rowP s) = true) : r = s := by
  simp only [rowP, PyData.eqv, PyData.eqvAll, Bool.and_eq_true, beq_iff_eq] at h
  obtain ⟨a, b, d⟩ := r
  obtain ⟨a', b', d'⟩ := s
  have h1 : a = a' := by
    have h1 := h.1
    simp only at h1
    omega
  have h2 := eqv_ints h.2.1
  have h3 := eqv_ints h.2.2.1
  simp only at h1 h2 h3
  rw [h1, h2, h3]
theorem eqv_rows : ∀ {t u : List Row}, PyData.eqvAll (t.map rowP) (u.map rowP) = true → t = u
  | [], [], _ => rfl
  | [], y :: ys, h => by simp [PyData.eqvAll] at h
  | x :: xs, [], h => by simp [PyData.eqvAll] at h
  | x :: xs, y :: ys, h => by
    simp only [List.map_cons, PyData.eqvAll, Bool.and_eq_true] at h
    rw [eqv_row h.1, eqv_rows h.2]
theorem eqd_ne {t u : List Row} (h : t ≠ u) : eqd (.tup (t.map rowD)) (.tup (u.map rowD)) = false := by
  cases e : eqd (.tup (t.map rowD)) (.tup (u.map rowD)) with
  | false => rfl
  | true =>
    exfalso
    apply h
    have e' : PyData.eqv (pyd (.tup (t.map rowD))) (pyd (.tup (u.map rowD))) = true := e
    rw [pyd, pyd, pyds_rows, pyds_rows] at e'
    simp only [PyData.eqv] at e'
    exact eqv_rows e'
theorem eqd_self {t : List Row} : eqd (.tup (t.map rowD)) (.tup (t.map rowD)) = true := PySem.SeqAt.eqv_refl _ (lay_of 60 _ (okD_tbl (n := 57))).1
theorem eq_tbl {t u : List Row} {b : Bool} {P : D → Prop} (hb : eqd (.tup (t.map rowD)) (.tup (u.map rowD)) = b) (h : P (.bl b)) : eqD (.tup (t.map rowD)) (.tup (u.map rowD)) P := by
  show eqD0 _ _ _
  unfold eqD0
  rw [hb]
  exact ⟨okD_tbl (n := 57), okD_tbl (n := 57), h⟩
theorem ne_tbl {t u : List Row} {b : Bool} {P : D → Prop} (hb : eqd (.tup (t.map rowD)) (.tup (u.map rowD)) = b) (h : P (.bl (!b))) : neD (.tup (t.map rowD)) (.tup (u.map rowD)) P := by
  show neD0 _ _ _
  unfold neD0
  rw [hb]
  exact ⟨okD_tbl (n := 57), okD_tbl (n := 57), h⟩
/-! ### shown -/
theorem show_ints : ∀ {xs : List Nat}, (∀ x ∈ xs, x < 100) → PyData.showableAll (intsP xs) = true ∧ PyData.intsShortAll 8 (intsP xs) = true ∧ PyData.weightAll (intsP xs) ≤ 8 * xs.length
  | [], _ => ⟨rfl, rfl, Nat.le_refl _⟩
  | x :: xs, h => by
    have ih := show_ints (xs := xs) fun z hz => h z (List.mem_cons_of_mem _ hz)
    have hx := h x (List.mem_cons_self ..)
    have h1 := log_nat hx
    have h2 := len_nat hx
    have h3 : (PyData.int (x : Nat)).weight ≤ 7 := by
      simp only [PyData.weight]
      split
      · omega
      · have : ((x : Nat) : Int).natAbs.log2 < 7 := PySem.Flt.log2_lt_of (by omega) (by omega)
        omega
    have e : intsP (x :: xs) = PyData.int (x : Nat) :: intsP xs := rfl
    rw [e]
    refine ⟨?_, ?_, ?_⟩
    · simp only [PyData.showableAll, PyData.showable, decide_eq_true h1, ih.1, Bool.and_self]
    · simp only [PyData.intsShortAll, PyData.intsShort, PyData.shown, ih.2.1, Bool.and_true, decide_eq_true_eq]
      have : (Str.ofString (Int.repr (x : Int))).length ≤ 2 := h2
      exact decide_eq_true (Nat.le_trans this (show (2 : Nat) ≤ 8 by decide))
    · simp only [PyData.weightAll, List.length_cons]
      omega
theorem show_row {r : Row} (h : r.out < 100 ∧ (∀ x ∈ r.hits, x < 100) ∧ (∀ x ∈ r.puts, x < 100) ∧ r.hits.length ≤ 4 ∧ r.puts.length ≤ 4) : (rowP r).showable = true ∧ (rowP r).intsShort 8 = true ∧ (rowP r).weight ≤ 100 := by
  obtain ⟨h1, h2, h3, h4, h5⟩ := h
  have a1 := show_ints (xs := [r.out]) (fun x hx => by rw [List.mem_singleton.mp hx]; exact h1)
  have a2 := show_ints h2
  have a3 := show_ints h3
  simp only [intsP, List.map_cons, List.map_nil, PyData.showableAll, PyData.intsShortAll, PyData.weightAll, Bool.and_true, List.length_cons, List.length_nil] at a1
  unfold rowP
  refine ⟨?_, ?_, ?_⟩
  · simp only [PyData.showable, PyData.showableAll] at a1 ⊢
    rw [a1.1, a2.1, a3.1]
    rfl
  · simp only [PyData.intsShort, PyData.intsShortAll] at a1 ⊢
    rw [a1.2.1, a2.2.1, a3.2.1]
    rfl
  · have b1 := a1.2.2
    have b2 := a2.2.2
    have b3 := a3.2.2
    simp only [PyData.weight, PyData.weightAll] at b1 ⊢
    omega
theorem show_rows : ∀ {t : List Row}, (∀ r ∈ t, r.out < 100 ∧ (∀ x ∈ r.hits, x < 100) ∧ (∀ x ∈ r.puts, x < 100) ∧ r.hits.length ≤ 4 ∧ r.puts.length ≤ 4) →
    PyData.showableAll (t.map rowP) = true ∧ PyData.intsShortAll 8 (t.map rowP) = true ∧ PyData.weightAll (t.map rowP) ≤ 101 * t.length
  | [], _ => ⟨rfl, rfl, Nat.le_refl _⟩
  | r :: t, h => by
    have ih := show_rows (t := t) fun z hz => h z (List.mem_cons_of_mem _ hz)
    have hr := show_row (h r (List.mem_cons_self ..))
    rw [List.map_cons]
    refine ⟨?_, ?_, ?_⟩
    · simp only [PyData.showableAll, hr.1, ih.1, Bool.and_self]
    · simp only [PyData.intsShortAll, hr.2.1, ih.2.1, Bool.and_self]
    · simp only [PyData.weightAll, List.length_cons]
      have := hr.2.2
      have := ih.2.2
      omega
def Sh (x : D) : Prop := okD 59 x = true ∧ (pyd x).showable = true ∧ (pyd x).shown.length ≤ 45000
theorem sh_tbl {wide : Nat} {t : List Row} (ht : TblOk wide t) : Sh (.tup (t.map rowD)) := by
  have h := show_rows fun r hr => row_lt ht hr
  have hl := ht.l40
  refine ⟨okD_tbl (n := 56), ?_, ?_⟩
  · rw [pyd, pyds_rows]
    simp only [PyData.showable]
    exact h.1
  · have hok := (lay_of 60 _ (okD_tbl (n := 57) (t := t))).1
    rw [pyd, pyds_rows] at hok ⊢
    have h1 := PyData.shown_le 8 (by decide) (.tuple (t.map rowP)) (PyData.leavesShort_of_canLay0 8 _ (by simpa using hok) (by simp only [PyData.intsShort]; exact h.2.1))
    have h2 : (PyData.tuple (t.map rowP)).weight ≤ 101 * t.length := by simp only [PyData.weight]; exact h.2.2
    omega
theorem ok_app {a b : Str} (ha : PyData.strOk a = true) (hb : PyData.strOk b = true) : PyData.strOk (a ++ b) = true := by
  unfold PyData.strOk at *
  rw [Str.cps_append, Array.all_append, ha, hb]
  rfl
theorem ok_of (s : String) : PyData.strOk (Str.ofString s) = true := by
  unfold PyData.strOk
  rw [Str.ofString_eq_toList]
  simp
  intro c hc
  have := c.valid
  rcases this with h | h
  · have : c.toNat < 55296 := h
    omega
  · exact h.2
theorem ok_join {a : Str} (ha : PyData.strOk a = true) : ∀ {ys : List Str}, (∀ y ∈ ys, PyData.strOk y = true) → PyData.strOk (Str.join a ys) = true
  | [], _ => by simp [PyData.strOk, Str.join, Str.empty]
  | [y], h => h y (by simp)
  | y :: z :: r, h => by
    show PyData.strOk (y ++ a ++ Str.join a (z :: r)) = true
    exact ok_app (ok_app (h y (by simp)) ha) (ok_join ha fun x hx => h x (List.mem_cons_of_mem _ hx))
theorem ok_side {xs : List Nat} : PyData.strOk (sideS xs) = true := by
  have e : sideS xs = Str.join (Str.ofString ",") (xs.map nnS) := StrLaws.glued_eq_join _ _
  rw [e]
  refine ok_join (ok_of _) fun y hy => ?_
  obtain ⟨z, _, rfl⟩ := List.mem_map.mp hy
  exact ok_of _
theorem ok_sheet {t : List Row} : PyData.strOk (sheetS t) = true := by
  have e : sheetS t = Str.join (Str.ofString "\n") (t.map lineS) := StrLaws.glued_eq_join _ _
  rw [e]
  refine ok_join (ok_of _) fun y hy => ?_
  obtain ⟨r, _, rfl⟩ := List.mem_map.mp hy
  exact ok_app (ok_app (ok_app (ok_app (ok_app (ok_of _) (ok_of _)) (ok_of _)) ok_side) (ok_of _)) ok_side
theorem canL {x : Str} (h : PySem.PyData.canLay0 (.str x) = true) {n : Nat} : okD n (.str x) = true := by cases n <;> rw [okD] <;> exact h
theorem sh_str {x : Str} (h : PyData.strOk x = true) (hl : x.length ≤ 1720) : Sh (.str x) := by
  refine ⟨canL (by simpa only [PyData.canLay0] using h), by rw [pyd]; simp [PyData.showable], ?_⟩
  rw [pyd]
  have h1 := PyData.shown_le 8 (by decide) (.str x) (PyData.leavesShort_of_canLay0 8 _ (by simpa only [PyData.canLay0] using h) (by simp [PyData.intsShort]))
  have h2 : (PyData.str x).weight ≤ 1720 := by
    simp only [PyData.weight]
    exact hl
  omega
theorem eq_e {P : D → Prop} (h : P (.bl true)) : eqD (.lst []) (.lst []) P := by
  have hx : okD 60 (.lst []) = true := by rw [okD_lst]; rfl
  have e : eqd (.lst []) (.lst []) = true := PySem.SeqAt.eqv_refl _ (lay_of 60 _ hx).1
  show eqD0 _ _ _
  unfold eqD0
  rw [e]
  exact ⟨hx, hx, h⟩
theorem shows_bs : ∀ {bs : List Bool}, bs.length ≤ 100 → showsD (.lst (bs.map D.bl)) := by
  intro bs hb
  have hok : ∀ bs : List Bool, okDs 59 (bs.map D.bl) = true := fun bs => by
    induction bs with
    | nil => rfl
    | cons b r ih => rw [List.map_cons, okDs, okD, ih]; rfl
  have hpy : ∀ bs : List Bool, pyds (bs.map D.bl) = bs.map PyData.bool := fun bs => by
    induction bs with
    | nil => rw [List.map_nil, pyds]; rfl
    | cons b r ih => rw [List.map_cons, pyds, pyd, ih]; rfl
  have hsh : ∀ bs : List Bool, PyData.showableAll (bs.map PyData.bool) = true := fun bs => by
    induction bs with
    | nil => rfl
    | cons b r ih => rw [List.map_cons]; simp only [PyData.showableAll, PyData.showable, ih, Bool.and_self]
  have hln : ∀ bs : List Bool, ((PyData.shownAll (bs.map PyData.bool)).map (·.length)).sum ≤ 5 * bs.length ∧ (PyData.shownAll (bs.map PyData.bool)).length = bs.length := fun bs => by
    induction bs with
    | nil => exact ⟨Nat.le_refl _, rfl⟩
    | cons b r ih =>
      rw [List.map_cons]
      simp only [PyData.shownAll, List.map_cons, List.sum_cons, List.length_cons]
      have hb : (PyData.bool b).shown.length ≤ 5 := by simp only [PyData.shown]; cases b <;> decide +kernel
      omega
  refine ⟨by rw [okD_lst]; exact hok bs, ?_, ?_⟩
  · rw [pyd, hpy]
    simp only [PyData.showable]
    exact hsh bs
  · rw [pyd, hpy]
    have h1 := listText_len_le (PyData.shownAll (bs.map PyData.bool))
    have h2 := hln bs
    simp only [PyData.shown]
    exact sz (by omega)
theorem bs_text {bs : List Bool} {x : Str} (h : (PyData.list (bs.map PyData.bool)).shown = x) : shownD (.lst (bs.map D.bl)) = x := by
  have hpy : ∀ bs : List Bool, pyds (bs.map D.bl) = bs.map PyData.bool := fun bs => by
    induction bs with
    | nil => rw [List.map_nil, pyds]; rfl
    | cons b r ih => rw [List.map_cons, pyds, pyd, ih]; rfl
  unfold shownD
  rw [pyd, hpy]
  exact h
theorem ne_ss {a b : Str} {P : D → Prop} : neD (.str a) (.str b) P = P (.bl (!decide (a = b))) := rfl
theorem ft_text {P : D → Prop} (h : P (.bl false)) : neD (.str (shownD (.lst [.bl false, .bl true]))) (.str (Str.ofString "[False, True]")) P := by
  rw [show shownD (.lst [.bl false, .bl true]) = Str.ofString "[False, True]" from bs_text (bs := [false, true]) (by simp only [List.map_cons, List.map_nil, PyData.shown, PyData.shownAll]; decide +kernel), ne_ss]
  simpa using h
end K16
set_option linter.all false
set_option maxRecDepth 100000
set_option maxHeartbeats 4000000
namespace K16
open PySem L2 L3 MK
variable {K : PySem.W.Frag} {c_InvalidText c_Keeper : Addr}
/-! ### read back -/
abbrev nS (z : Int) : Str := Str.ofString z.repr
abbrev Mx : Int := 10 ^ 30
@[simp] theorem eq_ss {a b : Str} {P : D → Prop} : eqD (.str a) (.str b) P = P (.bl (decide (a = b))) := rfl
theorem len_int {z : Int} (h : 0 ≤ z ∧ z ≤ Mx) : (nS z).length ≤ 31 := PyProof.Rows.toString_length_le h.1 (by decide) (by have hM : Mx = 1000000000000000000000000000000 := rfl; omega)
theorem log_int {z : Int} (h : 0 ≤ z ∧ z ≤ Mx) : z.natAbs.log2 < 1920 := by
  refine Nat.lt_of_lt_of_le (PySem.Flt.log2_lt_of (k := 137) (by decide) ?_) (by decide)
  have hM : Mx = 1000000000000000000000000000000 := rfl
  have : (10 : Int) ^ 41 < 2 ^ 137 := by decide
  omega
theorem tl_nS (n : Nat) : TL.tl (nS (n : Int)) = TL.numL n := TL.tl_num n
theorem nS_ne {z : Int} (h : 0 ≤ z) : (nS z = Str.ofString "") = False := by
  obtain ⟨n, rfl⟩ := Int.eq_ofNat_of_zero_le h
  refine eq_false fun e => TL.numL_ne n ?_
  rw [← tl_nS, e]
  decide +kernel
theorem nS_int {z : Int} (h : 0 ≤ z ∧ z ≤ Mx) : PySem.intText? (nS z) = some z := by
  have hl := len_int h
  obtain ⟨n, rfl⟩ := Int.eq_ofNat_of_zero_le h.1
  refine TL.int_num ?_
  rw [← tl_nS, ← TL.len_tl]
  omega
theorem nS_inj {a b : Int} (ha : 0 ≤ a ∧ a ≤ Mx) (hb : 0 ≤ b ∧ b ≤ Mx) (e : nS a = nS b) : a = b := by
  have h1 := nS_int ha
  have h2 := nS_int hb
  rw [e, h2] at h1
  exact (Option.some.inj h1).symm
theorem dig_in {c : Nat} (h : 48 ≤ c ∧ c ≤ 57) : (!(Builtin.Str.occurrences (Str.ofString "0123456789") ⟨#[c]⟩ 0 (Str.ofString "0123456789").length 1).isEmpty) = true := by
  rw [StrLaws.found_one, decide_eq_true_eq]
  have e : (Str.ofString "0123456789").cps.toList = [48, 49, 50, 51, 52, 53, 54, 55, 56, 57] := by decide +kernel
  rw [e]
  have : c = 48 ∨ c = 49 ∨ c = 50 ∨ c = 51 ∨ c = 52 ∨ c = 53 ∨ c = 54 ∨ c = 55 ∨ c = 56 ∨ c = 57 := by omega
  rcases this with rfl | rfl | rfl | rfl | rfl | rfl | rfl | rfl | rfl | rfl <;> simp
theorem dig_nS {z : Int} (h : 0 ≤ z) : ∀ c ∈ (nS z).cps.toList, 48 ≤ c ∧ c ≤ 57 := by
  obtain ⟨n, rfl⟩ := Int.eq_ofNat_of_zero_le h
  intro c hc
  have e : (nS (n : Int)).cps.toList = TL.numL n := tl_nS n
  rw [e] at hc
  exact TL.numL_digits n c hc
theorem bls_rep : ∀ n : Nat, blsOf (List.replicate n (.bl true)) = some (List.replicate n true)
  | 0 => rfl
  | n + 1 => by
    rw [List.replicate_succ, List.replicate_succ]
    show (blsOf (List.replicate n (.bl true))).map (true :: ·) = _
    rw [bls_rep n]
    rfl
theorem all_rep : ∀ n : Nat, (List.replicate n true).all id = true
  | 0 => rfl
  | n + 1 => by rw [List.replicate_succ]; simp
theorem number_spec {z : Int} {Q : Qd} {R : Rd'} (hz : 0 ≤ z ∧ z ≤ Mx) (h : Q (.int z) [.v (.str (nS z))]) : w_read_number K c_InvalidText c_Keeper [.v (.str (nS z))] Q R := by
  have hl := len_int hz
  unfold w_read_number fnW t_read_number
  refine ⟨rfl, seq_i fun N hN => if_i fun P hP => or_i fun P1 hP1 => ?_⟩
  simp only [lTst, lBin, lVar, lC]
  simp [nS_ne hz.1]
  refine hP1 _ _ ?_
  simp only [Bool.false_eq_true, if_false]
  refine or_i fun P2 hP2 => ?_
  simp
  refine ⟨sz (by omega), hP2 _ _ ?_⟩
  have h80 : decide ((80 : Int) < ((nS z).length : Int)) = false := decide_eq_false (by omega)
  rw [h80]
  simp only [Bool.false_eq_true, if_false]
  have hcs := dig_nS hz.1
  have hcl : (nS z).cps.toList.length ≤ 31 := by
    have := hl
    rwa [TL.len_tl] at this
  show lLc _ _ _ _ _ [some (.v (.str (nS z))), none, none] _ _
  refine lc_i fun P3 hP3 => ?_
  simp
  refine hP3 _ _ rfl ?_
  refine comp_inv (fun i acc S' => acc = List.replicate i (.bl true) ∧ S' = [some (.v (.str (nS z))), none, none]) ⟨rfl, rfl⟩ ?_ ?_
  · rintro acc S' ⟨rfl, rfl⟩
    refine ⟨_, bls_rep _, ?_⟩
    rw [all_rep]
    refine hP _ _ ?_
    show N [some (.v (.str (nS z))), none, none]
    refine hN _ (seq_i fun N1 hN1 => ?_)
    simp
    refine ⟨by omega, z, nS_int hz, ?_⟩
    refine hN1 _ ?_
    unfold lRet
    refine ife_i fun P4 hP4 => ?_
    simp [strD]
    refine ⟨log_int hz, hP4 _ _ ?_⟩
    simp
    exact h
  · rintro i d acc S' k hd ⟨rfl, rfl⟩ hk -
    rw [List.getElem?_map] at hd
    cases e : (nS z).cps.toList[i]? with
    | none => rw [e] at hd; cases hd
    | some c =>
      rw [e] at hd
      obtain rfl : _ = d := Option.some.inj hd
      have hc := hcs c (List.mem_of_getElem? e)
      have hi := (List.getElem?_eq_some_iff.mp e).1
      have hin : ∀ P : D → Prop, P (.bl true) → inDE (.str ⟨#[c]⟩) (.str (Str.ofString "0123456789")) P := fun P hp => by
        show P (.bl _)
        rw [dig_in hc]
        exact hp
      simp
      refine hin _ ?_
      exact hk _ _ rfl (szl (by simp; omega)) ⟨by rw [List.replicate_succ'], by simp [wipeL]⟩
theorem nn_ok {n : Nat} (h : n < 100) : 0 ≤ (n : Int) ∧ (n : Int) ≤ Mx := by
  have hM : Mx = 1000000000000000000000000000000 := rfl
  omega
theorem free_app {s : Nat} {a b : Str} (ha : s ∉ TL.tl a) (hb : s ∉ TL.tl b) : s ∉ TL.tl (a ++ b) := by
  rw [TL.tl_append]
  exact fun h => (List.mem_append.mp h).elim ha hb
theorem free_join {s : Nat} {a : Str} (ha : s ∉ TL.tl a) : ∀ {ys : List Str}, (∀ y ∈ ys, s ∉ TL.tl y) → s ∉ TL.tl (Str.join a ys)
  | [], _ => by show s ∉ TL.tl Str.empty; exact fun h => nomatch h
  | [y], h => h y (by simp)
  | y :: z :: r, h => by
    show s ∉ TL.tl (y ++ a ++ Str.join a (z :: r))
    exact free_app (free_app (h y (by simp)) ha) (free_join ha fun x hx => h x (List.mem_cons_of_mem _ hx))
theorem free_nn {s n : Nat} (h : s < 48 ∨ 57 < s) : s ∉ TL.tl (nnS n) := by
  have e : TL.tl (nnS n) = TL.numL n := TL.tl_num n
  rw [e]
  exact TL.numL_free h
theorem join_eq {a : Str} {ys : List Str} : Txt.join a ys = Str.join a ys := StrLaws.glued_eq_join _ _
theorem free_side {s : Nat} {xs : List Nat} (h : s < 48 ∨ 57 < s) (h2 : s ≠ 44) : s ∉ TL.tl (sideS xs) := by
  unfold sideS
  rw [join_eq]
  refine free_join (fun hm => ?_) fun y hy => ?_
  · have e : TL.tl (Str.ofString ",") = [44] := by decide +kernel
    rw [e] at hm
    exact h2 (List.mem_singleton.mp hm)
  · obtain ⟨z, _, rfl⟩ := List.mem_map.mp hy
    exact free_nn h
theorem split_side {xs : List Nat} (hx : xs ≠ []) : Txt.split (sideS xs) (Str.ofString ",") = xs.map nnS := by
  unfold sideS
  refine TL.split_join (s := 44) (S := []) (by decide +kernel) (by decide +kernel) (by simpa using hx) fun p hp => ?_
  obtain ⟨z, _, rfl⟩ := List.mem_map.mp hp
  exact free_nn (.inl (by decide))
theorem line_words {r : Row} : lineS r = Txt.join (Str.ofString " ") [Str.ofString "out", nnS r.out, Str.ofString "hits", sideS r.hits, Str.ofString "puts", sideS r.puts] := by
  rw [join_eq]
  have e1 : Str.ofString "out " = Str.ofString "out" ++ Str.ofString " " := by decide +kernel
  have e2 : Str.ofString " hits " = Str.ofString " " ++ (Str.ofString "hits" ++ Str.ofString " ") := by decide +kernel
  have e3 : Str.ofString " puts " = Str.ofString " " ++ (Str.ofString "puts" ++ Str.ofString " ") := by decide +kernel
  unfold lineS
  rw [e1, e2, e3]
  simp only [Str.join, Str.append_assoc]
theorem split_line {r : Row} : Txt.split (lineS r) (Str.ofString " ") = [Str.ofString "out", nnS r.out, Str.ofString "hits", sideS r.hits, Str.ofString "puts", sideS r.puts] := by
  rw [line_words]
  refine TL.split_join (s := 32) (S := []) (by decide +kernel) (by decide +kernel) (by simp) fun p hp => ?_
  have h1 : 32 ∉ TL.tl (Str.ofString "out") := by decide +kernel
  have h2 : 32 ∉ TL.tl (Str.ofString "hits") := by decide +kernel
  have h3 : 32 ∉ TL.tl (Str.ofString "puts") := by decide +kernel
  simp only [List.mem_cons, List.not_mem_nil, or_false] at hp
  rcases hp with rfl | rfl | rfl | rfl | rfl | rfl
  · exact h1
  · exact free_nn (.inl (by decide))
  · exact h2
  · exact free_side (.inl (by decide)) (by decide)
  · exact h3
  · exact free_side (.inl (by decide)) (by decide)
theorem split_sheet {t : List Row} (ht : t ≠ []) : Txt.split (sheetS t) (Str.ofString "\n") = t.map lineS := by
  unfold sheetS
  refine TL.split_join (s := 10) (S := []) (by decide +kernel) (by decide +kernel) (by simpa using ht) fun p hp => ?_
  obtain ⟨r, _, rfl⟩ := List.mem_map.mp hp
  have h1 : 10 ∉ TL.tl (Str.ofString "out ") := by decide +kernel
  have h2 : 10 ∉ TL.tl (Str.ofString " hits ") := by decide +kernel
  have h3 : 10 ∉ TL.tl (Str.ofString " puts ") := by decide +kernel
  unfold lineS
  exact free_app (free_app (free_app (free_app (free_app h1 (free_nn (.inl (by decide)))) h2) (free_side (.inl (by decide)) (by decide))) h3) (free_side (.inl (by decide)) (by decide))
theorem states_r {xs : List Nat} {Q : Qd} {R : Rd'} (hx : ∀ x ∈ xs, x < 100) (hl : 1 ≤ xs.length ∧ xs.length ≤ 4) (h : Q (.tup (xs.map natD)) [.v (.str (sideS xs))]) : w_read_states K c_InvalidText c_Keeper [.v (.str (sideS xs))] Q R := by
  have hs := (len_side hx hl.2).2
  unfold w_read_states fnW t_read_states
  refine ⟨rfl, ?_⟩
  show lLc _ _ _ _ _ [some (.v (.str (sideS xs))), none] _ _
  refine lc_i fun P hP => ?_
  simp
  refine ⟨by decide +kernel, sz (by omega), ?_⟩
  rw [split_side (by intro e; rw [e] at hl; simp at hl)]
  refine hP _ _ rfl (comp_inv (fun i acc S' => acc = (xs.take i).map natD ∧ S' = [some (.v (.str (sideS xs))), none]) ⟨rfl, rfl⟩ ?_ ?_)
  · rintro acc S' ⟨rfl, rfl⟩
    rw [List.length_map, List.length_map, List.take_of_length_le (Nat.le_refl _)]
    exact ⟨trivial, h⟩
  · rintro i d acc S' q hd ⟨rfl, rfl⟩ hq -
    rw [List.getElem?_map, List.getElem?_map] at hd
    cases e : xs[i]? with
    | none => rw [e] at hd; cases hd
    | some z =>
      rw [e] at hd
      obtain rfl : _ = d := Option.some.inj hd
      have hm := hx z (List.mem_of_getElem? e)
      simp
      refine number_spec (z := (z : Int)) (nn_ok hm) ?_
      simp
      refine hq _ _ rfl (szl (by simp; omega)) ⟨?_, by simp [wipeL]⟩
      rw [List.take_add_one, e]
      simp [natD]
theorem ne_self {x : D} {P : D → Prop} (hx : okD 60 x = true) (h : P (.bl false)) : neD x x P := by
  have e : eqd x x = true := PySem.SeqAt.eqv_refl _ (lay_of 60 x hx).1
  have e0 : neD0 x x P := by
    unfold neD0
    rw [e]
    exact ⟨hx, hx, h⟩
  unfold neD
  split
  · simpa using h
  · exact e0
theorem line_r {wide : Nat} {t : List Row} {r : Row} {Q : Qd} {R : Rd'} (ht : TblOk wide t) (hr : r ∈ t) (h : Q (rowD r) [.v (.str (lineS r))]) : w_read_line K c_InvalidText c_Keeper [.v (.str (lineS r))] Q R := by
  have hl := len_line ht hr
  obtain ⟨h1, h2, h3, h4, h5⟩ := row_lt ht hr
  have hro := ht.rows r hr
  have hw := ht.w1
  unfold w_read_line fnW t_read_line
  refine ⟨rfl, seq_i fun N hN => ?_⟩
  simp
  refine ⟨by decide +kernel, sz (by omega), ?_⟩
  rw [split_line]
  refine hN _ (seq_i fun N1 hN1 => if_i fun P1 hP1 => or_i fun P2 hP2 => ?_)
  simp
  refine hP2 _ _ ?_
  simp only [Bool.false_eq_true, if_false]
  simp
  refine ⟨sz (by decide), ne_self (by decide +kernel) ?_⟩
  simp
  refine hP1 _ _ ?_
  simp only [Bool.false_eq_true, if_false]
  show N1 [some (.v (.str (lineS r))), some (.v (.lst [.str (Str.ofString "out"), .str (nnS r.out), .str (Str.ofString "hits"), .str (sideS r.hits), .str (Str.ofString "puts"), .str (sideS r.puts)]))]
  refine hN1 _ ?_
  simp [atI, ixN]
  refine number_spec (z := (r.out : Int)) (nn_ok h1) ?_
  simp [atI, ixN]
  refine states_r h2 ⟨by rw [hro.hl]; exact hw, h4⟩ ?_
  simp [atI, ixN]
  refine states_r h3 ⟨by rw [hro.pl]; exact hw, h5⟩ ?_
  simp
  exact ⟨sz (by decide), h⟩
theorem eq_et {P : D → Prop} (h : P (.bl true)) : eqD (.tup []) (.tup []) P := by
  have hx : okD 60 (.tup []) = true := by decide +kernel
  have e : eqd (.tup []) (.tup []) = true := PySem.SeqAt.eqv_refl _ (lay_of 60 _ hx).1
  show eqD0 _ _ _
  unfold eqD0
  rw [e]
  exact ⟨hx, hx, h⟩
theorem keeper_r {wide : Nat} {t : List Row} {Q : Qd} {R : Rd'} (ht : TblOk wide t) (h : Q (.tup (t.map rowD)) [.v (.str (sheetS t))]) : w_read_keeper K c_InvalidText c_Keeper [.v (.str (sheetS t))] Q R := by
  have hl := (len_sheet ht).2
  have h1 := ht.l1
  have h40 := ht.l40
  unfold w_read_keeper fnW t_read_keeper
  refine ⟨rfl, seq_i fun N hN => if_i fun P1 hP1 => ?_⟩
  have is : ∀ (x : Str) (P : D → Prop), isiD K (.str x) (.ty "str") P = P (.bl true) := fun x P => isi_of (.str _) (.ty _) (kit_ty (by decide +kernel))
  simp [is]
  refine hP1 _ _ ?_
  simp only [Bool.false_eq_true, if_false]
  show N [some (.v (.str (sheetS t))), none, none]
  refine hN _ (seq_i fun N1 hN1 => ?_)
  show lLc _ _ _ _ _ [some (.v (.str (sheetS t))), none, none] _ _
  refine lc_i fun P hP => ?_
  simp
  refine ⟨by decide +kernel, sz (by omega), ?_⟩
  rw [split_sheet (by intro e; rw [e] at h1; simp at h1)]
  refine hP _ _ rfl (comp_inv (fun i acc S' => acc = (t.take i).map rowD ∧ S' = [some (.v (.str (sheetS t))), none, none]) ⟨rfl, rfl⟩ ?_ ?_)
  · rintro acc S' ⟨rfl, rfl⟩
    rw [List.length_map, List.length_map, List.take_of_length_le (Nat.le_refl _)]
    refine ⟨rfl, rfl, ?_⟩
    show N1 [some (.v (.str (sheetS t))), some (.v (.tup (t.map rowD))), none]
    refine hN1 _ ?_
    unfold lRet
    refine ife_i fun P2 hP2 => ?_
    simp
    refine wrong_spec ht ?_
    simp
    refine eq_et ?_
    simp
    refine hP2 _ _ ?_
    simp
    exact h
  · rintro i d acc S' q hd ⟨rfl, rfl⟩ hq -
    rw [List.getElem?_map, List.getElem?_map] at hd
    cases e : t[i]? with
    | none => rw [e] at hd; cases hd
    | some z =>
      rw [e] at hd
      obtain rfl : _ = d := Option.some.inj hd
      simp
      refine line_r ht (List.mem_of_getElem? e) ?_
      simp
      refine hq _ _ rfl (szl (by simp; omega)) ⟨?_, by simp [wipeL]⟩
      rw [List.take_add_one, e]
      simp
theorem read_spec {wide : Nat} {t : List Row} {Q : Qd} {R : Rd'} (ht : TblOk wide t) (hF : FldOk K c_Keeper "lines") (h : Q (kpD c_Keeper t) [.v (.fn c_Keeper), .v (.str (sheetS t))]) : w_Keeper_read K c_InvalidText c_Keeper [.v (.fn c_Keeper), .v (.str (sheetS t))] Q R := by
  unfold w_Keeper_read fnW t_Keeper_read
  refine ⟨rfl, seq_i fun N hN => ?_⟩
  simp
  refine keeper_r ht ?_
  simp
  refine hN _ (seq_i fun N1 hN1 => if_i fun P hP => ?_)
  have inon : ∀ (P : D → Prop), P (.bl false) → isND false (.tup (t.map rowD)) .non P := fun P hp => ⟨rfl, hp⟩
  simp
  refine inon _ ?_
  simp
  refine hP _ _ ?_
  simp only [Bool.false_eq_true, if_false]
  show N1 _
  refine hN1 _ ?_
  simp
  refine init_spec ht hF ?_
  exact ⟨rfl, h⟩
end K16
set_option linter.all false
set_option maxRecDepth 100000
set_option maxHeartbeats 4000000
namespace K16
open PySem L2 L3 MK NumText
variable {K : PySem.W.Frag} {c_InvalidText c_Keeper : Addr}
/-! ### words that are numbers -/
def digB (c : Nat) : Bool := decide (48 ≤ c) && decide (c ≤ 57)
theorem digB_iff {c : Nat} : digB c = true ↔ 48 ≤ c ∧ c ≤ 57 := by simp [digB]
/-- the number that a word writes, if it is written plainly -/
def canon (w : Str) : Option Nat :=
  if w.cps.toList.all digB = true ∧ w.cps.toList ≠ [] ∧ (w.cps.toList.length = 1 ∨ w.cps.toList.head? ≠ some 48) then some (digitsVal w.cps.toList) else none
theorem all_dig {w : Str} (h : w.cps.toList.all digB = true) : AllDigits w.cps.toList := fun c hc => digB_iff.mp (List.all_eq_true.mp h c hc)
theorem back_digits : ∀ cs : List Nat, AllDigits cs → (cs.map Char.ofNat).map Char.toNat = cs
  | [], _ => rfl
  | c :: cs, h => by
    have hc := h.head
    rw [List.map_cons, List.map_cons, back_digits cs h.tail]
    have e : ∀ d : Nat, d < 58 → (Char.ofNat d).toNat = d := by decide
    rw [e c (by omega)]
theorem canon_nS {w : Str} {n : Nat} (h : canon w = some n) : w = nS (n : Int) := by
  unfold canon at h
  split at h
  · rename_i hc
    obtain ⟨h1, h2, h3⟩ := hc
    have ad := all_dig h1
    obtain rfl : digitsVal w.cps.toList = n := Option.some.inj h
    have hl : w.cps.toList.length = (w.cps.toList.length - 1) + 1 := by
      have : 0 < w.cps.toList.length := List.length_pos_iff.mpr h2
      omega
    have ht := toDigits_digitsVal (w.cps.toList.length - 1) w.cps.toList hl ad (by
      rcases h3 with h3 | h3
      · left; omega
      · right
        cases e : w.cps.toList with
        | nil => exact absurd e h2
        | cons c r =>
          rw [e] at h3 ad
          have := ad.head
          refine ⟨c, r, rfl, ?_⟩
          have : c ≠ 48 := fun z => h3 (by rw [z]; rfl)
          omega)
    refine TL.ext_tl ?_
    rw [tl_nS]
    unfold TL.numL
    rw [ht]
    exact (back_digits _ ad).symm
  · cases h
theorem numL_head : ∀ n : Nat, 0 < n → (TL.numL n).head? ≠ some 48 := by
  intro n
  induction n using Nat.strongRecOn with
  | _ n ih =>
    intro hn
    by_cases h : n < 10
    · rw [TL.numL_lt h]
      intro z
      have : 48 + n = 48 := Option.some.inj z
      omega
    · rw [TL.numL_step (by omega), List.head?_append]
      have := ih (n / 10) (by omega) (by omega)
      cases e : (TL.numL (n / 10)).head? with
      | none => exact absurd (List.head?_eq_none_iff.mp e) (TL.numL_ne _)
      | some c =>
        rw [e] at this
        exact this
theorem nS_canon {n : Nat} : canon (nS (n : Int)) = some n := by
  have e : (nS (n : Int)).cps.toList = TL.numL n := tl_nS n
  unfold canon
  rw [e]
  have h1 : (TL.numL n).all digB = true := List.all_eq_true.mpr fun c hc => digB_iff.mpr (TL.numL_digits n c hc)
  have h2 := TL.numL_ne n
  have h3 : (TL.numL n).length = 1 ∨ (TL.numL n).head? ≠ some 48 := by
    by_cases hn : n < 10
    · left
      rw [TL.numL_lt hn]
      rfl
    · exact .inr (numL_head n (by omega))
  rw [if_pos ⟨h1, h2, h3⟩, TL.numL_val]
theorem canon_iff {w : Str} {n : Nat} : canon w = some n ↔ w = nS (n : Int) := ⟨canon_nS, fun h => by rw [h]; exact nS_canon⟩
/-! ### the law's own figures -/
theorem digs_text (w : Str) (c : Nat) : (!(Builtin.Str.occurrences (Str.ofString "0123456789") ⟨#[c]⟩ 0 (Str.ofString "0123456789").length 1).isEmpty) = digB c := by
  have e := SX.in_one [48, 49, 50, 51, 52, 53, 54, 55, 56, 57] c
  have e1 : Str.ofString "0123456789" = SX.S [48, 49, 50, 51, 52, 53, 54, 55, 56, 57] := by decide +kernel
  rw [e1]
  refine e.trans ?_
  unfold digB
  by_cases h : 48 ≤ c ∧ c ≤ 57
  · have hm : c ∈ [48, 49, 50, 51, 52, 53, 54, 55, 56, 57] := by
      simp only [List.mem_cons, List.not_mem_nil, or_false]
      omega
    rw [decide_eq_true hm, decide_eq_true h.1, decide_eq_true h.2]
    rfl
  · have hm : ¬ c ∈ [48, 49, 50, 51, 52, 53, 54, 55, 56, 57] := by
      simp only [List.mem_cons, List.not_mem_nil, or_false]
      omega
    rw [decide_eq_false hm]
    symm
    rw [Bool.and_eq_false_iff, decide_eq_false_iff_not, decide_eq_false_iff_not]
    omega
end K16
set_option linter.all false
set_option maxRecDepth 100000
set_option maxHeartbeats 4000000
namespace K16
open PySem L2 L3 MK NumText
variable {K : PySem.W.Frag} {c_InvalidText c_Keeper : Addr}
def one (c : Nat) : Str := ⟨#[c]⟩
theorem ok_one {w : Str} (h : PyData.strOk w = true) {c : Nat} (hc : c ∈ w.cps.toList) : PyData.strOk (one c) = true := by
  unfold PyData.strOk at h ⊢
  rw [← Array.all_toList] at h ⊢
  have := List.all_eq_true.mp h c hc
  show List.all [c] _ = true
  rw [List.all_cons, this]
  rfl
theorem okDs_strs {n : Nat} : ∀ {ys : List Str}, (∀ y ∈ ys, PyData.strOk y = true) → okDs (n + 1) (ys.map D.str) = true
  | [], _ => by rw [List.map_nil, okDs]
  | y :: ys, h => by
    rw [List.map_cons, okDs, okDs_strs fun z hz => h z (by simp [hz])]
    have : okD (n + 1) (.str y) = true := by rw [okD]; exact h y (by simp)
    rw [this]
    rfl
theorem ne_nil {ys : List Str} {P : D → Prop} (h : ∀ y ∈ ys, PyData.strOk y = true) (q : P (.bl (!ys.isEmpty))) : neD (.lst (ys.map D.str)) (.lst []) P := by
  show neD0 _ _ _
  unfold neD0
  have e : eqd (.lst (ys.map D.str)) (.lst []) = ys.isEmpty := by
    unfold eqd
    rw [pyd, pyd]
    cases ys with
    | nil => rw [List.map_nil, pyds]; rfl
    | cons y ys => rw [List.map_cons, pyds, pyds]; simp [PyData.eqv, PyData.eqvAll]
  rw [e]
  exact ⟨by rw [okD_lst]; exact okDs_strs h, by rw [okD_lst, okDs], q⟩
theorem eqs_pv {T U : LT} {S : SS} {a b : Str} (h : Pv T S (.str a)) (g : Pv U S (.str b)) : Pv (lBin eqD T U) S (.bl (decide (a = b))) := .bin h g rfl fun P q => q
theorem nes_pv {T U : LT} {S : SS} {a b : Str} (h : Pv T S (.str a)) (g : Pv U S (.str b)) : Pv (lBin neD T U) S (.bl (!decide (a = b))) := .bin h g rfl fun P q => q
theorem gti_pv {T U : LT} {S : SS} {a b : Int} (h : Pv T S (.int a)) (g : Pv U S (.int b)) : Pv (lBin gtD T U) S (.bl (decide (b < a))) := .bin h g rfl fun P q => q
theorem lens_pv {T : LT} {S : SS} {a : Str} (h : Pv T S (.str a)) (hl : a.length ≤ sizeLine) : Pv (lCB (on1 lenD) (lCons T lNil)) S (.int (a.length : Nat)) := .cb (.cons h .nil) rfl fun P q => ⟨hl, q⟩
/-- what the law's figure tells -/
def figD (w : Str) : D := match canon w with
  | some n => if w.length ≤ 40 then .int (n : Nat) else .non
  | none => .non
theorem figure_spec {w : Str} {Q : Qd} {R : Rd'} (hw : PyData.strOk w = true) (hz : w.length ≤ 100000) (h : Q (figD w) [.v (.str w)]) : w_law_figure K c_InvalidText c_Keeper [.v (.str w)] Q R := by
  unfold w_law_figure fnW t_law_figure
  have wl : w.length = w.cps.toList.length := by rw [TL.len_tl]
  refine ⟨rfl, seq_i fun N hN => if_i fun P hP => or_i fun P1 hP1 => ?_⟩
  refine Pv.go (d := .bl (decide (w = Str.ofString ""))) (eqs_pv (.var rfl) .c) _ _ ?_
  show P1 (decide (w = Str.ofString "")) _
  refine hP1 _ _ ?_
  by_cases h0 : w = Str.ofString ""
  · rw [decide_eq_true h0]
    simp only [if_true]
    refine hP _ _ ?_
    simp only [if_true]
    have e : figD w = .non := by
      unfold figD canon
      rw [h0]
      rfl
    rw [e] at h
    exact ⟨trivial, h⟩
  · rw [decide_eq_false h0]
    simp only [Bool.false_eq_true, if_false]
    refine or_i fun P2 hP2 => ?_
    refine Pv.go (d := .bl (decide ((40 : Int) < (w.length : Nat)))) (gti_pv (lens_pv (.var rfl) (sz hz)) .c) _ _ ?_
    show P2 (decide ((40 : Int) < (w.length : Nat))) _
    refine hP2 _ _ ?_
    by_cases h40 : (40 : Int) < (w.length : Nat)
    · rw [decide_eq_true h40]
      simp only [if_true]
      refine hP _ _ ?_
      simp only [if_true]
      have e : figD w = .non := by
        unfold figD
        split
        · rw [if_neg (by omega)]
        · rfl
      rw [e] at h
      exact ⟨trivial, h⟩
    · rw [decide_eq_false h40]
      simp only [Bool.false_eq_true, if_false]
      show lBin neD _ _ _ _ _
      refine bin_i fun P3 hP3 => lc_i fun P4 hP4 => ?_
      simp
      have hcl : w.cps.toList.length ≤ 40 := by omega
      refine hP4 _ _ rfl (comp_inv (fun i acc S' => acc = ((w.cps.toList.take i).filter (fun c => !digB c)).map (fun c => D.str (one c)) ∧ S' = [some (.v (.str w)), none]) ⟨rfl, rfl⟩ ?_ ?_)
      · rintro acc S' ⟨rfl, rfl⟩
        rw [List.length_map, List.take_length]
        have em : (w.cps.toList.filter (fun c => !digB c)).map (fun c => D.str (one c)) = ((w.cps.toList.filter (fun c => !digB c)).map one).map D.str := by rw [List.map_map]; rfl
        rw [em]
        refine hP3 _ _ ?_
        refine Pv.go (d := .lst []) (Pv.lst .nil) _ _ ?_
        show neD (.lst (((w.cps.toList.filter (fun c => !digB c)).map one).map D.str)) (.lst []) _
        refine ne_nil (fun y hy => ?_) ?_
        · obtain ⟨c, hc, rfl⟩ := List.mem_map.mp hy
          exact ok_one hw (List.mem_filter.mp hc).1
        show P (!((w.cps.toList.filter (fun c => !digB c)).map one).isEmpty) [some (.v (.str w)), none]
        refine hP _ _ ?_
        by_cases hall : w.cps.toList.all digB = true
        · have ef : w.cps.toList.filter (fun c => !digB c) = [] := List.filter_eq_nil_iff.mpr fun c hc => by
            rw [List.all_eq_true.mp hall c hc]; simp
          rw [ef]
          simp only [List.map_nil, List.isEmpty_nil, Bool.not_true, Bool.false_eq_true, if_false]
          show N _
          refine hN _ ?_
          have hne : w.cps.toList ≠ [] := fun z => h0 (by
            refine TL.ext_tl ?_
            show w.cps.toList = _
            rw [z]
            rfl)
          obtain ⟨c0, cs, ecs⟩ : ∃ c cs, w.cps.toList = c :: cs := by
            cases e : w.cps.toList with
            | nil => exact absurd e hne
            | cons c cs => exact ⟨c, cs, rfl⟩
          unfold lRet
          refine ife_i fun P5 hP5 => and_i fun P6 hP6 => ?_
          refine Pv.go (d := .bl (decide (one c0 = Str.ofString "0"))) (eqs_pv (a := one c0) (.bin (.var rfl) .c rfl fun P q => ⟨sz hz, c0, by rw [ecs]; simp [atI, ixN], q⟩) .c) _ _ ?_
          show P6 (decide (one c0 = Str.ofString "0")) _
          refine hP6 _ _ ?_
          have eq0 : (one c0 = Str.ofString "0") ↔ c0 = 48 := by
            have e0 : Str.ofString "0" = one 48 := by decide +kernel
            rw [e0]
            constructor
            · intro z
              have : [c0] = [48] := congrArg (fun x : Str => x.cps.toList) z
              exact (List.cons.inj this).1
            · rintro rfl; rfl
          have ew0 : (w = Str.ofString "0") ↔ w.cps.toList = [48] := by
            have e0 : (Str.ofString "0").cps.toList = [48] := by decide +kernel
            constructor
            · rintro rfl; exact e0
            · intro z; exact TL.ext_tl (z.trans e0.symm)
          have fin : (w.cps.toList.length = 1 ∨ w.cps.toList.head? ≠ some 48) → P5 false [some (.v (.str w)), none] := fun hc => by
            refine hP5 _ _ ?_
            simp only [Bool.false_eq_true, if_false]
            have e : figD w = .int ((digitsVal w.cps.toList : Nat) : Int) := by
              unfold figD canon
              rw [if_pos ⟨hall, hne, hc⟩]
              show (if w.length ≤ 40 then _ else _) = _
              rw [if_pos (by omega)]
            rw [e] at h
            refine Pv.go (d := .int ((digitsVal w.cps.toList : Nat) : Int)) (.cb (f := on1 intD1) (ds := [.str w]) (.cons (.var rfl) .nil) rfl fun P q => ⟨by omega, _, intText_digits (all_dig hall) hne (by omega), q⟩) _ _ ?_
            exact ⟨trivial, h⟩
          by_cases hc0 : c0 = 48
          · rw [decide_eq_true (eq0.mpr hc0)]
            simp only [if_true]
            refine Pv.go (d := .bl (!decide (w = Str.ofString "0"))) (nes_pv (.var rfl) .c) _ _ ?_
            show P5 (!decide (w = Str.ofString "0")) _
            by_cases hw0 : w = Str.ofString "0"
            · rw [decide_eq_true hw0]
              refine fin (.inl ?_)
              rw [ew0.mp hw0]
              rfl
            · rw [decide_eq_false hw0]
              refine hP5 _ _ ?_
              simp only [Bool.not_false, if_true]
              have e : figD w = .non := by
                unfold figD canon
                rw [if_neg]
                rintro ⟨_, _, z | z⟩
                · refine hw0 (ew0.mpr ?_)
                  rw [ecs] at z ⊢
                  cases cs with
                  | nil => rw [hc0]
                  | cons a b => simp at z
                · rw [ecs, hc0] at z
                  exact z rfl
              rw [e] at h
              exact ⟨trivial, h⟩
          · rw [decide_eq_false fun z => hc0 (eq0.mp z)]
            simp only [Bool.false_eq_true, if_false]
            refine fin (.inr ?_)
            rw [ecs]
            intro z
            exact hc0 (Option.some.inj z)
        · have ef : ((w.cps.toList.filter (fun c => !digB c)).map one).isEmpty = false := by
            cases e : w.cps.toList.filter (fun c => !digB c) with
            | nil =>
              refine absurd (List.all_eq_true.mpr fun c hc => ?_) hall
              have := List.filter_eq_nil_iff.mp e c hc
              cases hb : digB c with
              | true => rfl
              | false => rw [hb] at this; simp at this
            | cons c cs => rfl
          rw [ef]
          simp only [Bool.not_false, if_true]
          have e : figD w = .non := by
            unfold figD canon
            rw [if_neg (fun z => hall z.1)]
          rw [e] at h
          exact ⟨trivial, h⟩
      · rintro i d acc S' k hd ⟨rfl, rfl⟩ hk hk2
        rw [List.getElem?_map] at hd
        cases e : w.cps.toList[i]? with
        | none => rw [e] at hd; cases hd
        | some c =>
          rw [e] at hd
          obtain rfl : _ = d := Option.some.inj hd
          have hi := (List.getElem?_eq_some_iff.mp e).1
          have hin : ∀ P : D → Prop, P (.bl (!digB c)) → notInDE (.str ⟨#[c]⟩) (.str (Str.ofString "0123456789")) P := fun P hp => by
            rw [notInDE_ss, digs_text w c]
            exact hp
          have et : w.cps.toList.take (i + 1) = w.cps.toList.take i ++ [c] := by rw [List.take_succ, e]; rfl
          simp
          refine hin _ ?_
          have hlen : ((w.cps.toList.take i).filter (fun c => !digB c)).length ≤ 40 := Nat.le_trans (List.length_filter_le _ _) (Nat.le_trans (List.length_take_le _ _) (by omega))
          cases hb : digB c with
          | false =>
            simp
            exact hk _ _ rfl (szl (by rw [List.length_map]; omega)) ⟨by rw [et, List.filter_append, List.map_append]; simp [hb, one], by simp [wipeL]⟩
          | true =>
            simp
            exact hk2 _ ⟨by rw [et, List.filter_append, List.map_append]; simp [hb], by simp [wipeL]⟩
end K16
set_option linter.all false
set_option maxRecDepth 100000
set_option maxHeartbeats 4000000
namespace K16
open PySem L2 L3 MK NumText
variable {K : PySem.W.Frag} {c_InvalidText c_Keeper : Addr}
def numD (w : Str) : D := match canon w with
  | some n => if w.length ≤ 80 then .int (n : Nat) else .non
  | none => .non
theorem bls_of (f : Nat → Bool) : ∀ cs : List Nat, blsOf (cs.map fun c => D.bl (f c)) = some (cs.map f)
  | [] => rfl
  | c :: cs => by
    rw [List.map_cons, List.map_cons]
    show (blsOf (cs.map fun c => D.bl (f c))).map (f c :: ·) = _
    rw [bls_of f cs]
    rfl
theorem val_lt : ∀ cs : List Nat, AllDigits cs → ∀ a, cs.foldl (fun acc c => acc * 10 + (c - 48)) a < (a + 1) * 10 ^ cs.length
  | [], _, a => by simp
  | c :: cs, h, a => by
    have hc := h.head
    have ih := val_lt cs h.tail (a * 10 + (c - 48))
    rw [List.foldl_cons, List.length_cons, Nat.pow_succ]
    refine Nat.lt_of_lt_of_le ih ?_
    have : a * 10 + (c - 48) + 1 ≤ (a + 1) * 10 := by omega
    calc (a * 10 + (c - 48) + 1) * 10 ^ cs.length ≤ ((a + 1) * 10) * 10 ^ cs.length := Nat.mul_le_mul_right _ this
      _ = (a + 1) * (10 ^ cs.length * 10) := by rw [Nat.mul_assoc, Nat.mul_comm 10]
theorem log_dig {cs : List Nat} (h : AllDigits cs) (hl : cs.length ≤ 80) : ((digitsVal cs : Nat) : Int).natAbs.log2 < 1920 := by
  have h1 := val_lt cs h 0
  have h2 : (10 : Nat) ^ cs.length ≤ 10 ^ 80 := Nat.pow_le_pow_right (by decide) hl
  have h3 : digitsVal cs < 10 ^ 80 := by
    unfold digitsVal
    omega
  have h4 : ((digitsVal cs : Nat) : Int).natAbs = digitsVal cs := Int.natAbs_natCast _
  rw [h4]
  by_cases h0 : digitsVal cs = 0
  · rw [h0]; decide
  · exact (Nat.log2_lt h0).mpr (Nat.lt_of_lt_of_le h3 (by decide))
theorem number_specA {w : Str} {Q : Qd} {R : Rd'} (hz : w.length ≤ 100000) (h : Q (numD w) [.v (.str w)]) : w_read_number K c_InvalidText c_Keeper [.v (.str w)] Q R := by
  unfold w_read_number fnW t_read_number
  have wl : w.length = w.cps.toList.length := by rw [TL.len_tl]
  refine ⟨rfl, seq_i fun N hN => if_i fun P hP => or_i fun P1 hP1 => ?_⟩
  refine Pv.go (d := .bl (decide (w = Str.ofString ""))) (eqs_pv (.var rfl) .c) _ _ ?_
  show P1 (decide (w = Str.ofString "")) _
  refine hP1 _ _ ?_
  by_cases h0 : w = Str.ofString ""
  · rw [decide_eq_true h0]
    simp only [if_true]
    refine hP _ _ ?_
    simp only [if_true]
    have e : numD w = .non := by
      unfold numD canon
      rw [h0]
      rfl
    rw [e] at h
    exact ⟨trivial, h⟩
  · rw [decide_eq_false h0]
    simp only [Bool.false_eq_true, if_false]
    refine or_i fun P2 hP2 => ?_
    refine Pv.go (d := .bl (decide ((80 : Int) < (w.length : Nat)))) (gti_pv (lens_pv (.var rfl) (sz hz)) .c) _ _ ?_
    show P2 (decide ((80 : Int) < (w.length : Nat))) _
    refine hP2 _ _ ?_
    by_cases h40 : (80 : Int) < (w.length : Nat)
    · rw [decide_eq_true h40]
      simp only [if_true]
      refine hP _ _ ?_
      simp only [if_true]
      have e : numD w = .non := by
        unfold numD
        split
        · rw [if_neg (by omega)]
        · rfl
      rw [e] at h
      exact ⟨trivial, h⟩
    · rw [decide_eq_false h40]
      simp only [Bool.false_eq_true, if_false]
      show lLc _ _ _ _ _ [some (.v (.str w)), none, none] _ _
      refine lc_i fun P3 hP3 => ?_
      simp
      have hcl : w.cps.toList.length ≤ 80 := by omega
      refine hP3 _ _ rfl (comp_inv (fun i acc S' => acc = (w.cps.toList.take i).map (fun c => D.bl (digB c)) ∧ S' = [some (.v (.str w)), none, none]) ⟨rfl, rfl⟩ ?_ ?_)
      · rintro acc S' ⟨rfl, rfl⟩
        rw [List.length_map, List.take_length]
        refine ⟨_, bls_of digB _, ?_⟩
        have ea : (w.cps.toList.map digB).all id = w.cps.toList.all digB := by rw [List.all_map]; rfl
        rw [ea]
        show P (!(w.cps.toList.all digB)) [some (.v (.str w)), none, none]
        refine hP _ _ ?_
        cases hall : w.cps.toList.all digB with
        | false =>
          simp only [Bool.not_false, if_true]
          have e : numD w = .non := by
            unfold numD canon
            rw [if_neg (fun z => by rw [hall] at z; cases z.1)]
          rw [e] at h
          exact ⟨trivial, h⟩
        | true =>
          simp only [Bool.not_true, Bool.false_eq_true, if_false]
          show N _
          have hne : w.cps.toList ≠ [] := fun z => h0 (by
            refine TL.ext_tl ?_
            show w.cps.toList = _
            rw [z]
            rfl)
          refine hN _ (seq_i fun N1 hN1 => ?_)
          refine asg_pv (d := .int ((digitsVal w.cps.toList : Nat) : Int)) (.cb (f := on1 intD1) (ds := [.str w]) (.cons (.var rfl) .nil) rfl fun P q => ⟨by omega, _, intText_digits (all_dig hall) hne (by omega), q⟩) rfl ?_
          simp only [List.set]
          refine hN1 _ ?_
          unfold lRet
          refine ife_i fun P4 hP4 => ?_
          refine Pv.go (d := .bl (decide (nS ((digitsVal w.cps.toList : Nat) : Int) = w))) (eqs_pv (.cb (f := on1 strD) (ds := [.int ((digitsVal w.cps.toList : Nat) : Int)]) (.cons (.var rfl) .nil) rfl fun P q => ⟨log_dig (all_dig hall) (by omega), q⟩) (.var rfl)) _ _ ?_
          show P4 (decide (nS ((digitsVal w.cps.toList : Nat) : Int) = w)) _
          refine hP4 _ _ ?_
          by_cases hc : nS ((digitsVal w.cps.toList : Nat) : Int) = w
          · rw [decide_eq_true hc]
            simp only [if_true]
            have e : numD w = .int ((digitsVal w.cps.toList : Nat) : Int) := by
              unfold numD
              rw [canon_iff.mpr hc.symm]
              show (if w.length ≤ 80 then _ else _) = _
              rw [if_pos (by omega)]
            rw [e] at h
            exact ⟨trivial, h⟩
          · rw [decide_eq_false hc]
            simp only [Bool.false_eq_true, if_false]
            have e : numD w = .non := by
              unfold numD
              cases ec : canon w with
              | none => rfl
              | some n =>
                have en := canon_nS ec
                refine absurd ?_ hc
                have : digitsVal w.cps.toList = n := by
                  unfold canon at ec
                  split at ec
                  · exact Option.some.inj ec
                  · cases ec
                rw [this]
                exact en.symm
            rw [e] at h
            exact ⟨trivial, h⟩
      · rintro i d acc S' k hd ⟨rfl, rfl⟩ hk -
        rw [List.getElem?_map] at hd
        cases e : w.cps.toList[i]? with
        | none => rw [e] at hd; cases hd
        | some c =>
          rw [e] at hd
          obtain rfl : _ = d := Option.some.inj hd
          have hi := (List.getElem?_eq_some_iff.mp e).1
          have hin : ∀ P : D → Prop, P (.bl (digB c)) → inDE (.str ⟨#[c]⟩) (.str (Str.ofString "0123456789")) P := fun P hp => by
            show P (.bl _)
            rw [digs_text w c]
            exact hp
          have et : w.cps.toList.take (i + 1) = w.cps.toList.take i ++ [c] := by rw [List.take_succ, e]; rfl
          simp
          refine hin _ ?_
          have hlen : (w.cps.toList.take i).length ≤ 80 := Nat.le_trans (List.length_take_le _ _) (by omega)
          exact hk _ _ rfl (szl (by rw [List.length_map]; omega)) ⟨by rw [et, List.map_append]; rfl, by simp [wipeL]⟩
end K16
set_option linter.all false
set_option maxRecDepth 100000
set_option maxHeartbeats 4000000
namespace K16
open PySem L2 L3 MK NumText
variable {K : PySem.W.Frag} {c_InvalidText c_Keeper : Addr}
abbrev jok (b : Int) : Prop := 0 ≤ b ∧ b < 2147483353
def isNum (x : D) : Prop := x = .non ∨ ∃ n : Nat, x = .int (n : Nat)
theorem isNum.nc {x : D} (h : isNum x) : isCel x = false := by rcases h with rfl | ⟨n, rfl⟩ <;> rfl
/-- three words compared with three -/
theorem ne_three {a b c x y z : Str} {P : D → Prop} (ha : PyData.strOk a = true) (hb : PyData.strOk b = true) (hc : PyData.strOk c = true) (hx : PyData.strOk x = true) (hy : PyData.strOk y = true) (hz : PyData.strOk z = true)
    (q : P (.bl (!decide (a = x ∧ b = y ∧ c = z)))) : neD (.lst [.str a, .str b, .str c]) (.lst [.str x, .str y, .str z]) P := by
  show neD0 _ _ _
  unfold neD0
  have es : ∀ u v : Str, PyData.eqv (.str u) (.str v) = decide (u = v) := fun u v => by simp [PyData.eqv, Bool.beq_eq_decide_eq]
  have e : eqd (.lst [.str a, .str b, .str c]) (.lst [.str x, .str y, .str z]) = decide (a = x ∧ b = y ∧ c = z) := by
    unfold eqd
    simp only [pyd, pyds]
    show (PyData.eqv (.str a) (.str x) && (PyData.eqv (.str b) (.str y) && (PyData.eqv (.str c) (.str z) && true))) = _
    rw [es, es, es, Bool.and_true, ← Bool.decide_and, ← Bool.decide_and]
  rw [e]
  have o : ∀ u : Str, PyData.strOk u = true → okD 59 (.str u) = true := fun u h => by rw [okD]; exact h
  exact ⟨by rw [okD_lst, okDs, okDs, okDs, okDs, o a ha, o b hb, o c hc]; rfl, by rw [okD_lst, okDs, okDs, okDs, okDs, o x hx, o y hy, o z hz]; rfl, q⟩
theorem split_pv {T U : LT} {S : SS} {a b : Str} (h : Pv T S (.str a)) (g : Pv U S (.str b)) (h0 : (b.length == 0) = false) (hl : a.length + 2 ≤ sizeLine) : Pv (lM1 splitD T U) S (.lst ((Txt.split a b).map D.str)) := ⟨rfl, fun _ _ q => h.go _ _ ⟨⟨_, rfl⟩, g.go _ _ ⟨h0, hl, q⟩⟩⟩
theorem ixL_pv {Ta Tb : LT} {S : SS} {xs : List D} {i : Int} {d : D} (ha : Pv Ta S (.lst xs)) (hb : Pv Tb S (.int i)) (h : atI xs i = some d) (nc : isCel d = false := by rfl) : Pv (lBin ixD Ta Tb) S d := .bin ha hb nc fun P q => ⟨_, h, q⟩
theorem lenL_pv {T : LT} {S : SS} {xs : List D} (h : Pv T S (.lst xs)) : Pv (lCB (on1 lenD) (lCons T lNil)) S (.int (xs.length : Nat)) := .cb (.cons h .nil) rfl fun P q => q
theorem slL_pv {T : LT} {S : SS} {Tl Th : LTO} {lo hi : Option Int} {xs : List D} (h : Pv T S (.lst xs)) (hl : Pvo Tl S lo) (hh : Pvo Th S hi) : Pv (lSl T Tl Th) S (.lst (cutD xs lo hi)) := ⟨rfl, fun _ _ q => h.go _ _ (hl _ _ (hh _ _ q))⟩
theorem mem_joinL {S : List Nat} : ∀ {ps : List (List Nat)} {p : List Nat}, p ∈ ps → (∀ c ∈ p, c ∈ TL.joinL S ps) ∧ p.length ≤ (TL.joinL S ps).length
  | [q], p, h => by
    simp only [List.mem_cons, List.not_mem_nil, or_false] at h
    subst h
    exact ⟨fun c hc => hc, Nat.le_refl _⟩
  | q :: q2 :: r, p, h => by
    rcases List.mem_cons.mp h with rfl | h
    · exact ⟨fun c hc => List.mem_append_left _ hc, by show p.length ≤ (p ++ (S ++ TL.joinL S (q2 :: r))).length; rw [List.length_append]; omega⟩
    · have ih := mem_joinL (S := S) h
      refine ⟨fun c hc => List.mem_append_right _ (List.mem_append_right _ (ih.1 c hc)), ?_⟩
      show p.length ≤ (q ++ (S ++ TL.joinL S (q2 :: r))).length
      rw [List.length_append, List.length_append]
      omega
theorem addL_pv {Ta Tb : LT} {S : SS} {xs ys : List D} (ha : Pv Ta S (.lst xs)) (hb : Pv Tb S (.lst ys)) (hl : xs.length + ys.length ≤ sizeLine) : Pv (lBin addD Ta Tb) S (.lst (xs ++ ys)) := .bin ha hb rfl fun P q => ⟨hl, q⟩
theorem take_snoc {α : Type} {xs : List α} {i : Nat} {a : α} (h : xs[i]? = some a) : xs.take (i + 1) = xs.take i ++ [a] := by rw [List.take_succ, h]; rfl
end K16
set_option linter.all false
set_option maxRecDepth 100000
set_option maxHeartbeats 4000000
namespace K16
open PySem L2 L3 MK NumText
/-! ### lengths of parts joined by one sign -/
def tot (ps : List Str) : Nat := (ps.map fun p => p.length + 1).sum
theorem tot_cons {p : Str} {ps : List Str} : tot (p :: ps) = p.length + 1 + tot ps := by unfold tot; simp
theorem tot_app {ps qs : List Str} : tot (ps ++ qs) = tot ps + tot qs := by unfold tot; simp
theorem join_len {s : Str} (hs : s.length = 1) : ∀ {ps : List Str}, ps ≠ [] → (Str.join s ps).length + 1 = tot ps
  | [p], _ => by show p.length + 1 = _; rw [tot_cons]; rfl
  | p :: q :: r, _ => by
    have ih := join_len hs (ps := q :: r) (by simp)
    show (p ++ s ++ Str.join s (q :: r)).length + 1 = _
    rw [Str.length_append, Str.length_append, tot_cons]
    omega
theorem join_le {s : Str} (hs : s.length = 1) {ps : List Str} : (Str.join s ps).length ≤ tot ps := by
  cases ps with
  | nil => show (0 : Nat) ≤ _; omega
  | cons p ps =>
    have := join_len hs (ps := p :: ps) (by simp)
    omega
theorem tot_sub {ps qs : List Str} (h : List.Sublist ps qs) : tot ps ≤ tot qs := by
  induction h with
  | slnil => exact Nat.le_refl _
  | cons a _ ih => rw [tot_cons]; omega
  | cons_cons a _ ih => rw [tot_cons, tot_cons]; omega
theorem tot_cut {ps : List Str} {lo hi : Option Int} : tot (cutD ps lo hi) ≤ tot ps := by
  unfold cutD
  exact tot_sub ((List.take_sublist _ _).trans (List.drop_sublist _ _))
theorem cut_map {ps : List Str} {lo hi : Option Int} : cutD (ps.map D.str) lo hi = (cutD ps lo hi).map D.str := by
  unfold cutD
  rw [List.length_map, ← List.map_drop, ← List.map_take]
theorem mem_cut {ps : List Str} {lo hi : Option Int} {p : Str} (h : p ∈ cutD ps lo hi) : p ∈ ps := List.mem_of_mem_drop (List.mem_of_mem_take h)
end K16
set_option linter.all false
set_option maxRecDepth 100000
set_option maxHeartbeats 4000000
namespace K16
open PySem L2 L3 MK NumText
variable {K : PySem.W.Frag} {c_InvalidText c_Keeper : Addr}
theorem of_at {xs : List D} {v : Int} (h0 : 0 ≤ v) (h1 : v < (xs.length : Nat)) : ∃ d, atI xs v = some d ∧ d ∈ xs := by
  obtain ⟨k, rfl⟩ := Int.eq_ofNat_of_zero_le h0
  have hk : k < xs.length := by omega
  rw [atI_nat' hk]
  exact ⟨_, rfl, List.getElem_mem hk⟩
theorem ofl_spec {a b n : Int} {xs : List D} {Q : Qd} {R : Rd'} (hb : jok b) (hl : 0 < (xs.length : Int) ∧ (xs.length : Int) ≤ 10 ^ 15) (nc : ∀ d ∈ xs, isCel d = false)
    (h : ∀ d a' b' n', d ∈ xs → jok b' → Q d [.c false (.lst (jar a' b' n')), .v (.lst xs)]) : w_law_of K c_InvalidText c_Keeper [.c false (.lst (jar a b n)), .v (.lst xs)] Q R := by
  unfold w_law_of fnW t_law_of
  refine ⟨rfl, ?_⟩
  unfold lRet
  refine bin_i fun P hP => ?_
  simp
  refine hP _ _ ?_
  simp
  refine pick_spec hb hl fun v a1 b1 n1 v0 v1 hb1 => ?_
  obtain ⟨d, hd, hm⟩ := of_at v0 v1
  have cd := nc d hm
  simp [hd, cd]
  exact h d _ _ _ hm hb1
/-- texts that may come of bending t -/
structure Fine (n : Nat) (u : Str) : Prop where
  ok : PyData.strOk u = true
  len : u.length ≤ n
theorem fine_app {m n : Nat} {u v : Str} (hu : Fine m u) (hv : Fine n v) : Fine (m + n) (u ++ v) := ⟨ok_app hu.ok hv.ok, by rw [Str.length_append]; have := hu.len; have := hv.len; omega⟩
theorem fine_cut {n : Nat} {u : Str} {lo hi : Option Int} (h : Fine n u) : Fine n (cutS u lo hi) := by
  refine ⟨?_, Nat.le_trans (cutS_length u lo hi) h.len⟩
  have ho := h.ok
  unfold PyData.strOk at ho ⊢
  rw [← Array.all_toList] at ho ⊢
  refine List.all_eq_true.mpr fun c hc => List.all_eq_true.mp ho c ?_
  exact List.mem_of_mem_drop (List.mem_of_mem_take (show c ∈ (u.cps.toList.drop _).take _ from hc))
theorem cutS_add (u : Str) {k : Int} (h0 : 0 ≤ k) : (cutS u none (some k)).length + (cutS u (some k) none).length ≤ u.length := by
  obtain ⟨m, rfl⟩ := Int.eq_ofNat_of_zero_le h0
  have e1 : (cutS u none (some (m : Int))).length = (u.cps.toList.take m).length := by
    rw [TL.len_tl]
    show ((u.cps.toList.drop (HT.sIx u.length 0 none)).take (HT.sIx u.length u.length (some (m : Int)) - HT.sIx u.length 0 none)).length = _
    rw [HT.sIx_none, HT.sIx_nat, List.drop_zero, Nat.sub_zero, TL.len_tl]
    simp only [List.length_take]
    show min (min m u.cps.toList.length) _ = _
    omega
  have e2 : (cutS u (some (m : Int)) none).length = (u.cps.toList.drop m).length := by
    rw [TL.len_tl]
    show ((u.cps.toList.drop (HT.sIx u.length 0 (some (m : Int)))).take (HT.sIx u.length u.length none - HT.sIx u.length 0 (some (m : Int)))).length = _
    rw [HT.sIx_none, HT.sIx_nat, TL.len_tl]
    simp only [List.length_take, List.length_drop]
    show min (u.cps.toList.length - min m u.cps.toList.length) (u.cps.toList.length - min m u.cps.toList.length) = _
    omega
  rw [e1, e2, TL.len_tl]
  simp only [List.length_take, List.length_drop]
  show _ ≤ u.cps.toList.length
  omega
theorem slS_pv {T : LT} {S : SS} {Tl Th : LTO} {lo hi : Option Int} {z : Str} (h : Pv T S (.str z)) (hl : Pvo Tl S lo) (hh : Pvo Th S hi) (hz : z.length ≤ sizeLine) : Pv (lSl T Tl Th) S (.str (cutS z lo hi)) := ⟨rfl, fun _ _ q => h.go _ _ (hl _ _ (hh _ _ ⟨hz, q⟩))⟩
theorem varC {i : Nat} {S : SS} {o : Bool} {k : Cell} {Q : D → SS → Prop} {R : XR} (h : S[i]? = some (some (.c o k))) (q : Q (.cel i) S) : lVar i S Q R := by
  unfold lVar
  rw [h]
  exact q
theorem slC_pv {i : Nat} {S : SS} {o : Bool} {xs : List D} {Tl Th : LTO} {lo hi : Option Int} (h : S[i]? = some (some (.c o (.lst xs)))) (hl : Pvo Tl S lo) (hh : Pvo Th S hi) : Pv (lSl (lVar i) Tl Th) S (.lst (cutD xs lo hi)) := ⟨rfl, fun Q R q => by
  refine varC h (hl _ _ (hh _ _ ?_))
  have e : look S (.cel i) = .lst xs := by
    show (match S[i]? with | some (some (.c _ k)) => k.d | _ => D.cel i) = _
    rw [h]
    rfl
  rw [e]
  exact q⟩
theorem lenC_pv {i : Nat} {S : SS} {o : Bool} {xs : List D} (h : S[i]? = some (some (.c o (.lst xs)))) : Pv (lCB (on1 lenD) (lCons (lVar i) lNil)) S (.int (xs.length : Nat)) := ⟨rfl, fun Q R q => by
  refine varC (R := R) h ?_
  show on1 lenD ([D.cel i].map (look S)) _
  have e : look S (.cel i) = .lst xs := by
    show (match S[i]? with | some (some (.c _ k)) => k.d | _ => D.cel i) = _
    rw [h]
    rfl
  rw [List.map_cons, List.map_nil, e]
  exact q⟩
theorem split_i {i : Nat} {S : SS} {Z : En} {T U : LT} {x y : Str} (hx : Pv T S (.str x)) (hy : Pv U S (.str y)) (h0 : (y.length == 0) = false) (hz : x.length + 2 ≤ sizeLine) (hf : freeSl S i = true) (k : Z.nx (S.set i (some (.c true (.lst ((Txt.split x y).map D.str)))))) : lAsgN i (nSplit T U) Z S :=
  hx.go _ _ ⟨x, rfl, hy.go _ _ ⟨h0, hz, hf, k⟩⟩
theorem parts_of {t y s : Str} (ht : PyData.strOk t = true) (hy : y ∈ Txt.split t s) : PyData.strOk y = true ∧ y.length ≤ t.length := by
  have e : Str.join s (Txt.split t s) = t := StrLaws.join_split _ _
  have e2 := TL.tl_join s (Txt.split t s)
  rw [e] at e2
  have hm := mem_joinL (S := TL.tl s) (List.mem_map_of_mem (f := TL.tl) hy)
  rw [← e2] at hm
  refine ⟨?_, by rw [TL.len_tl, TL.len_tl]; exact hm.2⟩
  unfold PyData.strOk at ht ⊢
  rw [← Array.all_toList] at ht ⊢
  exact List.all_eq_true.mpr fun c hc => List.all_eq_true.mp ht c (hm.1 c hc)
theorem parts_pos {t s : Str} : 0 < (Txt.split t s).length := PyProof.Rows.split_pos t s
theorem joinL_pv {T U : LT} {S : SS} {a : Str} {ps : List Str} (ha : Pv T S (.str a)) (hb : Pv U S (.lst (ps.map D.str))) (hz : (ps.map (·.length)).sum + ps.length * a.length ≤ 16777216) : Pv (lM1 joinD T U) S (.str (Txt.join a ps)) := ⟨rfl, fun Q R q => ha.go _ _ ⟨⟨_, rfl⟩, hb.go _ _ (by
  rw [look_nc hb.nc, join_lst]
  exact ⟨hz, q⟩)⟩⟩
/-- joined parts of a cell -/
theorem joinC {T : LT} {S : SS} {i : Nat} {o : Bool} {a : Str} {ps : List Str} {Q : D → SS → Prop} {R : XR} (ha : Pv T S (.str a)) (h : S[i]? = some (some (.c o (.lst (ps.map D.str))))) (hz : (ps.map (·.length)).sum + ps.length * a.length ≤ 16777216) (q : Q (.str (Txt.join a ps)) S) : lM1 joinD T (lVar i) S Q R := ha.go _ _ ⟨⟨_, rfl⟩, varC h (by
  have e : look S (.cel i) = .lst (ps.map D.str) := by
    show (match S[i]? with | some (some (.c _ k)) => k.d | _ => D.cel i) = _
    rw [h]
    rfl
  rw [e, join_lst]
  exact ⟨hz, q⟩)⟩
theorem catC_pv {i : Nat} {S : SS} {o : Bool} {ps : List Str} {Tl Th Ul Uh : LTO} {a b c d : Option Int} (h : S[i]? = some (some (.c o (.lst (ps.map D.str))))) (hl : Pvo Tl S a) (hh : Pvo Th S b) (gl : Pvo Ul S c) (gh : Pvo Uh S d) (hz : (cutD ps a b).length + (cutD ps c d).length ≤ sizeLine) :
    Pv (lBin addD (lSl (lVar i) Tl Th) (lSl (lVar i) Ul Uh)) S (.lst ((cutD ps a b ++ cutD ps c d).map D.str)) := by
  have e := addL_pv (slC_pv h hl hh) (slC_pv h gl gh) (by rw [cut_map, cut_map, List.length_map, List.length_map]; exact hz)
  rw [cut_map, cut_map, ← List.map_append] at e
  exact e
theorem cut_len {ps : List Str} {lo hi : Option Int} : (cutD ps lo hi).length ≤ ps.length := by
  unfold cutD
  rw [List.length_take, List.length_drop]
  omega
theorem ixN_at {m k : Nat} (h : k < m) : ixN m (k : Int) = some k := by
  unfold ixN
  rw [if_pos (by omega), if_pos (by omega)]
  simp
theorem ixC_pv {i : Nat} {S : SS} {o : Bool} {ps : List Str} {T : LT} {k : Nat} {y : Str} (h : S[i]? = some (some (.c o (.lst (ps.map D.str))))) (hk : Pv T S (.int (k : Nat))) (hy : ps[k]? = some y) : Pv (lBin ixD (lVar i) T) S (.str y) := ⟨rfl, fun Q R q => varC h (hk.go _ _ (by
  have e : look S (.cel i) = .lst (ps.map D.str) := by
    show (match S[i]? with | some (some (.c _ k)) => k.d | _ => D.cel i) = _
    rw [h]
    rfl
  rw [e]
  exact ⟨_, atI_nat (by rw [List.getElem?_map, hy]; rfl), q⟩))⟩
theorem ifeq_i {i : Nat} {n m : Int} {S : SS} {A B : LTS} {Z : En} (h : S[i]? = some (some (.v (.int n)))) (ht : n = m → A Z S) (hf : n ≠ m → B Z S) : lIfS (lTst (lBin eqD (lVar i) (lC (.int m)))) A B Z S := if_i fun P hP => by
  refine Pv.go (d := .bl (decide (n = m))) (.bin (x := .int n) (y := .int m) (.var h) .c rfl fun P q => by rw [eq_ii]; exact q) _ _ ?_
  show P (decide (n = m)) _
  refine hP _ _ ?_
  by_cases e : n = m
  · rw [decide_eq_true e]
    exact ht e
  · rw [decide_eq_false e]
    exact hf e
theorem tot_set {y : Str} : ∀ {ps : List Str} {k : Nat}, tot (ps.set k y) ≤ tot ps + y.length
  | [], k => by show tot [] ≤ _; omega
  | p :: ps, 0 => by show tot (y :: ps) ≤ _; rw [tot_cons, tot_cons]; omega
  | p :: ps, k + 1 => by have := tot_set (y := y) (ps := ps) (k := k); show tot (p :: ps.set k y) ≤ _; rw [tot_cons, tot_cons]; omega
theorem tot_mem {ps : List Str} {k : Nat} {y : Str} (h : ps[k]? = some y) : y.length + 1 ≤ tot ps := by
  have := tot_sub (ps := [y]) (qs := ps) (List.singleton_sublist.mpr (List.mem_of_getElem? h))
  rw [tot_cons] at this
  omega
theorem tot_sum (ps : List Str) : tot ps = (ps.map (·.length)).sum + ps.length := by
  induction ps with
  | nil => rfl
  | cons p ps ih => rw [tot_cons, ih, List.map_cons, List.sum_cons, List.length_cons]; omega
theorem tot_len (ps : List Str) : ps.length ≤ tot ps := by rw [tot_sum]; omega
theorem cut_lo {ps : List Str} {k : Int} (h0 : 0 ≤ k) : cutD ps none (some k) = ps.take k.toNat := by
  obtain ⟨m, rfl⟩ := Int.eq_ofNat_of_zero_le h0
  unfold cutD
  rw [HT.sIx_none, HT.sIx_nat, List.drop_zero]
  show ps.take (min m ps.length) = ps.take m
  rw [List.take_eq_take_iff]
  omega
theorem cut_hi {ps : List Str} {k : Int} (h0 : 0 ≤ k) : cutD ps (some k) none = ps.drop k.toNat := by
  obtain ⟨m, rfl⟩ := Int.eq_ofNat_of_zero_le h0
  unfold cutD
  rw [HT.sIx_none, HT.sIx_nat, List.take_of_length_le (by rw [List.length_drop]; omega)]
  show ps.drop (min m ps.length) = ps.drop m
  rcases Nat.le_total m ps.length with z | z
  · rw [Nat.min_eq_left z]
  · rw [Nat.min_eq_right z, List.drop_length, List.drop_of_length_le z]
theorem cut_two {ps : List Str} {k : Int} (h0 : 0 ≤ k) : tot (cutD ps none (some k)) + tot (cutD ps (some k) none) = tot ps := by
  rw [cut_lo h0, cut_hi h0, ← tot_app, List.take_append_drop]
theorem cut_three {ps : List Str} {k : Int} (h0 : 0 ≤ k) : tot (cutD ps none (some k)) + tot (cutD ps (some (k + 1)) none) ≤ tot ps := by
  rw [cut_lo h0, cut_hi (by omega)]
  have e := List.take_append_drop k.toNat ps
  have e2 : tot (ps.drop (k + 1).toNat) ≤ tot (ps.drop k.toNat) := by
    rw [show (k + 1).toNat = k.toNat + 1 from by omega, ← List.drop_drop]
    exact tot_sub (List.drop_sublist _ _)
  have e3 : tot ps = tot (ps.take k.toNat) + tot (ps.drop k.toNat) := by rw [← tot_app, e]
  omega
abbrev bS (a b n : Int) (t : Str) (ws ls : List Str) (spot k way at_ : Int) (row : List Str) : SS := [some (.c false (.lst (jar a b n))), some (.v (.str t)), some (.v (.lst (ws.map D.str))), some (.c true (.lst (ls.map D.str))), some (.v (.int spot)), some (.c true (.lst (row.map D.str))), some (.v (.int k)), some (.v (.int way)), some (.v (.int at_))]
theorem bent_spec {t : Str} {ws : List Str} {a b n : Int} {Q : Qd} {R : Rd'} (hb : jok b) (ht : Fine 30000 t) (hw : ∀ y ∈ ws, Fine 31 y) (hws : 0 < ws.length ∧ ws.length ≤ 100)
    (h : ∀ u a' b' n', Fine (2 * t.length + 100) u → jok b' → Q (.str u) [.c false (.lst (jar a' b' n')), .v (.str t), .v (.lst (ws.map D.str))]) : w_law_bent K c_InvalidText c_Keeper [.c false (.lst (jar a b n)), .v (.str t), .v (.lst (ws.map D.str))] Q R := by
  have hl := ht.len
  unfold w_law_bent fnW t_law_bent
  refine ⟨rfl, seq_i fun N hN => ?_⟩
  unfold lPar
  simp
  refine pick_spec hb (by decide) fun way a1 b1 n1 w0 w1 hb1 => ?_
  simp
  refine ⟨sz (by omega), ?_⟩
  refine pick_spec hb1 (by omega) fun at_ a2 b2 n2 p0 p1 hb2 => ?_
  simp
  refine hN _ (seq_i fun N1 hN1 => if_i fun P hP => ?_)
  refine Pv.go (d := .bl (decide (way = 0))) (.bin (x := .int way) (y := .int 0) (.var rfl) .c rfl fun P q => by rw [eq_ii]; exact q) _ _ ?_
  show P (decide (way = 0)) _
  refine hP _ _ ?_
  have ft : Fine t.length t := ⟨ht.ok, Nat.le_refl _⟩
  have hsz : t.length ≤ sizeLine := sz (by omega)
  by_cases hw0 : way = 0
  · rw [decide_eq_true hw0]
    simp only [if_true]
    unfold lRet
    refine bin_i fun P1 hP1 => bin_i fun P2 hP2 => ?_
    refine (slS_pv (.var rfl) .none (.at (.var rfl)) hsz).go _ _ (hP2 _ _ (call_i fun P3 hP3 => ?_))
    refine cons_i fun P4 hP4 => varC rfl (hP4 _ _ (cons_i fun P5 hP5 => ?_))
    refine (Pv.lst (ds := [.str " ", .str "0", .str "1", .str "-", .str "a", .str "\n", .str ",", .str "9"]) (.cons .c (.cons .c (.cons .c (.cons .c (.cons .c (.cons .c (.cons .c (.cons .c .nil))))))))).go _ _ (hP5 _ _ (hP3 _ _ ⟨rfl, ?_⟩))
    refine ofl_spec hb2 (by decide) (fun d hd => ?_) fun d a3 b3 n3 hd hb3 => ⟨rfl, ?_⟩
    · simp only [List.mem_cons, List.not_mem_nil, or_false] at hd
      rcases hd with rfl | rfl | rfl | rfl | rfl | rfl | rfl | rfl <;> rfl
    obtain ⟨y, rfl, fy⟩ : ∃ y : Str, d = .str y ∧ Fine 1 y := by
      simp only [List.mem_cons, List.not_mem_nil, or_false] at hd
      rcases hd with rfl | rfl | rfl | rfl | rfl | rfl | rfl | rfl <;> exact ⟨_, rfl, okt_of _, by decide⟩
    have h1 := cutS_add t p0
    have f1 : Fine ((cutS t none (some at_)).length + 1) (cutS t none (some at_) ++ y) := fine_app ⟨(fine_cut ft).ok, Nat.le_refl _⟩ fy
    have f2 : Fine ((cutS t none (some at_)).length + 1 + (cutS t (some at_) none).length) (cutS t none (some at_) ++ y ++ cutS t (some at_) none) := fine_app f1 ⟨(fine_cut ft).ok, Nat.le_refl _⟩
    refine ⟨sz (by have := fy.len; have := cutS_length t none (some at_); omega), hP1 _ _ ?_⟩
    refine (slS_pv (.var rfl) (.at (.var rfl)) .none hsz).go _ _ ?_
    refine ⟨sz (by have := f1.len; have := cutS_length t none (some at_); have := cutS_length t (some at_) none; omega), ⟨trivial, h _ _ _ _ ⟨f2.ok, by have := f2.len; omega⟩ hb3⟩⟩
  · rw [decide_eq_false hw0]
    simp only [Bool.false_eq_true, if_false]
    show N1 [some (.c false (.lst (jar a2 b2 n2))), some (.v (.str t)), some (.v (.lst (ws.map D.str))), none, none, none, none, some (.v (.int way)), some (.v (.int at_))]
    refine hN1 _ (seq_i fun N2 hN2 => if_i fun P6 hP6 => ?_)
    refine Pv.go (d := .bl (decide (way = 1))) (.bin (x := .int way) (y := .int 1) (.var rfl) .c rfl fun P q => by rw [eq_ii]; exact q) _ _ ?_
    show P6 (decide (way = 1)) _
    refine hP6 _ _ ?_
    by_cases hw1 : way = 1
    · rw [decide_eq_true hw1]
      simp only [if_true]
      have h1 := cutS_length t none (some at_)
      have h2 := cutS_length t (some (at_ + 1)) none
      have f2 : Fine (t.length + t.length) (cutS t none (some at_) ++ cutS t (some (at_ + 1)) none) := fine_app (fine_cut ft) (fine_cut ft)
      refine ret_pv (d := .str (cutS t none (some at_) ++ cutS t (some (at_ + 1)) none)) (.bin (slS_pv (.var rfl) .none (.at (.var rfl)) hsz) (slS_pv (.var rfl) (.at (.addI (.var rfl) .c)) .none hsz) rfl fun P q => ⟨sz (by omega), q⟩) ?_
      exact ⟨trivial, h _ _ _ _ ⟨f2.ok, by have := f2.len; omega⟩ hb2⟩
    · rw [decide_eq_false hw1]
      simp only [Bool.false_eq_true, if_false]
      show N2 [some (.c false (.lst (jar a2 b2 n2))), some (.v (.str t)), some (.v (.lst (ws.map D.str))), none, none, none, none, some (.v (.int way)), some (.v (.int at_))]
      refine hN2 _ (seq_i fun N3 hN3 => split_i (x := t) (y := Str.ofString "\n") (.var rfl) .c (by decide) (sz (by omega)) rfl ?_)
      simp only [List.set]
      have lf : ∀ y ∈ Txt.split t (Str.ofString "\n"), Fine t.length y := fun y hy => ⟨(parts_of ht.ok hy).1, (parts_of ht.ok hy).2⟩
      have ln : 0 < (Txt.split t (Str.ofString "\n")).length ∧ (Txt.split t (Str.ofString "\n")).length ≤ t.length + 2 := ⟨parts_pos, PyProof.Rows.split_le _ _⟩
      have jn : Str.join (Str.ofString "\n") (Txt.split t (Str.ofString "\n")) = t := StrLaws.join_split _ _
      generalize Txt.split t (Str.ofString "\n") = ls at lf ln jn ⊢
      refine hN3 _ (seq_i fun N4 hN4 => asg_i fun P7 hP7 => call_i fun P8 hP8 => ?_)
      refine cons_i fun P9 hP9 => varC rfl (hP9 _ _ ?_)
      refine (Pvs.cons (lenC_pv (xs := ls.map D.str) rfl) .nil).go _ _ (hP8 _ _ ⟨rfl, ?_⟩)
      refine pick_spec hb2 (by rw [List.length_map]; omega) fun spot a3 b3 n3 s0 s1 hb3 => ⟨rfl, ?_⟩
      rw [List.length_map] at s1
      refine hP7 _ _ ⟨rfl, rfl, ?_⟩
      show N4 [some (.c false (.lst (jar a3 b3 n3))), some (.v (.str t)), some (.v (.lst (ws.map D.str))), some (.c true (.lst (ls.map D.str))), some (.v (.int spot)), none, none, some (.v (.int way)), some (.v (.int at_))]
      have tl : tot ls = t.length + 1 := by
        have := join_len (s := Str.ofString "\n") (by decide) (ps := ls) (by intro z; rw [z] at ln; simp at ln)
        rw [jn] at this
        exact this.symm
      have joined : ∀ ps : List Str, (∀ p ∈ ps, p ∈ ls) → tot ps ≤ 2 * tot ls → Fine (2 * t.length + 100) (Txt.join (Str.ofString "\n") ps) ∧ (ps.map (·.length)).sum + ps.length * (Str.ofString "\n").length ≤ 16777216 := fun ps hp hl2 => by
        have e1 : Txt.join (Str.ofString "\n") ps = Str.join (Str.ofString "\n") ps := StrLaws.glued_eq_join _ _
        have h1 := join_le (s := Str.ofString "\n") (by decide) (ps := ps)
        have e2 : tot ps = (ps.map (·.length)).sum + ps.length := by
          clear h1 hl2 e1 hp
          induction ps with
          | nil => rfl
          | cons p ps ih => rw [tot_cons, ih, List.map_cons, List.sum_cons, List.length_cons]; omega
        refine ⟨⟨?_, ?_⟩, ?_⟩
        · rw [e1]
          exact ok_join (okt_of _) fun y hy => (lf y (hp y hy)).ok
        · rw [e1]; omega
        · rw [show (Str.ofString "\n").length = 1 from by decide, Nat.mul_one]; omega
      refine hN4 _ (seq_i fun N5 hN5 => if_i fun P10 hP10 => ?_)
      refine Pv.go (d := .bl (decide (way = 2))) (.bin (x := .int way) (y := .int 2) (.var rfl) .c rfl fun P q => by rw [eq_ii]; exact q) _ _ ?_
      show P10 (decide (way = 2)) _
      refine hP10 _ _ ?_
      by_cases hw2 : way = 2
      · rw [decide_eq_true hw2]
        simp only [if_true]
        have j1 := joined (cutD ls none (some spot) ++ cutD ls (some (spot + 1)) none) (fun p hp => by
          rcases List.mem_append.mp hp with z | z
          · exact mem_cut z
          · exact mem_cut z) (by
          rw [tot_app]
          have := tot_cut (ps := ls) (lo := none) (hi := some spot)
          have := tot_cut (ps := ls) (lo := some (spot + 1)) (hi := none)
          omega)
        refine ret_pv (joinL_pv (ps := cutD ls none (some spot) ++ cutD ls (some (spot + 1)) none) .c (catC_pv rfl .none (.at (.var rfl)) (.at (.addI (.var rfl) .c)) .none (sz (by have := cut_len (ps := ls) (lo := none) (hi := some spot); have := cut_len (ps := ls) (lo := some (spot + 1)) (hi := none); omega))) j1.2) ?_
        exact ⟨trivial, h _ _ _ _ j1.1 hb3⟩
      · rw [decide_eq_false hw2]
        simp only [Bool.false_eq_true, if_false]
        show N5 [some (.c false (.lst (jar a3 b3 n3))), some (.v (.str t)), some (.v (.lst (ws.map D.str))), some (.c true (.lst (ls.map D.str))), some (.v (.int spot)), none, none, some (.v (.int way)), some (.v (.int at_))]
        refine hN5 _ (seq_i fun N6 hN6 => ifeq_i rfl (fun hw3 => ?_) fun hw3 => ?_)
        · have j1 := joined (cutD ls none (some (spot + 1)) ++ cutD ls (some spot) none) (fun p hp => by
            rcases List.mem_append.mp hp with z | z
            · exact mem_cut z
            · exact mem_cut z) (by
            rw [tot_app]
            have := tot_cut (ps := ls) (lo := none) (hi := some (spot + 1))
            have := tot_cut (ps := ls) (lo := some spot) (hi := none)
            omega)
          refine ret_pv (joinL_pv (ps := cutD ls none (some (spot + 1)) ++ cutD ls (some spot) none) .c (catC_pv rfl .none (.at (.addI (.var rfl) .c)) (.at (.var rfl)) .none (sz (by have := cut_len (ps := ls) (lo := none) (hi := some (spot + 1)); have := cut_len (ps := ls) (lo := some spot) (hi := none); omega))) j1.2) ?_
          exact ⟨trivial, h _ _ _ _ j1.1 hb3⟩
        obtain ⟨sp, rfl⟩ := Int.eq_ofNat_of_zero_le s0
        have hsp : sp < ls.length := by omega
        have hln : ls[sp]? = some ls[sp] := List.getElem?_eq_getElem hsp
        have fl := lf ls[sp] (List.getElem_mem hsp)
        have ml := tot_mem hln
        generalize ls[sp] = ln1 at hln fl ml
        refine hN6 _ (seq_i fun N7 hN7 => split_i (x := ln1) (y := Str.ofString " ") (ixC_pv rfl (.var rfl) hln) .c (by decide) (sz (by have := fl.len; omega)) rfl ?_)
        simp only [List.set]
        have rf : ∀ y ∈ Txt.split ln1 (Str.ofString " "), PyData.strOk y = true := fun y hy => (parts_of fl.ok hy).1
        have rl : 0 < (Txt.split ln1 (Str.ofString " ")).length := parts_pos
        have rt : tot (Txt.split ln1 (Str.ofString " ")) = ln1.length + 1 := by
          have := join_len (s := Str.ofString " ") (by decide) (ps := Txt.split ln1 (Str.ofString " ")) (by intro z; rw [z] at rl; simp at rl)
          rw [StrLaws.join_split] at this
          exact this.symm
        generalize Txt.split ln1 (Str.ofString " ") = row at rf rl rt ⊢
        have rl2 := tot_len row
        refine hN7 _ (seq_i fun N8 hN8 => asg_i fun P11 hP11 => call_i fun P12 hP12 => ?_)
        refine cons_i fun P13 hP13 => varC rfl (hP13 _ _ ?_)
        refine (Pvs.cons (lenC_pv (xs := row.map D.str) rfl) .nil).go _ _ (hP12 _ _ ⟨rfl, ?_⟩)
        refine pick_spec hb3 (by rw [List.length_map]; omega) fun k a4 b4 n4 k0 k1 hb4 => ⟨rfl, ?_⟩
        rw [List.length_map] at k1
        refine hP11 _ _ ⟨rfl, rfl, ?_⟩
        show N8 (bS a4 b4 n4 t ws ls (sp : Nat) k way at_ row)
        refine hN8 _ (seq_i fun N9 hN9 => ?_)
        have h9 : ∀ (row2 : List Str) (a b n : Int), (∀ y ∈ row2, PyData.strOk y = true) → tot row2 ≤ tot row → jok b → (way ≠ 4 → row2 = row) → N9 (bS a b n t ws ls (sp : Nat) k way at_ row2) := fun row2 a b n q1 q2 hb q3 => hN9 _ (seq_i fun N10 hN10 => by
          have h10 : ∀ (row3 : List Str) (a b n : Int), (∀ y ∈ row3, PyData.strOk y = true) → tot row3 ≤ tot row + 32 → jok b → (way = 6 → row3 = row) → N10 (bS a b n t ws ls (sp : Nat) k way at_ row3) := fun row3 a b n q1 q2 hb q3 => hN10 _ (seq_i fun N11 hN11 => by
            have h11 : ∀ (row4 : List Str) (a b n : Int), (∀ y ∈ row4, PyData.strOk y = true) → tot row4 ≤ tot row + 64 → jok b → N11 (bS a b n t ws ls (sp : Nat) k way at_ row4) := fun row4 a b n q1 q2 hb => hN11 _ (seq_i fun N12 hN12 => by
              have b1 := tot_sum row4
              have jl := join_le (s := Str.ofString " ") (by decide) (ps := row4)
              have e1 : Txt.join (Str.ofString " ") row4 = Str.join (Str.ofString " ") row4 := StrLaws.glued_eq_join _ _
              have jo : PyData.strOk (Str.join (Str.ofString " ") row4) = true := ok_join (okt_of _) q1
              refine asg_i fun P1 hP1 => joinC .c rfl (by rw [show (Str.ofString " ").length = 1 from by decide, Nat.mul_one]; omega) (hP1 _ _ ⟨rfl, ?_⟩)
              rw [e1]
              generalize Str.join (Str.ofString " ") row4 = z at jl jo
              show ∃ m, ixN (ls.map D.str).length (sp : Int) = some m ∧ N12 ((bS a b n t ws ls (sp : Nat) k way at_ row4).set 3 (some (.c true (.lst ((ls.map D.str).set m (.str z))))))
              refine ⟨sp, ixN_at (by rw [List.length_map]; exact hsp), ?_⟩
              rw [show (ls.map D.str).set sp (.str z) = (ls.set sp z).map D.str from by rw [List.map_set]]
              show N12 (bS a b n t ws (ls.set sp z) (sp : Nat) k way at_ row4)
              refine hN12 _ ?_
              have b2 := tot_set (y := z) (ps := ls) (k := sp)
              have b3 := tot_sum (ls.set sp z)
              have jl2 := join_le (s := Str.ofString "\n") (by decide) (ps := ls.set sp z)
              have e2 : Txt.join (Str.ofString "\n") (ls.set sp z) = Str.join (Str.ofString "\n") (ls.set sp z) := StrLaws.glued_eq_join _ _
              have jo2 : PyData.strOk (Str.join (Str.ofString "\n") (ls.set sp z)) = true := ok_join (okt_of _) fun y hy => by
                rcases List.mem_or_eq_of_mem_set hy with e | e
                · exact (lf y e).ok
                · rw [e]; exact jo
              unfold lRet
              refine joinC .c rfl (by rw [show (Str.ofString "\n").length = 1 from by decide, Nat.mul_one]; omega) ?_
              rw [e2]
              exact ⟨trivial, h _ _ _ _ ⟨jo2, by omega⟩ hb⟩)
            refine ifeq_i rfl (fun hw6 => ?_) fun hw6 => h11 row3 a b n q1 (by omega) hb
            refine asg_i fun P1 hP1 => call_i fun P2 hP2 => cons_i fun P3 hP3 => varC rfl (hP3 _ _ ((Pvs.cons (.var rfl) .nil).go _ _ (hP2 _ _ ⟨rfl, ?_⟩)))
            refine ofl_spec hb (by rw [List.length_map]; omega) (fun d hd => ?_) fun d a5 b5 n5 hd hb5 => ⟨rfl, hP1 _ _ ?_⟩
            · obtain ⟨y, hy, rfl⟩ := List.mem_map.mp hd; rfl
            obtain ⟨y, hy, rfl⟩ := List.mem_map.mp hd
            refine ⟨rfl, ?_⟩
            obtain ⟨kn, rfl⟩ := Int.eq_ofNat_of_zero_le k0
            have := q3 hw6
            subst this
            have fy := hw y hy
            show ∃ m, ixN (row3.map D.str).length (kn : Int) = some m ∧ N11 ((bS a5 b5 n5 t ws ls (sp : Nat) (kn : Nat) way at_ row3).set 5 (some (.c true (.lst ((row3.map D.str).set m (.str y))))))
            refine ⟨kn, ixN_at (by rw [List.length_map]; omega), ?_⟩
            rw [show (row3.map D.str).set kn (.str y) = (row3.set kn y).map D.str from by rw [List.map_set]]
            refine h11 (row3.set kn y) a5 b5 n5 (fun z hz => ?_) ?_ hb5
            · rcases List.mem_or_eq_of_mem_set hz with e | e
              · exact q1 z e
              · rw [e]; exact fy.ok
            · have := tot_set (y := y) (ps := row3) (k := kn); have := fy.len; omega)
          refine ifeq_i rfl (fun hw5 => ?_) fun hw5 => h10 row2 a b n q1 (by omega) hb fun hw6 => q3 (by omega)
          unfold lAsgN nCat
          refine bin_i fun P1 hP1 => (slC_pv (xs := row2.map D.str) rfl .none (.at (.var rfl))).go _ _ (hP1 _ _ ?_)
          unfold lLst
          refine cons_i fun P2 hP2 => call_i fun P3 hP3 => cons_i fun P4 hP4 => varC rfl (hP4 _ _ ((Pvs.cons (.var rfl) .nil).go _ _ (hP3 _ _ ⟨rfl, ?_⟩)))
          refine ofl_spec hb (by rw [List.length_map]; omega) (fun d hd => ?_) fun d a5 b5 n5 hd hb5 => ⟨rfl, ?_⟩
          · obtain ⟨y, hy, rfl⟩ := List.mem_map.mp hd; rfl
          obtain ⟨y, hy, rfl⟩ := List.mem_map.mp hd
          have fy := hw y hy
          have c1 := cut_len (ps := row2) (lo := none) (hi := some k)
          have c2 := cut_len (ps := row2) (lo := some k) (hi := none)
          have c3 := tot_cut (ps := row2) (lo := none) (hi := some k)
          have c4 := tot_cut (ps := row2) (lo := some k) (hi := none)
          have c5 := tot_len row2
          refine hP2 _ _ ⟨rfl, sz (of_decide_eq_true rfl), ?_⟩
          rw [cut_map]
          show (List.map D.str (cutD row2 none (some k))).length + [D.str y].length ≤ sizeLine ∧ _
          refine ⟨sz (by rw [List.length_map]; show _ + 1 ≤ _; omega), ?_⟩
          refine (slC_pv (xs := row2.map D.str) rfl (.at (.var rfl)) .none).go _ _ ?_
          rw [cut_map]
          show (List.map D.str (cutD row2 none (some k)) ++ [D.str y]).length + (List.map D.str (cutD row2 (some k) none)).length ≤ sizeLine ∧ freeSl (bS a5 b5 n5 t ws ls (sp : Nat) k way at_ row2) 5 = true ∧ N10 ((bS a5 b5 n5 t ws ls (sp : Nat) k way at_ row2).set 5 (some (.c true (.lst ((List.map D.str (cutD row2 none (some k)) ++ [D.str y]) ++ List.map D.str (cutD row2 (some k) none))))))
          refine ⟨sz (by rw [List.length_append, List.length_map, List.length_map]; show _ + 1 + _ ≤ _; omega), rfl, ?_⟩
          rw [show (List.map D.str (cutD row2 none (some k)) ++ [D.str y]) ++ List.map D.str (cutD row2 (some k) none) = (cutD row2 none (some k) ++ [y] ++ cutD row2 (some k) none).map D.str from by rw [List.map_append, List.map_append]; rfl]
          refine h10 (cutD row2 none (some k) ++ [y] ++ cutD row2 (some k) none) a5 b5 n5 (fun z hz => ?_) ?_ hb5 fun hw6 => by omega
          · rcases List.mem_append.mp hz with e | e
            · rcases List.mem_append.mp e with e | e
              · exact q1 z (mem_cut e)
              · rw [List.mem_singleton.mp e]; exact fy.ok
            · exact q1 z (mem_cut e)
          · have f3 := cut_two (ps := row2) k0
            rw [tot_app, tot_app, show tot [y] = y.length + 1 from rfl]
            have := fy.len
            omega)
        refine ifeq_i rfl (fun hw4 => ?_) fun hw4 => h9 row a4 b4 n4 rf (Nat.le_refl _) hb4 fun _ => rfl
        unfold lAsgN nCat
        have c1 := cut_len (ps := row) (lo := none) (hi := some k)
        have c2 := cut_len (ps := row) (lo := some (k + 1)) (hi := none)
        refine (slC_pv (xs := row.map D.str) rfl .none (.at (.var rfl))).go _ _ ?_
        refine (slC_pv (xs := row.map D.str) rfl (.at (.addI (.var rfl) .c)) .none).go _ _ ?_
        rw [cut_map, cut_map]
        show (List.map D.str (cutD row none (some k))).length + (List.map D.str (cutD row (some (k + 1)) none)).length ≤ sizeLine ∧ freeSl (bS a4 b4 n4 t ws ls (sp : Nat) k way at_ row) 5 = true ∧ N9 ((bS a4 b4 n4 t ws ls (sp : Nat) k way at_ row).set 5 (some (.c true (.lst (List.map D.str (cutD row none (some k)) ++ List.map D.str (cutD row (some (k + 1)) none))))))
        refine ⟨sz (by rw [List.length_map, List.length_map]; omega), rfl, ?_⟩
        rw [← List.map_append]
        refine h9 (cutD row none (some k) ++ cutD row (some (k + 1)) none) a4 b4 n4 (fun z hz => ?_) ?_ hb4 fun e => absurd hw4 e
        · rcases List.mem_append.mp hz with e | e
          · exact rf z (mem_cut e)
          · exact rf z (mem_cut e)
        · have f3 := cut_three (ps := row) k0
          rw [tot_app]
          omega
end K16
set_option linter.all false
set_option maxRecDepth 100000
set_option maxHeartbeats 4000000
namespace K16
open PySem L2 L3 MK NumText
variable {K : PySem.W.Frag} {c_InvalidText c_Keeper : Addr}
/-! ### what is read of any text -/
def stD (f : Str → D) (w : Str) : D := .tup ((Txt.split w (Str.ofString ",")).map f)
def lnW (f : Str → D) (ws : List Str) : D := match ws with
  | [a, b, c, d, e, g] => if a = Str.ofString "out" ∧ c = Str.ofString "hits" ∧ e = Str.ofString "puts" then .tup [f b, stD f d, stD f g] else .non
  | _ => .non
def lnO (f : Str → D) (t : Str) : D := lnW f (Txt.split t (Str.ofString " "))
def tbO (f : Str → D) (t : Str) : D := .tup ((Txt.split t (Str.ofString "\n")).map (lnO f))
theorem six_of {ws : List Str} (h : ws.length = 6) : ∃ a b c d e g, ws = [a, b, c, d, e, g] := by
  match ws, h with
  | [a, b, c, d, e, g], _ => exact ⟨a, b, c, d, e, g, rfl⟩
theorem lnW_bad {f : Str → D} {ws : List Str} (h : ¬ ws.length = 6) : lnW f ws = .non := by
  unfold lnW
  split
  · simp at h
  · rfl
theorem lnW_nc {f : Str → D} {ws : List Str} : isCel (lnW f ws) = false := by
  unfold lnW
  split
  · split <;> rfl
  · rfl
theorem isNum_fig (w : Str) : isNum (figD w) := by
  unfold figD
  split
  · split
    · exact .inr ⟨_, rfl⟩
    · exact .inl rfl
  · exact .inl rfl
theorem isNum_num (w : Str) : isNum (numD w) := by
  unfold numD
  split
  · split
    · exact .inr ⟨_, rfl⟩
    · exact .inl rfl
  · exact .inl rfl
theorem figs_lc {w : Str} {X : LT} {x0 x1 x2 x3 : Option Sl} {Q : D → SS → Prop} {R : XR} (hX : Pv X [x0, x1, x2, x3, none] (.str w)) (ho : PyData.strOk w = true) (hl : w.length ≤ 90000) (h : Q (.lst ((Txt.split w (Str.ofString ",")).map figD)) [x0, x1, x2, x3, none]) :
    lLc (lItU (lM1 splitD X (lC (.str ",")))) (gNameL 4) lYes (lCall (w_law_figure K c_InvalidText c_Keeper) [] (lCons (lVar 4) lNil)) [4] [x0, x1, x2, x3, none] Q R := by
  have hw : ∀ y ∈ Txt.split w (Str.ofString ","), PyData.strOk y = true ∧ y.length ≤ 90000 := fun y hy => ⟨(parts_of ho hy).1, Nat.le_trans (parts_of ho hy).2 hl⟩
  have hn := PyProof.Rows.split_le w (Str.ofString ",")
  refine lc_i fun P hP => ?_
  unfold lItU
  refine (split_pv (b := Str.ofString ",") hX .c (by decide) (sz (by omega))).go _ _ ?_
  generalize Txt.split w (Str.ofString ",") = ws at *
  show P (ws.map D.str) _
  refine hP _ _ rfl (comp_inv (fun i acc S' => acc = (ws.take i).map figD ∧ S' = [x0, x1, x2, x3, none]) ⟨rfl, rfl⟩ ?_ ?_)
  · rintro acc S' ⟨rfl, rfl⟩
    rw [List.length_map, List.take_length]
    exact h
  · rintro i d acc S' k hd ⟨rfl, rfl⟩ hk -
    rw [List.getElem?_map] at hd
    cases e : ws[i]? with
    | none => rw [e] at hd; cases hd
    | some y =>
      rw [e] at hd
      obtain rfl : _ = d := Option.some.inj hd
      have oy := hw y (List.mem_of_getElem? e)
      have nc := (isNum_fig y).nc
      refine ⟨rfl, rfl, ?_⟩
      simp
      refine figure_spec oy.1 (Nat.le_trans oy.2 (by decide)) ?_
      simp
      refine hk _ _ nc (szl (by rw [List.length_map, List.length_take]; omega)) ⟨by rw [take_snoc e, List.map_append]; rfl, rfl⟩
theorem rstates_spec {w : Str} {Q : Qd} {R : Rd'} (ho : PyData.strOk w = true) (hl : w.length ≤ 90000) (h : Q (stD numD w) [.v (.str w)]) : w_read_states K c_InvalidText c_Keeper [.v (.str w)] Q R := by
  have hw : ∀ y ∈ Txt.split w (Str.ofString ","), PyData.strOk y = true ∧ y.length ≤ 90000 := fun y hy => ⟨(parts_of ho hy).1, Nat.le_trans (parts_of ho hy).2 hl⟩
  have hn := PyProof.Rows.split_le w (Str.ofString ",")
  unfold stD at h
  unfold w_read_states fnW t_read_states
  refine ⟨rfl, ?_⟩
  show lLc _ _ _ _ _ [some (.v (.str w)), none] _ _
  refine lc_i fun P hP => ?_
  unfold lItU
  refine (split_pv (b := Str.ofString ",") (.var rfl) .c (by decide) (sz (by omega))).go _ _ ?_
  generalize Txt.split w (Str.ofString ",") = ws at *
  show P (ws.map D.str) _
  refine hP _ _ rfl (comp_inv (fun i acc S' => acc = (ws.take i).map numD ∧ S' = [some (.v (.str w)), none]) ⟨rfl, rfl⟩ ?_ ?_)
  · rintro acc S' ⟨rfl, rfl⟩
    rw [List.length_map, List.take_length]
    exact ⟨trivial, h⟩
  · rintro i d acc S' k hd ⟨rfl, rfl⟩ hk -
    rw [List.getElem?_map] at hd
    cases e : ws[i]? with
    | none => rw [e] at hd; cases hd
    | some y =>
      rw [e] at hd
      obtain rfl : _ = d := Option.some.inj hd
      have oy := hw y (List.mem_of_getElem? e)
      have nc := (isNum_num y).nc
      refine ⟨rfl, rfl, ?_⟩
      simp
      refine number_specA (Nat.le_trans oy.2 (by decide)) ?_
      simp
      refine hk _ _ nc (szl (by rw [List.length_map, List.length_take]; omega)) ⟨by rw [take_snoc e, List.map_append]; rfl, rfl⟩
theorem dec6 {n : Nat} {P : D → Prop} (q : P (.bl (!decide (n = 6)))) : neD (.int (n : Nat)) (.int 6) P := by
  rw [ne_ii]
  have e : decide ((n : Int) = 6) = decide (n = 6) := by congr 1; apply propext; omega
  rw [e]
  exact q
/-- the law's own reading of a line -/
theorem lline_read {t : Str} {Q : Qd} {R : Rd'} (ho : PyData.strOk t = true) (hl : t.length ≤ 90000) (h : Q (lnO figD t) [.v (.str t)]) : w_law_line_read K c_InvalidText c_Keeper [.v (.str t)] Q R := by
  have hw : ∀ y ∈ Txt.split t (Str.ofString " "), PyData.strOk y = true ∧ y.length ≤ 90000 := fun y hy => ⟨(parts_of ho hy).1, Nat.le_trans (parts_of ho hy).2 hl⟩
  unfold w_law_line_read fnW t_law_line_read
  refine ⟨rfl, seq_i fun N hN => ?_⟩
  refine asg_pv (split_pv (b := Str.ofString " ") (.var rfl) .c (by decide) (sz (by omega))) rfl ?_
  simp only [List.set]
  unfold lnO at h
  generalize Txt.split t (Str.ofString " ") = ws at *
  refine hN _ (seq_i fun N1 hN1 => if_i fun P hP => or_i fun P1 hP1 => ?_)
  refine Pv.go (d := .bl (!decide (ws.length = 6))) (.bin (y := .int 6) (lenL_pv (xs := ws.map D.str) (.var rfl)) .c rfl fun P q => by rw [List.length_map]; exact dec6 q) _ _ ?_
  show P1 (!decide (ws.length = 6)) _
  refine hP1 _ _ ?_
  by_cases h6 : ws.length = 6
  · rw [decide_eq_true h6]
    simp only [Bool.not_true, Bool.false_eq_true, if_false]
    obtain ⟨a, b, c, d, e, g, rfl⟩ := six_of h6
    have ok : ∀ y ∈ [a, b, c, d, e, g], PyData.strOk y = true ∧ y.length ≤ 90000 := hw
    refine Pv.go (d := .bl (!decide (a = Str.ofString "out" ∧ c = Str.ofString "hits" ∧ e = Str.ofString "puts"))) (.bin (Pv.lst (ds := [.str a, .str c, .str e]) (.cons (ixL_pv (.var rfl) .c (atI_nat (j := 0) rfl)) (.cons (ixL_pv (.var rfl) .c (atI_nat (j := 2) rfl)) (.cons (ixL_pv (.var rfl) .c (atI_nat (j := 4) rfl)) .nil)))) (Pv.lst (.cons .c (.cons .c (.cons .c .nil)))) rfl fun P q => ne_three (ok a (by simp)).1 (ok c (by simp)).1 (ok e (by simp)).1 (okt_of _) (okt_of _) (okt_of _) q) _ _ ?_
    show P (!decide (a = Str.ofString "out" ∧ c = Str.ofString "hits" ∧ e = Str.ofString "puts")) _
    refine hP _ _ ?_
    have h' : Q (if a = Str.ofString "out" ∧ c = Str.ofString "hits" ∧ e = Str.ofString "puts" then .tup [figD b, stD figD d, stD figD g] else .non) [.v (.str t)] := h
    by_cases hk : a = Str.ofString "out" ∧ c = Str.ofString "hits" ∧ e = Str.ofString "puts"
    · rw [if_pos hk] at h'
      rw [decide_eq_true hk]
      simp only [Bool.not_true, Bool.false_eq_true, if_false]
      show N1 _
      refine hN1 _ (seq_i fun N2 hN2 => asg_i fun P2 hP2 => ?_)
      show lLc _ _ _ _ _ [some (.v (.str t)), some (.v (.lst ([a, b, c, d, e, g].map D.str))), none, none, none] _ _
      refine figs_lc (w := d) (ixL_pv (.var rfl) .c (atI_nat (j := 3) rfl)) (ok d (by simp)).1 (ok d (by simp)).2 ?_
      refine hP2 _ _ ⟨rfl, rfl, ?_⟩
      show N2 [some (.v (.str t)), some (.v (.lst ([a, b, c, d, e, g].map D.str))), some (.v (stD figD d)), none, none]
      refine hN2 _ (seq_i fun N3 hN3 => asg_i fun P3 hP3 => ?_)
      show lLc _ _ _ _ _ [some (.v (.str t)), some (.v (.lst ([a, b, c, d, e, g].map D.str))), some (.v (stD figD d)), none, none] _ _
      refine figs_lc (w := g) (ixL_pv (.var rfl) .c (atI_nat (j := 5) rfl)) (ok g (by simp)).1 (ok g (by simp)).2 ?_
      refine hP3 _ _ ⟨rfl, rfl, ?_⟩
      show N3 [some (.v (.str t)), some (.v (.lst ([a, b, c, d, e, g].map D.str))), some (.v (stD figD d)), some (.v (stD figD g)), none]
      refine hN3 _ ?_
      unfold lRet lTup
      refine cons_i fun P4 hP4 => call_i fun P5 hP5 => ?_
      refine (Pvs.cons (ixL_pv (d := .str b) (.var rfl) .c (atI_nat (j := 1) rfl)) .nil).go _ _ (hP5 _ _ ⟨rfl, ?_⟩)
      refine figure_spec (ok b (by simp)).1 (Nat.le_trans (ok b (by simp)).2 (by decide)) ⟨rfl, hP4 _ _ ?_⟩
      refine (Pvs.cons (x := stD figD d) (.var rfl) (.cons (x := stD figD g) (.var rfl) .nil)).go _ _ ?_
      have nb := (isNum_fig b).nc
      exact ⟨by rw [frozenD_nc nb]; rfl, sz (of_decide_eq_true rfl), trivial, h'⟩
    · rw [if_neg hk] at h'
      rw [decide_eq_false hk]
      simp only [Bool.not_false, if_true]
      exact ⟨trivial, h'⟩
  · rw [lnW_bad h6] at h
    rw [decide_eq_false h6]
    simp only [Bool.not_false, if_true]
    refine hP _ _ ?_
    simp only [if_true]
    exact ⟨trivial, h⟩
theorem ev6_pv {T : LT} {S : SS} {x0 x1 x2 x3 x4 x5 : D} (h : Pv T S (.lst [x0, x1, x2, x3, x4, x5])) : Pv (lEv6 T) S (.lst [x0, x2, x4]) := ⟨rfl, fun Q R q => h.go _ _ q⟩
/-- the program's reading of a line -/
theorem rline_spec {t : Str} {Q : Qd} {R : Rd'} (ho : PyData.strOk t = true) (hl : t.length ≤ 90000) (h : Q (lnO numD t) [.v (.str t)]) : w_read_line K c_InvalidText c_Keeper [.v (.str t)] Q R := by
  have hw : ∀ y ∈ Txt.split t (Str.ofString " "), PyData.strOk y = true ∧ y.length ≤ 90000 := fun y hy => ⟨(parts_of ho hy).1, Nat.le_trans (parts_of ho hy).2 hl⟩
  unfold w_read_line fnW t_read_line
  refine ⟨rfl, seq_i fun N hN => ?_⟩
  refine asg_pv (split_pv (b := Str.ofString " ") (.var rfl) .c (by decide) (sz (by omega))) rfl ?_
  simp only [List.set]
  unfold lnO at h
  generalize Txt.split t (Str.ofString " ") = ws at *
  refine hN _ (seq_i fun N1 hN1 => if_i fun P hP => or_i fun P1 hP1 => ?_)
  refine Pv.go (d := .bl (!decide (ws.length = 6))) (.bin (y := .int 6) (lenL_pv (xs := ws.map D.str) (.var rfl)) .c rfl fun P q => by rw [List.length_map]; exact dec6 q) _ _ ?_
  show P1 (!decide (ws.length = 6)) _
  refine hP1 _ _ ?_
  by_cases h6 : ws.length = 6
  · rw [decide_eq_true h6]
    simp only [Bool.not_true, Bool.false_eq_true, if_false]
    obtain ⟨a, b, c, d, e, g, rfl⟩ := six_of h6
    have ok : ∀ y ∈ [a, b, c, d, e, g], PyData.strOk y = true ∧ y.length ≤ 90000 := hw
    refine Pv.go (d := .bl (!decide (a = Str.ofString "out" ∧ c = Str.ofString "hits" ∧ e = Str.ofString "puts"))) (.bin (x := .lst [.str a, .str c, .str e]) (ev6_pv (x1 := .str b) (x3 := .str d) (x5 := .str g) (.var rfl)) (Pv.lst (.cons .c (.cons .c (.cons .c .nil)))) rfl fun P q => ne_three (ok a (by simp)).1 (ok c (by simp)).1 (ok e (by simp)).1 (okt_of _) (okt_of _) (okt_of _) q) _ _ ?_
    show P (!decide (a = Str.ofString "out" ∧ c = Str.ofString "hits" ∧ e = Str.ofString "puts")) _
    refine hP _ _ ?_
    have h' : Q (if a = Str.ofString "out" ∧ c = Str.ofString "hits" ∧ e = Str.ofString "puts" then .tup [numD b, stD numD d, stD numD g] else .non) [.v (.str t)] := h
    by_cases hk : a = Str.ofString "out" ∧ c = Str.ofString "hits" ∧ e = Str.ofString "puts"
    · rw [if_pos hk] at h'
      rw [decide_eq_true hk]
      simp only [Bool.not_true, Bool.false_eq_true, if_false]
      show N1 _
      refine hN1 _ ?_
      unfold lRet lTup
      refine cons_i fun P4 hP4 => call_i fun P5 hP5 => ?_
      refine (Pvs.cons (ixL_pv (xs := [a, b, c, d, e, g].map D.str) (d := .str b) (.var rfl) .c (atI_nat (j := 1) rfl)) .nil).go _ _ (hP5 _ _ ⟨rfl, ?_⟩)
      refine number_specA (Nat.le_trans (ok b (by simp)).2 (by decide)) ⟨rfl, hP4 _ _ ?_⟩
      refine cons_i fun P6 hP6 => call_i fun P7 hP7 => ?_
      refine (Pvs.cons (ixL_pv (xs := [a, b, c, d, e, g].map D.str) (d := .str d) (.var rfl) .c (atI_nat (j := 3) rfl)) .nil).go _ _ (hP7 _ _ ⟨rfl, ?_⟩)
      refine rstates_spec (ok d (by simp)).1 (ok d (by simp)).2 ⟨rfl, hP6 _ _ ?_⟩
      refine cons_i fun P8 hP8 => call_i fun P9 hP9 => ?_
      refine (Pvs.cons (ixL_pv (xs := [a, b, c, d, e, g].map D.str) (d := .str g) (.var rfl) .c (atI_nat (j := 5) rfl)) .nil).go _ _ (hP9 _ _ ⟨rfl, ?_⟩)
      refine rstates_spec (ok g (by simp)).1 (ok g (by simp)).2 ⟨rfl, hP8 _ _ ?_⟩
      have nb := (isNum_num b).nc
      exact ⟨by rw [frozenD_nc nb]; rfl, sz (of_decide_eq_true rfl), trivial, h'⟩
    · rw [if_neg hk] at h'
      rw [decide_eq_false hk]
      simp only [Bool.not_false, if_true]
      exact ⟨trivial, h'⟩
  · rw [lnW_bad h6] at h
    rw [decide_eq_false h6]
    simp only [Bool.not_false, if_true]
    refine hP _ _ ?_
    simp only [if_true]
    exact ⟨trivial, h⟩
end K16
set_option linter.all false
set_option maxRecDepth 100000
set_option maxHeartbeats 4000000
namespace K16
open PySem L2 L3 MK NumText
variable {K : PySem.W.Frag} {c_InvalidText c_Keeper : Addr}
/-! ### the two readings agree where one is right -/
theorem num_at {w : Str} {n : Nat} (h : numD w = natD n) : w = nnS n := by
  unfold numD at h
  split at h
  · rename_i m em
    split at h
    · have e : (m : Int) = (n : Int) := D.int.inj h
      have e2 := canon_nS em
      rw [e] at e2
      exact e2
    · cases h
  · cases h
theorem fig_num {w : Str} {n : Nat} (h : n < 100) (e : figD w = natD n) : numD w = natD n := by
  unfold figD at e
  unfold numD
  cases em : canon w with
  | none => rw [em] at e; cases e
  | some m =>
    rw [em] at e
    have e' : (if w.length ≤ 40 then D.int (m : Nat) else .non) = natD n := e
    show (if w.length ≤ 80 then D.int (m : Nat) else .non) = natD n
    by_cases hl : w.length ≤ 40
    · rw [if_pos hl] at e'
      rw [if_pos (by omega)]
      exact e'
    · rw [if_neg hl] at e'
      cases e'
theorem num_fig {w : Str} {n : Nat} (h : n < 100) (e : numD w = natD n) : figD w = natD n := by
  have hw := num_at e
  have hl := len_nat h
  rw [hw]
  unfold figD
  rw [show nnS n = nS (n : Int) from rfl, nS_canon]
  show (if (nnS n).length ≤ 40 then _ else _) = _
  rw [if_pos (by omega)]
  rfl
theorem same_list {f g : Str → D} (hfg : ∀ w (k : Nat), k < 100 → f w = natD k → g w = natD k) : ∀ {ws : List Str} {ks : List Nat}, ws.map f = ks.map natD → (∀ k ∈ ks, k < 100) → ws.map g = ks.map natD
  | [], [], _, _ => rfl
  | [], _ :: _, h, _ => by cases h
  | _ :: _, [], h, _ => by cases h
  | w :: ws, k :: ks, h, hb => by
    rw [List.map_cons, List.map_cons] at h
    rw [List.map_cons, List.map_cons, hfg w k (hb k (by simp)) (List.cons.inj h).1, same_list hfg (List.cons.inj h).2 fun x hx => hb x (by simp [hx])]
theorem line_six {f : Str → D} {ws : List Str} {r : Row} (h : lnW f ws = rowD r) : ∃ b d g, ws = [Str.ofString "out", b, Str.ofString "hits", d, Str.ofString "puts", g] ∧ f b = natD r.out ∧ (Txt.split d (Str.ofString ",")).map f = r.hits.map natD ∧ (Txt.split g (Str.ofString ",")).map f = r.puts.map natD := by
  by_cases h6 : ws.length = 6
  · obtain ⟨a, b, c, d, e, g, rfl⟩ := six_of h6
    have h' : (if a = Str.ofString "out" ∧ c = Str.ofString "hits" ∧ e = Str.ofString "puts" then D.tup [f b, stD f d, stD f g] else .non) = rowD r := h
    split at h'
    · rename_i hk
      obtain ⟨rfl, rfl, rfl⟩ := hk
      have e := D.tup.inj h'
      have e1 := (List.cons.inj e).1
      have e2 := (List.cons.inj (List.cons.inj e).2).1
      have e3 := (List.cons.inj (List.cons.inj (List.cons.inj e).2).2).1
      exact ⟨b, d, g, rfl, e1, D.tup.inj e2, D.tup.inj e3⟩
    · cases h'
  · rw [lnW_bad h6] at h
    cases h
theorem same_line {f g : Str → D} (hfg : ∀ w (k : Nat), k < 100 → f w = natD k → g w = natD k) {t : Str} {r : Row} (h : lnO f t = rowD r) (h1 : r.out < 100) (h2 : ∀ x ∈ r.hits, x < 100) (h3 : ∀ x ∈ r.puts, x < 100) : lnO g t = rowD r := by
  unfold lnO at h ⊢
  obtain ⟨b, d, e, hw, e1, e2, e3⟩ := line_six h
  rw [hw]
  show (if Str.ofString "out" = Str.ofString "out" ∧ Str.ofString "hits" = Str.ofString "hits" ∧ Str.ofString "puts" = Str.ofString "puts" then D.tup [g b, stD g d, stD g e] else .non) = _
  rw [if_pos ⟨rfl, rfl, rfl⟩]
  unfold stD
  rw [hfg b r.out h1 e1, same_list hfg e2 h2, same_list hfg e3 h3]
  rfl
theorem same_lines {f g : Str → D} (hfg : ∀ w (k : Nat), k < 100 → f w = natD k → g w = natD k) : ∀ {ls : List Str} {t : List Row}, ls.map (lnO f) = t.map rowD → (∀ r ∈ t, r.out < 100 ∧ (∀ x ∈ r.hits, x < 100) ∧ ∀ x ∈ r.puts, x < 100) → ls.map (lnO g) = t.map rowD
  | [], [], _, _ => rfl
  | [], _ :: _, h, _ => by cases h
  | _ :: _, [], h, _ => by cases h
  | l :: ls, r :: t, h, hb => by
    rw [List.map_cons, List.map_cons] at h
    have hr := hb r (by simp)
    rw [List.map_cons, List.map_cons, same_line hfg (List.cons.inj h).1 hr.1 hr.2.1 hr.2.2, same_lines hfg (List.cons.inj h).2 fun x hx => hb x (by simp [hx])]
theorem same_tb {f g : Str → D} (hfg : ∀ w (k : Nat), k < 100 → f w = natD k → g w = natD k) {t : Str} (h : wrongB (tbO f t) = none) : ∃ (rows : List Row) (wide : Nat), TblOk wide rows ∧ tbO f t = .tup (rows.map rowD) ∧ tbO g t = .tup (rows.map rowD) := by
  obtain ⟨rows, wide, e, ok⟩ := right_tbl h
  refine ⟨rows, wide, ok, e, ?_⟩
  unfold tbO at e ⊢
  rw [same_lines hfg (D.tup.inj e) fun r hr => by have := row_lt ok hr; exact ⟨this.1, this.2.1, this.2.2.1⟩]
theorem nums_back : ∀ {ws : List Str} {ks : List Nat}, ws.map numD = ks.map natD → ws = ks.map nnS
  | [], [], _ => rfl
  | [], _ :: _, h => by cases h
  | _ :: _, [], h => by cases h
  | w :: ws, k :: ks, h => by
    rw [List.map_cons, List.map_cons] at h
    rw [List.map_cons, num_at (List.cons.inj h).1, nums_back (List.cons.inj h).2]
theorem side_back {d : Str} {ks : List Nat} (h : (Txt.split d (Str.ofString ",")).map numD = ks.map natD) : d = sideS ks := by
  have e : Str.join (Str.ofString ",") (Txt.split d (Str.ofString ",")) = d := StrLaws.join_split _ _
  rw [nums_back h] at e
  rw [← e]
  exact (StrLaws.glued_eq_join _ _).symm
theorem line_back {t : Str} {r : Row} (h : lnO numD t = rowD r) : t = lineS r := by
  unfold lnO at h
  obtain ⟨b, d, g, hw, e1, e2, e3⟩ := line_six h
  have e : Str.join (Str.ofString " ") (Txt.split t (Str.ofString " ")) = t := StrLaws.join_split _ _
  rw [hw, num_at e1, side_back e2, side_back e3] at e
  rw [line_words, ← e]
  exact (StrLaws.glued_eq_join _ _).symm
theorem lines_back : ∀ {ls : List Str} {t : List Row}, ls.map (lnO numD) = t.map rowD → ls = t.map lineS
  | [], [], _ => rfl
  | [], _ :: _, h => by cases h
  | _ :: _, [], h => by cases h
  | l :: ls, r :: t, h => by
    rw [List.map_cons, List.map_cons] at h
    rw [List.map_cons, line_back (List.cons.inj h).1, lines_back (List.cons.inj h).2]
theorem sheet_back {t : Str} {rows : List Row} (h : tbO numD t = .tup (rows.map rowD)) : t = sheetS rows := by
  unfold tbO at h
  have e : Str.join (Str.ofString "\n") (Txt.split t (Str.ofString "\n")) = t := StrLaws.join_split _ _
  rw [lines_back (D.tup.inj h)] at e
  rw [← e]
  exact (StrLaws.glued_eq_join _ _).symm
/-- a text is the text of a table, for both, or for neither -/
theorem judged (t : Str) : (∃ (rows : List Row) (wide : Nat), TblOk wide rows ∧ t = sheetS rows ∧ tbO numD t = .tup (rows.map rowD) ∧ tbO figD t = .tup (rows.map rowD) ∧ wrongB (tbO figD t) = none) ∨ (wrongB (tbO numD t) ≠ none ∧ wrongB (tbO figD t) ≠ none) := by
  by_cases h : wrongB (tbO numD t) = none
  · obtain ⟨rows, wide, ok, e1, e2⟩ := same_tb (g := figD) (fun w k => num_fig) h
    exact .inl ⟨rows, wide, ok, sheet_back e1, e1, e2, by rw [e2, ← e1]; exact h⟩
  · by_cases h2 : wrongB (tbO figD t) = none
    · obtain ⟨rows, wide, ok, e1, e2⟩ := same_tb (g := numD) (fun w k => fig_num) h2
      exact absurd (by rw [e2, ← e1]; exact h2) h
    · exact .inr ⟨h, h2⟩
/-! ### read whole -/
theorem pl_num {n : Nat} {x : D} (h : isNum x) : Pl n x := by rcases h with rfl | ⟨k, rfl⟩ <;> (cases n <;> trivial)
theorem pl_ln {f : Str → D} (hf : ∀ w, isNum (f w)) {t : Str} : Pl 2 (lnO f t) := by
  unfold lnO lnW
  split
  · split
    · intro y hy
      simp only [List.mem_cons, List.not_mem_nil, or_false] at hy
      rcases hy with rfl | rfl | rfl
      · exact pl_num (hf _)
      · intro z hz; obtain ⟨u, _, rfl⟩ := List.mem_map.mp hz; exact pl_num (hf u)
      · intro z hz; obtain ⟨u, _, rfl⟩ := List.mem_map.mp hz; exact pl_num (hf u)
    · trivial
  · trivial
theorem pl_tb {f : Str → D} (hf : ∀ w, isNum (f w)) {t : Str} : Pl 3 (tbO f t) := by
  intro y hy
  obtain ⟨l, _, rfl⟩ := List.mem_map.mp hy
  exact pl_ln hf
theorem okD_num {x : D} {k : Nat} (h : isNum x) : okD k x = true := by rcases h with rfl | ⟨n, rfl⟩ <;> (cases k <;> rw [okD])
theorem okD_st {f : Str → D} (hf : ∀ w, isNum (f w)) {n : Nat} {w : Str} : okD (n + 1) (stD f w) = true := by
  unfold stD
  rw [okD_tup']
  exact okDs_all fun y hy => by obtain ⟨u, _, rfl⟩ := List.mem_map.mp hy; exact okD_num (hf u)
theorem okD_ln {f : Str → D} (hf : ∀ w, isNum (f w)) {n : Nat} {t : Str} : okD (n + 2) (lnO f t) = true := by
  unfold lnO lnW
  split
  · split
    · rw [okD_tup']
      refine okDs_all fun y hy => ?_
      simp only [List.mem_cons, List.not_mem_nil, or_false] at hy
      rcases hy with rfl | rfl | rfl
      · exact okD_num (hf _)
      · exact okD_st hf
      · exact okD_st hf
    · rw [okD]
  · rw [okD]
theorem okD_tb {f : Str → D} (hf : ∀ w, isNum (f w)) {n : Nat} {t : Str} : okD (n + 3) (tbO f t) = true := by
  unfold tbO
  rw [okD_tup']
  exact okDs_all fun y hy => by obtain ⟨u, _, rfl⟩ := List.mem_map.mp hy; exact okD_ln hf
theorem tb_len {f : Str → D} {t : Str} (hl : t.length ≤ 90000) : ∀ xs, tbO f t = .tup xs → xs.length ≤ 100000 := fun xs e => by
  have h := D.tup.inj e
  have hn := PyProof.Rows.split_le t (Str.ofString "\n")
  rw [← h, List.length_map]
  omega
theorem okDs_list {n : Nat} {o : Option (Option Nat)} : okDs n (listOf o) = true := by
  rcases o with _ | _ | k
  · cases n <;> rfl
  · refine okDs_all fun y hy => ?_; rw [List.mem_singleton.mp hy]; show okD n .non = true; rw [okD]
  · refine okDs_all fun y hy => ?_; rw [List.mem_singleton.mp hy]; show okD n (.int (k : Nat)) = true; rw [okD]
theorem list_nil {o : Option (Option Nat)} : decide (listOf o = []) = decide (o = none) := by cases o <;> rfl
theorem keeper_any {t : Str} {Q : Qd} {R : Rd'} (ho : PyData.strOk t = true) (hl : t.length ≤ 90000) (h : Q (if wrongB (tbO numD t) = none then tbO numD t else .non) [.v (.str t)]) : w_read_keeper K c_InvalidText c_Keeper [.v (.str t)] Q R := by
  have hw : ∀ y ∈ Txt.split t (Str.ofString "\n"), PyData.strOk y = true ∧ y.length ≤ 90000 := fun y hy => ⟨(parts_of ho hy).1, Nat.le_trans (parts_of ho hy).2 hl⟩
  have hn := PyProof.Rows.split_le t (Str.ofString "\n")
  have hx : Pl 3 (tbO numD t) := pl_tb isNum_num
  have hxl := tb_len (f := numD) hl
  have is : ∀ (x : Str) (P : D → Prop), isiD K (.str x) (.ty "str") P = P (.bl true) := fun x P => isi_of (.str _) (.ty _) (kit_ty (by decide +kernel))
  have et : tbO numD t = .tup ((Txt.split t (Str.ofString "\n")).map (lnO numD)) := rfl
  rw [et] at h hx hxl
  unfold w_read_keeper fnW t_read_keeper
  refine ⟨rfl, seq_i fun N hN => if_i fun P1 hP1 => ?_⟩
  simp [is]
  refine hP1 _ _ ?_
  simp only [Bool.false_eq_true, if_false]
  show N [some (.v (.str t)), none, none]
  refine hN _ (seq_i fun N1 hN1 => ?_)
  show lLc _ _ _ _ _ [some (.v (.str t)), none, none] _ _
  refine lc_i fun P hP => ?_
  unfold lItU
  refine (split_pv (b := Str.ofString "\n") (.var rfl) .c (by decide) (sz (by omega))).go _ _ ?_
  generalize Txt.split t (Str.ofString "\n") = ws at *
  show P (ws.map D.str) _
  refine hP _ _ rfl (comp_inv (fun i acc S' => acc = (ws.take i).map (lnO numD) ∧ S' = [some (.v (.str t)), none, none]) ⟨rfl, rfl⟩ ?_ ?_)
  · rintro acc S' ⟨rfl, rfl⟩
    rw [List.length_map, List.take_length]
    refine ⟨rfl, rfl, ?_⟩
    show N1 [some (.v (.str t)), some (.v (.tup (ws.map (lnO numD)))), none]
    generalize D.tup (ws.map (lnO numD)) = x at *
    have nx := hx.nc
    refine hN1 _ ?_
    unfold lRet
    refine ife_i fun P2 hP2 => ?_
    show lBin eqD _ _ _ _ _
    refine bin_i fun P3 hP3 => call_i fun P4 hP4 => (Pvs.cons (.var rfl nx) .nil).go _ _ (hP4 _ _ ?_)
    simp only [List.map_cons, List.map_nil, List.append_nil, toArg_nc nx, celIx_nc nx]
    refine ⟨rfl, wrong2_spec hx hxl ?_⟩
    rw [backA_v]
    refine ⟨rfl, hP3 _ _ ?_⟩
    refine (Pv.tup (ds := []) .nil).go _ _ ?_
    show eqD (.tup (listOf (wrongB x))) (.tup []) _
    refine eq_nilT (by rw [okD_tup']; exact okDs_list) ?_
    rw [list_nil]
    show P2 (decide (wrongB x = none)) _
    refine hP2 _ _ ?_
    by_cases hb : wrongB x = none
    · rw [decide_eq_true hb]
      rw [if_pos hb] at h
      simp only [if_true]
      exact (Pv.var rfl nx).go _ _ ⟨(by cases x <;> first | trivial | cases nx), (by rw [look_nc nx]; exact h)⟩
    · rw [decide_eq_false hb]
      rw [if_neg hb] at h
      simp only [Bool.false_eq_true, if_false]
      exact ⟨trivial, h⟩
  · rintro i d acc S' k hd ⟨rfl, rfl⟩ hk -
    rw [List.getElem?_map] at hd
    cases e : ws[i]? with
    | none => rw [e] at hd; cases hd
    | some y =>
      rw [e] at hd
      obtain rfl : _ = d := Option.some.inj hd
      have oy := hw y (List.mem_of_getElem? e)
      have nc : isCel (lnO numD y) = false := lnW_nc
      refine ⟨rfl, rfl, ?_⟩
      simp
      refine rline_spec oy.1 oy.2 ?_
      simp
      refine hk _ _ nc (szl (by rw [List.length_map, List.length_take]; omega)) ⟨by rw [take_snoc e, List.map_append]; rfl, rfl⟩
theorem lread_any {t : Str} {Q : Qd} {R : Rd'} (ho : PyData.strOk t = true) (hl : t.length ≤ 90000) (h : Q (if wrongB (tbO figD t) = none then tbO figD t else .non) [.v (.str t)]) : w_law_read K c_InvalidText c_Keeper [.v (.str t)] Q R := by
  have hw : ∀ y ∈ Txt.split t (Str.ofString "\n"), PyData.strOk y = true ∧ y.length ≤ 90000 := fun y hy => ⟨(parts_of ho hy).1, Nat.le_trans (parts_of ho hy).2 hl⟩
  have hn := PyProof.Rows.split_le t (Str.ofString "\n")
  have hx : Pl 3 (tbO figD t) := pl_tb isNum_fig
  have hxl := tb_len (f := figD) hl
  have hxo : okD 60 (tbO figD t) = true := okD_tb (n := 57) isNum_fig
  have et : tbO figD t = .tup ((Txt.split t (Str.ofString "\n")).map (lnO figD)) := rfl
  rw [et] at h hx hxl hxo
  unfold w_law_read fnW t_law_read
  refine ⟨rfl, seq_i fun N1 hN1 => ?_⟩
  show lLc _ _ _ _ _ [some (.v (.str t)), none, none] _ _
  refine lc_i fun P hP => ?_
  unfold lItU
  refine (split_pv (b := Str.ofString "\n") (.var rfl) .c (by decide) (sz (by omega))).go _ _ ?_
  generalize Txt.split t (Str.ofString "\n") = ws at *
  show P (ws.map D.str) _
  refine hP _ _ rfl (comp_inv (fun i acc S' => acc = (ws.take i).map (lnO figD) ∧ S' = [some (.v (.str t)), none, none]) ⟨rfl, rfl⟩ ?_ ?_)
  · rintro acc S' ⟨rfl, rfl⟩
    rw [List.length_map, List.take_length]
    refine ⟨rfl, rfl, ?_⟩
    show N1 [some (.v (.str t)), some (.v (.tup (ws.map (lnO figD)))), none]
    generalize D.tup (ws.map (lnO figD)) = x at *
    have nx := hx.nc
    refine hN1 _ ?_
    unfold lRet
    refine ife_i fun P2 hP2 => ?_
    show lBin eqD _ _ _ _ _
    refine bin_i fun P3 hP3 => call_i fun P4 hP4 => (Pvs.cons (.var rfl nx) .nil).go _ _ (hP4 _ _ ?_)
    simp only [List.map_cons, List.map_nil, List.append_nil, toArg_nc nx, celIx_nc nx]
    refine ⟨rfl, first_spec hx (fun xs e => ⟨hxl xs e, hxo⟩) ?_⟩
    rw [backA_v]
    refine ⟨rfl, hP3 _ _ ?_⟩
    refine (Pv.lst (ds := []) .nil).go _ _ ?_
    show eqD (.lst (listOf (wrongB x))) (.lst []) _
    refine eq_nilL (by rw [okD_lst]; exact okDs_list) ?_
    rw [list_nil]
    show P2 (decide (wrongB x = none)) _
    refine hP2 _ _ ?_
    by_cases hb : wrongB x = none
    · rw [decide_eq_true hb]
      rw [if_pos hb] at h
      simp only [if_true]
      exact (Pv.var rfl nx).go _ _ ⟨(by cases x <;> first | trivial | cases nx), (by rw [look_nc nx]; exact h)⟩
    · rw [decide_eq_false hb]
      rw [if_neg hb] at h
      simp only [Bool.false_eq_true, if_false]
      exact ⟨trivial, h⟩
  · rintro i d acc S' k hd ⟨rfl, rfl⟩ hk -
    rw [List.getElem?_map] at hd
    cases e : ws[i]? with
    | none => rw [e] at hd; cases hd
    | some y =>
      rw [e] at hd
      obtain rfl : _ = d := Option.some.inj hd
      have oy := hw y (List.mem_of_getElem? e)
      have nc : isCel (lnO figD y) = false := lnW_nc
      refine ⟨rfl, rfl, ?_⟩
      simp
      refine lline_read oy.1 oy.2 ?_
      simp
      refine hk _ _ nc (szl (by rw [List.length_map, List.length_take]; omega)) ⟨by rw [take_snoc e, List.map_append]; rfl, rfl⟩
end K16
set_option linter.all false
set_option maxRecDepth 100000
set_option maxHeartbeats 4000000
namespace K16
open PySem L2 L3 MK NumText
variable {K : PySem.W.Frag} {c_InvalidText c_Keeper : Addr}
/-- what read_keeper tells nothing of is refused -/
theorem refuse {x : D} {Q : Qd} {R : Rd'} (nx : isCel x = false) (hr : ∀ (Q : Qd) (R : Rd'), Q .non [.v x] → w_read_keeper K c_InvalidText c_Keeper [.v x] Q R)
    (k : R (.ref c_InvalidText) [("given", x)] [.v (.fn c_Keeper), .v x]) : w_Keeper_read K c_InvalidText c_Keeper [.v (.fn c_Keeper), .v x] Q R := by
  unfold w_Keeper_read fnW t_Keeper_read
  refine ⟨rfl, seq_i fun N hN => asg_i fun P hP => call_i fun P2 hP2 => ?_⟩
  refine (Pvs.cons (.var rfl nx) .nil).go _ _ (hP2 _ _ ?_)
  simp [toArg_nc nx, celIx_nc nx]
  refine hr _ _ ?_
  simp [backA_v]
  refine hP _ _ ⟨rfl, rfl, ?_⟩
  show N [some (.v (.fn c_Keeper)), some (.v x), some (.v .non)]
  refine hN _ (seq_i fun N1 hN1 => if_i fun P3 hP3 => ?_)
  refine Pv.go (d := .bl true) (.bin (x := .non) (.var rfl) .c rfl fun P q => ⟨rfl, q⟩) _ _ ?_
  show P3 true _
  refine hP3 _ _ ?_
  simp only [if_true]
  simp [nx]
  exact k
/-- data that is no text -/
theorem notext {x : D} {n : Nat} {Q : Qd} {R : Rd'} (hx : Pl n x) (hs : ∀ s, x ≠ .str s) (q : Q .non [.v x]) : w_read_keeper K c_InvalidText c_Keeper [.v x] Q R := by
  have nx := hx.nc
  have e : ∀ P : D → Prop, isiD K x (.ty "str") P = P (.bl false) := fun P => by
    rcases hx.cases with rfl | ⟨b, rfl⟩ | ⟨i, rfl⟩ | ⟨s, rfl⟩ | ⟨xs, rfl⟩ | rfl | ⟨xs, rfl⟩
    · exact isi_of .non (.ty _) (kit_ty (by decide +kernel))
    · exact isi_of (.bl _) (.ty _) (kit_ty (by decide +kernel))
    · exact isi_of (.int _) (.ty _) (kit_ty (by decide +kernel))
    · exact absurd rfl (hs s)
    · exact isi_of (.lst _) (.ty _) (kit_ty (by decide +kernel))
    · exact isi_of .edc (.ty _) (kit_ty (by decide +kernel))
    · exact isi_of (.tup _) (.ty _) (kit_ty (by decide +kernel))
  unfold w_read_keeper fnW t_read_keeper
  refine ⟨rfl, seq_i fun N hN => if_i fun P hP => ?_⟩
  simp [look_nc nx, e]
  refine hP _ _ ?_
  simp only [if_true]
  exact ⟨trivial, q⟩
theorem any_none {t : Str} {Q : Qd} {R : Rd'} (ho : PyData.strOk t = true) (hl : t.length ≤ 90000) (hn : wrongB (tbO numD t) ≠ none) (q : Q .non [.v (.str t)]) : w_read_keeper K c_InvalidText c_Keeper [.v (.str t)] Q R :=
  keeper_any ho hl (by rw [if_neg hn]; exact q)
theorem refused_spec {x : D} {Q : Qd} {R : Rd'} (nx : isCel x = false) (hr : ∀ (Q : Qd) (R : Rd'), Q .non [.v x] → w_read_keeper K c_InvalidText c_Keeper [.v x] Q R) (sx : showsE x) (E : PySem.W.exmOne K (.ref c_InvalidText) (.ref c_InvalidText) = some true)
    (k : Q (.lst [.str "refused", .str (shownE x)]) [.v x]) : w_law_outcome K c_InvalidText c_Keeper [.v x] Q R := by
  unfold w_law_outcome fnW t_law_outcome
  refine ⟨rfl, seq_i fun N hN => ?_⟩
  unfold lTryAs
  simp [nx, toArg_nc nx, celIx_nc nx]
  refine refuse nx hr ?_
  simp [E, nx, backA_v]
  exact ⟨sx, rfl, sz (by decide), k⟩
theorem rows_pv {t : List Row} {S : SS} {i : Nat} (hF : FldOk K c_Keeper "lines") (h : S[i]? = some (some (.v (kpD c_Keeper t)))) : Pv (lProp c_Keeper (w_Keeper_rows K c_InvalidText c_Keeper) [] (lVar i)) S (.tup (t.map rowD)) := ⟨rfl, fun Q R q => by
  simp [h]
  refine ⟨rfl, rows_spec hF ?_⟩
  simp
  exact q⟩
theorem str_pv {wide : Nat} {t : List Row} {S : SS} {i : Nat} (ht : TblOk wide t) (hF : FldOk K c_Keeper "lines") (h : S[i]? = some (some (.v (kpD c_Keeper t)))) : Pv (lStrO c_Keeper (w_Keeper__str K c_InvalidText c_Keeper) (lVar i)) S (.str (sheetS t)) := ⟨rfl, fun Q R q => by
  simp [h]
  refine ⟨rfl, str_spec ht hF ?_⟩
  simp
  exact q⟩
theorem told_spec {wide : Nat} {t : List Row} {Q : Qd} {R : Rd'} (ht : TblOk wide t) (hF : FldOk K c_Keeper "lines") (sd : showsE (.tup (t.map rowD)))
    (k : Q (.lst [.str "told", .str (shownE (.tup (t.map rowD))), .str (sheetS t)]) [.v (.str (sheetS t))]) : w_law_outcome K c_InvalidText c_Keeper [.v (.str (sheetS t))] Q R := by
  unfold w_law_outcome fnW t_law_outcome
  refine ⟨rfl, seq_i fun N hN => ?_⟩
  unfold lTryAs
  simp
  refine read_spec ht hF ?_
  simp
  refine hN _ ?_
  refine ret_pv (d := .lst [.str "told", .str (shownE (.tup (t.map rowD))), .str (sheetS t)]) (.lst (.cons .c (.cons (.cb (f := on1 reprDE) (ds := [.tup (t.map rowD)]) (.cons (rows_pv hF rfl) .nil) rfl fun P q => ⟨sd, q⟩) (.cons (str_pv ht hF rfl) .nil)))) ?_
  exact ⟨trivial, k⟩
/-! ### what sheets begin and end with -/
theorem tl_app (a b : Str) : TL.tl (a ++ b) = TL.tl a ++ TL.tl b := by
  show (a.cps ++ b.cps).toList = a.cps.toList ++ b.cps.toList
  exact Array.toList_append
def Ends (s : Str) : Prop := ∃ l c, TL.tl s = l ++ [c] ∧ 48 ≤ c ∧ c ≤ 57
theorem ends_app {a b : Str} (h : Ends b) : Ends (a ++ b) := by
  obtain ⟨l, c, e, hc⟩ := h
  exact ⟨TL.tl a ++ l, c, by rw [tl_app, e, List.append_assoc], hc⟩
theorem ends_nn (n : Nat) : Ends (nnS n) := by
  have e : TL.tl (nnS n) = TL.numL n := TL.tl_num n
  have hne : TL.tl (nnS n) ≠ [] := by
    intro z
    have := nS_ne (z := (n : Int)) (by omega)
    have h2 : nS (n : Int) = Str.ofString "" := by
      have h3 : (nS (n : Int)).cps = #[] := by
        have : (nS (n : Int)).cps.toList = [] := z
        simpa using this
      cases hh : nS (n : Int) with
      | mk cps => rw [hh] at h3; simp at h3; rw [h3]; rfl
    rw [this] at h2
    exact h2
  obtain ⟨l, c, hl⟩ : ∃ l c, TL.tl (nnS n) = l ++ [c] := ⟨_, _, (List.dropLast_concat_getLast hne).symm⟩
  have hd := dig_nS (z := (n : Int)) (by omega) c (by show c ∈ TL.tl (nnS n); rw [hl]; simp)
  exact ⟨l, c, hl, hd⟩
theorem ends_join {a : Str} : ∀ {ys : List Str}, ys ≠ [] → (∀ y ∈ ys, Ends y) → Ends (Str.join a ys)
  | [y], _, h => h y (by simp)
  | y :: z :: r, _, h => by
    show Ends (y ++ a ++ Str.join a (z :: r))
    exact ends_app (ends_join (by simp) fun x hx => h x (List.mem_cons_of_mem _ hx))
theorem sheet_ends {wide : Nat} {t : List Row} (ht : TblOk wide t) : Ends (sheetS t) := by
  unfold sheetS
  rw [join_eq]
  refine ends_join (by intro z; have := ht.l1; rw [List.map_eq_nil_iff] at z; rw [z] at this; simp at this) fun y hy => ?_
  obtain ⟨r, hr, rfl⟩ := List.mem_map.mp hy
  have ro := ht.rows r hr
  unfold lineS
  refine ends_app ?_
  unfold sideS
  rw [join_eq]
  refine ends_join (by intro z; have := ht.w1; rw [List.map_eq_nil_iff] at z; have h2 := ro.pl; rw [z] at h2; simp at h2; omega) fun y hy => ?_
  obtain ⟨k, _, rfl⟩ := List.mem_map.mp hy
  exact ends_nn k
theorem sheet_begins {wide : Nat} {t : List Row} (ht : TblOk wide t) : ∃ l, TL.tl (sheetS t) = 111 :: l := by
  unfold sheetS
  rw [join_eq]
  cases t with
  | nil => have := ht.l1; simp at this
  | cons r t =>
    have hb : ∃ l, TL.tl (lineS r) = 111 :: l := by
      unfold lineS
      rw [tl_app, tl_app, tl_app, tl_app, tl_app]
      have e : TL.tl (Str.ofString "out ") = [111, 117, 116, 32] := by decide +kernel
      rw [e]
      exact ⟨_, rfl⟩
    obtain ⟨l, e⟩ := hb
    cases t with
    | nil => exact ⟨l, e⟩
    | cons r2 t =>
      show ∃ l, TL.tl (lineS r ++ Str.ofString "\n" ++ _) = 111 :: l
      rw [tl_app, tl_app, e]
      exact ⟨_, rfl⟩
theorem bad_end {u v : Str} {c : Nat} {l : List Nat} (hv : TL.tl v = l ++ [c]) (hc : ¬ (48 ≤ c ∧ c ≤ 57)) : wrongB (tbO numD (u ++ v)) ≠ none := fun h => by
  obtain ⟨rows, wide, ok, e1, _⟩ := same_tb (g := figD) (fun w k => num_fig) h
  obtain ⟨l2, c2, e2, hc2⟩ := sheet_ends ok
  rw [← sheet_back e1, tl_app, hv, ← List.append_assoc] at e2
  have := List.append_inj' e2 rfl
  have := (List.cons.inj this.2).1
  subst this
  exact hc hc2
theorem bad_begin {u v : Str} {c : Nat} {l : List Nat} (hu : TL.tl u = c :: l) (hc : c ≠ 111) : wrongB (tbO numD (u ++ v)) ≠ none := fun h => by
  obtain ⟨rows, wide, ok, e1, _⟩ := same_tb (g := figD) (fun w k => num_fig) h
  obtain ⟨l2, e2⟩ := sheet_begins ok
  rw [← sheet_back e1, tl_app, hu] at e2
  exact hc (List.cons.inj e2).1
end K16
set_option linter.all false
set_option maxRecDepth 100000
set_option maxHeartbeats 4000000
namespace K16
open PySem L2 L3 MK NumText
variable {K : PySem.W.Frag} {c_InvalidText c_Keeper : Addr}
def wl : List Str := ["", "0", "1", "2", "00", "0,0", "0,1", "1,0,0", "-1", "out", "hits", "puts", "0,", ",0", "0, 0", "a", "4"]
theorem wl_fine : ∀ y ∈ wl, Fine 31 y := by
  have e : wl.all (fun y => PyData.strOk y && decide (y.length ≤ 31)) = true := by decide +kernel
  intro y hy
  have := List.all_eq_true.mp e y hy
  rw [Bool.and_eq_true, decide_eq_true_eq] at this
  exact ⟨this.1, this.2⟩
theorem shw_nat {n : Nat} (h : n < 100) : Shw 0 102 (natD n) := shw_int (by
  have e : (10 : Nat) ^ 100 = 100 * 10 ^ 98 := by decide +kernel
  rw [e]
  exact Nat.lt_of_lt_of_le (show ((n : Int)).natAbs < 100 by omega) (Nat.le_mul_of_pos_right _ (by decide)))
theorem shw_side {xs : List Nat} (hx : ∀ x ∈ xs, x < 100) (hl : xs.length ≤ 4) : Shw 1 500 (.tup (xs.map natD)) := shw_tup (k := 0) (m := 102) (fun y hy => by
  obtain ⟨z, hz, rfl⟩ := List.mem_map.mp hy
  exact shw_nat (hx z hz)) (by rw [List.length_map]; omega)
theorem shw_tbl {wide : Nat} {t : List Row} (ht : TblOk wide t) : Shw 3 70000 (.tup (t.map rowD)) := shw_tup (k := 2) (m := 1600) (fun y hy => by
  obtain ⟨r, hr, rfl⟩ := List.mem_map.mp hy
  obtain ⟨h1, h2, h3, h4, h5⟩ := row_lt ht hr
  refine shw_tup (k := 1) (m := 500) (fun z hz => ?_) (of_decide_eq_true rfl)
  simp only [List.mem_cons, List.not_mem_nil, or_false] at hz
  rcases hz with rfl | rfl | rfl
  · exact (shw_nat h1).mono (by decide) (by decide)
  · exact shw_side h2 h4
  · exact shw_side h3 h5) (by rw [List.length_map]; have := ht.l40; omega)
theorem bad_empty : wrongB (tbO numD (Str.ofString "")) ≠ none := fun h => by
  obtain ⟨rows, wide, ok, e1, _⟩ := same_tb (g := figD) (fun w k => num_fig) h
  obtain ⟨l2, c2, e2, hc2⟩ := sheet_ends ok
  rw [← sheet_back e1] at e2
  have e3 : TL.tl (Str.ofString "") = [] := by decide +kernel
  rw [e3] at e2
  simp at e2
def thg (s : Str) : List D := [.non, .bl true, .int 3, .str "", .tup [.str s], .lst [.str s], .edc, .str (s ++ Str.ofString "\n"), .str (Str.ofString "\n" ++ s), .str (s ++ Str.ofString " "), .int (10 ^ 20)]
theorem len_ofs : (Str.ofString "\n").length = 1 ∧ (Str.ofString " ").length = 1 := by decide +kernel
/-- what is refused -/
theorem thg_no {wide : Nat} {t : List Row} (ht : TblOk wide t) {x : D} (hx : x ∈ thg (sheetS t)) : (isCel x = false ∧ showsE x ∧ PyData.strOk (shownE x) = true) ∧ ∀ (Q : Qd) (R : Rd'), Q .non [.v x] → w_read_keeper K c_InvalidText c_Keeper [.v x] Q R := by
  have sh : ∀ {k m : Nat} {x : D}, Shw k m x → k ≤ 60 → m ≤ 16777216 → x ≠ .edc → isCel x = false → isCel x = false ∧ showsE x ∧ PyData.strOk (shownE x) = true := fun {k m x} h hk hm hx nc => by
    have s := h.shows hk hm
    have e1 : showsE x = showsD x := by cases x <;> first | rfl | exact absurd rfl hx
    have e2 : shownE x = shownD x := by cases x <;> first | rfl | exact absurd rfl hx
    rw [e1, e2]
    exact ⟨nc, s, okt_shown _ (lay_of 60 x (h.ok60 hk)).1⟩
  have hl := (len_sheet ht).2
  have l1 := len_ofs
  have sp := shw_str (x := sheetS t) (n := 1720) ok_sheet hl
  have o1 : PyData.strOk (sheetS t ++ Str.ofString "\n") = true := okt_app ok_sheet (okt_of _)
  have o2 : PyData.strOk (Str.ofString "\n" ++ sheetS t) = true := okt_app (okt_of _) ok_sheet
  have o3 : PyData.strOk (sheetS t ++ Str.ofString " ") = true := okt_app ok_sheet (okt_of _)
  have n1 : (sheetS t ++ Str.ofString "\n").length ≤ 1721 := by rw [Str.length_append]; omega
  have n2 : (Str.ofString "\n" ++ sheetS t).length ≤ 1721 := by rw [Str.length_append]; omega
  have n3 : (sheetS t ++ Str.ofString " ").length ≤ 1721 := by rw [Str.length_append]; omega
  unfold thg at hx
  simp only [List.mem_cons, List.not_mem_nil, or_false] at hx
  rcases hx with rfl | rfl | rfl | rfl | rfl | rfl | rfl | rfl | rfl | rfl | rfl
  · exact ⟨sh shw_non (by decide) (by decide) (by simp) rfl, fun Q R q => notext (n := 0) (x := .non) trivial (by simp) q⟩
  · exact ⟨sh shw_bl (by decide) (by decide) (by simp) rfl, fun Q R q => notext (n := 0) (x := .bl true) trivial (by simp) q⟩
  · exact ⟨sh (shw_int (by decide)) (by decide) (by decide) (by simp) rfl, fun Q R q => notext (n := 0) (x := .int 3) trivial (by simp) q⟩
  · exact ⟨sh (shw_str (n := 0) (okt_of _) (by decide)) (by decide) (by decide) (by simp) rfl, fun Q R q => any_none (okt_of _) (by decide) bad_empty q⟩
  · exact ⟨sh (shw_tup (k := 0) (m := 17210) (n := 20000) (fun y hy => by rw [List.mem_singleton.mp hy]; exact sp) (of_decide_eq_true rfl)) (by decide) (by decide) (by simp) rfl, fun Q R q => notext (n := 0) (x := .tup [.str (sheetS t)]) trivial (by simp) q⟩
  · exact ⟨sh (shw_lst (k := 0) (m := 17210) (n := 20000) (fun y hy => by rw [List.mem_singleton.mp hy]; exact sp) (of_decide_eq_true rfl)) (by decide) (by decide) (by simp) rfl, fun Q R q => notext (n := 0) (x := .lst [.str (sheetS t)]) trivial (by simp) q⟩
  · exact ⟨⟨rfl, trivial, okt_of _⟩, fun Q R q => notext (n := 0) (x := .edc) trivial (by simp) q⟩
  · exact ⟨sh (shw_str o1 n1) (by decide) (by decide) (by simp) rfl, fun Q R q => any_none o1 (by omega) (bad_end (l := []) (c := 10) (by decide +kernel) (by decide)) q⟩
  · exact ⟨sh (shw_str o2 n2) (by decide) (by decide) (by simp) rfl, fun Q R q => any_none o2 (by omega) (bad_begin (l := []) (c := 10) (by decide +kernel) (by decide)) q⟩
  · exact ⟨sh (shw_str o3 n3) (by decide) (by decide) (by simp) rfl, fun Q R q => any_none o3 (by omega) (bad_end (l := []) (c := 32) (by decide +kernel) (by decide)) q⟩
  · exact ⟨sh (shw_int (by decide)) (by decide) (by decide) (by simp) rfl, fun Q R q => notext (n := 0) (x := .int (10 ^ 20)) trivial (by simp) q⟩
theorem forN_inv {b : D → SS → En → Prop} {Z : En} {S : SS} (I : SS → Prop) (ds : List D) (h0 : I S) (hd : ∀ S', I S' → Z.nx S')
    (hs : ∀ (d : D) (S' : SS) (N : SS → Prop), d ∈ ds → I S' → (∀ S2, I S2 → N S2) → b d S' { Z with nx := N, ct := N, bk := Z.nx }) : forWP ds b Z S :=
  for_inv (fun _ S => I S) h0 (fun S' h => hd S' h) fun i d S' N e h k => hs d S' N (List.mem_of_getElem? e) h k
theorem okE2 {x y : Str} (hx : PyData.strOk x = true) (hy : PyData.strOk y = true) : okD 60 (.lst [.str x, .str y]) = true := by
  rw [okD_lst, okDs, okDs, okDs, okD, okD]; show (PyData.strOk x && (PyData.strOk y && true)) = true; rw [hx, hy]; rfl
theorem okE3 {x y z : Str} (hx : PyData.strOk x = true) (hy : PyData.strOk y = true) (hz : PyData.strOk z = true) : okD 60 (.lst [.str x, .str y, .str z]) = true := by
  rw [okD_lst, okDs, okDs, okDs, okDs, okD, okD, okD]; show (PyData.strOk x && (PyData.strOk y && (PyData.strOk z && true))) = true; rw [hx, hy, hz]; rfl
theorem outcall_i {i : Nat} {S : SS} {x v : D} {Q : D → SS → Prop} {R : XR} (h : S[i]? = some (some (.v x))) (nx : isCel x = false) (ho : ∀ (Q : Qd) (R : Rd'), Q v [.v x] → w_law_outcome K c_InvalidText c_Keeper [.v x] Q R) (q : Q v S) : lCall (w_law_outcome K c_InvalidText c_Keeper) [] (lCons (lVar i) lNil) S Q R := by
  refine call_i fun P hP => (Pvs.cons (.var h nx) .nil).go _ _ (hP _ _ ?_)
  simp only [List.map_cons, List.map_nil, List.append_nil, toArg_nc nx, celIx_nc nx]
  refine ⟨rfl, ho _ _ ?_⟩
  rw [backA_v]
  exact ⟨rfl, q⟩
theorem fs_of' {s : Option Sl} (h : fr s) : freeSl [s] 0 = true := by rcases h with rfl | ⟨d, rfl⟩ <;> rfl
theorem right_spec {a b n : Int} {Q : Qd} {R : Rd'} (hb : jok b) (hF : FldOk K c_Keeper "lines") (E : PySem.W.exmOne K (.ref c_InvalidText) (.ref c_InvalidText) = some true)
    (h : ∀ a' b' n', Q (.bl true) [.c false (.lst (jar a' b' n'))]) : w_law_right K c_InvalidText c_Keeper [.c false (.lst (jar a b n))] Q R := by
  unfold w_law_right fnW t_law_right
  refine ⟨rfl, seq_i fun N hN => ?_⟩
  refine asg_pv (d := .lst (wl.map D.str)) (.lst (.cons .c (.cons .c (.cons .c (.cons .c (.cons .c (.cons .c (.cons .c (.cons .c (.cons .c (.cons .c (.cons .c (.cons .c (.cons .c (.cons .c (.cons .c (.cons .c (.cons .c .nil)))))))))))))))))) rfl (hN _ (seq_i fun N4 hN4 => ?_))
  have wf := wl_fine
  have wn : wl.length = 17 := rfl
  generalize wl = ws at wf wn ⊢
  show lFor _ _ _ _ [some (.c false (.lst (jar a b n))), some (.v (.lst (ws.map D.str))), none, none, none, none, none]
  refine for_i fun P3 hP3 => ?_
  simp
  refine hP3 _ _ (forN_inv (fun S => ∃ (a b n : Int) (s2 s3 s5 s6 : Option Sl), jok b ∧ fr s2 ∧ fr s3 ∧ fr s5 ∧ fr s6 ∧ S = [some (.c false (.lst (jar a b n))), some (.v (.lst (ws.map D.str))), s2, s3, none, s5, s6]) _ ?_ ?_ ?_)
  · exact ⟨_, _, _, _, _, _, _, hb, .inl rfl, .inl rfl, .inl rfl, .inl rfl, rfl⟩
  · rintro S' ⟨a2, b2, n2, s2, s3, s5, s6, hb2, f2, f3, f5, f6, rfl⟩
    have g3 := fs_of' f3
    refine hN4 _ (seq_i fun N5 hN5 => asg_i fun P4 hP4 => call_i fun P5 hP5 => cons_i fun P6 hP6 => call_i fun P7 hP7 => cons_i fun P8 hP8 => varC rfl (hP8 _ _ ((Pvs.cons .c .nil).go _ _ (hP7 _ _ ⟨rfl, ?_⟩))))
    refine table_spec (most := 3) hb2 (by decide) fun wide t a3 b3 n3 ht hb3 => ⟨rfl, hP6 _ _ (hP5 _ _ ⟨rfl, sheet_spec ht ⟨rfl, hP4 _ _ ⟨rfl, g3, ?_⟩⟩⟩)⟩
    show N5 [some (.c false (.lst (jar a3 b3 n3))), some (.v (.lst (ws.map D.str))), s2, some (.v (.str (sheetS t))), none, s5, s6]
    refine hN5 _ (seq_i fun N6 hN6 => for_i fun P9 hP9 => ?_)
    have hl := (len_sheet ht).2
    have l1 := len_ofs
    have p20 : ∀ S : SS, Pv (lBin powD (lC (.int 10)) (lC (.int 20))) S (.int (10 ^ 20)) := fun S => .bin .c .c rfl fun P q => by
      simp [L2.CPow]
      exact q
    have adS : ∀ {T U : LT} {S : SS} {x y : Str}, Pv T S (.str x) → Pv U S (.str y) → x.length + y.length ≤ 5000 → Pv (lBin addD T U) S (.str (x ++ y)) := fun hx hy hz => .bin hx hy rfl fun P q => ⟨sz (by omega), q⟩
    unfold lItU
    refine (Pv.lst (ds := thg (sheetS t)) (.cons .c (.cons .c (.cons .c (.cons .c (.cons (.tup (.cons (.var rfl) .nil)) (.cons (.lst (.cons (.var rfl) .nil)) (.cons .edc (.cons (adS (.var rfl) .c (by omega)) (.cons (adS .c (.var rfl) (by omega)) (.cons (adS (.var rfl) .c (by omega)) (.cons (p20 _) .nil)))))))))))).go _ _ ?_
    show P9 (thg (sheetS t)) [some (.c false (.lst (jar a3 b3 n3))), some (.v (.lst (ws.map D.str))), s2, some (.v (.str (sheetS t))), none, s5, s6]
    refine hP9 _ _ (forN_inv (fun S => ∃ (s4 : Option Sl), fr s4 ∧ S = [some (.c false (.lst (jar a3 b3 n3))), some (.v (.lst (ws.map D.str))), s2, some (.v (.str (sheetS t))), s4, s5, s6]) _ ?_ ?_ ?_)
    · exact ⟨_, .inl rfl, rfl⟩
    · rintro S' ⟨s4, -, rfl⟩
      refine hN6 _ ?_
      exact ⟨trivial, h _ _ _⟩
    · rintro x S' N' hx ⟨s4, f4, rfl⟩ hn
      obtain ⟨⟨nx, sx, ox⟩, hr⟩ := thg_no (K := K) (c_InvalidText := c_InvalidText) (c_Keeper := c_Keeper) ht hx
      have g4 := fs_of' f4
      refine ⟨nx, g4, if_i fun P5 hP5 => ?_⟩
      show lBin neD _ _ _ _ _
      refine bin_i fun P6 hP6 => ?_
      refine outcall_i (v := .lst [.str "refused", .str (shownE x)]) rfl nx (fun Q R q => refused_spec nx hr sx E q) (hP6 _ _ ?_)
      refine (Pv.lst (ds := [.str "refused", .str (shownE x)]) (.cons .c (.cons (.cb (f := on1 reprDE) (.cons (.var rfl nx) .nil) rfl fun P q => ⟨sx, q⟩) .nil))).go _ _ ?_
      refine ne_same (okE2 (okt_of _) ox) ?_
      refine hP5 _ _ ?_
      exact hn _ ⟨_, .inr ⟨_, rfl⟩, rfl⟩
  · rintro dd S' N' hdd ⟨a2, b2, n2, s2, s3, s5, s6, hb2, f2, f3, f5, f6, rfl⟩ hn
    obtain ⟨i, hi⟩ := List.getElem?_of_mem hdd
    obtain ⟨rfl, hlt⟩ := rng_at hi
    have g2 := fs_of' f2
    have g3 := fs_of' f3
    have g6 := fs_of' f6
    refine ⟨rfl, g2, seq_i fun N5 hN5 => ?_⟩
    refine asg_i fun P4 hP4 => call_i fun P5 hP5 => cons_i fun P6 hP6 => call_i fun P7 hP7 => cons_i fun P8 hP8 => varC rfl (hP8 _ _ ((Pvs.cons .c .nil).go _ _ (hP7 _ _ ⟨rfl, ?_⟩)))
    refine table_spec (most := 4) hb2 (by decide) fun wide t a3 b3 n3 ht hb3 => ⟨rfl, hP6 _ _ (hP5 _ _ ⟨rfl, sheet_spec ht ⟨rfl, hP4 _ _ ⟨rfl, g3, ?_⟩⟩⟩)⟩
    show N5 [some (.c false (.lst (jar a3 b3 n3))), some (.v (.lst (ws.map D.str))), some (.v (.int (0 + (i : Nat)))), some (.v (.str (sheetS t))), none, s5, s6]
    refine hN5 _ (seq_i fun N6 hN6 => for_i fun P6 hP6 => ?_)
    refine (Pvs.cons (.addI .c (.bin (y := .int 3) (.cb (d := .int (0 + (i : Nat))) (.cons (.var rfl) .nil) rfl fun P q => q) .c rfl fun P q => ⟨show (0 : Int) < 3 by decide, q⟩)) .nil).go _ _ ?_
    have hcnt : (1 + (0 + (i : Int)) % 3).toNat ≤ 3 ∧ 0 ≤ 1 + (0 + (i : Int)) % 3 ∧ 1 + (0 + (i : Int)) % 3 ≤ 3 := by omega
    show (-(2 ^ 62) ≤ 1 + (0 + (i : Int)) % 3 ∧ 1 + (0 + (i : Int)) % 3 < 2 ^ 62) ∧ P6 (rangeD 0 (1 + (0 + (i : Int)) % 3).toNat) _
    generalize 1 + (0 + (i : Int)) % 3 = cnt at hcnt ⊢
    refine ⟨⟨by omega, by omega⟩, hP6 _ _ ?_⟩
    refine for_inv (fun j S => ∃ (u : Str) (a b n : Int) (s5 : Option Sl), jok b ∧ fr s5 ∧ PyData.strOk u = true ∧ u.length + 100 ≤ 1820 * 2 ^ j ∧ S = [some (.c false (.lst (jar a b n))), some (.v (.lst (ws.map D.str))), some (.v (.int (0 + (i : Nat)))), some (.v (.str u)), none, s5, s6]) ?_ ?_ ?_
    · exact ⟨sheetS t, a3, b3, n3, s5, hb3, f5, ok_sheet, by have := (len_sheet ht).2; omega, rfl⟩
    · rintro S' ⟨u, a4, b4, n4, s5, hb4, f5, ou, lu, rfl⟩
      rw [rng_len] at lu
      have h3 : 2 ^ cnt.toNat ≤ 2 ^ 3 := Nat.pow_le_pow_right (by decide) hcnt.1
      have lu' : u.length ≤ 15000 := by omega
      refine hN6 _ (seq_i fun N7 hN7 => ?_)
      refine asg_i fun P7 hP7 => call_i fun P8 hP8 => (Pvs.cons (.var rfl) .nil).go _ _ (hP8 _ _ ⟨rfl, ?_⟩)
      have st := shw_str ou lu'
      have ss : showsE (.str u) := st.shows (by decide) (by decide)
      have os : PyData.strOk (shownE (.str u)) = true := okt_shown _ (lay_of 60 (.str u) (st.ok60 (by decide))).1
      refine lread_any ou (by omega) ?_
      rcases judged u with ⟨rows, w2, tok, eu, -, e2, e3⟩ | ⟨n1, n2⟩
      · rw [if_pos e3, e2]
        refine ⟨rfl, hP7 _ _ ⟨rfl, g6, ?_⟩⟩
        have se := shw_tbl tok
        have sd : showsE (.tup (rows.map rowD)) := se.shows (by decide) (by decide)
        have od : PyData.strOk (shownE (.tup (rows.map rowD))) = true := okt_shown _ (lay_of 60 (.tup (rows.map rowD)) (se.ok60 (by decide))).1
        subst eu
        refine hN7 _ (if_i fun P9 hP9 => ?_)
        show lBin neD _ _ _ _ _
        refine bin_i fun P10 hP10 => ?_
        refine outcall_i (v := .lst [.str "told", .str (shownE (.tup (rows.map rowD))), .str (sheetS rows)]) rfl rfl (fun Q R q => told_spec tok hF sd q) (hP10 _ _ ?_)
        refine ife_i fun P11 hP11 => ?_
        refine Pv.go (d := .bl false) (.bin (x := .tup (rows.map rowD)) (.var rfl) .c rfl fun P q => ⟨rfl, q⟩) _ _ ?_
        show P11 false _
        refine hP11 _ _ ?_
        simp only [Bool.false_eq_true, if_false]
        refine (Pv.lst (ds := [.str "told", .str (shownE (.tup (rows.map rowD))), .str (sheetS rows)]) (.cons .c (.cons (.cb (f := on1 reprDE) (.cons (.var rfl) .nil) rfl fun P q => ⟨sd, q⟩) (.cons (.var rfl) .nil)))).go _ _ ?_
        refine ne_same (okE3 (okt_of _) od ou) ?_
        refine hP9 _ _ ?_
        exact hn _ ⟨_, _, _, _, _, _, _, hb4, .inr ⟨_, rfl⟩, .inr ⟨_, rfl⟩, f5, .inr ⟨_, rfl⟩, rfl⟩
      · rw [if_neg n2]
        refine ⟨rfl, hP7 _ _ ⟨rfl, g6, ?_⟩⟩
        refine hN7 _ (if_i fun P9 hP9 => ?_)
        show lBin neD _ _ _ _ _
        refine bin_i fun P10 hP10 => ?_
        refine outcall_i (v := .lst [.str "refused", .str (shownE (.str u))]) rfl rfl (fun Q R q => refused_spec rfl (fun Q R q => any_none ou (by omega) n1 q) ss E q) (hP10 _ _ ?_)
        refine ife_i fun P11 hP11 => ?_
        refine Pv.go (d := .bl true) (.bin (x := .non) (.var rfl) .c rfl fun P q => ⟨rfl, q⟩) _ _ ?_
        show P11 true _
        refine hP11 _ _ ?_
        simp only [if_true]
        refine (Pv.lst (ds := [.str "refused", .str (shownE (.str u))]) (.cons .c (.cons (.cb (f := on1 reprDE) (.cons (.var rfl) .nil) rfl fun P q => ⟨ss, q⟩) .nil))).go _ _ ?_
        refine ne_same (okE2 (okt_of _) os) ?_
        refine hP9 _ _ ?_
        exact hn _ ⟨_, _, _, _, _, _, _, hb4, .inr ⟨_, rfl⟩, .inr ⟨_, rfl⟩, f5, .inr ⟨_, rfl⟩, rfl⟩
    · rintro j dj S' N' hj ⟨u, a4, b4, n4, s5, hb4, f5, ou, lu, rfl⟩ hn'
      obtain ⟨rfl, hlt⟩ := rng_at hj
      have h3 : 2 ^ j ≤ 2 ^ 2 := Nat.pow_le_pow_right (by decide) (by omega)
      have g5 := fs_of' f5
      refine ⟨rfl, g5, ?_⟩
      refine asg_i fun P7 hP7 => call_i fun P8 hP8 => cons_i fun P9 hP9 => varC rfl (hP9 _ _ ?_)
      refine (Pvs.cons (x := .str u) (.var rfl) (.cons (.var rfl) .nil)).go _ _ (hP8 _ _ ⟨rfl, ?_⟩)
      refine bent_spec (ws := ws) hb4 ⟨ou, by omega⟩ wf (by omega) fun u2 a5 b5 n5 fu hb5 => ⟨rfl, hP7 _ _ ⟨rfl, rfl, ?_⟩⟩
      exact hn' _ ⟨u2, _, _, _, _, hb5, .inr ⟨_, rfl⟩, fu.ok, by have := fu.len; rw [Nat.pow_succ]; omega, rfl⟩
theorem law_spec {cs : List Int} {Q : Qd} {R : Rd'} (hF : FldOk K c_Keeper "lines") (E : PySem.W.exmOne K (.ref c_InvalidText) (.ref c_InvalidText) = some true) (hl : cs.length ≤ 63) (h : Q (.bl true) [.v (.lsf (cs.map .int))]) : w_law K c_InvalidText c_Keeper [.v (.lsf (cs.map .int))] Q R := by
  unfold w_law fnW t_law
  refine ⟨rfl, ?_⟩
  show lBin eqD _ _ _ _ _
  refine bin_i fun P hP => lc_i fun P2 hP2 => ?_
  simp
  have hr : ∃ n : Nat, n ≤ 8 ∧ (if 2 < if 8 < (cs.length : Int) then 8 else (cs.length : Int) then if 8 < (cs.length : Int) then 8 else (cs.length : Int) else 2) = (n : Int) := by
    refine ⟨if 2 < (if 8 < cs.length then 8 else cs.length) then (if 8 < cs.length then 8 else cs.length) else 2, ?_, ?_⟩
    · split <;> (try split) <;> omega
    · split <;> split <;> (try split) <;> (try split) <;> omega
  obtain ⟨n, hn6, en⟩ := hr
  rw [en]
  refine ⟨⟨by omega, by omega⟩, hP2 _ _ rfl ?_⟩
  refine comp_inv (fun i acc S' => acc = [] ∧ S' = [some (.v (.lsf (cs.map .int))), none]) ?_ ?_ ?_
  · exact ⟨rfl, rfl⟩
  · rintro acc S' ⟨rfl, rfl⟩
    refine hP _ _ ?_
    simp [backL]
    refine eq_same (by rw [okD_lst]; rfl) ?_
    simp
    exact h
  · rintro i d acc S' k hd ⟨rfl, rfl⟩ - hk
    obtain ⟨rfl, hlt⟩ := rng_at hd
    simp
    refine jar_spec (by simp at hlt; omega) hl fun a b hb => ?_
    refine ⟨rfl, .lst (jar a b 0), rfl, right_spec hb hF E fun a' b' n' => ?_⟩
    simp
    exact hk _ ⟨rfl, rfl⟩
end K16
set_option linter.all false
set_option maxRecDepth 100000
set_option maxHeartbeats 4000000
namespace K16
open PySem PySem.Spec L2 L3
/-- what the plain law asks of the classes -/
def Facts (K : PySem.W.Frag) (c_InvalidText c_Keeper : Addr) : Prop := FldOk K c_Keeper "lines" ∧ InsTy K c_Keeper ∧ PySem.W.exmOne K (.ref c_InvalidText) (.ref c_InvalidText) = some true
def spX (K : PySem.W.Frag) : Sp := fun vs H Q E => ∀ c_InvalidText c_Keeper : Addr, Facts K c_InvalidText c_Keeper → spL K 1 (w_law K c_InvalidText c_Keeper) vs H Q E
theorem all_mk {l : PySem.W.OpenLaw} {w : World} {K : PySem.W.Frag} {h : Heap} {mg : Str → Option Value} {fa c_InvalidText c_Keeper f_law_sheet f_law_figure f_law_line_read f_law_num f_law_states_ok f_law_line_ok f_law_first_wrong f_law_read f_law_pick f_law_table f_law_of f_law_bent f_read_number f_read_states f_read_line f_ways_of f_is_integer f_is_within f_are_states f_is_line f_wrong_line f_read_keeper f_Keeper__init f_Keeper_read p_Keeper_read f_Keeper__str f_Keeper_rows p_Keeper_rows f_law_outcome f_law_right f_law_jar f_law fi_InvalidText : Addr} (X : K.In h) (G : h.Ns mainGlobals mg) (hfa : mg "law" = some (.ref fa))
    {od_law_sheet an_law_sheet : Option Addr} {sl_law_sheet : Array (Option Value)} {oc_law_sheet kV_law_sheet dc_law_sheet pm_law_sheet cd_law_sheet ct_law_sheet : Value} {od_law_figure an_law_figure : Option Addr} {sl_law_figure : Array (Option Value)} {oc_law_figure kV_law_figure dc_law_figure pm_law_figure cd_law_figure ct_law_figure : Value} {od_law_line_read an_law_line_read : Option Addr} {sl_law_line_read : Array (Option Value)} {oc_law_line_read kV_law_line_read dc_law_line_read pm_law_line_read cd_law_line_read ct_law_line_read : Value} {od_law_num an_law_num : Option Addr} {sl_law_num : Array (Option Value)} {oc_law_num kV_law_num dc_law_num pm_law_num cd_law_num ct_law_num : Value} {od_law_states_ok an_law_states_ok : Option Addr} {sl_law_states_ok : Array (Option Value)} {oc_law_states_ok kV_law_states_ok dc_law_states_ok pm_law_states_ok cd_law_states_ok ct_law_states_ok : Value} {od_law_line_ok an_law_line_ok : Option Addr} {sl_law_line_ok : Array (Option Value)} {oc_law_line_ok kV_law_line_ok dc_law_line_ok pm_law_line_ok cd_law_line_ok ct_law_line_ok : Value} {od_law_first_wrong an_law_first_wrong : Option Addr} {sl_law_first_wrong : Array (Option Value)} {oc_law_first_wrong kV_law_first_wrong dc_law_first_wrong pm_law_first_wrong cd_law_first_wrong ct_law_first_wrong : Value} {od_law_read an_law_read : Option Addr} {sl_law_read : Array (Option Value)} {oc_law_read kV_law_read dc_law_read pm_law_read cd_law_read ct_law_read : Value} {od_law_pick an_law_pick : Option Addr} {sl_law_pick : Array (Option Value)} {oc_law_pick kV_law_pick dc_law_pick pm_law_pick cd_law_pick ct_law_pick : Value} {od_law_table an_law_table : Option Addr} {sl_law_table : Array (Option Value)} {oc_law_table kV_law_table dc_law_table pm_law_table cd_law_table ct_law_table : Value} {od_law_of an_law_of : Option Addr} {sl_law_of : Array (Option Value)} {oc_law_of kV_law_of dc_law_of pm_law_of cd_law_of ct_law_of : Value} {od_law_bent an_law_bent : Option Addr} {sl_law_bent : Array (Option Value)} {oc_law_bent kV_law_bent dc_law_bent pm_law_bent cd_law_bent ct_law_bent : Value} {od_read_number an_read_number : Option Addr} {sl_read_number : Array (Option Value)} {oc_read_number kV_read_number dc_read_number pm_read_number cd_read_number ct_read_number : Value} {od_read_states an_read_states : Option Addr} {sl_read_states : Array (Option Value)} {oc_read_states kV_read_states dc_read_states pm_read_states cd_read_states ct_read_states : Value} {od_read_line an_read_line : Option Addr} {sl_read_line : Array (Option Value)} {oc_read_line kV_read_line dc_read_line pm_read_line cd_read_line ct_read_line : Value} {od_ways_of an_ways_of : Option Addr} {sl_ways_of : Array (Option Value)} {oc_ways_of kV_ways_of dc_ways_of pm_ways_of cd_ways_of ct_ways_of : Value} {od_is_integer an_is_integer : Option Addr} {sl_is_integer : Array (Option Value)} {oc_is_integer kV_is_integer dc_is_integer pm_is_integer cd_is_integer ct_is_integer : Value} {od_is_within an_is_within : Option Addr} {sl_is_within : Array (Option Value)} {oc_is_within kV_is_within dc_is_within pm_is_within cd_is_within ct_is_within : Value} {od_are_states an_are_states : Option Addr} {sl_are_states : Array (Option Value)} {oc_are_states kV_are_states dc_are_states pm_are_states cd_are_states ct_are_states : Value} {od_is_line an_is_line : Option Addr} {sl_is_line : Array (Option Value)} {oc_is_line kV_is_line dc_is_line pm_is_line cd_is_line ct_is_line : Value} {od_wrong_line an_wrong_line : Option Addr} {sl_wrong_line : Array (Option Value)} {oc_wrong_line kV_wrong_line dc_wrong_line pm_wrong_line cd_wrong_line ct_wrong_line : Value} {od_read_keeper an_read_keeper : Option Addr} {sl_read_keeper : Array (Option Value)} {oc_read_keeper kV_read_keeper dc_read_keeper pm_read_keeper cd_read_keeper ct_read_keeper : Value} {od_Keeper__init an_Keeper__init : Option Addr} {sl_Keeper__init : Array (Option Value)} {oc_Keeper__init kV_Keeper__init dc_Keeper__init pm_Keeper__init cd_Keeper__init ct_Keeper__init : Value} {od_Keeper_read an_Keeper_read : Option Addr} {sl_Keeper_read : Array (Option Value)} {oc_Keeper_read kV_Keeper_read dc_Keeper_read pm_Keeper_read cd_Keeper_read ct_Keeper_read : Value} {od_Keeper__str an_Keeper__str : Option Addr} {sl_Keeper__str : Array (Option Value)} {oc_Keeper__str kV_Keeper__str dc_Keeper__str pm_Keeper__str cd_Keeper__str ct_Keeper__str : Value} {od_Keeper_rows an_Keeper_rows : Option Addr} {sl_Keeper_rows : Array (Option Value)} {oc_Keeper_rows kV_Keeper_rows dc_Keeper_rows pm_Keeper_rows cd_Keeper_rows ct_Keeper_rows : Value} {od_law_outcome an_law_outcome : Option Addr} {sl_law_outcome : Array (Option Value)} {oc_law_outcome kV_law_outcome dc_law_outcome pm_law_outcome cd_law_outcome ct_law_outcome : Value} {od_law_right an_law_right : Option Addr} {sl_law_right : Array (Option Value)} {oc_law_right kV_law_right dc_law_right pm_law_right cd_law_right ct_law_right : Value} {od_law_jar an_law_jar : Option Addr} {sl_law_jar : Array (Option Value)} {oc_law_jar kV_law_jar dc_law_jar pm_law_jar cd_law_jar ct_law_jar : Value} {od_law an_law : Option Addr} {sl_law : Array (Option Value)} {oc_law kV_law dc_law pm_law cd_law ct_law : Value} {rest_Keeper_read : List Value} {rest_Keeper_rows : List Value} {tk_DIGITS : Tok} {tk_MOST_WAYS : Tok} {tk_MOST_STATES : Tok} {nm_InvalidText qn_InvalidText : Str} {N_InvalidText : Addr} {bs_InvalidText : List Value} {sn_InvalidText : List Str} {su_InvalidText : List Value} {ab_InvalidText : Bool} {co_InvalidText : Option Bool} {dd_InvalidText : Option Addr} {m0_InvalidText m1_InvalidText m2_InvalidText m3_InvalidText m5_InvalidText : Option Value} {oci_InvalidText dci_InvalidText pmi_InvalidText cdi_InvalidText cti_InvalidText : Value} {odi_InvalidText ani_InvalidText : Option Addr} {sli_InvalidText : Array (Option Value)} {p1_InvalidText p2_InvalidText q1_InvalidText q2_InvalidText q3_InvalidText q4_InvalidText : Pos} {b0_InvalidText : Addr}
    (aC_InvalidText : PySem.W.nsIn K mainGlobals "InvalidText" = some (some (.ref c_InvalidText)))
    (aC_Keeper : PySem.W.nsIn K mainGlobals "Keeper" = some (some (.ref c_Keeper)))
    (a_law_sheet : PySem.W.nsIn K mainGlobals "_law_sheet" = some (some (.ref f_law_sheet)))
    (l_law_sheet : K.lookup f_law_sheet = some ⟨oc_law_sheet, od_law_sheet, .func (PySem.W.fnOf "_law_sheet" "_law_sheet" (defArgs s_law_sheet) (defBody s_law_sheet) (defScope s_law_sheet) .none kV_law_sheet dc_law_sheet pm_law_sheet an_law_sheet cd_law_sheet ct_law_sheet), sl_law_sheet⟩)
    (c_law_sheet : PySem.W.codeIn K cd_law_sheet "_law_sheet" = true)
    (k_law_sheet : PySem.W.keepIn K (.ref f_law_sheet) = true)
    (a_law_figure : PySem.W.nsIn K mainGlobals "_law_figure" = some (some (.ref f_law_figure)))
    (l_law_figure : K.lookup f_law_figure = some ⟨oc_law_figure, od_law_figure, .func (PySem.W.fnOf "_law_figure" "_law_figure" (defArgs s_law_figure) (defBody s_law_figure) (defScope s_law_figure) .none kV_law_figure dc_law_figure pm_law_figure an_law_figure cd_law_figure ct_law_figure), sl_law_figure⟩)
    (c_law_figure : PySem.W.codeIn K cd_law_figure "_law_figure" = true)
    (k_law_figure : PySem.W.keepIn K (.ref f_law_figure) = true)
    (a_law_line_read : PySem.W.nsIn K mainGlobals "_law_line_read" = some (some (.ref f_law_line_read)))
    (l_law_line_read : K.lookup f_law_line_read = some ⟨oc_law_line_read, od_law_line_read, .func (PySem.W.fnOf "_law_line_read" "_law_line_read" (defArgs s_law_line_read) (defBody s_law_line_read) (defScope s_law_line_read) .none kV_law_line_read dc_law_line_read pm_law_line_read an_law_line_read cd_law_line_read ct_law_line_read), sl_law_line_read⟩)
    (c_law_line_read : PySem.W.codeIn K cd_law_line_read "_law_line_read" = true)
    (k_law_line_read : PySem.W.keepIn K (.ref f_law_line_read) = true)
    (a_law_num : PySem.W.nsIn K mainGlobals "_law_num" = some (some (.ref f_law_num)))
    (l_law_num : K.lookup f_law_num = some ⟨oc_law_num, od_law_num, .func (PySem.W.fnOf "_law_num" "_law_num" (defArgs s_law_num) (defBody s_law_num) (defScope s_law_num) .none kV_law_num dc_law_num pm_law_num an_law_num cd_law_num ct_law_num), sl_law_num⟩)
    (c_law_num : PySem.W.codeIn K cd_law_num "_law_num" = true)
    (k_law_num : PySem.W.keepIn K (.ref f_law_num) = true)
    (a_law_states_ok : PySem.W.nsIn K mainGlobals "_law_states_ok" = some (some (.ref f_law_states_ok)))
    (l_law_states_ok : K.lookup f_law_states_ok = some ⟨oc_law_states_ok, od_law_states_ok, .func (PySem.W.fnOf "_law_states_ok" "_law_states_ok" (defArgs s_law_states_ok) (defBody s_law_states_ok) (defScope s_law_states_ok) .none kV_law_states_ok dc_law_states_ok pm_law_states_ok an_law_states_ok cd_law_states_ok ct_law_states_ok), sl_law_states_ok⟩)
    (c_law_states_ok : PySem.W.codeIn K cd_law_states_ok "_law_states_ok" = true)
    (k_law_states_ok : PySem.W.keepIn K (.ref f_law_states_ok) = true)
    (a_law_line_ok : PySem.W.nsIn K mainGlobals "_law_line_ok" = some (some (.ref f_law_line_ok)))
    (l_law_line_ok : K.lookup f_law_line_ok = some ⟨oc_law_line_ok, od_law_line_ok, .func (PySem.W.fnOf "_law_line_ok" "_law_line_ok" (defArgs s_law_line_ok) (defBody s_law_line_ok) (defScope s_law_line_ok) .none kV_law_line_ok dc_law_line_ok pm_law_line_ok an_law_line_ok cd_law_line_ok ct_law_line_ok), sl_law_line_ok⟩)
    (c_law_line_ok : PySem.W.codeIn K cd_law_line_ok "_law_line_ok" = true)
    (k_law_line_ok : PySem.W.keepIn K (.ref f_law_line_ok) = true)
    (a_law_first_wrong : PySem.W.nsIn K mainGlobals "_law_first_wrong" = some (some (.ref f_law_first_wrong)))
    (l_law_first_wrong : K.lookup f_law_first_wrong = some ⟨oc_law_first_wrong, od_law_first_wrong, .func (PySem.W.fnOf "_law_first_wrong" "_law_first_wrong" (defArgs s_law_first_wrong) (defBody s_law_first_wrong) (defScope s_law_first_wrong) .none kV_law_first_wrong dc_law_first_wrong pm_law_first_wrong an_law_first_wrong cd_law_first_wrong ct_law_first_wrong), sl_law_first_wrong⟩)
    (c_law_first_wrong : PySem.W.codeIn K cd_law_first_wrong "_law_first_wrong" = true)
    (k_law_first_wrong : PySem.W.keepIn K (.ref f_law_first_wrong) = true)
    (a_law_read : PySem.W.nsIn K mainGlobals "_law_read" = some (some (.ref f_law_read)))
    (l_law_read : K.lookup f_law_read = some ⟨oc_law_read, od_law_read, .func (PySem.W.fnOf "_law_read" "_law_read" (defArgs s_law_read) (defBody s_law_read) (defScope s_law_read) .none kV_law_read dc_law_read pm_law_read an_law_read cd_law_read ct_law_read), sl_law_read⟩)
    (c_law_read : PySem.W.codeIn K cd_law_read "_law_read" = true)
    (k_law_read : PySem.W.keepIn K (.ref f_law_read) = true)
    (a_law_pick : PySem.W.nsIn K mainGlobals "_law_pick" = some (some (.ref f_law_pick)))
    (l_law_pick : K.lookup f_law_pick = some ⟨oc_law_pick, od_law_pick, .func (PySem.W.fnOf "_law_pick" "_law_pick" (defArgs s_law_pick) (defBody s_law_pick) (defScope s_law_pick) .none kV_law_pick dc_law_pick pm_law_pick an_law_pick cd_law_pick ct_law_pick), sl_law_pick⟩)
    (c_law_pick : PySem.W.codeIn K cd_law_pick "_law_pick" = true)
    (k_law_pick : PySem.W.keepIn K (.ref f_law_pick) = true)
    (a_law_table : PySem.W.nsIn K mainGlobals "_law_table" = some (some (.ref f_law_table)))
    (l_law_table : K.lookup f_law_table = some ⟨oc_law_table, od_law_table, .func (PySem.W.fnOf "_law_table" "_law_table" (defArgs s_law_table) (defBody s_law_table) (defScope s_law_table) .none kV_law_table dc_law_table pm_law_table an_law_table cd_law_table ct_law_table), sl_law_table⟩)
    (c_law_table : PySem.W.codeIn K cd_law_table "_law_table" = true)
    (k_law_table : PySem.W.keepIn K (.ref f_law_table) = true)
    (a_law_of : PySem.W.nsIn K mainGlobals "_law_of" = some (some (.ref f_law_of)))
    (l_law_of : K.lookup f_law_of = some ⟨oc_law_of, od_law_of, .func (PySem.W.fnOf "_law_of" "_law_of" (defArgs s_law_of) (defBody s_law_of) (defScope s_law_of) .none kV_law_of dc_law_of pm_law_of an_law_of cd_law_of ct_law_of), sl_law_of⟩)
    (c_law_of : PySem.W.codeIn K cd_law_of "_law_of" = true)
    (k_law_of : PySem.W.keepIn K (.ref f_law_of) = true)
    (a_law_bent : PySem.W.nsIn K mainGlobals "_law_bent" = some (some (.ref f_law_bent)))
    (l_law_bent : K.lookup f_law_bent = some ⟨oc_law_bent, od_law_bent, .func (PySem.W.fnOf "_law_bent" "_law_bent" (defArgs s_law_bent) (defBody s_law_bent) (defScope s_law_bent) .none kV_law_bent dc_law_bent pm_law_bent an_law_bent cd_law_bent ct_law_bent), sl_law_bent⟩)
    (c_law_bent : PySem.W.codeIn K cd_law_bent "_law_bent" = true)
    (k_law_bent : PySem.W.keepIn K (.ref f_law_bent) = true)
    (a_read_number : PySem.W.nsIn K mainGlobals "read_number" = some (some (.ref f_read_number)))
    (l_read_number : K.lookup f_read_number = some ⟨oc_read_number, od_read_number, .func (PySem.W.fnOf "read_number" "read_number" (defArgs s_read_number) (defBody s_read_number) (defScope s_read_number) .none kV_read_number dc_read_number pm_read_number an_read_number cd_read_number ct_read_number), sl_read_number⟩)
    (c_read_number : PySem.W.codeIn K cd_read_number "read_number" = true)
    (k_read_number : PySem.W.keepIn K (.ref f_read_number) = true)
    (a_read_states : PySem.W.nsIn K mainGlobals "read_states" = some (some (.ref f_read_states)))
    (l_read_states : K.lookup f_read_states = some ⟨oc_read_states, od_read_states, .func (PySem.W.fnOf "read_states" "read_states" (defArgs s_read_states) (defBody s_read_states) (defScope s_read_states) .none kV_read_states dc_read_states pm_read_states an_read_states cd_read_states ct_read_states), sl_read_states⟩)
    (c_read_states : PySem.W.codeIn K cd_read_states "read_states" = true)
    (k_read_states : PySem.W.keepIn K (.ref f_read_states) = true)
    (a_read_line : PySem.W.nsIn K mainGlobals "read_line" = some (some (.ref f_read_line)))
    (l_read_line : K.lookup f_read_line = some ⟨oc_read_line, od_read_line, .func (PySem.W.fnOf "read_line" "read_line" (defArgs s_read_line) (defBody s_read_line) (defScope s_read_line) .none kV_read_line dc_read_line pm_read_line an_read_line cd_read_line ct_read_line), sl_read_line⟩)
    (c_read_line : PySem.W.codeIn K cd_read_line "read_line" = true)
    (k_read_line : PySem.W.keepIn K (.ref f_read_line) = true)
    (a_ways_of : PySem.W.nsIn K mainGlobals "ways_of" = some (some (.ref f_ways_of)))
    (l_ways_of : K.lookup f_ways_of = some ⟨oc_ways_of, od_ways_of, .func (PySem.W.fnOf "ways_of" "ways_of" (defArgs s_ways_of) (defBody s_ways_of) (defScope s_ways_of) .none kV_ways_of dc_ways_of pm_ways_of an_ways_of cd_ways_of ct_ways_of), sl_ways_of⟩)
    (c_ways_of : PySem.W.codeIn K cd_ways_of "ways_of" = true)
    (k_ways_of : PySem.W.keepIn K (.ref f_ways_of) = true)
    (a_is_integer : PySem.W.nsIn K mainGlobals "is_integer" = some (some (.ref f_is_integer)))
    (l_is_integer : K.lookup f_is_integer = some ⟨oc_is_integer, od_is_integer, .func (PySem.W.fnOf "is_integer" "is_integer" (defArgs s_is_integer) (defBody s_is_integer) (defScope s_is_integer) .none kV_is_integer dc_is_integer pm_is_integer an_is_integer cd_is_integer ct_is_integer), sl_is_integer⟩)
    (c_is_integer : PySem.W.codeIn K cd_is_integer "is_integer" = true)
    (k_is_integer : PySem.W.keepIn K (.ref f_is_integer) = true)
    (a_is_within : PySem.W.nsIn K mainGlobals "is_within" = some (some (.ref f_is_within)))
    (l_is_within : K.lookup f_is_within = some ⟨oc_is_within, od_is_within, .func (PySem.W.fnOf "is_within" "is_within" (defArgs s_is_within) (defBody s_is_within) (defScope s_is_within) .none kV_is_within dc_is_within pm_is_within an_is_within cd_is_within ct_is_within), sl_is_within⟩)
    (c_is_within : PySem.W.codeIn K cd_is_within "is_within" = true)
    (k_is_within : PySem.W.keepIn K (.ref f_is_within) = true)
    (a_are_states : PySem.W.nsIn K mainGlobals "are_states" = some (some (.ref f_are_states)))
    (l_are_states : K.lookup f_are_states = some ⟨oc_are_states, od_are_states, .func (PySem.W.fnOf "are_states" "are_states" (defArgs s_are_states) (defBody s_are_states) (defScope s_are_states) .none kV_are_states dc_are_states pm_are_states an_are_states cd_are_states ct_are_states), sl_are_states⟩)
    (c_are_states : PySem.W.codeIn K cd_are_states "are_states" = true)
    (k_are_states : PySem.W.keepIn K (.ref f_are_states) = true)
    (a_is_line : PySem.W.nsIn K mainGlobals "is_line" = some (some (.ref f_is_line)))
    (l_is_line : K.lookup f_is_line = some ⟨oc_is_line, od_is_line, .func (PySem.W.fnOf "is_line" "is_line" (defArgs s_is_line) (defBody s_is_line) (defScope s_is_line) .none kV_is_line dc_is_line pm_is_line an_is_line cd_is_line ct_is_line), sl_is_line⟩)
    (c_is_line : PySem.W.codeIn K cd_is_line "is_line" = true)
    (k_is_line : PySem.W.keepIn K (.ref f_is_line) = true)
    (a_wrong_line : PySem.W.nsIn K mainGlobals "wrong_line" = some (some (.ref f_wrong_line)))
    (l_wrong_line : K.lookup f_wrong_line = some ⟨oc_wrong_line, od_wrong_line, .func (PySem.W.fnOf "wrong_line" "wrong_line" (defArgs s_wrong_line) (defBody s_wrong_line) (defScope s_wrong_line) .none kV_wrong_line dc_wrong_line pm_wrong_line an_wrong_line cd_wrong_line ct_wrong_line), sl_wrong_line⟩)
    (c_wrong_line : PySem.W.codeIn K cd_wrong_line "wrong_line" = true)
    (k_wrong_line : PySem.W.keepIn K (.ref f_wrong_line) = true)
    (a_read_keeper : PySem.W.nsIn K mainGlobals "read_keeper" = some (some (.ref f_read_keeper)))
    (l_read_keeper : K.lookup f_read_keeper = some ⟨oc_read_keeper, od_read_keeper, .func (PySem.W.fnOf "read_keeper" "read_keeper" (defArgs s_read_keeper) (defBody s_read_keeper) (defScope s_read_keeper) .none kV_read_keeper dc_read_keeper pm_read_keeper an_read_keeper cd_read_keeper ct_read_keeper), sl_read_keeper⟩)
    (c_read_keeper : PySem.W.codeIn K cd_read_keeper "read_keeper" = true)
    (k_read_keeper : PySem.W.keepIn K (.ref f_read_keeper) = true)
    (a_Keeper__init : PySem.W.findIn K (.ref c_Keeper) "__init__" = some (some (.ref f_Keeper__init)))
    (i_Keeper__init : PySem.W.isFn K (.ref f_Keeper__init) = true)
    (l_Keeper__init : K.lookup f_Keeper__init = some ⟨oc_Keeper__init, od_Keeper__init, .func (PySem.W.fnOf "__init__" "Keeper.__init__" (defArgs s_Keeper__init) (defBody s_Keeper__init) (defScope s_Keeper__init) .none kV_Keeper__init dc_Keeper__init pm_Keeper__init an_Keeper__init cd_Keeper__init ct_Keeper__init), sl_Keeper__init⟩)
    (c_Keeper__init : PySem.W.codeIn K cd_Keeper__init "Keeper.__init__" = true)
    (k_Keeper__init : PySem.W.keepIn K (.ref f_Keeper__init) = true)
    (a_Keeper_read : PySem.W.findCls K (.ref c_Keeper) (.type "type") "read" = some (.get (.builtin "classmethod.__get__") (.ref p_Keeper_read) .none (.ref c_Keeper)))
    (r_Keeper_read : PySem.W.recIn K p_Keeper_read "classmethod" = some (.ref f_Keeper_read :: rest_Keeper_read))
    (n_Keeper_read : PySem.W.fnIn K f_Keeper_read = true)
    (cr_Keeper : PySem.W.readsIn K c_Keeper (.type "type") = true)
    (cg_Keeper : PySem.W.specialIn K (.ref c_Keeper) "__getattribute__" = some (some (.builtin "type.__getattribute__")))
    (l_Keeper_read : K.lookup f_Keeper_read = some ⟨oc_Keeper_read, od_Keeper_read, .func (PySem.W.fnOf "read" "Keeper.read" (defArgs s_Keeper_read) (defBody s_Keeper_read) (defScope s_Keeper_read) .none kV_Keeper_read dc_Keeper_read pm_Keeper_read an_Keeper_read cd_Keeper_read ct_Keeper_read), sl_Keeper_read⟩)
    (c_Keeper_read : PySem.W.codeIn K cd_Keeper_read "Keeper.read" = true)
    (k_Keeper_read : PySem.W.keepIn K (.ref f_Keeper_read) = true)
    (a_Keeper__str : PySem.W.findIn K (.ref c_Keeper) "__str__" = some (some (.ref f_Keeper__str)))
    (i_Keeper__str : PySem.W.isFn K (.ref f_Keeper__str) = true)
    (l_Keeper__str : K.lookup f_Keeper__str = some ⟨oc_Keeper__str, od_Keeper__str, .func (PySem.W.fnOf "__str__" "Keeper.__str__" (defArgs s_Keeper__str) (defBody s_Keeper__str) (defScope s_Keeper__str) .none kV_Keeper__str dc_Keeper__str pm_Keeper__str an_Keeper__str cd_Keeper__str ct_Keeper__str), sl_Keeper__str⟩)
    (c_Keeper__str : PySem.W.codeIn K cd_Keeper__str "Keeper.__str__" = true)
    (k_Keeper__str : PySem.W.keepIn K (.ref f_Keeper__str) = true)
    (a_Keeper_rows : PySem.W.findIn K (.ref c_Keeper) "rows" = some (some (.ref p_Keeper_rows)))
    (g_Keeper_rows : PySem.W.specialIn K (.ref p_Keeper_rows) "__get__" = some (some (.builtin "property.__get__")))
    (t_Keeper_rows : PySem.W.takesIn K (.ref p_Keeper_rows) = some true)
    (r_Keeper_rows : PySem.W.recIn K p_Keeper_rows "property" = some (.ref f_Keeper_rows :: rest_Keeper_rows))
    (l_Keeper_rows : K.lookup f_Keeper_rows = some ⟨oc_Keeper_rows, od_Keeper_rows, .func (PySem.W.fnOf "rows" "Keeper.rows" (defArgs s_Keeper_rows) (defBody s_Keeper_rows) (defScope s_Keeper_rows) .none kV_Keeper_rows dc_Keeper_rows pm_Keeper_rows an_Keeper_rows cd_Keeper_rows ct_Keeper_rows), sl_Keeper_rows⟩)
    (c_Keeper_rows : PySem.W.codeIn K cd_Keeper_rows "Keeper.rows" = true)
    (k_Keeper_rows : PySem.W.keepIn K (.ref f_Keeper_rows) = true)
    (a_law_outcome : PySem.W.nsIn K mainGlobals "_law_outcome" = some (some (.ref f_law_outcome)))
    (l_law_outcome : K.lookup f_law_outcome = some ⟨oc_law_outcome, od_law_outcome, .func (PySem.W.fnOf "_law_outcome" "_law_outcome" (defArgs s_law_outcome) (defBody s_law_outcome) (defScope s_law_outcome) .none kV_law_outcome dc_law_outcome pm_law_outcome an_law_outcome cd_law_outcome ct_law_outcome), sl_law_outcome⟩)
    (c_law_outcome : PySem.W.codeIn K cd_law_outcome "_law_outcome" = true)
    (k_law_outcome : PySem.W.keepIn K (.ref f_law_outcome) = true)
    (a_law_right : PySem.W.nsIn K mainGlobals "_law_right" = some (some (.ref f_law_right)))
    (l_law_right : K.lookup f_law_right = some ⟨oc_law_right, od_law_right, .func (PySem.W.fnOf "_law_right" "_law_right" (defArgs s_law_right) (defBody s_law_right) (defScope s_law_right) .none kV_law_right dc_law_right pm_law_right an_law_right cd_law_right ct_law_right), sl_law_right⟩)
    (c_law_right : PySem.W.codeIn K cd_law_right "_law_right" = true)
    (k_law_right : PySem.W.keepIn K (.ref f_law_right) = true)
    (a_law_jar : PySem.W.nsIn K mainGlobals "_law_jar" = some (some (.ref f_law_jar)))
    (l_law_jar : K.lookup f_law_jar = some ⟨oc_law_jar, od_law_jar, .func (PySem.W.fnOf "_law_jar" "_law_jar" (defArgs s_law_jar) (defBody s_law_jar) (defScope s_law_jar) .none kV_law_jar dc_law_jar pm_law_jar an_law_jar cd_law_jar ct_law_jar), sl_law_jar⟩)
    (c_law_jar : PySem.W.codeIn K cd_law_jar "_law_jar" = true)
    (k_law_jar : PySem.W.keepIn K (.ref f_law_jar) = true)
    (a_law : PySem.W.nsIn K mainGlobals "law" = some (some (.ref f_law)))
    (l_law : K.lookup f_law = some ⟨oc_law, od_law, .func (PySem.W.fnOf "law" "law" (defArgs s_law) (defBody s_law) (defScope s_law) .none kV_law dc_law pm_law an_law cd_law ct_law), sl_law⟩)
    (c_law : PySem.W.codeIn K cd_law "law" = true)
    (k_law : PySem.W.keepIn K (.ref f_law) = true)
    (xL_InvalidText : K.lookup c_InvalidText = some (excClassObj nm_InvalidText qn_InvalidText c_InvalidText N_InvalidText bs_InvalidText [.ref b0_InvalidText, .type "ValueError", .type "Exception", .type "BaseException", .type "object"] true sn_InvalidText su_InvalidText ab_InvalidText co_InvalidText dd_InvalidText m0_InvalidText m1_InvalidText m2_InvalidText m3_InvalidText m5_InvalidText "ValueError.__new__"))
    (xs_InvalidText : PySem.W.findIn K (.ref c_InvalidText) "__setattr__" = some (some (.builtin "object.__setattr__")))
    (xg_InvalidText : PySem.W.findIn K (.ref c_InvalidText) "__getattribute__" = some (some (.builtin "BaseException.__getattribute__")))
    (xh_InvalidText : PySem.W.findIn K (.ref c_InvalidText) "__getattr__" = some none)
    (xn_InvalidText : PySem.W.findIn K (.ref c_InvalidText) "given" = some none)
    (xi_InvalidText : PySem.W.findIn K (.ref c_InvalidText) "__init__" = some (some (.ref fi_InvalidText)))
    (xt_InvalidText : PySem.W.typeIn K (.ref fi_InvalidText) = some (.type "function"))
    (xl_InvalidText : K.lookup fi_InvalidText = some ⟨oci_InvalidText, odi_InvalidText, .func (PySem.W.fnOf "__init__" "InvalidText.__init__" (PySem.Low_given.iA p1_InvalidText p2_InvalidText) (PySem.Low_given.iB q1_InvalidText q2_InvalidText q3_InvalidText q4_InvalidText) PySem.Low_given.iS .none .none dci_InvalidText pmi_InvalidText ani_InvalidText cdi_InvalidText cti_InvalidText), sli_InvalidText⟩)
    (xc_InvalidText : PySem.W.codeIn K cdi_InvalidText "InvalidText.__init__" = true)
    (xk_InvalidText : PySem.W.keepIn K (.ref c_InvalidText) = true)
    (xe_InvalidText : PySem.W.subIn K (.ref c_InvalidText) (.type "BaseException") = some true)
    (xy_InvalidText : PySem.W.typeIn K (.ref c_InvalidText) = some (.type "type"))
    (xd_InvalidText : PySem.W.hasDictIn K c_InvalidText = true)
    (xz_InvalidText : PySem.W.isClsIn K c_InvalidText = true)
    (xw_InvalidText : PySem.W.subIn K (.ref c_InvalidText) (.ref c_InvalidText) = some true)
    (pg_Keeper : PySem.W.plainGet K c_Keeper Str.empty = true)
    (hd_Keeper : PySem.W.hasDictIn K c_Keeper = true)
    (po_Keeper : PySem.W.plainOver K c_Keeper = true)
    (sa_Keeper : PySem.W.findIn K (.ref c_Keeper) "__setattr__" = some (some (.builtin "object.__setattr__")))
    (mk_Keeper : PySem.W.makesIn K c_Keeper = true)
    (kc_Keeper : PySem.W.keepIn K (.ref c_Keeper) = true)
    (ha_Keeper : PySem.W.findIn K (.ref c_Keeper) "__class__" = some (some (.builtin "object.__class__")))
    (hn_Keeper : PySem.W.specialIn K (.builtin "object.__class__") "__get__" = some (some (.builtin "getset_descriptor.__get__")))
    (ht_Keeper : PySem.W.takesIn K (.builtin "object.__class__") = some true)
    (hm_Keeper : PySem.W.mroIn K c_Keeper (.type "object") = some true)
    (fl_Keeper_lines : PySem.W.findIn K (.ref c_Keeper) "lines" = some none)
    (z_n_str : PySem.W.nsIn K mainGlobals "str" = some none)
    (z_n_len : PySem.W.nsIn K mainGlobals "len" = some none)
    (z_n_int : PySem.W.nsIn K mainGlobals "int" = some none)
    (z_n_tuple : PySem.W.nsIn K mainGlobals "tuple" = some none)
    (z_n_isinstance : PySem.W.nsIn K mainGlobals "isinstance" = some none)
    (z_n_bool : PySem.W.nsIn K mainGlobals "bool" = some none)
    (z_n_range : PySem.W.nsIn K mainGlobals "range" = some none)
    (z_n_divmod : PySem.W.nsIn K mainGlobals "divmod" = some none)
    (z_s_DIGITS : PySem.W.nsIn K mainGlobals "DIGITS" = some (some (.str "0123456789" tk_DIGITS)))
    (z_n_all : PySem.W.nsIn K mainGlobals "all" = some none)
    (z_i_MOST_WAYS : PySem.W.nsIn K mainGlobals "MOST_WAYS" = some (some (.int 4 tk_MOST_WAYS)))
    (z_n_enumerate : PySem.W.nsIn K mainGlobals "enumerate" = some none)
    (z_i_MOST_STATES : PySem.W.nsIn K mainGlobals "MOST_STATES" = some (some (.int 40 tk_MOST_STATES)))
    (z_n_repr : PySem.W.nsIn K mainGlobals "repr" = some none)
    (z_n_abs : PySem.W.nsIn K mainGlobals "abs" = some none)
    (z_n_min : PySem.W.nsIn K mainGlobals "min" = some none)
    (z_n_max : PySem.W.nsIn K mainGlobals "max" = some none) :
    ∃ fd : FuncData, (∀ (s : Shared) (v : Value), BindsTo s fd ⟨[v], []⟩ [("_law_cells", v)]) ∧ ∀ base : Heap, K.In base → base.Ns mainGlobals mg → FnG l.prog w K mg base (L2.CX l.prog w) 11 fa fd ["_law_cells"] (spX K) := by
  have e := hfa.symm.trans (PySem.W.mg_of X G a_law)
  cases e
  have te_InvalidText := exm_self xe_InvalidText xz_InvalidText xy_InvalidText xw_InvalidText
  have low_InvalidText : PySem.Low_given.LowTxt K mg "InvalidText" "InvalidText.__init__" c_InvalidText fi_InvalidText :=
    { gC := PySem.W.mg_of X G aC_InvalidText, nd := by decide, cls := ⟨nm_InvalidText, qn_InvalidText, N_InvalidText, bs_InvalidText, _, sn_InvalidText, su_InvalidText, ab_InvalidText, co_InvalidText, dd_InvalidText, m0_InvalidText, m1_InvalidText, m2_InvalidText, m3_InvalidText, m5_InvalidText, xL_InvalidText, (by decide +kernel : PySem.HandSPX.refsVE [.type "ValueError", .type "Exception", .type "BaseException", .type "object"] = true)⟩, sa := xs_InvalidText, ga := xg_InvalidText, gg := xh_InvalidText, noN := xn_InvalidText, iC := xi_InvalidText, tC := xt_InvalidText, kC := xk_InvalidText, exC := xe_InvalidText, tyC := xy_InvalidText, hdC := xd_InvalidText, te := te_InvalidText, fn := ⟨_, _, _, _, _, _, _, _, _, _, _, _, _, _, xl_InvalidText, xc_InvalidText⟩ }
  have cl_Keeper : Cls K c_Keeper := ⟨pg_Keeper, hd_Keeper, po_Keeper, sa_Keeper⟩
  have in_Keeper : InsTy K c_Keeper := ⟨cl_Keeper, ha_Keeper, hn_Keeper, ht_Keeper, hm_Keeper⟩
  have T : TX K mg c_InvalidText c_Keeper := ⟨PySem.W.mg_none_of X G z_n_str, PySem.W.mg_none_of X G z_n_len, PySem.W.mg_none_of X G z_n_int, PySem.W.mg_none_of X G z_n_tuple, PySem.W.mg_none_of X G z_n_isinstance, PySem.W.mg_none_of X G z_n_bool, PySem.W.mg_none_of X G z_n_range, PySem.W.mg_none_of X G z_n_divmod, ⟨tk_DIGITS, PySem.W.mg_of X G z_s_DIGITS⟩, PySem.W.mg_none_of X G z_n_all, ⟨tk_MOST_WAYS, PySem.W.mg_of X G z_i_MOST_WAYS⟩, PySem.W.mg_none_of X G z_n_enumerate, ⟨tk_MOST_STATES, PySem.W.mg_of X G z_i_MOST_STATES⟩, PySem.W.mg_of X G aC_InvalidText, ⟨fi_InvalidText, low_InvalidText⟩, PySem.W.mg_of X G aC_Keeper, PySem.W.mg_none_of X G z_n_repr, PySem.W.mg_none_of X G z_n_abs, PySem.W.mg_none_of X G z_n_min, PySem.W.mg_none_of X G z_n_max⟩
  have F_law_sheet := fun_mk (st := s_law_sheet) l_law_sheet c_law_sheet k_law_sheet
  have b_law_sheet := F_law_sheet.binds (ps := ["_law_table_here"]) fun _ _ _ _ _ _ us hl => match us, hl with | [_], _ => rfl
  have F_law_figure := fun_mk (st := s_law_figure) l_law_figure c_law_figure k_law_figure
  have b_law_figure := F_law_figure.binds (ps := ["_law_word"]) fun _ _ _ _ _ _ us hl => match us, hl with | [_], _ => rfl
  have F_law_line_read := fun_mk (st := s_law_line_read) l_law_line_read c_law_line_read k_law_line_read
  have b_law_line_read := F_law_line_read.binds (ps := ["_law_line"]) fun _ _ _ _ _ _ us hl => match us, hl with | [_], _ => rfl
  have F_law_num := fun_mk (st := s_law_num) l_law_num c_law_num k_law_num
  have b_law_num := F_law_num.binds (ps := ["_law_thing", "_law_low", "_law_high"]) fun _ _ _ _ _ _ us hl => match us, hl with | [_, _, _], _ => rfl
  have F_law_states_ok := fun_mk (st := s_law_states_ok) l_law_states_ok c_law_states_ok k_law_states_ok
  have b_law_states_ok := F_law_states_ok.binds (ps := ["_law_thing", "_law_wide", "_law_many"]) fun _ _ _ _ _ _ us hl => match us, hl with | [_, _, _], _ => rfl
  have F_law_line_ok := fun_mk (st := s_law_line_ok) l_law_line_ok c_law_line_ok k_law_line_ok
  have b_law_line_ok := F_law_line_ok.binds (ps := ["_law_line", "_law_wide", "_law_many"]) fun _ _ _ _ _ _ us hl => match us, hl with | [_, _, _], _ => rfl
  have F_law_first_wrong := fun_mk (st := s_law_first_wrong) l_law_first_wrong c_law_first_wrong k_law_first_wrong
  have b_law_first_wrong := F_law_first_wrong.binds (ps := ["_law_table_here"]) fun _ _ _ _ _ _ us hl => match us, hl with | [_], _ => rfl
  have F_law_read := fun_mk (st := s_law_read) l_law_read c_law_read k_law_read
  have b_law_read := F_law_read.binds (ps := ["_law_sheet_here"]) fun _ _ _ _ _ _ us hl => match us, hl with | [_], _ => rfl
  have F_law_pick := fun_mk (st := s_law_pick) l_law_pick c_law_pick k_law_pick
  have b_law_pick := F_law_pick.binds (ps := ["_law_jar_here", "_law_many"]) fun _ _ _ _ _ _ us hl => match us, hl with | [_, _], _ => rfl
  have F_law_table := fun_mk (st := s_law_table) l_law_table c_law_table k_law_table
  have b_law_table := F_law_table.binds (ps := ["_law_jar_here", "_law_most"]) fun _ _ _ _ _ _ us hl => match us, hl with | [_, _], _ => rfl
  have F_law_of := fun_mk (st := s_law_of) l_law_of c_law_of k_law_of
  have b_law_of := F_law_of.binds (ps := ["_law_jar_here", "_law_menu"]) fun _ _ _ _ _ _ us hl => match us, hl with | [_, _], _ => rfl
  have F_law_bent := fun_mk (st := s_law_bent) l_law_bent c_law_bent k_law_bent
  have b_law_bent := F_law_bent.binds (ps := ["_law_jar_here", "_law_sheet_here", "_law_words"]) fun _ _ _ _ _ _ us hl => match us, hl with | [_, _, _], _ => rfl
  have F_read_number := fun_mk (st := s_read_number) l_read_number c_read_number k_read_number
  have b_read_number := F_read_number.binds (ps := ["word"]) fun _ _ _ _ _ _ us hl => match us, hl with | [_], _ => rfl
  have F_read_states := fun_mk (st := s_read_states) l_read_states c_read_states k_read_states
  have b_read_states := F_read_states.binds (ps := ["word"]) fun _ _ _ _ _ _ us hl => match us, hl with | [_], _ => rfl
  have F_read_line := fun_mk (st := s_read_line) l_read_line c_read_line k_read_line
  have b_read_line := F_read_line.binds (ps := ["line"]) fun _ _ _ _ _ _ us hl => match us, hl with | [_], _ => rfl
  have F_ways_of := fun_mk (st := s_ways_of) l_ways_of c_ways_of k_ways_of
  have b_ways_of := F_ways_of.binds (ps := ["value"]) fun _ _ _ _ _ _ us hl => match us, hl with | [_], _ => rfl
  have F_is_integer := fun_mk (st := s_is_integer) l_is_integer c_is_integer k_is_integer
  have b_is_integer := F_is_integer.binds (ps := ["value"]) fun _ _ _ _ _ _ us hl => match us, hl with | [_], _ => rfl
  have F_is_within := fun_mk (st := s_is_within) l_is_within c_is_within k_is_within
  have b_is_within := F_is_within.binds (ps := ["value", "least", "most"]) fun _ _ _ _ _ _ us hl => match us, hl with | [_, _, _], _ => rfl
  have F_are_states := fun_mk (st := s_are_states) l_are_states c_are_states k_are_states
  have b_are_states := F_are_states.binds (ps := ["value", "ways", "many"]) fun _ _ _ _ _ _ us hl => match us, hl with | [_, _, _], _ => rfl
  have F_is_line := fun_mk (st := s_is_line) l_is_line c_is_line k_is_line
  have b_is_line := F_is_line.binds (ps := ["value", "ways", "many"]) fun _ _ _ _ _ _ us hl => match us, hl with | [_, _, _], _ => rfl
  have F_wrong_line := fun_mk (st := s_wrong_line) l_wrong_line c_wrong_line k_wrong_line
  have b_wrong_line := F_wrong_line.binds (ps := ["rows"]) fun _ _ _ _ _ _ us hl => match us, hl with | [_], _ => rfl
  have F_read_keeper := fun_mk (st := s_read_keeper) l_read_keeper c_read_keeper k_read_keeper
  have b_read_keeper := F_read_keeper.binds (ps := ["text"]) fun _ _ _ _ _ _ us hl => match us, hl with | [_], _ => rfl
  have F_Keeper__init := fun_mk (st := s_Keeper__init) l_Keeper__init c_Keeper__init k_Keeper__init
  have b_Keeper__init := F_Keeper__init.binds (ps := ["self", "rows"]) fun _ _ _ _ _ _ us hl => match us, hl with | [_, _], _ => rfl
  have F_Keeper_read := fun_mk (st := s_Keeper_read) l_Keeper_read c_Keeper_read k_Keeper_read
  have b_Keeper_read := F_Keeper_read.binds (ps := ["cls", "text"]) fun _ _ _ _ _ _ us hl => match us, hl with | [_, _], _ => rfl
  have F_Keeper__str := fun_mk (st := s_Keeper__str) l_Keeper__str c_Keeper__str k_Keeper__str
  have b_Keeper__str := F_Keeper__str.binds (ps := ["self"]) fun _ _ _ _ _ _ us hl => match us, hl with | [_], _ => rfl
  have F_Keeper_rows := fun_mk (st := s_Keeper_rows) l_Keeper_rows c_Keeper_rows k_Keeper_rows
  have b_Keeper_rows := F_Keeper_rows.binds (ps := ["self"]) fun _ _ _ _ _ _ us hl => match us, hl with | [_], _ => rfl
  have F_law_outcome := fun_mk (st := s_law_outcome) l_law_outcome c_law_outcome k_law_outcome
  have b_law_outcome := F_law_outcome.binds (ps := ["_law_sheet_here"]) fun _ _ _ _ _ _ us hl => match us, hl with | [_], _ => rfl
  have F_law_right := fun_mk (st := s_law_right) l_law_right c_law_right k_law_right
  have b_law_right := F_law_right.binds (ps := ["_law_jar_here"]) fun _ _ _ _ _ _ us hl => match us, hl with | [_], _ => rfl
  have F_law_jar := fun_mk (st := s_law_jar) l_law_jar c_law_jar k_law_jar
  have b_law_jar := F_law_jar.binds (ps := ["_law_cells", "_law_lap"]) fun _ _ _ _ _ _ us hl => match us, hl with | [_, _], _ => rfl
  have F_law := fun_mk (st := s_law) l_law c_law k_law
  refine ⟨PySem.W.fnOf "law" "law" (defArgs s_law) (defBody s_law) (defScope s_law) .none kV_law dc_law pm_law an_law cd_law ct_law, fun s v => .of_eq rfl, fun base _ _ => ?_⟩
  have ok__law_sheet := ok_law_sheet (P := l.prog) (w := w) (base := base) F_law_sheet T
  have D_law_sheet : DefAt l.prog w K mg base 1 "_law_sheet" ["_law_table_here"] (spL K 1 (w_law_sheet K c_InvalidText c_Keeper)) := ⟨_, _, PySem.W.mg_of X G a_law_sheet, k_law_sheet, ok__law_sheet, b_law_sheet⟩
  have ok__law_figure := ok_law_figure (P := l.prog) (w := w) (base := base) F_law_figure T
  have D_law_figure : DefAt l.prog w K mg base 1 "_law_figure" ["_law_word"] (spL K 1 (w_law_figure K c_InvalidText c_Keeper)) := ⟨_, _, PySem.W.mg_of X G a_law_figure, k_law_figure, ok__law_figure, b_law_figure⟩
  have ok__law_line_read := ok_law_line_read (P := l.prog) (w := w) (base := base) F_law_line_read T D_law_figure
  have D_law_line_read : DefAt l.prog w K mg base 2 "_law_line_read" ["_law_line"] (spL K 1 (w_law_line_read K c_InvalidText c_Keeper)) := ⟨_, _, PySem.W.mg_of X G a_law_line_read, k_law_line_read, ok__law_line_read, b_law_line_read⟩
  have ok__law_num := ok_law_num (P := l.prog) (w := w) (base := base) F_law_num T
  have D_law_num : DefAt l.prog w K mg base 1 "_law_num" ["_law_thing", "_law_low", "_law_high"] (spL K 3 (w_law_num K c_InvalidText c_Keeper)) := ⟨_, _, PySem.W.mg_of X G a_law_num, k_law_num, ok__law_num, b_law_num⟩
  have ok__law_states_ok := ok_law_states_ok (P := l.prog) (w := w) (base := base) F_law_states_ok T D_law_num
  have D_law_states_ok : DefAt l.prog w K mg base 2 "_law_states_ok" ["_law_thing", "_law_wide", "_law_many"] (spL K 3 (w_law_states_ok K c_InvalidText c_Keeper)) := ⟨_, _, PySem.W.mg_of X G a_law_states_ok, k_law_states_ok, ok__law_states_ok, b_law_states_ok⟩
  have ok__law_line_ok := ok_law_line_ok (P := l.prog) (w := w) (base := base) F_law_line_ok T D_law_num D_law_states_ok
  have D_law_line_ok : DefAt l.prog w K mg base 3 "_law_line_ok" ["_law_line", "_law_wide", "_law_many"] (spL K 3 (w_law_line_ok K c_InvalidText c_Keeper)) := ⟨_, _, PySem.W.mg_of X G a_law_line_ok, k_law_line_ok, ok__law_line_ok, b_law_line_ok⟩
  have ok__law_first_wrong := ok_law_first_wrong (P := l.prog) (w := w) (base := base) F_law_first_wrong T D_law_line_ok
  have D_law_first_wrong : DefAt l.prog w K mg base 4 "_law_first_wrong" ["_law_table_here"] (spL K 1 (w_law_first_wrong K c_InvalidText c_Keeper)) := ⟨_, _, PySem.W.mg_of X G a_law_first_wrong, k_law_first_wrong, ok__law_first_wrong, b_law_first_wrong⟩
  have ok__law_read := ok_law_read (P := l.prog) (w := w) (base := base) F_law_read T D_law_line_read D_law_first_wrong
  have D_law_read : DefAt l.prog w K mg base 5 "_law_read" ["_law_sheet_here"] (spL K 1 (w_law_read K c_InvalidText c_Keeper)) := ⟨_, _, PySem.W.mg_of X G a_law_read, k_law_read, ok__law_read, b_law_read⟩
  have ok__law_pick := ok_law_pick (P := l.prog) (w := w) (base := base) F_law_pick T
  have D_law_pick : DefAt l.prog w K mg base 1 "_law_pick" ["_law_jar_here", "_law_many"] (spL K 2 (w_law_pick K c_InvalidText c_Keeper)) := ⟨_, _, PySem.W.mg_of X G a_law_pick, k_law_pick, ok__law_pick, b_law_pick⟩
  have ok__law_table := ok_law_table (P := l.prog) (w := w) (base := base) F_law_table T D_law_pick
  have D_law_table : DefAt l.prog w K mg base 2 "_law_table" ["_law_jar_here", "_law_most"] (spL K 2 (w_law_table K c_InvalidText c_Keeper)) := ⟨_, _, PySem.W.mg_of X G a_law_table, k_law_table, ok__law_table, b_law_table⟩
  have ok__law_of := ok_law_of (P := l.prog) (w := w) (base := base) F_law_of T D_law_pick
  have D_law_of : DefAt l.prog w K mg base 2 "_law_of" ["_law_jar_here", "_law_menu"] (spL K 2 (w_law_of K c_InvalidText c_Keeper)) := ⟨_, _, PySem.W.mg_of X G a_law_of, k_law_of, ok__law_of, b_law_of⟩
  have ok__law_bent := ok_law_bent (P := l.prog) (w := w) (base := base) F_law_bent T D_law_pick D_law_of
  have D_law_bent : DefAt l.prog w K mg base 3 "_law_bent" ["_law_jar_here", "_law_sheet_here", "_law_words"] (spL K 3 (w_law_bent K c_InvalidText c_Keeper)) := ⟨_, _, PySem.W.mg_of X G a_law_bent, k_law_bent, ok__law_bent, b_law_bent⟩
  have ok__read_number := ok_read_number (P := l.prog) (w := w) (base := base) F_read_number T
  have D_read_number : DefAt l.prog w K mg base 1 "read_number" ["word"] (spL K 1 (w_read_number K c_InvalidText c_Keeper)) := ⟨_, _, PySem.W.mg_of X G a_read_number, k_read_number, ok__read_number, b_read_number⟩
  have ok__read_states := ok_read_states (P := l.prog) (w := w) (base := base) F_read_states T D_read_number
  have D_read_states : DefAt l.prog w K mg base 2 "read_states" ["word"] (spL K 1 (w_read_states K c_InvalidText c_Keeper)) := ⟨_, _, PySem.W.mg_of X G a_read_states, k_read_states, ok__read_states, b_read_states⟩
  have ok__read_line := ok_read_line (P := l.prog) (w := w) (base := base) F_read_line T D_read_states D_read_number
  have D_read_line : DefAt l.prog w K mg base 3 "read_line" ["line"] (spL K 1 (w_read_line K c_InvalidText c_Keeper)) := ⟨_, _, PySem.W.mg_of X G a_read_line, k_read_line, ok__read_line, b_read_line⟩
  have ok__ways_of := ok_ways_of (P := l.prog) (w := w) (base := base) F_ways_of T
  have D_ways_of : DefAt l.prog w K mg base 1 "ways_of" ["value"] (spL K 1 (w_ways_of K c_InvalidText c_Keeper)) := ⟨_, _, PySem.W.mg_of X G a_ways_of, k_ways_of, ok__ways_of, b_ways_of⟩
  have ok__is_integer := ok_is_integer (P := l.prog) (w := w) (base := base) F_is_integer T
  have D_is_integer : DefAt l.prog w K mg base 1 "is_integer" ["value"] (spL K 1 (w_is_integer K c_InvalidText c_Keeper)) := ⟨_, _, PySem.W.mg_of X G a_is_integer, k_is_integer, ok__is_integer, b_is_integer⟩
  have ok__is_within := ok_is_within (P := l.prog) (w := w) (base := base) F_is_within T D_is_integer
  have D_is_within : DefAt l.prog w K mg base 2 "is_within" ["value", "least", "most"] (spL K 3 (w_is_within K c_InvalidText c_Keeper)) := ⟨_, _, PySem.W.mg_of X G a_is_within, k_is_within, ok__is_within, b_is_within⟩
  have ok__are_states := ok_are_states (P := l.prog) (w := w) (base := base) F_are_states T D_is_within
  have D_are_states : DefAt l.prog w K mg base 3 "are_states" ["value", "ways", "many"] (spL K 3 (w_are_states K c_InvalidText c_Keeper)) := ⟨_, _, PySem.W.mg_of X G a_are_states, k_are_states, ok__are_states, b_are_states⟩
  have ok__is_line := ok_is_line (P := l.prog) (w := w) (base := base) F_is_line T D_is_within D_are_states
  have D_is_line : DefAt l.prog w K mg base 4 "is_line" ["value", "ways", "many"] (spL K 3 (w_is_line K c_InvalidText c_Keeper)) := ⟨_, _, PySem.W.mg_of X G a_is_line, k_is_line, ok__is_line, b_is_line⟩
  have ok__wrong_line := ok_wrong_line (P := l.prog) (w := w) (base := base) F_wrong_line T D_ways_of D_is_line
  have D_wrong_line : DefAt l.prog w K mg base 5 "wrong_line" ["rows"] (spL K 1 (w_wrong_line K c_InvalidText c_Keeper)) := ⟨_, _, PySem.W.mg_of X G a_wrong_line, k_wrong_line, ok__wrong_line, b_wrong_line⟩
  have ok__read_keeper := ok_read_keeper (P := l.prog) (w := w) (base := base) F_read_keeper T D_read_line D_wrong_line
  have D_read_keeper : DefAt l.prog w K mg base 6 "read_keeper" ["text"] (spL K 1 (w_read_keeper K c_InvalidText c_Keeper)) := ⟨_, _, PySem.W.mg_of X G a_read_keeper, k_read_keeper, ok__read_keeper, b_read_keeper⟩
  have ok__Keeper__init := ok_Keeper__init (P := l.prog) (w := w) (base := base) F_Keeper__init T D_wrong_line
  have D_Keeper__init : MakeAt l.prog w K mg base 6 "Keeper" c_Keeper ["self", "rows"] (spL K 2 (w_Keeper__init K c_InvalidText c_Keeper)) := ⟨_, _, PySem.W.mg_of X G aC_Keeper, ⟨mk_Keeper, a_Keeper__init, i_Keeper__init, kc_Keeper⟩, ok__Keeper__init, b_Keeper__init⟩
  have ok__Keeper_read := ok_Keeper_read (P := l.prog) (w := w) (base := base) F_Keeper_read T D_read_keeper D_Keeper__init
  have D_Keeper_read : CMetAt l.prog w K mg base 8 c_Keeper "read" ["cls", "text"] (spL K 2 (w_Keeper_read K c_InvalidText c_Keeper)) := ⟨_, _, _, _, ⟨cr_Keeper, cg_Keeper⟩, ⟨a_Keeper_read, ⟨_, r_Keeper_read⟩, n_Keeper_read⟩, ok__Keeper_read, b_Keeper_read⟩
  have ok__Keeper__str := ok_Keeper__str (P := l.prog) (w := w) (base := base) F_Keeper__str T
  have D_Keeper__str : MethAt l.prog w K mg base 1 c_Keeper "__str__" (spL K 1 (w_Keeper__str K c_InvalidText c_Keeper)) := ⟨_, _, _, cl_Keeper, a_Keeper__str, i_Keeper__str, ok__Keeper__str, b_Keeper__str⟩
  have ok__Keeper_rows := ok_Keeper_rows (P := l.prog) (w := w) (base := base) F_Keeper_rows T
  have D_Keeper_rows : PropAt l.prog w K mg base 1 c_Keeper "rows" (spL K 1 (w_Keeper_rows K c_InvalidText c_Keeper)) := ⟨_, _, _, _, cl_Keeper, ⟨a_Keeper_rows, g_Keeper_rows, t_Keeper_rows, _, r_Keeper_rows⟩, ok__Keeper_rows, b_Keeper_rows⟩
  have ok__law_outcome := ok_law_outcome (P := l.prog) (w := w) (base := base) F_law_outcome T D_Keeper_read D_Keeper__str D_Keeper_rows
  have D_law_outcome : DefAt l.prog w K mg base 9 "_law_outcome" ["_law_sheet_here"] (spL K 1 (w_law_outcome K c_InvalidText c_Keeper)) := ⟨_, _, PySem.W.mg_of X G a_law_outcome, k_law_outcome, ok__law_outcome, b_law_outcome⟩
  have ok__law_right := ok_law_right (P := l.prog) (w := w) (base := base) F_law_right T D_law_sheet D_law_table D_law_bent D_law_read D_law_outcome
  have D_law_right : DefAt l.prog w K mg base 10 "_law_right" ["_law_jar_here"] (spL K 1 (w_law_right K c_InvalidText c_Keeper)) := ⟨_, _, PySem.W.mg_of X G a_law_right, k_law_right, ok__law_right, b_law_right⟩
  have ok__law_jar := ok_law_jar (P := l.prog) (w := w) (base := base) F_law_jar T
  have D_law_jar : DefAt l.prog w K mg base 1 "_law_jar" ["_law_cells", "_law_lap"] (spC K 2 (w_law_jar K c_InvalidText c_Keeper)) := ⟨_, _, PySem.W.mg_of X G a_law_jar, k_law_jar, ok__law_jar, b_law_jar⟩
  have ok__law := ok_law (P := l.prog) (w := w) (base := base) F_law T D_law_right D_law_jar
  have Fx : Facts K c_InvalidText c_Keeper := ⟨⟨cl_Keeper, fl_Keeper_lines⟩, in_Keeper, te_InvalidText⟩
  exact ⟨fun vs H Q E h => ok__law.len vs H Q E (h c_InvalidText c_Keeper Fx), fun A outer s H args us vs Q E hg hr e0 bt rv h => ok__law.run A outer s H args us vs Q E hg hr e0 bt rv (h c_InvalidText c_Keeper Fx)⟩
theorem rep_nums {K : PySem.W.Frag} {F : Hp} : ∀ cs : List Int, RepL K F (cs.map V.int) (cs.map D.int)
  | [] => .nil
  | z :: cs => .cons (.int z) (rep_nums cs)
theorem law_end {K : PySem.W.Frag} {cT cp : Addr} {ns : List Int} {R : Value → List (Str × D) → List Sl → Prop} (Fx : Facts K cT cp) (hl : ns.length ≤ 63) : w_law K cT cp [.v (.lsf (ns.map D.int))] (fun d _ => d = .bl true) R := law_spec Fx.1 Fx.2.2 hl rfl
theorem walk {l : PySem.W.OpenLaw} {q : Program} {loose : List Str} {XP : (Str → Option Value) → Heap → Prop} {YP : World → Heap → Prop} {d : DefRec} {K : Params → PySem.W.Frag} (hn : l.most = some 63) (hdf : d.params.defaults = [])
    (hY : ∀ (w : World) (h : Heap), YP w h → (K w.params).In h)
    (F : ∀ (w : World) (mg : Str → Option Value) (fa : Addr) (h : Heap), (K w.params).In h → h.Ns mainGlobals mg → mg d.name = some (.ref fa) →
      ∃ fd : FuncData, (∀ (s : Shared) (u : Value), BindsTo s fd ⟨[u], []⟩ [("_law_cells", u)]) ∧ ∀ base : Heap, (K w.params).In base → base.Ns mainGlobals mg → FnG l.prog w (K w.params) mg base (L2.CX l.prog w) 11 fa fd ["_law_cells"] (spX (K w.params))) :
    PySem.W.WalkO q loose XP YP l.row.toRowW d [] (fun f vs => PySem.call f vs) :=
  walkG (n := 63) (k := 11) (x := "_law_cells") (CX := fun w => L2.CX l.prog w) (sp := fun w => spX (K w.params)) hn (by decide) hdf ⟨rfl, by decide, by decide⟩ hY F
    (fun w H a ns hl hO hS c_InvalidText c_Keeper Fx => ⟨rfl, H, [.v (.lsf (ns.map D.int))], [[]], fun d _ => d = .bl true, fun _ _ _ => False, ent0 hO rfl, .v (.lsf hS (rep_nums ns)) .nil, law_end Fx hl, fun d as' e v H' F' fps' _ _ rep => (by cases e; cases rep; rfl), fun _ _ _ z => z.elim⟩)
    fun w H s e s' z => cx_none z
end K16
set_option linter.all false
set_option maxRecDepth 100000
open PySem PySem.W PyProof.Rows in
set_option maxRecDepth 100000 in
set_option maxHeartbeats 0 in
theorem PySem.Challenge.cw_shelfwithin_k16_whole_texts_of_keepers_j_holds : PySem.Challenge.rw_shelfwithin_k16_whole_texts_of_keepers_j.Holds := by
  w_on; o_law; k_head; (case hw => w_witness2)
  k_fill
  refine K16.walk (l := PySem.Challenge.rw_shelfwithin_k16_whole_texts_of_keepers_j) rfl rfl (fun w h Y => PySem.W.kIn_of Y) ?F
  case F =>
    intro w mg fa h KX G hmg
    refine' K16.all_mk KX G hmg ?aC_InvalidText ?aC_Keeper ?a_law_sheet ?l_law_sheet ?c_law_sheet ?k_law_sheet ?a_law_figure ?l_law_figure ?c_law_figure ?k_law_figure ?a_law_line_read ?l_law_line_read ?c_law_line_read ?k_law_line_read ?a_law_num ?l_law_num ?c_law_num ?k_law_num ?a_law_states_ok ?l_law_states_ok ?c_law_states_ok ?k_law_states_ok ?a_law_line_ok ?l_law_line_ok ?c_law_line_ok ?k_law_line_ok ?a_law_first_wrong ?l_law_first_wrong ?c_law_first_wrong ?k_law_first_wrong ?a_law_read ?l_law_read ?c_law_read ?k_law_read ?a_law_pick ?l_law_pick ?c_law_pick ?k_law_pick ?a_law_table ?l_law_table ?c_law_table ?k_law_table ?a_law_of ?l_law_of ?c_law_of ?k_law_of ?a_law_bent ?l_law_bent ?c_law_bent ?k_law_bent ?a_read_number ?l_read_number ?c_read_number ?k_read_number ?a_read_states ?l_read_states ?c_read_states ?k_read_states ?a_read_line ?l_read_line ?c_read_line ?k_read_line ?a_ways_of ?l_ways_of ?c_ways_of ?k_ways_of ?a_is_integer ?l_is_integer ?c_is_integer ?k_is_integer ?a_is_within ?l_is_within ?c_is_within ?k_is_within ?a_are_states ?l_are_states ?c_are_states ?k_are_states ?a_is_line ?l_is_line ?c_is_line ?k_is_line ?a_wrong_line ?l_wrong_line ?c_wrong_line ?k_wrong_line ?a_read_keeper ?l_read_keeper ?c_read_keeper ?k_read_keeper ?a_Keeper__init ?i_Keeper__init ?l_Keeper__init ?c_Keeper__init ?k_Keeper__init ?a_Keeper_read ?r_Keeper_read ?n_Keeper_read ?cr_Keeper ?cg_Keeper ?l_Keeper_read ?c_Keeper_read ?k_Keeper_read ?a_Keeper__str ?i_Keeper__str ?l_Keeper__str ?c_Keeper__str ?k_Keeper__str ?a_Keeper_rows ?g_Keeper_rows ?t_Keeper_rows ?r_Keeper_rows ?l_Keeper_rows ?c_Keeper_rows ?k_Keeper_rows ?a_law_outcome ?l_law_outcome ?c_law_outcome ?k_law_outcome ?a_law_right ?l_law_right ?c_law_right ?k_law_right ?a_law_jar ?l_law_jar ?c_law_jar ?k_law_jar ?a_law ?l_law ?c_law ?k_law ?xL_InvalidText ?xs_InvalidText ?xg_InvalidText ?xh_InvalidText ?xn_InvalidText ?xi_InvalidText ?xt_InvalidText ?xl_InvalidText ?xc_InvalidText ?xk_InvalidText ?xe_InvalidText ?xy_InvalidText ?xd_InvalidText ?xz_InvalidText ?xw_InvalidText ?pg_Keeper ?hd_Keeper ?po_Keeper ?sa_Keeper ?mk_Keeper ?kc_Keeper ?ha_Keeper ?hn_Keeper ?ht_Keeper ?hm_Keeper ?fl_Keeper_lines ?z_n_str ?z_n_len ?z_n_int ?z_n_tuple ?z_n_isinstance ?z_n_bool ?z_n_range ?z_n_divmod ?z_s_DIGITS ?z_n_all ?z_i_MOST_WAYS ?z_n_enumerate ?z_i_MOST_STATES ?z_n_repr ?z_n_abs ?z_n_min ?z_n_max
    (case aC_InvalidText => k_is)
    (case aC_Keeper => k_is)
    (case a_law_sheet => k_is)
    (case l_law_sheet => k_is)
    (case c_law_sheet => k_is)
    (case k_law_sheet => k_is)
    (case a_law_figure => k_is)
    (case l_law_figure => k_is)
    (case c_law_figure => k_is)
    (case k_law_figure => k_is)
    (case a_law_line_read => k_is)
    (case l_law_line_read => k_is)
    (case c_law_line_read => k_is)
    (case k_law_line_read => k_is)
    (case a_law_num => k_is)
    (case l_law_num => k_is)
    (case c_law_num => k_is)
    (case k_law_num => k_is)
    (case a_law_states_ok => k_is)
    (case l_law_states_ok => k_is)
    (case c_law_states_ok => k_is)
    (case k_law_states_ok => k_is)
    (case a_law_line_ok => k_is)
    (case l_law_line_ok => k_is)
    (case c_law_line_ok => k_is)
    (case k_law_line_ok => k_is)
    (case a_law_first_wrong => k_is)
    (case l_law_first_wrong => k_is)
    (case c_law_first_wrong => k_is)
    (case k_law_first_wrong => k_is)
    (case a_law_read => k_is)
    (case l_law_read => k_is)
    (case c_law_read => k_is)
    (case k_law_read => k_is)
    (case a_law_pick => k_is)
    (case l_law_pick => k_is)
    (case c_law_pick => k_is)
    (case k_law_pick => k_is)
    (case a_law_table => k_is)
    (case l_law_table => k_is)
    (case c_law_table => k_is)
    (case k_law_table => k_is)
    (case a_law_of => k_is)
    (case l_law_of => k_is)
    (case c_law_of => k_is)
    (case k_law_of => k_is)
    (case a_law_bent => k_is)
    (case l_law_bent => k_is)
    (case c_law_bent => k_is)
    (case k_law_bent => k_is)
    (case a_read_number => k_is)
    (case l_read_number => k_is)
    (case c_read_number => k_is)
    (case k_read_number => k_is)
    (case a_read_states => k_is)
    (case l_read_states => k_is)
    (case c_read_states => k_is)
    (case k_read_states => k_is)
    (case a_read_line => k_is)
    (case l_read_line => k_is)
    (case c_read_line => k_is)
    (case k_read_line => k_is)
    (case a_ways_of => k_is)
    (case l_ways_of => k_is)
    (case c_ways_of => k_is)
    (case k_ways_of => k_is)
    (case a_is_integer => k_is)
    (case l_is_integer => k_is)
    (case c_is_integer => k_is)
    (case k_is_integer => k_is)
    (case a_is_within => k_is)
    (case l_is_within => k_is)
    (case c_is_within => k_is)
    (case k_is_within => k_is)
    (case a_are_states => k_is)
    (case l_are_states => k_is)
    (case c_are_states => k_is)
    (case k_are_states => k_is)
    (case a_is_line => k_is)
    (case l_is_line => k_is)
    (case c_is_line => k_is)
    (case k_is_line => k_is)
    (case a_wrong_line => k_is)
    (case l_wrong_line => k_is)
    (case c_wrong_line => k_is)
    (case k_wrong_line => k_is)
    (case a_read_keeper => k_is)
    (case l_read_keeper => k_is)
    (case c_read_keeper => k_is)
    (case k_read_keeper => k_is)
    (case a_Keeper__init => k_is)
    (case i_Keeper__init => k_is)
    (case l_Keeper__init => k_is)
    (case c_Keeper__init => k_is)
    (case k_Keeper__init => k_is)
    (case a_Keeper_read => k_is)
    (case r_Keeper_read => k_is)
    (case n_Keeper_read => k_is)
    (case cr_Keeper => k_is)
    (case cg_Keeper => k_is)
    (case l_Keeper_read => k_is)
    (case c_Keeper_read => k_is)
    (case k_Keeper_read => k_is)
    (case a_Keeper__str => k_is)
    (case i_Keeper__str => k_is)
    (case l_Keeper__str => k_is)
    (case c_Keeper__str => k_is)
    (case k_Keeper__str => k_is)
    (case a_Keeper_rows => k_is)
    (case g_Keeper_rows => k_is)
    (case t_Keeper_rows => k_is)
    (case r_Keeper_rows => k_is)
    (case l_Keeper_rows => k_is)
    (case c_Keeper_rows => k_is)
    (case k_Keeper_rows => k_is)
    (case a_law_outcome => k_is)
    (case l_law_outcome => k_is)
    (case c_law_outcome => k_is)
    (case k_law_outcome => k_is)
    (case a_law_right => k_is)
    (case l_law_right => k_is)
    (case c_law_right => k_is)
    (case k_law_right => k_is)
    (case a_law_jar => k_is)
    (case l_law_jar => k_is)
    (case c_law_jar => k_is)
    (case k_law_jar => k_is)
    (case a_law => k_is)
    (case l_law => k_is)
    (case c_law => k_is)
    (case k_law => k_is)
    (case xL_InvalidText => k_is)
    (case xs_InvalidText => k_is)
    (case xg_InvalidText => k_is)
    (case xh_InvalidText => k_is)
    (case xn_InvalidText => k_is)
    (case xi_InvalidText => k_is)
    (case xt_InvalidText => k_is)
    (case xl_InvalidText => k_is)
    (case xc_InvalidText => k_is)
    (case xk_InvalidText => k_is)
    (case xe_InvalidText => k_is)
    (case xy_InvalidText => k_is)
    (case xd_InvalidText => k_is)
    (case xz_InvalidText => k_is)
    (case xw_InvalidText => k_is)
    (case pg_Keeper => k_is)
    (case hd_Keeper => k_is)
    (case po_Keeper => k_is)
    (case sa_Keeper => k_is)
    (case mk_Keeper => k_is)
    (case kc_Keeper => k_is)
    (case ha_Keeper => k_is)
    (case hn_Keeper => k_is)
    (case ht_Keeper => k_is)
    (case hm_Keeper => k_is)
    (case fl_Keeper_lines => k_is)
    (case z_n_str => k_is)
    (case z_n_len => k_is)
    (case z_n_int => k_is)
    (case z_n_tuple => k_is)
    (case z_n_isinstance => k_is)
    (case z_n_bool => k_is)
    (case z_n_range => k_is)
    (case z_n_divmod => k_is)
    (case z_s_DIGITS => k_is)
    (case z_n_all => k_is)
    (case z_i_MOST_WAYS => k_is)
    (case z_n_enumerate => k_is)
    (case z_i_MOST_STATES => k_is)
    (case z_n_repr => k_is)
    (case z_n_abs => k_is)
    (case z_n_min => k_is)
    (case z_n_max => k_is)
